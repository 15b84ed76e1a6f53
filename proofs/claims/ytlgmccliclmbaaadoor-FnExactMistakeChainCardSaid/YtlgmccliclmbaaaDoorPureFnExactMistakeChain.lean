/- The program's MistakeChain returns what the reference's MistakeChain returns, for all arguments. No condition. -/
import Derived.Test.YtlgmccliclmbaaaDoorPFnExactMistakeChainx10
namespace Go.Proofs.YtlgmccliclmbaaaDoor.Pure
open Go.RowKit Go.Proofs.YtlgmccliclmbaaaDoor.PFnExactMistakeChain Go.Proofs.YtlgmccliclmbaaaDoorW.PrintWords Go.Proofs.YtlgmccliclmbaaaDoorW.PrintLast Go.Proofs.YtlgmccliclmbaaaDoorW.PrintMore
set_option linter.unusedVariables false
set_option linter.unusedSimpArgs false

/-! ### ev -/
/-- With enough rounds, and ever after, g answers r. -/
def Evt {α : Type} (g : Nat → Option α) (r : α) : Prop := ∃ K, ∀ k, K ≤ k → g k = some r
theorem Evt.const {α : Type} (r : α) : Evt (fun _ => some r) r := ⟨0, fun _ _ => rfl⟩
theorem Evt.of_eq {α : Type} {g h : Nat → Option α} {r : α} (e : ∀ k, g k = h k) (H : Evt h r) : Evt g r := by
  obtain ⟨K, hK⟩ := H
  exact ⟨K, fun k hk => (e k).trans (hK k hk)⟩
theorem Evt.bind {α β : Type} {g : Nat → Option β} {h : Nat → β → Option α} {a : β} {r : α} (H1 : Evt g a) (H2 : Evt (fun k => h k a) r) : Evt (fun k => (g k).bind (h k)) r := by
  obtain ⟨K1, h1⟩ := H1
  obtain ⟨K2, h2⟩ := H2
  refine ⟨max K1 K2, fun k hk => ?_⟩
  show (g k).bind (h k) = some r
  rw [h1 k (by omega)]
  exact h2 k (by omega)
theorem Evt.succ {α : Type} {g h : Nat → Option α} {r : α} (e : ∀ k, g (k + 1) = h k) (H : Evt h r) : Evt g r := by
  obtain ⟨K, hK⟩ := H
  refine ⟨K + 1, fun k hk => ?_⟩
  obtain ⟨k, rfl⟩ : ∃ m, k = m + 1 := ⟨k - 1, by omega⟩
  rw [e]
  exact hK k (by omega)
theorem Evt.get {α : Type} {g : Nat → Option α} {r : α} (H : Evt g r) : ∃ k, g k = some r := by
  obtain ⟨K, hK⟩ := H
  exact ⟨K, hK K (Nat.le_refl _)⟩
theorem Evt.get2 {α β : Type} {g : Nat → Option α} {h : Nat → Option β} {r : α} {s : β} (H : Evt g r) (H' : Evt h s) : ∃ k, g k = some r ∧ h k = some s := by
  obtain ⟨K, hK⟩ := H
  obtain ⟨K', hK'⟩ := H'
  exact ⟨max K K', hK _ (by omega), hK' _ (by omega)⟩
theorem Evt.ite_pos {α : Type} {c : Prop} [Decidable c] {g h : Nat → Option α} {r : α} (hc : c) (H : Evt g r) : Evt (fun k => if c then g k else h k) r :=
  H.of_eq (fun k => by rw [if_pos hc])
theorem Evt.ite_neg {α : Type} {c : Prop} [Decidable c] {g h : Nat → Option α} {r : α} (hc : ¬ c) (H : Evt h r) : Evt (fun k => if c then g k else h k) r :=
  H.of_eq (fun k => by rw [if_neg hc])
theorem Evt.pred {α : Type} {g h : Nat → Option α} {r : α} (e : ∀ k, g (k + 1) = h k) (H : Evt g r) : Evt h r := by
  obtain ⟨K, hK⟩ := H
  exact ⟨K, fun k hk => (e k).symm.trans (hK (k + 1) (by omega))⟩

/-! ### mono -/
/-- What is told once is told ever after. -/
theorem Evt.of_mono {α : Type} {g : Nat → Option α} {r : α} (m : ∀ k, LeO (g k) (g (k + 1))) {k0 : Nat} (h : g k0 = some r) : Evt g r := by
  refine ⟨k0, fun k hk => ?_⟩
  obtain ⟨d, rfl⟩ : ∃ d, k = k0 + d := ⟨k - k0, by omega⟩
  clear hk
  induction d with
  | zero => exact h
  | succ d ih => exact m (k0 + d) r ih

/-! ### lists -/
theorem rdOf_get {α : Type} (d : α) (l : List α) (i : Nat) (h : i < l.length) : rdOf d l (i : Int) = l[i] := by
  unfold rdOf
  rw [Int.toNat_natCast, List.getD_eq_getElem?_getD, List.getElem?_eq_getElem h]
  rfl
theorem rd_get (l : List Int) (i : Nat) (h : i < l.length) : rd l (i : Int) = l[i] := by
  unfold rd
  rw [Int.toNat_natCast, List.getD_eq_getElem?_getD, List.getElem?_eq_getElem h]
  rfl
theorem drop_get {α : Type} (l : List α) (i : Nat) (h : i < l.length) : l.drop i = l[i] :: l.drop (i + 1) := by simp
theorem wrap_succ (i : Nat) (h : i < 9223372036854775807) : wrap64 ((i : Int) + 1) = ((i + 1 : Nat) : Int) := by unfold wrap64; omega

/-! ### in -/
theorem in_eq (a b c : Int) : impl_in.f a b c = some (decide (b ≤ a ∧ a ≤ c)) := by
  unfold impl_in.f
  by_cases h : a ≥ b
  · rw [if_pos h]
    simp [show b ≤ a from h]
  · rw [if_neg h]
    simp [show ¬ b ≤ a from h]
theorem l1In_eq (a b c : Int) : spec_l1In.f a b c = some (decide (b ≤ a ∧ a ≤ c)) := by
  unfold spec_l1In.f
  by_cases h : a ≥ b
  · rw [if_pos h]
    simp [show b ≤ a from h]
  · rw [if_neg h]
    simp [show ¬ b ≤ a from h]

/-! ### marks -/
/-- A byte that is a mark. -/
def okc (c : UInt8) : Bool := c == 46 || c == 45
def okMarks (s : ByteArray) (lo hi : Int) : Bool := decide (lo ≤ s.size ∧ (s.size : Int) ≤ hi) && s.data.toList.all okc
theorem size_data (s : ByteArray) : s.data.toList.length = s.size := by rw [Array.length_toList]; rfl
theorem bt_get (s : ByteArray) (i : Nat) (h : i < s.size) : bt s (i : Int) = ((s.data.toList[i]'(by rw [size_data]; exact h)).toNat : Int) := by
  unfold bt
  rw [dif_pos (by simpa using h)]
  simp only [Int.toNat_natCast, Array.getElem_toList]
  rfl
theorem trim_empty (l : List UInt8) : ((Lib.trimS l [46, 45]) = []) ↔ l.all okc = true := by
  have e : ∀ c : UInt8, ([46, 45] : List UInt8).contains c = okc c := fun c => by
    simp [okc, List.contains_cons]
    rfl
  have dw : ∀ l : List UInt8, (l.dropWhile (([46, 45] : List UInt8).contains ·) = []) ↔ l.all okc = true := by
    intro l
    induction l with
    | nil => simp
    | cons c t ih =>
      rw [List.dropWhile_cons, e]
      cases h : okc c with
      | true =>
        simp only [if_true, List.all_cons, h, Bool.true_and]
        exact ih
      | false => simp [h]
  unfold Lib.trimS Lib.trimLeftS Lib.trimRightS
  rw [dw]
  have dwa : ∀ l : List UInt8, (l.dropWhile (([46, 45] : List UInt8).contains ·)).all okc = l.all okc := by
    intro l
    induction l with
    | nil => rfl
    | cons c t ih =>
      rw [List.dropWhile_cons, e]
      cases h : okc c with
      | true =>
        simp only [if_true, List.all_cons, h, Bool.true_and]
        exact ih
      | false => simp
  rw [List.all_reverse, dwa, List.all_reverse]
theorem implAreMarks_eq (s : ByteArray) (lo hi : Int) (hh : hi ≤ 9223372036854775807) : impl_areMarks.f s lo hi = some (okMarks s lo hi) := by
  unfold impl_areMarks.f okMarks
  rw [in_eq]
  simp only [Option.bind_some, decide_eq_true_eq]
  by_cases h : lo ≤ (s.size : Int) ∧ (s.size : Int) ≤ hi
  · rw [if_pos h]
    unfold strings_Trim.f
    rw [if_pos (by omega), if_pos rfl]
    simp only [Option.bind_some, h, and_self, decide_true, Bool.true_and]
    congr 1
    rw [Lib.toList_data]
    have := trim_empty s.data.toList
    cases hb : s.data.toList.all okc with
    | true => simp [this.2 hb]
    | false =>
      have : ¬ Lib.trimS s.data.toList [46, 45] = [] := fun h => by rw [this.1 h] at hb; cases hb
      simpa using this
  · rw [if_neg h]
    simp [h]
theorem drop_cons_ (l : List UInt8) (i : Nat) (h : i < l.length) : l.drop i = l[i] :: l.drop (i + 1) := by simp
/-- The reference's loop from place i on: the marks up to 'hi', then the length. -/
theorem specMarks_l0 (s : ByteArray) (lo hi : Int) (h0 : 0 ≤ hi) (hh : hi ≤ 1000000) (d : Nat) : ∀ (k i : Nat), i ≤ s.size → (i : Int) ≤ hi + 1 → (hi + 1 - i).toNat = d → 2 * d + 3 ≤ k →
    spec_l2Marks.l0 k s lo hi i = some (((s.data.toList.drop i).take d).all okc && decide (lo ≤ s.size ∧ (s.size : Int) ≤ hi)) := by
  induction d with
  | zero =>
    intro k i hi1 hi2 hd hk
    obtain ⟨k, rfl⟩ : ∃ m, k = m + 2 := ⟨k - 2, by omega⟩
    have e : (i : Int) = hi + 1 := by omega
    simp only [spec_l2Marks.l0]
    have hj : spec_l2Marks.j1 (k + 1) s lo hi i false = some (decide (lo ≤ s.size ∧ (s.size : Int) ≤ hi)) := by
      simp only [spec_l2Marks.j1]
      rw [if_neg (by simp), l1In_eq]
      rfl
    by_cases hlt : (i : Int) < (s.size : Int)
    · rw [if_pos hlt, show decide ((i : Int) ≤ hi) = false from decide_eq_false (by omega), hj]
      simp
    · rw [if_neg hlt, hj]
      simp
  | succ d ih =>
    intro k i hi1 hi2 hd hk
    obtain ⟨k, rfl⟩ : ∃ m, k = m + 2 := ⟨k - 2, by omega⟩
    simp only [spec_l2Marks.l0]
    by_cases hlt : (i : Int) < (s.size : Int)
    · rw [if_pos hlt, show decide ((i : Int) ≤ hi) = true from decide_eq_true (by omega)]
      simp only [spec_l2Marks.j1]
      rw [if_pos trivial, if_pos (by omega), if_pos hlt]
      have hl : i < s.data.toList.length := by rw [size_data]; omega
      rw [drop_cons_ _ _ hl, List.take_succ_cons, List.all_cons, bt_get s i (by omega)]
      have hw : wrap64 ((i : Int) + 1) = ((i + 1 : Nat) : Int) := by unfold wrap64; omega
      rw [hw]
      generalize s.data.toList[i] = c
      have hc : ∀ n : Nat, n < 256 → (((c.toNat : Int) = (n : Int)) ↔ c = UInt8.ofNat n) := by
        intro n hn
        constructor
        · intro h
          apply UInt8.toNat_inj.1
          simp
          omega
        · rintro rfl
          simp
          omega
      have c46 : ((c.toNat : Int) = 46) ↔ c = 46 := hc 46 (by omega)
      have c45 : ((c.toNat : Int) = 45) ↔ c = 45 := hc 45 (by omega)
      by_cases h46 : c = 46
      · subst h46
        rw [if_pos (by rfl), ih _ _ (by omega) (by omega) (by omega) (by omega)]
        rfl
      · rw [if_neg (fun h => h46 (c46.1 h))]
        by_cases h45 : c = 45
        · subst h45
          rw [if_pos (by rfl), ih _ _ (by omega) (by omega) (by omega) (by omega)]
          rfl
        · rw [if_neg (fun h => h45 (c45.1 h))]
          simp [okc, h46, h45]
    · rw [if_neg hlt]
      have hj : spec_l2Marks.j1 (k + 1) s lo hi i false = some (decide (lo ≤ s.size ∧ (s.size : Int) ≤ hi)) := by
        simp only [spec_l2Marks.j1]
        rw [if_neg (by simp), l1In_eq]
        rfl
      rw [hj, List.drop_eq_nil_of_le (by rw [size_data]; omega)]
      simp
theorem specMarks_eq (s : ByteArray) (lo hi : Int) (h0 : 0 ≤ hi) (hh : hi ≤ 1000000) (k : Nat) (hk : 2 * hi + 5 ≤ k) : spec_l2Marks.f k s lo hi = some (okMarks s lo hi) := by
  unfold spec_l2Marks.f
  have h := specMarks_l0 s lo hi h0 hh (hi + 1 - ((0 : Nat) : Int)).toNat k 0 (by omega) (by omega) rfl (by omega)
  rw [show ((0 : Nat) : Int) = 0 from rfl] at h
  rw [h]
  unfold okMarks
  congr 1
  rw [List.drop_zero, Bool.and_comm]
  by_cases hl : lo ≤ (s.size : Int) ∧ (s.size : Int) ≤ hi
  · rw [List.take_of_length_le (by rw [size_data]; omega)]
  · simp [hl]

/-! ### tolist -/
theorem toList_inj (a b : ByteArray) : a.toList = b.toList ↔ a = b := by
  rw [Lib.toList_data, Lib.toList_data]
  constructor
  · intro h
    obtain ⟨⟨l⟩⟩ := a
    obtain ⟨⟨m⟩⟩ := b
    simp only at h
    rw [h]
  · rintro rfl
    rfl

/-! ### table -/
open Classical
/-- The first place of a text in a list, from place i on; -1 for none. -/
def plc : List ByteArray → ByteArray → Nat → Int
  | [], _, _ => -1
  | x :: l, s, i => if x = s then (i : Int) else plc l s (i + 1)
theorem plc_ge (l : List ByteArray) (s : ByteArray) : ∀ i, plc l s i = -1 ∨ (i : Int) ≤ plc l s i := by
  induction l with
  | nil => exact fun i => .inl rfl
  | cons x l ih =>
    intro i
    unfold plc
    by_cases h : x = s
    · rw [if_pos h]
      exact .inr (Int.le_refl _)
    · rw [if_neg h]
      rcases ih (i + 1) with h | h
      · exact .inl h
      · right
        omega
theorem plc_none (l : List ByteArray) (s : ByteArray) : ∀ i, plc l s i = -1 ↔ s ∉ l := by
  induction l with
  | nil => intro i; simp [plc]
  | cons x l ih =>
    intro i
    unfold plc
    by_cases h : x = s
    · subst h
      rw [if_pos rfl]
      simp
    · rw [if_neg h, ih, List.mem_cons]
      constructor
      · intro hn he
        rcases he with e | e
        · exact h e.symm
        · exact hn e
      · intro hn he
        exact hn (.inr he)
theorem plc_lt (l : List ByteArray) (s : ByteArray) : ∀ i, plc l s i < ((i + l.length : Nat) : Int) := by
  induction l with
  | nil => intro i; simp [plc]; omega
  | cons x l ih =>
    intro i
    unfold plc
    by_cases h : x = s
    · rw [if_pos h]
      simp
      omega
    · rw [if_neg h]
      have := ih (i + 1)
      simp at this ⊢
      omega
theorem specPlace_l0 (l : List ByteArray) (s : ByteArray) (hl : l.length < 9223372036854775807) (d : Nat) : ∀ i, i ≤ l.length → l.length - i = d → Evt (fun k => spec_l2Place.l0 k l s i) (plc (l.drop i) s i) := by
  induction d with
  | zero =>
    intro i hi hd
    refine Evt.succ (h := fun _ => some (-1)) (fun k => ?_) ?_
    · simp only [spec_l2Place.l0]
      rw [if_neg (by omega)]
    · rw [List.drop_eq_nil_of_le (by omega)]
      exact Evt.const _
  | succ d ih =>
    intro i hi hd
    have hlt : i < l.length := by omega
    rw [drop_get l i hlt]
    unfold plc
    by_cases h : l[i] = s
    · rw [if_pos h]
      refine Evt.succ (h := fun _ => some (i : Int)) (fun k => ?_) (Evt.const _)
      simp only [spec_l2Place.l0]
      rw [if_pos (by omega), if_pos (by omega), rdOf_get _ _ _ hlt, if_pos ((toList_inj _ _).2 h)]
    · rw [if_neg h]
      refine Evt.succ (fun k => ?_) (ih (i + 1) (by omega) (by omega))
      simp only [spec_l2Place.l0]
      rw [if_pos (by omega), if_pos (by omega), rdOf_get _ _ _ hlt, if_neg (fun e => h ((toList_inj _ _).1 e)), wrap_succ i (by omega)]
theorem specPlace_evt (l : List ByteArray) (s : ByteArray) (hl : l.length < 9223372036854775807) : Evt (fun k => spec_l2Place.f k l s) (plc l s 0) :=
  (specPlace_l0 l s hl l.length 0 (by omega) (by omega)).of_eq (fun k => rfl)
theorem implIndex_l0 (l : List ByteArray) (s : ByteArray) (hl : l.length < 9223372036854775807) (d : Nat) : ∀ i, i ≤ l.length → l.length - i = d → Evt (fun k => slices_Index_string_string.l0 k l s (l.length : Int) i) (plc (l.drop i) s i) := by
  induction d with
  | zero =>
    intro i hi hd
    refine Evt.succ (h := fun _ => some (-1)) (fun k => ?_) ?_
    · simp only [slices_Index_string_string.l0]
      rw [if_neg (by omega)]
    · rw [List.drop_eq_nil_of_le (by omega)]
      exact Evt.const _
  | succ d ih =>
    intro i hi hd
    have hlt : i < l.length := by omega
    rw [drop_get l i hlt]
    unfold plc
    by_cases h : l[i] = s
    · rw [if_pos h]
      refine Evt.succ (h := fun _ => some (i : Int)) (fun k => ?_) (Evt.const _)
      simp only [slices_Index_string_string.l0]
      rw [if_pos (by omega), if_pos (by omega), if_pos (by omega), rdOf_get _ _ _ hlt, if_pos ((toList_inj _ _).2 h.symm)]
    · rw [if_neg h]
      refine Evt.succ (fun k => ?_) (ih (i + 1) (by omega) (by omega))
      simp only [slices_Index_string_string.l0]
      rw [if_pos (by omega), if_pos (by omega), if_pos (by omega), rdOf_get _ _ _ hlt, if_neg (fun e => h ((toList_inj _ _).1 e).symm), wrap_succ i (by omega)]
theorem implIndex_evt (l : List ByteArray) (s : ByteArray) (hl : l.length < 9223372036854775807) : Evt (fun k => slices_Index_string_string.f k l s) (plc l s 0) :=
  (implIndex_l0 l s hl l.length 0 (by omega) (by omega)).of_eq (fun k => rfl)
theorem implContains_evt (l : List ByteArray) (s : ByteArray) (hl : l.length < 9223372036854775807) : Evt (fun k => slices_Contains_string_string.f k l s) (decide (s ∈ l)) := by
  have h : decide (plc l s 0 ≥ 0) = decide (s ∈ l) := by
    rw [decide_eq_decide]
    have h1 := plc_none l s 0
    have h2 := plc_ge l s 0
    constructor
    · intro h
      by_cases hm : s ∈ l
      · exact hm
      · rw [h1.2 hm] at h
        omega
    · intro hm
      rcases h2 with h | h
      · exact absurd hm (h1.1 h)
      · omega
  rw [← h]
  exact Evt.bind (implIndex_evt l s hl) (Evt.const _)
/-- Is a list of marks a table? -/
noncomputable def okTable (l : List ByteArray) : Bool := decide (1 ≤ l.length ∧ l.length ≤ 10 ∧ (∀ m ∈ l, okMarks m 1 5 = true) ∧ l.Nodup)
theorem plc_first (l m : List ByteArray) (s : ByteArray) : ∀ i, plc (l ++ s :: m) s i = ((i + l.length : Nat) : Int) ↔ s ∉ l := by
  induction l with
  | nil =>
    intro i
    simp [plc]
  | cons x l ih =>
    intro i
    rw [List.cons_append]
    unfold plc
    by_cases h : x = s
    · rw [if_pos h]
      simp [h]
      omega
    · rw [if_neg h, show i + (x :: l).length = (i + 1) + l.length by simp; omega, ih, List.mem_cons]
      constructor
      · intro hn he
        rcases he with e | e
        · exact h e.symm
        · exact hn e
      · intro hn he
        exact hn (.inr he)
/-- The rest of a table is good, what stands ahead of it known. -/
noncomputable def okRest (l : List ByteArray) (i : Nat) : Bool := decide (∀ j (h : j < l.length), i ≤ j → okMarks l[j] 1 5 = true ∧ l[j] ∉ l.take j)
theorem okRest_end (l : List ByteArray) (i : Nat) (h : l.length ≤ i) : okRest l i = true := by
  unfold okRest
  rw [decide_eq_true_eq]
  intro j hj hij
  omega
theorem okRest_step (l : List ByteArray) (i : Nat) (h : i < l.length) : okRest l i = (okMarks l[i] 1 5 && (!decide (l[i] ∈ l.take i)) && okRest l (i + 1)) := by
  unfold okRest
  rw [Bool.eq_iff_iff]
  simp only [Bool.and_eq_true, decide_eq_true_eq, Bool.not_eq_true', decide_eq_false_iff_not]
  constructor
  · intro H
    exact ⟨H i h (Nat.le_refl _), fun j hj hij => H j hj (by omega)⟩
  · intro H j hj hij
    by_cases e : j = i
    · subst e
      exact H.1
    · exact H.2 j hj (by omega)
theorem okTable_eq (l : List ByteArray) : okTable l = (decide (1 ≤ l.length ∧ l.length ≤ 10) && okRest l 0) := by
  unfold okTable okRest
  rw [Bool.eq_iff_iff]
  simp only [Bool.and_eq_true, decide_eq_true_eq]
  constructor
  · rintro ⟨h1, h2, h3, h4⟩
    refine ⟨⟨h1, h2⟩, fun j hj _ => ⟨h3 _ (List.getElem_mem hj), fun hm => ?_⟩⟩
    obtain ⟨q, hq, he⟩ := List.getElem_of_mem hm
    rw [List.length_take] at hq
    rw [List.getElem_take] at he
    exact absurd ((List.getElem_inj h4).1 he) (by omega)
  · rintro ⟨⟨h1, h2⟩, h3⟩
    refine ⟨h1, h2, fun m hm => ?_, ?_⟩
    · obtain ⟨j, hj, rfl⟩ := List.getElem_of_mem hm
      exact (h3 j hj (Nat.zero_le _)).1
    · rw [List.nodup_iff_pairwise_ne, List.pairwise_iff_getElem]
      intro i j hi hj hij he
      refine (h3 j hj (Nat.zero_le _)).2 ?_
      rw [← he]
      exact List.mem_of_getElem? (i := i) (by rw [List.getElem?_take, if_pos hij, List.getElem?_eq_getElem hi])
theorem implTable_l0 (l : List ByteArray) (hl : l.length < 9223372036854775807) (d : Nat) : ∀ i, i ≤ l.length → l.length - i = d → Evt (fun k => impl_isTable.l0 k l (l.length : Int) i l) (decide (1 ≤ l.length ∧ l.length ≤ 10) && okRest l i) := by
  induction d with
  | zero =>
    intro i hi hd
    refine Evt.succ (h := fun _ => some (decide (1 ≤ (l.length : Int) ∧ (l.length : Int) ≤ 10))) (fun k => ?_) ?_
    · simp only [impl_isTable.l0]
      rw [if_neg (by omega), in_eq]
      rfl
    · rw [okRest_end l i (by omega), Bool.and_true, show decide (1 ≤ (l.length : Int) ∧ (l.length : Int) ≤ 10) = decide (1 ≤ l.length ∧ l.length ≤ 10) by rw [decide_eq_decide]; omega]
      exact Evt.const _
  | succ d ih =>
    intro i hi hd
    have hlt : i < l.length := by omega
    rw [okRest_step l i hlt]
    have hc := implContains_evt (l.take i) l[i] (by rw [List.length_take]; omega)
    refine Evt.succ (h := fun k => if okMarks l[i] 1 5 = true then ((slices_Contains_string_string.f k (l.take i) l[i]).bind fun t => if t = true then some false else impl_isTable.l0 k l (l.length : Int) ((i + 1 : Nat) : Int) l) else some false) (fun k => ?_) ?_
    · simp only [impl_isTable.l0]
      rw [if_pos (by omega), if_pos (by omega), if_pos (by omega), rdOf_get _ _ _ hlt, wrap_succ i (by omega), if_pos (by omega)]
      unfold impl_isLetterMarks.f
      rw [implAreMarks_eq _ 1 5 (by omega)]
      rfl
    · by_cases hm : okMarks l[i] 1 5 = true
      · refine Evt.ite_pos hm (Evt.bind hc ?_)
        by_cases hin : l[i] ∈ l.take i
        · refine Evt.ite_pos (by simpa using hin) ?_
          simp [hin]
          exact Evt.const _
        · refine Evt.ite_neg (by simpa using hin) ?_
          simp only [hm, hin, decide_false, Bool.not_false, Bool.true_and, Bool.and_self]
          exact ih (i + 1) (by omega) (by omega)
      · refine Evt.ite_neg hm ?_
        simp [hm]
        exact Evt.const _
theorem implTable_evt (l : List ByteArray) (hl : l.length < 9223372036854775807) : Evt (fun k => impl_isTable.f k l) (okTable l) := by
  rw [okTable_eq]
  exact (implTable_l0 l hl l.length 0 (by omega) (by omega)).of_eq (fun k => rfl)
theorem specTable_l0 (l : List ByteArray) (hl : l.length < 9223372036854775807) (d : Nat) : ∀ i, i ≤ l.length → l.length - i = d → Evt (fun k => spec_l2Table.l0 k i l) (okRest l i) := by
  induction d with
  | zero =>
    intro i hi hd
    refine Evt.succ (h := fun _ => some true) (fun k => ?_) ?_
    · simp only [spec_l2Table.l0]
      rw [if_neg (by omega)]
    · rw [okRest_end l i (by omega)]
      exact Evt.const _
  | succ d ih =>
    intro i hi hd
    have hlt : i < l.length := by omega
    rw [okRest_step l i hlt]
    have hp := specPlace_evt l l[i] hl
    have hf : plc l l[i] 0 = (i : Int) ↔ l[i] ∉ l.take i := by
      have h := plc_first (l.take i) (l.drop (i + 1)) l[i] 0
      rw [← drop_get l i hlt, List.take_append_drop, List.length_take, Nat.min_eq_left (by omega), Nat.zero_add] at h
      exact h
    have hmk : Evt (fun k => spec_l2Marks.f k l[i] 1 5) (okMarks l[i] 1 5) := ⟨20, fun k hk => specMarks_eq _ 1 5 (by omega) (by omega) k (by omega)⟩
    refine Evt.succ (h := fun k => (spec_l2Marks.f k l[i] 1 5).bind fun t => if t = true then ((spec_l2Place.f k l l[i]).bind fun t => if t = (i : Int) then spec_l2Table.l0 k ((i + 1 : Nat) : Int) l else some false) else some false) (fun k => ?_) ?_
    · simp only [spec_l2Table.l0]
      rw [if_pos (by omega), if_pos (by omega), rdOf_get _ _ _ hlt, wrap_succ i (by omega)]
    · refine Evt.bind hmk ?_
      by_cases hm : okMarks l[i] 1 5 = true
      · refine Evt.ite_pos hm (Evt.bind hp ?_)
        by_cases hin : l[i] ∈ l.take i
        · refine Evt.ite_neg (fun e => (hf.1 e) hin) ?_
          simp [hin]
          exact Evt.const _
        · refine Evt.ite_pos (hf.2 hin) ?_
          simp only [hm, hin, decide_false, Bool.not_false, Bool.true_and, Bool.and_self]
          exact ih (i + 1) (by omega) (by omega)
      · refine Evt.ite_neg hm ?_
        simp [hm]
        exact Evt.const _
theorem specTable_evt (l : List ByteArray) (hl : l.length < 9223372036854775807) : Evt (fun k => spec_l2Table.f k l) (okTable l) := by
  rw [okTable_eq]
  refine Evt.of_eq (h := fun k => if decide (1 ≤ (l.length : Int) ∧ (l.length : Int) ≤ 10) = true then spec_l2Table.l0 k ((0 : Nat) : Int) l else some false) (fun k => ?_) ?_
  · unfold spec_l2Table.f
    rw [l1In_eq]
    rfl
  · by_cases h : 1 ≤ l.length ∧ l.length ≤ 10
    · refine Evt.ite_pos (by simp; omega) ?_
      simp only [h, and_self, decide_true, Bool.true_and]
      exact specTable_l0 l hl l.length 0 (by omega) (by omega)
    · refine Evt.ite_neg (by simp; omega) ?_
      simp [h]
      exact Evt.const _

/-! ### lawtable -/
/-- The law's own looks at a table: its weight, a copy, and whether it is as it was. -/
theorem szStringS_l0 (l : List ByteArray) (hl : l.length ≤ 1048576) (hs : ∀ m ∈ l, m.size ≤ 9223372036854775807) (d : Nat) : ∀ (i : Nat) (a : Int), i ≤ l.length → l.length - i = d → 0 ≤ a → a ≤ 1048576 → ∃ t, Evt (fun k => laws_szStringS.l0 k l a i) t := by
  induction d with
  | zero =>
    intro i a hi hd h0 h1
    refine ⟨a, Evt.succ (h := fun _ => some a) (fun k => ?_) (Evt.const _)⟩
    simp only [laws_szStringS.l0]
    rw [if_neg (by omega)]
  | succ d ih =>
    intro i a hi hd h0 h1
    have hlt : i < l.length := by omega
    have hsz := hs l[i] (List.getElem_mem hlt)
    have hw : wrap64 (a - (l[i].size : Int)) = a - (l[i].size : Int) := by unfold wrap64; omega
    by_cases h : a - (l[i].size : Int) < 0
    · refine ⟨-1, Evt.succ (h := fun _ => some (-1)) (fun k => ?_) (Evt.const _)⟩
      simp only [laws_szStringS.l0]
      rw [if_pos (by omega), if_pos (by omega), rdOf_get _ _ _ hlt, hw, if_pos h]
    · obtain ⟨t, ht⟩ := ih (i + 1) (a - (l[i].size : Int)) (by omega) (by omega) (by omega) (by omega)
      refine ⟨t, Evt.succ (fun k => ?_) ht⟩
      simp only [laws_szStringS.l0]
      rw [if_pos (by omega), if_pos (by omega), rdOf_get _ _ _ hlt, hw, if_neg h, wrap_succ i (by omega)]
theorem szStringS_evt (l : List ByteArray) (b : Int) (hb : 0 ≤ b) (hb2 : b ≤ 1048576) (h : l.length ≤ 9223372036854775807) (hs : ∀ m ∈ l, m.size ≤ 9223372036854775807) : ∃ t, Evt (fun k => laws_szStringS.f k l b) t ∧ (t < 0 ∨ l.length ≤ 1048576) := by
  have hw : wrap64 (b - (l.length : Int)) = b - (l.length : Int) := by unfold wrap64; omega
  by_cases hn : b - (l.length : Int) < 0
  · refine ⟨-1, (Evt.const (-1)).of_eq (fun k => ?_), .inl (by omega)⟩
    unfold laws_szStringS.f
    rw [hw, if_pos hn]
  · obtain ⟨t, ht⟩ := szStringS_l0 l (by omega) hs l.length 0 (b - (l.length : Int)) (by omega) (by omega) (by omega) (by omega)
    refine ⟨t, ht.of_eq (fun k => ?_), .inr (by omega)⟩
    unfold laws_szStringS.f
    rw [hw, if_neg hn]
    rfl
theorem szTable_evt (l : List ByteArray) (b : Int) (hb : 0 ≤ b) (hb2 : b ≤ 1048576) (h : l.length ≤ 9223372036854775807) (hs : ∀ m ∈ l, m.size ≤ 9223372036854775807) : ∃ t, Evt (fun k => laws_szTable.f k l b) t ∧ (t < 0 ∨ l.length ≤ 1048576) := by
  obtain ⟨t, ht, h⟩ := szStringS_evt l b hb hb2 h hs
  by_cases hn : t < 0
  · exact ⟨-1, Evt.bind ht (Evt.ite_pos hn (Evt.const _)), .inl (by omega)⟩
  · exact ⟨t, Evt.bind ht (Evt.ite_neg hn (Evt.const _)), h⟩
theorem toStringS_l0 (l : List ByteArray) (hl : l.length ≤ 1048576) (d : Nat) : ∀ (i : Nat) (x : List ByteArray), i ≤ l.length → l.length - i = d → x.length = l.length → x.take i = l.take i → Evt (fun k => laws_toStringS.l0 k l x i) l := by
  induction d with
  | zero =>
    intro i x hi hd hx ht
    have e : x = l := by
      have h1 : i = l.length := by omega
      rw [h1, List.take_length, ← hx, List.take_length] at ht
      exact ht
    subst e
    refine Evt.succ (h := fun _ => some x) (fun k => ?_) (Evt.const _)
    simp only [laws_toStringS.l0]
    rw [if_neg (by omega)]
  | succ d ih =>
    intro i x hi hd hx ht
    have hlt : i < l.length := by omega
    refine Evt.succ (fun k => ?_) (ih (i + 1) (x.set i l[i]) (by omega) (by omega) (by rw [List.length_set]; exact hx) ?_)
    · simp only [laws_toStringS.l0]
      rw [if_pos (by omega), if_pos (by omega), if_pos (by omega), rdOf_get _ _ _ hlt, wrap_succ i (by omega), Int.toNat_natCast]
    · rw [List.take_succ_eq_append_getElem (by rw [List.length_set]; omega), List.take_succ_eq_append_getElem hlt, List.take_set_of_le (by omega), ht, List.getElem_set_self]
theorem toStringS_evt (l : List ByteArray) (hl : l.length ≤ 1048576) : Evt (fun k => laws_toStringS.f k l) l := by
  refine (toStringS_l0 l hl l.length 0 (List.replicate l.length (⟨#[]⟩ : ByteArray)) (by omega) (by omega) (by simp) rfl).of_eq (fun k => ?_)
  unfold laws_toStringS.f
  rw [if_pos (by omega), Int.toNat_natCast, if_pos (by omega)]
  rfl
theorem toTable_evt (l : List ByteArray) (hl : l.length ≤ 1048576) : Evt (fun k => laws_toTable.f k l) l :=
  Evt.bind (toStringS_evt l hl) (Evt.const _)
theorem eqStringS_l0 (l : List ByteArray) (hl : l.length ≤ 1048576) (d : Nat) : ∀ (i : Nat), i ≤ l.length → l.length - i = d → Evt (fun k => laws_eqStringS.l0 k l l i) true := by
  induction d with
  | zero =>
    intro i hi hd
    refine Evt.succ (h := fun _ => some true) (fun k => ?_) (Evt.const _)
    simp only [laws_eqStringS.l0]
    rw [if_neg (by omega)]
  | succ d ih =>
    intro i hi hd
    refine Evt.succ (fun k => ?_) (ih (i + 1) (by omega) (by omega))
    simp only [laws_eqStringS.l0]
    rw [if_pos (by omega), if_pos (by omega), if_pos (by omega), if_pos trivial, wrap_succ i (by omega)]
theorem eqStringS_evt (l : List ByteArray) (hl : l.length ≤ 1048576) : Evt (fun k => laws_eqStringS.f k l l) true := by
  refine (eqStringS_l0 l hl l.length 0 (by omega) (by omega)).of_eq (fun k => ?_)
  unfold laws_eqStringS.f
  rw [if_pos rfl]
  rfl
theorem eqTable_evt (l : List ByteArray) (hl : l.length ≤ 1048576) : Evt (fun k => laws_eqTable.f k l l) true :=
  Evt.bind (eqStringS_evt l hl) (Evt.ite_pos rfl (Evt.const _))
theorem of_table (l : List ByteArray) (h : okTable l = true) : 1 ≤ l.length ∧ l.length ≤ 10 ∧ (∀ m ∈ l, okMarks m 1 5 = true) ∧ l.Nodup := by
  unfold okTable at h
  rw [decide_eq_true_eq] at h
  exact h
theorem len_wrap (l : List ByteArray) (h : l.length ≤ 1048576) : wrap64 ((l.length : Int) - 1) = (l.length : Int) - 1 := by
  unfold wrap64
  omega
theorem isLetter_len (l : List ByteArray) (h : okTable l = true) : wrap64 ((l.length : Int) - 1) = (l.length : Int) - 1 := by
  have := of_table l h
  unfold wrap64
  omega

/-! ### letter6 -/
def isL6 (l : List ByteArray) (i : Int) : Bool := decide (0 ≤ i ∧ i ≤ (l.length : Int) - 1)
theorem specLetter6_evt (l : List ByteArray) (hl : l.length ≤ 1048576) (i : Int) : Evt (fun k => spec_l6Letter.f k l i) (okTable l && isL6 l i) := by
  refine Evt.bind (specTable_evt l (by omega)) ?_
  cases h : okTable l with
  | false => exact Evt.ite_neg (by simp) (Evt.const _)
  | true =>
    refine Evt.ite_pos rfl ?_
    rw [l1In_eq, len_wrap l hl]
    exact Evt.const _
theorem implIsLetter6_evt (l : List ByteArray) (hl : l.length ≤ 1048576) (i : Int) : Evt (fun k => impl_isLetter.f l i) (isL6 l i) := by
  refine (Evt.const _).of_eq (fun k => ?_)
  unfold impl_isLetter.f
  rw [in_eq, len_wrap l hl]
  rfl
theorem isL6_nat (l : List ByteArray) (i : Int) (h : isL6 l i = true) : ∃ j : Nat, i = (j : Int) ∧ j < l.length := by
  unfold isL6 at h
  rw [decide_eq_true_eq] at h
  exact ⟨i.toNat, by omega, by omega⟩

/-! ### marksIntS -/
/-- The law's own looks at a row of whole numbers. -/
theorem rd_nat (l : List Int) (i : Nat) (h : i < l.length) : rd l (i : Int) = l[i] := by
  unfold rd
  rw [Int.toNat_natCast, List.getD_eq_getElem?_getD, List.getElem?_eq_getElem h]
  rfl
theorem eqIntS_l0 (l : List Int) (hl : l.length ≤ 1099511627776) (d : Nat) : ∀ (i : Nat), i ≤ l.length → l.length - i = d → Evt (fun k => laws_eqIntS.l0 k l l i) true := by
  induction d with
  | zero =>
    intro i hi hd
    refine Evt.succ (h := fun _ => some true) (fun k => ?_) (Evt.const _)
    simp only [laws_eqIntS.l0]
    rw [if_neg (by omega)]
  | succ d ih =>
    intro i hi hd
    refine Evt.succ (fun k => ?_) (ih (i + 1) (by omega) (by omega))
    simp only [laws_eqIntS.l0]
    rw [if_pos (by omega), if_pos (by omega), if_pos (by omega), if_pos trivial, wrap_succ i (by omega)]
theorem eqIntS_evt (l : List Int) (hl : l.length ≤ 1099511627776) : Evt (fun k => laws_eqIntS.f k l l) true := by
  refine (eqIntS_l0 l hl l.length 0 (by omega) (by omega)).of_eq (fun k => ?_)
  unfold laws_eqIntS.f
  rw [if_pos rfl]
  rfl
def markInts (n : Nat) : List Int := (List.range n).map fun i => ((1 + i : Nat) : Int)
theorem markInts_len (n : Nat) : (markInts n).length = n := by unfold markInts; rw [List.length_map, List.length_range]
theorem markInts_get (n i : Nat) (h : i < (markInts n).length) : (markInts n)[i] = ((1 + i : Nat) : Int) := by
  simp only [markInts, List.getElem_map, List.getElem_range]
theorem markIntS_l0 (n : Nat) (hl : n ≤ 1099511627776) (d : Nat) : ∀ (i : Nat) (x : List Int), i ≤ n → n - i = d → x.length = n → x.take i = (markInts n).take i → Evt (fun k => laws_markIntS.l0 k x ((1 + i : Nat) : Int) i) (((1 + n : Nat) : Int), markInts n) := by
  induction d with
  | zero =>
    intro i x hi hd hx ht
    have e : x = markInts n := by
      have h1 : i = n := by omega
      have h2 := markInts_len n
      rw [h1, List.take_of_length_le (by omega), List.take_of_length_le (by omega)] at ht
      exact ht
    subst e
    refine Evt.succ (h := fun _ => some (((1 + n : Nat) : Int), markInts n)) (fun k => ?_) (Evt.const _)
    obtain rfl : i = n := by omega
    simp only [laws_markIntS.l0]
    rw [if_neg (by omega)]
  | succ d ih =>
    intro i x hi hd hx ht
    have h2 := markInts_len n
    refine Evt.succ (fun k => ?_) (ih (i + 1) (x.set i ((1 + i : Nat) : Int)) (by omega) (by omega) (by rw [List.length_set]; exact hx) ?_)
    · simp only [laws_markIntS.l0]
      rw [if_pos (by omega), if_pos (by omega), wrap_succ i (by omega), wrap_succ (1 + i) (by omega), Int.toNat_natCast]
      rfl
    · rw [List.take_succ_eq_append_getElem (by rw [List.length_set]; omega), List.take_succ_eq_append_getElem (by omega), List.take_set_of_le (by omega), ht, List.getElem_set_self, markInts_get]
theorem markIntS_evt (l : List Int) (hl : l.length ≤ 1099511627776) : Evt (fun k => laws_markIntS.f k l 1) (((1 + l.length : Nat) : Int), markInts l.length) :=
  markIntS_l0 l.length hl l.length 0 l (by omega) (by omega) rfl rfl

/-! ### heldIntS -/
theorem heldIntS_l0 (n : Nat) (hl : n ≤ 1099511627776) (d : Nat) : ∀ (i : Nat), i ≤ n → n - i = d → Evt (fun k => laws_heldIntS.l0 k (markInts n) ((1 + i : Nat) : Int) i) ((1 + n : Nat) : Int) := by
  have h2 := markInts_len n
  induction d with
  | zero =>
    intro i hi hd
    obtain rfl : i = n := by omega
    refine Evt.succ (h := fun _ => some ((1 + i : Nat) : Int)) (fun k => ?_) (Evt.const _)
    simp only [laws_heldIntS.l0]
    rw [if_neg (by omega)]
  | succ d ih =>
    intro i hi hd
    refine Evt.succ (fun k => ?_) (ih (i + 1) (by omega) (by omega))
    simp only [laws_heldIntS.l0]
    rw [if_pos (by omega), if_pos (by omega), rd_nat _ _ (by omega), markInts_get, if_pos rfl, wrap_succ i (by omega), wrap_succ (1 + i) (by omega)]
    rfl
theorem heldIntS_evt (n : Nat) (hl : n ≤ 1099511627776) : Evt (fun k => laws_heldIntS.f k (markInts n) 1) ((1 + n : Nat) : Int) :=
  heldIntS_l0 n hl n 0 (by omega) (by omega)

/-! ### marksText -/
/-- The marks that the law writes into a row of texts. -/
theorem markText_l0 (d : Nat) : ∀ (x : Nat) (s : ByteArray), x ≤ 1099511627777 → x < 10 ^ d → s.size + d ≤ 1000 → ∃ r, Evt (fun k => laws_markText.l0 k x s) r := by
  induction d with
  | zero =>
    intro x s h0 h1 hs
    have hx : ¬ (x : Int) > 0 := by
      have : x < 1 := h1
      omega
    refine ⟨_, Evt.succ (h := fun _ => some ((⟨#[109]⟩ : ByteArray) ++ s)) (fun k => ?_) (Evt.const _)⟩
    rw [laws_markText.l0, if_neg hx, if_pos (by omega)]
  | succ d ih =>
    intro x s h0 h1 hs
    by_cases hx : (x : Int) > 0
    · have e : wrap64 (Int.tdiv x 10) = ((x / 10 : Nat) : Int) := by
        rw [Int.tdiv_eq_ediv_of_nonneg (by omega)]
        unfold wrap64
        omega
      have hz : (strOfNums [(wrap64 (48 + (Int.tmod x 10))) % 256]).size = 1 := by
        rw [strOfNums_size]
        rfl
      obtain ⟨r, hr⟩ := ih (x / 10) (strOfNums [(wrap64 (48 + (Int.tmod x 10))) % 256] ++ s) (by omega) (by rw [Nat.pow_succ] at h1; omega) (by rw [ByteArray.size_append, hz]; omega)
      refine ⟨r, Evt.succ (fun k => ?_) hr⟩
      rw [laws_markText.l0, if_pos hx]
      show (if _ then _ else _) = _
      rw [if_pos (by rw [hz]; omega), e]
    · refine ⟨_, Evt.succ (h := fun _ => some ((⟨#[109]⟩ : ByteArray) ++ s)) (fun k => ?_) (Evt.const _)⟩
      rw [laws_markText.l0, if_neg hx, if_pos (by omega)]
theorem markText_evt (x : Nat) (h : x ≤ 1099511627777) : ∃ r, Evt (fun k => laws_markText.f k x) r := by
  by_cases hx : (x : Int) ≤ 0
  · exact ⟨_, Evt.ite_pos hx (Evt.const _)⟩
  · obtain ⟨r, hr⟩ := markText_l0 13 x (⟨#[]⟩ : ByteArray) h (by omega) (by decide)
    exact ⟨r, Evt.ite_neg hx hr⟩
theorem markStringS_l0 (n : Nat) (hn : n ≤ 1099511627776) (d : Nat) : ∀ (i : Nat) (x : List ByteArray), i ≤ n → n - i = d → x.length = n → ∃ y, Evt (fun k => laws_markStringS.l0 k x ((1 + i : Nat) : Int) i) (((1 + n : Nat) : Int), y) := by
  induction d with
  | zero =>
    intro i x hi hd hx
    obtain rfl : i = n := by omega
    refine ⟨x, Evt.succ (h := fun _ => some (((1 + i : Nat) : Int), x)) (fun k => ?_) (Evt.const _)⟩
    rw [laws_markStringS.l0, if_neg (by omega)]
  | succ d ih =>
    intro i x hi hd hx
    obtain ⟨t, ht⟩ := markText_evt (1 + i) (by omega)
    obtain ⟨y, hy⟩ := ih (i + 1) (x.set i t) (by omega) (by omega) (by rw [List.length_set]; exact hx)
    refine ⟨y, Evt.succ (fun k => ?_) (Evt.bind (h := fun k t => if 0 ≤ (i : Int) then laws_markStringS.l0 k (x.set i t) ((1 + (i + 1) : Nat) : Int) ((i + 1 : Nat) : Int) else none) ht (Evt.ite_pos (by omega) hy))⟩
    rw [laws_markStringS.l0, if_pos (by omega), wrap_succ i (by omega), wrap_succ (1 + i) (by omega), Int.toNat_natCast]
    rfl
theorem markStringS_evt (l : List ByteArray) (hl : l.length ≤ 1099511627776) : ∃ y, Evt (fun k => laws_markStringS.f k l 1) (((1 + l.length : Nat) : Int), y) :=
  markStringS_l0 l.length hl l.length 0 l (by omega) (by omega) rfl

/-! ### heldText -/
/-- The marks in a row of texts, and that they are held. -/
noncomputable def mt (x : Nat) : ByteArray := if h : x ≤ 1099511627777 then Classical.choose (markText_evt x h) else ByteArray.empty
theorem mt_evt (x : Nat) (h : x ≤ 1099511627777) : Evt (fun k => laws_markText.f k x) (mt x) := by
  unfold mt
  rw [dif_pos h]
  exact Classical.choose_spec (markText_evt x h)
noncomputable def mts (n : Nat) : List ByteArray := (List.range n).map fun i => mt (1 + i)
theorem mts_len (n : Nat) : (mts n).length = n := by unfold mts; rw [List.length_map, List.length_range]
theorem mts_get (n i : Nat) (h : i < (mts n).length) : (mts n)[i] = mt (1 + i) := by
  simp only [mts, List.getElem_map, List.getElem_range]
theorem markS_l0 (n : Nat) (hn : n ≤ 1099511627776) (d : Nat) : ∀ (i : Nat) (x : List ByteArray), i ≤ n → n - i = d → x.length = n → x.take i = (mts n).take i → Evt (fun k => laws_markStringS.l0 k x ((1 + i : Nat) : Int) i) (((1 + n : Nat) : Int), mts n) := by
  have h2 := mts_len n
  induction d with
  | zero =>
    intro i x hi hd hx ht
    obtain rfl : i = n := by omega
    have e : x = mts i := by
      rw [List.take_of_length_le (by omega), List.take_of_length_le (by omega)] at ht
      exact ht
    subst e
    exact Evt.succ (fun k => by rw [laws_markStringS.l0, if_neg (by omega)]) (Evt.const _)
  | succ d ih =>
    intro i x hi hd hx ht
    refine Evt.succ (fun k => ?_) (Evt.bind (h := fun k t => if 0 ≤ (i : Int) then laws_markStringS.l0 k (x.set i t) ((1 + (i + 1) : Nat) : Int) ((i + 1 : Nat) : Int) else none) (mt_evt (1 + i) (by omega)) (Evt.ite_pos (by omega) (ih (i + 1) (x.set i (mt (1 + i))) (by omega) (by omega) (by rw [List.length_set]; exact hx) ?_)))
    · rw [laws_markStringS.l0, if_pos (by omega), wrap_succ i (by omega), wrap_succ (1 + i) (by omega), Int.toNat_natCast]
      rfl
    · rw [List.take_succ_eq_append_getElem (by rw [List.length_set]; omega), List.take_succ_eq_append_getElem (by omega), List.take_set_of_le (by omega), ht, List.getElem_set_self, mts_get]
theorem markS_evt (l : List ByteArray) (hl : l.length ≤ 1099511627776) : Evt (fun k => laws_markStringS.f k l 1) (((1 + l.length : Nat) : Int), mts l.length) :=
  markS_l0 l.length hl l.length 0 l (by omega) (by omega) rfl rfl

/-! ### heldTable -/
theorem markTable2_evt (l : List ByteArray) (hl : l.length ≤ 1099511627776) : Evt (fun k => laws_markTable.f k l 1) (((1 + l.length : Nat) : Int), mts l.length) :=
  Evt.bind (markS_evt l hl) (Evt.const _)

/-! ### distance -/
/-- The least number of mistakes between two lists. -/
def lev : List UInt8 → List UInt8 → Nat
  | [], b => b.length
  | a, [] => a.length
  | x :: a, y :: b => min (lev a b + if x = y then 0 else 1) (min (lev a (y :: b) + 1) (lev (x :: a) b + 1))
termination_by a b => a.length + b.length
theorem lev_nil (b : List UInt8) : lev [] b = b.length := by
  unfold lev
  cases b <;> rfl
theorem lev_nil' (a : List UInt8) : lev a [] = a.length := by
  cases a with
  | nil => exact lev_nil []
  | cons x a => simp [lev]
theorem lev_cons (x y : UInt8) (a b : List UInt8) : lev (x :: a) (y :: b) = min (lev a b + if x = y then 0 else 1) (min (lev a (y :: b) + 1) (lev (x :: a) b + 1)) := by
  rw [lev]
theorem lev_le (n : Nat) : ∀ a b : List UInt8, a.length + b.length ≤ n → lev a b ≤ a.length + b.length := by
  induction n with
  | zero =>
    intro a b h
    obtain rfl : a = [] := List.eq_nil_of_length_eq_zero (by omega)
    rw [lev_nil]
    omega
  | succ n ih =>
    intro a b h
    cases a with
    | nil =>
      rw [lev_nil]
      omega
    | cons x a =>
      cases b with
      | nil => rw [lev_nil']; omega
      | cons y b =>
        have h1 := ih a (y :: b) (by simp at h ⊢; omega)
        rw [lev_cons]
        simp at h1 ⊢
        omega
theorem lev_bound (a b : List UInt8) : lev a b ≤ a.length + b.length := lev_le _ a b (Nat.le_refl _)
theorem min9 (A P Q R S T U V W e1 e2 : Nat) : min (min (A + e2) (min (P + 1) (Q + 1)) + e1) (min (min (R + e2) (min (S + 1) (T + 1)) + 1) (min (U + e2) (min (V + 1) (W + 1)) + 1)) = min (min (A + e1) (min (R + 1) (U + 1)) + e2) (min (min (P + e1) (min (S + 1) (V + 1)) + 1) (min (Q + e1) (min (T + 1) (W + 1)) + 1)) := by
  simp only [← Nat.add_min_add_right]
  ac_rfl
theorem lev_snoc_ (n : Nat) : ∀ (a b : List UInt8) (x y : UInt8), a.length + b.length ≤ n → lev (a ++ [x]) (b ++ [y]) = min (lev a b + if x = y then 0 else 1) (min (lev a (b ++ [y]) + 1) (lev (a ++ [x]) b + 1)) := by
  induction n with
  | zero =>
    intro a b x y h
    obtain rfl : a = [] := List.eq_nil_of_length_eq_zero (by omega)
    obtain rfl : b = [] := List.eq_nil_of_length_eq_zero (by omega)
    simp only [List.nil_append]
    rw [lev_cons]
  | succ n ih =>
    intro a b x y h
    cases a with
    | nil =>
      cases b with
      | nil =>
        simp only [List.nil_append]
        rw [lev_cons]
      | cons v b =>
        have h1 := ih [] b x y (by simp at h ⊢; omega)
        simp only [List.nil_append, List.cons_append] at h1 ⊢
        rw [lev_cons, h1, lev_cons x v [] b]
        simp only [lev_nil, List.length_append, List.length_cons, List.length_nil]
        omega
    | cons u a =>
      cases b with
      | nil =>
        have h1 := ih a [] x y (by simp at h ⊢; omega)
        simp only [List.nil_append, List.cons_append] at h1 ⊢
        rw [lev_cons, h1, lev_cons u y a []]
        simp only [lev_nil', List.length_append, List.length_cons, List.length_nil]
        omega
      | cons v b =>
        have h1 := ih a b x y (by simp at h ⊢; omega)
        have h2 := ih a (v :: b) x y (by simp at h ⊢; omega)
        have h3 := ih (u :: a) b x y (by simp at h ⊢; omega)
        simp only [List.cons_append] at h1 h2 h3 ⊢
        rw [lev_cons, h1, h2, h3, lev_cons u v a b, lev_cons u v a (b ++ [y]), lev_cons u v (a ++ [x]) b]
        exact min9 _ _ _ _ _ _ _ _ _ _ _
theorem lev_snoc (a b : List UInt8) (x y : UInt8) : lev (a ++ [x]) (b ++ [y]) = min (lev a b + if x = y then 0 else 1) (min (lev a (b ++ [y]) + 1) (lev (a ++ [x]) b + 1)) := lev_snoc_ (a.length + b.length) a b x y (Nat.le_refl _)
theorem ext1 (s : ByteArray) : (s.extract 1 s.size).data.toList = s.data.toList.drop 1 := Lib.extract_to_end s 1
theorem bt_zero (s : ByteArray) (c : UInt8) (l : List UInt8) (h : s.data.toList = c :: l) : bt s 0 = (c.toNat : Int) := by
  have h1 : s.data.toList.length = l.length + 1 := by rw [h]; rfl
  rw [size_data] at h1
  have h2 := bt_get s 0 (by omega)
  rw [show ((0 : Nat) : Int) = 0 from rfl] at h2
  rw [h2]
  simp [h]
theorem mn_eq (a b : Int) : mn a b = min a b := by unfold mn; omega
theorem mx_eq (a b : Int) : mx a b = max a b := by unfold mx; omega
theorem nat_byte (x y : UInt8) : ((x.toNat : Int) = (y.toNat : Int)) ↔ x = y := by
  constructor
  · intro h
    exact UInt8.toNat_inj.1 (by omega)
  · rintro rfl
    rfl
theorem three0 (A B C : Nat) : mn (mn (A : Int) ((B : Int) + 1)) ((C : Int) + 1) = ((min (A + 0) (min (B + 1) (C + 1)) : Nat) : Int) := by
  rw [mn_eq, mn_eq]
  omega
theorem three1 (A B C : Nat) : mn (mn ((A : Int) + 1) ((B : Int) + 1)) ((C : Int) + 1) = ((min (A + 1) (min (B + 1) (C + 1)) : Nat) : Int) := by
  rw [mn_eq, mn_eq]
  omega
theorem cellA (A B C X : Int) (h : X = min (A + 0) (min (B + 1) (C + 1))) : min A (1 + min B C) = X := by omega
theorem cellB (A B C X : Int) (h : X = min (A + 1) (min (B + 1) (C + 1))) : min (A + 1) (1 + min B C) = X := by omega
theorem wrapMin (A B : Int) (n : Nat) (hn : n ≤ 100000) (h1 : 0 ≤ A ∧ A ≤ n) (h2 : 0 ≤ B ∧ B ≤ n) : wrap64 (1 + min A B) = 1 + min A B := by
  unfold wrap64
  omega
/-- The program's distance. -/
theorem implDistance_eq (n : Nat) (hn : n ≤ 1000) : ∀ (k : Nat) (a b : ByteArray), a.size + b.size ≤ n → 2 * n + 2 ≤ k → impl_distance.f k a b = some (lev a.data.toList b.data.toList : Int) := by
  induction n with
  | zero =>
    intro k a b h hk
    obtain ⟨k, rfl⟩ : ∃ m, k = m + 2 := ⟨k - 2, by omega⟩
    have ha : a.data.toList = [] := List.eq_nil_of_length_eq_zero (by rw [size_data]; omega)
    simp only [impl_distance.f, impl_distance.j0]
    rw [Lib.toList_data, ha, if_pos rfl, if_pos trivial, lev_nil, size_data]
    congr 1
    unfold wrap64
    omega
  | succ n ih =>
    intro k a b h hk
    obtain ⟨k, rfl⟩ : ∃ m, k = m + 2 := ⟨k - 2, by omega⟩
    have ih := ih (by omega)
    simp only [impl_distance.f]
    have hA : (a.data.toList).length = a.size := size_data a
    have hB : (b.data.toList).length = b.size := size_data b
    rw [Lib.toList_data, Lib.toList_data]
    cases ha : a.data.toList with
    | nil =>
      rw [ha] at hA
      simp at hA
      rw [if_pos rfl]
      simp only [impl_distance.j0]
      rw [if_pos trivial, lev_nil, hB]
      congr 1
      unfold wrap64
      omega
    | cons x l =>
      rw [if_neg (by simp)]
      cases hb : b.data.toList with
      | nil =>
        rw [hb] at hB
        simp at hB
        simp only [impl_distance.j0]
        rw [if_pos (by rfl), lev_nil', ← ha, hA]
        congr 1
        unfold wrap64
        omega
      | cons y m =>
        rw [ha] at hA
        rw [hb] at hB
        simp only [List.length_cons] at hA hB
        simp only [impl_distance.j0]
        have ea : (a.extract 1 a.size).data.toList = l := by rw [ext1, ha]; rfl
        have eb : (b.extract 1 b.size).data.toList = m := by rw [ext1, hb]; rfl
        have sa : (a.extract 1 a.size).size = l.length := by rw [← size_data, ea]
        have sb : (b.extract 1 b.size).size = m.length := by rw [← size_data, eb]
        have i1 := ih k (a.extract 1 a.size) (b.extract 1 b.size) (by omega) (by omega)
        have i2 := ih k (a.extract 1 a.size) b (by omega) (by omega)
        have i3 := ih k a (b.extract 1 b.size) (by omega) (by omega)
        rw [ea, eb] at i1
        rw [ea, hb] at i2
        rw [ha, eb] at i3
        rw [i1, i2, i3, if_neg (by simp), if_pos (by omega), if_pos (by omega)]
        simp only [Option.bind_some]
        rw [if_pos (by omega), if_pos (by omega), bt_zero a x l ha, bt_zero b y m hb, lev_cons]
        have b1 := lev_bound l m
        have b2 := lev_bound l (y :: m)
        have b3 := lev_bound (x :: l) m
        simp only [List.length_cons] at b2 b3
        have w1 : wrap64 ((lev l (y :: m) : Int) + 1) = (lev l (y :: m) : Int) + 1 := by unfold wrap64; omega
        have w2 : wrap64 ((lev (x :: l) m : Int) + 1) = (lev (x :: l) m : Int) + 1 := by unfold wrap64; omega
        have w3 : wrap64 ((lev l m : Int) + 1) = (lev l m : Int) + 1 := by unfold wrap64; omega
        rw [w1, w2, w3]
        by_cases hxy : x = y
        · rw [if_pos ((nat_byte x y).2 hxy), if_pos hxy]
          exact congrArg some (three0 _ _ _)
        · rw [if_neg (fun h => hxy ((nat_byte x y).1 h)), if_neg hxy]
          exact congrArg some (three1 _ _ _)
/-- The reference's rows. -/
def cell (a b : ByteArray) (i j : Nat) : Int := (lev (a.data.toList.take i) (b.data.toList.take j) : Int)
theorem rd_range (f : Nat → Int) (m j : Nat) (h : j < m) : rd ((List.range m).map f) (j : Int) = f j := by
  unfold rd
  rw [Int.toNat_natCast, List.getD_eq_getElem?_getD, List.getElem?_map, List.getElem?_range h]
  rfl
theorem range_snoc (f : Nat → Int) (m : Nat) : (List.range m).map f ++ [f m] = (List.range (m + 1)).map f := by
  rw [List.range_succ, List.map_append]
  rfl
theorem take_snoc_ (l : List UInt8) (i : Nat) (h : i < l.length) : l.take (i + 1) = l.take i ++ [l[i]] := by
  rw [List.take_succ_eq_append_getElem h]
theorem cell_le (a b : ByteArray) (i j : Nat) : 0 ≤ cell a b i j ∧ cell a b i j ≤ i + j := by
  have h := lev_bound (a.data.toList.take i) (b.data.toList.take j)
  rw [List.length_take, List.length_take] at h
  unfold cell
  omega
theorem cell_succ (a b : ByteArray) (i j : Nat) (hi : i < a.size) (hj : j < b.size) : cell a b (i + 1) (j + 1) = min (cell a b i j + if bt a i = bt b j then 0 else 1) (min (cell a b i (j + 1) + 1) (cell a b (i + 1) j + 1)) := by
  have h1 : i < a.data.toList.length := by rw [size_data]; exact hi
  have h2 : j < b.data.toList.length := by rw [size_data]; exact hj
  unfold cell
  rw [take_snoc_ _ i h1, take_snoc_ _ j h2, lev_snoc, bt_get a i hi, bt_get b j hj]
  by_cases h : a.data.toList[i] = b.data.toList[j]
  · rw [if_pos h, if_pos ((nat_byte _ _).2 h)]
    omega
  · rw [if_neg h, if_neg (fun h' => h ((nat_byte _ _).1 h'))]
    omega
theorem cell_zero (a b : ByteArray) (j : Nat) (h : j ≤ b.size) : cell a b 0 j = j := by
  unfold cell
  rw [List.take_zero, lev_nil, List.length_take, size_data]
  omega
theorem cell_zero' (a b : ByteArray) (i : Nat) (h : i ≤ a.size) : cell a b i 0 = i := by
  unfold cell
  rw [List.take_zero, lev_nil', List.length_take, size_data]
  omega
theorem l1Least_eq (x y : Int) : spec_l1Least.f x y = some (min x y) := by
  unfold spec_l1Least.f
  by_cases h : x < y
  · rw [if_pos h]; congr 1; omega
  · rw [if_neg h]; congr 1; omega
theorem specDist_l2 (a b : ByteArray) (ha : a.size ≤ 1000) (hb : b.size ≤ 1000) (i : Nat) (hi : i < a.size) (r : Int)
    (next : ∀ k, 2 * (a.size - (i + 1)) * (b.size + 3) + 2 ≤ k → spec_l6Distance.l1 k a b ((List.range (b.size + 1)).map (cell a b (i + 1))) ((i + 2 : Nat) : Int) = some r) (d : Nat) :
    ∀ (k j : Nat), j + d = b.size → 2 * (a.size - (i + 1)) * (b.size + 3) + 3 + d ≤ k →
    spec_l6Distance.l2 k a b ((List.range (b.size + 1)).map (cell a b i)) ((i + 1 : Nat) : Int) ((List.range (j + 1)).map (cell a b (i + 1))) ((j + 1 : Nat) : Int) = some r := by
  induction d with
  | zero =>
    intro k j hj hk
    obtain ⟨k, rfl⟩ : ∃ m, k = m + 1 := ⟨k - 1, by omega⟩
    simp only [spec_l6Distance.l2]
    rw [if_neg (by omega), show j = b.size by omega, show wrap64 (((i + 1 : Nat) : Int) + 1) = ((i + 2 : Nat) : Int) by unfold wrap64; omega]
    exact next k (by omega)
  | succ d ih =>
    intro k j hj hk
    obtain ⟨k, rfl⟩ : ∃ m, k = m + 1 := ⟨k - 1, by omega⟩
    simp only [spec_l6Distance.l2]
    have w1 : wrap64 (((j + 1 : Nat) : Int) - 1) = (j : Int) := by unfold wrap64; omega
    have w2 : wrap64 (((i + 1 : Nat) : Int) - 1) = (i : Int) := by unfold wrap64; omega
    have w3 : wrap64 (((j + 1 : Nat) : Int) + 1) = ((j + 1 + 1 : Nat) : Int) := by unfold wrap64; omega
    rw [w1, w2, w3]
    have hl : ((List.range (b.size + 1)).map (cell a b i)).length = b.size + 1 := by simp
    have hl2 : ((List.range (j + 1)).map (cell a b (i + 1))).length = j + 1 := by simp
    rw [hl, hl2, if_pos (by omega), if_pos (by omega), if_pos (by omega), if_pos (by omega), if_pos (by omega), if_pos (by omega)]
    have g1 : (0 : Int) ≤ ((j + 1 : Nat) : Int) := by omega
    have g2 : ((j + 1 : Nat) : Int) < ((b.size + 1 : Nat) : Int) := by omega
    have g3 : (j : Int) < ((j + 1 : Nat) : Int) := by omega
    have g4 : j + 1 < 17592186044416 := by omega
    simp only [if_pos g1, if_pos g2, if_pos g3, if_pos g4]
    rw [rd_range _ _ (j + 1) (by omega), rd_range _ _ j (by omega), rd_range _ _ j (by omega)]
    have c1 := cell_le a b i j
    have c2 := cell_le a b i (j + 1)
    have c3 := cell_le a b (i + 1) j
    have cs := cell_succ a b i j hi (by omega)
    simp only [l1Least_eq, Option.bind_some]
    have e1 := wrapMin (cell a b i (j + 1)) (cell a b (i + 1) j) 2001 (by omega) (by omega) (by omega)
    have e2 : wrap64 (cell a b i j + 1) = cell a b i j + 1 := by clear cs e1; unfold wrap64; omega
    rw [e1, e2]
    clear e1 e2 c1 c2 c3
    by_cases h : bt a i = bt b j
    · rw [if_pos h]
      rw [if_pos h] at cs
      rw [cellA _ _ _ _ cs, range_snoc]
      clear cs
      exact ih k (j + 1) (by omega) (by omega)
    · rw [if_neg h]
      rw [if_neg h] at cs
      rw [cellB _ _ _ _ cs, range_snoc]
      clear cs
      exact ih k (j + 1) (by omega) (by omega)
theorem specDist_l1 (a b : ByteArray) (ha : a.size ≤ 1000) (hb : b.size ≤ 1000) (d : Nat) : ∀ (k i : Nat), i + d = a.size → 2 * d * (b.size + 3) + 2 ≤ k →
    spec_l6Distance.l1 k a b ((List.range (b.size + 1)).map (cell a b i)) ((i + 1 : Nat) : Int) = some (lev a.data.toList b.data.toList : Int) := by
  induction d with
  | zero =>
    intro k i hi hk
    obtain ⟨k, rfl⟩ : ∃ m, k = m + 1 := ⟨k - 1, by omega⟩
    simp only [spec_l6Distance.l1]
    rw [if_neg (by omega), if_pos (by omega), if_pos (by simp; omega), rd_range _ _ b.size (by omega)]
    unfold cell
    rw [List.take_of_length_le (by rw [size_data]; omega), List.take_of_length_le (by rw [size_data]; omega)]
  | succ d ih =>
    intro k i hi hk
    obtain ⟨k, rfl⟩ : ∃ m, k = m + 1 := ⟨k - 1, by omega⟩
    simp only [spec_l6Distance.l1]
    rw [if_pos (by omega)]
    have hs : ([((i + 1 : Nat) : Int)] : List Int) = (List.range (0 + 1)).map (cell a b (i + 1)) := by
      simp [cell_zero' a b (i + 1) (by omega)]
    have hd : a.size - (i + 1) = d := by omega
    have key : 2 * (d + 1) * (b.size + 3) = 2 * d * (b.size + 3) + 2 * (b.size + 3) := by
      rw [show 2 * (d + 1) = 2 * d + 2 by omega, Nat.add_mul]
    rw [hs]
    refine specDist_l2 a b ha hb i (by omega) _ (fun k' hk' => ?_) b.size k 0 (by omega) (by rw [hd]; omega)
    rw [hd] at hk'
    exact ih k' (i + 1) (by omega) hk'
theorem specDist_l0 (a b : ByteArray) (ha : a.size ≤ 1000) (hb : b.size ≤ 1000) (d : Nat) : ∀ (k j : Nat), j + d = b.size + 1 → 2 * a.size * (b.size + 3) + 4 + d ≤ k →
    spec_l6Distance.l0 k a b ((List.range j).map (cell a b 0)) (j : Int) = some (lev a.data.toList b.data.toList : Int) := by
  induction d with
  | zero =>
    intro k j hj hk
    obtain ⟨k, rfl⟩ : ∃ m, k = m + 1 := ⟨k - 1, by omega⟩
    simp only [spec_l6Distance.l0]
    rw [if_neg (by omega), show j = b.size + 1 by omega]
    exact specDist_l1 a b ha hb a.size k 0 (by omega) (by omega)
  | succ d ih =>
    intro k j hj hk
    obtain ⟨k, rfl⟩ : ∃ m, k = m + 1 := ⟨k - 1, by omega⟩
    simp only [spec_l6Distance.l0]
    rw [if_pos (by omega), if_pos (by simp; omega)]
    have e : ([(j : Int)] : List Int) = [cell a b 0 j] := by rw [cell_zero a b j (by omega)]
    rw [e, range_snoc, show wrap64 ((j : Int) + 1) = ((j + 1 : Nat) : Int) by unfold wrap64; omega]
    exact ih k (j + 1) (by omega) (by omega)
theorem specDistance_eq (a b : ByteArray) (ha : a.size ≤ 1000) (hb : b.size ≤ 1000) (k : Nat) (hk : 2 * a.size * (b.size + 3) + 5 + b.size ≤ k) : spec_l6Distance.f k a b = some (lev a.data.toList b.data.toList : Int) := by
  unfold spec_l6Distance.f
  exact specDist_l0 a b ha hb (b.size + 1) k 0 (by omega) (by omega)

/-! ### miss -/
theorem erase_at : ∀ (l : List Int) (q : Nat) (hq : q < l.length), l.Nodup → l.filter (fun x => !decide (x = l[q])) = l.take q ++ l.drop (q + 1) := by
  intro l
  induction l with
  | nil => intro q hq; exact absurd hq (by simp)
  | cons a l ih =>
    intro q hq hn
    rw [List.nodup_cons] at hn
    cases q with
    | zero =>
      have e : l.filter (fun x => !decide (x = a)) = l := List.filter_eq_self.2 (fun x hx => by
        have : x ≠ a := fun e => hn.1 (e ▸ hx)
        simp [this])
      simp [e]
    | succ q =>
      have hq' : q < l.length := by simpa using hq
      have h1 := ih q hq' hn.2
      have hne : a ≠ l[q] := fun e => hn.1 (e ▸ List.getElem_mem hq')
      rw [List.getElem_cons_succ, List.filter_cons, if_pos (by simp [hne]), h1]
      simp
theorem range_nodup (s c : Nat) : ((List.range' s c).map fun n : Nat => (n : Int)).Nodup := by
  rw [List.nodup_iff_pairwise_ne, List.pairwise_map]
  have h := List.nodup_range' (s := s) (n := c)
  rw [List.nodup_iff_pairwise_ne] at h
  exact h.imp (fun h e => h (by omega))
/-- Of c numbers from s on: those which a list lacks, and those which it holds. -/
theorem miss (s c : Nat) : ∀ u : List Int, u.Nodup → (∀ y ∈ u, (s : Int) ≤ y) → (((List.range' s c).map fun n : Nat => (n : Int)).filter fun x => !decide (x ∈ u)).length + (u.filter fun y => decide (y < ((s + c : Nat) : Int))).length = c := by
  intro u
  induction u with
  | nil =>
    intro _ _
    rw [List.filter_eq_self.2 (fun x _ => by simp)]
    simp
  | cons a u ih =>
    intro hn hs
    rw [List.nodup_cons] at hn
    have h1 := ih hn.2 (fun y hy => hs y (List.mem_cons_of_mem _ hy))
    have e : (((List.range' s c).map fun n : Nat => (n : Int)).filter fun x => !decide (x ∈ a :: u)) = (((List.range' s c).map fun n : Nat => (n : Int)).filter fun x => !decide (x ∈ u)).filter fun x => !decide (x = a) := by
      rw [List.filter_filter]
      congr 1
      funext x
      by_cases c1 : x = a
      · simp [c1]
      · by_cases c2 : x ∈ u
        · simp [c2]
        · simp [c1, c2]
    rw [e]
    have hnd : (((List.range' s c).map fun n : Nat => (n : Int)).filter fun x => !decide (x ∈ u)).Nodup := by
      have := range_nodup s c
      rw [List.nodup_iff_pairwise_ne] at this ⊢
      exact this.filter _
    have ha := hs a List.mem_cons_self
    by_cases c1 : a < ((s + c : Nat) : Int)
    · have hm : a ∈ (((List.range' s c).map fun n : Nat => (n : Int)).filter fun x => !decide (x ∈ u)) := by
        rw [List.mem_filter]
        refine ⟨List.mem_map.2 ⟨a.toNat, List.mem_range'_1.2 (by omega), by omega⟩, by simp [hn.1]⟩
      obtain ⟨q, hq, he⟩ := List.getElem_of_mem hm
      subst he
      rw [erase_at _ q hq hnd, List.length_append, List.length_take, List.length_drop, List.filter_cons, if_pos (by simpa using c1), List.length_cons]
      omega
    · rw [List.filter_eq_self.2 (fun x hx => by
        obtain ⟨n, hn1, rfl⟩ := List.mem_map.1 (List.mem_filter.1 hx).1
        rw [List.mem_range'_1] at hn1
        have : ¬ ((n : Int) = a) := by omega
        simp [this]), List.filter_cons, if_neg (by simpa using c1)]
      exact h1

/-! ### marksTable -/
theorem markTable_evt (l : List ByteArray) (hl : l.length ≤ 1099511627776) : ∃ y, Evt (fun k => laws_markTable.f k l 1) (((1 + l.length : Nat) : Int), y) := by
  obtain ⟨y, hy⟩ := markStringS_evt l hl
  exact ⟨y, Evt.bind hy (Evt.const _)⟩

def g (S : List Int) (k : Nat) : Int := S.getD k 0
theorem rd_g (S : List Int) (k : Nat) : rd S (k : Int) = g S k := by
  unfold rd g
  rw [Int.toNat_natCast]
theorem g_set (S : List Int) (k j : Nat) (v : Int) (h : k < S.length) : g (S.set k v) j = if j = k then v else g S j := by
  unfold g
  by_cases e : j = k
  · subst e
    simp [h]
  · rw [if_neg e]
    simp [List.getElem?_set, Ne.symm e, List.getD_eq_getElem?_getD]
theorem g_same (S : List Int) (k : Nat) (v : Int) (h : k < S.length) : g (S.set k v) k = v := by rw [g_set S k k v h, if_pos rfl]
theorem g_other (S : List Int) (k j : Nat) (v : Int) (h : k < S.length) (e : j ≠ k) : g (S.set k v) j = g S j := by rw [g_set S k j v h, if_neg e]
theorem g_repl (N : Nat) (k : Nat) (v : Int) (h : k < N) : g (List.replicate N v) k = v := by
  unfold g
  simp [List.getD_eq_getElem?_getD, h]
theorem least (p : Nat → Prop) : ∀ n, p n → ∃ m, p m ∧ ∀ j, j < m → ¬ p j := by
  intro n
  induction n using Nat.strongRecOn with
  | ind n ih =>
    intro h
    by_cases c : ∃ j, j < n ∧ p j
    · obtain ⟨j, hj, hp⟩ := c
      exact ih j hj hp
    · exact ⟨n, h, fun j hj hp => c ⟨j, hj, hp⟩⟩
structure Base (N tt : Nat) (A : Nat → Nat → Prop) (S : List Int) : Prop where
  len : S.length = N
  zero : g S tt = 0
  val : ∀ k, k < N → g S k = -1 ∨ 0 ≤ g S k
  pre : ∀ k, k < N → k ≠ tt → 0 ≤ g S k → 1 ≤ g S k ∧ ∃ i, i < N ∧ A i k ∧ g S i = g S k - 1
def Part (N : Nat) (A : Nat → Nat → Prop) (S : List Int) (n : Nat) : Prop := ∀ i k, i < N → k < N → 0 ≤ g S i → g S i < (n : Int) → A i k → 0 ≤ g S k ∧ g S k ≤ g S i + 1
theorem Base.put {N tt : Nat} {A : Nat → Nat → Prop} {S : List Int} (B : Base N tt A S) (i k : Nat) (v : Int) (hi : i < N) (hk : k < N) (h0 : 0 ≤ g S i) (h1 : g S k < 0) (ha : A i k) (hv : v = g S i + 1) : Base N tt A (S.set k v) := by
  have hl := B.len
  have hkl : k < S.length := by omega
  have hto : tt ≠ k := fun e => by have := B.zero; rw [e] at this; omega
  have hik : i ≠ k := fun e => by rw [e] at h0; omega
  refine ⟨by rw [List.length_set]; exact hl, by rw [g_other S k tt v hkl hto]; exact B.zero, fun j hj => ?_, fun j hj hjt hj0 => ?_⟩
  · by_cases e : j = k
    · subst e
      rw [g_same S j v hkl]
      omega
    · rw [g_other S k j v hkl e]
      exact B.val j hj
  · by_cases e : j = k
    · subst e
      rw [g_same S j v hkl] at hj0 ⊢
      exact ⟨by omega, i, hi, ha, by rw [g_other S j i v hkl hik]; omega⟩
    · rw [g_other S k j v hkl e] at hj0 ⊢
      obtain ⟨p1, q, q1, q2, q3⟩ := B.pre j hj hjt hj0
      exact ⟨p1, q, q1, q2, by rw [g_other S k q v hkl (fun e2 => by rw [e2] at q3; omega)]; exact q3⟩
theorem le_of {N tt : Nat} {A : Nat → Nat → Prop} {S S' : List Int} (B : Base N tt A S) (hz : g S' tt = 0) (n : Nat) (P : Part N A S' n) : ∀ (m k : Nat), k < N → g S k = (m : Int) → m ≤ n → 0 ≤ g S' k ∧ g S' k ≤ m := by
  intro m
  induction m with
  | zero =>
    intro k hk h _
    by_cases e : k = tt
    · subst e
      omega
    · have := (B.pre k hk e (by omega)).1
      omega
  | succ m ih =>
    intro k hk h hm
    by_cases e : k = tt
    · subst e
      omega
    · obtain ⟨p1, i, i1, i2, i3⟩ := B.pre k hk e (by omega)
      have h1 := ih i i1 (by omega) (by omega)
      have h2 := P i k i1 hk h1.1 (by omega) i2
      omega
theorem same_levels {N tt : Nat} {A : Nat → Nat → Prop} {S1 S2 : List Int} (B1 : Base N tt A S1) (P1 : Part N A S1 N) (B2 : Base N tt A S2) (P2 : ∀ n, Part N A S2 n) (hb : ∀ k, k < N → g S2 k ≤ N) : S1 = S2 := by
  have key : ∀ k, k < N → g S1 k = g S2 k := by
    intro k hk
    have a : 0 ≤ g S1 k → 0 ≤ g S2 k ∧ g S2 k ≤ g S1 k := fun h => by
      have := le_of B1 B2.zero (g S1 k).toNat (P2 _) (g S1 k).toNat k hk (by omega) (Nat.le_refl _)
      omega
    have b : 0 ≤ g S2 k → 0 ≤ g S1 k ∧ g S1 k ≤ g S2 k := fun h => by
      have h3 := hb k hk
      have := le_of B2 B1.zero N P1 (g S2 k).toNat k hk (by omega) (by omega)
      omega
    rcases B1.val k hk with h1 | h1 <;> rcases B2.val k hk with h2 | h2
    · omega
    · have := b h2; omega
    · have := a h1; omega
    · have := a h1; have := b h2; omega
  apply List.ext_getElem (by rw [B1.len, B2.len])
  intro k h1 h2
  have h3 := key k (by rw [← B1.len]; exact h1)
  unfold g at h3
  rw [List.getD_eq_getElem?_getD, List.getD_eq_getElem?_getD, List.getElem?_eq_getElem h1, List.getElem?_eq_getElem h2] at h3
  exact h3
/-- Are two letters one mark apart? -/
def adjL (l : List ByteArray) (i k : Nat) : Prop := lev (l.getD i ByteArray.empty).data.toList (l.getD k ByteArray.empty).data.toList = 1
theorem lev_symm (n : Nat) : ∀ a b : List UInt8, a.length + b.length ≤ n → lev a b = lev b a := by
  induction n with
  | zero =>
    intro a b h
    cases a with
    | nil => rw [lev_nil, lev_nil']
    | cons x a => simp at h
  | succ n ih =>
    intro a b h
    cases a with
    | nil => rw [lev_nil, lev_nil']
    | cons x a =>
      cases b with
      | nil => rw [lev_nil, lev_nil']
      | cons y b =>
        simp only [List.length_cons] at h
        rw [lev_cons, lev_cons, ih a b (by omega), ih a (y :: b) (by simp only [List.length_cons]; omega), ih (x :: a) b (by simp only [List.length_cons]; omega)]
        have e : (if x = y then 0 else 1) = (if y = x then 0 else 1) := by
          by_cases c : x = y
          · rw [if_pos c, if_pos c.symm]
          · rw [if_neg c, if_neg (fun e => c e.symm)]
        rw [e]
        omega
theorem getD_get (l : List ByteArray) (i : Nat) (h : i < l.length) : l.getD i ByteArray.empty = l[i] := by
  rw [List.getD_eq_getElem?_getD, List.getElem?_eq_getElem h]
  rfl
theorem size_okMarks1 (s : ByteArray) (h : okMarks s 1 5 = true) : s.size ≤ 5 := by
  unfold okMarks at h
  rw [Bool.and_eq_true, decide_eq_true_eq] at h
  omega
theorem specD (l : List ByteArray) (hl : okTable l = true) (i k : Nat) (hi : i < l.length) (hk : k < l.length) : Evt (fun n => spec_l6Distance.f n (rdOf ByteArray.empty l (i : Int)) (rdOf ByteArray.empty l (k : Int))) (lev (l.getD i ByteArray.empty).data.toList (l.getD k ByteArray.empty).data.toList : Int) := by
  have hof := (of_table l hl).2.2.1
  rw [rdOf_get _ _ _ hi, rdOf_get _ _ _ hk, getD_get l i hi, getD_get l k hk]
  have h1 := size_okMarks1 _ (hof _ (List.getElem_mem hi))
  have h2 := size_okMarks1 _ (hof _ (List.getElem_mem hk))
  exact ⟨2 * l[i].size * (l[k].size + 3) + 5 + l[k].size, fun n hn => specDistance_eq _ _ (by omega) (by omega) n hn⟩
theorem implD (l : List ByteArray) (hl : okTable l = true) (i k : Nat) (hi : i < l.length) (hk : k < l.length) : Evt (fun n => impl_distance.f n (rdOf ByteArray.empty l (k : Int)) (rdOf ByteArray.empty l (i : Int))) (lev (l.getD i ByteArray.empty).data.toList (l.getD k ByteArray.empty).data.toList : Int) := by
  have hof := (of_table l hl).2.2.1
  rw [rdOf_get _ _ _ hi, rdOf_get _ _ _ hk, getD_get l i hi, getD_get l k hk]
  have h1 := size_okMarks1 _ (hof _ (List.getElem_mem hi))
  have h2 := size_okMarks1 _ (hof _ (List.getElem_mem hk))
  rw [lev_symm _ l[i].data.toList l[k].data.toList (Nat.le_refl _)]
  exact ⟨22, fun n hn => implDistance_eq 10 (by omega) n _ _ (by omega) (by omega)⟩
structure InvS (N tt : Nat) (A : Nat → Nat → Prop) (S : List Int) (n i j : Nat) : Prop where
  base : Base N tt A S
  part : Part N A S n
  top : ∀ k, k < N → g S k ≤ (n : Int) + 1
  now : ∀ i' k, i' < N → k < N → g S i' = (n : Int) → (i' < i ∨ (i' = i ∧ k < j)) → A i' k → 0 ≤ g S k
theorem spec_l3 (l : List ByteArray) (hl : okTable l = true) (tt n : Nat) (hn : n < l.length) (i : Nat) (li : i < l.length) (d : Nat) : ∀ (j : Nat) (S : List Int), j ≤ l.length → l.length - j = d → InvS l.length tt (adjL l) S n i j → ∃ S', InvS l.length tt (adjL l) S' n (i + 1) 0 ∧ ∀ R, Evt (fun k => spec_l6Steps.l2 k S' n ((i + 1 : Nat) : Int) l) R → Evt (fun k => spec_l6Steps.l3 k S n i j l) R := by
  have hlen := (of_table l hl).2.1
  induction d with
  | zero =>
    intro j S hj hd I
    have hS := I.base.len
    refine ⟨S, ⟨I.base, I.part, I.top, fun i' k hi' hk h hh ha => I.now i' k hi' hk h (by omega) ha⟩, fun R h => Evt.succ (fun k => ?_) h⟩
    rw [spec_l6Steps.l3, if_neg (by omega), wrap_succ i (by omega)]
  | succ d ih =>
    intro j S hj hd I
    have hS := I.base.len
    have lj : j < l.length := by omega
    have skip : (g S i = (n : Int) → adjL l i j → 0 ≤ g S j) → ∃ S', InvS l.length tt (adjL l) S' n (i + 1) 0 ∧ ∀ R, Evt (fun k => spec_l6Steps.l2 k S' n ((i + 1 : Nat) : Int) l) R → Evt (fun k => spec_l6Steps.l3 k S n i ((j + 1 : Nat) : Int) l) R := by
      intro hno
      refine ih (j + 1) S (by omega) (by omega) ⟨I.base, I.part, I.top, fun i' k hi' hk h hh ha => ?_⟩
      by_cases c : i' = i ∧ k = j
      · obtain ⟨rfl, rfl⟩ := c
        exact hno h ha
      · exact I.now i' k hi' hk h (by omega) ha
    by_cases c1 : g S i = (n : Int)
    · by_cases c2 : g S j < 0
      · have hD := specD l hl i j li lj
        by_cases c3 : adjL l i j
        · have hjS : j < S.length := by omega
          have ho : ∀ q, q ≠ j → g (S.set j ((n : Int) + 1)) q = g S q := fun q hq => g_other S j q _ hjS hq
          have hj' : g (S.set j ((n : Int) + 1)) j = (n : Int) + 1 := g_same S j _ hjS
          obtain ⟨S', I', hR⟩ := ih (j + 1) (S.set j ((n : Int) + 1)) (by omega) (by omega) ⟨I.base.put i j _ li lj (by omega) c2 c3 (by omega), fun i' k hi' hk h0 h1 ha => by
              by_cases e : i' = j
              · subst e; omega
              · rw [ho i' e] at h0 h1 ⊢
                have := I.part i' k hi' hk h0 h1 ha
                by_cases e2 : k = j
                · subst e2; omega
                · rw [ho k e2]; exact this, fun k hk => by
              by_cases e : k = j
              · subst e; omega
              · rw [ho k e]; exact I.top k hk, fun i' k hi' hk h hh ha => by
              by_cases e2 : k = j
              · subst e2; omega
              · rw [ho k e2]
                by_cases e : i' = j
                · subst e; omega
                · rw [ho i' e] at h
                  exact I.now i' k hi' hk h (by omega) ha⟩
          refine ⟨S', I', fun R h => ?_⟩
          refine Evt.succ (h := fun k => (spec_l6Distance.f k (rdOf ByteArray.empty l i) (rdOf ByteArray.empty l j)).bind fun t178 => if t178 = 1 then spec_l6Steps.l3 k (S.set j ((n : Int) + 1)) n i ((j + 1 : Nat) : Int) l else spec_l6Steps.l3 k S n i ((j + 1 : Nat) : Int) l) (fun k => ?_) (Evt.bind hD (Evt.ite_pos (by unfold adjL at c3; omega) (hR R h)))
          rw [spec_l6Steps.l3, if_pos (by omega), if_pos (by omega), if_pos (by omega), rd_g, if_pos c1, if_pos (by omega), rd_g, if_pos c2, if_pos (by omega), if_pos (by omega), wrap_succ j (by omega), wrap_succ n (by omega), Int.toNat_natCast]
          rfl
        · obtain ⟨S', I', hR⟩ := skip (fun _ ha => absurd ha c3)
          refine ⟨S', I', fun R h => ?_⟩
          refine Evt.succ (h := fun k => (spec_l6Distance.f k (rdOf ByteArray.empty l i) (rdOf ByteArray.empty l j)).bind fun t178 => if t178 = 1 then spec_l6Steps.l3 k (S.set j ((n : Int) + 1)) n i ((j + 1 : Nat) : Int) l else spec_l6Steps.l3 k S n i ((j + 1 : Nat) : Int) l) (fun k => ?_) (Evt.bind hD (Evt.ite_neg (by unfold adjL at c3; omega) (hR R h)))
          rw [spec_l6Steps.l3, if_pos (by omega), if_pos (by omega), if_pos (by omega), rd_g, if_pos c1, if_pos (by omega), rd_g, if_pos c2, if_pos (by omega), if_pos (by omega), wrap_succ j (by omega), wrap_succ n (by omega), Int.toNat_natCast]
          rfl
      · obtain ⟨S', I', hR⟩ := skip (fun _ _ => by omega)
        refine ⟨S', I', fun R h => Evt.succ (fun k => ?_) (hR R h)⟩
        rw [spec_l6Steps.l3, if_pos (by omega), if_pos (by omega), if_pos (by omega), rd_g, if_pos c1, if_pos (by omega), rd_g, if_neg c2, wrap_succ j (by omega)]
    · obtain ⟨S', I', hR⟩ := skip (fun h => absurd h c1)
      refine ⟨S', I', fun R h => Evt.succ (fun k => ?_) (hR R h)⟩
      rw [spec_l6Steps.l3, if_pos (by omega), if_pos (by omega), if_pos (by omega), rd_g, if_neg c1, wrap_succ j (by omega)]
theorem spec_l2 (l : List ByteArray) (hl : okTable l = true) (tt n : Nat) (hn : n < l.length) (d : Nat) : ∀ (i : Nat) (S : List Int), i ≤ l.length → l.length - i = d → InvS l.length tt (adjL l) S n i 0 → ∃ S', InvS l.length tt (adjL l) S' (n + 1) 0 0 ∧ ∀ R, Evt (fun k => spec_l6Steps.l1 k S' ((n + 1 : Nat) : Int) l) R → Evt (fun k => spec_l6Steps.l2 k S n i l) R := by
  have hlen := (of_table l hl).2.1
  induction d with
  | zero =>
    intro i S hi hd I
    have hS := I.base.len
    refine ⟨S, ⟨I.base, fun i' k hi' hk h0 h1 ha => ?_, fun k hk => by have := I.top k hk; omega, fun i' k _ _ _ hh _ => by omega⟩, fun R h => Evt.succ (fun k => ?_) h⟩
    · by_cases c : g S i' = (n : Int)
      · have h2 := I.now i' k hi' hk c (by omega) ha
        have h3 := I.top k hk
        omega
      · exact I.part i' k hi' hk h0 (by omega) ha
    · rw [spec_l6Steps.l2, if_neg (by omega), wrap_succ n (by omega)]
  | succ d ih =>
    intro i S hi hd I
    have hS := I.base.len
    obtain ⟨S1, I1, h1⟩ := spec_l3 l hl tt n hn i (by omega) l.length 0 S (by omega) (by omega) I
    obtain ⟨S2, I2, h2⟩ := ih (i + 1) S1 (by omega) (by omega) I1
    exact ⟨S2, I2, fun R h => Evt.succ (h := fun k => spec_l6Steps.l3 k S n i ((0 : Nat) : Int) l) (fun k => by rw [spec_l6Steps.l2, if_pos (by omega)]; rfl) (h1 R (h2 R h))⟩
theorem spec_l1 (l : List ByteArray) (hl : okTable l = true) (tt : Nat) (d : Nat) : ∀ (n : Nat) (S : List Int), n ≤ l.length → l.length - n = d → InvS l.length tt (adjL l) S n 0 0 → ∃ S', Base l.length tt (adjL l) S' ∧ Part l.length (adjL l) S' l.length ∧ Evt (fun k => spec_l6Steps.l1 k S n l) S' := by
  have hlen := (of_table l hl).2.1
  induction d with
  | zero =>
    intro n S hn hd I
    have hS := I.base.len
    obtain rfl : n = l.length := by omega
    exact ⟨S, I.base, I.part, Evt.succ (fun k => by rw [spec_l6Steps.l1, if_neg (by omega)]) (Evt.const _)⟩
  | succ d ih =>
    intro n S hn hd I
    have hS := I.base.len
    obtain ⟨S1, I1, h1⟩ := spec_l2 l hl tt n (by omega) l.length 0 S (by omega) (by omega) I
    obtain ⟨S2, B2, P2, h2⟩ := ih (n + 1) S1 (by omega) (by omega) I1
    exact ⟨S2, B2, P2, Evt.succ (h := fun k => spec_l6Steps.l2 k S n ((0 : Nat) : Int) l) (fun k => by rw [spec_l6Steps.l1, if_pos (by omega)]; rfl) (h1 _ h2)⟩
theorem base_start (N tt : Nat) (A : Nat → Nat → Prop) (S : List Int) (hto : tt < N) (hS : S.length = N) (hm : ∀ k, k < N → g S k = -1) : Base N tt A (S.set tt 0) := by
  have hl : tt < S.length := by omega
  refine ⟨by rw [List.length_set]; exact hS, g_same S tt 0 hl, fun k hk => ?_, fun k hk e h => ?_⟩
  · by_cases e : k = tt
    · subst e
      rw [g_same S k 0 hl]
      omega
    · rw [g_other S tt k 0 hl e]
      exact .inl (hm k hk)
  · rw [g_other S tt k 0 hl e, hm k hk] at h
    omega
theorem spec_l0 (l : List ByteArray) (hl : okTable l = true) (tt : Nat) (hto : tt < l.length) (d : Nat) : ∀ (i : Nat) (S : List Int), i ≤ l.length → l.length - i = d → S.length = l.length → (∀ k, k < i → g S k = -1) → ∃ S', Base l.length tt (adjL l) S' ∧ Part l.length (adjL l) S' l.length ∧ Evt (fun k => spec_l6Steps.l0 k tt S i l) S' := by
  have hlen := (of_table l hl).2.1
  induction d with
  | zero =>
    intro i S hi hd hS hm
    obtain rfl : i = l.length := by omega
    have B := base_start l.length tt (adjL l) S hto hS hm
    obtain ⟨S', B', P', h'⟩ := spec_l1 l hl tt l.length 0 (S.set tt 0) (by omega) (by omega) ⟨B, fun i' k _ _ h0 h1 _ => by omega, fun k hk => by
      by_cases e : k = tt
      · subst e
        rw [g_same S k 0 (by omega)]
        omega
      · rw [g_other S tt k 0 (by omega) e, hm k hk]
        omega, fun i' k _ _ _ hh _ => by omega⟩
    refine ⟨S', B', P', Evt.succ (h := fun k => spec_l6Steps.l1 k (S.set tt 0) ((0 : Nat) : Int) l) (fun k => ?_) h'⟩
    rw [spec_l6Steps.l0, if_neg (by omega), if_pos (by omega), if_pos (by omega), Int.toNat_natCast]
    rfl
  | succ d ih =>
    intro i S hi hd hS hm
    obtain ⟨S', B', P', h'⟩ := ih (i + 1) (S.set i (-1)) (by omega) (by omega) (by rw [List.length_set]; exact hS) (fun k hk => by
      by_cases e : k = i
      · subst e
        rw [g_same S k _ (by omega)]
      · rw [g_other S i k _ (by omega) e]
        exact hm k (by omega))
    refine ⟨S', B', P', Evt.succ (fun k => ?_) h'⟩
    rw [spec_l6Steps.l0, if_pos (by omega), if_pos (by omega), Int.toNat_natCast, wrap_succ i (by omega)]
theorem specSteps_evt (l : List ByteArray) (hl : okTable l = true) (tt : Nat) (hto : tt < l.length) : ∃ S', Base l.length tt (adjL l) S' ∧ Part l.length (adjL l) S' l.length ∧ Evt (fun k => spec_l6Steps.f k l tt) S' := by
  have hlen := (of_table l hl).2.1
  obtain ⟨S', B', P', h'⟩ := spec_l0 l hl tt hto l.length 0 (List.replicate l.length 0) (by omega) (by omega) (by rw [List.length_replicate]) (fun k hk => by omega)
  refine ⟨S', B', P', h'.of_eq (fun k => ?_)⟩
  unfold spec_l6Steps.f
  rw [if_pos (by omega), if_pos (by omega), Int.toNat_natCast]
  rfl
/-- What a queue holds at a place. -/
def q (Q : List Nat) (j : Nat) : Nat := Q.getD j 0
def Qi (Q : List Nat) : List Int := Q.map fun n : Nat => (n : Int)
theorem rd_Qi (Q : List Nat) (j : Nat) (h : j < Q.length) : rd (Qi Q) (j : Int) = (q Q j : Int) := by
  unfold rd Qi q
  rw [Int.toNat_natCast, List.getD_eq_getElem?_getD, List.getD_eq_getElem?_getD, List.getElem?_map, List.getElem?_eq_getElem h]
  rfl
theorem Qi_len (Q : List Nat) : (Qi Q).length = Q.length := List.length_map _
theorem q_old (Q : List Nat) (k j : Nat) (h : j < Q.length) : q (Q ++ [k]) j = q Q j := by
  unfold q
  rw [List.getD_eq_getElem?_getD, List.getD_eq_getElem?_getD, List.getElem?_append_left h]
theorem q_new (Q : List Nat) (k : Nat) : q (Q ++ [k]) Q.length = k := by
  unfold q
  rw [List.getD_eq_getElem?_getD, List.getElem?_append_right (Nat.le_refl _)]
  simp
theorem q_mem (Q : List Nat) (j : Nat) (h : j < Q.length) : q Q j ∈ Q := by
  unfold q
  rw [List.getD_eq_getElem?_getD, List.getElem?_eq_getElem h]
  exact List.getElem_mem h
theorem mem_q (Q : List Nat) (x : Nat) (h : x ∈ Q) : ∃ j, j < Q.length ∧ q Q j = x := by
  obtain ⟨j, hj, e⟩ := List.getElem_of_mem h
  refine ⟨j, hj, ?_⟩
  unfold q
  rw [List.getD_eq_getElem?_getD, List.getElem?_eq_getElem hj]
  exact e
structure InvQ (N tt : Nat) (A : Nat → Nat → Prop) (F : List Int) (Q : List Nat) (i kk : Nat) : Prop where
  base : Base N tt A F
  nod : Q.Nodup
  mem : ∀ x, x ∈ Q → x < N ∧ 0 ≤ g F x
  all : ∀ k, k < N → 0 ≤ g F k → k ∈ Q
  pos : ∀ j, j < Q.length → g F (q Q j) ≤ (j : Int)
  mono : ∀ j j', j ≤ j' → j' < Q.length → g F (q Q j) ≤ g F (q Q j')
  near : i < Q.length → ∀ j, j < Q.length → g F (q Q j) ≤ g F (q Q i) + 1
  done : ∀ j k, j < Q.length → k < N → (j < i ∨ (j = i ∧ k < kk)) → A (q Q j) k → 0 ≤ g F k ∧ g F k ≤ g F (q Q j) + 1
theorem InvQ.few {N tt : Nat} {A : Nat → Nat → Prop} {F : List Int} {Q : List Nat} {i kk : Nat} (I : InvQ N tt A F Q i kk) : Q.length ≤ N := by
  have hn : (Qi Q).Nodup := by
    have h := I.nod
    unfold Qi
    rw [List.nodup_iff_pairwise_ne] at h ⊢
    rw [List.pairwise_map]
    exact h.imp (fun h e => h (by omega))
  have h1 := miss 0 N (Qi Q) hn (fun y hy => by
    obtain ⟨n, _, rfl⟩ := List.mem_map.1 hy
    omega)
  have h2 : (Qi Q).filter (fun y => decide (y < ((0 + N : Nat) : Int))) = Qi Q := List.filter_eq_self.2 (fun y hy => by
    obtain ⟨n, hn, rfl⟩ := List.mem_map.1 hy
    have := (I.mem n hn).1
    simp only [decide_eq_true_eq]
    omega)
  rw [h2, Qi_len] at h1
  omega
theorem impl_l1 (l : List ByteArray) (hl : okTable l = true) (x1 : Int) (tt i : Nat) (d : Nat) : ∀ (k : Nat) (F : List Int) (Q : List Nat), k ≤ l.length → l.length - k = d → i < Q.length → InvQ l.length tt (adjL l) F Q i k → ∃ F' Q', InvQ l.length tt (adjL l) F' Q' (i + 1) 0 ∧ ∀ R, Evt (fun n => impl_MistakeChain.l0 n x1 tt F' (Qi Q') ((i + 1 : Nat) : Int) l) R → Evt (fun n => impl_MistakeChain.l1 n x1 tt F (Qi Q) i l l.length k l) R := by
  have hlen := (of_table l hl).2.1
  induction d with
  | zero =>
    intro k F Q hk hd hi I
    have hS := I.base.len
    have hf := I.few
    refine ⟨F, Q, ⟨I.base, I.nod, I.mem, I.all, I.pos, I.mono, fun hi' j hj => ?_, fun j k' hj hk' hh ha => I.done j k' hj hk' (by omega) ha⟩, fun R h => Evt.succ (fun n => ?_) h⟩
    · have h1 := I.near hi j hj
      have h2 := I.mono i (i + 1) (by omega) hi'
      omega
    · rw [impl_MistakeChain.l1, if_neg (by omega), wrap_succ i (by omega)]
  | succ d ih =>
    intro k F Q hk hd hi I
    have hS := I.base.len
    have hf := I.few
    have lk : k < l.length := by omega
    have hu := I.mem _ (q_mem Q i hi)
    have skip : (adjL l (q Q i) k → 0 ≤ g F k) → ∃ F' Q', InvQ l.length tt (adjL l) F' Q' (i + 1) 0 ∧ ∀ R, Evt (fun n => impl_MistakeChain.l0 n x1 tt F' (Qi Q') ((i + 1 : Nat) : Int) l) R → Evt (fun n => impl_MistakeChain.l1 n x1 tt F (Qi Q) i l l.length ((k + 1 : Nat) : Int) l) R := by
      intro hno
      refine ih (k + 1) F Q (by omega) (by omega) hi ⟨I.base, I.nod, I.mem, I.all, I.pos, I.mono, I.near, fun j k' hj hk' hh ha => ?_⟩
      by_cases c : j = i ∧ k' = k
      · obtain ⟨rfl, rfl⟩ := c
        have h1 := hno ha
        obtain ⟨p, hp, e⟩ := mem_q Q k' (I.all k' hk' h1)
        have h2 := I.near hj p hp
        rw [e] at h2
        exact ⟨h1, h2⟩
      · exact I.done j k' hj hk' (by omega) ha
    by_cases c2 : g F k < 0
    · have hD := implD l hl (q Q i) k hu.1 lk
      have step : ∀ n, impl_MistakeChain.l1 (n + 1) x1 tt F (Qi Q) i l l.length k l = (impl_distance.f n (rdOf ByteArray.empty l (k : Int)) (rdOf ByteArray.empty l (q Q i : Int))).bind fun t240 => if t240 = 1 then impl_MistakeChain.l1 n x1 tt (F.set k (g F (q Q i) + 1)) (Qi (Q ++ [k])) i l l.length ((k + 1 : Nat) : Int) l else impl_MistakeChain.l1 n x1 tt F (Qi Q) i l l.length ((k + 1 : Nat) : Int) l := by
        intro n
        have hpos := I.pos i hi
        have e1 : wrap64 (g F (q Q i) + 1) = g F (q Q i) + 1 := by unfold wrap64; omega
        have e2 : Qi (Q ++ [k]) = Qi Q ++ [(k : Int)] := by unfold Qi; rw [List.map_append]; rfl
        rw [impl_MistakeChain.l1, if_pos (by omega), if_pos (by omega), if_pos (by omega), if_pos (by omega), rd_g, if_pos c2, if_pos (by omega), Qi_len, if_pos (by omega), rd_Qi Q i hi, if_pos (by omega), if_pos (by omega), if_pos (by omega), if_pos (by omega), rd_g, e1, wrap_succ k (by omega), Int.toNat_natCast, e2]
      by_cases c3 : adjL l (q Q i) k
      · have hkF : k < F.length := by omega
        have ho : ∀ x, x ≠ k → g (F.set k (g F (q Q i) + 1)) x = g F x := fun x hx => g_other F k x _ hkF hx
        have hj' : g (F.set k (g F (q Q i) + 1)) k = g F (q Q i) + 1 := g_same F k _ hkF
        have hne : ∀ x, x ∈ Q → x ≠ k := fun x hx e => by
          have := (I.mem x hx).2
          rw [e] at this
          omega
        have hq : ∀ j, j < Q.length → g (F.set k (g F (q Q i) + 1)) (q (Q ++ [k]) j) = g F (q Q j) := fun j hj => by
          rw [q_old Q k j hj, ho _ (hne _ (q_mem Q j hj))]
        have hql : g (F.set k (g F (q Q i) + 1)) (q (Q ++ [k]) Q.length) = g F (q Q i) + 1 := by rw [q_new, hj']
        have hL : (Q ++ [k]).length = Q.length + 1 := by simp
        obtain ⟨F', Q', I', hR⟩ := ih (k + 1) (F.set k (g F (q Q i) + 1)) (Q ++ [k]) (by omega) (by omega) (by omega) ⟨I.base.put (q Q i) k _ hu.1 lk hu.2 c2 c3 rfl, by
            rw [List.nodup_append]
            refine ⟨I.nod, by simp, fun a ha b hb => ?_⟩
            rw [List.mem_singleton] at hb
            subst hb
            exact hne a ha, fun x hx => by
            rcases List.mem_append.1 hx with hx | hx
            · rw [ho x (hne x hx)]
              exact I.mem x hx
            · rw [List.mem_singleton] at hx
              subst hx
              rw [hj']
              exact ⟨lk, by omega⟩, fun x hx h0 => by
            by_cases e : x = k
            · subst e
              simp
            · rw [ho x e] at h0
              exact List.mem_append_left _ (I.all x hx h0), fun j hj => by
            by_cases e : j = Q.length
            · subst e
              rw [hql]
              have := I.pos i hi
              omega
            · rw [hq j (by omega)]
              exact I.pos j (by omega), fun j j' hjj hj => by
            by_cases e : j' = Q.length
            · subst e
              rw [hql]
              by_cases e2 : j = Q.length
              · subst e2
                rw [hql]
                exact Int.le_refl _
              · rw [hq j (by omega)]
                exact I.near hi j (by omega)
            · rw [hq j' (by omega), hq j (by omega)]
              exact I.mono j j' hjj (by omega), fun _ j hj => by
            rw [hq i hi]
            by_cases e : j = Q.length
            · subst e
              rw [hql]
              exact Int.le_refl _
            · rw [hq j (by omega)]
              exact I.near hi j (by omega), fun j k' hj hk' hh ha => by
            have hjl : j < Q.length := by omega
            rw [hq j hjl]
            rw [q_old Q k j hjl] at ha
            by_cases e : k' = k
            · subst e
              rw [hj']
              by_cases e2 : j = i
              · subst e2
                omega
              · have := I.done j k' hjl hk' (by omega) ha
                omega
            · rw [ho k' e]
              exact I.done j k' hjl hk' (by omega) ha⟩
        refine ⟨F', Q', I', fun R h => Evt.succ step (Evt.bind hD (Evt.ite_pos (by unfold adjL at c3; omega) (hR R h)))⟩
      · obtain ⟨F', Q', I', hR⟩ := skip (fun ha => absurd ha c3)
        exact ⟨F', Q', I', fun R h => Evt.succ step (Evt.bind hD (Evt.ite_neg (by unfold adjL at c3; omega) (hR R h)))⟩
    · obtain ⟨F', Q', I', hR⟩ := skip (fun _ => by omega)
      refine ⟨F', Q', I', fun R h => Evt.succ (fun n => ?_) (hR R h)⟩
      rw [impl_MistakeChain.l1, if_pos (by omega), if_pos (by omega), if_pos (by omega), if_pos (by omega), rd_g, if_neg c2, wrap_succ k (by omega)]
def tailI (n : Nat) (x1 : Int) (tt : Nat) (F : List Int) (l : List ByteArray) : Option (List Int × Bool) := if 0 ≤ x1 then (if x1 < (F.length : Int) then (if (rd F x1) < 0 then (some (([] : List Int), false)) else (impl_MistakeChain.l2 n tt F (([x1] : List Int)) x1 l)) else (none)) else (none)
theorem impl_l0 (l : List ByteArray) (hl : okTable l = true) (x1 : Int) (tt : Nat) (d : Nat) : ∀ (i : Nat) (F : List Int) (Q : List Nat), i ≤ l.length → l.length - i = d → InvQ l.length tt (adjL l) F Q i 0 → ∃ F', Base l.length tt (adjL l) F' ∧ (∀ n, Part l.length (adjL l) F' n) ∧ (∀ k, k < l.length → g F' k ≤ l.length) ∧ ∀ R, Evt (fun n => tailI n x1 tt F' l) R → Evt (fun n => impl_MistakeChain.l0 n x1 tt F (Qi Q) i l) R := by
  have hlen := (of_table l hl).2.1
  have fin : ∀ (i : Nat) (F : List Int) (Q : List Nat), Q.length ≤ i → InvQ l.length tt (adjL l) F Q i 0 → ∃ F', Base l.length tt (adjL l) F' ∧ (∀ n, Part l.length (adjL l) F' n) ∧ (∀ k, k < l.length → g F' k ≤ l.length) ∧ ∀ R, Evt (fun n => tailI n x1 tt F' l) R → Evt (fun n => impl_MistakeChain.l0 n x1 tt F (Qi Q) i l) R := by
    intro i F Q hi I
    have hf := I.few
    refine ⟨F, I.base, fun n i' k hi' hk h0 _ ha => ?_, fun k hk => ?_, fun R h => Evt.succ (fun n => ?_) h⟩
    · obtain ⟨j, hj, e⟩ := mem_q Q i' (I.all i' hi' h0)
      subst e
      exact I.done j k hj hk (by omega) ha
    · rcases I.base.val k hk with h | h
      · omega
      · obtain ⟨j, hj, e⟩ := mem_q Q k (I.all k hk h)
        have := I.pos j hj
        rw [e] at this
        omega
    · unfold tailI
      rw [impl_MistakeChain.l0, Qi_len, if_neg (by omega)]
  induction d with
  | zero =>
    intro i F Q hi hd I
    have hf := I.few
    exact fin i F Q (by omega) I
  | succ d ih =>
    intro i F Q hi hd I
    by_cases c : i < Q.length
    · obtain ⟨F1, Q1, I1, h1⟩ := impl_l1 l hl x1 tt i l.length 0 F Q (by omega) (by omega) c I
      obtain ⟨F2, B2, P2, T2, h2⟩ := ih (i + 1) F1 Q1 (by omega) (by omega) I1
      refine ⟨F2, B2, P2, T2, fun R h => Evt.succ (h := fun n => impl_MistakeChain.l1 n x1 tt F (Qi Q) i l l.length ((0 : Nat) : Int) l) (fun n => ?_) (h1 R (h2 R h))⟩
      rw [impl_MistakeChain.l0, Qi_len, if_pos (by omega)]
      rfl
    · exact fin i F Q (by omega) I
theorem implFar_evt (l : List ByteArray) (hl : okTable l = true) (x1 : Int) (tt : Nat) (htt : tt < l.length) : ∃ F', Base l.length tt (adjL l) F' ∧ (∀ n, Part l.length (adjL l) F' n) ∧ (∀ k, k < l.length → g F' k ≤ l.length) ∧ ∀ R, Evt (fun n => tailI n x1 tt F' l) R → Evt (fun n => impl_MistakeChain.j0 n x1 tt false l) R := by
  have hlen := (of_table l hl).2.1
  have hrl : (List.replicate l.length (-1 : Int)).length = l.length := List.length_replicate
  have B := base_start l.length tt (adjL l) (List.replicate l.length (-1)) htt hrl (fun k hk => g_repl _ k _ hk)
  have hz := B.zero
  have hv : ∀ k, k < l.length → 0 ≤ g ((List.replicate l.length (-1 : Int)).set tt 0) k → k = tt := fun k hk h => by
    by_cases e : k = tt
    · exact e
    · rw [g_other _ tt k 0 (by omega) e, g_repl _ k _ hk] at h
      omega
  have q0 : q [tt] 0 = tt := rfl
  obtain ⟨F', B', P', T', h'⟩ := impl_l0 l hl x1 tt l.length 0 ((List.replicate l.length (-1)).set tt 0) [tt] (by omega) (by omega) ⟨B, by simp, fun x hx => by
      rw [List.mem_singleton] at hx
      subst hx
      exact ⟨htt, by omega⟩, fun k hk h => by
      rw [hv k hk h]
      simp, fun j hj => by
      obtain rfl : j = 0 := by simpa using hj
      rw [q0]
      omega, fun j j' h1 h2 => by
      obtain rfl : j' = 0 := by simpa using h2
      obtain rfl : j = 0 := by omega
      exact Int.le_refl _, fun _ j hj => by
      obtain rfl : j = 0 := by simpa using hj
      omega, fun j k _ _ hh _ => by omega⟩
  refine ⟨F', B', P', T', fun R h => Evt.succ (h := fun n => impl_MistakeChain.l0 n x1 tt ((List.replicate l.length (-1)).set tt 0) (Qi [tt]) ((0 : Nat) : Int) l) (fun n => ?_) (h' R h)⟩
  have e : slices_Repeat_int_int.f [(-1 : Int)] (l.length : Int) = some (List.replicate l.length (-1)) := by
    unfold slices_Repeat_int_int.f
    rw [if_pos ⟨rfl, by omega, by omega⟩, Int.toNat_natCast]
    rfl
  rw [impl_MistakeChain.j0, if_neg (by simp), e, Option.bind_some, if_pos (by omega), if_pos (by rw [hrl]; omega), Int.toNat_natCast]
  rfl
/-- The way back: both take the first letter one step nearer. -/
theorem walk (l : List ByteArray) (hl : okTable l = true) (tt : Nat) (S : List Int) (B : Base l.length tt (adjL l) S) (m : Nat) : ∀ (a : Nat) (out : List Int), a < l.length → g S a = (m : Int) → out.length + m ≤ 100 → m ≤ 50 → ∃ r : List Int × Bool, Evt (fun k => spec_MistakeChain.l0 k tt S out a l) r ∧ Evt (fun k => impl_MistakeChain.l2 k tt S out a l) r ∧ r.1.length ≤ 100 := by
  have hlen := (of_table l hl).2.1
  have hS := B.len
  induction m with
  | zero =>
    intro a out ha hg ho _
    have e : a = tt := by
      by_cases e : a = tt
      · exact e
      · have := (B.pre a ha e (by omega)).1
        omega
    subst e
    refine ⟨(out, true), Evt.succ (fun k => by rw [spec_MistakeChain.l0, if_pos rfl]) (Evt.const _), Evt.succ (fun k => by rw [impl_MistakeChain.l2, if_pos rfl]) (Evt.const _), by show out.length ≤ 100; omega⟩
  | succ m ih =>
    intro a out ha hg ho hm
    have hne : a ≠ tt := fun e => by
      have := B.zero
      rw [← e] at this
      omega
    have hw : wrap64 (g S a - 1) = (m : Int) := by unfold wrap64; omega
    obtain ⟨_, i, i1, i2, i3⟩ := B.pre a ha hne (by omega)
    have sym : ∀ i, adjL l a i ↔ adjL l i a := fun i => by
      unfold adjL
      rw [lev_symm _ _ _ (Nat.le_refl _)]
    obtain ⟨nx, ⟨n1, n2, n3⟩, nl⟩ := least (fun i => i < l.length ∧ adjL l a i ∧ g S i = (m : Int)) i ⟨i1, (sym i).2 i2, by omega⟩
    obtain ⟨r, r1, r2, r3⟩ := ih nx (out ++ [(nx : Int)]) n1 n3 (by rw [List.length_append, List.length_singleton]; omega) (by omega)
    refine ⟨r, ?_, ?_, r3⟩
    · have go : ∀ (c : Nat) (x : Int), c ≤ l.length → (nx < c ∨ x = (nx : Int)) → Evt (fun k => spec_MistakeChain.l1 k tt S out a x ((c : Int) - 1) l) r := by
        intro c
        induction c with
        | zero =>
          intro x _ h
          have hx : x = (nx : Int) := h.resolve_left (by omega)
          subst hx
          refine Evt.succ (fun k => ?_) r1
          rw [spec_MistakeChain.l1, if_neg (by omega), if_pos (by omega)]
        | succ c ihc =>
          intro x hc h
          have lc : c < l.length := by omega
          have ec : ((c + 1 : Nat) : Int) - 1 = (c : Int) := by omega
          have ew : wrap64 ((c : Int) - 1) = (c : Int) - 1 := by unfold wrap64; omega
          rw [ec]
          have hD := specD l hl a c ha lc
          by_cases c1 : g S c = (m : Int)
          · have step : ∀ k, spec_MistakeChain.l1 (k + 1) tt S out a x c l = (spec_l6Distance.f k (rdOf ByteArray.empty l (a : Int)) (rdOf ByteArray.empty l (c : Int))).bind fun t200 => if t200 = 1 then spec_MistakeChain.l1 k tt S out a c ((c : Int) - 1) l else spec_MistakeChain.l1 k tt S out a x ((c : Int) - 1) l := by
              intro k
              rw [spec_MistakeChain.l1, if_pos (by omega), if_pos (by omega), if_pos (by omega), if_pos (by omega), if_pos (by omega), rd_g, rd_g, hw, if_pos c1, if_pos (by omega), if_pos (by omega), ew]
            by_cases c2 : adjL l a c
            · have hle : nx ≤ c := by
                by_cases q : c < nx
                · exact absurd ⟨lc, c2, c1⟩ (nl c q)
                · omega
              exact Evt.succ step (Evt.bind hD (Evt.ite_pos (by unfold adjL at c2; omega) (ihc c (by omega) (by omega))))
            · have hnc : nx ≠ c := fun e => c2 (e ▸ n2)
              exact Evt.succ step (Evt.bind hD (Evt.ite_neg (by unfold adjL at c2; omega) (ihc x (by omega) (by omega))))
          · have hnc : nx ≠ c := fun e => c1 (e ▸ n3)
            refine Evt.succ (fun k => ?_) (ihc x (by omega) (by omega))
            rw [spec_MistakeChain.l1, if_pos (by omega), if_pos (by omega), if_pos (by omega), if_pos (by omega), if_pos (by omega), rd_g, rd_g, hw, if_neg c1, ew]
      refine Evt.succ (fun k => ?_) (go l.length (-1) (Nat.le_refl _) (.inl n1))
      rw [spec_MistakeChain.l0, if_neg (by omega), hS, show wrap64 ((l.length : Int) - 1) = (l.length : Int) - 1 by unfold wrap64; omega]
    · have go : ∀ (d j : Nat), nx - j = d → j ≤ nx → Evt (fun k => impl_MistakeChain.l3 k tt S out a j l) r := by
        intro d
        induction d with
        | zero =>
          intro j hd hj
          obtain rfl : j = nx := by omega
          have hD := implD l hl a j ha n1
          refine Evt.succ (h := fun k => (impl_distance.f k (rdOf ByteArray.empty l (j : Int)) (rdOf ByteArray.empty l (a : Int))).bind fun t255 => if t255 = 1 then (if out.length < 17592186044416 then impl_MistakeChain.l2 k tt S (out ++ [(j : Int)]) j l else none) else impl_MistakeChain.l3 k tt S out a ((j + 1 : Nat) : Int) l) (fun k => ?_) (Evt.bind hD (Evt.ite_pos (by unfold adjL at n2; omega) (Evt.ite_pos (by omega) r2)))
          rw [impl_MistakeChain.l3, if_pos (by omega), if_pos (by omega), if_pos (by omega), if_pos (by omega), rd_g, rd_g, hw, if_pos n3, if_pos (by omega), if_pos (by omega), wrap_succ j (by omega)]
        | succ d ihd =>
          intro j hd hj
          have h1 := ihd (j + 1) (by omega) (by omega)
          by_cases c1 : g S j = (m : Int)
          · have c2 : ¬ adjL l a j := fun h => nl j (by omega) ⟨by omega, h, c1⟩
            have hD := implD l hl a j ha (by omega)
            refine Evt.succ (h := fun k => (impl_distance.f k (rdOf ByteArray.empty l (j : Int)) (rdOf ByteArray.empty l (a : Int))).bind fun t255 => if t255 = 1 then (if out.length < 17592186044416 then impl_MistakeChain.l2 k tt S (out ++ [(j : Int)]) j l else none) else impl_MistakeChain.l3 k tt S out a ((j + 1 : Nat) : Int) l) (fun k => ?_) (Evt.bind hD (Evt.ite_neg (by unfold adjL at c2; omega) h1))
            rw [impl_MistakeChain.l3, if_pos (by omega), if_pos (by omega), if_pos (by omega), if_pos (by omega), rd_g, rd_g, hw, if_pos c1, if_pos (by omega), if_pos (by omega), wrap_succ j (by omega)]
          · refine Evt.succ (fun k => ?_) h1
            rw [impl_MistakeChain.l3, if_pos (by omega), if_pos (by omega), if_pos (by omega), if_pos (by omega), rd_g, rd_g, hw, if_neg c1, wrap_succ j (by omega)]
      refine Evt.succ (h := fun k => impl_MistakeChain.l3 k tt S out a ((0 : Nat) : Int) l) (fun k => ?_) (go nx 0 (by omega) (by omega))
      rw [impl_MistakeChain.l2, if_neg (by omega)]
      rfl
theorem same_evt (l : List ByteArray) (hl : l.length ≤ 1048576) (a1 a2 : Int) (_ : (Lit.int .i64 a1).wf = true) (_ : (Lit.int .i64 a2).wf = true) : ∃ r : List Int × Bool, Evt (fun k => spec_MistakeChain.f k l a1 a2) r ∧ Evt (fun k => impl_MistakeChain.f k l a1 a2) r ∧ r.1.length ≤ 1099511627776 := by
  have s1 := specLetter6_evt l hl a1
  have s2 := specLetter6_evt l hl a2
  have t := implTable_evt l (by omega)
  have i1 := implIsLetter6_evt l hl a1
  have i2 := implIsLetter6_evt l hl a2
  have n1 : Evt (fun k => spec_MistakeChain.j0 k a1 a2 true l) ([], false) := Evt.succ (fun k => by rw [spec_MistakeChain.j0, if_pos rfl]) (Evt.const _)
  have n2 : Evt (fun k => impl_MistakeChain.j0 k a1 a2 true l) ([], false) := Evt.succ (fun k => by rw [impl_MistakeChain.j0, if_pos rfl]) (Evt.const _)
  cases ht : okTable l with
  | false =>
    rw [ht] at s1 s2 t
    exact ⟨([], false), Evt.bind s1 (Evt.ite_neg (by simp) n1), Evt.bind t (Evt.ite_neg (by simp) n2), by simp⟩
  | true =>
    rw [ht] at s1 s2 t
    cases c1 : isL6 l a1 with
    | false =>
      rw [c1] at s1 i1
      exact ⟨([], false), Evt.bind s1 (Evt.ite_neg (by simp) n1), Evt.bind t (Evt.ite_pos rfl (Evt.bind i1 (Evt.ite_neg (by simp) n2))), by simp⟩
    | true =>
      rw [c1] at s1 i1
      cases c2 : isL6 l a2 with
      | false =>
        rw [c2] at s2 i2
        exact ⟨([], false), Evt.bind s1 (Evt.ite_pos rfl (Evt.bind s2 n1)), Evt.bind t (Evt.ite_pos rfl (Evt.bind i1 (Evt.ite_pos rfl (Evt.bind i2 n2)))), by simp⟩
      | true =>
        rw [c2] at s2 i2
        obtain ⟨f, rfl, hf⟩ := isL6_nat l a1 c1
        obtain ⟨tt, rfl, htt⟩ := isL6_nat l a2 c2
        have hlen := (of_table l ht).2.1
        obtain ⟨S, BS, PS, hS⟩ := specSteps_evt l ht tt htt
        obtain ⟨F, BF, PF, TF, hF⟩ := implFar_evt l ht f tt htt
        obtain rfl : S = F := same_levels BS PS BF PF TF
        have hSl := BS.len
        have body : ∃ r : List Int × Bool, Evt (fun k => if (rd S (f : Int)) < 0 then (some ((([] : List Int)), false)) else (spec_MistakeChain.l0 k tt S (([(f : Int)] : List Int)) f l)) r ∧ Evt (fun k => if (rd S (f : Int)) < 0 then (some ((([] : List Int)), false)) else (impl_MistakeChain.l2 k tt S (([(f : Int)] : List Int)) f l)) r ∧ r.1.length ≤ 100 := by
          by_cases c : rd S (f : Int) < 0
          · exact ⟨([], false), Evt.ite_pos c (Evt.const _), Evt.ite_pos c (Evt.const _), by simp⟩
          · have h1 := TF f hf
            rw [rd_g] at c
            obtain ⟨r, r1, r2, r3⟩ := walk l ht tt S BS (g S f).toNat f [(f : Int)] hf (by omega) (by simp only [List.length_singleton]; omega) (by omega)
            rw [← rd_g] at c
            exact ⟨r, Evt.ite_neg c r1, Evt.ite_neg c r2, r3⟩
        obtain ⟨r, r1, r2, r3⟩ := body
        refine ⟨r, Evt.bind s1 (Evt.ite_pos rfl (Evt.bind s2 ?_)), Evt.bind t (Evt.ite_pos rfl (Evt.bind i1 (Evt.ite_pos rfl (Evt.bind i2 ?_)))), by omega⟩
        · refine Evt.succ (h := fun k => (spec_l6Steps.f k l tt).bind fun t186 => if 0 ≤ (f : Int) then (if (f : Int) < (t186.length : Int) then (if (rd t186 (f : Int)) < 0 then (some ((([] : List Int)), false)) else (spec_MistakeChain.l0 k tt t186 (([(f : Int)] : List Int)) f l)) else none) else none) (fun k => ?_) (Evt.bind hS (Evt.ite_pos (by omega) (Evt.ite_pos (by omega) r1)))
          rw [spec_MistakeChain.j0, if_neg (by simp)]
        · refine hF r ?_
          unfold tailI
          exact Evt.ite_pos (by omega) (Evt.ite_pos (by omega) r2)
theorem FnExactMistakeChain : laws_FnExactMistakeChain.Pure := by
  intro l a1 a2 hl hs wf_a1 wf_a2
  obtain ⟨t, ht, hor⟩ := szTable_evt l 1048576 (by omega) (by omega) hl hs
  refine Evt.get (r := true) ?_
  refine Evt.bind ht ?_
  by_cases hn : t < 0
  · exact Evt.ite_pos hn (Evt.const _)
  · refine Evt.ite_neg hn ?_
    have hl : l.length ≤ 1048576 := by omega
    obtain ⟨r, h1, h2, hr⟩ := same_evt l hl a1 a2 wf_a1 wf_a2
    obtain ⟨y, hy⟩ := markTable_evt l (by omega)
    refine Evt.bind (toTable_evt l hl) (Evt.bind h1 (Evt.bind (toTable_evt l hl) (Evt.bind h2 (Evt.bind (eqIntS_evt r.1 hr) ?_))))
    refine Evt.ite_pos rfl ?_
    rw [show (r.2 != r.2) = false by simp]
    refine Evt.succ (h := fun k => _) (fun k => by simp only [laws_FnExactMistakeChain.j0]; rfl) ?_
    refine Evt.ite_neg (by simp) ?_
    refine Evt.bind (toTable_evt l hl) (Evt.bind (eqTable_evt l hl) (Evt.ite_pos rfl (Evt.bind hy (Evt.ite_neg (by first | omega | (dsimp only; omega)) (Evt.bind (eqIntS_evt r.1 hr) (Evt.ite_pos rfl ?_))))))
    rw [show (r.2 != r.2) = false by simp]
    refine Evt.succ (h := fun k => _) (fun k => by simp only [laws_FnExactMistakeChain.j1]; rfl) ?_
    refine Evt.ite_neg (by simp) ?_
    refine Evt.bind (markIntS_evt r.1 hr) (Evt.bind (heldIntS_evt r.1.length hr) (Evt.ite_neg (by first | omega | (dsimp only; omega)) (Evt.ite_pos rfl ?_)))
    refine Evt.bind (toTable_evt l hl) (Evt.bind h2 (Evt.bind (eqIntS_evt r.1 hr) (Evt.ite_pos rfl ?_)))
    rw [show (r.2 != r.2) = false by simp]
    refine Evt.succ (h := fun k => _) (fun k => by simp only [laws_FnExactMistakeChain.j2]; rfl) ?_
    refine Evt.ite_neg (by simp) ?_
    exact Evt.bind (heldIntS_evt r.1.length hr) (Evt.ite_neg (by first | omega | (dsimp only; omega)) (Evt.ite_pos rfl (Evt.const _)))
end Go.Proofs.YtlgmccliclmbaaaDoor.Pure
