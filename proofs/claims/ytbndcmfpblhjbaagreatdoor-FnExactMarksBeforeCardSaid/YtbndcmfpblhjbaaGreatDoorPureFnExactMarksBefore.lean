/- The program's MarksBefore returns what the reference's MarksBefore returns, for every two texts. No condition. -/
import Derived.Test.YtbndcmfpblhjbaaGreatDoorPFnExactMarksBeforex2
namespace Go.Proofs.YtbndcmfpblhjbaaGreatDoor.Pure
open Go.RowKit Go.Proofs.YtbndcmfpblhjbaaGreatDoor.PFnExactMarksBefore Go.Proofs.YtbndcmfpblhjbaaGreatDoorW.PrintWords Go.Proofs.YtbndcmfpblhjbaaGreatDoorW.PrintLast Go.Proofs.YtbndcmfpblhjbaaGreatDoorW.PrintMore
set_option linter.unusedVariables false
set_option linter.unusedSimpArgs false

/-! ### ev -/
/-- With enough rounds, and ever after, g answers r. -/
def Evt {α : Type} (g : Nat → Option α) (r : α) : Prop := ∃ K, ∀ k, K ≤ k → g k = some r
theorem Evt.const {α : Type} (r : α) : Evt (fun _ => some r) r := ⟨0, fun _ _ => rfl⟩
theorem Evt.of_eq {α : Type} {g h : Nat → Option α} {r : α} (e : ∀ k, g k = h k) (H : Evt h r) : Evt g r := by
  obtain ⟨K, hK⟩ := H
  exact ⟨K, fun k hk => (e k).trans (hK k hk)⟩
theorem Evt.bind {α β : Type} {g : Nat → Option β} {h : Nat → β → Option α} {a : β} {r : α} (H1 : Evt g a) (H2 : Evt (fun k => h k a) r) : Evt (fun k => (g k).bind (h k)) r := by
  obtain ⟨K1, h1⟩ := H1
  obtain ⟨K2, h2⟩ := H2
  refine ⟨max K1 K2, fun k hk => ?_⟩
  show (g k).bind (h k) = some r
  rw [h1 k (by omega)]
  exact h2 k (by omega)
theorem Evt.succ {α : Type} {g h : Nat → Option α} {r : α} (e : ∀ k, g (k + 1) = h k) (H : Evt h r) : Evt g r := by
  obtain ⟨K, hK⟩ := H
  refine ⟨K + 1, fun k hk => ?_⟩
  obtain ⟨k, rfl⟩ : ∃ m, k = m + 1 := ⟨k - 1, by omega⟩
  rw [e]
  exact hK k (by omega)
theorem Evt.get {α : Type} {g : Nat → Option α} {r : α} (H : Evt g r) : ∃ k, g k = some r := by
  obtain ⟨K, hK⟩ := H
  exact ⟨K, hK K (Nat.le_refl _)⟩
theorem Evt.get2 {α β : Type} {g : Nat → Option α} {h : Nat → Option β} {r : α} {s : β} (H : Evt g r) (H' : Evt h s) : ∃ k, g k = some r ∧ h k = some s := by
  obtain ⟨K, hK⟩ := H
  obtain ⟨K', hK'⟩ := H'
  exact ⟨max K K', hK _ (by omega), hK' _ (by omega)⟩
theorem Evt.ite_pos {α : Type} {c : Prop} [Decidable c] {g h : Nat → Option α} {r : α} (hc : c) (H : Evt g r) : Evt (fun k => if c then g k else h k) r :=
  H.of_eq (fun k => by rw [if_pos hc])
theorem Evt.ite_neg {α : Type} {c : Prop} [Decidable c] {g h : Nat → Option α} {r : α} (hc : ¬ c) (H : Evt h r) : Evt (fun k => if c then g k else h k) r :=
  H.of_eq (fun k => by rw [if_neg hc])
theorem Evt.pred {α : Type} {g h : Nat → Option α} {r : α} (e : ∀ k, g (k + 1) = h k) (H : Evt g r) : Evt h r := by
  obtain ⟨K, hK⟩ := H
  exact ⟨K, fun k hk => (e k).symm.trans (hK (k + 1) (by omega))⟩

/-! ### lists -/
theorem rdOf_get {α : Type} (d : α) (l : List α) (i : Nat) (h : i < l.length) : rdOf d l (i : Int) = l[i] := by
  unfold rdOf
  rw [Int.toNat_natCast, List.getD_eq_getElem?_getD, List.getElem?_eq_getElem h]
  rfl
theorem rd_get (l : List Int) (i : Nat) (h : i < l.length) : rd l (i : Int) = l[i] := by
  unfold rd
  rw [Int.toNat_natCast, List.getD_eq_getElem?_getD, List.getElem?_eq_getElem h]
  rfl
theorem drop_get {α : Type} (l : List α) (i : Nat) (h : i < l.length) : l.drop i = l[i] :: l.drop (i + 1) := by simp
theorem wrap_succ (i : Nat) (h : i < 9223372036854775807) : wrap64 ((i : Int) + 1) = ((i + 1 : Nat) : Int) := by unfold wrap64; omega

/-! ### in -/
theorem in_eq (a b c : Int) : impl_in.f a b c = some (decide (b ≤ a ∧ a ≤ c)) := by
  unfold impl_in.f
  by_cases h : a ≥ b
  · rw [if_pos h]
    simp [show b ≤ a from h]
  · rw [if_neg h]
    simp [show ¬ b ≤ a from h]
theorem l1In_eq (a b c : Int) : spec_l1In.f a b c = some (decide (b ≤ a ∧ a ≤ c)) := by
  unfold spec_l1In.f
  by_cases h : a ≥ b
  · rw [if_pos h]
    simp [show b ≤ a from h]
  · rw [if_neg h]
    simp [show ¬ b ≤ a from h]

/-! ### marks -/
/-- A byte that is a mark. -/
def okc (c : UInt8) : Bool := c == 46 || c == 45
def okMarks (s : ByteArray) (lo hi : Int) : Bool := decide (lo ≤ s.size ∧ (s.size : Int) ≤ hi) && s.data.toList.all okc
theorem size_data (s : ByteArray) : s.data.toList.length = s.size := by rw [Array.length_toList]; rfl
theorem bt_get (s : ByteArray) (i : Nat) (h : i < s.size) : bt s (i : Int) = ((s.data.toList[i]'(by rw [size_data]; exact h)).toNat : Int) := by
  unfold bt
  rw [dif_pos (by simpa using h)]
  simp only [Int.toNat_natCast, Array.getElem_toList]
  rfl
theorem trim_empty (l : List UInt8) : ((Lib.trimS l [46, 45]) = []) ↔ l.all okc = true := by
  have e : ∀ c : UInt8, ([46, 45] : List UInt8).contains c = okc c := fun c => by
    simp [okc, List.contains_cons]
    rfl
  have dw : ∀ l : List UInt8, (l.dropWhile (([46, 45] : List UInt8).contains ·) = []) ↔ l.all okc = true := by
    intro l
    induction l with
    | nil => simp
    | cons c t ih =>
      rw [List.dropWhile_cons, e]
      cases h : okc c with
      | true =>
        simp only [if_true, List.all_cons, h, Bool.true_and]
        exact ih
      | false => simp [h]
  unfold Lib.trimS Lib.trimLeftS Lib.trimRightS
  rw [dw]
  have dwa : ∀ l : List UInt8, (l.dropWhile (([46, 45] : List UInt8).contains ·)).all okc = l.all okc := by
    intro l
    induction l with
    | nil => rfl
    | cons c t ih =>
      rw [List.dropWhile_cons, e]
      cases h : okc c with
      | true =>
        simp only [if_true, List.all_cons, h, Bool.true_and]
        exact ih
      | false => simp
  rw [List.all_reverse, dwa, List.all_reverse]
theorem implAreMarks_eq (s : ByteArray) (lo hi : Int) (hh : hi ≤ 9223372036854775807) : impl_areMarks.f s lo hi = some (okMarks s lo hi) := by
  unfold impl_areMarks.f okMarks
  rw [in_eq]
  simp only [Option.bind_some, decide_eq_true_eq]
  by_cases h : lo ≤ (s.size : Int) ∧ (s.size : Int) ≤ hi
  · rw [if_pos h]
    unfold strings_Trim.f
    rw [if_pos (by omega), if_pos rfl]
    simp only [Option.bind_some, h, and_self, decide_true, Bool.true_and]
    congr 1
    rw [Lib.toList_data]
    have := trim_empty s.data.toList
    cases hb : s.data.toList.all okc with
    | true => simp [this.2 hb]
    | false =>
      have : ¬ Lib.trimS s.data.toList [46, 45] = [] := fun h => by rw [this.1 h] at hb; cases hb
      simpa using this
  · rw [if_neg h]
    simp [h]
theorem drop_cons_ (l : List UInt8) (i : Nat) (h : i < l.length) : l.drop i = l[i] :: l.drop (i + 1) := by simp
/-- The reference's loop from place i on: the marks up to 'hi', then the length. -/
theorem specMarks_l0 (s : ByteArray) (lo hi : Int) (h0 : 0 ≤ hi) (hh : hi ≤ 1000000) (d : Nat) : ∀ (k i : Nat), i ≤ s.size → (i : Int) ≤ hi + 1 → (hi + 1 - i).toNat = d → 2 * d + 3 ≤ k →
    spec_l2Marks.l0 k s lo hi i = some (((s.data.toList.drop i).take d).all okc && decide (lo ≤ s.size ∧ (s.size : Int) ≤ hi)) := by
  induction d with
  | zero =>
    intro k i hi1 hi2 hd hk
    obtain ⟨k, rfl⟩ : ∃ m, k = m + 2 := ⟨k - 2, by omega⟩
    have e : (i : Int) = hi + 1 := by omega
    simp only [spec_l2Marks.l0]
    have hj : spec_l2Marks.j1 (k + 1) s lo hi i false = some (decide (lo ≤ s.size ∧ (s.size : Int) ≤ hi)) := by
      simp only [spec_l2Marks.j1]
      rw [if_neg (by simp), l1In_eq]
      rfl
    by_cases hlt : (i : Int) < (s.size : Int)
    · rw [if_pos hlt, show decide ((i : Int) ≤ hi) = false from decide_eq_false (by omega), hj]
      simp
    · rw [if_neg hlt, hj]
      simp
  | succ d ih =>
    intro k i hi1 hi2 hd hk
    obtain ⟨k, rfl⟩ : ∃ m, k = m + 2 := ⟨k - 2, by omega⟩
    simp only [spec_l2Marks.l0]
    by_cases hlt : (i : Int) < (s.size : Int)
    · rw [if_pos hlt, show decide ((i : Int) ≤ hi) = true from decide_eq_true (by omega)]
      simp only [spec_l2Marks.j1]
      rw [if_pos trivial, if_pos (by omega), if_pos hlt]
      have hl : i < s.data.toList.length := by rw [size_data]; omega
      rw [drop_cons_ _ _ hl, List.take_succ_cons, List.all_cons, bt_get s i (by omega)]
      have hw : wrap64 ((i : Int) + 1) = ((i + 1 : Nat) : Int) := by unfold wrap64; omega
      rw [hw]
      generalize s.data.toList[i] = c
      have hc : ∀ n : Nat, n < 256 → (((c.toNat : Int) = (n : Int)) ↔ c = UInt8.ofNat n) := by
        intro n hn
        constructor
        · intro h
          apply UInt8.toNat_inj.1
          simp
          omega
        · rintro rfl
          simp
          omega
      have c46 : ((c.toNat : Int) = 46) ↔ c = 46 := hc 46 (by omega)
      have c45 : ((c.toNat : Int) = 45) ↔ c = 45 := hc 45 (by omega)
      by_cases h46 : c = 46
      · subst h46
        rw [if_pos (by rfl), ih _ _ (by omega) (by omega) (by omega) (by omega)]
        rfl
      · rw [if_neg (fun h => h46 (c46.1 h))]
        by_cases h45 : c = 45
        · subst h45
          rw [if_pos (by rfl), ih _ _ (by omega) (by omega) (by omega) (by omega)]
          rfl
        · rw [if_neg (fun h => h45 (c45.1 h))]
          simp [okc, h46, h45]
    · rw [if_neg hlt]
      have hj : spec_l2Marks.j1 (k + 1) s lo hi i false = some (decide (lo ≤ s.size ∧ (s.size : Int) ≤ hi)) := by
        simp only [spec_l2Marks.j1]
        rw [if_neg (by simp), l1In_eq]
        rfl
      rw [hj, List.drop_eq_nil_of_le (by rw [size_data]; omega)]
      simp
theorem specMarks_eq (s : ByteArray) (lo hi : Int) (h0 : 0 ≤ hi) (hh : hi ≤ 1000000) (k : Nat) (hk : 2 * hi + 5 ≤ k) : spec_l2Marks.f k s lo hi = some (okMarks s lo hi) := by
  unfold spec_l2Marks.f
  have h := specMarks_l0 s lo hi h0 hh (hi + 1 - ((0 : Nat) : Int)).toNat k 0 (by omega) (by omega) rfl (by omega)
  rw [show ((0 : Nat) : Int) = 0 from rfl] at h
  rw [h]
  unfold okMarks
  congr 1
  rw [List.drop_zero, Bool.and_comm]
  by_cases hl : lo ≤ (s.size : Int) ∧ (s.size : Int) ≤ hi
  · rw [List.take_of_length_le (by rw [size_data]; omega)]
  · simp [hl]

/-! ### tolist -/
theorem toList_inj (a b : ByteArray) : a.toList = b.toList ↔ a = b := by
  rw [Lib.toList_data, Lib.toList_data]
  constructor
  · intro h
    obtain ⟨⟨l⟩⟩ := a
    obtain ⟨⟨m⟩⟩ := b
    simp only at h
    rw [h]
  · rintro rfl
    rfl

/-! ### table -/
open Classical
/-- The first place of a text in a list, from place i on; -1 for none. -/
def plc : List ByteArray → ByteArray → Nat → Int
  | [], _, _ => -1
  | x :: l, s, i => if x = s then (i : Int) else plc l s (i + 1)
theorem plc_ge (l : List ByteArray) (s : ByteArray) : ∀ i, plc l s i = -1 ∨ (i : Int) ≤ plc l s i := by
  induction l with
  | nil => exact fun i => .inl rfl
  | cons x l ih =>
    intro i
    unfold plc
    by_cases h : x = s
    · rw [if_pos h]
      exact .inr (Int.le_refl _)
    · rw [if_neg h]
      rcases ih (i + 1) with h | h
      · exact .inl h
      · right
        omega
theorem plc_none (l : List ByteArray) (s : ByteArray) : ∀ i, plc l s i = -1 ↔ s ∉ l := by
  induction l with
  | nil => intro i; simp [plc]
  | cons x l ih =>
    intro i
    unfold plc
    by_cases h : x = s
    · subst h
      rw [if_pos rfl]
      simp
    · rw [if_neg h, ih, List.mem_cons]
      constructor
      · intro hn he
        rcases he with e | e
        · exact h e.symm
        · exact hn e
      · intro hn he
        exact hn (.inr he)
theorem plc_lt (l : List ByteArray) (s : ByteArray) : ∀ i, plc l s i < ((i + l.length : Nat) : Int) := by
  induction l with
  | nil => intro i; simp [plc]; omega
  | cons x l ih =>
    intro i
    unfold plc
    by_cases h : x = s
    · rw [if_pos h]
      simp
      omega
    · rw [if_neg h]
      have := ih (i + 1)
      simp at this ⊢
      omega
/-- Is a list of marks a table? -/
noncomputable def okTable (l : List ByteArray) : Bool := decide (1 ≤ l.length ∧ l.length ≤ 10 ∧ (∀ m ∈ l, okMarks m 1 5 = true) ∧ l.Nodup)
theorem plc_first (l m : List ByteArray) (s : ByteArray) : ∀ i, plc (l ++ s :: m) s i = ((i + l.length : Nat) : Int) ↔ s ∉ l := by
  induction l with
  | nil =>
    intro i
    simp [plc]
  | cons x l ih =>
    intro i
    rw [List.cons_append]
    unfold plc
    by_cases h : x = s
    · rw [if_pos h]
      simp [h]
      omega
    · rw [if_neg h, show i + (x :: l).length = (i + 1) + l.length by simp; omega, ih, List.mem_cons]
      constructor
      · intro hn he
        rcases he with e | e
        · exact h e.symm
        · exact hn e
      · intro hn he
        exact hn (.inr he)
/-- The rest of a table is good, what stands ahead of it known. -/
noncomputable def okRest (l : List ByteArray) (i : Nat) : Bool := decide (∀ j (h : j < l.length), i ≤ j → okMarks l[j] 1 5 = true ∧ l[j] ∉ l.take j)
theorem okRest_end (l : List ByteArray) (i : Nat) (h : l.length ≤ i) : okRest l i = true := by
  unfold okRest
  rw [decide_eq_true_eq]
  intro j hj hij
  omega
theorem okRest_step (l : List ByteArray) (i : Nat) (h : i < l.length) : okRest l i = (okMarks l[i] 1 5 && (!decide (l[i] ∈ l.take i)) && okRest l (i + 1)) := by
  unfold okRest
  rw [Bool.eq_iff_iff]
  simp only [Bool.and_eq_true, decide_eq_true_eq, Bool.not_eq_true', decide_eq_false_iff_not]
  constructor
  · intro H
    exact ⟨H i h (Nat.le_refl _), fun j hj hij => H j hj (by omega)⟩
  · intro H j hj hij
    by_cases e : j = i
    · subst e
      exact H.1
    · exact H.2 j hj (by omega)
theorem okTable_eq (l : List ByteArray) : okTable l = (decide (1 ≤ l.length ∧ l.length ≤ 10) && okRest l 0) := by
  unfold okTable okRest
  rw [Bool.eq_iff_iff]
  simp only [Bool.and_eq_true, decide_eq_true_eq]
  constructor
  · rintro ⟨h1, h2, h3, h4⟩
    refine ⟨⟨h1, h2⟩, fun j hj _ => ⟨h3 _ (List.getElem_mem hj), fun hm => ?_⟩⟩
    obtain ⟨q, hq, he⟩ := List.getElem_of_mem hm
    rw [List.length_take] at hq
    rw [List.getElem_take] at he
    exact absurd ((List.getElem_inj h4).1 he) (by omega)
  · rintro ⟨⟨h1, h2⟩, h3⟩
    refine ⟨h1, h2, fun m hm => ?_, ?_⟩
    · obtain ⟨j, hj, rfl⟩ := List.getElem_of_mem hm
      exact (h3 j hj (Nat.zero_le _)).1
    · rw [List.nodup_iff_pairwise_ne, List.pairwise_iff_getElem]
      intro i j hi hj hij he
      refine (h3 j hj (Nat.zero_le _)).2 ?_
      rw [← he]
      exact List.mem_of_getElem? (i := i) (by rw [List.getElem?_take, if_pos hij, List.getElem?_eq_getElem hi])

/-! ### lawtable -/
theorem of_table (l : List ByteArray) (h : okTable l = true) : 1 ≤ l.length ∧ l.length ≤ 10 ∧ (∀ m ∈ l, okMarks m 1 5 = true) ∧ l.Nodup := by
  unfold okTable at h
  rw [decide_eq_true_eq] at h
  exact h
theorem len_wrap (l : List ByteArray) (h : l.length ≤ 1048576) : wrap64 ((l.length : Int) - 1) = (l.length : Int) - 1 := by
  unfold wrap64
  omega
theorem isLetter_len (l : List ByteArray) (h : okTable l = true) : wrap64 ((l.length : Int) - 1) = (l.length : Int) - 1 := by
  have := of_table l h
  unfold wrap64
  omega

/-! ### time -/
/-- How long a letter takes. -/
def timeN (s : ByteArray) : Int := 2 * (s.size : Int) - 1 + 2 * (s.data.toList.count 45 : Int)
theorem specTime_l0 (s : ByteArray) (hs : s.size ≤ 1000) (d : Nat) : ∀ (i v : Nat), i ≤ s.size → s.size - i = d → v ≤ 5000 + 3 * i → Evt (fun k => spec_l2Time.l0 k s v i) ((v + (s.size - i) + 2 * (s.data.toList.drop i).count 45 : Nat) : Int) := by
  have hsz := size_data s
  induction d with
  | zero =>
    intro i v hi hd hv
    rw [List.drop_eq_nil_of_le (by omega), show v + (s.size - i) + 2 * List.count (45 : UInt8) [] = v by rw [List.count_nil]; omega]
    exact Evt.succ (fun k => by rw [spec_l2Time.l0, if_neg (by omega)]) (Evt.const _)
  | succ d ih =>
    intro i v hi hd hv
    have li : i < s.data.toList.length := by omega
    rw [drop_cons_ _ i li, List.count_cons]
    have e1 := bt_get s i (by omega)
    by_cases h : bt s (i : Int) = 45
    · have hb : s.data.toList[i] = 45 := by
        rw [e1] at h
        exact UInt8.toNat_inj.1 (by rw [show (45 : UInt8).toNat = 45 from rfl]; omega)
      have w : wrap64 (wrap64 ((v : Int) + 1) + 2) = ((v + 3 : Nat) : Int) := by unfold wrap64; omega
      rw [hb, if_pos (by rfl), show v + (s.size - i) + 2 * (List.count 45 (List.drop (i + 1) s.data.toList) + 1) = (v + 3) + (s.size - (i + 1)) + 2 * List.count 45 (List.drop (i + 1) s.data.toList) by omega]
      exact Evt.succ (fun k => by rw [spec_l2Time.l0, if_pos (by omega), if_pos (by omega), if_pos h, w, wrap_succ i (by omega)]) (ih (i + 1) (v + 3) (by omega) (by omega) (by omega))
    · have hb : (s.data.toList[i] == 45) = false := by
        rw [beq_eq_false_iff_ne]
        intro q
        rw [e1, q] at h
        exact h rfl
      have w : wrap64 ((v : Int) + 1) = ((v + 1 : Nat) : Int) := wrap_succ v (by omega)
      rw [hb, if_neg (by simp), show v + (s.size - i) + 2 * (List.count 45 (List.drop (i + 1) s.data.toList) + 0) = (v + 1) + (s.size - (i + 1)) + 2 * List.count 45 (List.drop (i + 1) s.data.toList) by omega]
      exact Evt.succ (fun k => by rw [spec_l2Time.l0, if_pos (by omega), if_pos (by omega), if_neg h, w, wrap_succ i (by omega)]) (ih (i + 1) (v + 1) (by omega) (by omega) (by omega))
theorem specTime_evt (s : ByteArray) (hs : s.size ≤ 1000) (h1 : 1 ≤ s.size) : Evt (fun k => spec_l2Time.f k s) (timeN s) := by
  have e : spec_l1Most.f 0 (wrap64 ((s.size : Int) - 1)) = some ((s.size - 1 : Nat) : Int) := by
    have w : wrap64 ((s.size : Int) - 1) = ((s.size - 1 : Nat) : Int) := by unfold wrap64; omega
    rw [w]
    unfold spec_l1Most.f
    by_cases h : (0 : Int) > ((s.size - 1 : Nat) : Int)
    · omega
    · rw [if_neg h]
  have := specTime_l0 s hs s.size 0 (s.size - 1) (by omega) (by omega) (by omega)
  rw [List.drop_zero] at this
  refine (Evt.bind (a := ((s.size - 1 : Nat) : Int)) (h := fun k x => spec_l2Time.l0 k s x 0) ((Evt.const _).of_eq (fun k => e)) ?_)
  unfold timeN
  rw [show 2 * (s.size : Int) - 1 + 2 * (s.data.toList.count 45 : Int) = ((s.size - 1 + (s.size - 0) + 2 * s.data.toList.count 45 : Nat) : Int) by omega]
  exact this
theorem implTime_evt (s : ByteArray) (hs : s.size ≤ 1000) : Evt (fun k => impl_timeOf.f s) (timeN s) := by
  have hc : s.data.toList.count 45 ≤ s.size := by
    have := List.count_le_length (a := (45 : UInt8)) (l := s.data.toList)
    rw [size_data] at this
    exact this
  have e : strings_Count.f s (⟨#[45]⟩ : ByteArray) = some ((s.data.toList.count 45 : Nat) : Int) := by
    unfold strings_Count.f
    rw [if_pos (by rfl)]
    rfl
  refine (Evt.const _).of_eq (fun k => ?_)
  unfold impl_timeOf.f timeN
  rw [e, Option.bind_some]
  congr 1
  generalize s.data.toList.count 45 = c at *
  unfold wrap64
  omega
theorem okSize (t : List ByteArray) (h : okTable t = true) (i : Nat) (hi : i < t.length) : 1 ≤ (rdOf ByteArray.empty t (i : Int)).size ∧ (rdOf ByteArray.empty t (i : Int)).size ≤ 5 := by
  rw [rdOf_get _ t i hi]
  have := (of_table t h).2.2.1 _ (List.getElem_mem hi)
  simp only [okMarks, Bool.and_eq_true, decide_eq_true_eq] at this
  omega

/-! ### bytime -/
theorem compare_eq (a b : Int) : cmp_Compare_int.f a b = some (if a < b then -1 else if a > b then 1 else 0) := by
  unfold cmp_Compare_int.f cmp_isNaN_int.f
  simp
  by_cases h : a < b
  · rw [if_pos h, if_pos h]
  · rw [if_neg h, if_neg h]
    by_cases h2 : b < a
    · rw [if_pos h2, if_pos h2]
    · rw [if_neg h2, if_neg h2]
theorem or_evt (p q r : Int) : Evt (fun k => cmp_Or_int.f k [p, q, r]) (if p = 0 then (if q = 0 then r else q) else p) := by
  have e : ∀ k (i : Nat), i < 3 → cmp_Or_int.l0 (k + 1) 0 [p, q, r] 3 (i : Int) = if (rd [p, q, r] (i : Int)) = 0 then cmp_Or_int.l0 k 0 [p, q, r] 3 ((i + 1 : Nat) : Int) else some (rd [p, q, r] (i : Int)) := by
    intro k i h
    have c1 : (i : Int) < 3 := by omega
    have c2 : (0 : Int) ≤ (i : Int) := by omega
    have c3 : (i : Int) < (([p, q, r] : List Int).length : Int) := c1
    have w : wrap64 ((i : Int) + 1) = ((i + 1 : Nat) : Int) := wrap_succ i (by omega)
    rw [cmp_Or_int.l0, if_pos c1, if_pos c2, if_pos c3, w]
  show Evt (fun k => cmp_Or_int.l0 k 0 [p, q, r] 3 ((0 : Nat) : Int)) _
  refine Evt.succ (fun k => e k 0 (by decide)) ?_
  by_cases h : p = 0
  · rw [if_pos h]
    refine Evt.ite_pos h (Evt.succ (fun k => e k 1 (by decide)) ?_)
    by_cases h2 : q = 0
    · rw [if_pos h2]
      refine Evt.ite_pos h2 (Evt.succ (fun k => e k 2 (by decide)) ?_)
      by_cases h3 : r = 0
      · refine Evt.ite_pos h3 (Evt.succ (h := fun k => some 0) (fun k => ?_) ?_)
        · rw [cmp_Or_int.l0, if_neg (by decide)]
        · rw [h3]
          exact Evt.const _
      · exact Evt.ite_neg h3 (Evt.const _)
    · rw [if_neg h2]
      exact Evt.ite_neg h2 (Evt.const _)
  · rw [if_neg h]
    exact Evt.ite_neg h (Evt.const _)
/-- A mark's other. -/
def sw (c : UInt8) : UInt8 := UInt8.ofNat (opp_.fin c.toNat)
/-- Of two marks' texts alike in length: does the first stand ahead. -/
def lb : List UInt8 → List UInt8 → Bool
  | x :: a, y :: b => if x = y then lb a b else x == 46
  | _, _ => false
theorem lb_cmp : ∀ (a b : List UInt8), a.length = b.length → a.all okc = true → b.all okc = true → decide (Lib.compareBytes (a.map sw) (b.map sw) < 0) = lb a b
  | [], [], _, _, _ => rfl
  | x :: a, y :: b, hl, ha, hb => by
    rw [List.all_cons, Bool.and_eq_true] at ha hb
    have ih := lb_cmp a b (by simpa using hl) ha.2 hb.2
    have hx : x = 46 ∨ x = 45 := by simpa [okc] using ha.1
    have hy : y = 46 ∨ y = 45 := by simpa [okc] using hb.1
    rw [List.map_cons, List.map_cons, Lib.compareBytes, lb]
    rcases hx with rfl | rfl <;> rcases hy with rfl | rfl
    · rw [if_neg (by decide), if_neg (by decide), if_pos rfl]
      exact ih
    · rw [if_pos (by decide), if_neg (by decide)]
      rfl
    · rw [if_neg (by decide), if_pos (by decide), if_neg (by decide)]
      rfl
    · rw [if_neg (by decide), if_neg (by decide), if_pos rfl]
      exact ih
theorem opposite_eq (s : ByteArray) (hs : s.size ≤ 1000) (h : s.data.toList.all okc = true) : impl_opposite.f s = some ⟨(s.data.toList.map sw).toArray⟩ := by
  unfold impl_opposite.f
  have h' : (s.data.toList.all fun c => c == 45 || c == 46) = true := by
    rw [← h]
    congr 1
    funext c
    rw [okc, Bool.or_comm]
  rw [if_pos ⟨by omega, h'⟩]
  rfl
/-- The order of two letters' marks: below nought, the first stands ahead. -/
def byt (a b : ByteArray) : Int := if timeN a = timeN b then (if a.size = b.size then Lib.compareBytes (a.data.toList.map sw) (b.data.toList.map sw) else if a.size < b.size then -1 else 1) else if timeN a < timeN b then -1 else 1
theorem byTime_evt (a b : ByteArray) (ha : okMarks a 1 5 = true) (hb : okMarks b 1 5 = true) : Evt (fun k => impl_byTime.f k a b) (byt a b) := by
  simp only [okMarks, Bool.and_eq_true, decide_eq_true_eq] at ha hb
  obtain ⟨⟨a1, a2⟩, a3⟩ := ha
  obtain ⟨⟨b1, b2⟩, b3⟩ := hb
  have sa : a.size ≤ 1000 := by omega
  have sb : b.size ≤ 1000 := by omega
  unfold impl_byTime.f
  refine Evt.bind (implTime_evt a sa) (Evt.bind (implTime_evt b sb) ?_)
  refine Evt.bind ((Evt.const _).of_eq fun k => compare_eq _ _) (Evt.bind ((Evt.const _).of_eq fun k => compare_eq _ _) ?_)
  refine Evt.bind ((Evt.const _).of_eq fun k => opposite_eq a sa a3) (Evt.bind ((Evt.const _).of_eq fun k => opposite_eq b sb b3) ?_)
  refine Evt.bind ((Evt.const _).of_eq fun k => rfl) (Evt.bind (or_evt _ _ _) ?_)
  refine (Evt.const _).of_eq fun k => ?_
  congr 1
  unfold byt
  by_cases h1 : timeN a = timeN b
  · rw [if_pos h1, h1, if_neg (Int.lt_irrefl _), if_neg (Int.lt_irrefl _), if_pos rfl]
    by_cases h2 : a.size = b.size
    · rw [if_pos h2, h2, if_neg (Int.lt_irrefl _), if_neg (Int.lt_irrefl _), if_pos rfl]
    · rw [if_neg h2]
      by_cases h3 : a.size < b.size
      · have h3' : (a.size : Int) < (b.size : Int) := Int.ofNat_lt.2 h3
        rw [if_pos h3, if_pos h3', if_neg (by decide)]
      · have h3' : ¬ (a.size : Int) < (b.size : Int) := fun h => h3 (Int.ofNat_lt.1 h)
        have h4 : (a.size : Int) > (b.size : Int) := by omega
        rw [if_neg h3, if_neg h3', if_pos h4, if_neg (by decide)]
  · rw [if_neg h1]
    by_cases h3 : timeN a < timeN b
    · rw [if_pos h3, if_pos h3, if_neg (by decide)]
    · have h4 : timeN a > timeN b := by omega
      rw [if_neg h3, if_neg h3, if_pos h4, if_neg (by decide)]
theorem before_l0 (a b : ByteArray) (hs : a.size ≤ 1000) (he : a.size = b.size) (d : Nat) : ∀ i : Nat, i ≤ a.size → a.size - i = d → Evt (fun k => spec_l8Before.l0 k a b i) (lb (a.data.toList.drop i) (b.data.toList.drop i)) := by
  have sa := size_data a
  have sb := size_data b
  induction d with
  | zero =>
    intro i hi hd
    have c1 : ¬ (i : Int) < (a.size : Int) := by omega
    rw [List.drop_eq_nil_of_le (by omega)]
    exact Evt.succ (h := fun _ => some false) (fun k => by rw [spec_l8Before.l0, if_neg c1]) (Evt.const _)
  | succ d ih =>
    intro i hi hd
    have c1 : (i : Int) < (a.size : Int) := by omega
    have c2 : (0 : Int) ≤ (i : Int) := by omega
    have c3 : (i : Int) < (b.size : Int) := by omega
    have l1 : i < a.data.toList.length := by omega
    have l2 : i < b.data.toList.length := by omega
    have w : wrap64 ((i : Int) + 1) = ((i + 1 : Nat) : Int) := wrap_succ i (by omega)
    have ea := bt_get a i (by omega)
    have eb := bt_get b i (by omega)
    have go := ih (i + 1) (by omega) (by omega)
    rw [drop_cons_ _ _ l1, drop_cons_ _ _ l2, lb]
    generalize a.data.toList[i] = x at ea ⊢
    generalize b.data.toList[i] = y at eb ⊢
    by_cases h : x = y
    · subst h
      rw [if_pos rfl]
      refine Evt.succ (fun k => ?_) go
      rw [spec_l8Before.l0, if_pos c1, if_pos c2, if_pos c3, if_pos (by rw [ea, eb]), w]
    · have h' : ¬ ((x.toNat : Int) = (y.toNat : Int)) := fun e => h (UInt8.toNat_inj.1 (by omega))
      rw [if_neg h]
      refine Evt.succ (h := fun k => some (x == 46)) (fun k => ?_) (Evt.const _)
      rw [spec_l8Before.l0, if_pos c1, if_pos c2, if_pos c3, ea, eb, if_neg h']
      congr 1
      rw [Bool.eq_iff_iff]
      simp only [beq_iff_eq]
      constructor
      · intro e
        exact UInt8.toNat_inj.1 (by show x.toNat = 46; omega)
      · rintro rfl
        rfl
theorem before_evt (a b : ByteArray) (ha : okMarks a 1 5 = true) (hb : okMarks b 1 5 = true) : Evt (fun k => spec_l8Before.f k a b) (decide (byt a b < 0)) := by
  simp only [okMarks, Bool.and_eq_true, decide_eq_true_eq] at ha hb
  obtain ⟨⟨a1, a2⟩, a3⟩ := ha
  obtain ⟨⟨b1, b2⟩, b3⟩ := hb
  have sa : a.size ≤ 1000 := by omega
  have sb : b.size ≤ 1000 := by omega
  unfold spec_l8Before.f
  refine Evt.bind (specTime_evt a sa (by omega)) (Evt.bind (specTime_evt b sb (by omega)) ?_)
  unfold byt
  by_cases h1 : timeN a = timeN b
  · rw [if_pos h1]
    refine Evt.ite_pos h1 ?_
    by_cases h2 : a.size = b.size
    · rw [if_pos h2, lb_cmp _ _ (by rw [size_data, size_data, h2]) a3 b3]
      refine Evt.ite_pos (by rw [h2]) ?_
      exact before_l0 a b sa h2 a.size 0 (Nat.zero_le _) rfl
    · rw [if_neg h2]
      have h2' : ¬ (a.size : Int) = (b.size : Int) := fun h => h2 (Int.ofNat_inj.1 h)
      refine Evt.ite_neg h2' ((Evt.const _).of_eq fun k => ?_)
      congr 1
      by_cases h3 : a.size < b.size
      · rw [if_pos h3, decide_eq_true (Int.ofNat_lt.2 h3)]
        rfl
      · rw [if_neg h3, decide_eq_false (fun h => h3 (Int.ofNat_lt.1 h))]
        rfl
  · rw [if_neg h1]
    refine Evt.ite_neg h1 ((Evt.const _).of_eq fun k => ?_)
    congr 1
    by_cases h3 : timeN a < timeN b
    · rw [if_pos h3, decide_eq_true h3]
      rfl
    · rw [if_neg h3, decide_eq_false h3]
      rfl

theorem FnExactMarksBefore : laws_FnExactMarksBefore.Pure := by
  intro a b ha hb
  refine Evt.get (r := true) ?_
  by_cases biga : (a.size : Int) > 1048576
  · exact Evt.ite_pos biga (Evt.const _)
  refine Evt.ite_neg biga ?_
  by_cases bigb : (b.size : Int) > 1048576
  · exact Evt.ite_pos bigb (Evt.const _)
  refine Evt.ite_neg bigb ?_
  have h : ∃ r, Evt (fun k => spec_MarksBefore.f k a b) r ∧ Evt (fun k => impl_MarksBefore.f k a b) r := by
    have s : ∀ x, Evt (fun k => spec_l2Marks.f k x 1 5) (okMarks x 1 5) := fun x => ⟨15, fun k hk => specMarks_eq x 1 5 (by decide) (by decide) k (by omega)⟩
    have i : ∀ x, Evt (fun _ => impl_isLetterMarks.f x) (okMarks x 1 5) := fun x => (Evt.const _).of_eq fun k => by
      unfold impl_isLetterMarks.f
      rw [implAreMarks_eq x 1 5 (by decide)]
      rfl
    by_cases h1 : okMarks a 1 5 = true
    · by_cases h2 : okMarks b 1 5 = true
      · refine ⟨(decide (byt a b < 0), true), ?_, ?_⟩
        · exact Evt.bind (s a) (Evt.ite_pos h1 (Evt.bind (s b) (Evt.ite_pos h2 (Evt.bind (before_evt a b h1 h2) (Evt.const _)))))
        · exact Evt.bind (i a) (Evt.ite_pos h1 (Evt.bind (i b) (Evt.ite_pos h2 (Evt.bind (byTime_evt a b h1 h2) (Evt.const _)))))
      · refine ⟨(false, false), ?_, ?_⟩
        · exact Evt.bind (s a) (Evt.ite_pos h1 (Evt.bind (s b) (Evt.ite_neg h2 (Evt.const _))))
        · exact Evt.bind (i a) (Evt.ite_pos h1 (Evt.bind (i b) (Evt.ite_neg h2 (Evt.const _))))
    · refine ⟨(false, false), ?_, ?_⟩
      · exact Evt.bind (s a) (Evt.ite_neg h1 (Evt.const _))
      · exact Evt.bind (i a) (Evt.ite_neg h1 (Evt.const _))
  obtain ⟨r, h1, h2⟩ := h
  refine Evt.bind h1 (Evt.bind h2 ?_)
  exact Evt.ite_neg (by simp) (Evt.ite_neg (by simp) (Evt.const _))
end Go.Proofs.YtbndcmfpblhjbaaGreatDoor.Pure
