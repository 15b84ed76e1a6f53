/- The program's FilledNodes returns what the reference's FilledNodes returns, for every Table. No condition. -/
import Derived.Test.YtolbhpgphinjcaaDoorPFnExactFilledNodesx6
namespace Go.Proofs.YtolbhpgphinjcaaDoor.Pure
open Go.RowKit Go.Proofs.YtolbhpgphinjcaaDoor.PFnExactFilledNodes Go.Proofs.YtolbhpgphinjcaaDoorW.PrintWords Go.Proofs.YtolbhpgphinjcaaDoorW.PrintLast Go.Proofs.YtolbhpgphinjcaaDoorW.PrintMore
set_option linter.unusedVariables false
set_option linter.unusedSimpArgs false

/-! ### in -/
theorem in_eq (a b c : Int) : impl_in.f a b c = some (decide (b ≤ a ∧ a ≤ c)) := by
  unfold impl_in.f
  by_cases h : a ≥ b
  · rw [if_pos h]
    simp [show b ≤ a from h]
  · rw [if_neg h]
    simp [show ¬ b ≤ a from h]
theorem l1In_eq (a b c : Int) : spec_l1In.f a b c = some (decide (b ≤ a ∧ a ≤ c)) := by
  unfold spec_l1In.f
  by_cases h : a ≥ b
  · rw [if_pos h]
    simp [show b ≤ a from h]
  · rw [if_neg h]
    simp [show ¬ b ≤ a from h]

/-! ### marks -/
/-- A byte that is a mark. -/
def okc (c : UInt8) : Bool := c == 46 || c == 45
def okMarks (s : ByteArray) (lo hi : Int) : Bool := decide (lo ≤ s.size ∧ (s.size : Int) ≤ hi) && s.data.toList.all okc
theorem size_data (s : ByteArray) : s.data.toList.length = s.size := by rw [Array.length_toList]; rfl
theorem bt_get (s : ByteArray) (i : Nat) (h : i < s.size) : bt s (i : Int) = ((s.data.toList[i]'(by rw [size_data]; exact h)).toNat : Int) := by
  unfold bt
  rw [dif_pos (by simpa using h)]
  simp only [Int.toNat_natCast, Array.getElem_toList]
  rfl
theorem trim_empty (l : List UInt8) : ((Lib.trimS l [46, 45]) = []) ↔ l.all okc = true := by
  have e : ∀ c : UInt8, ([46, 45] : List UInt8).contains c = okc c := fun c => by
    simp [okc, List.contains_cons]
    rfl
  have dw : ∀ l : List UInt8, (l.dropWhile (([46, 45] : List UInt8).contains ·) = []) ↔ l.all okc = true := by
    intro l
    induction l with
    | nil => simp
    | cons c t ih =>
      rw [List.dropWhile_cons, e]
      cases h : okc c with
      | true =>
        simp only [if_true, List.all_cons, h, Bool.true_and]
        exact ih
      | false => simp [h]
  unfold Lib.trimS Lib.trimLeftS Lib.trimRightS
  rw [dw]
  have dwa : ∀ l : List UInt8, (l.dropWhile (([46, 45] : List UInt8).contains ·)).all okc = l.all okc := by
    intro l
    induction l with
    | nil => rfl
    | cons c t ih =>
      rw [List.dropWhile_cons, e]
      cases h : okc c with
      | true =>
        simp only [if_true, List.all_cons, h, Bool.true_and]
        exact ih
      | false => simp
  rw [List.all_reverse, dwa, List.all_reverse]
theorem implAreMarks_eq (s : ByteArray) (lo hi : Int) (hh : hi ≤ 9223372036854775807) : impl_areMarks.f s lo hi = some (okMarks s lo hi) := by
  unfold impl_areMarks.f okMarks
  rw [in_eq]
  simp only [Option.bind_some, decide_eq_true_eq]
  by_cases h : lo ≤ (s.size : Int) ∧ (s.size : Int) ≤ hi
  · rw [if_pos h]
    unfold strings_Trim.f
    rw [if_pos (by omega), if_pos rfl]
    simp only [Option.bind_some, h, and_self, decide_true, Bool.true_and]
    congr 1
    rw [Lib.toList_data]
    have := trim_empty s.data.toList
    cases hb : s.data.toList.all okc with
    | true => simp [this.2 hb]
    | false =>
      have : ¬ Lib.trimS s.data.toList [46, 45] = [] := fun h => by rw [this.1 h] at hb; cases hb
      simpa using this
  · rw [if_neg h]
    simp [h]
theorem drop_cons_ (l : List UInt8) (i : Nat) (h : i < l.length) : l.drop i = l[i] :: l.drop (i + 1) := by simp
/-- The reference's loop from place i on: the marks up to 'hi', then the length. -/
theorem specMarks_l0 (s : ByteArray) (lo hi : Int) (h0 : 0 ≤ hi) (hh : hi ≤ 1000000) (d : Nat) : ∀ (k i : Nat), i ≤ s.size → (i : Int) ≤ hi + 1 → (hi + 1 - i).toNat = d → 2 * d + 3 ≤ k →
    spec_l2Marks.l0 k s lo hi i = some (((s.data.toList.drop i).take d).all okc && decide (lo ≤ s.size ∧ (s.size : Int) ≤ hi)) := by
  induction d with
  | zero =>
    intro k i hi1 hi2 hd hk
    obtain ⟨k, rfl⟩ : ∃ m, k = m + 2 := ⟨k - 2, by omega⟩
    have e : (i : Int) = hi + 1 := by omega
    simp only [spec_l2Marks.l0]
    have hj : spec_l2Marks.j1 (k + 1) s lo hi i false = some (decide (lo ≤ s.size ∧ (s.size : Int) ≤ hi)) := by
      simp only [spec_l2Marks.j1]
      rw [if_neg (by simp), l1In_eq]
      rfl
    by_cases hlt : (i : Int) < (s.size : Int)
    · rw [if_pos hlt, show decide ((i : Int) ≤ hi) = false from decide_eq_false (by omega), hj]
      simp
    · rw [if_neg hlt, hj]
      simp
  | succ d ih =>
    intro k i hi1 hi2 hd hk
    obtain ⟨k, rfl⟩ : ∃ m, k = m + 2 := ⟨k - 2, by omega⟩
    simp only [spec_l2Marks.l0]
    by_cases hlt : (i : Int) < (s.size : Int)
    · rw [if_pos hlt, show decide ((i : Int) ≤ hi) = true from decide_eq_true (by omega)]
      simp only [spec_l2Marks.j1]
      rw [if_pos trivial, if_pos (by omega), if_pos hlt]
      have hl : i < s.data.toList.length := by rw [size_data]; omega
      rw [drop_cons_ _ _ hl, List.take_succ_cons, List.all_cons, bt_get s i (by omega)]
      have hw : wrap64 ((i : Int) + 1) = ((i + 1 : Nat) : Int) := by unfold wrap64; omega
      rw [hw]
      generalize s.data.toList[i] = c
      have hc : ∀ n : Nat, n < 256 → (((c.toNat : Int) = (n : Int)) ↔ c = UInt8.ofNat n) := by
        intro n hn
        constructor
        · intro h
          apply UInt8.toNat_inj.1
          simp
          omega
        · rintro rfl
          simp
          omega
      have c46 : ((c.toNat : Int) = 46) ↔ c = 46 := hc 46 (by omega)
      have c45 : ((c.toNat : Int) = 45) ↔ c = 45 := hc 45 (by omega)
      by_cases h46 : c = 46
      · subst h46
        rw [if_pos (by rfl), ih _ _ (by omega) (by omega) (by omega) (by omega)]
        rfl
      · rw [if_neg (fun h => h46 (c46.1 h))]
        by_cases h45 : c = 45
        · subst h45
          rw [if_pos (by rfl), ih _ _ (by omega) (by omega) (by omega) (by omega)]
          rfl
        · rw [if_neg (fun h => h45 (c45.1 h))]
          simp [okc, h46, h45]
    · rw [if_neg hlt]
      have hj : spec_l2Marks.j1 (k + 1) s lo hi i false = some (decide (lo ≤ s.size ∧ (s.size : Int) ≤ hi)) := by
        simp only [spec_l2Marks.j1]
        rw [if_neg (by simp), l1In_eq]
        rfl
      rw [hj, List.drop_eq_nil_of_le (by rw [size_data]; omega)]
      simp
theorem specMarks_eq (s : ByteArray) (lo hi : Int) (h0 : 0 ≤ hi) (hh : hi ≤ 1000000) (k : Nat) (hk : 2 * hi + 5 ≤ k) : spec_l2Marks.f k s lo hi = some (okMarks s lo hi) := by
  unfold spec_l2Marks.f
  have h := specMarks_l0 s lo hi h0 hh (hi + 1 - ((0 : Nat) : Int)).toNat k 0 (by omega) (by omega) rfl (by omega)
  rw [show ((0 : Nat) : Int) = 0 from rfl] at h
  rw [h]
  unfold okMarks
  congr 1
  rw [List.drop_zero, Bool.and_comm]
  by_cases hl : lo ≤ (s.size : Int) ∧ (s.size : Int) ≤ hi
  · rw [List.take_of_length_le (by rw [size_data]; omega)]
  · simp [hl]

/-! ### enum -/
/-- All texts of n marks. -/
def gen : Nat → List (List UInt8)
  | 0 => [[]]
  | n + 1 => (gen n).flatMap fun l => [46 :: l, 45 :: l]
theorem mem_gen (l : List UInt8) (h : l.all okc = true) : l ∈ gen l.length := by
  induction l with
  | nil => exact List.mem_singleton.2 rfl
  | cons c t ih =>
    rw [List.all_cons, Bool.and_eq_true] at h
    have h1 := ih h.2
    have h2 := h.1
    simp only [okc, Bool.or_eq_true, beq_iff_eq] at h2
    simp only [List.length_cons, gen, List.mem_flatMap]
    refine ⟨t, h1, ?_⟩
    rcases h2 with rfl | rfl <;> simp
/-- All texts of at most five marks. -/
def gens : List (List UInt8) := gen 0 ++ gen 1 ++ gen 2 ++ gen 3 ++ gen 4 ++ gen 5
theorem mem_gens (l : List UInt8) (h : l.all okc = true) (hl : l.length ≤ 5) : l ∈ gens := by
  have h1 := mem_gen l h
  unfold gens
  have : l.length = 0 ∨ l.length = 1 ∨ l.length = 2 ∨ l.length = 3 ∨ l.length = 4 ∨ l.length = 5 := by omega
  rcases this with e | e | e | e | e | e <;> rw [e] at h1 <;> simp [h1]
theorem str_eta (s : ByteArray) : s = ⟨s.data.toList.toArray⟩ := by
  obtain ⟨⟨l⟩⟩ := s
  rfl
theorem mem_okMarks (s : ByteArray) (lo : Int) (h : okMarks s lo 5 = true) : ∃ l ∈ gens, s = ⟨l.toArray⟩ := by
  simp only [okMarks, Bool.and_eq_true, decide_eq_true_eq] at h
  exact ⟨s.data.toList, mem_gens _ h.2 (by rw [size_data]; omega), str_eta s⟩

/-! ### ev -/
/-- With enough rounds, and ever after, g answers r. -/
def Evt {α : Type} (g : Nat → Option α) (r : α) : Prop := ∃ K, ∀ k, K ≤ k → g k = some r
theorem Evt.const {α : Type} (r : α) : Evt (fun _ => some r) r := ⟨0, fun _ _ => rfl⟩
theorem Evt.of_eq {α : Type} {g h : Nat → Option α} {r : α} (e : ∀ k, g k = h k) (H : Evt h r) : Evt g r := by
  obtain ⟨K, hK⟩ := H
  exact ⟨K, fun k hk => (e k).trans (hK k hk)⟩
theorem Evt.bind {α β : Type} {g : Nat → Option β} {h : Nat → β → Option α} {a : β} {r : α} (H1 : Evt g a) (H2 : Evt (fun k => h k a) r) : Evt (fun k => (g k).bind (h k)) r := by
  obtain ⟨K1, h1⟩ := H1
  obtain ⟨K2, h2⟩ := H2
  refine ⟨max K1 K2, fun k hk => ?_⟩
  show (g k).bind (h k) = some r
  rw [h1 k (by omega)]
  exact h2 k (by omega)
theorem Evt.succ {α : Type} {g h : Nat → Option α} {r : α} (e : ∀ k, g (k + 1) = h k) (H : Evt h r) : Evt g r := by
  obtain ⟨K, hK⟩ := H
  refine ⟨K + 1, fun k hk => ?_⟩
  obtain ⟨k, rfl⟩ : ∃ m, k = m + 1 := ⟨k - 1, by omega⟩
  rw [e]
  exact hK k (by omega)
theorem Evt.get {α : Type} {g : Nat → Option α} {r : α} (H : Evt g r) : ∃ k, g k = some r := by
  obtain ⟨K, hK⟩ := H
  exact ⟨K, hK K (Nat.le_refl _)⟩
theorem Evt.get2 {α β : Type} {g : Nat → Option α} {h : Nat → Option β} {r : α} {s : β} (H : Evt g r) (H' : Evt h s) : ∃ k, g k = some r ∧ h k = some s := by
  obtain ⟨K, hK⟩ := H
  obtain ⟨K', hK'⟩ := H'
  exact ⟨max K K', hK _ (by omega), hK' _ (by omega)⟩
theorem Evt.ite_pos {α : Type} {c : Prop} [Decidable c] {g h : Nat → Option α} {r : α} (hc : c) (H : Evt g r) : Evt (fun k => if c then g k else h k) r :=
  H.of_eq (fun k => by rw [if_pos hc])
theorem Evt.ite_neg {α : Type} {c : Prop} [Decidable c] {g h : Nat → Option α} {r : α} (hc : ¬ c) (H : Evt h r) : Evt (fun k => if c then g k else h k) r :=
  H.of_eq (fun k => by rw [if_neg hc])
theorem Evt.pred {α : Type} {g h : Nat → Option α} {r : α} (e : ∀ k, g (k + 1) = h k) (H : Evt g r) : Evt h r := by
  obtain ⟨K, hK⟩ := H
  exact ⟨K, fun k hk => (e k).symm.trans (hK (k + 1) (by omega))⟩

/-! ### mono -/
/-- What is told once is told ever after. -/
theorem Evt.of_mono {α : Type} {g : Nat → Option α} {r : α} (m : ∀ k, LeO (g k) (g (k + 1))) {k0 : Nat} (h : g k0 = some r) : Evt g r := by
  refine ⟨k0, fun k hk => ?_⟩
  obtain ⟨d, rfl⟩ : ∃ d, k = k0 + d := ⟨k - k0, by omega⟩
  clear hk
  induction d with
  | zero => exact h
  | succ d ih => exact m (k0 + d) r ih

/-! ### lists -/
theorem rdOf_get {α : Type} (d : α) (l : List α) (i : Nat) (h : i < l.length) : rdOf d l (i : Int) = l[i] := by
  unfold rdOf
  rw [Int.toNat_natCast, List.getD_eq_getElem?_getD, List.getElem?_eq_getElem h]
  rfl
theorem rd_get (l : List Int) (i : Nat) (h : i < l.length) : rd l (i : Int) = l[i] := by
  unfold rd
  rw [Int.toNat_natCast, List.getD_eq_getElem?_getD, List.getElem?_eq_getElem h]
  rfl
theorem drop_get {α : Type} (l : List α) (i : Nat) (h : i < l.length) : l.drop i = l[i] :: l.drop (i + 1) := by simp
theorem wrap_succ (i : Nat) (h : i < 9223372036854775807) : wrap64 ((i : Int) + 1) = ((i + 1 : Nat) : Int) := by unfold wrap64; omega

/-! ### node -/
/-- The node of a text of marks. -/
def nd (l : List UInt8) : Nat := l.foldl (fun n c => 2 * n + if c == 45 then 1 else 0) 1
theorem node_l0 : ∀ (k : Nat) (s : ByteArray) (a i : Int), spec_l9Node.l0 k s a i = impl_nodeOf.l0 k s a (s.size : Int) i := by
  intro k
  induction k with
  | zero => intro s a i; rfl
  | succ k ih =>
    intro s a i
    simp only [spec_l9Node.l0, impl_nodeOf.l0, ih, Int.mul_comm a 2]
    by_cases h1 : i < (s.size : Int)
    · simp only [if_pos h1]
    · simp only [if_neg h1]
theorem node_f (k : Nat) (s : ByteArray) : spec_l9Node.f k s = impl_nodeOf.f k s := by
  unfold spec_l9Node.f impl_nodeOf.f
  exact node_l0 k s 1 0
theorem node_inside : (gens.all fun l => impl_nodeOf.f 60 ⟨l.toArray⟩ == some (nd l : Int) && decide (1 ≤ nd l ∧ nd l ≤ 63)) = true := by decide +kernel
theorem node_evt (s : ByteArray) (lo : Int) (h : okMarks s lo 5 = true) : Evt (fun k => impl_nodeOf.f k s) (nd s.data.toList : Int) ∧ 1 ≤ nd s.data.toList ∧ nd s.data.toList ≤ 63 := by
  obtain ⟨l, hl, rfl⟩ := mem_okMarks s lo h
  have h := List.all_eq_true.1 node_inside l hl
  simp only [Bool.and_eq_true, beq_iff_eq, decide_eq_true_eq] at h
  exact ⟨Evt.of_mono (fun k => impl_nodeOf.mono _ k) h.1, h.2.1, h.2.2⟩
theorem node_evt' (s : ByteArray) (lo : Int) (h : okMarks s lo 5 = true) : Evt (fun k => spec_l9Node.f k s) (nd s.data.toList : Int) := (node_evt s lo h).1.of_eq (fun k => node_f k s)

/-! ### tolist -/
theorem toList_inj (a b : ByteArray) : a.toList = b.toList ↔ a = b := by
  rw [Lib.toList_data, Lib.toList_data]
  constructor
  · intro h
    obtain ⟨⟨l⟩⟩ := a
    obtain ⟨⟨m⟩⟩ := b
    simp only at h
    rw [h]
  · rintro rfl
    rfl

/-! ### table -/
open Classical
/-- The first place of a text in a list, from place i on; -1 for none. -/
def plc : List ByteArray → ByteArray → Nat → Int
  | [], _, _ => -1
  | x :: l, s, i => if x = s then (i : Int) else plc l s (i + 1)
theorem plc_ge (l : List ByteArray) (s : ByteArray) : ∀ i, plc l s i = -1 ∨ (i : Int) ≤ plc l s i := by
  induction l with
  | nil => exact fun i => .inl rfl
  | cons x l ih =>
    intro i
    unfold plc
    by_cases h : x = s
    · rw [if_pos h]
      exact .inr (Int.le_refl _)
    · rw [if_neg h]
      rcases ih (i + 1) with h | h
      · exact .inl h
      · right
        omega
theorem plc_none (l : List ByteArray) (s : ByteArray) : ∀ i, plc l s i = -1 ↔ s ∉ l := by
  induction l with
  | nil => intro i; simp [plc]
  | cons x l ih =>
    intro i
    unfold plc
    by_cases h : x = s
    · subst h
      rw [if_pos rfl]
      simp
    · rw [if_neg h, ih, List.mem_cons]
      constructor
      · intro hn he
        rcases he with e | e
        · exact h e.symm
        · exact hn e
      · intro hn he
        exact hn (.inr he)
theorem plc_lt (l : List ByteArray) (s : ByteArray) : ∀ i, plc l s i < ((i + l.length : Nat) : Int) := by
  induction l with
  | nil => intro i; simp [plc]; omega
  | cons x l ih =>
    intro i
    unfold plc
    by_cases h : x = s
    · rw [if_pos h]
      simp
      omega
    · rw [if_neg h]
      have := ih (i + 1)
      simp at this ⊢
      omega
theorem specPlace_l0 (l : List ByteArray) (s : ByteArray) (hl : l.length < 9223372036854775807) (d : Nat) : ∀ i, i ≤ l.length → l.length - i = d → Evt (fun k => spec_l2Place.l0 k l s i) (plc (l.drop i) s i) := by
  induction d with
  | zero =>
    intro i hi hd
    refine Evt.succ (h := fun _ => some (-1)) (fun k => ?_) ?_
    · simp only [spec_l2Place.l0]
      rw [if_neg (by omega)]
    · rw [List.drop_eq_nil_of_le (by omega)]
      exact Evt.const _
  | succ d ih =>
    intro i hi hd
    have hlt : i < l.length := by omega
    rw [drop_get l i hlt]
    unfold plc
    by_cases h : l[i] = s
    · rw [if_pos h]
      refine Evt.succ (h := fun _ => some (i : Int)) (fun k => ?_) (Evt.const _)
      simp only [spec_l2Place.l0]
      rw [if_pos (by omega), if_pos (by omega), rdOf_get _ _ _ hlt, if_pos ((toList_inj _ _).2 h)]
    · rw [if_neg h]
      refine Evt.succ (fun k => ?_) (ih (i + 1) (by omega) (by omega))
      simp only [spec_l2Place.l0]
      rw [if_pos (by omega), if_pos (by omega), rdOf_get _ _ _ hlt, if_neg (fun e => h ((toList_inj _ _).1 e)), wrap_succ i (by omega)]
theorem specPlace_evt (l : List ByteArray) (s : ByteArray) (hl : l.length < 9223372036854775807) : Evt (fun k => spec_l2Place.f k l s) (plc l s 0) :=
  (specPlace_l0 l s hl l.length 0 (by omega) (by omega)).of_eq (fun k => rfl)
theorem implIndex_l0 (l : List ByteArray) (s : ByteArray) (hl : l.length < 9223372036854775807) (d : Nat) : ∀ i, i ≤ l.length → l.length - i = d → Evt (fun k => slices_Index_string_string.l0 k l s (l.length : Int) i) (plc (l.drop i) s i) := by
  induction d with
  | zero =>
    intro i hi hd
    refine Evt.succ (h := fun _ => some (-1)) (fun k => ?_) ?_
    · simp only [slices_Index_string_string.l0]
      rw [if_neg (by omega)]
    · rw [List.drop_eq_nil_of_le (by omega)]
      exact Evt.const _
  | succ d ih =>
    intro i hi hd
    have hlt : i < l.length := by omega
    rw [drop_get l i hlt]
    unfold plc
    by_cases h : l[i] = s
    · rw [if_pos h]
      refine Evt.succ (h := fun _ => some (i : Int)) (fun k => ?_) (Evt.const _)
      simp only [slices_Index_string_string.l0]
      rw [if_pos (by omega), if_pos (by omega), if_pos (by omega), rdOf_get _ _ _ hlt, if_pos ((toList_inj _ _).2 h.symm)]
    · rw [if_neg h]
      refine Evt.succ (fun k => ?_) (ih (i + 1) (by omega) (by omega))
      simp only [slices_Index_string_string.l0]
      rw [if_pos (by omega), if_pos (by omega), if_pos (by omega), rdOf_get _ _ _ hlt, if_neg (fun e => h ((toList_inj _ _).1 e).symm), wrap_succ i (by omega)]
theorem implIndex_evt (l : List ByteArray) (s : ByteArray) (hl : l.length < 9223372036854775807) : Evt (fun k => slices_Index_string_string.f k l s) (plc l s 0) :=
  (implIndex_l0 l s hl l.length 0 (by omega) (by omega)).of_eq (fun k => rfl)
theorem implContains_evt (l : List ByteArray) (s : ByteArray) (hl : l.length < 9223372036854775807) : Evt (fun k => slices_Contains_string_string.f k l s) (decide (s ∈ l)) := by
  have h : decide (plc l s 0 ≥ 0) = decide (s ∈ l) := by
    rw [decide_eq_decide]
    have h1 := plc_none l s 0
    have h2 := plc_ge l s 0
    constructor
    · intro h
      by_cases hm : s ∈ l
      · exact hm
      · rw [h1.2 hm] at h
        omega
    · intro hm
      rcases h2 with h | h
      · exact absurd hm (h1.1 h)
      · omega
  rw [← h]
  exact Evt.bind (implIndex_evt l s hl) (Evt.const _)
/-- Is a list of marks a table? -/
noncomputable def okTable (l : List ByteArray) : Bool := decide (1 ≤ l.length ∧ l.length ≤ 10 ∧ (∀ m ∈ l, okMarks m 1 5 = true) ∧ l.Nodup)
theorem plc_first (l m : List ByteArray) (s : ByteArray) : ∀ i, plc (l ++ s :: m) s i = ((i + l.length : Nat) : Int) ↔ s ∉ l := by
  induction l with
  | nil =>
    intro i
    simp [plc]
  | cons x l ih =>
    intro i
    rw [List.cons_append]
    unfold plc
    by_cases h : x = s
    · rw [if_pos h]
      simp [h]
      omega
    · rw [if_neg h, show i + (x :: l).length = (i + 1) + l.length by simp; omega, ih, List.mem_cons]
      constructor
      · intro hn he
        rcases he with e | e
        · exact h e.symm
        · exact hn e
      · intro hn he
        exact hn (.inr he)
/-- The rest of a table is good, what stands ahead of it known. -/
noncomputable def okRest (l : List ByteArray) (i : Nat) : Bool := decide (∀ j (h : j < l.length), i ≤ j → okMarks l[j] 1 5 = true ∧ l[j] ∉ l.take j)
theorem okRest_end (l : List ByteArray) (i : Nat) (h : l.length ≤ i) : okRest l i = true := by
  unfold okRest
  rw [decide_eq_true_eq]
  intro j hj hij
  omega
theorem okRest_step (l : List ByteArray) (i : Nat) (h : i < l.length) : okRest l i = (okMarks l[i] 1 5 && (!decide (l[i] ∈ l.take i)) && okRest l (i + 1)) := by
  unfold okRest
  rw [Bool.eq_iff_iff]
  simp only [Bool.and_eq_true, decide_eq_true_eq, Bool.not_eq_true', decide_eq_false_iff_not]
  constructor
  · intro H
    exact ⟨H i h (Nat.le_refl _), fun j hj hij => H j hj (by omega)⟩
  · intro H j hj hij
    by_cases e : j = i
    · subst e
      exact H.1
    · exact H.2 j hj (by omega)
theorem okTable_eq (l : List ByteArray) : okTable l = (decide (1 ≤ l.length ∧ l.length ≤ 10) && okRest l 0) := by
  unfold okTable okRest
  rw [Bool.eq_iff_iff]
  simp only [Bool.and_eq_true, decide_eq_true_eq]
  constructor
  · rintro ⟨h1, h2, h3, h4⟩
    refine ⟨⟨h1, h2⟩, fun j hj _ => ⟨h3 _ (List.getElem_mem hj), fun hm => ?_⟩⟩
    obtain ⟨q, hq, he⟩ := List.getElem_of_mem hm
    rw [List.length_take] at hq
    rw [List.getElem_take] at he
    exact absurd ((List.getElem_inj h4).1 he) (by omega)
  · rintro ⟨⟨h1, h2⟩, h3⟩
    refine ⟨h1, h2, fun m hm => ?_, ?_⟩
    · obtain ⟨j, hj, rfl⟩ := List.getElem_of_mem hm
      exact (h3 j hj (Nat.zero_le _)).1
    · rw [List.nodup_iff_pairwise_ne, List.pairwise_iff_getElem]
      intro i j hi hj hij he
      refine (h3 j hj (Nat.zero_le _)).2 ?_
      rw [← he]
      exact List.mem_of_getElem? (i := i) (by rw [List.getElem?_take, if_pos hij, List.getElem?_eq_getElem hi])
theorem implTable_l0 (l : List ByteArray) (hl : l.length < 9223372036854775807) (d : Nat) : ∀ i, i ≤ l.length → l.length - i = d → Evt (fun k => impl_isTable.l0 k l (l.length : Int) i l) (decide (1 ≤ l.length ∧ l.length ≤ 10) && okRest l i) := by
  induction d with
  | zero =>
    intro i hi hd
    refine Evt.succ (h := fun _ => some (decide (1 ≤ (l.length : Int) ∧ (l.length : Int) ≤ 10))) (fun k => ?_) ?_
    · simp only [impl_isTable.l0]
      rw [if_neg (by omega), in_eq]
      rfl
    · rw [okRest_end l i (by omega), Bool.and_true, show decide (1 ≤ (l.length : Int) ∧ (l.length : Int) ≤ 10) = decide (1 ≤ l.length ∧ l.length ≤ 10) by rw [decide_eq_decide]; omega]
      exact Evt.const _
  | succ d ih =>
    intro i hi hd
    have hlt : i < l.length := by omega
    rw [okRest_step l i hlt]
    have hc := implContains_evt (l.take i) l[i] (by rw [List.length_take]; omega)
    refine Evt.succ (h := fun k => if okMarks l[i] 1 5 = true then ((slices_Contains_string_string.f k (l.take i) l[i]).bind fun t => if t = true then some false else impl_isTable.l0 k l (l.length : Int) ((i + 1 : Nat) : Int) l) else some false) (fun k => ?_) ?_
    · simp only [impl_isTable.l0]
      rw [if_pos (by omega), if_pos (by omega), if_pos (by omega), rdOf_get _ _ _ hlt, wrap_succ i (by omega), if_pos (by omega)]
      unfold impl_isLetterMarks.f
      rw [implAreMarks_eq _ 1 5 (by omega)]
      rfl
    · by_cases hm : okMarks l[i] 1 5 = true
      · refine Evt.ite_pos hm (Evt.bind hc ?_)
        by_cases hin : l[i] ∈ l.take i
        · refine Evt.ite_pos (by simpa using hin) ?_
          simp [hin]
          exact Evt.const _
        · refine Evt.ite_neg (by simpa using hin) ?_
          simp only [hm, hin, decide_false, Bool.not_false, Bool.true_and, Bool.and_self]
          exact ih (i + 1) (by omega) (by omega)
      · refine Evt.ite_neg hm ?_
        simp [hm]
        exact Evt.const _
theorem implTable_evt (l : List ByteArray) (hl : l.length < 9223372036854775807) : Evt (fun k => impl_isTable.f k l) (okTable l) := by
  rw [okTable_eq]
  exact (implTable_l0 l hl l.length 0 (by omega) (by omega)).of_eq (fun k => rfl)
theorem specTable_l0 (l : List ByteArray) (hl : l.length < 9223372036854775807) (d : Nat) : ∀ i, i ≤ l.length → l.length - i = d → Evt (fun k => spec_l2Table.l0 k i l) (okRest l i) := by
  induction d with
  | zero =>
    intro i hi hd
    refine Evt.succ (h := fun _ => some true) (fun k => ?_) ?_
    · simp only [spec_l2Table.l0]
      rw [if_neg (by omega)]
    · rw [okRest_end l i (by omega)]
      exact Evt.const _
  | succ d ih =>
    intro i hi hd
    have hlt : i < l.length := by omega
    rw [okRest_step l i hlt]
    have hp := specPlace_evt l l[i] hl
    have hf : plc l l[i] 0 = (i : Int) ↔ l[i] ∉ l.take i := by
      have h := plc_first (l.take i) (l.drop (i + 1)) l[i] 0
      rw [← drop_get l i hlt, List.take_append_drop, List.length_take, Nat.min_eq_left (by omega), Nat.zero_add] at h
      exact h
    have hmk : Evt (fun k => spec_l2Marks.f k l[i] 1 5) (okMarks l[i] 1 5) := ⟨20, fun k hk => specMarks_eq _ 1 5 (by omega) (by omega) k (by omega)⟩
    refine Evt.succ (h := fun k => (spec_l2Marks.f k l[i] 1 5).bind fun t => if t = true then ((spec_l2Place.f k l l[i]).bind fun t => if t = (i : Int) then spec_l2Table.l0 k ((i + 1 : Nat) : Int) l else some false) else some false) (fun k => ?_) ?_
    · simp only [spec_l2Table.l0]
      rw [if_pos (by omega), if_pos (by omega), rdOf_get _ _ _ hlt, wrap_succ i (by omega)]
    · refine Evt.bind hmk ?_
      by_cases hm : okMarks l[i] 1 5 = true
      · refine Evt.ite_pos hm (Evt.bind hp ?_)
        by_cases hin : l[i] ∈ l.take i
        · refine Evt.ite_neg (fun e => (hf.1 e) hin) ?_
          simp [hin]
          exact Evt.const _
        · refine Evt.ite_pos (hf.2 hin) ?_
          simp only [hm, hin, decide_false, Bool.not_false, Bool.true_and, Bool.and_self]
          exact ih (i + 1) (by omega) (by omega)
      · refine Evt.ite_neg hm ?_
        simp [hm]
        exact Evt.const _
theorem specTable_evt (l : List ByteArray) (hl : l.length < 9223372036854775807) : Evt (fun k => spec_l2Table.f k l) (okTable l) := by
  rw [okTable_eq]
  refine Evt.of_eq (h := fun k => if decide (1 ≤ (l.length : Int) ∧ (l.length : Int) ≤ 10) = true then spec_l2Table.l0 k ((0 : Nat) : Int) l else some false) (fun k => ?_) ?_
  · unfold spec_l2Table.f
    rw [l1In_eq]
    rfl
  · by_cases h : 1 ≤ l.length ∧ l.length ≤ 10
    · refine Evt.ite_pos (by simp; omega) ?_
      simp only [h, and_self, decide_true, Bool.true_and]
      exact specTable_l0 l hl l.length 0 (by omega) (by omega)
    · refine Evt.ite_neg (by simp; omega) ?_
      simp [h]
      exact Evt.const _

/-! ### lawtable -/
/-- The law's own looks at a table: its weight, a copy, and whether it is as it was. -/
theorem szStringS_l0 (l : List ByteArray) (hl : l.length ≤ 1048576) (hs : ∀ m ∈ l, m.size ≤ 9223372036854775807) (d : Nat) : ∀ (i : Nat) (a : Int), i ≤ l.length → l.length - i = d → 0 ≤ a → a ≤ 1048576 → ∃ t, Evt (fun k => laws_szStringS.l0 k l a i) t := by
  induction d with
  | zero =>
    intro i a hi hd h0 h1
    refine ⟨a, Evt.succ (h := fun _ => some a) (fun k => ?_) (Evt.const _)⟩
    simp only [laws_szStringS.l0]
    rw [if_neg (by omega)]
  | succ d ih =>
    intro i a hi hd h0 h1
    have hlt : i < l.length := by omega
    have hsz := hs l[i] (List.getElem_mem hlt)
    have hw : wrap64 (a - (l[i].size : Int)) = a - (l[i].size : Int) := by unfold wrap64; omega
    by_cases h : a - (l[i].size : Int) < 0
    · refine ⟨-1, Evt.succ (h := fun _ => some (-1)) (fun k => ?_) (Evt.const _)⟩
      simp only [laws_szStringS.l0]
      rw [if_pos (by omega), if_pos (by omega), rdOf_get _ _ _ hlt, hw, if_pos h]
    · obtain ⟨t, ht⟩ := ih (i + 1) (a - (l[i].size : Int)) (by omega) (by omega) (by omega) (by omega)
      refine ⟨t, Evt.succ (fun k => ?_) ht⟩
      simp only [laws_szStringS.l0]
      rw [if_pos (by omega), if_pos (by omega), rdOf_get _ _ _ hlt, hw, if_neg h, wrap_succ i (by omega)]
theorem szStringS_evt (l : List ByteArray) (b : Int) (hb : 0 ≤ b) (hb2 : b ≤ 1048576) (h : l.length ≤ 9223372036854775807) (hs : ∀ m ∈ l, m.size ≤ 9223372036854775807) : ∃ t, Evt (fun k => laws_szStringS.f k l b) t ∧ (t < 0 ∨ l.length ≤ 1048576) := by
  have hw : wrap64 (b - (l.length : Int)) = b - (l.length : Int) := by unfold wrap64; omega
  by_cases hn : b - (l.length : Int) < 0
  · refine ⟨-1, (Evt.const (-1)).of_eq (fun k => ?_), .inl (by omega)⟩
    unfold laws_szStringS.f
    rw [hw, if_pos hn]
  · obtain ⟨t, ht⟩ := szStringS_l0 l (by omega) hs l.length 0 (b - (l.length : Int)) (by omega) (by omega) (by omega) (by omega)
    refine ⟨t, ht.of_eq (fun k => ?_), .inr (by omega)⟩
    unfold laws_szStringS.f
    rw [hw, if_neg hn]
    rfl
theorem szTable_evt (l : List ByteArray) (b : Int) (hb : 0 ≤ b) (hb2 : b ≤ 1048576) (h : l.length ≤ 9223372036854775807) (hs : ∀ m ∈ l, m.size ≤ 9223372036854775807) : ∃ t, Evt (fun k => laws_szTable.f k l b) t ∧ (t < 0 ∨ l.length ≤ 1048576) := by
  obtain ⟨t, ht, h⟩ := szStringS_evt l b hb hb2 h hs
  by_cases hn : t < 0
  · exact ⟨-1, Evt.bind ht (Evt.ite_pos hn (Evt.const _)), .inl (by omega)⟩
  · exact ⟨t, Evt.bind ht (Evt.ite_neg hn (Evt.const _)), h⟩
theorem toStringS_l0 (l : List ByteArray) (hl : l.length ≤ 1048576) (d : Nat) : ∀ (i : Nat) (x : List ByteArray), i ≤ l.length → l.length - i = d → x.length = l.length → x.take i = l.take i → Evt (fun k => laws_toStringS.l0 k l x i) l := by
  induction d with
  | zero =>
    intro i x hi hd hx ht
    have e : x = l := by
      have h1 : i = l.length := by omega
      rw [h1, List.take_length, ← hx, List.take_length] at ht
      exact ht
    subst e
    refine Evt.succ (h := fun _ => some x) (fun k => ?_) (Evt.const _)
    simp only [laws_toStringS.l0]
    rw [if_neg (by omega)]
  | succ d ih =>
    intro i x hi hd hx ht
    have hlt : i < l.length := by omega
    refine Evt.succ (fun k => ?_) (ih (i + 1) (x.set i l[i]) (by omega) (by omega) (by rw [List.length_set]; exact hx) ?_)
    · simp only [laws_toStringS.l0]
      rw [if_pos (by omega), if_pos (by omega), if_pos (by omega), rdOf_get _ _ _ hlt, wrap_succ i (by omega), Int.toNat_natCast]
    · rw [List.take_succ_eq_append_getElem (by rw [List.length_set]; omega), List.take_succ_eq_append_getElem hlt, List.take_set_of_le (by omega), ht, List.getElem_set_self]
theorem toStringS_evt (l : List ByteArray) (hl : l.length ≤ 1048576) : Evt (fun k => laws_toStringS.f k l) l := by
  refine (toStringS_l0 l hl l.length 0 (List.replicate l.length (⟨#[]⟩ : ByteArray)) (by omega) (by omega) (by simp) rfl).of_eq (fun k => ?_)
  unfold laws_toStringS.f
  rw [if_pos (by omega), Int.toNat_natCast, if_pos (by omega)]
  rfl
theorem toTable_evt (l : List ByteArray) (hl : l.length ≤ 1048576) : Evt (fun k => laws_toTable.f k l) l :=
  Evt.bind (toStringS_evt l hl) (Evt.const _)
theorem eqStringS_l0 (l : List ByteArray) (hl : l.length ≤ 1048576) (d : Nat) : ∀ (i : Nat), i ≤ l.length → l.length - i = d → Evt (fun k => laws_eqStringS.l0 k l l i) true := by
  induction d with
  | zero =>
    intro i hi hd
    refine Evt.succ (h := fun _ => some true) (fun k => ?_) (Evt.const _)
    simp only [laws_eqStringS.l0]
    rw [if_neg (by omega)]
  | succ d ih =>
    intro i hi hd
    refine Evt.succ (fun k => ?_) (ih (i + 1) (by omega) (by omega))
    simp only [laws_eqStringS.l0]
    rw [if_pos (by omega), if_pos (by omega), if_pos (by omega), if_pos trivial, wrap_succ i (by omega)]
theorem eqStringS_evt (l : List ByteArray) (hl : l.length ≤ 1048576) : Evt (fun k => laws_eqStringS.f k l l) true := by
  refine (eqStringS_l0 l hl l.length 0 (by omega) (by omega)).of_eq (fun k => ?_)
  unfold laws_eqStringS.f
  rw [if_pos rfl]
  rfl
theorem eqTable_evt (l : List ByteArray) (hl : l.length ≤ 1048576) : Evt (fun k => laws_eqTable.f k l l) true :=
  Evt.bind (eqStringS_evt l hl) (Evt.ite_pos rfl (Evt.const _))
theorem of_table (l : List ByteArray) (h : okTable l = true) : 1 ≤ l.length ∧ l.length ≤ 10 ∧ (∀ m ∈ l, okMarks m 1 5 = true) ∧ l.Nodup := by
  unfold okTable at h
  rw [decide_eq_true_eq] at h
  exact h
theorem len_wrap (l : List ByteArray) (h : l.length ≤ 1048576) : wrap64 ((l.length : Int) - 1) = (l.length : Int) - 1 := by
  unfold wrap64
  omega
theorem isLetter_len (l : List ByteArray) (h : okTable l = true) : wrap64 ((l.length : Int) - 1) = (l.length : Int) - 1 := by
  have := of_table l h
  unfold wrap64
  omega

/-! ### sorted -/
theorem ss_ext : ∀ (l m : List Int), l.Pairwise (· < ·) → m.Pairwise (· < ·) → (∀ x, x ∈ l ↔ x ∈ m) → l = m := by
  intro l
  induction l with
  | nil =>
    intro m _ _ h
    cases m with
    | nil => rfl
    | cons b m => exact absurd ((h b).2 List.mem_cons_self) (by simp)
  | cons a l ih =>
    intro m hl hm h
    cases m with
    | nil => exact absurd ((h a).1 List.mem_cons_self) (by simp)
    | cons b m =>
      rw [List.pairwise_cons] at hl hm
      have e : a = b := by
        have h1 := (h a).1 List.mem_cons_self
        have h2 := (h b).2 List.mem_cons_self
        rcases List.mem_cons.1 h1 with e | h1
        · exact e
        · rcases List.mem_cons.1 h2 with e | h2
          · exact e.symm
          · have := hl.1 _ h2
            have := hm.1 _ h1
            omega
      subst e
      congr 1
      refine ih m hl.2 hm.2 (fun x => ?_)
      have hx := h x
      rw [List.mem_cons, List.mem_cons] at hx
      constructor
      · intro h1
        rcases hx.1 (.inr h1) with e | h2
        · have := hl.1 _ h1
          omega
        · exact h2
      · intro h1
        rcases hx.2 (.inr h1) with e | h2
        · have := hm.1 _ h1
          omega
        · exact h2
/-- A number put to its place, once. -/
def put (n : Int) : List Int → List Int
  | [] => [n]
  | x :: l => if x < n then x :: put n l else if x = n then x :: l else n :: x :: l
theorem put_mem (n x : Int) : ∀ l, x ∈ put n l ↔ x = n ∨ x ∈ l := by
  intro l
  induction l with
  | nil => simp [put]
  | cons a l ih =>
    unfold put
    by_cases h : a < n
    · rw [if_pos h, List.mem_cons, ih, List.mem_cons]
      constructor
      · rintro (h | h | h)
        · exact .inr (.inl h)
        · exact .inl h
        · exact .inr (.inr h)
      · rintro (h | h | h)
        · exact .inr (.inl h)
        · exact .inl h
        · exact .inr (.inr h)
    · rw [if_neg h]
      by_cases e : a = n
      · subst e
        rw [if_pos rfl, List.mem_cons]
        constructor
        · exact .inr
        · rintro (h | h)
          · exact .inl h
          · exact h
      · rw [if_neg e, List.mem_cons]
theorem put_ss (n : Int) : ∀ l : List Int, l.Pairwise (· < ·) → (put n l).Pairwise (· < ·) := by
  intro l
  induction l with
  | nil => intro _; simp [put]
  | cons a l ih =>
    intro hl
    have hl' := hl
    rw [List.pairwise_cons] at hl'
    unfold put
    by_cases h : a < n
    · rw [if_pos h, List.pairwise_cons]
      refine ⟨fun x hx => ?_, ih hl'.2⟩
      rcases (put_mem n x l).1 hx with rfl | hx
      · exact h
      · exact hl'.1 x hx
    · rw [if_neg h]
      by_cases e : a = n
      · rw [if_pos e]
        exact hl
      · rw [if_neg e, List.pairwise_cons]
        refine ⟨fun x hx => ?_, hl⟩
        rcases List.mem_cons.1 hx with rfl | hx
        · omega
        · have := hl'.1 x hx
          omega
theorem put_len (n : Int) : ∀ l : List Int, (put n l).length ≤ l.length + 1 := by
  intro l
  induction l with
  | nil => simp [put]
  | cons a l ih =>
    unfold put
    by_cases h : a < n
    · rw [if_pos h]
      simp
      omega
    · rw [if_neg h]
      by_cases e : a = n
      · rw [if_pos e]
        simp
      · rw [if_neg e]
        simp
/-- The numbers of a list, each put to its place. -/
def puts (l : List Int) : List Int := l.foldl (fun o n => put n o) []
theorem puts_go (l : List Int) : ∀ o : List Int, o.Pairwise (· < ·) → (l.foldl (fun o n => put n o) o).Pairwise (· < ·) ∧ ∀ x, x ∈ l.foldl (fun o n => put n o) o ↔ x ∈ o ∨ x ∈ l := by
  induction l with
  | nil => intro o ho; exact ⟨ho, fun x => by simp⟩
  | cons a l ih =>
    intro o ho
    have h := ih (put a o) (put_ss a o ho)
    refine ⟨h.1, fun x => ?_⟩
    rw [List.foldl_cons, h.2, put_mem, List.mem_cons]
    constructor
    · rintro ((h | h) | h)
      · exact .inr (.inl h)
      · exact .inl h
      · exact .inr (.inr h)
    · rintro (h | h | h)
      · exact .inl (.inr h)
      · exact .inl (.inl h)
      · exact .inr h
theorem puts_ss (l : List Int) : (puts l).Pairwise (· < ·) := (puts_go l [] List.Pairwise.nil).1
theorem puts_mem (l : List Int) (x : Int) : x ∈ puts l ↔ x ∈ l := by
  have := (puts_go l [] List.Pairwise.nil).2 x
  unfold puts
  rw [this]
  simp
/-- A list sorted. -/
def sortI (l : List Int) : List Int := l.mergeSort fun x y => decide (x ≤ y)
theorem sortI_mem (l : List Int) (x : Int) : x ∈ sortI l ↔ x ∈ l := (List.mergeSort_perm l _).mem_iff
theorem sortI_len (l : List Int) : (sortI l).length = l.length := List.length_mergeSort l
theorem sortI_le (l : List Int) : (sortI l).Pairwise (· ≤ ·) := by
  have h := List.pairwise_mergeSort (le := fun x y : Int => decide (x ≤ y)) (fun a b c h1 h2 => by simp at *; omega) (fun a b => by simp; omega) l
  exact h.imp (fun h => by simpa using h)
theorem sortI_puts (l : List Int) (h : l.Nodup) : sortI l = puts l := by
  refine ss_ext _ _ ?_ (puts_ss l) (fun x => by rw [sortI_mem, puts_mem])
  have h1 := sortI_le l
  have h2 : (sortI l).Nodup := (List.mergeSort_perm l _).nodup_iff.2 h
  exact (List.Pairwise.and h1 h2).imp (fun ⟨a, b⟩ => by omega)

/-! ### put -/
theorem put_l0 (l : List Int) (n : Int) (hl : l.length ≤ 1000000) (d : Nat) : ∀ i, i ≤ l.length → l.length - i = d → Evt (fun k => spec_l1Put.l0 k l n i) (l.take i ++ put n (l.drop i)) := by
  induction d with
  | zero =>
    intro i hi hd
    obtain rfl : i = l.length := by omega
    rw [List.drop_length, List.take_length]
    refine Evt.succ (h := fun _ => some (l ++ [n])) (fun k => ?_) (Evt.const _)
    rw [spec_l1Put.l0, if_neg (by omega)]
    simp only [Option.bind_some]
    rw [if_pos (by omega), if_pos (by omega), Int.toNat_natCast, List.take_length, List.drop_length, if_pos (by simp; omega), if_pos (by simp; omega), if_pos (by simp; omega)]
    simp
  | succ d ih =>
    intro i hi hd
    have hlt : i < l.length := by omega
    have hdr := drop_get l i hlt
    by_cases h : l[i] < n
    · have e : l.take i ++ put n (l.drop i) = l.take (i + 1) ++ put n (l.drop (i + 1)) := by
        rw [hdr, put, if_pos h, List.take_succ_eq_append_getElem hlt, List.append_assoc]
        rfl
      rw [e]
      refine Evt.succ (fun k => ?_) (ih (i + 1) (by omega) (by omega))
      rw [spec_l1Put.l0, if_pos (by omega), if_pos (by omega), rd_get _ _ hlt, if_pos h, wrap_succ i (by omega)]
    · by_cases h2 : l[i] = n
      · have e : l.take i ++ put n (l.drop i) = l := by
          rw [hdr, put, if_neg h, if_pos h2, ← hdr, List.take_append_drop]
        rw [e]
        refine Evt.succ (h := fun _ => some l) (fun k => ?_) (Evt.const _)
        rw [spec_l1Put.l0, if_pos (by omega), if_pos (by omega), rd_get _ _ hlt, if_neg h, if_pos h2]
      · have e : l.take i ++ put n (l.drop i) = l.take i ++ [n] ++ l.drop i := by
          rw [hdr, put, if_neg h, if_neg h2, ← hdr, List.append_assoc]
          rfl
        rw [e]
        refine Evt.succ (h := fun _ => some (l.take i ++ [n] ++ l.drop i)) (fun k => ?_) (Evt.const _)
        rw [spec_l1Put.l0, if_pos (by omega), if_pos (by omega), rd_get _ _ hlt, if_neg h, if_neg h2]
        simp only [Option.bind_some]
        rw [if_pos (by omega), Int.toNat_natCast, if_pos (by simp; omega), if_pos (by simp; omega), if_pos (by simp; omega)]
        rfl
theorem put_evt (l : List Int) (n : Int) (hl : l.length ≤ 1000000) : Evt (fun k => spec_l1Put.f k l n) (put n l) :=
  (put_l0 l n hl l.length 0 (by omega) (by omega)).of_eq (fun k => rfl)

/-! ### nodes -/
/-- The nodes of a table, letter by letter. -/
def nodes (t : List ByteArray) : List Int := t.map fun m => (nd m.data.toList : Int)
theorem nodes_len (t : List ByteArray) : (nodes t).length = t.length := List.length_map _
theorem nodes_take (t : List ByteArray) (i : Nat) (h : i < t.length) : (nodes t).take (i + 1) = (nodes t).take i ++ [(nd t[i].data.toList : Int)] := by
  rw [List.take_succ_eq_append_getElem (by rw [nodes_len]; exact h)]
  simp [nodes]
theorem nodes_drop (t : List ByteArray) (i : Nat) (h : i < t.length) : (nodes t).drop i = (nd t[i].data.toList : Int) :: (nodes t).drop (i + 1) := by
  rw [drop_get _ i (by rw [nodes_len]; exact h)]
  simp [nodes]
theorem nd_inj_in : (gens.all fun l => gens.all fun m => nd l != nd m || l == m) = true := by decide +kernel
theorem nd_inj (a b : ByteArray) (ha : okMarks a 1 5 = true) (hb : okMarks b 1 5 = true) (h : nd a.data.toList = nd b.data.toList) : a = b := by
  obtain ⟨l, hl, rfl⟩ := mem_okMarks a 1 ha
  obtain ⟨m, hm, rfl⟩ := mem_okMarks b 1 hb
  have h1 := List.all_eq_true.1 (List.all_eq_true.1 nd_inj_in l hl) m hm
  simp only [Bool.or_eq_true, bne_iff_ne, beq_iff_eq] at h1
  rw [h1.resolve_left (fun e => e h)]
theorem nodes_nodup (t : List ByteArray) (ht : okTable t = true) : (nodes t).Nodup := by
  have hof := of_table t ht
  unfold nodes
  rw [List.nodup_iff_pairwise_ne, List.pairwise_map]
  have h := hof.2.2.2
  rw [List.nodup_iff_pairwise_ne] at h
  exact List.Pairwise.imp_of_mem (fun {a b} ha hb hab e => hab (nd_inj a b (hof.2.2.1 a ha) (hof.2.2.1 b hb) (by omega))) h
theorem nodes_mem (t : List ByteArray) (ht : okTable t = true) (x : Int) (h : x ∈ nodes t) : ∃ v : Nat, x = v ∧ v < 64 := by
  obtain ⟨m, hm, rfl⟩ := List.mem_map.1 h
  have := node_evt m 1 ((of_table t ht).2.2.1 m hm)
  exact ⟨_, rfl, by omega⟩
theorem specFilled_l0 (t : List ByteArray) (ht : okTable t = true) (d : Nat) : ∀ (i : Nat) (O : List Int), i ≤ t.length → t.length - i = d → O.length ≤ i → Evt (fun k => spec_l9Filled.l0 k O i t) (((nodes t).drop i).foldl (fun o n => put n o) O) := by
  have hof := of_table t ht
  induction d with
  | zero =>
    intro i O hi hd hO
    rw [List.drop_eq_nil_of_le (by rw [nodes_len]; omega)]
    exact Evt.succ (h := fun _ => some O) (fun k => by rw [spec_l9Filled.l0, if_neg (by omega)]) (Evt.const _)
  | succ d ih =>
    intro i O hi hd hO
    have li : i < t.length := by omega
    have h1 := node_evt' t[i] 1 (hof.2.2.1 _ (List.getElem_mem li))
    have h2 := put_evt O (nd t[i].data.toList : Int) (by omega)
    have h3 := put_len (nd t[i].data.toList : Int) O
    rw [nodes_drop t i li, List.foldl_cons]
    exact Evt.succ (h := fun k => (spec_l9Node.f k t[i]).bind fun a => (spec_l1Put.f k O a).bind fun b => spec_l9Filled.l0 k b ((i + 1 : Nat) : Int) t) (fun k => by rw [spec_l9Filled.l0, if_pos (by omega), if_pos (by omega), rdOf_get _ _ _ li, wrap_succ i (by omega)]) (Evt.bind h1 (Evt.bind h2 (ih (i + 1) _ (by omega) (by omega) (by omega))))
theorem specFilled_evt (t : List ByteArray) (ht : okTable t = true) : Evt (fun k => spec_l9Filled.f k t) (puts (nodes t)) := by
  have h := specFilled_l0 t ht t.length 0 [] (by omega) (by omega) (by simp)
  rw [List.drop_zero] at h
  exact h
theorem implFilled_l0 (t : List ByteArray) (ht : okTable t = true) (d : Nat) : ∀ (i : Nat), i ≤ t.length → t.length - i = d → Evt (fun k => impl_filled.l0 k ((nodes t).take i) t (t.length : Int) i) (nodes t) := by
  have hof := of_table t ht
  induction d with
  | zero =>
    intro i hi hd
    have e : (nodes t).take i = nodes t := List.take_of_length_le (by rw [nodes_len]; omega)
    rw [e]
    exact Evt.succ (h := fun _ => some (nodes t)) (fun k => by rw [impl_filled.l0, if_neg (by omega)]) (Evt.const _)
  | succ d ih =>
    intro i hi hd
    have li : i < t.length := by omega
    have h1 := (node_evt t[i] 1 (hof.2.2.1 _ (List.getElem_mem li))).1
    have hg := ih (i + 1) (by omega) (by omega)
    rw [nodes_take t i li] at hg
    exact Evt.succ (h := fun k => (impl_nodeOf.f k t[i]).bind fun a => if ((nodes t).take i).length < 17592186044416 then impl_filled.l0 k ((nodes t).take i ++ [a]) t (t.length : Int) ((i + 1 : Nat) : Int) else none) (fun k => by rw [impl_filled.l0, if_pos (by omega), if_pos (by omega), if_pos (by omega), rdOf_get _ _ _ li, wrap_succ i (by omega)]) (Evt.bind h1 (Evt.ite_pos (by rw [List.length_take, nodes_len]; omega) hg))
theorem implFilled_evt (t : List ByteArray) (ht : okTable t = true) : Evt (fun k => impl_filled.f k t) (nodes t) :=
  (implFilled_l0 t ht t.length 0 (by omega) (by omega)).of_eq (fun k => rfl)
theorem filled_len (t : List ByteArray) (ht : okTable t = true) : (puts (nodes t)).length ≤ 10 := by
  have h := of_table t ht
  rw [← sortI_puts _ (nodes_nodup t ht), sortI_len, nodes_len]
  omega

/-! ### marksIntS -/
/-- The law's own looks at a row of whole numbers. -/
theorem rd_nat (l : List Int) (i : Nat) (h : i < l.length) : rd l (i : Int) = l[i] := by
  unfold rd
  rw [Int.toNat_natCast, List.getD_eq_getElem?_getD, List.getElem?_eq_getElem h]
  rfl
theorem eqIntS_l0 (l : List Int) (hl : l.length ≤ 1099511627776) (d : Nat) : ∀ (i : Nat), i ≤ l.length → l.length - i = d → Evt (fun k => laws_eqIntS.l0 k l l i) true := by
  induction d with
  | zero =>
    intro i hi hd
    refine Evt.succ (h := fun _ => some true) (fun k => ?_) (Evt.const _)
    simp only [laws_eqIntS.l0]
    rw [if_neg (by omega)]
  | succ d ih =>
    intro i hi hd
    refine Evt.succ (fun k => ?_) (ih (i + 1) (by omega) (by omega))
    simp only [laws_eqIntS.l0]
    rw [if_pos (by omega), if_pos (by omega), if_pos (by omega), if_pos trivial, wrap_succ i (by omega)]
theorem eqIntS_evt (l : List Int) (hl : l.length ≤ 1099511627776) : Evt (fun k => laws_eqIntS.f k l l) true := by
  refine (eqIntS_l0 l hl l.length 0 (by omega) (by omega)).of_eq (fun k => ?_)
  unfold laws_eqIntS.f
  rw [if_pos rfl]
  rfl
def markInts (n : Nat) : List Int := (List.range n).map fun i => ((1 + i : Nat) : Int)
theorem markInts_len (n : Nat) : (markInts n).length = n := by unfold markInts; rw [List.length_map, List.length_range]
theorem markInts_get (n i : Nat) (h : i < (markInts n).length) : (markInts n)[i] = ((1 + i : Nat) : Int) := by
  simp only [markInts, List.getElem_map, List.getElem_range]
theorem markIntS_l0 (n : Nat) (hl : n ≤ 1099511627776) (d : Nat) : ∀ (i : Nat) (x : List Int), i ≤ n → n - i = d → x.length = n → x.take i = (markInts n).take i → Evt (fun k => laws_markIntS.l0 k x ((1 + i : Nat) : Int) i) (((1 + n : Nat) : Int), markInts n) := by
  induction d with
  | zero =>
    intro i x hi hd hx ht
    have e : x = markInts n := by
      have h1 : i = n := by omega
      have h2 := markInts_len n
      rw [h1, List.take_of_length_le (by omega), List.take_of_length_le (by omega)] at ht
      exact ht
    subst e
    refine Evt.succ (h := fun _ => some (((1 + n : Nat) : Int), markInts n)) (fun k => ?_) (Evt.const _)
    obtain rfl : i = n := by omega
    simp only [laws_markIntS.l0]
    rw [if_neg (by omega)]
  | succ d ih =>
    intro i x hi hd hx ht
    have h2 := markInts_len n
    refine Evt.succ (fun k => ?_) (ih (i + 1) (x.set i ((1 + i : Nat) : Int)) (by omega) (by omega) (by rw [List.length_set]; exact hx) ?_)
    · simp only [laws_markIntS.l0]
      rw [if_pos (by omega), if_pos (by omega), wrap_succ i (by omega), wrap_succ (1 + i) (by omega), Int.toNat_natCast]
      rfl
    · rw [List.take_succ_eq_append_getElem (by rw [List.length_set]; omega), List.take_succ_eq_append_getElem (by omega), List.take_set_of_le (by omega), ht, List.getElem_set_self, markInts_get]
theorem markIntS_evt (l : List Int) (hl : l.length ≤ 1099511627776) : Evt (fun k => laws_markIntS.f k l 1) (((1 + l.length : Nat) : Int), markInts l.length) :=
  markIntS_l0 l.length hl l.length 0 l (by omega) (by omega) rfl rfl

/-! ### heldIntS -/
theorem heldIntS_l0 (n : Nat) (hl : n ≤ 1099511627776) (d : Nat) : ∀ (i : Nat), i ≤ n → n - i = d → Evt (fun k => laws_heldIntS.l0 k (markInts n) ((1 + i : Nat) : Int) i) ((1 + n : Nat) : Int) := by
  have h2 := markInts_len n
  induction d with
  | zero =>
    intro i hi hd
    obtain rfl : i = n := by omega
    refine Evt.succ (h := fun _ => some ((1 + i : Nat) : Int)) (fun k => ?_) (Evt.const _)
    simp only [laws_heldIntS.l0]
    rw [if_neg (by omega)]
  | succ d ih =>
    intro i hi hd
    refine Evt.succ (fun k => ?_) (ih (i + 1) (by omega) (by omega))
    simp only [laws_heldIntS.l0]
    rw [if_pos (by omega), if_pos (by omega), rd_nat _ _ (by omega), markInts_get, if_pos rfl, wrap_succ i (by omega), wrap_succ (1 + i) (by omega)]
    rfl
theorem heldIntS_evt (n : Nat) (hl : n ≤ 1099511627776) : Evt (fun k => laws_heldIntS.f k (markInts n) 1) ((1 + n : Nat) : Int) :=
  heldIntS_l0 n hl n 0 (by omega) (by omega)

/-! ### marksText -/
/-- The marks that the law writes into a row of texts. -/
theorem markText_l0 (d : Nat) : ∀ (x : Nat) (s : ByteArray), x ≤ 1099511627777 → x < 10 ^ d → s.size + d ≤ 1000 → ∃ r, Evt (fun k => laws_markText.l0 k x s) r := by
  induction d with
  | zero =>
    intro x s h0 h1 hs
    have hx : ¬ (x : Int) > 0 := by
      have : x < 1 := h1
      omega
    refine ⟨_, Evt.succ (h := fun _ => some ((⟨#[109]⟩ : ByteArray) ++ s)) (fun k => ?_) (Evt.const _)⟩
    rw [laws_markText.l0, if_neg hx, if_pos (by omega)]
  | succ d ih =>
    intro x s h0 h1 hs
    by_cases hx : (x : Int) > 0
    · have e : wrap64 (Int.tdiv x 10) = ((x / 10 : Nat) : Int) := by
        rw [Int.tdiv_eq_ediv_of_nonneg (by omega)]
        unfold wrap64
        omega
      have hz : (strOfNums [(wrap64 (48 + (Int.tmod x 10))) % 256]).size = 1 := by
        rw [strOfNums_size]
        rfl
      obtain ⟨r, hr⟩ := ih (x / 10) (strOfNums [(wrap64 (48 + (Int.tmod x 10))) % 256] ++ s) (by omega) (by rw [Nat.pow_succ] at h1; omega) (by rw [ByteArray.size_append, hz]; omega)
      refine ⟨r, Evt.succ (fun k => ?_) hr⟩
      rw [laws_markText.l0, if_pos hx]
      show (if _ then _ else _) = _
      rw [if_pos (by rw [hz]; omega), e]
    · refine ⟨_, Evt.succ (h := fun _ => some ((⟨#[109]⟩ : ByteArray) ++ s)) (fun k => ?_) (Evt.const _)⟩
      rw [laws_markText.l0, if_neg hx, if_pos (by omega)]
theorem markText_evt (x : Nat) (h : x ≤ 1099511627777) : ∃ r, Evt (fun k => laws_markText.f k x) r := by
  by_cases hx : (x : Int) ≤ 0
  · exact ⟨_, Evt.ite_pos hx (Evt.const _)⟩
  · obtain ⟨r, hr⟩ := markText_l0 13 x (⟨#[]⟩ : ByteArray) h (by omega) (by decide)
    exact ⟨r, Evt.ite_neg hx hr⟩
theorem markStringS_l0 (n : Nat) (hn : n ≤ 1099511627776) (d : Nat) : ∀ (i : Nat) (x : List ByteArray), i ≤ n → n - i = d → x.length = n → ∃ y, Evt (fun k => laws_markStringS.l0 k x ((1 + i : Nat) : Int) i) (((1 + n : Nat) : Int), y) := by
  induction d with
  | zero =>
    intro i x hi hd hx
    obtain rfl : i = n := by omega
    refine ⟨x, Evt.succ (h := fun _ => some (((1 + i : Nat) : Int), x)) (fun k => ?_) (Evt.const _)⟩
    rw [laws_markStringS.l0, if_neg (by omega)]
  | succ d ih =>
    intro i x hi hd hx
    obtain ⟨t, ht⟩ := markText_evt (1 + i) (by omega)
    obtain ⟨y, hy⟩ := ih (i + 1) (x.set i t) (by omega) (by omega) (by rw [List.length_set]; exact hx)
    refine ⟨y, Evt.succ (fun k => ?_) (Evt.bind (h := fun k t => if 0 ≤ (i : Int) then laws_markStringS.l0 k (x.set i t) ((1 + (i + 1) : Nat) : Int) ((i + 1 : Nat) : Int) else none) ht (Evt.ite_pos (by omega) hy))⟩
    rw [laws_markStringS.l0, if_pos (by omega), wrap_succ i (by omega), wrap_succ (1 + i) (by omega), Int.toNat_natCast]
    rfl
theorem markStringS_evt (l : List ByteArray) (hl : l.length ≤ 1099511627776) : ∃ y, Evt (fun k => laws_markStringS.f k l 1) (((1 + l.length : Nat) : Int), y) :=
  markStringS_l0 l.length hl l.length 0 l (by omega) (by omega) rfl

/-! ### marksTable -/
theorem markTable_evt (l : List ByteArray) (hl : l.length ≤ 1099511627776) : ∃ y, Evt (fun k => laws_markTable.f k l 1) (((1 + l.length : Nat) : Int), y) := by
  obtain ⟨y, hy⟩ := markStringS_evt l hl
  exact ⟨y, Evt.bind hy (Evt.const _)⟩

theorem same_evt (l : List ByteArray) (hl : l.length ≤ 1048576) : ∃ r : List Int × Bool, Evt (fun k => spec_FilledNodes.f k l) r ∧ Evt (fun k => impl_FilledNodes.f k l) r ∧ r.1.length ≤ 1099511627776 := by
  have s1 := specTable_evt l (by omega)
  have i1 := implTable_evt l (by omega)
  cases ht : okTable l with
  | false =>
    rw [ht] at s1 i1
    exact ⟨([], false), Evt.bind s1 (Evt.ite_neg (by simp) (Evt.const _)), Evt.bind i1 (Evt.ite_neg (by simp) (Evt.const _)), by simp⟩
  | true =>
    rw [ht] at s1 i1
    have r1 := specFilled_evt l ht
    have r2 := implFilled_evt l ht
    have r3 := filled_len l ht
    have hn := nodes_nodup l ht
    have hof := of_table l ht
    have e : slices_Sorted_int.f (nodes l) = some (puts (nodes l)) := by
      have hln := nodes_len l
      have c1 : (nodes l).length ≤ 17592186043904 := by omega
      have c2 : (nodes l).length < 4611686018427387904 := by omega
      rw [← sortI_puts _ hn]
      unfold slices_Sorted_int.f slices_Sort_int_int.f
      rw [if_pos c1, if_pos c2]
      rfl
    exact ⟨(puts (nodes l), true), Evt.bind s1 (Evt.ite_pos rfl (Evt.bind r1 (Evt.const _))), Evt.bind i1 (Evt.ite_pos rfl (Evt.bind r2 (Evt.bind (Evt.of_eq (fun _ => e) (Evt.const _)) (Evt.const _)))), by show (puts (nodes l)).length ≤ _; omega⟩
theorem FnExactFilledNodes : laws_FnExactFilledNodes.Pure := by
  intro l hl hs
  obtain ⟨t, ht, hor⟩ := szTable_evt l 1048576 (by omega) (by omega) hl hs
  refine Evt.get (r := true) ?_
  refine Evt.bind ht ?_
  by_cases hn : t < 0
  · exact Evt.ite_pos hn (Evt.const _)
  · refine Evt.ite_neg hn ?_
    have hl : l.length ≤ 1048576 := by omega
    obtain ⟨r, h1, h2, hr⟩ := same_evt l hl
    obtain ⟨y, hy⟩ := markTable_evt l (by omega)
    refine Evt.bind (toTable_evt l hl) (Evt.bind h1 (Evt.bind (toTable_evt l hl) (Evt.bind h2 (Evt.bind (eqIntS_evt r.1 hr) ?_))))
    refine Evt.ite_pos rfl ?_
    rw [show (r.2 != r.2) = false by simp]
    refine Evt.succ (h := fun k => _) (fun k => by simp only [laws_FnExactFilledNodes.j0]; rfl) ?_
    refine Evt.ite_neg (by simp) ?_
    refine Evt.bind (toTable_evt l hl) (Evt.bind (eqTable_evt l hl) (Evt.ite_pos rfl (Evt.bind hy (Evt.ite_neg (by first | omega | (dsimp only; omega)) (Evt.bind (eqIntS_evt r.1 hr) (Evt.ite_pos rfl ?_))))))
    rw [show (r.2 != r.2) = false by simp]
    refine Evt.succ (h := fun k => _) (fun k => by simp only [laws_FnExactFilledNodes.j1]; rfl) ?_
    refine Evt.ite_neg (by simp) ?_
    refine Evt.bind (markIntS_evt r.1 hr) (Evt.bind (heldIntS_evt r.1.length hr) (Evt.ite_neg (by first | omega | (dsimp only; omega)) (Evt.ite_pos rfl ?_)))
    refine Evt.bind (toTable_evt l hl) (Evt.bind h2 (Evt.bind (eqIntS_evt r.1 hr) (Evt.ite_pos rfl ?_)))
    rw [show (r.2 != r.2) = false by simp]
    refine Evt.succ (h := fun k => _) (fun k => by simp only [laws_FnExactFilledNodes.j2]; rfl) ?_
    refine Evt.ite_neg (by simp) ?_
    exact Evt.bind (heldIntS_evt r.1.length hr) (Evt.ite_neg (by first | omega | (dsimp only; omega)) (Evt.ite_pos rfl (Evt.const _)))
end Go.Proofs.YtolbhpgphinjcaaDoor.Pure
