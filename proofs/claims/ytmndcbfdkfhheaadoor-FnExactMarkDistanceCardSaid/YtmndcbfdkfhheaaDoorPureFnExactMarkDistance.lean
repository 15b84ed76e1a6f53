/- The program's MarkDistance returns what the reference's MarkDistance returns, for all texts. No condition: both count the least number of single mistakes, the program from the front, the reference row by row. -/
import Derived.Test.YtmndcbfdkfhheaaDoorPFnExactMarkDistancex5
namespace Go.Proofs.YtmndcbfdkfhheaaDoor.Pure
open Go.RowKit Go.Proofs.YtmndcbfdkfhheaaDoor.PFnExactMarkDistance Go.Proofs.YtmndcbfdkfhheaaDoorW.PrintWords Go.Proofs.YtmndcbfdkfhheaaDoorW.PrintLast Go.Proofs.YtmndcbfdkfhheaaDoorW.PrintMore
set_option linter.unusedVariables false
set_option linter.unusedSimpArgs false

/-! ### in -/
theorem in_eq (a b c : Int) : impl_in.f a b c = some (decide (b ≤ a ∧ a ≤ c)) := by
  unfold impl_in.f
  by_cases h : a ≥ b
  · rw [if_pos h]
    simp [show b ≤ a from h]
  · rw [if_neg h]
    simp [show ¬ b ≤ a from h]
theorem l1In_eq (a b c : Int) : spec_l1In.f a b c = some (decide (b ≤ a ∧ a ≤ c)) := by
  unfold spec_l1In.f
  by_cases h : a ≥ b
  · rw [if_pos h]
    simp [show b ≤ a from h]
  · rw [if_neg h]
    simp [show ¬ b ≤ a from h]

/-! ### marks -/
/-- A byte that is a mark. -/
def okc (c : UInt8) : Bool := c == 46 || c == 45
def okMarks (s : ByteArray) (lo hi : Int) : Bool := decide (lo ≤ s.size ∧ (s.size : Int) ≤ hi) && s.data.toList.all okc
theorem size_data (s : ByteArray) : s.data.toList.length = s.size := by rw [Array.length_toList]; rfl
theorem bt_get (s : ByteArray) (i : Nat) (h : i < s.size) : bt s (i : Int) = ((s.data.toList[i]'(by rw [size_data]; exact h)).toNat : Int) := by
  unfold bt
  rw [dif_pos (by simpa using h)]
  simp only [Int.toNat_natCast, Array.getElem_toList]
  rfl
theorem trim_empty (l : List UInt8) : ((Lib.trimS l [46, 45]) = []) ↔ l.all okc = true := by
  have e : ∀ c : UInt8, ([46, 45] : List UInt8).contains c = okc c := fun c => by
    simp [okc, List.contains_cons]
    rfl
  have dw : ∀ l : List UInt8, (l.dropWhile (([46, 45] : List UInt8).contains ·) = []) ↔ l.all okc = true := by
    intro l
    induction l with
    | nil => simp
    | cons c t ih =>
      rw [List.dropWhile_cons, e]
      cases h : okc c with
      | true =>
        simp only [if_true, List.all_cons, h, Bool.true_and]
        exact ih
      | false => simp [h]
  unfold Lib.trimS Lib.trimLeftS Lib.trimRightS
  rw [dw]
  have dwa : ∀ l : List UInt8, (l.dropWhile (([46, 45] : List UInt8).contains ·)).all okc = l.all okc := by
    intro l
    induction l with
    | nil => rfl
    | cons c t ih =>
      rw [List.dropWhile_cons, e]
      cases h : okc c with
      | true =>
        simp only [if_true, List.all_cons, h, Bool.true_and]
        exact ih
      | false => simp
  rw [List.all_reverse, dwa, List.all_reverse]
theorem implAreMarks_eq (s : ByteArray) (lo hi : Int) (hh : hi ≤ 9223372036854775807) : impl_areMarks.f s lo hi = some (okMarks s lo hi) := by
  unfold impl_areMarks.f okMarks
  rw [in_eq]
  simp only [Option.bind_some, decide_eq_true_eq]
  by_cases h : lo ≤ (s.size : Int) ∧ (s.size : Int) ≤ hi
  · rw [if_pos h]
    unfold strings_Trim.f
    rw [if_pos (by omega), if_pos rfl]
    simp only [Option.bind_some, h, and_self, decide_true, Bool.true_and]
    congr 1
    rw [Lib.toList_data]
    have := trim_empty s.data.toList
    cases hb : s.data.toList.all okc with
    | true => simp [this.2 hb]
    | false =>
      have : ¬ Lib.trimS s.data.toList [46, 45] = [] := fun h => by rw [this.1 h] at hb; cases hb
      simpa using this
  · rw [if_neg h]
    simp [h]
theorem drop_cons_ (l : List UInt8) (i : Nat) (h : i < l.length) : l.drop i = l[i] :: l.drop (i + 1) := by simp
/-- The reference's loop from place i on: the marks up to 'hi', then the length. -/
theorem specMarks_l0 (s : ByteArray) (lo hi : Int) (h0 : 0 ≤ hi) (hh : hi ≤ 1000000) (d : Nat) : ∀ (k i : Nat), i ≤ s.size → (i : Int) ≤ hi + 1 → (hi + 1 - i).toNat = d → 2 * d + 3 ≤ k →
    spec_l2Marks.l0 k s lo hi i = some (((s.data.toList.drop i).take d).all okc && decide (lo ≤ s.size ∧ (s.size : Int) ≤ hi)) := by
  induction d with
  | zero =>
    intro k i hi1 hi2 hd hk
    obtain ⟨k, rfl⟩ : ∃ m, k = m + 2 := ⟨k - 2, by omega⟩
    have e : (i : Int) = hi + 1 := by omega
    simp only [spec_l2Marks.l0]
    have hj : spec_l2Marks.j1 (k + 1) s lo hi i false = some (decide (lo ≤ s.size ∧ (s.size : Int) ≤ hi)) := by
      simp only [spec_l2Marks.j1]
      rw [if_neg (by simp), l1In_eq]
      rfl
    by_cases hlt : (i : Int) < (s.size : Int)
    · rw [if_pos hlt, show decide ((i : Int) ≤ hi) = false from decide_eq_false (by omega), hj]
      simp
    · rw [if_neg hlt, hj]
      simp
  | succ d ih =>
    intro k i hi1 hi2 hd hk
    obtain ⟨k, rfl⟩ : ∃ m, k = m + 2 := ⟨k - 2, by omega⟩
    simp only [spec_l2Marks.l0]
    by_cases hlt : (i : Int) < (s.size : Int)
    · rw [if_pos hlt, show decide ((i : Int) ≤ hi) = true from decide_eq_true (by omega)]
      simp only [spec_l2Marks.j1]
      rw [if_pos trivial, if_pos (by omega), if_pos hlt]
      have hl : i < s.data.toList.length := by rw [size_data]; omega
      rw [drop_cons_ _ _ hl, List.take_succ_cons, List.all_cons, bt_get s i (by omega)]
      have hw : wrap64 ((i : Int) + 1) = ((i + 1 : Nat) : Int) := by unfold wrap64; omega
      rw [hw]
      generalize s.data.toList[i] = c
      have hc : ∀ n : Nat, n < 256 → (((c.toNat : Int) = (n : Int)) ↔ c = UInt8.ofNat n) := by
        intro n hn
        constructor
        · intro h
          apply UInt8.toNat_inj.1
          simp
          omega
        · rintro rfl
          simp
          omega
      have c46 : ((c.toNat : Int) = 46) ↔ c = 46 := hc 46 (by omega)
      have c45 : ((c.toNat : Int) = 45) ↔ c = 45 := hc 45 (by omega)
      by_cases h46 : c = 46
      · subst h46
        rw [if_pos (by rfl), ih _ _ (by omega) (by omega) (by omega) (by omega)]
        rfl
      · rw [if_neg (fun h => h46 (c46.1 h))]
        by_cases h45 : c = 45
        · subst h45
          rw [if_pos (by rfl), ih _ _ (by omega) (by omega) (by omega) (by omega)]
          rfl
        · rw [if_neg (fun h => h45 (c45.1 h))]
          simp [okc, h46, h45]
    · rw [if_neg hlt]
      have hj : spec_l2Marks.j1 (k + 1) s lo hi i false = some (decide (lo ≤ s.size ∧ (s.size : Int) ≤ hi)) := by
        simp only [spec_l2Marks.j1]
        rw [if_neg (by simp), l1In_eq]
        rfl
      rw [hj, List.drop_eq_nil_of_le (by rw [size_data]; omega)]
      simp
theorem specMarks_eq (s : ByteArray) (lo hi : Int) (h0 : 0 ≤ hi) (hh : hi ≤ 1000000) (k : Nat) (hk : 2 * hi + 5 ≤ k) : spec_l2Marks.f k s lo hi = some (okMarks s lo hi) := by
  unfold spec_l2Marks.f
  have h := specMarks_l0 s lo hi h0 hh (hi + 1 - ((0 : Nat) : Int)).toNat k 0 (by omega) (by omega) rfl (by omega)
  rw [show ((0 : Nat) : Int) = 0 from rfl] at h
  rw [h]
  unfold okMarks
  congr 1
  rw [List.drop_zero, Bool.and_comm]
  by_cases hl : lo ≤ (s.size : Int) ∧ (s.size : Int) ≤ hi
  · rw [List.take_of_length_le (by rw [size_data]; omega)]
  · simp [hl]

/-! ### distance -/
/-- The least number of mistakes between two lists. -/
def lev : List UInt8 → List UInt8 → Nat
  | [], b => b.length
  | a, [] => a.length
  | x :: a, y :: b => min (lev a b + if x = y then 0 else 1) (min (lev a (y :: b) + 1) (lev (x :: a) b + 1))
termination_by a b => a.length + b.length
theorem lev_nil (b : List UInt8) : lev [] b = b.length := by
  unfold lev
  cases b <;> rfl
theorem lev_nil' (a : List UInt8) : lev a [] = a.length := by
  cases a with
  | nil => exact lev_nil []
  | cons x a => simp [lev]
theorem lev_cons (x y : UInt8) (a b : List UInt8) : lev (x :: a) (y :: b) = min (lev a b + if x = y then 0 else 1) (min (lev a (y :: b) + 1) (lev (x :: a) b + 1)) := by
  rw [lev]
theorem lev_le (n : Nat) : ∀ a b : List UInt8, a.length + b.length ≤ n → lev a b ≤ a.length + b.length := by
  induction n with
  | zero =>
    intro a b h
    obtain rfl : a = [] := List.eq_nil_of_length_eq_zero (by omega)
    rw [lev_nil]
    omega
  | succ n ih =>
    intro a b h
    cases a with
    | nil =>
      rw [lev_nil]
      omega
    | cons x a =>
      cases b with
      | nil => rw [lev_nil']; omega
      | cons y b =>
        have h1 := ih a (y :: b) (by simp at h ⊢; omega)
        rw [lev_cons]
        simp at h1 ⊢
        omega
theorem lev_bound (a b : List UInt8) : lev a b ≤ a.length + b.length := lev_le _ a b (Nat.le_refl _)
theorem min9 (A P Q R S T U V W e1 e2 : Nat) : min (min (A + e2) (min (P + 1) (Q + 1)) + e1) (min (min (R + e2) (min (S + 1) (T + 1)) + 1) (min (U + e2) (min (V + 1) (W + 1)) + 1)) = min (min (A + e1) (min (R + 1) (U + 1)) + e2) (min (min (P + e1) (min (S + 1) (V + 1)) + 1) (min (Q + e1) (min (T + 1) (W + 1)) + 1)) := by
  simp only [← Nat.add_min_add_right]
  ac_rfl
theorem lev_snoc_ (n : Nat) : ∀ (a b : List UInt8) (x y : UInt8), a.length + b.length ≤ n → lev (a ++ [x]) (b ++ [y]) = min (lev a b + if x = y then 0 else 1) (min (lev a (b ++ [y]) + 1) (lev (a ++ [x]) b + 1)) := by
  induction n with
  | zero =>
    intro a b x y h
    obtain rfl : a = [] := List.eq_nil_of_length_eq_zero (by omega)
    obtain rfl : b = [] := List.eq_nil_of_length_eq_zero (by omega)
    simp only [List.nil_append]
    rw [lev_cons]
  | succ n ih =>
    intro a b x y h
    cases a with
    | nil =>
      cases b with
      | nil =>
        simp only [List.nil_append]
        rw [lev_cons]
      | cons v b =>
        have h1 := ih [] b x y (by simp at h ⊢; omega)
        simp only [List.nil_append, List.cons_append] at h1 ⊢
        rw [lev_cons, h1, lev_cons x v [] b]
        simp only [lev_nil, List.length_append, List.length_cons, List.length_nil]
        omega
    | cons u a =>
      cases b with
      | nil =>
        have h1 := ih a [] x y (by simp at h ⊢; omega)
        simp only [List.nil_append, List.cons_append] at h1 ⊢
        rw [lev_cons, h1, lev_cons u y a []]
        simp only [lev_nil', List.length_append, List.length_cons, List.length_nil]
        omega
      | cons v b =>
        have h1 := ih a b x y (by simp at h ⊢; omega)
        have h2 := ih a (v :: b) x y (by simp at h ⊢; omega)
        have h3 := ih (u :: a) b x y (by simp at h ⊢; omega)
        simp only [List.cons_append] at h1 h2 h3 ⊢
        rw [lev_cons, h1, h2, h3, lev_cons u v a b, lev_cons u v a (b ++ [y]), lev_cons u v (a ++ [x]) b]
        exact min9 _ _ _ _ _ _ _ _ _ _ _
theorem lev_snoc (a b : List UInt8) (x y : UInt8) : lev (a ++ [x]) (b ++ [y]) = min (lev a b + if x = y then 0 else 1) (min (lev a (b ++ [y]) + 1) (lev (a ++ [x]) b + 1)) := lev_snoc_ (a.length + b.length) a b x y (Nat.le_refl _)
theorem ext1 (s : ByteArray) : (s.extract 1 s.size).data.toList = s.data.toList.drop 1 := Lib.extract_to_end s 1
theorem bt_zero (s : ByteArray) (c : UInt8) (l : List UInt8) (h : s.data.toList = c :: l) : bt s 0 = (c.toNat : Int) := by
  have h1 : s.data.toList.length = l.length + 1 := by rw [h]; rfl
  rw [size_data] at h1
  have h2 := bt_get s 0 (by omega)
  rw [show ((0 : Nat) : Int) = 0 from rfl] at h2
  rw [h2]
  simp [h]
theorem mn_eq (a b : Int) : mn a b = min a b := by unfold mn; omega
theorem mx_eq (a b : Int) : mx a b = max a b := by unfold mx; omega
theorem nat_byte (x y : UInt8) : ((x.toNat : Int) = (y.toNat : Int)) ↔ x = y := by
  constructor
  · intro h
    exact UInt8.toNat_inj.1 (by omega)
  · rintro rfl
    rfl
theorem three0 (A B C : Nat) : mn (mn (A : Int) ((B : Int) + 1)) ((C : Int) + 1) = ((min (A + 0) (min (B + 1) (C + 1)) : Nat) : Int) := by
  rw [mn_eq, mn_eq]
  omega
theorem three1 (A B C : Nat) : mn (mn ((A : Int) + 1) ((B : Int) + 1)) ((C : Int) + 1) = ((min (A + 1) (min (B + 1) (C + 1)) : Nat) : Int) := by
  rw [mn_eq, mn_eq]
  omega
theorem cellA (A B C X : Int) (h : X = min (A + 0) (min (B + 1) (C + 1))) : min A (1 + min B C) = X := by omega
theorem cellB (A B C X : Int) (h : X = min (A + 1) (min (B + 1) (C + 1))) : min (A + 1) (1 + min B C) = X := by omega
theorem wrapMin (A B : Int) (n : Nat) (hn : n ≤ 100000) (h1 : 0 ≤ A ∧ A ≤ n) (h2 : 0 ≤ B ∧ B ≤ n) : wrap64 (1 + min A B) = 1 + min A B := by
  unfold wrap64
  omega
/-- The program's distance. -/
theorem implDistance_eq (n : Nat) (hn : n ≤ 1000) : ∀ (k : Nat) (a b : ByteArray), a.size + b.size ≤ n → 2 * n + 2 ≤ k → impl_distance.f k a b = some (lev a.data.toList b.data.toList : Int) := by
  induction n with
  | zero =>
    intro k a b h hk
    obtain ⟨k, rfl⟩ : ∃ m, k = m + 2 := ⟨k - 2, by omega⟩
    have ha : a.data.toList = [] := List.eq_nil_of_length_eq_zero (by rw [size_data]; omega)
    simp only [impl_distance.f, impl_distance.j0]
    rw [Lib.toList_data, ha, if_pos rfl, if_pos trivial, lev_nil, size_data]
    congr 1
    unfold wrap64
    omega
  | succ n ih =>
    intro k a b h hk
    obtain ⟨k, rfl⟩ : ∃ m, k = m + 2 := ⟨k - 2, by omega⟩
    have ih := ih (by omega)
    simp only [impl_distance.f]
    have hA : (a.data.toList).length = a.size := size_data a
    have hB : (b.data.toList).length = b.size := size_data b
    rw [Lib.toList_data, Lib.toList_data]
    cases ha : a.data.toList with
    | nil =>
      rw [ha] at hA
      simp at hA
      rw [if_pos rfl]
      simp only [impl_distance.j0]
      rw [if_pos trivial, lev_nil, hB]
      congr 1
      unfold wrap64
      omega
    | cons x l =>
      rw [if_neg (by simp)]
      cases hb : b.data.toList with
      | nil =>
        rw [hb] at hB
        simp at hB
        simp only [impl_distance.j0]
        rw [if_pos (by rfl), lev_nil', ← ha, hA]
        congr 1
        unfold wrap64
        omega
      | cons y m =>
        rw [ha] at hA
        rw [hb] at hB
        simp only [List.length_cons] at hA hB
        simp only [impl_distance.j0]
        have ea : (a.extract 1 a.size).data.toList = l := by rw [ext1, ha]; rfl
        have eb : (b.extract 1 b.size).data.toList = m := by rw [ext1, hb]; rfl
        have sa : (a.extract 1 a.size).size = l.length := by rw [← size_data, ea]
        have sb : (b.extract 1 b.size).size = m.length := by rw [← size_data, eb]
        have i1 := ih k (a.extract 1 a.size) (b.extract 1 b.size) (by omega) (by omega)
        have i2 := ih k (a.extract 1 a.size) b (by omega) (by omega)
        have i3 := ih k a (b.extract 1 b.size) (by omega) (by omega)
        rw [ea, eb] at i1
        rw [ea, hb] at i2
        rw [ha, eb] at i3
        rw [i1, i2, i3, if_neg (by simp), if_pos (by omega), if_pos (by omega)]
        simp only [Option.bind_some]
        rw [if_pos (by omega), if_pos (by omega), bt_zero a x l ha, bt_zero b y m hb, lev_cons]
        have b1 := lev_bound l m
        have b2 := lev_bound l (y :: m)
        have b3 := lev_bound (x :: l) m
        simp only [List.length_cons] at b2 b3
        have w1 : wrap64 ((lev l (y :: m) : Int) + 1) = (lev l (y :: m) : Int) + 1 := by unfold wrap64; omega
        have w2 : wrap64 ((lev (x :: l) m : Int) + 1) = (lev (x :: l) m : Int) + 1 := by unfold wrap64; omega
        have w3 : wrap64 ((lev l m : Int) + 1) = (lev l m : Int) + 1 := by unfold wrap64; omega
        rw [w1, w2, w3]
        by_cases hxy : x = y
        · rw [if_pos ((nat_byte x y).2 hxy), if_pos hxy]
          exact congrArg some (three0 _ _ _)
        · rw [if_neg (fun h => hxy ((nat_byte x y).1 h)), if_neg hxy]
          exact congrArg some (three1 _ _ _)
/-- The reference's rows. -/
def cell (a b : ByteArray) (i j : Nat) : Int := (lev (a.data.toList.take i) (b.data.toList.take j) : Int)
theorem rd_range (f : Nat → Int) (m j : Nat) (h : j < m) : rd ((List.range m).map f) (j : Int) = f j := by
  unfold rd
  rw [Int.toNat_natCast, List.getD_eq_getElem?_getD, List.getElem?_map, List.getElem?_range h]
  rfl
theorem range_snoc (f : Nat → Int) (m : Nat) : (List.range m).map f ++ [f m] = (List.range (m + 1)).map f := by
  rw [List.range_succ, List.map_append]
  rfl
theorem take_snoc_ (l : List UInt8) (i : Nat) (h : i < l.length) : l.take (i + 1) = l.take i ++ [l[i]] := by
  rw [List.take_succ_eq_append_getElem h]
theorem cell_le (a b : ByteArray) (i j : Nat) : 0 ≤ cell a b i j ∧ cell a b i j ≤ i + j := by
  have h := lev_bound (a.data.toList.take i) (b.data.toList.take j)
  rw [List.length_take, List.length_take] at h
  unfold cell
  omega
theorem cell_succ (a b : ByteArray) (i j : Nat) (hi : i < a.size) (hj : j < b.size) : cell a b (i + 1) (j + 1) = min (cell a b i j + if bt a i = bt b j then 0 else 1) (min (cell a b i (j + 1) + 1) (cell a b (i + 1) j + 1)) := by
  have h1 : i < a.data.toList.length := by rw [size_data]; exact hi
  have h2 : j < b.data.toList.length := by rw [size_data]; exact hj
  unfold cell
  rw [take_snoc_ _ i h1, take_snoc_ _ j h2, lev_snoc, bt_get a i hi, bt_get b j hj]
  by_cases h : a.data.toList[i] = b.data.toList[j]
  · rw [if_pos h, if_pos ((nat_byte _ _).2 h)]
    omega
  · rw [if_neg h, if_neg (fun h' => h ((nat_byte _ _).1 h'))]
    omega
theorem cell_zero (a b : ByteArray) (j : Nat) (h : j ≤ b.size) : cell a b 0 j = j := by
  unfold cell
  rw [List.take_zero, lev_nil, List.length_take, size_data]
  omega
theorem cell_zero' (a b : ByteArray) (i : Nat) (h : i ≤ a.size) : cell a b i 0 = i := by
  unfold cell
  rw [List.take_zero, lev_nil', List.length_take, size_data]
  omega
theorem l1Least_eq (x y : Int) : spec_l1Least.f x y = some (min x y) := by
  unfold spec_l1Least.f
  by_cases h : x < y
  · rw [if_pos h]; congr 1; omega
  · rw [if_neg h]; congr 1; omega
theorem specDist_l2 (a b : ByteArray) (ha : a.size ≤ 1000) (hb : b.size ≤ 1000) (i : Nat) (hi : i < a.size) (r : Int)
    (next : ∀ k, 2 * (a.size - (i + 1)) * (b.size + 3) + 2 ≤ k → spec_l6Distance.l1 k a b ((List.range (b.size + 1)).map (cell a b (i + 1))) ((i + 2 : Nat) : Int) = some r) (d : Nat) :
    ∀ (k j : Nat), j + d = b.size → 2 * (a.size - (i + 1)) * (b.size + 3) + 3 + d ≤ k →
    spec_l6Distance.l2 k a b ((List.range (b.size + 1)).map (cell a b i)) ((i + 1 : Nat) : Int) ((List.range (j + 1)).map (cell a b (i + 1))) ((j + 1 : Nat) : Int) = some r := by
  induction d with
  | zero =>
    intro k j hj hk
    obtain ⟨k, rfl⟩ : ∃ m, k = m + 1 := ⟨k - 1, by omega⟩
    simp only [spec_l6Distance.l2]
    rw [if_neg (by omega), show j = b.size by omega, show wrap64 (((i + 1 : Nat) : Int) + 1) = ((i + 2 : Nat) : Int) by unfold wrap64; omega]
    exact next k (by omega)
  | succ d ih =>
    intro k j hj hk
    obtain ⟨k, rfl⟩ : ∃ m, k = m + 1 := ⟨k - 1, by omega⟩
    simp only [spec_l6Distance.l2]
    have w1 : wrap64 (((j + 1 : Nat) : Int) - 1) = (j : Int) := by unfold wrap64; omega
    have w2 : wrap64 (((i + 1 : Nat) : Int) - 1) = (i : Int) := by unfold wrap64; omega
    have w3 : wrap64 (((j + 1 : Nat) : Int) + 1) = ((j + 1 + 1 : Nat) : Int) := by unfold wrap64; omega
    rw [w1, w2, w3]
    have hl : ((List.range (b.size + 1)).map (cell a b i)).length = b.size + 1 := by simp
    have hl2 : ((List.range (j + 1)).map (cell a b (i + 1))).length = j + 1 := by simp
    rw [hl, hl2, if_pos (by omega), if_pos (by omega), if_pos (by omega), if_pos (by omega), if_pos (by omega), if_pos (by omega)]
    have g1 : (0 : Int) ≤ ((j + 1 : Nat) : Int) := by omega
    have g2 : ((j + 1 : Nat) : Int) < ((b.size + 1 : Nat) : Int) := by omega
    have g3 : (j : Int) < ((j + 1 : Nat) : Int) := by omega
    have g4 : j + 1 < 17592186044416 := by omega
    simp only [if_pos g1, if_pos g2, if_pos g3, if_pos g4]
    rw [rd_range _ _ (j + 1) (by omega), rd_range _ _ j (by omega), rd_range _ _ j (by omega)]
    have c1 := cell_le a b i j
    have c2 := cell_le a b i (j + 1)
    have c3 := cell_le a b (i + 1) j
    have cs := cell_succ a b i j hi (by omega)
    simp only [l1Least_eq, Option.bind_some]
    have e1 := wrapMin (cell a b i (j + 1)) (cell a b (i + 1) j) 2001 (by omega) (by omega) (by omega)
    have e2 : wrap64 (cell a b i j + 1) = cell a b i j + 1 := by clear cs e1; unfold wrap64; omega
    rw [e1, e2]
    clear e1 e2 c1 c2 c3
    by_cases h : bt a i = bt b j
    · rw [if_pos h]
      rw [if_pos h] at cs
      rw [cellA _ _ _ _ cs, range_snoc]
      clear cs
      exact ih k (j + 1) (by omega) (by omega)
    · rw [if_neg h]
      rw [if_neg h] at cs
      rw [cellB _ _ _ _ cs, range_snoc]
      clear cs
      exact ih k (j + 1) (by omega) (by omega)
theorem specDist_l1 (a b : ByteArray) (ha : a.size ≤ 1000) (hb : b.size ≤ 1000) (d : Nat) : ∀ (k i : Nat), i + d = a.size → 2 * d * (b.size + 3) + 2 ≤ k →
    spec_l6Distance.l1 k a b ((List.range (b.size + 1)).map (cell a b i)) ((i + 1 : Nat) : Int) = some (lev a.data.toList b.data.toList : Int) := by
  induction d with
  | zero =>
    intro k i hi hk
    obtain ⟨k, rfl⟩ : ∃ m, k = m + 1 := ⟨k - 1, by omega⟩
    simp only [spec_l6Distance.l1]
    rw [if_neg (by omega), if_pos (by omega), if_pos (by simp; omega), rd_range _ _ b.size (by omega)]
    unfold cell
    rw [List.take_of_length_le (by rw [size_data]; omega), List.take_of_length_le (by rw [size_data]; omega)]
  | succ d ih =>
    intro k i hi hk
    obtain ⟨k, rfl⟩ : ∃ m, k = m + 1 := ⟨k - 1, by omega⟩
    simp only [spec_l6Distance.l1]
    rw [if_pos (by omega)]
    have hs : ([((i + 1 : Nat) : Int)] : List Int) = (List.range (0 + 1)).map (cell a b (i + 1)) := by
      simp [cell_zero' a b (i + 1) (by omega)]
    have hd : a.size - (i + 1) = d := by omega
    have key : 2 * (d + 1) * (b.size + 3) = 2 * d * (b.size + 3) + 2 * (b.size + 3) := by
      rw [show 2 * (d + 1) = 2 * d + 2 by omega, Nat.add_mul]
    rw [hs]
    refine specDist_l2 a b ha hb i (by omega) _ (fun k' hk' => ?_) b.size k 0 (by omega) (by rw [hd]; omega)
    rw [hd] at hk'
    exact ih k' (i + 1) (by omega) hk'
theorem specDist_l0 (a b : ByteArray) (ha : a.size ≤ 1000) (hb : b.size ≤ 1000) (d : Nat) : ∀ (k j : Nat), j + d = b.size + 1 → 2 * a.size * (b.size + 3) + 4 + d ≤ k →
    spec_l6Distance.l0 k a b ((List.range j).map (cell a b 0)) (j : Int) = some (lev a.data.toList b.data.toList : Int) := by
  induction d with
  | zero =>
    intro k j hj hk
    obtain ⟨k, rfl⟩ : ∃ m, k = m + 1 := ⟨k - 1, by omega⟩
    simp only [spec_l6Distance.l0]
    rw [if_neg (by omega), show j = b.size + 1 by omega]
    exact specDist_l1 a b ha hb a.size k 0 (by omega) (by omega)
  | succ d ih =>
    intro k j hj hk
    obtain ⟨k, rfl⟩ : ∃ m, k = m + 1 := ⟨k - 1, by omega⟩
    simp only [spec_l6Distance.l0]
    rw [if_pos (by omega), if_pos (by simp; omega)]
    have e : ([(j : Int)] : List Int) = [cell a b 0 j] := by rw [cell_zero a b j (by omega)]
    rw [e, range_snoc, show wrap64 ((j : Int) + 1) = ((j + 1 : Nat) : Int) by unfold wrap64; omega]
    exact ih k (j + 1) (by omega) (by omega)
theorem specDistance_eq (a b : ByteArray) (ha : a.size ≤ 1000) (hb : b.size ≤ 1000) (k : Nat) (hk : 2 * a.size * (b.size + 3) + 5 + b.size ≤ k) : spec_l6Distance.f k a b = some (lev a.data.toList b.data.toList : Int) := by
  unfold spec_l6Distance.f
  exact specDist_l0 a b ha hb (b.size + 1) k 0 (by omega) (by omega)

theorem size_of_okMarks (s : ByteArray) (lo hi : Int) (h : okMarks s lo hi = true) : (s.size : Int) ≤ hi := by
  simp only [okMarks, Bool.and_eq_true, decide_eq_true_eq] at h
  exact h.1.2
theorem FnExactMarkDistance : laws_FnExactMarkDistance.Pure := by
  intro a b _ _
  refine ⟨200, ?_⟩
  unfold laws_FnExactMarkDistance.f spec_MarkDistance.f impl_MarkDistance.f
  rw [specMarks_eq a 0 5 (by omega) (by omega) 200 (by omega), specMarks_eq b 0 5 (by omega) (by omega) 200 (by omega), implAreMarks_eq a 0 5 (by omega), implAreMarks_eq b 0 5 (by omega)]
  simp only [Option.bind_some]
  by_cases ha : okMarks a 0 5 = true
  · by_cases hb : okMarks b 0 5 = true
    · have sa := size_of_okMarks a 0 5 ha
      have sb := size_of_okMarks b 0 5 hb
      have h1 := Nat.mul_le_mul (show 2 * a.size ≤ 10 by omega) (show b.size + 3 ≤ 8 by omega)
      rw [specDistance_eq a b (by omega) (by omega) 200 (by omega), implDistance_eq 10 (by omega) 200 a b (by omega) (by omega)]
      simp [ha, hb]
    · simp [ha, hb]
  · simp [ha]
end Go.Proofs.YtmndcbfdkfhheaaDoor.Pure
