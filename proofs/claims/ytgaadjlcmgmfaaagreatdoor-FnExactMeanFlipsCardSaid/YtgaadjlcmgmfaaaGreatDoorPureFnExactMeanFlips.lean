/- The program's MeanFlips returns what the reference's MeanFlips returns, for every Table, every Noise and every text. No condition. -/
import Derived.Test.YtgaadjlcmgmfaaaGreatDoorPFnExactMeanFlipsx8
namespace Go.Proofs.YtgaadjlcmgmfaaaGreatDoor.Pure
open Go.RowKit Go.Proofs.YtgaadjlcmgmfaaaGreatDoor.PFnExactMeanFlips Go.Proofs.YtgaadjlcmgmfaaaGreatDoorW.PrintWords Go.Proofs.YtgaadjlcmgmfaaaGreatDoorW.PrintLast Go.Proofs.YtgaadjlcmgmfaaaGreatDoorW.PrintMore
set_option linter.unusedVariables false
set_option linter.unusedSimpArgs false

/-! ### in -/
theorem in_eq (a b c : Int) : impl_in.f a b c = some (decide (b ≤ a ∧ a ≤ c)) := by
  unfold impl_in.f
  by_cases h : a ≥ b
  · rw [if_pos h]
    simp [show b ≤ a from h]
  · rw [if_neg h]
    simp [show ¬ b ≤ a from h]
theorem l1In_eq (a b c : Int) : spec_l1In.f a b c = some (decide (b ≤ a ∧ a ≤ c)) := by
  unfold spec_l1In.f
  by_cases h : a ≥ b
  · rw [if_pos h]
    simp [show b ≤ a from h]
  · rw [if_neg h]
    simp [show ¬ b ≤ a from h]

/-! ### noise -/
def good (n d : Int) : Bool := decide (1 ≤ d ∧ d ≤ 100 ∧ 0 ≤ n ∧ n ≤ d)
theorem specIsNoise_eq (n d : Int) : spec_l7Good.f n d = some (good n d) := by
  unfold spec_l7Good.f good
  simp only [l1In_eq, Option.bind_some, decide_eq_true_eq]
  by_cases h : 1 ≤ d ∧ d ≤ 100
  · rw [if_pos h]
    simp [h]
  · rw [if_neg h]
    simp
    omega
theorem implIsNoise_eq (n d : Int) : impl_IsNoise.f n d = some (good n d) := by
  unfold impl_IsNoise.f good
  simp only [in_eq, Option.bind_some, decide_eq_true_eq]
  by_cases h : 1 ≤ d ∧ d ≤ 100
  · rw [if_pos h]
    simp [h]
  · rw [if_neg h]
    simp
    omega

/-! ### ev -/
/-- With enough rounds, and ever after, g answers r. -/
def Evt {α : Type} (g : Nat → Option α) (r : α) : Prop := ∃ K, ∀ k, K ≤ k → g k = some r
theorem Evt.const {α : Type} (r : α) : Evt (fun _ => some r) r := ⟨0, fun _ _ => rfl⟩
theorem Evt.of_eq {α : Type} {g h : Nat → Option α} {r : α} (e : ∀ k, g k = h k) (H : Evt h r) : Evt g r := by
  obtain ⟨K, hK⟩ := H
  exact ⟨K, fun k hk => (e k).trans (hK k hk)⟩
theorem Evt.bind {α β : Type} {g : Nat → Option β} {h : Nat → β → Option α} {a : β} {r : α} (H1 : Evt g a) (H2 : Evt (fun k => h k a) r) : Evt (fun k => (g k).bind (h k)) r := by
  obtain ⟨K1, h1⟩ := H1
  obtain ⟨K2, h2⟩ := H2
  refine ⟨max K1 K2, fun k hk => ?_⟩
  show (g k).bind (h k) = some r
  rw [h1 k (by omega)]
  exact h2 k (by omega)
theorem Evt.succ {α : Type} {g h : Nat → Option α} {r : α} (e : ∀ k, g (k + 1) = h k) (H : Evt h r) : Evt g r := by
  obtain ⟨K, hK⟩ := H
  refine ⟨K + 1, fun k hk => ?_⟩
  obtain ⟨k, rfl⟩ : ∃ m, k = m + 1 := ⟨k - 1, by omega⟩
  rw [e]
  exact hK k (by omega)
theorem Evt.get {α : Type} {g : Nat → Option α} {r : α} (H : Evt g r) : ∃ k, g k = some r := by
  obtain ⟨K, hK⟩ := H
  exact ⟨K, hK K (Nat.le_refl _)⟩
theorem Evt.get2 {α β : Type} {g : Nat → Option α} {h : Nat → Option β} {r : α} {s : β} (H : Evt g r) (H' : Evt h s) : ∃ k, g k = some r ∧ h k = some s := by
  obtain ⟨K, hK⟩ := H
  obtain ⟨K', hK'⟩ := H'
  exact ⟨max K K', hK _ (by omega), hK' _ (by omega)⟩
theorem Evt.ite_pos {α : Type} {c : Prop} [Decidable c] {g h : Nat → Option α} {r : α} (hc : c) (H : Evt g r) : Evt (fun k => if c then g k else h k) r :=
  H.of_eq (fun k => by rw [if_pos hc])
theorem Evt.ite_neg {α : Type} {c : Prop} [Decidable c] {g h : Nat → Option α} {r : α} (hc : ¬ c) (H : Evt h r) : Evt (fun k => if c then g k else h k) r :=
  H.of_eq (fun k => by rw [if_neg hc])
theorem Evt.pred {α : Type} {g h : Nat → Option α} {r : α} (e : ∀ k, g (k + 1) = h k) (H : Evt g r) : Evt h r := by
  obtain ⟨K, hK⟩ := H
  exact ⟨K, fun k hk => (e k).symm.trans (hK (k + 1) (by omega))⟩

/-! ### lists -/
theorem rdOf_get {α : Type} (d : α) (l : List α) (i : Nat) (h : i < l.length) : rdOf d l (i : Int) = l[i] := by
  unfold rdOf
  rw [Int.toNat_natCast, List.getD_eq_getElem?_getD, List.getElem?_eq_getElem h]
  rfl
theorem rd_get (l : List Int) (i : Nat) (h : i < l.length) : rd l (i : Int) = l[i] := by
  unfold rd
  rw [Int.toNat_natCast, List.getD_eq_getElem?_getD, List.getElem?_eq_getElem h]
  rfl
theorem drop_get {α : Type} (l : List α) (i : Nat) (h : i < l.length) : l.drop i = l[i] :: l.drop (i + 1) := by simp
theorem wrap_succ (i : Nat) (h : i < 9223372036854775807) : wrap64 ((i : Int) + 1) = ((i + 1 : Nat) : Int) := by unfold wrap64; omega

/-! ### marks -/
/-- A byte that is a mark. -/
def okc (c : UInt8) : Bool := c == 46 || c == 45
def okMarks (s : ByteArray) (lo hi : Int) : Bool := decide (lo ≤ s.size ∧ (s.size : Int) ≤ hi) && s.data.toList.all okc
theorem size_data (s : ByteArray) : s.data.toList.length = s.size := by rw [Array.length_toList]; rfl
theorem bt_get (s : ByteArray) (i : Nat) (h : i < s.size) : bt s (i : Int) = ((s.data.toList[i]'(by rw [size_data]; exact h)).toNat : Int) := by
  unfold bt
  rw [dif_pos (by simpa using h)]
  simp only [Int.toNat_natCast, Array.getElem_toList]
  rfl
theorem trim_empty (l : List UInt8) : ((Lib.trimS l [46, 45]) = []) ↔ l.all okc = true := by
  have e : ∀ c : UInt8, ([46, 45] : List UInt8).contains c = okc c := fun c => by
    simp [okc, List.contains_cons]
    rfl
  have dw : ∀ l : List UInt8, (l.dropWhile (([46, 45] : List UInt8).contains ·) = []) ↔ l.all okc = true := by
    intro l
    induction l with
    | nil => simp
    | cons c t ih =>
      rw [List.dropWhile_cons, e]
      cases h : okc c with
      | true =>
        simp only [if_true, List.all_cons, h, Bool.true_and]
        exact ih
      | false => simp [h]
  unfold Lib.trimS Lib.trimLeftS Lib.trimRightS
  rw [dw]
  have dwa : ∀ l : List UInt8, (l.dropWhile (([46, 45] : List UInt8).contains ·)).all okc = l.all okc := by
    intro l
    induction l with
    | nil => rfl
    | cons c t ih =>
      rw [List.dropWhile_cons, e]
      cases h : okc c with
      | true =>
        simp only [if_true, List.all_cons, h, Bool.true_and]
        exact ih
      | false => simp
  rw [List.all_reverse, dwa, List.all_reverse]
theorem implAreMarks_eq (s : ByteArray) (lo hi : Int) (hh : hi ≤ 9223372036854775807) : impl_areMarks.f s lo hi = some (okMarks s lo hi) := by
  unfold impl_areMarks.f okMarks
  rw [in_eq]
  simp only [Option.bind_some, decide_eq_true_eq]
  by_cases h : lo ≤ (s.size : Int) ∧ (s.size : Int) ≤ hi
  · rw [if_pos h]
    unfold strings_Trim.f
    rw [if_pos (by omega), if_pos rfl]
    simp only [Option.bind_some, h, and_self, decide_true, Bool.true_and]
    congr 1
    rw [Lib.toList_data]
    have := trim_empty s.data.toList
    cases hb : s.data.toList.all okc with
    | true => simp [this.2 hb]
    | false =>
      have : ¬ Lib.trimS s.data.toList [46, 45] = [] := fun h => by rw [this.1 h] at hb; cases hb
      simpa using this
  · rw [if_neg h]
    simp [h]
theorem drop_cons_ (l : List UInt8) (i : Nat) (h : i < l.length) : l.drop i = l[i] :: l.drop (i + 1) := by simp
/-- The reference's loop from place i on: the marks up to 'hi', then the length. -/
theorem specMarks_l0 (s : ByteArray) (lo hi : Int) (h0 : 0 ≤ hi) (hh : hi ≤ 1000000) (d : Nat) : ∀ (k i : Nat), i ≤ s.size → (i : Int) ≤ hi + 1 → (hi + 1 - i).toNat = d → 2 * d + 3 ≤ k →
    spec_l2Marks.l0 k s lo hi i = some (((s.data.toList.drop i).take d).all okc && decide (lo ≤ s.size ∧ (s.size : Int) ≤ hi)) := by
  induction d with
  | zero =>
    intro k i hi1 hi2 hd hk
    obtain ⟨k, rfl⟩ : ∃ m, k = m + 2 := ⟨k - 2, by omega⟩
    have e : (i : Int) = hi + 1 := by omega
    simp only [spec_l2Marks.l0]
    have hj : spec_l2Marks.j1 (k + 1) s lo hi i false = some (decide (lo ≤ s.size ∧ (s.size : Int) ≤ hi)) := by
      simp only [spec_l2Marks.j1]
      rw [if_neg (by simp), l1In_eq]
      rfl
    by_cases hlt : (i : Int) < (s.size : Int)
    · rw [if_pos hlt, show decide ((i : Int) ≤ hi) = false from decide_eq_false (by omega), hj]
      simp
    · rw [if_neg hlt, hj]
      simp
  | succ d ih =>
    intro k i hi1 hi2 hd hk
    obtain ⟨k, rfl⟩ : ∃ m, k = m + 2 := ⟨k - 2, by omega⟩
    simp only [spec_l2Marks.l0]
    by_cases hlt : (i : Int) < (s.size : Int)
    · rw [if_pos hlt, show decide ((i : Int) ≤ hi) = true from decide_eq_true (by omega)]
      simp only [spec_l2Marks.j1]
      rw [if_pos trivial, if_pos (by omega), if_pos hlt]
      have hl : i < s.data.toList.length := by rw [size_data]; omega
      rw [drop_cons_ _ _ hl, List.take_succ_cons, List.all_cons, bt_get s i (by omega)]
      have hw : wrap64 ((i : Int) + 1) = ((i + 1 : Nat) : Int) := by unfold wrap64; omega
      rw [hw]
      generalize s.data.toList[i] = c
      have hc : ∀ n : Nat, n < 256 → (((c.toNat : Int) = (n : Int)) ↔ c = UInt8.ofNat n) := by
        intro n hn
        constructor
        · intro h
          apply UInt8.toNat_inj.1
          simp
          omega
        · rintro rfl
          simp
          omega
      have c46 : ((c.toNat : Int) = 46) ↔ c = 46 := hc 46 (by omega)
      have c45 : ((c.toNat : Int) = 45) ↔ c = 45 := hc 45 (by omega)
      by_cases h46 : c = 46
      · subst h46
        rw [if_pos (by rfl), ih _ _ (by omega) (by omega) (by omega) (by omega)]
        rfl
      · rw [if_neg (fun h => h46 (c46.1 h))]
        by_cases h45 : c = 45
        · subst h45
          rw [if_pos (by rfl), ih _ _ (by omega) (by omega) (by omega) (by omega)]
          rfl
        · rw [if_neg (fun h => h45 (c45.1 h))]
          simp [okc, h46, h45]
    · rw [if_neg hlt]
      have hj : spec_l2Marks.j1 (k + 1) s lo hi i false = some (decide (lo ≤ s.size ∧ (s.size : Int) ≤ hi)) := by
        simp only [spec_l2Marks.j1]
        rw [if_neg (by simp), l1In_eq]
        rfl
      rw [hj, List.drop_eq_nil_of_le (by rw [size_data]; omega)]
      simp
theorem specMarks_eq (s : ByteArray) (lo hi : Int) (h0 : 0 ≤ hi) (hh : hi ≤ 1000000) (k : Nat) (hk : 2 * hi + 5 ≤ k) : spec_l2Marks.f k s lo hi = some (okMarks s lo hi) := by
  unfold spec_l2Marks.f
  have h := specMarks_l0 s lo hi h0 hh (hi + 1 - ((0 : Nat) : Int)).toNat k 0 (by omega) (by omega) rfl (by omega)
  rw [show ((0 : Nat) : Int) = 0 from rfl] at h
  rw [h]
  unfold okMarks
  congr 1
  rw [List.drop_zero, Bool.and_comm]
  by_cases hl : lo ≤ (s.size : Int) ∧ (s.size : Int) ≤ hi
  · rw [List.take_of_length_le (by rw [size_data]; omega)]
  · simp [hl]

/-! ### apart -/
theorem size_of_okMarks (s : ByteArray) (lo hi : Int) (h : okMarks s lo hi = true) : (s.size : Int) ≤ hi := by
  simp only [okMarks, Bool.and_eq_true, decide_eq_true_eq] at h
  exact h.1.2

/-! ### cut0 -/
/-- The noise's numbers: powers, chances, fractions. -/
theorem pow_step (n i j : Nat) (hn : n ≤ 100) (hj : j ≤ 5) (hi : i < j) : wrap64 (((n ^ i : Nat) : Int) * (n : Int)) = ((n ^ (i + 1) : Nat) : Int) := by
  have h : n ^ (i + 1) ≤ 10000000000 := Nat.le_trans (Nat.pow_le_pow_left hn _) (Nat.le_trans (Nat.pow_le_pow_right (by decide) (show i + 1 ≤ 5 by omega)) (by decide))
  have e : ((n ^ i : Nat) : Int) * (n : Int) = ((n ^ (i + 1) : Nat) : Int) := by
    rw [Nat.pow_succ, Int.natCast_mul]
  rw [e]
  generalize n ^ (i + 1) = x at *
  unfold wrap64
  omega
theorem pow_le (n j : Nat) (hn : n ≤ 100) (hj : j ≤ 5) : n ^ j ≤ 10000000000 :=
  Nat.le_trans (Nat.pow_le_pow_left hn _) (Nat.le_trans (Nat.pow_le_pow_right (by decide) hj) (by decide))
/-- At how many places two rows of bytes differ. -/
def ham : List UInt8 → List UInt8 → Nat
  | [], _ => 0
  | _ :: _, [] => 0
  | a :: l, b :: m => (if a = b then 0 else 1) + ham l m
theorem ham_le : ∀ a b : List UInt8, ham a b ≤ a.length
  | [], _ => Nat.zero_le _
  | _ :: _, [] => Nat.zero_le _
  | x :: a, y :: b => by
    have := ham_le a b
    simp only [ham, List.length_cons]
    by_cases h : x = y
    · rw [if_pos h]; omega
    · rw [if_neg h]; omega
def hamB (a b : ByteArray) : Nat := ham a.data.toList b.data.toList
theorem hamB_le (a b : ByteArray) : hamB a b ≤ a.size := by
  have := ham_le a.data.toList b.data.toList
  rw [size_data] at this
  exact this
/-- The parts in which marks come of others. -/
def parts (n d : Nat) (a b : ByteArray) : Nat := if a.size = b.size then n ^ hamB a b * (d - n) ^ (a.size - hamB a b) * d ^ (5 - a.size) else 0
theorem parts_bound (n d : Nat) (hnd : n ≤ d) (a b : ByteArray) (ha : a.size ≤ 5) : parts n d a b ≤ d ^ 5 := by
  unfold parts
  have hh := hamB_le a b
  by_cases h : a.size = b.size
  · rw [if_pos h]
    have h1 : n ^ hamB a b * (d - n) ^ (a.size - hamB a b) ≤ d ^ hamB a b * d ^ (a.size - hamB a b) := Nat.mul_le_mul (Nat.pow_le_pow_left hnd _) (Nat.pow_le_pow_left (by omega) _)
    rw [← Nat.pow_add, show hamB a b + (a.size - hamB a b) = a.size by omega] at h1
    have h2 := Nat.mul_le_mul_right (d ^ (5 - a.size)) h1
    rw [← Nat.pow_add, show a.size + (5 - a.size) = 5 by omega] at h2
    exact h2
  · rw [if_neg h]
    exact Nat.zero_le _
theorem parts_mid (n d : Nat) (hnd : n ≤ d) (hd : d ≤ 100) (a b : ByteArray) (ha : a.size ≤ 5) : n ^ hamB a b * (d - n) ^ (a.size - hamB a b) ≤ 10000000000 := by
  have hh := hamB_le a b
  have h1 : n ^ hamB a b * (d - n) ^ (a.size - hamB a b) ≤ d ^ hamB a b * d ^ (a.size - hamB a b) := Nat.mul_le_mul (Nat.pow_le_pow_left hnd _) (Nat.pow_le_pow_left (by omega) _)
  rw [← Nat.pow_add, show hamB a b + (a.size - hamB a b) = a.size by omega] at h1
  exact Nat.le_trans h1 (pow_le d _ hd ha)
theorem wrap_of_le (x : Nat) (h : x ≤ 10000000000000) : wrap64 (x : Int) = (x : Int) := by
  unfold wrap64
  omega
theorem parts_wrap (n d : Nat) (hnd : n ≤ d) (hd : d ≤ 100) (a b : ByteArray) (ha : a.size ≤ 5) (h : a.size = b.size) : wrap64 ((wrap64 (((n ^ hamB a b : Nat) : Int) * (((d - n) ^ (a.size - hamB a b) : Nat) : Int))) * ((d ^ (5 - a.size) : Nat) : Int)) = (parts n d a b : Int) := by
  have h1 := parts_mid n d hnd hd a b ha
  have h2 := parts_bound n d hnd a b ha
  have h3 := pow_le d 5 hd (by omega)
  rw [← Int.natCast_mul, wrap_of_le _ (by omega), ← Int.natCast_mul]
  have e : n ^ hamB a b * (d - n) ^ (a.size - hamB a b) * d ^ (5 - a.size) = parts n d a b := by
    unfold parts
    rw [if_pos h]
  rw [e]
  exact wrap_of_le _ (by omega)
/-- A fraction without a common divisor. -/
def cut (a b : Nat) : Int × Int := (((a / Nat.gcd a b : Nat) : Int), ((b / Nat.gcd a b : Nat) : Int))
theorem tmod_nat (x y : Nat) : Int.tmod (x : Int) (y : Int) = ((x % y : Nat) : Int) := rfl
theorem tdiv_nat (x y : Nat) : Int.tdiv (x : Int) (y : Int) = ((x / y : Nat) : Int) := rfl
theorem implDivisor_evt : ∀ (y x : Nat), Evt (fun k => impl_divisor.l0 k x y) ((Nat.gcd x y : Nat) : Int) := by
  intro y
  induction y using Nat.strongRecOn with
  | ind y ih =>
    intro x
    by_cases h : y = 0
    · subst h
      rw [Nat.gcd_zero_right]
      refine Evt.succ (h := fun _ => some (x : Int)) (fun k => ?_) (Evt.const _)
      rw [impl_divisor.l0, if_pos (by rfl)]
    · have hlt : x % y < y := Nat.mod_lt _ (by omega)
      have e : Nat.gcd y (x % y) = Nat.gcd x y := by
        rw [Nat.gcd_comm x y, Nat.gcd_rec y x, Nat.gcd_comm]
      rw [← e]
      refine Evt.succ (fun k => ?_) (ih (x % y) hlt y)
      rw [impl_divisor.l0, if_neg (by omega), tmod_nat]
theorem implFraction_evt (a b : Nat) (hb : 1 ≤ b) (ha' : a ≤ 10000000000000) (hb' : b ≤ 10000000000000) : Evt (fun k => impl_fraction.f k a b) (cut a b) := by
  have hg : 1 ≤ Nat.gcd a b := Nat.gcd_pos_of_pos_right a hb
  refine Evt.bind (implDivisor_evt b a) (Evt.ite_neg (by omega) ?_)
  have h1 : a / Nat.gcd a b ≤ a := Nat.div_le_self _ _
  have h2 : b / Nat.gcd a b ≤ b := Nat.div_le_self _ _
  rw [tdiv_nat, tdiv_nat, wrap_of_le _ (by omega), wrap_of_le _ (by omega)]
  exact Evt.const _
theorem specCut_l0 (a b : Nat) (hb : 1 ≤ b) (ha' : a ≤ 10000000000000) (hb' : b ≤ 10000000000000) : ∀ (y x : Nat), Nat.gcd x y = Nat.gcd a b → Evt (fun k => spec_l7Cut.l0 k a b x y) (cut a b) := by
  have hg : 1 ≤ Nat.gcd a b := Nat.gcd_pos_of_pos_right a hb
  intro y
  induction y using Nat.strongRecOn with
  | ind y ih =>
    intro x hx
    by_cases h : y = 0
    · subst h
      rw [Nat.gcd_zero_right] at hx
      have hm : spec_l1Most.f (x : Int) 1 = some ((Nat.gcd a b : Nat) : Int) := by
        unfold spec_l1Most.f
        rw [hx]
        by_cases h : ((Nat.gcd a b : Nat) : Int) > 1
        · rw [if_pos h]
        · rw [if_neg h]
          congr 1
          omega
      have h1 : a / Nat.gcd a b ≤ a := Nat.div_le_self _ _
      have h2 : b / Nat.gcd a b ≤ b := Nat.div_le_self _ _
      refine Evt.succ (h := fun _ => some (cut a b)) (fun k => ?_) (Evt.const _)
      rw [spec_l7Cut.l0, if_neg (by omega), hm, Option.bind_some, if_neg (by omega), Option.bind_some, if_neg (by omega), tdiv_nat, tdiv_nat, wrap_of_le _ (by omega), wrap_of_le _ (by omega)]
      rfl
    · have hlt : x % y < y := Nat.mod_lt _ (by omega)
      have e : Nat.gcd y (x % y) = Nat.gcd x y := by
        rw [Nat.gcd_comm x y, Nat.gcd_rec y x, Nat.gcd_comm]
      refine Evt.succ (fun k => ?_) (ih (x % y) hlt y (e.trans hx))
      rw [spec_l7Cut.l0, if_pos (by omega), if_neg (by omega), tmod_nat]
theorem specCut_evt (a b : Nat) (hb : 1 ≤ b) (ha' : a ≤ 10000000000000) (hb' : b ≤ 10000000000000) : Evt (fun k => spec_l7Cut.f k a b) (cut a b) := specCut_l0 a b hb ha' hb' b a rfl
/-- A valid noise's numbers, as natural numbers. -/
theorem good_nat (n d : Int) (h : good n d = true) : ∃ n' d' : Nat, n = (n' : Int) ∧ d = (d' : Int) ∧ n' ≤ d' ∧ 1 ≤ d' ∧ d' ≤ 100 := by
  unfold good at h
  rw [decide_eq_true_eq] at h
  exact ⟨n.toNat, d.toNat, by omega, by omega, by omega, by omega, by omega⟩

/-! ### tolist -/
theorem toList_inj (a b : ByteArray) : a.toList = b.toList ↔ a = b := by
  rw [Lib.toList_data, Lib.toList_data]
  constructor
  · intro h
    obtain ⟨⟨l⟩⟩ := a
    obtain ⟨⟨m⟩⟩ := b
    simp only at h
    rw [h]
  · rintro rfl
    rfl

/-! ### table -/
open Classical
/-- The first place of a text in a list, from place i on; -1 for none. -/
def plc : List ByteArray → ByteArray → Nat → Int
  | [], _, _ => -1
  | x :: l, s, i => if x = s then (i : Int) else plc l s (i + 1)
theorem plc_ge (l : List ByteArray) (s : ByteArray) : ∀ i, plc l s i = -1 ∨ (i : Int) ≤ plc l s i := by
  induction l with
  | nil => exact fun i => .inl rfl
  | cons x l ih =>
    intro i
    unfold plc
    by_cases h : x = s
    · rw [if_pos h]
      exact .inr (Int.le_refl _)
    · rw [if_neg h]
      rcases ih (i + 1) with h | h
      · exact .inl h
      · right
        omega
theorem plc_none (l : List ByteArray) (s : ByteArray) : ∀ i, plc l s i = -1 ↔ s ∉ l := by
  induction l with
  | nil => intro i; simp [plc]
  | cons x l ih =>
    intro i
    unfold plc
    by_cases h : x = s
    · subst h
      rw [if_pos rfl]
      simp
    · rw [if_neg h, ih, List.mem_cons]
      constructor
      · intro hn he
        rcases he with e | e
        · exact h e.symm
        · exact hn e
      · intro hn he
        exact hn (.inr he)
theorem plc_lt (l : List ByteArray) (s : ByteArray) : ∀ i, plc l s i < ((i + l.length : Nat) : Int) := by
  induction l with
  | nil => intro i; simp [plc]; omega
  | cons x l ih =>
    intro i
    unfold plc
    by_cases h : x = s
    · rw [if_pos h]
      simp
      omega
    · rw [if_neg h]
      have := ih (i + 1)
      simp at this ⊢
      omega
theorem specPlace_l0 (l : List ByteArray) (s : ByteArray) (hl : l.length < 9223372036854775807) (d : Nat) : ∀ i, i ≤ l.length → l.length - i = d → Evt (fun k => spec_l2Place.l0 k l s i) (plc (l.drop i) s i) := by
  induction d with
  | zero =>
    intro i hi hd
    refine Evt.succ (h := fun _ => some (-1)) (fun k => ?_) ?_
    · simp only [spec_l2Place.l0]
      rw [if_neg (by omega)]
    · rw [List.drop_eq_nil_of_le (by omega)]
      exact Evt.const _
  | succ d ih =>
    intro i hi hd
    have hlt : i < l.length := by omega
    rw [drop_get l i hlt]
    unfold plc
    by_cases h : l[i] = s
    · rw [if_pos h]
      refine Evt.succ (h := fun _ => some (i : Int)) (fun k => ?_) (Evt.const _)
      simp only [spec_l2Place.l0]
      rw [if_pos (by omega), if_pos (by omega), rdOf_get _ _ _ hlt, if_pos ((toList_inj _ _).2 h)]
    · rw [if_neg h]
      refine Evt.succ (fun k => ?_) (ih (i + 1) (by omega) (by omega))
      simp only [spec_l2Place.l0]
      rw [if_pos (by omega), if_pos (by omega), rdOf_get _ _ _ hlt, if_neg (fun e => h ((toList_inj _ _).1 e)), wrap_succ i (by omega)]
theorem specPlace_evt (l : List ByteArray) (s : ByteArray) (hl : l.length < 9223372036854775807) : Evt (fun k => spec_l2Place.f k l s) (plc l s 0) :=
  (specPlace_l0 l s hl l.length 0 (by omega) (by omega)).of_eq (fun k => rfl)
theorem implIndex_l0 (l : List ByteArray) (s : ByteArray) (hl : l.length < 9223372036854775807) (d : Nat) : ∀ i, i ≤ l.length → l.length - i = d → Evt (fun k => slices_Index_string_string.l0 k l s (l.length : Int) i) (plc (l.drop i) s i) := by
  induction d with
  | zero =>
    intro i hi hd
    refine Evt.succ (h := fun _ => some (-1)) (fun k => ?_) ?_
    · simp only [slices_Index_string_string.l0]
      rw [if_neg (by omega)]
    · rw [List.drop_eq_nil_of_le (by omega)]
      exact Evt.const _
  | succ d ih =>
    intro i hi hd
    have hlt : i < l.length := by omega
    rw [drop_get l i hlt]
    unfold plc
    by_cases h : l[i] = s
    · rw [if_pos h]
      refine Evt.succ (h := fun _ => some (i : Int)) (fun k => ?_) (Evt.const _)
      simp only [slices_Index_string_string.l0]
      rw [if_pos (by omega), if_pos (by omega), if_pos (by omega), rdOf_get _ _ _ hlt, if_pos ((toList_inj _ _).2 h.symm)]
    · rw [if_neg h]
      refine Evt.succ (fun k => ?_) (ih (i + 1) (by omega) (by omega))
      simp only [slices_Index_string_string.l0]
      rw [if_pos (by omega), if_pos (by omega), if_pos (by omega), rdOf_get _ _ _ hlt, if_neg (fun e => h ((toList_inj _ _).1 e).symm), wrap_succ i (by omega)]
theorem implIndex_evt (l : List ByteArray) (s : ByteArray) (hl : l.length < 9223372036854775807) : Evt (fun k => slices_Index_string_string.f k l s) (plc l s 0) :=
  (implIndex_l0 l s hl l.length 0 (by omega) (by omega)).of_eq (fun k => rfl)
theorem implContains_evt (l : List ByteArray) (s : ByteArray) (hl : l.length < 9223372036854775807) : Evt (fun k => slices_Contains_string_string.f k l s) (decide (s ∈ l)) := by
  have h : decide (plc l s 0 ≥ 0) = decide (s ∈ l) := by
    rw [decide_eq_decide]
    have h1 := plc_none l s 0
    have h2 := plc_ge l s 0
    constructor
    · intro h
      by_cases hm : s ∈ l
      · exact hm
      · rw [h1.2 hm] at h
        omega
    · intro hm
      rcases h2 with h | h
      · exact absurd hm (h1.1 h)
      · omega
  rw [← h]
  exact Evt.bind (implIndex_evt l s hl) (Evt.const _)
/-- Is a list of marks a table? -/
noncomputable def okTable (l : List ByteArray) : Bool := decide (1 ≤ l.length ∧ l.length ≤ 10 ∧ (∀ m ∈ l, okMarks m 1 5 = true) ∧ l.Nodup)
theorem plc_first (l m : List ByteArray) (s : ByteArray) : ∀ i, plc (l ++ s :: m) s i = ((i + l.length : Nat) : Int) ↔ s ∉ l := by
  induction l with
  | nil =>
    intro i
    simp [plc]
  | cons x l ih =>
    intro i
    rw [List.cons_append]
    unfold plc
    by_cases h : x = s
    · rw [if_pos h]
      simp [h]
      omega
    · rw [if_neg h, show i + (x :: l).length = (i + 1) + l.length by simp; omega, ih, List.mem_cons]
      constructor
      · intro hn he
        rcases he with e | e
        · exact h e.symm
        · exact hn e
      · intro hn he
        exact hn (.inr he)
/-- The rest of a table is good, what stands ahead of it known. -/
noncomputable def okRest (l : List ByteArray) (i : Nat) : Bool := decide (∀ j (h : j < l.length), i ≤ j → okMarks l[j] 1 5 = true ∧ l[j] ∉ l.take j)
theorem okRest_end (l : List ByteArray) (i : Nat) (h : l.length ≤ i) : okRest l i = true := by
  unfold okRest
  rw [decide_eq_true_eq]
  intro j hj hij
  omega
theorem okRest_step (l : List ByteArray) (i : Nat) (h : i < l.length) : okRest l i = (okMarks l[i] 1 5 && (!decide (l[i] ∈ l.take i)) && okRest l (i + 1)) := by
  unfold okRest
  rw [Bool.eq_iff_iff]
  simp only [Bool.and_eq_true, decide_eq_true_eq, Bool.not_eq_true', decide_eq_false_iff_not]
  constructor
  · intro H
    exact ⟨H i h (Nat.le_refl _), fun j hj hij => H j hj (by omega)⟩
  · intro H j hj hij
    by_cases e : j = i
    · subst e
      exact H.1
    · exact H.2 j hj (by omega)
theorem okTable_eq (l : List ByteArray) : okTable l = (decide (1 ≤ l.length ∧ l.length ≤ 10) && okRest l 0) := by
  unfold okTable okRest
  rw [Bool.eq_iff_iff]
  simp only [Bool.and_eq_true, decide_eq_true_eq]
  constructor
  · rintro ⟨h1, h2, h3, h4⟩
    refine ⟨⟨h1, h2⟩, fun j hj _ => ⟨h3 _ (List.getElem_mem hj), fun hm => ?_⟩⟩
    obtain ⟨q, hq, he⟩ := List.getElem_of_mem hm
    rw [List.length_take] at hq
    rw [List.getElem_take] at he
    exact absurd ((List.getElem_inj h4).1 he) (by omega)
  · rintro ⟨⟨h1, h2⟩, h3⟩
    refine ⟨h1, h2, fun m hm => ?_, ?_⟩
    · obtain ⟨j, hj, rfl⟩ := List.getElem_of_mem hm
      exact (h3 j hj (Nat.zero_le _)).1
    · rw [List.nodup_iff_pairwise_ne, List.pairwise_iff_getElem]
      intro i j hi hj hij he
      refine (h3 j hj (Nat.zero_le _)).2 ?_
      rw [← he]
      exact List.mem_of_getElem? (i := i) (by rw [List.getElem?_take, if_pos hij, List.getElem?_eq_getElem hi])
theorem implTable_l0 (l : List ByteArray) (hl : l.length < 9223372036854775807) (d : Nat) : ∀ i, i ≤ l.length → l.length - i = d → Evt (fun k => impl_isTable.l0 k l (l.length : Int) i l) (decide (1 ≤ l.length ∧ l.length ≤ 10) && okRest l i) := by
  induction d with
  | zero =>
    intro i hi hd
    refine Evt.succ (h := fun _ => some (decide (1 ≤ (l.length : Int) ∧ (l.length : Int) ≤ 10))) (fun k => ?_) ?_
    · simp only [impl_isTable.l0]
      rw [if_neg (by omega), in_eq]
      rfl
    · rw [okRest_end l i (by omega), Bool.and_true, show decide (1 ≤ (l.length : Int) ∧ (l.length : Int) ≤ 10) = decide (1 ≤ l.length ∧ l.length ≤ 10) by rw [decide_eq_decide]; omega]
      exact Evt.const _
  | succ d ih =>
    intro i hi hd
    have hlt : i < l.length := by omega
    rw [okRest_step l i hlt]
    have hc := implContains_evt (l.take i) l[i] (by rw [List.length_take]; omega)
    refine Evt.succ (h := fun k => if okMarks l[i] 1 5 = true then ((slices_Contains_string_string.f k (l.take i) l[i]).bind fun t => if t = true then some false else impl_isTable.l0 k l (l.length : Int) ((i + 1 : Nat) : Int) l) else some false) (fun k => ?_) ?_
    · simp only [impl_isTable.l0]
      rw [if_pos (by omega), if_pos (by omega), if_pos (by omega), rdOf_get _ _ _ hlt, wrap_succ i (by omega), if_pos (by omega)]
      unfold impl_isLetterMarks.f
      rw [implAreMarks_eq _ 1 5 (by omega)]
      rfl
    · by_cases hm : okMarks l[i] 1 5 = true
      · refine Evt.ite_pos hm (Evt.bind hc ?_)
        by_cases hin : l[i] ∈ l.take i
        · refine Evt.ite_pos (by simpa using hin) ?_
          simp [hin]
          exact Evt.const _
        · refine Evt.ite_neg (by simpa using hin) ?_
          simp only [hm, hin, decide_false, Bool.not_false, Bool.true_and, Bool.and_self]
          exact ih (i + 1) (by omega) (by omega)
      · refine Evt.ite_neg hm ?_
        simp [hm]
        exact Evt.const _
theorem implTable_evt (l : List ByteArray) (hl : l.length < 9223372036854775807) : Evt (fun k => impl_isTable.f k l) (okTable l) := by
  rw [okTable_eq]
  exact (implTable_l0 l hl l.length 0 (by omega) (by omega)).of_eq (fun k => rfl)
theorem specTable_l0 (l : List ByteArray) (hl : l.length < 9223372036854775807) (d : Nat) : ∀ i, i ≤ l.length → l.length - i = d → Evt (fun k => spec_l2Table.l0 k i l) (okRest l i) := by
  induction d with
  | zero =>
    intro i hi hd
    refine Evt.succ (h := fun _ => some true) (fun k => ?_) ?_
    · simp only [spec_l2Table.l0]
      rw [if_neg (by omega)]
    · rw [okRest_end l i (by omega)]
      exact Evt.const _
  | succ d ih =>
    intro i hi hd
    have hlt : i < l.length := by omega
    rw [okRest_step l i hlt]
    have hp := specPlace_evt l l[i] hl
    have hf : plc l l[i] 0 = (i : Int) ↔ l[i] ∉ l.take i := by
      have h := plc_first (l.take i) (l.drop (i + 1)) l[i] 0
      rw [← drop_get l i hlt, List.take_append_drop, List.length_take, Nat.min_eq_left (by omega), Nat.zero_add] at h
      exact h
    have hmk : Evt (fun k => spec_l2Marks.f k l[i] 1 5) (okMarks l[i] 1 5) := ⟨20, fun k hk => specMarks_eq _ 1 5 (by omega) (by omega) k (by omega)⟩
    refine Evt.succ (h := fun k => (spec_l2Marks.f k l[i] 1 5).bind fun t => if t = true then ((spec_l2Place.f k l l[i]).bind fun t => if t = (i : Int) then spec_l2Table.l0 k ((i + 1 : Nat) : Int) l else some false) else some false) (fun k => ?_) ?_
    · simp only [spec_l2Table.l0]
      rw [if_pos (by omega), if_pos (by omega), rdOf_get _ _ _ hlt, wrap_succ i (by omega)]
    · refine Evt.bind hmk ?_
      by_cases hm : okMarks l[i] 1 5 = true
      · refine Evt.ite_pos hm (Evt.bind hp ?_)
        by_cases hin : l[i] ∈ l.take i
        · refine Evt.ite_neg (fun e => (hf.1 e) hin) ?_
          simp [hin]
          exact Evt.const _
        · refine Evt.ite_pos (hf.2 hin) ?_
          simp only [hm, hin, decide_false, Bool.not_false, Bool.true_and, Bool.and_self]
          exact ih (i + 1) (by omega) (by omega)
      · refine Evt.ite_neg hm ?_
        simp [hm]
        exact Evt.const _
theorem specTable_evt (l : List ByteArray) (hl : l.length < 9223372036854775807) : Evt (fun k => spec_l2Table.f k l) (okTable l) := by
  rw [okTable_eq]
  refine Evt.of_eq (h := fun k => if decide (1 ≤ (l.length : Int) ∧ (l.length : Int) ≤ 10) = true then spec_l2Table.l0 k ((0 : Nat) : Int) l else some false) (fun k => ?_) ?_
  · unfold spec_l2Table.f
    rw [l1In_eq]
    rfl
  · by_cases h : 1 ≤ l.length ∧ l.length ≤ 10
    · refine Evt.ite_pos (by simp; omega) ?_
      simp only [h, and_self, decide_true, Bool.true_and]
      exact specTable_l0 l hl l.length 0 (by omega) (by omega)
    · refine Evt.ite_neg (by simp; omega) ?_
      simp [h]
      exact Evt.const _

/-! ### lawtable -/
/-- The law's own looks at a table: its weight, a copy, and whether it is as it was. -/
theorem szStringS_l0 (l : List ByteArray) (hl : l.length ≤ 1048576) (hs : ∀ m ∈ l, m.size ≤ 9223372036854775807) (d : Nat) : ∀ (i : Nat) (a : Int), i ≤ l.length → l.length - i = d → 0 ≤ a → a ≤ 1048576 → ∃ t, Evt (fun k => laws_szStringS.l0 k l a i) t := by
  induction d with
  | zero =>
    intro i a hi hd h0 h1
    refine ⟨a, Evt.succ (h := fun _ => some a) (fun k => ?_) (Evt.const _)⟩
    simp only [laws_szStringS.l0]
    rw [if_neg (by omega)]
  | succ d ih =>
    intro i a hi hd h0 h1
    have hlt : i < l.length := by omega
    have hsz := hs l[i] (List.getElem_mem hlt)
    have hw : wrap64 (a - (l[i].size : Int)) = a - (l[i].size : Int) := by unfold wrap64; omega
    by_cases h : a - (l[i].size : Int) < 0
    · refine ⟨-1, Evt.succ (h := fun _ => some (-1)) (fun k => ?_) (Evt.const _)⟩
      simp only [laws_szStringS.l0]
      rw [if_pos (by omega), if_pos (by omega), rdOf_get _ _ _ hlt, hw, if_pos h]
    · obtain ⟨t, ht⟩ := ih (i + 1) (a - (l[i].size : Int)) (by omega) (by omega) (by omega) (by omega)
      refine ⟨t, Evt.succ (fun k => ?_) ht⟩
      simp only [laws_szStringS.l0]
      rw [if_pos (by omega), if_pos (by omega), rdOf_get _ _ _ hlt, hw, if_neg h, wrap_succ i (by omega)]
theorem szStringS_evt (l : List ByteArray) (b : Int) (hb : 0 ≤ b) (hb2 : b ≤ 1048576) (h : l.length ≤ 9223372036854775807) (hs : ∀ m ∈ l, m.size ≤ 9223372036854775807) : ∃ t, Evt (fun k => laws_szStringS.f k l b) t ∧ (t < 0 ∨ l.length ≤ 1048576) := by
  have hw : wrap64 (b - (l.length : Int)) = b - (l.length : Int) := by unfold wrap64; omega
  by_cases hn : b - (l.length : Int) < 0
  · refine ⟨-1, (Evt.const (-1)).of_eq (fun k => ?_), .inl (by omega)⟩
    unfold laws_szStringS.f
    rw [hw, if_pos hn]
  · obtain ⟨t, ht⟩ := szStringS_l0 l (by omega) hs l.length 0 (b - (l.length : Int)) (by omega) (by omega) (by omega) (by omega)
    refine ⟨t, ht.of_eq (fun k => ?_), .inr (by omega)⟩
    unfold laws_szStringS.f
    rw [hw, if_neg hn]
    rfl
theorem szTable_evt (l : List ByteArray) (b : Int) (hb : 0 ≤ b) (hb2 : b ≤ 1048576) (h : l.length ≤ 9223372036854775807) (hs : ∀ m ∈ l, m.size ≤ 9223372036854775807) : ∃ t, Evt (fun k => laws_szTable.f k l b) t ∧ (t < 0 ∨ l.length ≤ 1048576) := by
  obtain ⟨t, ht, h⟩ := szStringS_evt l b hb hb2 h hs
  by_cases hn : t < 0
  · exact ⟨-1, Evt.bind ht (Evt.ite_pos hn (Evt.const _)), .inl (by omega)⟩
  · exact ⟨t, Evt.bind ht (Evt.ite_neg hn (Evt.const _)), h⟩
theorem toStringS_l0 (l : List ByteArray) (hl : l.length ≤ 1048576) (d : Nat) : ∀ (i : Nat) (x : List ByteArray), i ≤ l.length → l.length - i = d → x.length = l.length → x.take i = l.take i → Evt (fun k => laws_toStringS.l0 k l x i) l := by
  induction d with
  | zero =>
    intro i x hi hd hx ht
    have e : x = l := by
      have h1 : i = l.length := by omega
      rw [h1, List.take_length, ← hx, List.take_length] at ht
      exact ht
    subst e
    refine Evt.succ (h := fun _ => some x) (fun k => ?_) (Evt.const _)
    simp only [laws_toStringS.l0]
    rw [if_neg (by omega)]
  | succ d ih =>
    intro i x hi hd hx ht
    have hlt : i < l.length := by omega
    refine Evt.succ (fun k => ?_) (ih (i + 1) (x.set i l[i]) (by omega) (by omega) (by rw [List.length_set]; exact hx) ?_)
    · simp only [laws_toStringS.l0]
      rw [if_pos (by omega), if_pos (by omega), if_pos (by omega), rdOf_get _ _ _ hlt, wrap_succ i (by omega), Int.toNat_natCast]
    · rw [List.take_succ_eq_append_getElem (by rw [List.length_set]; omega), List.take_succ_eq_append_getElem hlt, List.take_set_of_le (by omega), ht, List.getElem_set_self]
theorem toStringS_evt (l : List ByteArray) (hl : l.length ≤ 1048576) : Evt (fun k => laws_toStringS.f k l) l := by
  refine (toStringS_l0 l hl l.length 0 (List.replicate l.length (⟨#[]⟩ : ByteArray)) (by omega) (by omega) (by simp) rfl).of_eq (fun k => ?_)
  unfold laws_toStringS.f
  rw [if_pos (by omega), Int.toNat_natCast, if_pos (by omega)]
  rfl
theorem toTable_evt (l : List ByteArray) (hl : l.length ≤ 1048576) : Evt (fun k => laws_toTable.f k l) l :=
  Evt.bind (toStringS_evt l hl) (Evt.const _)
theorem eqStringS_l0 (l : List ByteArray) (hl : l.length ≤ 1048576) (d : Nat) : ∀ (i : Nat), i ≤ l.length → l.length - i = d → Evt (fun k => laws_eqStringS.l0 k l l i) true := by
  induction d with
  | zero =>
    intro i hi hd
    refine Evt.succ (h := fun _ => some true) (fun k => ?_) (Evt.const _)
    simp only [laws_eqStringS.l0]
    rw [if_neg (by omega)]
  | succ d ih =>
    intro i hi hd
    refine Evt.succ (fun k => ?_) (ih (i + 1) (by omega) (by omega))
    simp only [laws_eqStringS.l0]
    rw [if_pos (by omega), if_pos (by omega), if_pos (by omega), if_pos trivial, wrap_succ i (by omega)]
theorem eqStringS_evt (l : List ByteArray) (hl : l.length ≤ 1048576) : Evt (fun k => laws_eqStringS.f k l l) true := by
  refine (eqStringS_l0 l hl l.length 0 (by omega) (by omega)).of_eq (fun k => ?_)
  unfold laws_eqStringS.f
  rw [if_pos rfl]
  rfl
theorem eqTable_evt (l : List ByteArray) (hl : l.length ≤ 1048576) : Evt (fun k => laws_eqTable.f k l l) true :=
  Evt.bind (eqStringS_evt l hl) (Evt.ite_pos rfl (Evt.const _))
theorem of_table (l : List ByteArray) (h : okTable l = true) : 1 ≤ l.length ∧ l.length ≤ 10 ∧ (∀ m ∈ l, okMarks m 1 5 = true) ∧ l.Nodup := by
  unfold okTable at h
  rw [decide_eq_true_eq] at h
  exact h
theorem len_wrap (l : List ByteArray) (h : l.length ≤ 1048576) : wrap64 ((l.length : Int) - 1) = (l.length : Int) - 1 := by
  unfold wrap64
  omega
theorem isLetter_len (l : List ByteArray) (h : okTable l = true) : wrap64 ((l.length : Int) - 1) = (l.length : Int) - 1 := by
  have := of_table l h
  unfold wrap64
  omega

/-! ### cut -/
theorem okLetter_size (l : List ByteArray) (h : okTable l = true) (i : Nat) (hi : i < l.length) : (rdOf ByteArray.empty l (i : Int)).size ≤ 5 := by
  rw [rdOf_get _ l i hi]
  have := size_of_okMarks l[i] 1 5 ((of_table l h).2.2.1 _ (List.getElem_mem hi))
  omega
def isL (l : List ByteArray) (i : Int) : Bool := decide (0 ≤ i ∧ i ≤ (l.length : Int) - 1)
theorem implIsLetter_eq (l : List ByteArray) (hl : l.length ≤ 1048576) (i : Int) : impl_isLetter.f l i = some (isL l i) := by
  unfold impl_isLetter.f
  rw [in_eq, len_wrap l hl]
  rfl
theorem implNoisy_l0 (l : List ByteArray) (hl : l.length ≤ 1048576) (n d : Int) (q : List Int) (hq : q.length ≤ 1000) (m : Nat) : ∀ i, i ≤ q.length → q.length - i = m → Evt (fun k => impl_areNoisy.l0 k q (q.length : Int) i l n d) ((q.drop i).all (isL l) && okTable l && good n d) := by
  induction m with
  | zero =>
    intro i hi hm
    rw [List.drop_eq_nil_of_le (by omega)]
    refine Evt.succ (fun k => by rw [impl_areNoisy.l0, if_neg (by omega)]) ?_
    refine Evt.bind (implTable_evt l (by omega)) ?_
    cases h : okTable l with
    | false => exact Evt.ite_neg (by simp) (Evt.const _)
    | true =>
      refine Evt.ite_pos rfl ?_
      rw [implIsNoise_eq, Option.bind_some]
      exact (Evt.const _)
  | succ m ih =>
    intro i hi hm
    have lt : i < q.length := by omega
    have hd : q.drop i = q[i] :: q.drop (i + 1) := by simp
    refine Evt.succ (h := fun k => if isL l q[i] = true then impl_areNoisy.l0 k q (q.length : Int) ((i + 1 : Nat) : Int) l n d else some false) (fun k => ?_) ?_
    · rw [impl_areNoisy.l0, if_pos (by omega), if_pos (by omega), if_pos (by omega), rd_get _ _ lt, implIsLetter_eq l hl, Option.bind_some, wrap_succ i (by omega)]
    · rw [hd, List.all_cons]
      cases h : isL l q[i] with
      | false => exact Evt.ite_neg (by simp) (Evt.const _)
      | true =>
        rw [Bool.true_and]
        exact Evt.ite_pos rfl (ih (i + 1) (by omega) (by omega))
theorem implNoisy_evt (l : List ByteArray) (hl : l.length ≤ 1048576) (n d : Int) (q : List Int) (hq : q.length ≤ 1000) : Evt (fun k => impl_areNoisy.f k l n d q) (q.all (isL l) && okTable l && good n d) :=
  implNoisy_l0 l hl n d q hq q.length 0 (by omega) (by omega)
theorem isL_nat (l : List ByteArray) (i : Int) (h : isL l i = true) : ∃ j : Nat, i = (j : Int) ∧ j < l.length := by
  unfold isL at h
  rw [decide_eq_true_eq] at h
  exact ⟨i.toNat, by omega, by omega⟩

/-! ### message -/
/-- Messages: the program's look and the reference's look are the same. -/
theorem bt_range (s : ByteArray) (i : Nat) (h : i < s.size) : 0 ≤ bt s (i : Int) ∧ bt s (i : Int) ≤ 255 := by
  rw [bt_get s i h]
  have := (s.data.toList[i]'(by rw [size_data]; exact h)).toNat_lt
  omega
theorem wrap_bt (x : Int) (h : 0 ≤ x) (h' : x ≤ 255) : wrap64 (wrap64 x - 97) = x - 97 := by
  unfold wrap64
  omega
theorem wrap_pred (i : Nat) (h : 1 ≤ i) (h' : i ≤ 1048576) : wrap64 ((i : Int) - 1) = ((i - 1 : Nat) : Int) := by
  unfold wrap64
  omega
def msgAt (l : List ByteArray) (m : ByteArray) (i : Nat) : Prop := bt m (i : Int) = 32 ∨ (97 ≤ bt m (i : Int) ∧ bt m (i : Int) - 97 < (l.length : Int))
theorem message_l0 (l : List ByteArray) (hl : l.length ≤ 1048576) (m : ByteArray) (hm : m.size ≤ 1048576) (d : Nat) : ∀ i, i ≤ m.size → m.size - i = d → ∃ b : Bool, Evt (fun k => spec_l2Message.l0 k m i l) b ∧ Evt (fun k => impl_isMessage.l0 k m (m.size : Int) i l) (b && decide ((m.size : Int) ≤ 12)) ∧ (b = true → ∀ j, i ≤ j → j < m.size → msgAt l m j) := by
  induction d with
  | zero =>
    intro i hi hd
    refine ⟨true, Evt.succ (fun k => by rw [spec_l2Message.l0, if_neg (by omega)]) (Evt.const _), Evt.succ (fun k => by rw [impl_isMessage.l0, if_neg (by omega)]) ?_, fun _ j h1 h2 => by omega⟩
    rw [Bool.true_and]
    exact Evt.const _
  | succ d ih =>
    intro i hi hd
    have li : i < m.size := by omega
    have hr := bt_range m i li
    have no : ∀ g h : Nat → Option Bool, (∀ k, g (k + 1) = some false) → (∀ k, h (k + 1) = some false) → ∃ b : Bool, Evt g b ∧ Evt h (b && decide ((m.size : Int) ≤ 12)) ∧ (b = true → ∀ j, i ≤ j → j < m.size → msgAt l m j) := by
      intro g h hg hh
      exact ⟨false, Evt.succ hg (Evt.const _), Evt.succ hh (Evt.const _), fun h => by cases h⟩
    obtain ⟨b, h1, h2, h3⟩ := ih (i + 1) (by omega) (by omega)
    by_cases hs : bt m (i : Int) = 32
    · by_cases h0 : i = 0
      · exact no _ _ (fun k => by rw [spec_l2Message.l0, if_pos (by omega), if_pos (by omega), if_pos hs, if_pos (by omega)]) (fun k => by rw [impl_isMessage.l0, if_pos (by omega), if_pos (by omega), if_pos (by omega), if_pos hs, if_pos (by omega)])
      · by_cases he : i = m.size - 1
        · exact no _ _ (fun k => by rw [spec_l2Message.l0, if_pos (by omega), if_pos (by omega), if_pos hs, if_neg (by omega), wrap_pred m.size (by omega) hm, if_pos (by omega)]) (fun k => by rw [impl_isMessage.l0, if_pos (by omega), if_pos (by omega), if_pos (by omega), if_pos hs, if_neg (by omega), wrap_pred m.size (by omega) hm, if_pos (by omega)])
        · by_cases hp : bt m ((i - 1 : Nat) : Int) = 32
          · exact no _ _ (fun k => by rw [spec_l2Message.l0, if_pos (by omega), if_pos (by omega), if_pos hs, if_neg (by omega), wrap_pred m.size (by omega) hm, if_neg (by omega), wrap_pred i (by omega) (by omega), if_pos (by omega), if_pos (by omega), if_pos hp]) (fun k => by rw [impl_isMessage.l0, if_pos (by omega), if_pos (by omega), if_pos (by omega), if_pos hs, if_neg (by omega), wrap_pred m.size (by omega) hm, if_neg (by omega), wrap_pred i (by omega) (by omega), if_pos (by omega), if_pos (by omega), if_pos hp])
          · refine ⟨b, Evt.succ (fun k => ?_) h1, Evt.succ (fun k => ?_) h2, fun hb j hj hj' => ?_⟩
            · rw [spec_l2Message.l0, if_pos (by omega), if_pos (by omega), if_pos hs, if_neg (by omega), wrap_pred m.size (by omega) hm, if_neg (by omega), wrap_pred i (by omega) (by omega), if_pos (by omega), if_pos (by omega), if_neg hp, wrap_succ i (by omega)]
            · rw [impl_isMessage.l0, if_pos (by omega), if_pos (by omega), if_pos (by omega), if_pos hs, if_neg (by omega), wrap_pred m.size (by omega) hm, if_neg (by omega), wrap_pred i (by omega) (by omega), if_pos (by omega), if_pos (by omega), if_neg hp, wrap_succ i (by omega)]
            · by_cases q : j = i
              · rw [q]
                exact .inl hs
              · exact h3 hb j (by omega) hj'
    · have e1 : ∀ k, spec_l2Message.l0 (k + 1) m i l = if decide (0 ≤ bt m (i : Int) - 97 ∧ bt m (i : Int) - 97 ≤ (l.length : Int) - 1) = true then spec_l2Message.l0 k m ((i + 1 : Nat) : Int) l else some false := by
        intro k
        rw [spec_l2Message.l0, if_pos (by omega), if_pos (by omega), if_neg hs, wrap_bt _ hr.1 hr.2, len_wrap l hl, l1In_eq, Option.bind_some, wrap_succ i (by omega)]
      have e2 : ∀ k, impl_isMessage.l0 (k + 1) m (m.size : Int) i l = if decide (0 ≤ bt m (i : Int) - 97 ∧ bt m (i : Int) - 97 ≤ (l.length : Int) - 1) = true then impl_isMessage.l0 k m (m.size : Int) ((i + 1 : Nat) : Int) l else some false := by
        intro k
        rw [impl_isMessage.l0, if_pos (by omega), if_pos (by omega), if_pos (by omega), if_neg hs, wrap_bt _ hr.1 hr.2, len_wrap l hl, in_eq, Option.bind_some, wrap_succ i (by omega)]
      by_cases hc : 0 ≤ bt m (i : Int) - 97 ∧ bt m (i : Int) - 97 ≤ (l.length : Int) - 1
      · refine ⟨b, Evt.succ (fun k => ?_) h1, Evt.succ (fun k => ?_) h2, fun hb j hj hj' => ?_⟩
        · rw [e1, decide_eq_true hc, if_pos rfl]
        · rw [e2, decide_eq_true hc, if_pos rfl]
        · by_cases q : j = i
          · rw [q]
            exact .inr ⟨by omega, by omega⟩
          · exact h3 hb j (by omega) hj'
      · refine no _ _ (fun k => ?_) (fun k => ?_)
        · rw [e1, decide_eq_false hc, if_neg (by simp)]
        · rw [e2, decide_eq_false hc, if_neg (by simp)]
theorem message_evt (l : List ByteArray) (hl : l.length ≤ 1048576) (m : ByteArray) (hm : m.size ≤ 1048576) : ∃ b : Bool, Evt (fun k => spec_l2Message.f k l m) b ∧ Evt (fun k => impl_isMessage.f k l m) b ∧ (b = true → m.size ≤ 12 ∧ ∀ j, j < m.size → msgAt l m j) := by
  obtain ⟨b, h1, h2, h3⟩ := message_l0 l hl m hm m.size 0 (by omega) (by omega)
  by_cases hs : (m.size : Int) > 12
  · rw [decide_eq_false (show ¬ (m.size : Int) ≤ 12 by omega), Bool.and_false] at h2
    exact ⟨false, Evt.ite_pos hs (Evt.const _), h2, fun h => by cases h⟩
  · rw [decide_eq_true (show (m.size : Int) ≤ 12 by omega), Bool.and_true] at h2
    exact ⟨b, Evt.ite_neg hs h1, h2, fun hb => ⟨by omega, fun j hj => h3 hb j (by omega) hj⟩⟩

/-! ### eqIntA2 -/
/-- The law's own looks at a row of arrays of 2 whole numbers. -/
theorem eqIntA2_evt (a0 a1 : Int) : Evt (fun k => laws_eqIntA2.f k a0 a1 a0 a1) true := by
  refine Evt.succ (h := fun k => laws_eqIntA2.l0 k 1 a0 a1 a0 a1) (fun k => ?_) ?_
  · show laws_eqIntA2.l0 (k + 1) 0 a0 a1 a0 a1 = _
    rw [laws_eqIntA2.l0, if_pos (by decide), if_pos (by decide), if_pos rfl, if_pos rfl, show wrap64 (0 + 1) = 1 by unfold wrap64; omega]
  refine Evt.succ (h := fun k => laws_eqIntA2.l0 k 2 a0 a1 a0 a1) (fun k => ?_) ?_
  · rw [laws_eqIntA2.l0, if_pos (by decide), if_pos (by decide), if_neg (by decide), if_pos rfl, if_pos rfl, show wrap64 (1 + 1) = 2 by unfold wrap64; omega]
  refine Evt.succ (h := fun _ => some true) (fun k => ?_) (Evt.const _)
  rw [laws_eqIntA2.l0, if_neg (by decide)]

def letOf (l : List ByteArray) (c : UInt8) : List UInt8 := (rdOf ByteArray.empty l ((c.toNat : Int) - 97)).data.toList
def bareL (l : List ByteArray) (cs : List UInt8) : List UInt8 := (cs.filter fun c => !Lib.isSp c).flatMap (letOf l)
theorem bareL_cons (l : List ByteArray) (c : UInt8) (cs : List UInt8) : bareL l (c :: cs) = (if Lib.isSp c = true then [] else letOf l c) ++ bareL l cs := by
  unfold bareL
  rw [List.filter_cons]
  cases h : Lib.isSp c <;> simp [h]
theorem isSp_low (c : UInt8) (h : 97 ≤ c.toNat) : Lib.isSp c = false := by
  have e : ∀ n : UInt8, n.toNat < 97 → (c == n) = false := fun n hn => by
    rw [beq_eq_false_iff_ne]
    intro q
    rw [q] at h
    omega
  unfold Lib.isSp
  rw [e 9 (by decide), e 10 (by decide), e 11 (by decide), e 12 (by decide), e 13 (by decide), e 32 (by decide)]
  rfl
/-- A message's byte: a space, or a letter of the table. -/
def msgC (l : List ByteArray) (c : UInt8) : Prop := c = 32 ∨ (97 ≤ c.toNat ∧ (c.toNat : Int) - 97 < (l.length : Int))
theorem msgC_of (l : List ByteArray) (m : ByteArray) (ha : ∀ j, j < m.size → msgAt l m j) : ∀ c ∈ m.data.toList, msgC l c := by
  intro c hc
  obtain ⟨j, hj, rfl⟩ := List.getElem_of_mem hc
  have hj' : j < m.size := by rw [size_data] at hj; exact hj
  have := ha j hj'
  unfold msgAt at this
  rw [bt_get m j hj'] at this
  rcases this with h | h
  · left
    apply UInt8.toNat_inj.1
    have : ((32 : UInt8)).toNat = 32 := rfl
    omega
  · exact .inr ⟨by omega, h.2⟩
theorem letOf_len (l : List ByteArray) (ht : okTable l = true) (c : UInt8) (hc : 97 ≤ c.toNat ∧ (c.toNat : Int) - 97 < (l.length : Int)) : (letOf l c).length ≤ 5 := by
  unfold letOf
  rw [size_data, show (c.toNat : Int) - 97 = ((c.toNat - 97 : Nat) : Int) by omega]
  exact okLetter_size l ht _ (by omega)
theorem bareL_len (l : List ByteArray) (ht : okTable l = true) : ∀ cs : List UInt8, (∀ c ∈ cs, msgC l c) → (bareL l cs).length ≤ 5 * cs.length := by
  intro cs
  induction cs with
  | nil => intro _; simp [bareL]
  | cons c cs ih =>
    intro h
    have h1 := ih (fun x hx => h x (List.mem_cons_of_mem _ hx))
    rw [bareL_cons, List.length_append, List.length_cons]
    rcases h c List.mem_cons_self with e | e
    · subst e
      rw [if_pos (by decide)]
      simp
      omega
    · rw [if_neg (by rw [isSp_low c e.1]; simp)]
      have := letOf_len l ht c e
      omega
theorem app_toArray (a : List UInt8) (b : ByteArray) : (⟨a.toArray⟩ : ByteArray) ++ b = ⟨(a ++ b.data.toList).toArray⟩ := by
  apply ByteArray.ext
  rw [ByteArray.data_append]
  simp
theorem specBare_l0 (l : List ByteArray) (ht : okTable l = true) (m : ByteArray) (hm : m.size ≤ 12) (ha : ∀ j, j < m.size → msgAt l m j) (d : Nat) : ∀ (i : Nat) (a : List UInt8), i ≤ m.size → m.size - i = d → a.length ≤ 5 * i →
    Evt (fun k => spec_l2Bare.l0 k m ⟨a.toArray⟩ i l) ⟨(a ++ bareL l (m.data.toList.drop i)).toArray⟩ := by
  have hL := size_data m
  induction d with
  | zero =>
    intro i a hi hd _
    rw [List.drop_eq_nil_of_le (by omega)]
    refine Evt.succ (h := fun _ => some ⟨(a ++ bareL l []).toArray⟩) (fun k => ?_) (Evt.const _)
    rw [spec_l2Bare.l0, if_neg (by omega)]
    simp [bareL]
  | succ d ih =>
    intro i a hi hd hal
    have li : i < m.size := by omega
    have li' : i < m.data.toList.length := by omega
    have hr := bt_range m i li
    have hg := bt_get m i li
    rw [List.drop_eq_getElem_cons li', bareL_cons]
    by_cases hc : bt m (i : Int) = 32
    · have e : m.data.toList[i] = 32 := by
        apply UInt8.toNat_inj.1
        have : ((32 : UInt8)).toNat = 32 := rfl
        omega
      rw [e, if_pos (by decide), List.nil_append]
      refine Evt.succ (fun k => ?_) (ih (i + 1) a (by omega) (by omega) (by omega))
      rw [spec_l2Bare.l0, if_pos (by omega), if_pos (by omega), if_pos hc, wrap_succ i (by omega)]
    · have hmc : 97 ≤ (m.data.toList[i]).toNat ∧ ((m.data.toList[i]).toNat : Int) - 97 < (l.length : Int) := by
        rcases ha i li with h | h
        · exact absurd h hc
        · omega
      have hll := letOf_len l ht _ hmc
      rw [if_neg (by rw [isSp_low _ hmc.1]; simp), ← List.append_assoc]
      have el : (rdOf ByteArray.empty l (bt m (i : Int) - 97)).data.toList = letOf l m.data.toList[i] := by unfold letOf; rw [hg]
      have hsz : (rdOf ByteArray.empty l (bt m (i : Int) - 97)).size ≤ 5 := by rw [← size_data, el]; exact hll
      have hsa : (⟨a.toArray⟩ : ByteArray).size = a.length := by simp [ByteArray.size]
      refine Evt.succ (fun k => ?_) (ih (i + 1) (a ++ letOf l m.data.toList[i]) (by omega) (by omega) (by rw [List.length_append]; omega))
      rw [spec_l2Bare.l0, if_pos (by omega), if_pos (by omega), if_neg hc, wrap_bt _ hr.1 hr.2, if_pos (by omega), if_pos (by omega), if_pos (by omega), wrap_succ i (by omega), app_toArray, el]
theorem specBare_evt (l : List ByteArray) (ht : okTable l = true) (m : ByteArray) (hm : m.size ≤ 12) (ha : ∀ j, j < m.size → msgAt l m j) : Evt (fun k => spec_l2Bare.f k l m) ⟨(bareL l m.data.toList).toArray⟩ :=
  specBare_l0 l ht m hm ha m.size 0 [] (by omega) (by omega) (by simp)
def lB (l : List ByteArray) (c : UInt8) : ByteArray := rdOf ByteArray.empty l ((c.toNat : Int) - 97)
def joinW (xs : List ByteArray) (s : UInt8) : ByteArray := ⟨(Lib.join (xs.map (·.data.toList)) [s]).toArray⟩
def encW (l : List ByteArray) (w : ByteArray) : ByteArray := joinW (w.data.toList.map (lB l)) 32
theorem tail_len (s : UInt8) (B : Nat) : ∀ r : List (List UInt8), (∀ x ∈ r, x.length ≤ B) → ((r.map ([s] ++ ·)).flatten).length ≤ (B + 1) * r.length := by
  intro r
  induction r with
  | nil => intro _; simp
  | cons x r ih =>
    intro h
    have h1 := ih (fun y hy => h y (List.mem_cons_of_mem _ hy))
    have h2 := h x List.mem_cons_self
    have e : (x :: r).length = r.length + 1 := rfl
    rw [List.map_cons, List.flatten_cons, List.length_append, List.length_append, e, Nat.mul_succ]
    simp only [List.length_singleton]
    omega
theorem join_len (s : UInt8) (B : Nat) (xs : List (List UInt8)) (h : ∀ x ∈ xs, x.length ≤ B) : (Lib.join xs [s]).length ≤ (B + 1) * xs.length := by
  cases xs with
  | nil => simp [Lib.join_nil]
  | cons x r =>
    have h1 := tail_len s B r (fun y hy => h y (List.mem_cons_of_mem _ hy))
    have h2 := h x List.mem_cons_self
    rw [Lib.join_cons, List.length_append, List.length_cons, Nat.mul_succ]
    unfold Lib.joinTail
    omega
theorem joinW_size (s : UInt8) (B : Nat) (xs : List ByteArray) (h : ∀ x ∈ xs, x.size ≤ B) : (joinW xs s).size ≤ (B + 1) * xs.length := by
  have := join_len s B (xs.map (·.data.toList)) (fun x hx => by
    obtain ⟨y, hy, rfl⟩ := List.mem_map.1 hx
    rw [size_data]
    exact h y hy)
  rw [List.length_map] at this
  rw [← size_data]
  simpa [joinW] using this
theorem joinF_eq (s : UInt8) (B : Nat) (hB : B ≤ 1000) (xs : List ByteArray) (hl : xs.length ≤ 12) (h : ∀ x ∈ xs, x.size ≤ B) : strings_Join.f xs ⟨#[s]⟩ = some (joinW xs s) := by
  have h1 := joinW_size s B xs h
  have h2 : (B + 1) * xs.length ≤ (B + 1) * 12 := Nat.mul_le_mul_left _ hl
  have h3 : (strings_Join.t xs ⟨#[s]⟩).length ≤ 140737488355328 := by
    rw [← size_data] at h1
    have : (joinW xs s).data.toList = strings_Join.t xs ⟨#[s]⟩ := by simp [joinW, strings_Join.t]
    rw [this] at h1
    omega
  unfold strings_Join.f
  rw [if_pos ⟨by omega, h3⟩]
  rfl
def letC (l : List ByteArray) (c : UInt8) : Prop := 97 ≤ c.toNat ∧ (c.toNat : Int) - 97 < (l.length : Int)
theorem lB_size (l : List ByteArray) (ht : okTable l = true) (c : UInt8) (hc : letC l c) : (lB l c).size ≤ 5 := by
  have := letOf_len l ht c hc
  unfold letOf at this
  rw [size_data] at this
  exact this
theorem encode_l1 (l : List ByteArray) (ht : okTable l = true) (ws x5 : List ByteArray) (n : Int) (w : ByteArray) (hw : w.size ≤ 12) (hc : ∀ c ∈ w.data.toList, letC l c) (h5 : x5.length ≤ 12) (x14 : Nat) (h14 : x14 ≤ 12) (r : ByteArray) (d : Nat) : ∀ (i : Nat) (acc : List ByteArray), i ≤ w.size → w.size - i = d → acc.length = i → (∀ a ∈ acc, a.size ≤ 5) →
    Evt (fun k => impl_encode.l0 k (x5 ++ [joinW (acc ++ (w.data.toList.drop i).map (lB l)) 32]) ws n ((x14 + 1 : Nat) : Int) l) r → Evt (fun k => impl_encode.l1 k x5 w acc ws n x14 (w.size : Int) i l) r := by
  have hL := size_data w
  induction d with
  | zero =>
    intro i acc hi hd hal hac H
    rw [List.drop_eq_nil_of_le (by omega), List.map_nil, List.append_nil] at H
    refine Evt.succ (fun k => ?_) H
    rw [impl_encode.l1, if_neg (by omega), joinF_eq 32 5 (by omega) acc (by omega) hac, Option.bind_some, if_pos (by omega), wrap_succ x14 (by omega)]
  | succ d ih =>
    intro i acc hi hd hal hac H
    have li : i < w.size := by omega
    have li' : i < w.data.toList.length := by omega
    have hg := bt_get w i li
    have hcc := hc _ (List.getElem_mem li')
    have hlt := (w.data.toList[i]).toNat_lt
    have hap : acc ++ (lB l w.data.toList[i] :: (w.data.toList.drop (i + 1)).map (lB l)) = (acc ++ [lB l w.data.toList[i]]) ++ (w.data.toList.drop (i + 1)).map (lB l) := List.append_cons ..
    rw [List.drop_eq_getElem_cons li', List.map_cons, hap] at H
    have e : (bt w (i : Int) - 97) % 256 = ((w.data.toList[i]).toNat : Int) - 97 := by
      have := hcc.1
      omega
    refine Evt.succ (fun k => ?_) (ih (i + 1) (acc ++ [lB l w.data.toList[i]]) (by omega) (by omega) (by simp; omega) (fun a ha => by
      rcases List.mem_append.1 ha with h | h
      · exact hac a h
      · obtain rfl := List.mem_singleton.1 h
        exact lB_size l ht _ hcc) H)
    have h1 := hcc.1
    have h2 := hcc.2
    rw [impl_encode.l1, if_pos (by omega), if_pos (by omega), if_pos (by omega), e, if_pos (by omega), if_pos (by omega), if_pos (by omega), wrap_succ i (by omega)]
    rfl
theorem encode_l0 (l : List ByteArray) (ht : okTable l = true) (ws : List ByteArray) (hn : ws.length ≤ 12) (hws : ∀ w ∈ ws, w.size ≤ 12 ∧ ∀ c ∈ w.data.toList, letC l c) (d : Nat) : ∀ (j : Nat) (acc : List ByteArray), j ≤ ws.length → ws.length - j = d → acc.length = j → (∀ a ∈ acc, a.size ≤ 72) →
    Evt (fun k => impl_encode.l0 k acc ws (ws.length : Int) j l) (joinW (acc ++ (ws.drop j).map (encW l)) 47) := by
  induction d with
  | zero =>
    intro j acc hj hd hal hac
    rw [List.drop_eq_nil_of_le (by omega), List.map_nil, List.append_nil]
    refine Evt.succ (h := fun _ => some (joinW acc 47)) (fun k => ?_) (Evt.const _)
    rw [impl_encode.l0, if_neg (by omega), joinF_eq 47 72 (by omega) acc (by omega) hac, Option.bind_some]
  | succ d ih =>
    intro j acc hj hd hal hac
    have lj : j < ws.length := by omega
    obtain ⟨hw, hcw⟩ := hws _ (List.getElem_mem lj)
    have hez : (encW l ws[j]).size ≤ 72 := by
      have := joinW_size 32 5 (ws[j].data.toList.map (lB l)) (fun x hx => by
        obtain ⟨y, hy, rfl⟩ := List.mem_map.1 hx
        exact lB_size l ht y (hcw y hy))
      rw [List.length_map, size_data] at this
      unfold encW
      omega
    have H := ih (j + 1) (acc ++ [encW l ws[j]]) (by omega) (by omega) (by simp; omega) (fun a ha => by
      rcases List.mem_append.1 ha with h | h
      · exact hac a h
      · obtain rfl := List.mem_singleton.1 h
        exact hez)
    rw [List.drop_eq_getElem_cons lj, List.map_cons, List.append_cons]
    refine Evt.succ (fun k => ?_) (encode_l1 l ht ws acc (ws.length : Int) ws[j] hw hcw (by omega) j (by omega) _ ws[j].size 0 [] (by omega) (by omega) rfl (by simp) H)
    rw [impl_encode.l0, if_pos (by omega), if_pos (by omega), if_pos (by omega), rdOf_get _ ws j lj]
    rfl
theorem cntF_le (l : List UInt8) : ∀ ws : Bool, Lib.cntF ws l ≤ l.length := by
  induction l with
  | nil => intro ws; simp [Lib.cntF]
  | cons b l ih =>
    intro ws
    unfold Lib.cntF
    have := ih (Lib.isSp b)
    rw [List.length_cons]
    split <;> omega
theorem fieldsGo_flat (s : List UInt8) : ∀ cur : List UInt8, (Lib.fieldsGo cur s).flatten = cur ++ s.filter fun c => !Lib.isSp c := by
  induction s with
  | nil =>
    intro cur
    cases cur <;> simp [Lib.fieldsGo]
  | cons b s ih =>
    intro cur
    unfold Lib.fieldsGo
    rw [List.filter_cons]
    cases h : Lib.isSp b with
    | true =>
      cases cur with
      | nil => simpa using ih []
      | cons x cur => simpa using ih []
    | false => simpa using ih (cur ++ [b])
theorem fields_flat (s : List UInt8) : (Lib.fields s).flatten = s.filter fun c => !Lib.isSp c := fieldsGo_flat s []
theorem flat_len : ∀ (xs : List (List UInt8)) (x : List UInt8), x ∈ xs → x.length ≤ xs.flatten.length := by
  intro xs x hx
  exact (List.sublist_flatten_of_mem hx).length_le
theorem fl_app (a b : List UInt8) : bare_.fl (a ++ b) = bare_.fl a ++ bare_.fl b := by
  unfold bare_.fl
  rw [List.filter_append]
theorem fl_tail (s : UInt8) (hs : bare_.gone s = true) : ∀ r : List (List UInt8), bare_.fl ((r.map ([s] ++ ·)).flatten) = (r.map bare_.fl).flatten := by
  intro r
  induction r with
  | nil => rfl
  | cons x r ih =>
    rw [List.map_cons, List.flatten_cons, fl_app, fl_app, ih, List.map_cons, List.flatten_cons]
    have : bare_.fl [s] = [] := by unfold bare_.fl; simp [hs]
    rw [this, List.nil_append]
theorem fl_join (s : UInt8) (hs : bare_.gone s = true) (xs : List (List UInt8)) : bare_.fl (Lib.join xs [s]) = (xs.map bare_.fl).flatten := by
  cases xs with
  | nil => rfl
  | cons x r =>
    rw [Lib.join_cons, fl_app, List.map_cons, List.flatten_cons]
    unfold Lib.joinTail
    rw [fl_tail s hs r]
theorem fl_let (l : List ByteArray) (ht : okTable l = true) (c : UInt8) (hc : letC l c) : bare_.fl (lB l c).data.toList = letOf l c := by
  have hj : c.toNat - 97 < l.length := by have := hc.1; have := hc.2; omega
  have e : lB l c = l[c.toNat - 97] := by
    unfold lB
    rw [show (c.toNat : Int) - 97 = ((c.toNat - 97 : Nat) : Int) by have := hc.1; omega, rdOf_get _ l _ hj]
  have hm := (of_table l ht).2.2.1 _ (List.getElem_mem hj)
  unfold okMarks at hm
  rw [Bool.and_eq_true] at hm
  show bare_.fl (lB l c).data.toList = (lB l c).data.toList
  rw [e]
  unfold bare_.fl
  rw [List.filter_eq_self]
  intro x hx
  have := List.all_eq_true.1 hm.2 x hx
  unfold okc at this
  rw [Bool.or_eq_true, beq_iff_eq, beq_iff_eq] at this
  rcases this with rfl | rfl <;> decide
theorem fl_words (l : List ByteArray) (ht : okTable l = true) : ∀ ws : List (List UInt8), (∀ w ∈ ws, ∀ c ∈ w, letC l c) → (ws.map fun w => bare_.fl (encW l ⟨w.toArray⟩).data.toList).flatten = ws.flatten.flatMap (letOf l) := by
  intro ws
  induction ws with
  | nil => intro _; rfl
  | cons w ws ih =>
    intro h
    rw [List.map_cons, List.flatten_cons, ih (fun x hx => h x (List.mem_cons_of_mem _ hx)), List.flatten_cons, List.flatMap_append]
    congr 1
    have e1 : (encW l ⟨w.toArray⟩).data.toList = Lib.join ((w.map (lB l)).map (·.data.toList)) [32] := by simp [encW, joinW]
    rw [e1, fl_join 32 (by decide), List.map_map, List.map_map, List.flatMap_def]
    congr 1
    apply List.map_congr_left
    intro c hc
    exact fl_let l ht c (h w List.mem_cons_self c hc)
/-- What the program's code of a message is, bare of what parts it. -/
theorem implBare_evt (l : List ByteArray) (ht : okTable l = true) (m : ByteArray) (hm : m.size ≤ 12) (ha : ∀ j, j < m.size → msgAt l m j) : ∃ e, Evt (fun k => impl_encode.f k l m) e ∧ impl_bare.f e = some ⟨(bareL l m.data.toList).toArray⟩ := by
  have hL := size_data m
  have hmc := msgC_of l m ha
  have hlen := (of_table l ht).2.1
  obtain ⟨ws, ews⟩ : ∃ ws, ws = Lib.fields m.data.toList := ⟨_, rfl⟩
  have hfl : ws.flatten = m.data.toList.filter fun c => !Lib.isSp c := by rw [ews]; exact fields_flat _
  have hwc : ∀ w ∈ ws, ∀ c ∈ w, letC l c := fun w hw c hc => by
    have : c ∈ ws.flatten := List.mem_flatten.2 ⟨w, hw, hc⟩
    rw [hfl, List.mem_filter] at this
    rcases hmc c this.1 with rfl | h
    · exact absurd this.2 (by decide)
    · exact h
  have hwl : ∀ w ∈ ws, w.length ≤ 12 := fun w hw => by
    have h1 := flat_len ws w hw
    have h2 := List.length_filter_le (fun c => !Lib.isSp c) m.data.toList
    rw [hfl] at h1
    omega
  have hn : ws.length ≤ 12 := by
    have := cntF_le m.data.toList true
    rw [ews, Lib.fields_length]
    omega
  have hall : (m.data.toList.all fun b => decide (b.toNat < 128)) = true := by
    rw [List.all_eq_true]
    intro c hc
    apply decide_eq_true
    rcases hmc c hc with rfl | h
    · decide
    · omega
  have hF : strings_Fields.f m = some (ws.map fun w => ⟨w.toArray⟩) := by
    unfold strings_Fields.f
    rw [if_pos ⟨by omega, hall⟩, ews]
  obtain ⟨wb, ewb⟩ : ∃ wb : List ByteArray, wb = ws.map fun w => ⟨w.toArray⟩ := ⟨_, rfl⟩
  have hwb : wb.length = ws.length := by rw [ewb, List.length_map]
  have hE := encode_l0 l ht wb (by omega) (fun w hw => by
    rw [ewb] at hw
    obtain ⟨x, hx, rfl⟩ := List.mem_map.1 hw
    exact ⟨by have := hwl x hx; simpa [ByteArray.size] using this, fun c hc => hwc x hx c (by simpa using hc)⟩) wb.length 0 [] (by omega) (by omega) rfl (by simp)
  rw [List.nil_append, List.drop_zero] at hE
  rw [← ewb] at hF
  refine ⟨joinW (wb.map (encW l)) 47, Evt.bind ((Evt.const wb).of_eq fun k => hF) hE, ?_⟩
  have hsz : (joinW (wb.map (encW l)) 47).size ≤ 140737488355328 := by
    have := joinW_size 47 72 (wb.map (encW l)) (fun x hx => by
      obtain ⟨w, hw, rfl⟩ := List.mem_map.1 hx
      rw [ewb] at hw
      obtain ⟨y, hy, rfl⟩ := List.mem_map.1 hw
      have h1 := joinW_size 32 5 (y.map (lB l)) (fun x hx => by
        obtain ⟨c, hc, rfl⟩ := List.mem_map.1 hx
        exact lB_size l ht c (hwc y hy c hc))
      rw [List.length_map] at h1
      have h2 := hwl y hy
      have h3 : encW l ⟨y.toArray⟩ = joinW (y.map (lB l)) 32 := by simp [encW]
      rw [h3]
      omega)
    rw [List.length_map] at this
    omega
  unfold impl_bare.f
  rw [if_pos hsz]
  congr 2
  have e1 : (joinW (wb.map (encW l)) 47).data.toList = Lib.join ((wb.map (encW l)).map (·.data.toList)) [47] := by simp [joinW]
  rw [e1, fl_join 47 (by decide), List.map_map, List.map_map, ewb, List.map_map]
  have := fl_words l ht ws hwc
  rw [hfl] at this
  congr 1
theorem flips_wrap (s n : Nat) (hs : s ≤ 60) (hn : n ≤ 100) : wrap64 ((s : Int) * (n : Int)) = ((s * n : Nat) : Int) ∧ s * n ≤ 6000 := by
  have h : s * n ≤ 60 * 100 := Nat.mul_le_mul hs hn
  rw [← Int.natCast_mul]
  generalize s * n = x at *
  unfold wrap64
  omega
theorem same_evt (l : List ByteArray) (hl : l.length ≤ 1048576) (n d : Int) (m : ByteArray) (hm : m.size ≤ 1048576) : ∃ r, Evt (fun k => spec_MeanFlips.f k l n d m) r ∧ Evt (fun k => impl_MeanFlips.f k l n d m) r := by
  have s1 := specTable_evt l (by omega)
  have i1 := implNoisy_evt l hl n d [] (by simp)
  rw [List.all_nil, Bool.true_and] at i1
  obtain ⟨b, s3, i3, hb⟩ := message_evt l hl m hm
  have s2 : Evt (fun k => spec_l7Good.f n d) (good n d) := (Evt.const _).of_eq (fun k => specIsNoise_eq n d)
  have sno : Evt (fun k => spec_MeanFlips.j0 k m true l n d) (0, 0, false) := Evt.succ (h := fun _ => some (0, 0, false)) (fun k => by simp only [spec_MeanFlips.j0, if_true]) (Evt.const _)
  have ino : Evt (fun k => impl_MeanFlips.j0 k m true l n d) (0, 0, false) := Evt.succ (h := fun _ => some (0, 0, false)) (fun k => by simp only [impl_MeanFlips.j0, if_true]) (Evt.const _)
  cases ht : okTable l with
  | false =>
    rw [ht] at s1 i1
    exact ⟨(0, 0, false), Evt.bind s1 (Evt.ite_neg (by simp) sno), Evt.bind i1 (Evt.ite_neg (by simp) ino)⟩
  | true =>
    rw [ht] at s1 i1
    cases hg : good n d with
    | false =>
      rw [hg] at s2 i1
      exact ⟨(0, 0, false), Evt.bind s1 (Evt.ite_pos rfl (Evt.bind s2 (Evt.ite_neg (by simp) sno))), Evt.bind i1 (Evt.ite_neg (by simp) ino)⟩
    | true =>
      rw [hg] at s2 i1
      cases b with
      | false => exact ⟨(0, 0, false), Evt.bind s1 (Evt.ite_pos rfl (Evt.bind s2 (Evt.ite_pos rfl (Evt.bind s3 sno)))), Evt.bind i1 (Evt.ite_pos rfl (Evt.bind i3 ino))⟩
      | true =>
        obtain ⟨n', d', rfl, rfl, h1, h2, h3⟩ := good_nat n d hg
        obtain ⟨hm', ha⟩ := hb rfl
        obtain ⟨e, e1, e2⟩ := implBare_evt l ht m hm' ha
        have b1 := specBare_evt l ht m hm' ha
        obtain ⟨o, eo⟩ : ∃ o : ByteArray, o = ⟨(bareL l m.data.toList).toArray⟩ := ⟨_, rfl⟩
        rw [← eo] at e2 b1
        have hz : o.size ≤ 60 := by
          have := bareL_len l ht m.data.toList (msgC_of l m ha)
          rw [size_data] at this
          have e : o.size = (bareL l m.data.toList).length := by rw [eo]; simp [ByteArray.size]
          omega
        obtain ⟨w1, w2⟩ := flips_wrap o.size n' hz (by omega)
        have c1 := specCut_evt (o.size * n') d' h2 (by omega) (by omega)
        have c2 := implFraction_evt (o.size * n') d' h2 (by omega) (by omega)
        rw [← w1] at c1 c2
        have c3 : Evt (fun k => (impl_bare.f e).bind fun t202 => (impl_fraction.f k (wrap64 ((t202.size : Int) * (n' : Int))) (d' : Int)).bind fun bt203 => some (bt203.1, bt203.2, true)) ((cut (o.size * n') d').1, (cut (o.size * n') d').2, true) := by
          refine Evt.bind (g := fun _ => impl_bare.f e) (a := o) ((Evt.const o).of_eq fun _ => e2) ?_
          exact Evt.bind c2 (Evt.const _)
        have c4 : Evt (fun k => (spec_l2Bare.f k l m).bind fun t144 => (spec_l7Cut.f k (wrap64 ((t144.size : Int) * (n' : Int))) (d' : Int)).bind fun bt145 => some (bt145.1, bt145.2, true)) ((cut (o.size * n') d').1, (cut (o.size * n') d').2, true) := by
          refine Evt.bind b1 ?_
          exact Evt.bind c1 (Evt.const _)
        refine ⟨((cut (o.size * n') d').1, (cut (o.size * n') d').2, true), Evt.bind s1 (Evt.ite_pos rfl (Evt.bind s2 (Evt.ite_pos rfl (Evt.bind s3 (Evt.succ (fun k => by rw [Bool.not_true, spec_MeanFlips.j0, if_neg (by simp)]) c4))))), Evt.bind i1 (Evt.ite_pos rfl (Evt.bind i3 (Evt.succ (fun k => by rw [Bool.not_true, impl_MeanFlips.j0, if_neg (by simp)]) (Evt.bind e1 c3))))⟩
theorem FnExactMeanFlips : laws_FnExactMeanFlips.Pure := by
  intro l n d m hl hs _ _ wf_m
  obtain ⟨t, ht, hor⟩ := szTable_evt l 1048576 (by omega) (by omega) hl hs
  refine Evt.get (r := true) ?_
  by_cases big_m : (m.size : Int) > 1048576
  · exact Evt.ite_pos big_m (Evt.const _)
  refine Evt.ite_neg big_m ?_
  refine Evt.bind ht ?_
  by_cases hn : t < 0
  · exact Evt.ite_pos hn (Evt.const _)
  · refine Evt.ite_neg hn ?_
    have hl : l.length ≤ 1048576 := by omega
    obtain ⟨r, h1, h2⟩ := same_evt l hl n d m (by omega)
    refine Evt.bind (toTable_evt l hl) (Evt.bind (Evt.const (n, d)) (Evt.bind h1 (Evt.bind (toTable_evt l hl) (Evt.bind (Evt.const (n, d)) (Evt.bind h2 (Evt.bind (eqIntA2_evt _ _) ?_))))))
    refine Evt.ite_pos rfl ?_
    rw [show (r.2.2 != r.2.2) = false by simp]
    refine Evt.succ (h := fun k => _) (fun k => by simp only [laws_FnExactMeanFlips.j0]; rfl) ?_
    refine Evt.ite_neg (by simp) ?_
    exact Evt.bind (toTable_evt l hl) (Evt.bind (eqTable_evt l hl) (Evt.ite_pos rfl (Evt.const _)))
end Go.Proofs.YtgaadjlcmgmfaaaGreatDoor.Pure
