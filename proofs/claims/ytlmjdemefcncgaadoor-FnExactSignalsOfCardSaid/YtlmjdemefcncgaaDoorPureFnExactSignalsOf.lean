/- The program's SignalsOf returns what the reference's SignalsOf returns, for every list of lengths. No condition. -/
import Derived.Test.YtlmjdemefcncgaaDoorPFnExactSignalsOfx6
namespace Go.Proofs.YtlmjdemefcncgaaDoor.Pure
open Go.RowKit Go.Proofs.YtlmjdemefcncgaaDoor.PFnExactSignalsOf Go.Proofs.YtlmjdemefcncgaaDoorW.PrintWords Go.Proofs.YtlmjdemefcncgaaDoorW.PrintLast Go.Proofs.YtlmjdemefcncgaaDoorW.PrintMore
set_option linter.unusedVariables false
set_option linter.unusedSimpArgs false

/-! ### ev -/
/-- With enough rounds, and ever after, g answers r. -/
def Evt {α : Type} (g : Nat → Option α) (r : α) : Prop := ∃ K, ∀ k, K ≤ k → g k = some r
theorem Evt.const {α : Type} (r : α) : Evt (fun _ => some r) r := ⟨0, fun _ _ => rfl⟩
theorem Evt.of_eq {α : Type} {g h : Nat → Option α} {r : α} (e : ∀ k, g k = h k) (H : Evt h r) : Evt g r := by
  obtain ⟨K, hK⟩ := H
  exact ⟨K, fun k hk => (e k).trans (hK k hk)⟩
theorem Evt.bind {α β : Type} {g : Nat → Option β} {h : Nat → β → Option α} {a : β} {r : α} (H1 : Evt g a) (H2 : Evt (fun k => h k a) r) : Evt (fun k => (g k).bind (h k)) r := by
  obtain ⟨K1, h1⟩ := H1
  obtain ⟨K2, h2⟩ := H2
  refine ⟨max K1 K2, fun k hk => ?_⟩
  show (g k).bind (h k) = some r
  rw [h1 k (by omega)]
  exact h2 k (by omega)
theorem Evt.succ {α : Type} {g h : Nat → Option α} {r : α} (e : ∀ k, g (k + 1) = h k) (H : Evt h r) : Evt g r := by
  obtain ⟨K, hK⟩ := H
  refine ⟨K + 1, fun k hk => ?_⟩
  obtain ⟨k, rfl⟩ : ∃ m, k = m + 1 := ⟨k - 1, by omega⟩
  rw [e]
  exact hK k (by omega)
theorem Evt.get {α : Type} {g : Nat → Option α} {r : α} (H : Evt g r) : ∃ k, g k = some r := by
  obtain ⟨K, hK⟩ := H
  exact ⟨K, hK K (Nat.le_refl _)⟩
theorem Evt.get2 {α β : Type} {g : Nat → Option α} {h : Nat → Option β} {r : α} {s : β} (H : Evt g r) (H' : Evt h s) : ∃ k, g k = some r ∧ h k = some s := by
  obtain ⟨K, hK⟩ := H
  obtain ⟨K', hK'⟩ := H'
  exact ⟨max K K', hK _ (by omega), hK' _ (by omega)⟩
theorem Evt.ite_pos {α : Type} {c : Prop} [Decidable c] {g h : Nat → Option α} {r : α} (hc : c) (H : Evt g r) : Evt (fun k => if c then g k else h k) r :=
  H.of_eq (fun k => by rw [if_pos hc])
theorem Evt.ite_neg {α : Type} {c : Prop} [Decidable c] {g h : Nat → Option α} {r : α} (hc : ¬ c) (H : Evt h r) : Evt (fun k => if c then g k else h k) r :=
  H.of_eq (fun k => by rw [if_neg hc])
theorem Evt.pred {α : Type} {g h : Nat → Option α} {r : α} (e : ∀ k, g (k + 1) = h k) (H : Evt g r) : Evt h r := by
  obtain ⟨K, hK⟩ := H
  exact ⟨K, fun k hk => (e k).symm.trans (hK (k + 1) (by omega))⟩

/-! ### lists -/
theorem rdOf_get {α : Type} (d : α) (l : List α) (i : Nat) (h : i < l.length) : rdOf d l (i : Int) = l[i] := by
  unfold rdOf
  rw [Int.toNat_natCast, List.getD_eq_getElem?_getD, List.getElem?_eq_getElem h]
  rfl
theorem rd_get (l : List Int) (i : Nat) (h : i < l.length) : rd l (i : Int) = l[i] := by
  unfold rd
  rw [Int.toNat_natCast, List.getD_eq_getElem?_getD, List.getElem?_eq_getElem h]
  rfl
theorem drop_get {α : Type} (l : List α) (i : Nat) (h : i < l.length) : l.drop i = l[i] :: l.drop (i + 1) := by simp
theorem wrap_succ (i : Nat) (h : i < 9223372036854775807) : wrap64 ((i : Int) + 1) = ((i + 1 : Nat) : Int) := by unfold wrap64; omega

/-! ### in -/
theorem in_eq (a b c : Int) : impl_in.f a b c = some (decide (b ≤ a ∧ a ≤ c)) := by
  unfold impl_in.f
  by_cases h : a ≥ b
  · rw [if_pos h]
    simp [show b ≤ a from h]
  · rw [if_neg h]
    simp [show ¬ b ≤ a from h]
theorem l1In_eq (a b c : Int) : spec_l1In.f a b c = some (decide (b ≤ a ∧ a ≤ c)) := by
  unfold spec_l1In.f
  by_cases h : a ≥ b
  · rw [if_pos h]
    simp [show b ≤ a from h]
  · rw [if_neg h]
    simp [show ¬ b ≤ a from h]

/-! ### marks -/
/-- A byte that is a mark. -/
def okc (c : UInt8) : Bool := c == 46 || c == 45
def okMarks (s : ByteArray) (lo hi : Int) : Bool := decide (lo ≤ s.size ∧ (s.size : Int) ≤ hi) && s.data.toList.all okc
theorem size_data (s : ByteArray) : s.data.toList.length = s.size := by rw [Array.length_toList]; rfl
theorem bt_get (s : ByteArray) (i : Nat) (h : i < s.size) : bt s (i : Int) = ((s.data.toList[i]'(by rw [size_data]; exact h)).toNat : Int) := by
  unfold bt
  rw [dif_pos (by simpa using h)]
  simp only [Int.toNat_natCast, Array.getElem_toList]
  rfl
theorem trim_empty (l : List UInt8) : ((Lib.trimS l [46, 45]) = []) ↔ l.all okc = true := by
  have e : ∀ c : UInt8, ([46, 45] : List UInt8).contains c = okc c := fun c => by
    simp [okc, List.contains_cons]
    rfl
  have dw : ∀ l : List UInt8, (l.dropWhile (([46, 45] : List UInt8).contains ·) = []) ↔ l.all okc = true := by
    intro l
    induction l with
    | nil => simp
    | cons c t ih =>
      rw [List.dropWhile_cons, e]
      cases h : okc c with
      | true =>
        simp only [if_true, List.all_cons, h, Bool.true_and]
        exact ih
      | false => simp [h]
  unfold Lib.trimS Lib.trimLeftS Lib.trimRightS
  rw [dw]
  have dwa : ∀ l : List UInt8, (l.dropWhile (([46, 45] : List UInt8).contains ·)).all okc = l.all okc := by
    intro l
    induction l with
    | nil => rfl
    | cons c t ih =>
      rw [List.dropWhile_cons, e]
      cases h : okc c with
      | true =>
        simp only [if_true, List.all_cons, h, Bool.true_and]
        exact ih
      | false => simp
  rw [List.all_reverse, dwa, List.all_reverse]
theorem implAreMarks_eq (s : ByteArray) (lo hi : Int) (hh : hi ≤ 9223372036854775807) : impl_areMarks.f s lo hi = some (okMarks s lo hi) := by
  unfold impl_areMarks.f okMarks
  rw [in_eq]
  simp only [Option.bind_some, decide_eq_true_eq]
  by_cases h : lo ≤ (s.size : Int) ∧ (s.size : Int) ≤ hi
  · rw [if_pos h]
    unfold strings_Trim.f
    rw [if_pos (by omega), if_pos rfl]
    simp only [Option.bind_some, h, and_self, decide_true, Bool.true_and]
    congr 1
    rw [Lib.toList_data]
    have := trim_empty s.data.toList
    cases hb : s.data.toList.all okc with
    | true => simp [this.2 hb]
    | false =>
      have : ¬ Lib.trimS s.data.toList [46, 45] = [] := fun h => by rw [this.1 h] at hb; cases hb
      simpa using this
  · rw [if_neg h]
    simp [h]
theorem drop_cons_ (l : List UInt8) (i : Nat) (h : i < l.length) : l.drop i = l[i] :: l.drop (i + 1) := by simp
/-- The reference's loop from place i on: the marks up to 'hi', then the length. -/
theorem specMarks_l0 (s : ByteArray) (lo hi : Int) (h0 : 0 ≤ hi) (hh : hi ≤ 1000000) (d : Nat) : ∀ (k i : Nat), i ≤ s.size → (i : Int) ≤ hi + 1 → (hi + 1 - i).toNat = d → 2 * d + 3 ≤ k →
    spec_l2Marks.l0 k s lo hi i = some (((s.data.toList.drop i).take d).all okc && decide (lo ≤ s.size ∧ (s.size : Int) ≤ hi)) := by
  induction d with
  | zero =>
    intro k i hi1 hi2 hd hk
    obtain ⟨k, rfl⟩ : ∃ m, k = m + 2 := ⟨k - 2, by omega⟩
    have e : (i : Int) = hi + 1 := by omega
    simp only [spec_l2Marks.l0]
    have hj : spec_l2Marks.j1 (k + 1) s lo hi i false = some (decide (lo ≤ s.size ∧ (s.size : Int) ≤ hi)) := by
      simp only [spec_l2Marks.j1]
      rw [if_neg (by simp), l1In_eq]
      rfl
    by_cases hlt : (i : Int) < (s.size : Int)
    · rw [if_pos hlt, show decide ((i : Int) ≤ hi) = false from decide_eq_false (by omega), hj]
      simp
    · rw [if_neg hlt, hj]
      simp
  | succ d ih =>
    intro k i hi1 hi2 hd hk
    obtain ⟨k, rfl⟩ : ∃ m, k = m + 2 := ⟨k - 2, by omega⟩
    simp only [spec_l2Marks.l0]
    by_cases hlt : (i : Int) < (s.size : Int)
    · rw [if_pos hlt, show decide ((i : Int) ≤ hi) = true from decide_eq_true (by omega)]
      simp only [spec_l2Marks.j1]
      rw [if_pos trivial, if_pos (by omega), if_pos hlt]
      have hl : i < s.data.toList.length := by rw [size_data]; omega
      rw [drop_cons_ _ _ hl, List.take_succ_cons, List.all_cons, bt_get s i (by omega)]
      have hw : wrap64 ((i : Int) + 1) = ((i + 1 : Nat) : Int) := by unfold wrap64; omega
      rw [hw]
      generalize s.data.toList[i] = c
      have hc : ∀ n : Nat, n < 256 → (((c.toNat : Int) = (n : Int)) ↔ c = UInt8.ofNat n) := by
        intro n hn
        constructor
        · intro h
          apply UInt8.toNat_inj.1
          simp
          omega
        · rintro rfl
          simp
          omega
      have c46 : ((c.toNat : Int) = 46) ↔ c = 46 := hc 46 (by omega)
      have c45 : ((c.toNat : Int) = 45) ↔ c = 45 := hc 45 (by omega)
      by_cases h46 : c = 46
      · subst h46
        rw [if_pos (by rfl), ih _ _ (by omega) (by omega) (by omega) (by omega)]
        rfl
      · rw [if_neg (fun h => h46 (c46.1 h))]
        by_cases h45 : c = 45
        · subst h45
          rw [if_pos (by rfl), ih _ _ (by omega) (by omega) (by omega) (by omega)]
          rfl
        · rw [if_neg (fun h => h45 (c45.1 h))]
          simp [okc, h46, h45]
    · rw [if_neg hlt]
      have hj : spec_l2Marks.j1 (k + 1) s lo hi i false = some (decide (lo ≤ s.size ∧ (s.size : Int) ≤ hi)) := by
        simp only [spec_l2Marks.j1]
        rw [if_neg (by simp), l1In_eq]
        rfl
      rw [hj, List.drop_eq_nil_of_le (by rw [size_data]; omega)]
      simp
theorem specMarks_eq (s : ByteArray) (lo hi : Int) (h0 : 0 ≤ hi) (hh : hi ≤ 1000000) (k : Nat) (hk : 2 * hi + 5 ≤ k) : spec_l2Marks.f k s lo hi = some (okMarks s lo hi) := by
  unfold spec_l2Marks.f
  have h := specMarks_l0 s lo hi h0 hh (hi + 1 - ((0 : Nat) : Int)).toNat k 0 (by omega) (by omega) rfl (by omega)
  rw [show ((0 : Nat) : Int) = 0 from rfl] at h
  rw [h]
  unfold okMarks
  congr 1
  rw [List.drop_zero, Bool.and_comm]
  by_cases hl : lo ≤ (s.size : Int) ∧ (s.size : Int) ≤ hi
  · rw [List.take_of_length_le (by rw [size_data]; omega)]
  · simp [hl]

/-! ### split -/
/-- The pieces of a text between the bytes c. -/
def spl (c : UInt8) : List UInt8 → List (List UInt8)
  | [] => [[]]
  | b :: l => if b = c then [] :: spl c l else
    match spl c l with
    | h :: t => (b :: h) :: t
    | [] => [[b]]
def splF (c : UInt8) (p r : List UInt8) : List (List UInt8) :=
  match spl c r with
  | h :: t => (p ++ h) :: t
  | [] => [p]
theorem spl_ne (c : UInt8) : ∀ l, ∃ h t, spl c l = h :: t
  | [] => ⟨[], [], rfl⟩
  | b :: l => by
    obtain ⟨h, t, e⟩ := spl_ne c l
    unfold spl
    rw [e]
    by_cases hb : b = c
    · rw [if_pos hb]; exact ⟨_, _, rfl⟩
    · rw [if_neg hb]; exact ⟨_, _, rfl⟩
theorem splF_nil (c : UInt8) (p : List UInt8) : splF c p [] = [p] := by
  unfold splF spl
  simp
theorem splF_hit (c : UInt8) (p r : List UInt8) : splF c p (c :: r) = p :: splF c [] r := by
  obtain ⟨h, t, e⟩ := spl_ne c r
  unfold splF
  rw [e]
  unfold spl
  rw [if_pos rfl, e]
  simp
theorem splF_miss (c b : UInt8) (hb : b ≠ c) (p r : List UInt8) : splF c p (b :: r) = splF c (p ++ [b]) r := by
  obtain ⟨h, t, e⟩ := spl_ne c r
  unfold splF
  rw [e]
  unfold spl
  rw [if_neg hb, e]
  simp
theorem splF_zero (c : UInt8) (r : List UInt8) : splF c [] r = spl c r := by
  obtain ⟨h, t, e⟩ := spl_ne c r
  unfold splF
  rw [e]
  rfl
theorem spl_none (c : UInt8) : ∀ l : List UInt8, c ∉ l → spl c l = [l]
  | [], _ => rfl
  | b :: l, h => by
    rw [List.mem_cons, not_or] at h
    unfold spl
    rw [if_neg (fun e => h.1 e.symm), spl_none c l h.2]
theorem spl_pre (c : UInt8) (r : List UInt8) : ∀ p : List UInt8, c ∉ p → spl c (p ++ c :: r) = p :: spl c r
  | [], _ => by
    show spl c (c :: r) = _
    rw [spl, if_pos rfl]
  | b :: p, h => by
    rw [List.mem_cons, not_or] at h
    rw [List.cons_append, spl, if_neg (fun e => h.1 e.symm), spl_pre c r p h.2]
theorem first_mem (c : UInt8) : ∀ l : List UInt8, c ∈ l → ∃ p r, l = p ++ c :: r ∧ c ∉ p
  | [], h => by cases h
  | b :: l, h => by
    by_cases e : b = c
    · subst e
      exact ⟨[], l, rfl, by simp⟩
    · rw [List.mem_cons] at h
      obtain ⟨p, r, q, hp⟩ := first_mem c l (h.resolve_left (fun x => e x.symm))
      exact ⟨b :: p, r, by rw [q]; rfl, by rw [List.mem_cons, not_or]; exact ⟨fun x => e x.symm, hp⟩⟩
theorem idx_pre (c : UInt8) (r : List UInt8) : ∀ p : List UInt8, c ∉ p → Lib.indexByte (p ++ c :: r) c = (p.length : Int)
  | [], _ => by
    show Lib.indexByte (c :: r) c = 0
    unfold Lib.indexByte
    rw [if_pos (by simp)]
  | b :: p, h => by
    rw [List.mem_cons, not_or] at h
    rw [List.cons_append]
    unfold Lib.indexByte
    rw [idx_pre c r p h.2, if_neg (by rw [beq_iff_eq]; exact fun e => h.1 e.symm), if_neg (by rw [beq_iff_eq]; omega), List.length_cons]
    omega
/-- The library's pieces. -/
theorem splitK_spl (c : UInt8) : ∀ (n : Nat) (l : List UInt8), l.length ≤ n → Lib.splitK [c] 0 (l.count c) l = spl c l
  | 0, l, h => by
    obtain rfl : l = [] := List.eq_nil_of_length_eq_zero (by omega)
    rfl
  | n + 1, l, h => by
    by_cases hm : c ∈ l
    · obtain ⟨p, r, rfl, hp⟩ : ∃ p r, l = p ++ c :: r ∧ c ∉ p := by
        exact first_mem c l hm
      have hc : (p ++ c :: r).count c = r.count c + 1 := by
        rw [List.count_append, List.count_eq_zero_of_not_mem hp, List.count_cons_self, Nat.zero_add]
      have hi : Lib.index (p ++ c :: r) [c] = (p.length : Int) := by
        rw [strings_Split.index_one]
        exact idx_pre c r p hp
      rw [hc, Lib.splitK, hi, if_neg (by rw [beq_iff_eq]; omega), spl_pre c r p hp]
      have e1 : (p ++ c :: r).take ((p.length : Int).toNat + 0) = p := by simp
      have e2 : (p ++ c :: r).drop ((p.length : Int).toNat + [c].length) = r := by
        rw [Int.toNat_natCast, List.length_singleton, ← List.drop_drop, List.drop_left]
        rfl
      rw [e1, e2, splitK_spl c n r (by rw [List.length_append, List.length_cons] at h; omega)]
    · rw [List.count_eq_zero_of_not_mem hm, spl_none c l hm]
      rfl
theorem ext_data (s : ByteArray) (a b : Nat) : (s.extract a b).data.toList = (s.data.toList.drop a).take (b - a) := by
  rw [ByteArray.data_extract, Array.toList_extract]
def dl (s : ByteArray) : List UInt8 := s.data.toList
theorem dl_inj (a b : ByteArray) (h : dl a = dl b) : a = b := by
  cases a
  cases b
  unfold dl at h
  simp only at h
  rw [Array.toList_inj.1 h]
theorem map_dl_inj : ∀ a b : List ByteArray, a.map dl = b.map dl → a = b
  | [], [], _ => rfl
  | [], _ :: _, h => by simp at h
  | _ :: _, [], h => by simp at h
  | x :: a, y :: b, h => by
    rw [List.map_cons, List.map_cons] at h
    injection h with h1 h2
    rw [dl_inj x y h1, map_dl_inj a b h2]
theorem specSplit_l0 (s : ByteArray) (hs : s.size ≤ 1048576) (c : UInt8) (d : Nat) : ∀ (i a : Nat) (out : List ByteArray), a ≤ i → i ≤ s.size → s.size - i = d → out.length ≤ i → ∃ r, Evt (fun k => spec_l1Split.l0 k s (c.toNat : Int) out a i) r ∧ r.map dl = out.map dl ++ splF c (((dl s).drop a).take (i - a)) ((dl s).drop i) := by
  have hsz : (dl s).length = s.size := size_data s
  induction d with
  | zero =>
    intro i a out ha hi hd ho
    obtain rfl : i = s.size := by omega
    refine ⟨out ++ [s.extract a s.size], Evt.succ (fun k => by rw [spec_l1Split.l0, if_neg (by omega), if_pos (by omega), if_pos (by omega), if_pos (by omega), Int.toNat_natCast]) (Evt.const _), ?_⟩
    rw [List.map_append, List.map_singleton, show dl (s.extract a s.size) = ((dl s).drop a).take (s.size - a) from ext_data s a s.size, List.drop_eq_nil_of_le (show (dl s).length ≤ s.size by omega), splF_nil]
  | succ d ih =>
    intro i a out ha hi hd ho
    have li : i < (dl s).length := by omega
    have hdr : (dl s).drop i = (dl s)[i] :: (dl s).drop (i + 1) := by simp
    have hb : bt s (i : Int) = ((dl s)[i].toNat : Int) := bt_get s i (by omega)
    by_cases h : (dl s)[i] = c
    · obtain ⟨r, h1, h2⟩ := ih (i + 1) (i + 1) (out ++ [s.extract a i]) (by omega) (by omega) (by omega) (by rw [List.length_append]; simp; omega)
      refine ⟨r, Evt.succ (fun k => by rw [spec_l1Split.l0, if_pos (by omega), if_pos (by omega), if_pos (by rw [hb, h]), if_pos (by omega), if_pos (by omega), if_pos (by omega), if_pos (by omega), wrap_succ i (by omega), Int.toNat_natCast, Int.toNat_natCast]) h1, ?_⟩
      rw [h2, hdr, h, splF_hit, List.map_append, List.map_singleton, List.append_assoc, show dl (s.extract a i) = ((dl s).drop a).take (i - a) from ext_data s a i, Nat.sub_self, List.take_zero]
      rfl
    · obtain ⟨r, h1, h2⟩ := ih (i + 1) a out (by omega) (by omega) (by omega) (by omega)
      refine ⟨r, Evt.succ (fun k => by rw [spec_l1Split.l0, if_pos (by omega), if_pos (by omega), if_neg (fun e => h (UInt8.toNat_inj.1 (by rw [hb] at e; exact Int.ofNat.inj e))), wrap_succ i (by omega)]) h1, ?_⟩
      rw [h2, hdr, splF_miss c _ h]
      congr 2
      have : i + 1 - a = (i - a) + 1 := by omega
      rw [this, List.take_succ_eq_append_getElem (by rw [List.length_drop]; omega)]
      congr 1
      rw [List.getElem_drop]
      simp only [show a + (i - a) = i by omega]
theorem libSplit_eq (s : ByteArray) (c : UInt8) : (Lib.splitB ⟨#[c]⟩ 0 (Lib.countB s ⟨#[c]⟩) s).map dl = spl c (dl s) := by
  have h := Lib.splitB_data ⟨#[c]⟩ 0 (Lib.countB s ⟨#[c]⟩) s
  have e : Lib.countB s ⟨#[c]⟩ = (dl s).count c := by
    show Lib.count s.data.toList [c] = _
    rw [Lib.count_one]
    rfl
  rw [e] at h ⊢
  exact h.trans (splitK_spl c _ (dl s) (Nat.le_refl _))
theorem split_evt (s : ByteArray) (hs : s.size ≤ 1048576) (c : UInt8) : ∃ r, Evt (fun k => spec_l1Split.f k s (c.toNat : Int)) r ∧ strings_Split.f s ⟨#[c]⟩ = some r ∧ r.map dl = spl c (dl s) := by
  obtain ⟨r, h1, h2⟩ := specSplit_l0 s hs c s.size 0 0 [] (by omega) (by omega) (by omega) (by simp)
  have h2' : r.map dl = spl c (dl s) := by
    rw [h2, List.drop_zero, Nat.sub_self, List.take_zero, splF_zero]
    rfl
  refine ⟨r, h1, ?_, h2'⟩
  unfold strings_Split.f
  rw [if_pos (by omega), if_pos (by rfl)]
  congr 1
  exact map_dl_inj _ _ ((libSplit_eq s c).trans h2'.symm)

/-! ### signal -/
/-- Signals: the program's look and the reference's look are the same. -/
theorem rdL2_nat (l : List (List ByteArray)) (i : Nat) (h : i < l.length) : rd_L2 l (i : Int) = l[i] := by
  unfold rd_L2
  rw [Int.toNat_natCast, List.getD_eq_getElem?_getD, List.getElem?_eq_getElem h]
  rfl
theorem spl_len (c : UInt8) : ∀ l : List UInt8, ((spl c l).map List.length).sum + (spl c l).length = l.length + 1
  | [] => rfl
  | b :: l => by
    have ih := spl_len c l
    obtain ⟨h, t, e⟩ := spl_ne c l
    unfold spl
    by_cases hb : b = c
    · rw [if_pos hb, List.map_cons, List.sum_cons, List.length_cons, List.length_nil, List.length_cons]
      omega
    · rw [if_neg hb, e]
      rw [e] at ih
      simp only [List.map_cons, List.sum_cons, List.length_cons] at ih ⊢
      omega
theorem mem_sum (l : List (List UInt8)) (p : List UInt8) (h : p ∈ l) : p.length ≤ (l.map List.length).sum := by
  induction l with
  | nil => cases h
  | cons x l ih =>
    rw [List.map_cons, List.sum_cons]
    rcases List.mem_cons.1 h with rfl | h
    · omega
    · have := ih h
      omega
theorem map_len (r : List ByteArray) : (r.map dl).map List.length = r.map ByteArray.size := by
  rw [List.map_map]
  exact List.map_congr_left (fun m _ => size_data m)
/-- What both sides take a text apart into. -/
theorem words_l0 (q : List ByteArray) (hq : ∀ m ∈ q, m.size ≤ 1048576) (hl : q.length ≤ 1048577) (d : Nat) : ∀ (i : Nat) (out : List (List ByteArray)), i ≤ q.length → q.length - i = d → out.length ≤ i → ∃ r, Evt (fun k => spec_l2Words.l0 k out q i) r ∧ Evt (fun k => impl_lettersOf.l0 k out q (q.length : Int) i) r ∧ r.map (List.map dl) = out.map (List.map dl) ++ (q.drop i).map (fun m => spl 32 (dl m)) := by
  induction d with
  | zero =>
    intro i out hi hd ho
    refine ⟨out, Evt.succ (fun k => by rw [spec_l2Words.l0, if_neg (by omega)]) (Evt.const _), Evt.succ (fun k => by rw [impl_lettersOf.l0, if_neg (by omega)]) (Evt.const _), ?_⟩
    rw [List.drop_eq_nil_of_le (by omega)]
    simp
  | succ d ih =>
    intro i out hi hd ho
    have li : i < q.length := by omega
    obtain ⟨w, w1, w2, w3⟩ := split_evt q[i] (hq _ (List.getElem_mem li)) 32
    have hdr : q.drop i = q[i] :: q.drop (i + 1) := by simp
    obtain ⟨r, r1, r2, r3⟩ := ih (i + 1) (out ++ [w]) (by omega) (by omega) (by rw [List.length_append]; simp; omega)
    refine ⟨r, Evt.succ (h := fun k => (spec_l1Split.f k q[i] 32).bind fun x => if out.length < 5864062014805 then spec_l2Words.l0 k (out ++ [x]) q ((i + 1 : Nat) : Int) else none) (fun k => by rw [spec_l2Words.l0, if_pos (by omega), if_pos (by omega), rdOf_get _ _ _ li, wrap_succ i (by omega)]) (Evt.bind w1 (Evt.ite_pos (by omega) r1)), Evt.succ (fun k => by rw [impl_lettersOf.l0, if_pos (by omega), if_pos (by omega), if_pos (by omega), rdOf_get _ _ _ li, w2, Option.bind_some, if_pos (by omega), wrap_succ i (by omega)]) r2, ?_⟩
    rw [r3, hdr, List.map_append, List.map_singleton, List.append_assoc, w3, List.map_cons]
    rfl
theorem words_evt (s : ByteArray) (hs : s.size ≤ 1048576) (hne : s.toList ≠ []) : ∃ r, Evt (fun k => spec_l2Words.f k s) r ∧ Evt (fun k => impl_lettersOf.f k s) r ∧ r.map (List.map dl) = (spl 47 (dl s)).map (spl 32) := by
  obtain ⟨q, q1, q2, q3⟩ := split_evt s hs 47
  have hsz : (dl s).length = s.size := size_data s
  have hsum := spl_len 47 (dl s)
  have hlen : q.length = (spl 47 (dl s)).length := by rw [← q3, List.length_map]
  have h1 : 1 ≤ (spl 47 (dl s)).length := by
    obtain ⟨h, t, e⟩ := spl_ne 47 (dl s)
    rw [e]
    simp
  have hqs : ∀ m ∈ q, m.size ≤ 1048576 := by
    intro m hm
    have h1 := mem_sum (spl 47 (dl s)) (dl m) (by rw [← q3]; exact List.mem_map_of_mem hm)
    have h2 : (dl m).length = m.size := size_data m
    omega
  obtain ⟨r, r1, r2, r3⟩ := words_l0 q hqs (by omega) q.length 0 [] (by omega) (by omega) (by simp)
  refine ⟨r, Evt.bind q1 r1, Evt.bind (Evt.const []) (Evt.ite_neg hne (Evt.bind ((Evt.const q).of_eq (fun k => q2)) r2)), ?_⟩
  rw [r3, List.map_nil, List.nil_append, List.drop_zero, ← q3, List.map_map]
  rfl
def okW (w : List ByteArray) : Bool := w.all (fun m => okMarks m 1 5)
def sumL (W : List (List ByteArray)) : Nat := (W.map List.length).sum
theorem sumL_drop (W : List (List ByteArray)) (i : Nat) (h : i < W.length) : sumL (W.drop i) = W[i].length + sumL (W.drop (i + 1)) := by
  have : W.drop i = W[i] :: W.drop (i + 1) := by simp
  unfold sumL
  rw [this, List.map_cons, List.sum_cons]
theorem okW_drop (w : List ByteArray) (j : Nat) (h : j < w.length) : okW (w.drop j) = (okMarks w[j] 1 5 && okW (w.drop (j + 1))) := by
  have : w.drop j = w[j] :: w.drop (j + 1) := by simp
  unfold okW
  rw [this, List.all_cons]
theorem implS_l1 (W : List (List ByteArray)) (n : Int) (i : Nat) (hi : i < 9000000) (x : Int) (w : List ByteArray) (hw : ∀ m ∈ w, m.size ≤ 1048576) (hl : w.length ≤ 9000000) (b : Bool) (next : Evt (fun k => impl_isSignal.l0 k x W n ((i + 1 : Nat) : Int)) b) (d : Nat) : ∀ j, j ≤ w.length → w.length - j = d → Evt (fun k => impl_isSignal.l1 k x W n i w (w.length : Int) j) (okW (w.drop j) && b) := by
  induction d with
  | zero =>
    intro j hj hd
    rw [List.drop_eq_nil_of_le (by omega), show okW [] = true from rfl, Bool.true_and]
    exact Evt.succ (fun k => by rw [impl_isSignal.l1, if_neg (by omega), wrap_succ i (by omega)]) next
  | succ d ih =>
    intro j hj hd
    have lj : j < w.length := by omega
    have hm := hw w[j] (List.getElem_mem lj)
    rw [okW_drop w j lj]
    refine Evt.succ (h := fun k => if okMarks w[j] 1 5 = true then impl_isSignal.l1 k x W n i w (w.length : Int) ((j + 1 : Nat) : Int) else some false) (fun k => ?_) ?_
    · rw [impl_isSignal.l1, if_pos (by omega), if_pos (by omega), if_pos (by omega), rdOf_get _ _ _ lj]
      unfold impl_isLetterMarks.f
      rw [implAreMarks_eq w[j] 1 5 (by omega), Option.bind_some, Option.bind_some, wrap_succ j (by omega)]
    · cases h : okMarks w[j] 1 5 with
      | false => exact Evt.ite_neg (by simp) (Evt.const _)
      | true =>
        rw [Bool.true_and]
        exact Evt.ite_pos rfl (ih (j + 1) (by omega) (by omega))
theorem implS_l0 (W : List (List ByteArray)) (hW : W.length ≤ 2000000) (hw : ∀ w ∈ W, w.length ≤ 9000000 ∧ ∀ m ∈ w, m.size ≤ 1048576) (d : Nat) : ∀ (i x : Nat), i ≤ W.length → W.length - i = d → x + sumL (W.drop i) ≤ 90000000 → Evt (fun k => impl_isSignal.l0 k x W (W.length : Int) i) ((W.drop i).all okW && decide (x + sumL (W.drop i) ≤ 12)) := by
  induction d with
  | zero =>
    intro i x hi hd hb
    rw [List.drop_eq_nil_of_le (by omega), List.all_nil, Bool.true_and]
    have e : decide ((x : Int) ≤ 12) = decide (x + sumL [] ≤ 12) := by
      rw [Bool.eq_iff_iff, decide_eq_true_eq, decide_eq_true_eq, show sumL [] = 0 from rfl]
      omega
    rw [← e]
    exact Evt.succ (fun k => by rw [impl_isSignal.l0, if_neg (by omega)]) (Evt.const _)
  | succ d ih =>
    intro i x hi hd hb
    have li : i < W.length := by omega
    have hs := sumL_drop W i li
    have hdr : W.drop i = W[i] :: W.drop (i + 1) := by simp
    have hwi := hw W[i] (List.getElem_mem li)
    have w1 : wrap64 ((x : Int) + (W[i].length : Int)) = ((x + W[i].length : Nat) : Int) := by unfold wrap64; omega
    have go := ih (i + 1) (x + W[i].length) (by omega) (by omega) (by omega)
    have l1 := implS_l1 W (W.length : Int) i (by omega) ((x + W[i].length : Nat) : Int) W[i] hwi.2 hwi.1 _ go W[i].length 0 (by omega) (by omega)
    rw [List.drop_zero] at l1
    rw [hs, hdr, List.all_cons, ← Nat.add_assoc, Bool.and_assoc]
    exact Evt.succ (fun k => by rw [impl_isSignal.l0, if_pos (by omega), if_pos (by omega), if_pos (by omega), rdL2_nat _ _ li, w1]; rfl) l1
theorem specS_l1 (W : List (List ByteArray)) (i : Nat) (hi : i < W.length) (hW : W.length ≤ 2000000) (x : Nat) (hx : x ≤ 90000000) (w : List ByteArray) (ew : W[i] = w) (hw : ∀ m ∈ w, m.size ≤ 1048576) (hl : w.length ≤ 9000000) (b : Bool) (next : Evt (fun k => spec_l2Signal.l0 k W ((x + w.length + 1 : Nat) : Int) ((i + 1 : Nat) : Int)) b) (d : Nat) : ∀ j, j ≤ w.length → w.length - j = d → Evt (fun k => spec_l2Signal.l1 k W x i j) (okW (w.drop j) && b) := by
  have er : rd_L2 W (i : Int) = w := (rdL2_nat W i hi).trans ew
  induction d with
  | zero =>
    intro j hj hd
    have w1 : wrap64 (wrap64 ((x : Int) + (w.length : Int)) + 1) = ((x + w.length + 1 : Nat) : Int) := by unfold wrap64; omega
    rw [List.drop_eq_nil_of_le (by omega), show okW [] = true from rfl, Bool.true_and]
    exact Evt.succ (fun k => by rw [spec_l2Signal.l1, if_pos (by omega), if_pos (by omega), er, if_neg (by omega), w1, wrap_succ i (by omega)]) next
  | succ d ih =>
    intro j hj hd
    have lj : j < w.length := by omega
    have hm := hw w[j] (List.getElem_mem lj)
    rw [okW_drop w j lj]
    have sm : Evt (fun k => spec_l2Marks.f k w[j] 1 5) (okMarks w[j] 1 5) := ⟨30, fun k hk => specMarks_eq w[j] 1 5 (by omega) (by omega) k (by omega)⟩
    refine Evt.succ (h := fun k => (spec_l2Marks.f k w[j] 1 5).bind fun t => if t = true then spec_l2Signal.l1 k W x i ((j + 1 : Nat) : Int) else some false) (fun k => ?_) (Evt.bind sm ?_)
    · rw [spec_l2Signal.l1, if_pos (by omega), if_pos (by omega), er, if_pos (by omega), if_pos (by omega), rdOf_get _ _ _ lj, wrap_succ j (by omega)]
    · cases h : okMarks w[j] 1 5 with
      | false => exact Evt.ite_neg (by simp) (Evt.const _)
      | true =>
        rw [Bool.true_and]
        exact Evt.ite_pos rfl (ih (j + 1) (by omega) (by omega))
theorem specS_l0 (W : List (List ByteArray)) (hW : W.length ≤ 2000000) (hw : ∀ w ∈ W, w.length ≤ 9000000 ∧ ∀ m ∈ w, m.size ≤ 1048576) (d : Nat) : ∀ (i x : Nat), i ≤ W.length → W.length - i = d → x + sumL (W.drop i) + (W.length - i) ≤ 80000000 → Evt (fun k => spec_l2Signal.l0 k W x i) ((W.drop i).all okW && decide (x + sumL (W.drop i) + (W.length - i) ≤ 13)) := by
  induction d with
  | zero =>
    intro i x hi hd hb
    have w1 : wrap64 ((x : Int) - 1) = (x : Int) - 1 := by unfold wrap64; omega
    rw [List.drop_eq_nil_of_le (by omega), List.all_nil, Bool.true_and]
    have e : decide ((x : Int) - 1 ≤ 12) = decide (x + sumL [] + (W.length - i) ≤ 13) := by
      rw [Bool.eq_iff_iff, decide_eq_true_eq, decide_eq_true_eq, show sumL [] = 0 from rfl]
      omega
    rw [← e]
    exact Evt.succ (fun k => by rw [spec_l2Signal.l0, if_neg (by omega), w1]) (Evt.const _)
  | succ d ih =>
    intro i x hi hd hb
    have li : i < W.length := by omega
    have hs := sumL_drop W i li
    have hdr : W.drop i = W[i] :: W.drop (i + 1) := by simp
    have hwi := hw W[i] (List.getElem_mem li)
    have go := ih (i + 1) (x + W[i].length + 1) (by omega) (by omega) (by omega)
    have l1 := specS_l1 W i li hW x (by omega) W[i] rfl hwi.2 hwi.1 _ go W[i].length 0 (by omega) (by omega)
    have e : x + W[i].length + 1 + sumL (W.drop (i + 1)) + (W.length - (i + 1)) = x + (W[i].length + sumL (W.drop (i + 1))) + (W.length - i) := by omega
    rw [e, List.drop_zero] at l1
    rw [hs, hdr, List.all_cons, Bool.and_assoc]
    exact Evt.succ (fun k => by rw [spec_l2Signal.l0, if_pos (by omega)]; rfl) l1
theorem okW_size : ∀ w : List ByteArray, okW w = true → (w.map ByteArray.size).sum ≤ 5 * w.length
  | [], _ => by simp
  | m :: w, h => by
    unfold okW at h
    rw [List.all_cons, Bool.and_eq_true] at h
    have h1 : m.size ≤ 5 := by
      have := h.1
      simp only [okMarks, Bool.and_eq_true, decide_eq_true_eq] at this
      omega
    have h2 := okW_size w h.2
    rw [List.map_cons, List.sum_cons, List.length_cons]
    omega
theorem words_facts : ∀ (W : List (List ByteArray)) (P : List (List UInt8)), W.map (List.map dl) = P.map (spl 32) → W.length = P.length ∧ (W.all okW = true → (P.map List.length).sum + P.length ≤ 6 * sumL W) ∧ sumL W ≤ (P.map List.length).sum + P.length ∧ ∀ w ∈ W, w.length ≤ (P.map List.length).sum + P.length ∧ ∀ m ∈ w, m.size ≤ (P.map List.length).sum
  | [], [], _ => ⟨rfl, fun _ => by simp, by simp [sumL], fun w hw => by cases hw⟩
  | [], _ :: _, h => by simp at h
  | _ :: _, [], h => by simp at h
  | w :: W, p :: P, h => by
    rw [List.map_cons, List.map_cons] at h
    injection h with h1 h2
    obtain ⟨a, b, c, e⟩ := words_facts W P h2
    have hl := spl_len 32 p
    rw [← h1, map_len, List.length_map] at hl
    have hm : ∀ m ∈ w, m.size ≤ p.length := by
      intro m hm
      have q := mem_sum (spl 32 p) (dl m) (by rw [← h1]; exact List.mem_map_of_mem hm)
      have z : (dl m).length = m.size := size_data m
      rw [← h1, map_len, z] at q
      have g : 1 ≤ w.length := List.length_pos_of_mem hm
      omega
    have hs : sumL (w :: W) = w.length + sumL W := by unfold sumL; rw [List.map_cons, List.sum_cons]
    rw [hs, List.map_cons, List.sum_cons, List.length_cons, List.length_cons]
    refine ⟨by omega, fun hall => ?_, by omega, fun v hv => ?_⟩
    · rw [List.all_cons, Bool.and_eq_true] at hall
      have k1 := okW_size w hall.1
      have k2 := b hall.2
      omega
    · rcases List.mem_cons.1 hv with rfl | hv
      · exact ⟨by omega, fun m hm' => by have := hm m hm'; omega⟩
      · have k := e v hv
        exact ⟨by omega, fun m hm' => by have := k.2 m hm'; omega⟩
theorem signal_evt (s : ByteArray) (hs : s.size ≤ 1048576) : ∃ b : Bool, Evt (fun k => spec_l2Signal.f k s) b ∧ Evt (fun k => impl_isSignal.f k s) b := by
  by_cases he : s.toList = []
  · refine ⟨true, Evt.ite_pos he (Evt.const _), ?_⟩
    refine Evt.bind (a := []) (Evt.bind (Evt.const []) (Evt.ite_pos he (Evt.const _))) ?_
    exact Evt.succ (h := fun _ => some true) (fun k => by rw [impl_isSignal.l0, if_neg (by decide)]; show some (decide (wrap64 (0 - 1) ≤ 12)) = some true; rw [show wrap64 (0 - 1) = -1 by unfold wrap64; omega]; rfl) (Evt.const _)
  · obtain ⟨W, w1, w2, w3⟩ := words_evt s hs he
    obtain ⟨f1, f2, f3, f4⟩ := words_facts W _ w3
    have hsum := spl_len 47 (dl s)
    have hsz : (dl s).length = s.size := size_data s
    have h1 : 1 ≤ (spl 47 (dl s)).length := by
      obtain ⟨h, t, e⟩ := spl_ne 47 (dl s)
      rw [e]
      simp
    rw [hsum, hsz] at f2 f3
    have hw : ∀ w ∈ W, w.length ≤ 9000000 ∧ ∀ m ∈ w, m.size ≤ 1048576 := by
      intro w hw
      have := f4 w hw
      rw [hsum, hsz] at this
      exact ⟨by omega, fun m hm => by have := this.2 m hm; omega⟩
    have e1 := implS_l0 W (by omega) hw W.length 0 (W.length - 1) (by omega) (by omega) (by rw [List.drop_zero]; omega)
    have e2 := specS_l0 W (by omega) hw W.length 0 0 (by omega) (by omega) (by rw [List.drop_zero]; omega)
    rw [List.drop_zero] at e1 e2
    have e3 : decide (W.length - 1 + sumL W ≤ 12) = decide (0 + sumL W + (W.length - 0) ≤ 13) := by
      rw [Bool.eq_iff_iff, decide_eq_true_eq, decide_eq_true_eq]
      omega
    have w4 : wrap64 ((W.length : Int) - 1) = ((W.length - 1 : Nat) : Int) := by unfold wrap64; omega
    rw [e3] at e1
    have ei : Evt (fun k => impl_isSignal.f k s) (W.all okW && decide (0 + sumL W + (W.length - 0) ≤ 13)) := by
      refine Evt.bind w2 ?_
      rw [w4]
      exact e1
    by_cases h72 : (s.size : Int) > 72
    · refine ⟨false, Evt.ite_neg he (Evt.ite_pos h72 (Evt.const _)), ?_⟩
      have : (W.all okW && decide (0 + sumL W + (W.length - 0) ≤ 13)) = false := by
        rw [Bool.eq_false_iff]
        intro q
        rw [Bool.and_eq_true, decide_eq_true_eq] at q
        have := f2 q.1
        omega
      rw [this] at ei
      exact ei
    · exact ⟨_, Evt.ite_neg he (Evt.ite_neg h72 (Evt.bind w1 e2)), ei⟩

/-! ### trace -/
/-- Traces. -/
def okT (l : List Int) : Bool := decide (l.length % 2 = 1) && decide (l.length ≤ 143) && !l.any (fun x => !decide (1 ≤ x ∧ x ≤ 999))
theorem implTrace_eq (l : List Int) (hl : l.length ≤ 1048576) : impl_IsTrace.f l = some (okT l) := by
  unfold impl_IsTrace.f okT
  rw [if_pos (by omega)]
theorem okT_drop (l : List Int) (i : Nat) (hi : i < l.length) : (!(l.drop i).any (fun x => !decide (1 ≤ x ∧ x ≤ 999))) = (decide (1 ≤ l[i] ∧ l[i] ≤ 999) && !(l.drop (i + 1)).any (fun x => !decide (1 ≤ x ∧ x ≤ 999))) := by
  have : l.drop i = l[i] :: l.drop (i + 1) := by simp
  rw [this, List.any_cons, Bool.not_or, Bool.not_not]
theorem specTrace_l0 (l : List Int) (hl : l.length ≤ 1048576) (d : Nat) : ∀ i, i ≤ l.length → l.length - i = d → i ≤ 144 → Evt (fun k => spec_l5Trace.l0 k l i) (decide (l.length % 2 = 1) && decide (l.length ≤ 143) && !(l.drop i).any (fun x => !decide (1 ≤ x ∧ x ≤ 999))) := by
  have fin : ∀ i : Nat, (143 < i ∨ i = l.length) → i ≤ l.length → Evt (fun k => spec_l5Trace.j1 k l i false) (decide (l.length % 2 = 1) && decide (l.length ≤ 143) && !(l.drop i).any (fun x => !decide (1 ≤ x ∧ x ≤ 999))) := by
    intro i hi hi'
    refine Evt.succ (h := fun _ => if ((l.length : Int) % 2) = 1 then some (decide ((l.length : Int) ≤ 143)) else some false) (fun k => by rw [spec_l5Trace.j1, if_neg (by simp)]) ?_
    by_cases h2 : l.length % 2 = 1
    · rw [decide_eq_true h2, Bool.true_and]
      refine Evt.ite_pos (by omega) ?_
      have e : decide ((l.length : Int) ≤ 143) = (decide (l.length ≤ 143) && !(l.drop i).any (fun x => !decide (1 ≤ x ∧ x ≤ 999))) := by
        by_cases h : l.length ≤ 143
        · rw [List.drop_eq_nil_of_le (by omega), List.any_nil, Bool.not_false, Bool.and_true, Bool.eq_iff_iff, decide_eq_true_eq, decide_eq_true_eq]
          omega
        · rw [decide_eq_false (show ¬ (l.length : Int) ≤ 143 by omega), decide_eq_false h, Bool.false_and]
      rw [e]
      exact Evt.const _
    · rw [decide_eq_false h2, Bool.false_and, Bool.false_and]
      exact Evt.ite_neg (by omega) (Evt.const _)
  induction d with
  | zero =>
    intro i hi hd _
    exact Evt.succ (fun k => by rw [spec_l5Trace.l0, if_neg (by omega)]) (fin i (.inr (by omega)) hi)
  | succ d ih =>
    intro i hi hd h11
    by_cases h : i ≤ 143
    · have li : i < l.length := by omega
      rw [okT_drop l i li]
      refine Evt.succ (fun k => by rw [spec_l5Trace.l0, if_pos (by omega), decide_eq_true (show (i : Int) ≤ 143 by omega)]) ?_
      refine Evt.succ (h := fun k => if decide (1 ≤ l[i] ∧ l[i] ≤ 999) = true then spec_l5Trace.l0 k l ((i + 1 : Nat) : Int) else some false) (fun k => ?_) ?_
      · rw [spec_l5Trace.j1, if_pos rfl, if_pos (by omega), if_pos (by omega), l1In_eq, rd_get _ _ li, wrap_succ i (by omega)]
        rfl
      · cases hc : decide (1 ≤ l[i] ∧ l[i] ≤ 999) with
        | true =>
          rw [Bool.true_and]
          exact Evt.ite_pos rfl (ih (i + 1) (by omega) (by omega) (by omega))
        | false =>
          rw [Bool.false_and, Bool.and_false]
          exact Evt.ite_neg (by simp) (Evt.const _)
    · exact Evt.succ (fun k => by rw [spec_l5Trace.l0, if_pos (by omega), decide_eq_false (show ¬ (i : Int) ≤ 143 by omega)]) (fin i (.inl (by omega)) hi)
theorem specTrace_evt (l : List Int) (hl : l.length ≤ 1048576) : Evt (fun k => spec_l5Trace.f k l) (okT l) := specTrace_l0 l hl l.length 0 (by omega) (by omega) (by omega)
theorem of_okT (l : List Int) (h : okT l = true) : l.length ≤ 143 := by
  unfold okT at h
  simp only [Bool.and_eq_true, decide_eq_true_eq] at h
  exact h.1.2

/-! ### read -/
/-- What a trace is read as: both write the same text. -/
theorem app_size (s : ByteArray) (b : UInt8) : (s ++ (⟨#[b]⟩ : ByteArray)).size = s.size + 1 := by
  rw [ByteArray.size_append]
  rfl
theorem read_l0 (l : List Int) (hl : l.length ≤ 143) (u : Int) (hu : 1 ≤ u ∧ u ≤ 99) (d : Nat) : ∀ (i : Nat) (x : ByteArray), i ≤ l.length → l.length - i = d → x.size ≤ i → ∃ t : ByteArray, t.size ≤ 143 ∧ Evt (fun k => spec_l5Read.l0 k l u x i) t ∧ ∀ b, Evt (fun k => impl_isSignal.f k t) b → Evt (fun k => impl_readTrace.l0 k u x l (l.length : Int) i) (if b = true then (t, true) else (⟨#[]⟩, false)) := by
  have w2 : wrap64 (2 * u) = 2 * u := by unfold wrap64; omega
  have w5 : wrap64 (5 * u) = 5 * u := by unfold wrap64; omega
  induction d with
  | zero =>
    intro i x hi hd hx
    refine ⟨x, by omega, Evt.succ (fun k => by rw [spec_l5Read.l0, if_neg (by omega)]) (Evt.const _), fun b hb => Evt.succ (fun k => by rw [impl_readTrace.l0, if_neg (by omega)]) (Evt.bind hb ?_)⟩
    cases b with
    | true => exact Evt.ite_pos rfl (Evt.const _)
    | false => exact Evt.ite_neg (by simp) (Evt.const _)
  | succ d ih =>
    intro i x hi hd hx
    have li : i < l.length := by omega
    -- the sign at this place
    obtain ⟨g, m, hg, hsp, him⟩ : ∃ (g : ByteArray) (m : Int), g.size ≤ 1 ∧ (∀ t, Evt (fun k => spec_l5Read.l0 k l u (x ++ g) ((i + 1 : Nat) : Int)) t → Evt (fun k => spec_l5Read.l0 k l u x i) t) ∧ Evt (fun k => impl_readAs.f k i (rd l (i : Int)) u) (g, m) := by
      have hs : ∀ n : Int, spec_l5Times.f l i u = some n → ∀ k, spec_l5Read.l0 (k + 1) l u x i = if (Int.tmod (i : Int) 2) = 0 then spec_l5Read.j1 k l u x i n (n == 1) else spec_l5Read.j1 k l u x i n false := by
        intro n hn k
        rw [spec_l5Read.l0, if_pos (by omega), hn, Option.bind_some]
      by_cases c1 : rd l (i : Int) < 2 * u
      · have hn : spec_l5Times.f l i u = some 1 := by
          unfold spec_l5Times.f
          rw [if_pos (by omega), if_pos (by omega), w2, if_pos c1]
        by_cases c0 : (Int.tmod (i : Int) 2) = 0
        · refine ⟨⟨#[46]⟩, 1, Nat.le_refl _, fun t ht => Evt.succ (hs 1 hn) (Evt.ite_pos c0 (Evt.succ (fun k => by rw [spec_l5Read.j1, if_pos (by rfl), if_pos (by omega), wrap_succ i (by omega)]) ht)), ?_⟩
          refine Evt.ite_pos c0 ?_
          rw [w2, decide_eq_true c1]
          exact Evt.succ (fun k => by rw [impl_readAs.j0, if_pos rfl]) (Evt.const _)
        · refine ⟨⟨#[]⟩, 1, Nat.zero_le _, fun t ht => Evt.succ (hs 1 hn) (Evt.ite_neg c0 (Evt.succ (fun k => by rw [spec_l5Read.j1, if_neg (by simp), if_neg c0, if_neg (by omega), if_neg (by omega), wrap_succ i (by omega)]) (by rw [show x ++ (⟨#[]⟩ : ByteArray) = x from ByteArray.append_empty] at ht; exact ht))), ?_⟩
          refine Evt.ite_neg c0 ?_
          exact Evt.succ (fun k => by rw [impl_readAs.j0, if_neg (by simp), if_neg c0, w2, if_pos c1]) (Evt.const _)
      · by_cases c0 : (Int.tmod (i : Int) 2) = 0
        · have hn : spec_l5Times.f l i u = some 3 := by
            unfold spec_l5Times.f
            rw [if_pos (by omega), if_pos (by omega), w2, if_neg c1, if_pos c0]
          refine ⟨⟨#[45]⟩, 3, Nat.le_refl _, fun t ht => Evt.succ (hs 3 hn) (Evt.ite_pos c0 (Evt.succ (fun k => by rw [spec_l5Read.j1, if_neg (by decide), if_pos c0, if_pos (by omega), wrap_succ i (by omega)]) ht)), ?_⟩
          refine Evt.ite_pos c0 ?_
          rw [w2, decide_eq_false c1]
          exact Evt.succ (fun k => by rw [impl_readAs.j0, if_neg (by simp), if_pos c0]) (Evt.const _)
        · by_cases c5 : rd l (i : Int) < 5 * u
          · have hn : spec_l5Times.f l i u = some 3 := by
              unfold spec_l5Times.f
              rw [if_pos (by omega), if_pos (by omega), w2, if_neg c1, if_neg c0, w5, if_pos c5]
            refine ⟨⟨#[32]⟩, 3, Nat.le_refl _, fun t ht => Evt.succ (hs 3 hn) (Evt.ite_neg c0 (Evt.succ (fun k => by rw [spec_l5Read.j1, if_neg (by simp), if_neg c0, if_pos rfl, if_pos (by omega), wrap_succ i (by omega)]) ht)), ?_⟩
            refine Evt.ite_neg c0 ?_
            exact Evt.succ (fun k => by rw [impl_readAs.j0, if_neg (by simp), if_neg c0, w2, if_neg c1, w5, if_pos c5]) (Evt.const _)
          · have hn : spec_l5Times.f l i u = some 7 := by
              unfold spec_l5Times.f
              rw [if_pos (by omega), if_pos (by omega), w2, if_neg c1, if_neg c0, w5, if_neg c5]
            refine ⟨⟨#[47]⟩, 7, Nat.le_refl _, fun t ht => Evt.succ (hs 7 hn) (Evt.ite_neg c0 (Evt.succ (fun k => by rw [spec_l5Read.j1, if_neg (by simp), if_neg c0, if_neg (by omega), if_pos rfl, if_pos (by omega), wrap_succ i (by omega)]) ht)), ?_⟩
            refine Evt.ite_neg c0 ?_
            exact Evt.succ (fun k => by rw [impl_readAs.j0, if_neg (by simp), if_neg c0, w2, if_neg c1, w5, if_neg c5]) (Evt.const _)
    have hsz : (x ++ g).size = x.size + g.size := ByteArray.size_append
    obtain ⟨t, t1, t2, t3⟩ := ih (i + 1) (x ++ g) (by omega) (by omega) (by omega)
    refine ⟨t, t1, hsp t t2, fun b hb => ?_⟩
    refine Evt.succ (h := fun k => (impl_readAs.f k i (rd l (i : Int)) u).bind fun q => if x.size + q.1.size ≤ 9223372036854775807 then impl_readTrace.l0 k u (x ++ q.1) l (l.length : Int) ((i + 1 : Nat) : Int) else none) (fun k => by rw [impl_readTrace.l0, if_pos (by omega), if_pos (by omega), if_pos (by omega), wrap_succ i (by omega)]) (Evt.bind him ?_)
    refine Evt.ite_pos (show x.size + g.size ≤ 9223372036854775807 by omega) ?_
    exact t3 b hb

/-! ### marksIntS -/
/-- The law's own looks at a row of whole numbers. -/
theorem rd_nat (l : List Int) (i : Nat) (h : i < l.length) : rd l (i : Int) = l[i] := by
  unfold rd
  rw [Int.toNat_natCast, List.getD_eq_getElem?_getD, List.getElem?_eq_getElem h]
  rfl
theorem eqIntS_l0 (l : List Int) (hl : l.length ≤ 1099511627776) (d : Nat) : ∀ (i : Nat), i ≤ l.length → l.length - i = d → Evt (fun k => laws_eqIntS.l0 k l l i) true := by
  induction d with
  | zero =>
    intro i hi hd
    refine Evt.succ (h := fun _ => some true) (fun k => ?_) (Evt.const _)
    simp only [laws_eqIntS.l0]
    rw [if_neg (by omega)]
  | succ d ih =>
    intro i hi hd
    refine Evt.succ (fun k => ?_) (ih (i + 1) (by omega) (by omega))
    simp only [laws_eqIntS.l0]
    rw [if_pos (by omega), if_pos (by omega), if_pos (by omega), if_pos trivial, wrap_succ i (by omega)]
theorem eqIntS_evt (l : List Int) (hl : l.length ≤ 1099511627776) : Evt (fun k => laws_eqIntS.f k l l) true := by
  refine (eqIntS_l0 l hl l.length 0 (by omega) (by omega)).of_eq (fun k => ?_)
  unfold laws_eqIntS.f
  rw [if_pos rfl]
  rfl
def markInts (n : Nat) : List Int := (List.range n).map fun i => ((1 + i : Nat) : Int)
theorem markInts_len (n : Nat) : (markInts n).length = n := by unfold markInts; rw [List.length_map, List.length_range]
theorem markInts_get (n i : Nat) (h : i < (markInts n).length) : (markInts n)[i] = ((1 + i : Nat) : Int) := by
  simp only [markInts, List.getElem_map, List.getElem_range]
theorem markIntS_l0 (n : Nat) (hl : n ≤ 1099511627776) (d : Nat) : ∀ (i : Nat) (x : List Int), i ≤ n → n - i = d → x.length = n → x.take i = (markInts n).take i → Evt (fun k => laws_markIntS.l0 k x ((1 + i : Nat) : Int) i) (((1 + n : Nat) : Int), markInts n) := by
  induction d with
  | zero =>
    intro i x hi hd hx ht
    have e : x = markInts n := by
      have h1 : i = n := by omega
      have h2 := markInts_len n
      rw [h1, List.take_of_length_le (by omega), List.take_of_length_le (by omega)] at ht
      exact ht
    subst e
    refine Evt.succ (h := fun _ => some (((1 + n : Nat) : Int), markInts n)) (fun k => ?_) (Evt.const _)
    obtain rfl : i = n := by omega
    simp only [laws_markIntS.l0]
    rw [if_neg (by omega)]
  | succ d ih =>
    intro i x hi hd hx ht
    have h2 := markInts_len n
    refine Evt.succ (fun k => ?_) (ih (i + 1) (x.set i ((1 + i : Nat) : Int)) (by omega) (by omega) (by rw [List.length_set]; exact hx) ?_)
    · simp only [laws_markIntS.l0]
      rw [if_pos (by omega), if_pos (by omega), wrap_succ i (by omega), wrap_succ (1 + i) (by omega), Int.toNat_natCast]
      rfl
    · rw [List.take_succ_eq_append_getElem (by rw [List.length_set]; omega), List.take_succ_eq_append_getElem (by omega), List.take_set_of_le (by omega), ht, List.getElem_set_self, markInts_get]
theorem markIntS_evt (l : List Int) (hl : l.length ≤ 1099511627776) : Evt (fun k => laws_markIntS.f k l 1) (((1 + l.length : Nat) : Int), markInts l.length) :=
  markIntS_l0 l.length hl l.length 0 l (by omega) (by omega) rfl rfl

/-! ### toints -/
/-- The law's copy of a row of whole numbers. -/
theorem toIntS_l0 (l : List Int) (hl : l.length ≤ 1048576) (d : Nat) : ∀ (i : Nat) (x : List Int), i ≤ l.length → l.length - i = d → x.length = l.length → x.take i = l.take i → Evt (fun k => laws_toIntS.l0 k l x i) l := by
  induction d with
  | zero =>
    intro i x hi hd hx ht
    have e : x = l := by
      have h1 : i = l.length := by omega
      rw [h1, List.take_length, ← hx, List.take_length] at ht
      exact ht
    subst e
    refine Evt.succ (h := fun _ => some x) (fun k => ?_) (Evt.const _)
    rw [laws_toIntS.l0, if_neg (by omega)]
  | succ d ih =>
    intro i x hi hd hx ht
    have hlt : i < l.length := by omega
    refine Evt.succ (fun k => ?_) (ih (i + 1) (x.set i l[i]) (by omega) (by omega) (by rw [List.length_set]; exact hx) ?_)
    · rw [laws_toIntS.l0, if_pos (by omega), if_pos (by omega), if_pos (by omega), rd_nat _ _ hlt, wrap_succ i (by omega), Int.toNat_natCast]
    · rw [List.take_succ_eq_append_getElem (by rw [List.length_set]; omega), List.take_succ_eq_append_getElem hlt, List.take_set_of_le (by omega), ht, List.getElem_set_self]
theorem toIntS_evt (l : List Int) (hl : l.length ≤ 1048576) : Evt (fun k => laws_toIntS.f k l) l := by
  refine (toIntS_l0 l hl l.length 0 (List.replicate l.length 0) (by omega) (by omega) (by simp) rfl).of_eq (fun k => ?_)
  unfold laws_toIntS.f
  rw [if_pos (by omega), Int.toNat_natCast, if_pos (by omega)]
  rfl

/-! ### heldIntS -/

/-! ### marksText -/
/-- The marks that the law writes into a row of texts. -/
theorem markText_l0 (d : Nat) : ∀ (x : Nat) (s : ByteArray), x ≤ 1099511627777 → x < 10 ^ d → s.size + d ≤ 1000 → ∃ r, Evt (fun k => laws_markText.l0 k x s) r := by
  induction d with
  | zero =>
    intro x s h0 h1 hs
    have hx : ¬ (x : Int) > 0 := by
      have : x < 1 := h1
      omega
    refine ⟨_, Evt.succ (h := fun _ => some ((⟨#[109]⟩ : ByteArray) ++ s)) (fun k => ?_) (Evt.const _)⟩
    rw [laws_markText.l0, if_neg hx, if_pos (by omega)]
  | succ d ih =>
    intro x s h0 h1 hs
    by_cases hx : (x : Int) > 0
    · have e : wrap64 (Int.tdiv x 10) = ((x / 10 : Nat) : Int) := by
        rw [Int.tdiv_eq_ediv_of_nonneg (by omega)]
        unfold wrap64
        omega
      have hz : (strOfNums [(wrap64 (48 + (Int.tmod x 10))) % 256]).size = 1 := by
        rw [strOfNums_size]
        rfl
      obtain ⟨r, hr⟩ := ih (x / 10) (strOfNums [(wrap64 (48 + (Int.tmod x 10))) % 256] ++ s) (by omega) (by rw [Nat.pow_succ] at h1; omega) (by rw [ByteArray.size_append, hz]; omega)
      refine ⟨r, Evt.succ (fun k => ?_) hr⟩
      rw [laws_markText.l0, if_pos hx]
      show (if _ then _ else _) = _
      rw [if_pos (by rw [hz]; omega), e]
    · refine ⟨_, Evt.succ (h := fun _ => some ((⟨#[109]⟩ : ByteArray) ++ s)) (fun k => ?_) (Evt.const _)⟩
      rw [laws_markText.l0, if_neg hx, if_pos (by omega)]
theorem markText_evt (x : Nat) (h : x ≤ 1099511627777) : ∃ r, Evt (fun k => laws_markText.f k x) r := by
  by_cases hx : (x : Int) ≤ 0
  · exact ⟨_, Evt.ite_pos hx (Evt.const _)⟩
  · obtain ⟨r, hr⟩ := markText_l0 13 x (⟨#[]⟩ : ByteArray) h (by omega) (by decide)
    exact ⟨r, Evt.ite_neg hx hr⟩
theorem markStringS_l0 (n : Nat) (hn : n ≤ 1099511627776) (d : Nat) : ∀ (i : Nat) (x : List ByteArray), i ≤ n → n - i = d → x.length = n → ∃ y, Evt (fun k => laws_markStringS.l0 k x ((1 + i : Nat) : Int) i) (((1 + n : Nat) : Int), y) := by
  induction d with
  | zero =>
    intro i x hi hd hx
    obtain rfl : i = n := by omega
    refine ⟨x, Evt.succ (h := fun _ => some (((1 + i : Nat) : Int), x)) (fun k => ?_) (Evt.const _)⟩
    rw [laws_markStringS.l0, if_neg (by omega)]
  | succ d ih =>
    intro i x hi hd hx
    obtain ⟨t, ht⟩ := markText_evt (1 + i) (by omega)
    obtain ⟨y, hy⟩ := ih (i + 1) (x.set i t) (by omega) (by omega) (by rw [List.length_set]; exact hx)
    refine ⟨y, Evt.succ (fun k => ?_) (Evt.bind (h := fun k t => if 0 ≤ (i : Int) then laws_markStringS.l0 k (x.set i t) ((1 + (i + 1) : Nat) : Int) ((i + 1 : Nat) : Int) else none) ht (Evt.ite_pos (by omega) hy))⟩
    rw [laws_markStringS.l0, if_pos (by omega), wrap_succ i (by omega), wrap_succ (1 + i) (by omega), Int.toNat_natCast]
    rfl
theorem markStringS_evt (l : List ByteArray) (hl : l.length ≤ 1099511627776) : ∃ y, Evt (fun k => laws_markStringS.f k l 1) (((1 + l.length : Nat) : Int), y) :=
  markStringS_l0 l.length hl l.length 0 l (by omega) (by omega) rfl

/-! ### heldText -/
/-- The marks in a row of texts, and that they are held. -/
noncomputable def mt (x : Nat) : ByteArray := if h : x ≤ 1099511627777 then Classical.choose (markText_evt x h) else ByteArray.empty
theorem mt_evt (x : Nat) (h : x ≤ 1099511627777) : Evt (fun k => laws_markText.f k x) (mt x) := by
  unfold mt
  rw [dif_pos h]
  exact Classical.choose_spec (markText_evt x h)
noncomputable def mts (n : Nat) : List ByteArray := (List.range n).map fun i => mt (1 + i)
theorem mts_len (n : Nat) : (mts n).length = n := by unfold mts; rw [List.length_map, List.length_range]
theorem mts_get (n i : Nat) (h : i < (mts n).length) : (mts n)[i] = mt (1 + i) := by
  simp only [mts, List.getElem_map, List.getElem_range]
theorem markS_l0 (n : Nat) (hn : n ≤ 1099511627776) (d : Nat) : ∀ (i : Nat) (x : List ByteArray), i ≤ n → n - i = d → x.length = n → x.take i = (mts n).take i → Evt (fun k => laws_markStringS.l0 k x ((1 + i : Nat) : Int) i) (((1 + n : Nat) : Int), mts n) := by
  have h2 := mts_len n
  induction d with
  | zero =>
    intro i x hi hd hx ht
    obtain rfl : i = n := by omega
    have e : x = mts i := by
      rw [List.take_of_length_le (by omega), List.take_of_length_le (by omega)] at ht
      exact ht
    subst e
    exact Evt.succ (fun k => by rw [laws_markStringS.l0, if_neg (by omega)]) (Evt.const _)
  | succ d ih =>
    intro i x hi hd hx ht
    refine Evt.succ (fun k => ?_) (Evt.bind (h := fun k t => if 0 ≤ (i : Int) then laws_markStringS.l0 k (x.set i t) ((1 + (i + 1) : Nat) : Int) ((i + 1 : Nat) : Int) else none) (mt_evt (1 + i) (by omega)) (Evt.ite_pos (by omega) (ih (i + 1) (x.set i (mt (1 + i))) (by omega) (by omega) (by rw [List.length_set]; exact hx) ?_)))
    · rw [laws_markStringS.l0, if_pos (by omega), wrap_succ i (by omega), wrap_succ (1 + i) (by omega), Int.toNat_natCast]
      rfl
    · rw [List.take_succ_eq_append_getElem (by rw [List.length_set]; omega), List.take_succ_eq_append_getElem (by omega), List.take_set_of_le (by omega), ht, List.getElem_set_self, mts_get]
theorem markS_evt (l : List ByteArray) (hl : l.length ≤ 1099511627776) : Evt (fun k => laws_markStringS.f k l 1) (((1 + l.length : Nat) : Int), mts l.length) :=
  markS_l0 l.length hl l.length 0 l (by omega) (by omega) rfl rfl
theorem heldS_l0 (n : Nat) (hn : n ≤ 1099511627776) (d : Nat) : ∀ (i : Nat), i ≤ n → n - i = d → Evt (fun k => laws_heldStringS.l0 k (mts n) ((1 + i : Nat) : Int) i) ((1 + n : Nat) : Int) := by
  have h2 := mts_len n
  induction d with
  | zero =>
    intro i hi hd
    obtain rfl : i = n := by omega
    exact Evt.succ (fun k => by rw [laws_heldStringS.l0, if_neg (by omega)]) (Evt.const _)
  | succ d ih =>
    intro i hi hd
    refine Evt.succ (h := fun k => (laws_markText.f k ((1 + i : Nat) : Int)).bind fun t => if (mt (1 + i)).toList = t.toList then laws_heldStringS.l0 k (mts n) ((1 + (i + 1) : Nat) : Int) ((i + 1 : Nat) : Int) else some (-1)) (fun k => ?_) (Evt.bind (mt_evt (1 + i) (by omega)) (Evt.ite_pos rfl (ih (i + 1) (by omega) (by omega))))
    rw [laws_heldStringS.l0, if_pos (by omega), if_pos (by omega), rdOf_get _ _ _ (by omega), mts_get, wrap_succ i (by omega), wrap_succ (1 + i) (by omega)]
    rfl
theorem heldS_evt (n : Nat) (hn : n ≤ 1099511627776) : Evt (fun k => laws_heldStringS.f k (mts n) 1) ((1 + n : Nat) : Int) := heldS_l0 n hn n 0 (by omega) (by omega)

/-! ### tolist -/
theorem toList_inj (a b : ByteArray) : a.toList = b.toList ↔ a = b := by
  rw [Lib.toList_data, Lib.toList_data]
  constructor
  · intro h
    obtain ⟨⟨l⟩⟩ := a
    obtain ⟨⟨m⟩⟩ := b
    simp only at h
    rw [h]
  · rintro rfl
    rfl

/-! ### table -/
open Classical
/-- The first place of a text in a list, from place i on; -1 for none. -/
def plc : List ByteArray → ByteArray → Nat → Int
  | [], _, _ => -1
  | x :: l, s, i => if x = s then (i : Int) else plc l s (i + 1)
theorem plc_ge (l : List ByteArray) (s : ByteArray) : ∀ i, plc l s i = -1 ∨ (i : Int) ≤ plc l s i := by
  induction l with
  | nil => exact fun i => .inl rfl
  | cons x l ih =>
    intro i
    unfold plc
    by_cases h : x = s
    · rw [if_pos h]
      exact .inr (Int.le_refl _)
    · rw [if_neg h]
      rcases ih (i + 1) with h | h
      · exact .inl h
      · right
        omega
theorem plc_none (l : List ByteArray) (s : ByteArray) : ∀ i, plc l s i = -1 ↔ s ∉ l := by
  induction l with
  | nil => intro i; simp [plc]
  | cons x l ih =>
    intro i
    unfold plc
    by_cases h : x = s
    · subst h
      rw [if_pos rfl]
      simp
    · rw [if_neg h, ih, List.mem_cons]
      constructor
      · intro hn he
        rcases he with e | e
        · exact h e.symm
        · exact hn e
      · intro hn he
        exact hn (.inr he)
theorem plc_lt (l : List ByteArray) (s : ByteArray) : ∀ i, plc l s i < ((i + l.length : Nat) : Int) := by
  induction l with
  | nil => intro i; simp [plc]; omega
  | cons x l ih =>
    intro i
    unfold plc
    by_cases h : x = s
    · rw [if_pos h]
      simp
      omega
    · rw [if_neg h]
      have := ih (i + 1)
      simp at this ⊢
      omega
theorem specPlace_l0 (l : List ByteArray) (s : ByteArray) (hl : l.length < 9223372036854775807) (d : Nat) : ∀ i, i ≤ l.length → l.length - i = d → Evt (fun k => spec_l2Place.l0 k l s i) (plc (l.drop i) s i) := by
  induction d with
  | zero =>
    intro i hi hd
    refine Evt.succ (h := fun _ => some (-1)) (fun k => ?_) ?_
    · simp only [spec_l2Place.l0]
      rw [if_neg (by omega)]
    · rw [List.drop_eq_nil_of_le (by omega)]
      exact Evt.const _
  | succ d ih =>
    intro i hi hd
    have hlt : i < l.length := by omega
    rw [drop_get l i hlt]
    unfold plc
    by_cases h : l[i] = s
    · rw [if_pos h]
      refine Evt.succ (h := fun _ => some (i : Int)) (fun k => ?_) (Evt.const _)
      simp only [spec_l2Place.l0]
      rw [if_pos (by omega), if_pos (by omega), rdOf_get _ _ _ hlt, if_pos ((toList_inj _ _).2 h)]
    · rw [if_neg h]
      refine Evt.succ (fun k => ?_) (ih (i + 1) (by omega) (by omega))
      simp only [spec_l2Place.l0]
      rw [if_pos (by omega), if_pos (by omega), rdOf_get _ _ _ hlt, if_neg (fun e => h ((toList_inj _ _).1 e)), wrap_succ i (by omega)]
theorem specPlace_evt (l : List ByteArray) (s : ByteArray) (hl : l.length < 9223372036854775807) : Evt (fun k => spec_l2Place.f k l s) (plc l s 0) :=
  (specPlace_l0 l s hl l.length 0 (by omega) (by omega)).of_eq (fun k => rfl)
theorem implIndex_l0 (l : List ByteArray) (s : ByteArray) (hl : l.length < 9223372036854775807) (d : Nat) : ∀ i, i ≤ l.length → l.length - i = d → Evt (fun k => slices_Index_string_string.l0 k l s (l.length : Int) i) (plc (l.drop i) s i) := by
  induction d with
  | zero =>
    intro i hi hd
    refine Evt.succ (h := fun _ => some (-1)) (fun k => ?_) ?_
    · simp only [slices_Index_string_string.l0]
      rw [if_neg (by omega)]
    · rw [List.drop_eq_nil_of_le (by omega)]
      exact Evt.const _
  | succ d ih =>
    intro i hi hd
    have hlt : i < l.length := by omega
    rw [drop_get l i hlt]
    unfold plc
    by_cases h : l[i] = s
    · rw [if_pos h]
      refine Evt.succ (h := fun _ => some (i : Int)) (fun k => ?_) (Evt.const _)
      simp only [slices_Index_string_string.l0]
      rw [if_pos (by omega), if_pos (by omega), if_pos (by omega), rdOf_get _ _ _ hlt, if_pos ((toList_inj _ _).2 h.symm)]
    · rw [if_neg h]
      refine Evt.succ (fun k => ?_) (ih (i + 1) (by omega) (by omega))
      simp only [slices_Index_string_string.l0]
      rw [if_pos (by omega), if_pos (by omega), if_pos (by omega), rdOf_get _ _ _ hlt, if_neg (fun e => h ((toList_inj _ _).1 e).symm), wrap_succ i (by omega)]
theorem implIndex_evt (l : List ByteArray) (s : ByteArray) (hl : l.length < 9223372036854775807) : Evt (fun k => slices_Index_string_string.f k l s) (plc l s 0) :=
  (implIndex_l0 l s hl l.length 0 (by omega) (by omega)).of_eq (fun k => rfl)
theorem implContains_evt (l : List ByteArray) (s : ByteArray) (hl : l.length < 9223372036854775807) : Evt (fun k => slices_Contains_string_string.f k l s) (decide (s ∈ l)) := by
  have h : decide (plc l s 0 ≥ 0) = decide (s ∈ l) := by
    rw [decide_eq_decide]
    have h1 := plc_none l s 0
    have h2 := plc_ge l s 0
    constructor
    · intro h
      by_cases hm : s ∈ l
      · exact hm
      · rw [h1.2 hm] at h
        omega
    · intro hm
      rcases h2 with h | h
      · exact absurd hm (h1.1 h)
      · omega
  rw [← h]
  exact Evt.bind (implIndex_evt l s hl) (Evt.const _)
/-- Is a list of marks a table? -/
noncomputable def okTable (l : List ByteArray) : Bool := decide (1 ≤ l.length ∧ l.length ≤ 10 ∧ (∀ m ∈ l, okMarks m 1 5 = true) ∧ l.Nodup)
theorem plc_first (l m : List ByteArray) (s : ByteArray) : ∀ i, plc (l ++ s :: m) s i = ((i + l.length : Nat) : Int) ↔ s ∉ l := by
  induction l with
  | nil =>
    intro i
    simp [plc]
  | cons x l ih =>
    intro i
    rw [List.cons_append]
    unfold plc
    by_cases h : x = s
    · rw [if_pos h]
      simp [h]
      omega
    · rw [if_neg h, show i + (x :: l).length = (i + 1) + l.length by simp; omega, ih, List.mem_cons]
      constructor
      · intro hn he
        rcases he with e | e
        · exact h e.symm
        · exact hn e
      · intro hn he
        exact hn (.inr he)
/-- The rest of a table is good, what stands ahead of it known. -/
noncomputable def okRest (l : List ByteArray) (i : Nat) : Bool := decide (∀ j (h : j < l.length), i ≤ j → okMarks l[j] 1 5 = true ∧ l[j] ∉ l.take j)
theorem okRest_end (l : List ByteArray) (i : Nat) (h : l.length ≤ i) : okRest l i = true := by
  unfold okRest
  rw [decide_eq_true_eq]
  intro j hj hij
  omega
theorem okRest_step (l : List ByteArray) (i : Nat) (h : i < l.length) : okRest l i = (okMarks l[i] 1 5 && (!decide (l[i] ∈ l.take i)) && okRest l (i + 1)) := by
  unfold okRest
  rw [Bool.eq_iff_iff]
  simp only [Bool.and_eq_true, decide_eq_true_eq, Bool.not_eq_true', decide_eq_false_iff_not]
  constructor
  · intro H
    exact ⟨H i h (Nat.le_refl _), fun j hj hij => H j hj (by omega)⟩
  · intro H j hj hij
    by_cases e : j = i
    · subst e
      exact H.1
    · exact H.2 j hj (by omega)
theorem okTable_eq (l : List ByteArray) : okTable l = (decide (1 ≤ l.length ∧ l.length ≤ 10) && okRest l 0) := by
  unfold okTable okRest
  rw [Bool.eq_iff_iff]
  simp only [Bool.and_eq_true, decide_eq_true_eq]
  constructor
  · rintro ⟨h1, h2, h3, h4⟩
    refine ⟨⟨h1, h2⟩, fun j hj _ => ⟨h3 _ (List.getElem_mem hj), fun hm => ?_⟩⟩
    obtain ⟨q, hq, he⟩ := List.getElem_of_mem hm
    rw [List.length_take] at hq
    rw [List.getElem_take] at he
    exact absurd ((List.getElem_inj h4).1 he) (by omega)
  · rintro ⟨⟨h1, h2⟩, h3⟩
    refine ⟨h1, h2, fun m hm => ?_, ?_⟩
    · obtain ⟨j, hj, rfl⟩ := List.getElem_of_mem hm
      exact (h3 j hj (Nat.zero_le _)).1
    · rw [List.nodup_iff_pairwise_ne, List.pairwise_iff_getElem]
      intro i j hi hj hij he
      refine (h3 j hj (Nat.zero_le _)).2 ?_
      rw [← he]
      exact List.mem_of_getElem? (i := i) (by rw [List.getElem?_take, if_pos hij, List.getElem?_eq_getElem hi])

/-! ### lawtable -/
theorem eqStringS_l0 (l : List ByteArray) (hl : l.length ≤ 1048576) (d : Nat) : ∀ (i : Nat), i ≤ l.length → l.length - i = d → Evt (fun k => laws_eqStringS.l0 k l l i) true := by
  induction d with
  | zero =>
    intro i hi hd
    refine Evt.succ (h := fun _ => some true) (fun k => ?_) (Evt.const _)
    simp only [laws_eqStringS.l0]
    rw [if_neg (by omega)]
  | succ d ih =>
    intro i hi hd
    refine Evt.succ (fun k => ?_) (ih (i + 1) (by omega) (by omega))
    simp only [laws_eqStringS.l0]
    rw [if_pos (by omega), if_pos (by omega), if_pos (by omega), if_pos trivial, wrap_succ i (by omega)]
theorem eqStringS_evt (l : List ByteArray) (hl : l.length ≤ 1048576) : Evt (fun k => laws_eqStringS.f k l l) true := by
  refine (eqStringS_l0 l hl l.length 0 (by omega) (by omega)).of_eq (fun k => ?_)
  unfold laws_eqStringS.f
  rw [if_pos rfl]
  rfl
theorem of_table (l : List ByteArray) (h : okTable l = true) : 1 ≤ l.length ∧ l.length ≤ 10 ∧ (∀ m ∈ l, okMarks m 1 5 = true) ∧ l.Nodup := by
  unfold okTable at h
  rw [decide_eq_true_eq] at h
  exact h
theorem len_wrap (l : List ByteArray) (h : l.length ≤ 1048576) : wrap64 ((l.length : Int) - 1) = (l.length : Int) - 1 := by
  unfold wrap64
  omega
theorem isLetter_len (l : List ByteArray) (h : okTable l = true) : wrap64 ((l.length : Int) - 1) = (l.length : Int) - 1 := by
  have := of_table l h
  unfold wrap64
  omega

theorem signals_l0 (l : List Int) (hl : l.length ≤ 143) (d : Nat) : ∀ (u : Nat) (out : List ByteArray), 1 ≤ u → u ≤ 100 → 100 - u = d → out.length ≤ u → ∃ r : List ByteArray × Bool, Evt (fun k => spec_SignalsOf.l0 k l out u) r ∧ Evt (fun k => impl_SignalsOf.l0 k l out u) r ∧ r.1.length ≤ 1048576 := by
  induction d with
  | zero =>
    intro u out h1 h2 hd ho
    exact ⟨(out, true), Evt.succ (fun k => by rw [spec_SignalsOf.l0, if_neg (by omega)]) (Evt.const _), Evt.succ (fun k => by rw [impl_SignalsOf.l0, if_neg (by omega)]) (Evt.const _), by show out.length ≤ _; omega⟩
  | succ d ih =>
    intro u out h1 h2 hd ho
    obtain ⟨T, hT, t1, t2⟩ := read_l0 l hl (u : Int) (by omega) l.length 0 ⟨#[]⟩ (by omega) (by omega) (Nat.zero_le _)
    obtain ⟨b, b1, b2⟩ := signal_evt T (by omega)
    have t3 := t2 b b2
    have pl := specPlace_evt out T (by omega)
    have pn := plc_none out T 0
    have pg := plc_ge out T 0
    have ct := implContains_evt out T (by omega)
    have us : ∀ k, spec_SignalsOf.l0 (k + 1) l out u = (spec_l5Read.f k l u).bind fun t => (spec_l2Signal.f k t).bind fun b => if b = true then ((spec_l2Place.f k out t).bind fun p => if p < 0 then (if out.length < 8796093022208 then spec_SignalsOf.l0 k l (out ++ [t]) ((u + 1 : Nat) : Int) else none) else spec_SignalsOf.l0 k l out ((u + 1 : Nat) : Int)) else spec_SignalsOf.l0 k l out ((u + 1 : Nat) : Int) := by
      intro k
      rw [spec_SignalsOf.l0, if_pos (by omega), wrap_succ u (by omega)]
    have ui : ∀ k, impl_SignalsOf.l0 (k + 1) l out u = (impl_readTrace.f k l u).bind fun t => if t.2 = true then ((slices_Contains_string_string.f k out t.1).bind fun c => if c = true then impl_SignalsOf.l0 k l out ((u + 1 : Nat) : Int) else (if out.length < 8796093022208 then impl_SignalsOf.l0 k l (out ++ [t.1]) ((u + 1 : Nat) : Int) else none)) else impl_SignalsOf.l0 k l out ((u + 1 : Nat) : Int) := by
      intro k
      rw [impl_SignalsOf.l0, if_pos (by omega), wrap_succ u (by omega)]
    obtain ⟨p, p1, p2, p3⟩ := ih (u + 1) (out ++ [T]) (by omega) (by omega) (by omega) (by rw [List.length_append]; simp; omega)
    obtain ⟨q, q1, q2, q3⟩ := ih (u + 1) out (by omega) (by omega) (by omega) (by omega)
    cases b with
    | false => exact ⟨q, Evt.succ us (Evt.bind t1 (Evt.bind b1 (Evt.ite_neg (by simp) q1))), Evt.succ ui (Evt.bind t3 (Evt.ite_neg (by simp) q2)), q3⟩
    | true =>
      by_cases hm : T ∈ out
      · have hp : ¬ plc out T 0 < 0 := by
          intro h
          rcases pg with g | g
          · exact pn.1 g hm
          · omega
        rw [decide_eq_true hm] at ct
        exact ⟨q, Evt.succ us (Evt.bind t1 (Evt.bind b1 (Evt.ite_pos rfl (Evt.bind pl (Evt.ite_neg hp q1))))), Evt.succ ui (Evt.bind t3 (Evt.ite_pos rfl (Evt.bind ct (Evt.ite_pos rfl q2)))), q3⟩
      · have hp : plc out T 0 < 0 := by
          rw [pn.2 hm]
          omega
        rw [decide_eq_false hm] at ct
        refine ⟨p, Evt.succ us (Evt.bind t1 (Evt.bind b1 (Evt.ite_pos rfl (Evt.bind pl (Evt.ite_pos hp ?_))))), Evt.succ ui (Evt.bind t3 (Evt.ite_pos rfl (Evt.bind ct (Evt.ite_neg (by simp) ?_)))), p3⟩
        · exact Evt.ite_pos (show out.length < 8796093022208 by omega) p1
        · exact Evt.ite_pos (show out.length < 8796093022208 by omega) p2
theorem same_evt (l : List Int) (hl : l.length ≤ 1048576) : ∃ r, Evt (fun k => spec_SignalsOf.f k l) r ∧ Evt (fun k => impl_SignalsOf.f k l) r ∧ r.1.length ≤ 1048576 := by
  have s1 := specTrace_evt l hl
  have i1 : Evt (fun k => impl_IsTrace.f l) (okT l) := (Evt.const _).of_eq (fun k => implTrace_eq l hl)
  cases h : okT l with
  | false =>
    rw [h] at s1 i1
    exact ⟨([], false), Evt.bind (Evt.const []) (Evt.bind s1 (Evt.ite_neg (by simp) (Evt.const _))), Evt.bind i1 (Evt.ite_neg (by simp) (Evt.const _)), by simp⟩
  | true =>
    rw [h] at s1 i1
    obtain ⟨r, r1, r2, r3⟩ := signals_l0 l (of_okT l h) 99 1 [] (by omega) (by omega) (by omega) (by simp)
    exact ⟨r, Evt.bind (Evt.const []) (Evt.bind s1 (Evt.ite_pos rfl r1)), Evt.bind i1 (Evt.ite_pos rfl r2), r3⟩
theorem FnExactSignalsOf : laws_FnExactSignalsOf.Pure := by
  intro l _ _
  refine Evt.get (r := true) ?_
  by_cases b1 : (l.length : Int) > 1048576
  · exact Evt.ite_pos b1 (Evt.const _)
  refine Evt.ite_neg b1 ?_
  have hl : l.length ≤ 1048576 := by omega
  obtain ⟨r, h1, h2, hr⟩ := same_evt l hl
  have hml := markIntS_evt l (by omega)
  refine Evt.bind (toIntS_evt l hl) (Evt.bind h1 (Evt.bind (toIntS_evt l hl) (Evt.bind h2 (Evt.bind (eqStringS_evt r.1 hr) (Evt.ite_pos rfl ?_)))))
  rw [show (r.2 != r.2) = false by simp]
  refine Evt.succ (h := fun k => _) (fun k => by simp only [laws_FnExactSignalsOf.j0]; rfl) ?_
  refine Evt.ite_neg (by simp) ?_
  refine Evt.bind (toIntS_evt l hl) (Evt.bind (eqIntS_evt l (by omega)) (Evt.ite_pos rfl (Evt.bind hml (Evt.ite_neg (by first | omega | (dsimp only; omega)) (Evt.bind (eqStringS_evt r.1 hr) (Evt.ite_pos rfl ?_))))))
  rw [show (r.2 != r.2) = false by simp]
  refine Evt.succ (h := fun k => _) (fun k => by simp only [laws_FnExactSignalsOf.j1]; rfl) ?_
  refine Evt.ite_neg (by simp) ?_
  refine Evt.bind (markS_evt r.1 (by omega)) (Evt.bind (heldS_evt r.1.length (by omega)) (Evt.ite_neg (by first | omega | (dsimp only; omega)) (Evt.ite_pos rfl ?_)))
  refine Evt.bind (toIntS_evt l hl) (Evt.bind h2 (Evt.bind (eqStringS_evt r.1 hr) (Evt.ite_pos rfl ?_)))
  rw [show (r.2 != r.2) = false by simp]
  refine Evt.succ (h := fun k => _) (fun k => by simp only [laws_FnExactSignalsOf.j2]; rfl) ?_
  refine Evt.ite_neg (by simp) ?_
  exact Evt.bind (heldS_evt r.1.length (by omega)) (Evt.ite_neg (by first | omega | (dsimp only; omega)) (Evt.ite_pos rfl (Evt.const _)))
end Go.Proofs.YtlmjdemefcncgaaDoor.Pure
