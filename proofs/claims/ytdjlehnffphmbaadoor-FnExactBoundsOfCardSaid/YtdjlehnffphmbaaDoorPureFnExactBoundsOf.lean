/- The program's BoundsOf returns what the reference's BoundsOf returns, for all arguments. No condition. -/
import Derived.Test.YtdjlehnffphmbaaDoorPFnExactBoundsOfx9
namespace Go.Proofs.YtdjlehnffphmbaaDoor.Pure
open Go.RowKit Go.Proofs.YtdjlehnffphmbaaDoor.PFnExactBoundsOf Go.Proofs.YtdjlehnffphmbaaDoorW.PrintWords Go.Proofs.YtdjlehnffphmbaaDoorW.PrintLast Go.Proofs.YtdjlehnffphmbaaDoorW.PrintMore
set_option linter.unusedVariables false
set_option linter.unusedSimpArgs false

/-! ### ev -/
/-- With enough rounds, and ever after, g answers r. -/
def Evt {α : Type} (g : Nat → Option α) (r : α) : Prop := ∃ K, ∀ k, K ≤ k → g k = some r
theorem Evt.const {α : Type} (r : α) : Evt (fun _ => some r) r := ⟨0, fun _ _ => rfl⟩
theorem Evt.of_eq {α : Type} {g h : Nat → Option α} {r : α} (e : ∀ k, g k = h k) (H : Evt h r) : Evt g r := by
  obtain ⟨K, hK⟩ := H
  exact ⟨K, fun k hk => (e k).trans (hK k hk)⟩
theorem Evt.bind {α β : Type} {g : Nat → Option β} {h : Nat → β → Option α} {a : β} {r : α} (H1 : Evt g a) (H2 : Evt (fun k => h k a) r) : Evt (fun k => (g k).bind (h k)) r := by
  obtain ⟨K1, h1⟩ := H1
  obtain ⟨K2, h2⟩ := H2
  refine ⟨max K1 K2, fun k hk => ?_⟩
  show (g k).bind (h k) = some r
  rw [h1 k (by omega)]
  exact h2 k (by omega)
theorem Evt.succ {α : Type} {g h : Nat → Option α} {r : α} (e : ∀ k, g (k + 1) = h k) (H : Evt h r) : Evt g r := by
  obtain ⟨K, hK⟩ := H
  refine ⟨K + 1, fun k hk => ?_⟩
  obtain ⟨k, rfl⟩ : ∃ m, k = m + 1 := ⟨k - 1, by omega⟩
  rw [e]
  exact hK k (by omega)
theorem Evt.get {α : Type} {g : Nat → Option α} {r : α} (H : Evt g r) : ∃ k, g k = some r := by
  obtain ⟨K, hK⟩ := H
  exact ⟨K, hK K (Nat.le_refl _)⟩
theorem Evt.get2 {α β : Type} {g : Nat → Option α} {h : Nat → Option β} {r : α} {s : β} (H : Evt g r) (H' : Evt h s) : ∃ k, g k = some r ∧ h k = some s := by
  obtain ⟨K, hK⟩ := H
  obtain ⟨K', hK'⟩ := H'
  exact ⟨max K K', hK _ (by omega), hK' _ (by omega)⟩
theorem Evt.ite_pos {α : Type} {c : Prop} [Decidable c] {g h : Nat → Option α} {r : α} (hc : c) (H : Evt g r) : Evt (fun k => if c then g k else h k) r :=
  H.of_eq (fun k => by rw [if_pos hc])
theorem Evt.ite_neg {α : Type} {c : Prop} [Decidable c] {g h : Nat → Option α} {r : α} (hc : ¬ c) (H : Evt h r) : Evt (fun k => if c then g k else h k) r :=
  H.of_eq (fun k => by rw [if_neg hc])
theorem Evt.pred {α : Type} {g h : Nat → Option α} {r : α} (e : ∀ k, g (k + 1) = h k) (H : Evt g r) : Evt h r := by
  obtain ⟨K, hK⟩ := H
  exact ⟨K, fun k hk => (e k).symm.trans (hK (k + 1) (by omega))⟩

/-! ### lists -/
theorem rdOf_get {α : Type} (d : α) (l : List α) (i : Nat) (h : i < l.length) : rdOf d l (i : Int) = l[i] := by
  unfold rdOf
  rw [Int.toNat_natCast, List.getD_eq_getElem?_getD, List.getElem?_eq_getElem h]
  rfl
theorem rd_get (l : List Int) (i : Nat) (h : i < l.length) : rd l (i : Int) = l[i] := by
  unfold rd
  rw [Int.toNat_natCast, List.getD_eq_getElem?_getD, List.getElem?_eq_getElem h]
  rfl
theorem drop_get {α : Type} (l : List α) (i : Nat) (h : i < l.length) : l.drop i = l[i] :: l.drop (i + 1) := by simp
theorem wrap_succ (i : Nat) (h : i < 9223372036854775807) : wrap64 ((i : Int) + 1) = ((i + 1 : Nat) : Int) := by unfold wrap64; omega

/-! ### in -/
theorem in_eq (a b c : Int) : impl_in.f a b c = some (decide (b ≤ a ∧ a ≤ c)) := by
  unfold impl_in.f
  by_cases h : a ≥ b
  · rw [if_pos h]
    simp [show b ≤ a from h]
  · rw [if_neg h]
    simp [show ¬ b ≤ a from h]
theorem l1In_eq (a b c : Int) : spec_l1In.f a b c = some (decide (b ≤ a ∧ a ≤ c)) := by
  unfold spec_l1In.f
  by_cases h : a ≥ b
  · rw [if_pos h]
    simp [show b ≤ a from h]
  · rw [if_neg h]
    simp [show ¬ b ≤ a from h]

/-! ### marks -/
/-- A byte that is a mark. -/
def okc (c : UInt8) : Bool := c == 46 || c == 45
def okMarks (s : ByteArray) (lo hi : Int) : Bool := decide (lo ≤ s.size ∧ (s.size : Int) ≤ hi) && s.data.toList.all okc
theorem size_data (s : ByteArray) : s.data.toList.length = s.size := by rw [Array.length_toList]; rfl
theorem bt_get (s : ByteArray) (i : Nat) (h : i < s.size) : bt s (i : Int) = ((s.data.toList[i]'(by rw [size_data]; exact h)).toNat : Int) := by
  unfold bt
  rw [dif_pos (by simpa using h)]
  simp only [Int.toNat_natCast, Array.getElem_toList]
  rfl
theorem trim_empty (l : List UInt8) : ((Lib.trimS l [46, 45]) = []) ↔ l.all okc = true := by
  have e : ∀ c : UInt8, ([46, 45] : List UInt8).contains c = okc c := fun c => by
    simp [okc, List.contains_cons]
    rfl
  have dw : ∀ l : List UInt8, (l.dropWhile (([46, 45] : List UInt8).contains ·) = []) ↔ l.all okc = true := by
    intro l
    induction l with
    | nil => simp
    | cons c t ih =>
      rw [List.dropWhile_cons, e]
      cases h : okc c with
      | true =>
        simp only [if_true, List.all_cons, h, Bool.true_and]
        exact ih
      | false => simp [h]
  unfold Lib.trimS Lib.trimLeftS Lib.trimRightS
  rw [dw]
  have dwa : ∀ l : List UInt8, (l.dropWhile (([46, 45] : List UInt8).contains ·)).all okc = l.all okc := by
    intro l
    induction l with
    | nil => rfl
    | cons c t ih =>
      rw [List.dropWhile_cons, e]
      cases h : okc c with
      | true =>
        simp only [if_true, List.all_cons, h, Bool.true_and]
        exact ih
      | false => simp
  rw [List.all_reverse, dwa, List.all_reverse]
theorem implAreMarks_eq (s : ByteArray) (lo hi : Int) (hh : hi ≤ 9223372036854775807) : impl_areMarks.f s lo hi = some (okMarks s lo hi) := by
  unfold impl_areMarks.f okMarks
  rw [in_eq]
  simp only [Option.bind_some, decide_eq_true_eq]
  by_cases h : lo ≤ (s.size : Int) ∧ (s.size : Int) ≤ hi
  · rw [if_pos h]
    unfold strings_Trim.f
    rw [if_pos (by omega), if_pos rfl]
    simp only [Option.bind_some, h, and_self, decide_true, Bool.true_and]
    congr 1
    rw [Lib.toList_data]
    have := trim_empty s.data.toList
    cases hb : s.data.toList.all okc with
    | true => simp [this.2 hb]
    | false =>
      have : ¬ Lib.trimS s.data.toList [46, 45] = [] := fun h => by rw [this.1 h] at hb; cases hb
      simpa using this
  · rw [if_neg h]
    simp [h]
theorem drop_cons_ (l : List UInt8) (i : Nat) (h : i < l.length) : l.drop i = l[i] :: l.drop (i + 1) := by simp
/-- The reference's loop from place i on: the marks up to 'hi', then the length. -/
theorem specMarks_l0 (s : ByteArray) (lo hi : Int) (h0 : 0 ≤ hi) (hh : hi ≤ 1000000) (d : Nat) : ∀ (k i : Nat), i ≤ s.size → (i : Int) ≤ hi + 1 → (hi + 1 - i).toNat = d → 2 * d + 3 ≤ k →
    spec_l2Marks.l0 k s lo hi i = some (((s.data.toList.drop i).take d).all okc && decide (lo ≤ s.size ∧ (s.size : Int) ≤ hi)) := by
  induction d with
  | zero =>
    intro k i hi1 hi2 hd hk
    obtain ⟨k, rfl⟩ : ∃ m, k = m + 2 := ⟨k - 2, by omega⟩
    have e : (i : Int) = hi + 1 := by omega
    simp only [spec_l2Marks.l0]
    have hj : spec_l2Marks.j1 (k + 1) s lo hi i false = some (decide (lo ≤ s.size ∧ (s.size : Int) ≤ hi)) := by
      simp only [spec_l2Marks.j1]
      rw [if_neg (by simp), l1In_eq]
      rfl
    by_cases hlt : (i : Int) < (s.size : Int)
    · rw [if_pos hlt, show decide ((i : Int) ≤ hi) = false from decide_eq_false (by omega), hj]
      simp
    · rw [if_neg hlt, hj]
      simp
  | succ d ih =>
    intro k i hi1 hi2 hd hk
    obtain ⟨k, rfl⟩ : ∃ m, k = m + 2 := ⟨k - 2, by omega⟩
    simp only [spec_l2Marks.l0]
    by_cases hlt : (i : Int) < (s.size : Int)
    · rw [if_pos hlt, show decide ((i : Int) ≤ hi) = true from decide_eq_true (by omega)]
      simp only [spec_l2Marks.j1]
      rw [if_pos trivial, if_pos (by omega), if_pos hlt]
      have hl : i < s.data.toList.length := by rw [size_data]; omega
      rw [drop_cons_ _ _ hl, List.take_succ_cons, List.all_cons, bt_get s i (by omega)]
      have hw : wrap64 ((i : Int) + 1) = ((i + 1 : Nat) : Int) := by unfold wrap64; omega
      rw [hw]
      generalize s.data.toList[i] = c
      have hc : ∀ n : Nat, n < 256 → (((c.toNat : Int) = (n : Int)) ↔ c = UInt8.ofNat n) := by
        intro n hn
        constructor
        · intro h
          apply UInt8.toNat_inj.1
          simp
          omega
        · rintro rfl
          simp
          omega
      have c46 : ((c.toNat : Int) = 46) ↔ c = 46 := hc 46 (by omega)
      have c45 : ((c.toNat : Int) = 45) ↔ c = 45 := hc 45 (by omega)
      by_cases h46 : c = 46
      · subst h46
        rw [if_pos (by rfl), ih _ _ (by omega) (by omega) (by omega) (by omega)]
        rfl
      · rw [if_neg (fun h => h46 (c46.1 h))]
        by_cases h45 : c = 45
        · subst h45
          rw [if_pos (by rfl), ih _ _ (by omega) (by omega) (by omega) (by omega)]
          rfl
        · rw [if_neg (fun h => h45 (c45.1 h))]
          simp [okc, h46, h45]
    · rw [if_neg hlt]
      have hj : spec_l2Marks.j1 (k + 1) s lo hi i false = some (decide (lo ≤ s.size ∧ (s.size : Int) ≤ hi)) := by
        simp only [spec_l2Marks.j1]
        rw [if_neg (by simp), l1In_eq]
        rfl
      rw [hj, List.drop_eq_nil_of_le (by rw [size_data]; omega)]
      simp
theorem specMarks_eq (s : ByteArray) (lo hi : Int) (h0 : 0 ≤ hi) (hh : hi ≤ 1000000) (k : Nat) (hk : 2 * hi + 5 ≤ k) : spec_l2Marks.f k s lo hi = some (okMarks s lo hi) := by
  unfold spec_l2Marks.f
  have h := specMarks_l0 s lo hi h0 hh (hi + 1 - ((0 : Nat) : Int)).toNat k 0 (by omega) (by omega) rfl (by omega)
  rw [show ((0 : Nat) : Int) = 0 from rfl] at h
  rw [h]
  unfold okMarks
  congr 1
  rw [List.drop_zero, Bool.and_comm]
  by_cases hl : lo ≤ (s.size : Int) ∧ (s.size : Int) ≤ hi
  · rw [List.take_of_length_le (by rw [size_data]; omega)]
  · simp [hl]

/-! ### split -/
/-- The pieces of a text between the bytes c. -/
def spl (c : UInt8) : List UInt8 → List (List UInt8)
  | [] => [[]]
  | b :: l => if b = c then [] :: spl c l else
    match spl c l with
    | h :: t => (b :: h) :: t
    | [] => [[b]]
def splF (c : UInt8) (p r : List UInt8) : List (List UInt8) :=
  match spl c r with
  | h :: t => (p ++ h) :: t
  | [] => [p]
theorem spl_ne (c : UInt8) : ∀ l, ∃ h t, spl c l = h :: t
  | [] => ⟨[], [], rfl⟩
  | b :: l => by
    obtain ⟨h, t, e⟩ := spl_ne c l
    unfold spl
    rw [e]
    by_cases hb : b = c
    · rw [if_pos hb]; exact ⟨_, _, rfl⟩
    · rw [if_neg hb]; exact ⟨_, _, rfl⟩
theorem splF_nil (c : UInt8) (p : List UInt8) : splF c p [] = [p] := by
  unfold splF spl
  simp
theorem splF_hit (c : UInt8) (p r : List UInt8) : splF c p (c :: r) = p :: splF c [] r := by
  obtain ⟨h, t, e⟩ := spl_ne c r
  unfold splF
  rw [e]
  unfold spl
  rw [if_pos rfl, e]
  simp
theorem splF_miss (c b : UInt8) (hb : b ≠ c) (p r : List UInt8) : splF c p (b :: r) = splF c (p ++ [b]) r := by
  obtain ⟨h, t, e⟩ := spl_ne c r
  unfold splF
  rw [e]
  unfold spl
  rw [if_neg hb, e]
  simp
theorem splF_zero (c : UInt8) (r : List UInt8) : splF c [] r = spl c r := by
  obtain ⟨h, t, e⟩ := spl_ne c r
  unfold splF
  rw [e]
  rfl
theorem spl_none (c : UInt8) : ∀ l : List UInt8, c ∉ l → spl c l = [l]
  | [], _ => rfl
  | b :: l, h => by
    rw [List.mem_cons, not_or] at h
    unfold spl
    rw [if_neg (fun e => h.1 e.symm), spl_none c l h.2]
theorem spl_pre (c : UInt8) (r : List UInt8) : ∀ p : List UInt8, c ∉ p → spl c (p ++ c :: r) = p :: spl c r
  | [], _ => by
    show spl c (c :: r) = _
    rw [spl, if_pos rfl]
  | b :: p, h => by
    rw [List.mem_cons, not_or] at h
    rw [List.cons_append, spl, if_neg (fun e => h.1 e.symm), spl_pre c r p h.2]
theorem first_mem (c : UInt8) : ∀ l : List UInt8, c ∈ l → ∃ p r, l = p ++ c :: r ∧ c ∉ p
  | [], h => by cases h
  | b :: l, h => by
    by_cases e : b = c
    · subst e
      exact ⟨[], l, rfl, by simp⟩
    · rw [List.mem_cons] at h
      obtain ⟨p, r, q, hp⟩ := first_mem c l (h.resolve_left (fun x => e x.symm))
      exact ⟨b :: p, r, by rw [q]; rfl, by rw [List.mem_cons, not_or]; exact ⟨fun x => e x.symm, hp⟩⟩
theorem idx_pre (c : UInt8) (r : List UInt8) : ∀ p : List UInt8, c ∉ p → Lib.indexByte (p ++ c :: r) c = (p.length : Int)
  | [], _ => by
    show Lib.indexByte (c :: r) c = 0
    unfold Lib.indexByte
    rw [if_pos (by simp)]
  | b :: p, h => by
    rw [List.mem_cons, not_or] at h
    rw [List.cons_append]
    unfold Lib.indexByte
    rw [idx_pre c r p h.2, if_neg (by rw [beq_iff_eq]; exact fun e => h.1 e.symm), if_neg (by rw [beq_iff_eq]; omega), List.length_cons]
    omega
/-- The library's pieces. -/
theorem splitK_spl (c : UInt8) : ∀ (n : Nat) (l : List UInt8), l.length ≤ n → Lib.splitK [c] 0 (l.count c) l = spl c l
  | 0, l, h => by
    obtain rfl : l = [] := List.eq_nil_of_length_eq_zero (by omega)
    rfl
  | n + 1, l, h => by
    by_cases hm : c ∈ l
    · obtain ⟨p, r, rfl, hp⟩ : ∃ p r, l = p ++ c :: r ∧ c ∉ p := by
        exact first_mem c l hm
      have hc : (p ++ c :: r).count c = r.count c + 1 := by
        rw [List.count_append, List.count_eq_zero_of_not_mem hp, List.count_cons_self, Nat.zero_add]
      have hi : Lib.index (p ++ c :: r) [c] = (p.length : Int) := by
        rw [strings_Split.index_one]
        exact idx_pre c r p hp
      rw [hc, Lib.splitK, hi, if_neg (by rw [beq_iff_eq]; omega), spl_pre c r p hp]
      have e1 : (p ++ c :: r).take ((p.length : Int).toNat + 0) = p := by simp
      have e2 : (p ++ c :: r).drop ((p.length : Int).toNat + [c].length) = r := by
        rw [Int.toNat_natCast, List.length_singleton, ← List.drop_drop, List.drop_left]
        rfl
      rw [e1, e2, splitK_spl c n r (by rw [List.length_append, List.length_cons] at h; omega)]
    · rw [List.count_eq_zero_of_not_mem hm, spl_none c l hm]
      rfl
theorem ext_data (s : ByteArray) (a b : Nat) : (s.extract a b).data.toList = (s.data.toList.drop a).take (b - a) := by
  rw [ByteArray.data_extract, Array.toList_extract]
def dl (s : ByteArray) : List UInt8 := s.data.toList
theorem dl_inj (a b : ByteArray) (h : dl a = dl b) : a = b := by
  cases a
  cases b
  unfold dl at h
  simp only at h
  rw [Array.toList_inj.1 h]
theorem map_dl_inj : ∀ a b : List ByteArray, a.map dl = b.map dl → a = b
  | [], [], _ => rfl
  | [], _ :: _, h => by simp at h
  | _ :: _, [], h => by simp at h
  | x :: a, y :: b, h => by
    rw [List.map_cons, List.map_cons] at h
    injection h with h1 h2
    rw [dl_inj x y h1, map_dl_inj a b h2]
theorem specSplit_l0 (s : ByteArray) (hs : s.size ≤ 1048576) (c : UInt8) (d : Nat) : ∀ (i a : Nat) (out : List ByteArray), a ≤ i → i ≤ s.size → s.size - i = d → out.length ≤ i → ∃ r, Evt (fun k => spec_l1Split.l0 k s (c.toNat : Int) out a i) r ∧ r.map dl = out.map dl ++ splF c (((dl s).drop a).take (i - a)) ((dl s).drop i) := by
  have hsz : (dl s).length = s.size := size_data s
  induction d with
  | zero =>
    intro i a out ha hi hd ho
    obtain rfl : i = s.size := by omega
    refine ⟨out ++ [s.extract a s.size], Evt.succ (fun k => by rw [spec_l1Split.l0, if_neg (by omega), if_pos (by omega), if_pos (by omega), if_pos (by omega), Int.toNat_natCast]) (Evt.const _), ?_⟩
    rw [List.map_append, List.map_singleton, show dl (s.extract a s.size) = ((dl s).drop a).take (s.size - a) from ext_data s a s.size, List.drop_eq_nil_of_le (show (dl s).length ≤ s.size by omega), splF_nil]
  | succ d ih =>
    intro i a out ha hi hd ho
    have li : i < (dl s).length := by omega
    have hdr : (dl s).drop i = (dl s)[i] :: (dl s).drop (i + 1) := by simp
    have hb : bt s (i : Int) = ((dl s)[i].toNat : Int) := bt_get s i (by omega)
    by_cases h : (dl s)[i] = c
    · obtain ⟨r, h1, h2⟩ := ih (i + 1) (i + 1) (out ++ [s.extract a i]) (by omega) (by omega) (by omega) (by rw [List.length_append]; simp; omega)
      refine ⟨r, Evt.succ (fun k => by rw [spec_l1Split.l0, if_pos (by omega), if_pos (by omega), if_pos (by rw [hb, h]), if_pos (by omega), if_pos (by omega), if_pos (by omega), if_pos (by omega), wrap_succ i (by omega), Int.toNat_natCast, Int.toNat_natCast]) h1, ?_⟩
      rw [h2, hdr, h, splF_hit, List.map_append, List.map_singleton, List.append_assoc, show dl (s.extract a i) = ((dl s).drop a).take (i - a) from ext_data s a i, Nat.sub_self, List.take_zero]
      rfl
    · obtain ⟨r, h1, h2⟩ := ih (i + 1) a out (by omega) (by omega) (by omega) (by omega)
      refine ⟨r, Evt.succ (fun k => by rw [spec_l1Split.l0, if_pos (by omega), if_pos (by omega), if_neg (fun e => h (UInt8.toNat_inj.1 (by rw [hb] at e; exact Int.ofNat.inj e))), wrap_succ i (by omega)]) h1, ?_⟩
      rw [h2, hdr, splF_miss c _ h]
      congr 2
      have : i + 1 - a = (i - a) + 1 := by omega
      rw [this, List.take_succ_eq_append_getElem (by rw [List.length_drop]; omega)]
      congr 1
      rw [List.getElem_drop]
      simp only [show a + (i - a) = i by omega]
theorem libSplit_eq (s : ByteArray) (c : UInt8) : (Lib.splitB ⟨#[c]⟩ 0 (Lib.countB s ⟨#[c]⟩) s).map dl = spl c (dl s) := by
  have h := Lib.splitB_data ⟨#[c]⟩ 0 (Lib.countB s ⟨#[c]⟩) s
  have e : Lib.countB s ⟨#[c]⟩ = (dl s).count c := by
    show Lib.count s.data.toList [c] = _
    rw [Lib.count_one]
    rfl
  rw [e] at h ⊢
  exact h.trans (splitK_spl c _ (dl s) (Nat.le_refl _))
theorem split_evt (s : ByteArray) (hs : s.size ≤ 1048576) (c : UInt8) : ∃ r, Evt (fun k => spec_l1Split.f k s (c.toNat : Int)) r ∧ strings_Split.f s ⟨#[c]⟩ = some r ∧ r.map dl = spl c (dl s) := by
  obtain ⟨r, h1, h2⟩ := specSplit_l0 s hs c s.size 0 0 [] (by omega) (by omega) (by omega) (by simp)
  have h2' : r.map dl = spl c (dl s) := by
    rw [h2, List.drop_zero, Nat.sub_self, List.take_zero, splF_zero]
    rfl
  refine ⟨r, h1, ?_, h2'⟩
  unfold strings_Split.f
  rw [if_pos (by omega), if_pos (by rfl)]
  congr 1
  exact map_dl_inj _ _ ((libSplit_eq s c).trans h2'.symm)

/-! ### joinb -/
/-- Texts joined with a byte. -/
theorem ba_ext (a b : ByteArray) (h : a.data.toList = b.data.toList) : a = b := by
  obtain ⟨⟨l⟩⟩ := a
  obtain ⟨⟨m⟩⟩ := b
  have h : l = m := h
  rw [h]
theorem dl_append (a b : ByteArray) : dl (a ++ b) = dl a ++ dl b := by
  show (a ++ b).data.toList = _
  rw [ByteArray.data_append, Array.toList_append]
  rfl
theorem icl_cons2 (s a b : List UInt8) (l : List (List UInt8)) : s.intercalate (a :: b :: l) = a ++ (s ++ s.intercalate (b :: l)) := by
  simp [List.intercalate, List.intersperse]
theorem icl_snoc (s y : List UInt8) : ∀ xs : List (List UInt8), xs ≠ [] → s.intercalate (xs ++ [y]) = s.intercalate xs ++ (s ++ y)
  | [], h => absurd rfl h
  | [a], _ => by rw [List.singleton_append, icl_cons2]; simp [List.intercalate]
  | a :: b :: l, _ => by
    have ih := icl_snoc s y (b :: l) (by simp)
    rw [List.cons_append, List.cons_append, icl_cons2, icl_cons2]
    rw [List.cons_append] at ih
    rw [ih]
    simp
theorem joinT_snoc (out : List ByteArray) (s y : ByteArray) : strings_Join.t (out ++ [y]) s = (if out = [] then [] else strings_Join.t out s ++ dl s) ++ dl y := by
  unfold strings_Join.t Lib.join
  by_cases h : out = []
  · subst h
    rw [if_pos rfl]
    simp [List.intercalate]
    rfl
  · rw [if_neg h, List.map_append, List.map_singleton, icl_snoc _ _ _ (by simpa using h), List.append_assoc]
    rfl

/-! ### signal -/
/-- Signals: the program's look and the reference's look are the same. -/
theorem rdL2_nat (l : List (List ByteArray)) (i : Nat) (h : i < l.length) : rd_L1 l (i : Int) = l[i] := by
  unfold rd_L1
  rw [Int.toNat_natCast, List.getD_eq_getElem?_getD, List.getElem?_eq_getElem h]
  rfl
theorem spl_len (c : UInt8) : ∀ l : List UInt8, ((spl c l).map List.length).sum + (spl c l).length = l.length + 1
  | [] => rfl
  | b :: l => by
    have ih := spl_len c l
    obtain ⟨h, t, e⟩ := spl_ne c l
    unfold spl
    by_cases hb : b = c
    · rw [if_pos hb, List.map_cons, List.sum_cons, List.length_cons, List.length_nil, List.length_cons]
      omega
    · rw [if_neg hb, e]
      rw [e] at ih
      simp only [List.map_cons, List.sum_cons, List.length_cons] at ih ⊢
      omega
theorem mem_sum (l : List (List UInt8)) (p : List UInt8) (h : p ∈ l) : p.length ≤ (l.map List.length).sum := by
  induction l with
  | nil => cases h
  | cons x l ih =>
    rw [List.map_cons, List.sum_cons]
    rcases List.mem_cons.1 h with rfl | h
    · omega
    · have := ih h
      omega
theorem map_len (r : List ByteArray) : (r.map dl).map List.length = r.map ByteArray.size := by
  rw [List.map_map]
  exact List.map_congr_left (fun m _ => size_data m)
/-- What both sides take a text apart into. -/
theorem words_l0 (q : List ByteArray) (hq : ∀ m ∈ q, m.size ≤ 1048576) (hl : q.length ≤ 1048577) (d : Nat) : ∀ (i : Nat) (out : List (List ByteArray)), i ≤ q.length → q.length - i = d → out.length ≤ i → ∃ r, Evt (fun k => spec_l2Words.l0 k out q i) r ∧ Evt (fun k => impl_lettersOf.l0 k out q (q.length : Int) i) r ∧ r.map (List.map dl) = out.map (List.map dl) ++ (q.drop i).map (fun m => spl 32 (dl m)) := by
  induction d with
  | zero =>
    intro i out hi hd ho
    refine ⟨out, Evt.succ (fun k => by rw [spec_l2Words.l0, if_neg (by omega)]) (Evt.const _), Evt.succ (fun k => by rw [impl_lettersOf.l0, if_neg (by omega)]) (Evt.const _), ?_⟩
    rw [List.drop_eq_nil_of_le (by omega)]
    simp
  | succ d ih =>
    intro i out hi hd ho
    have li : i < q.length := by omega
    obtain ⟨w, w1, w2, w3⟩ := split_evt q[i] (hq _ (List.getElem_mem li)) 32
    have hdr : q.drop i = q[i] :: q.drop (i + 1) := by simp
    obtain ⟨r, r1, r2, r3⟩ := ih (i + 1) (out ++ [w]) (by omega) (by omega) (by rw [List.length_append]; simp; omega)
    refine ⟨r, Evt.succ (h := fun k => (spec_l1Split.f k q[i] 32).bind fun x => if out.length < 5864062014805 then spec_l2Words.l0 k (out ++ [x]) q ((i + 1 : Nat) : Int) else none) (fun k => by rw [spec_l2Words.l0, if_pos (by omega), if_pos (by omega), rdOf_get _ _ _ li, wrap_succ i (by omega)]) (Evt.bind w1 (Evt.ite_pos (by omega) r1)), Evt.succ (fun k => by rw [impl_lettersOf.l0, if_pos (by omega), if_pos (by omega), if_pos (by omega), rdOf_get _ _ _ li, w2, Option.bind_some, if_pos (by omega), wrap_succ i (by omega)]) r2, ?_⟩
    rw [r3, hdr, List.map_append, List.map_singleton, List.append_assoc, w3, List.map_cons]
    rfl
theorem words_evt (s : ByteArray) (hs : s.size ≤ 1048576) (hne : s.toList ≠ []) : ∃ r, Evt (fun k => spec_l2Words.f k s) r ∧ Evt (fun k => impl_lettersOf.f k s) r ∧ r.map (List.map dl) = (spl 47 (dl s)).map (spl 32) := by
  obtain ⟨q, q1, q2, q3⟩ := split_evt s hs 47
  have hsz : (dl s).length = s.size := size_data s
  have hsum := spl_len 47 (dl s)
  have hlen : q.length = (spl 47 (dl s)).length := by rw [← q3, List.length_map]
  have h1 : 1 ≤ (spl 47 (dl s)).length := by
    obtain ⟨h, t, e⟩ := spl_ne 47 (dl s)
    rw [e]
    simp
  have hqs : ∀ m ∈ q, m.size ≤ 1048576 := by
    intro m hm
    have h1 := mem_sum (spl 47 (dl s)) (dl m) (by rw [← q3]; exact List.mem_map_of_mem hm)
    have h2 : (dl m).length = m.size := size_data m
    omega
  obtain ⟨r, r1, r2, r3⟩ := words_l0 q hqs (by omega) q.length 0 [] (by omega) (by omega) (by simp)
  refine ⟨r, Evt.bind q1 r1, Evt.bind (Evt.const []) (Evt.ite_neg hne (Evt.bind ((Evt.const q).of_eq (fun k => q2)) r2)), ?_⟩
  rw [r3, List.map_nil, List.nil_append, List.drop_zero, ← q3, List.map_map]
  rfl
def okW (w : List ByteArray) : Bool := w.all (fun m => okMarks m 1 5)
def sumL (W : List (List ByteArray)) : Nat := (W.map List.length).sum
theorem sumL_drop (W : List (List ByteArray)) (i : Nat) (h : i < W.length) : sumL (W.drop i) = W[i].length + sumL (W.drop (i + 1)) := by
  have : W.drop i = W[i] :: W.drop (i + 1) := by simp
  unfold sumL
  rw [this, List.map_cons, List.sum_cons]
theorem okW_drop (w : List ByteArray) (j : Nat) (h : j < w.length) : okW (w.drop j) = (okMarks w[j] 1 5 && okW (w.drop (j + 1))) := by
  have : w.drop j = w[j] :: w.drop (j + 1) := by simp
  unfold okW
  rw [this, List.all_cons]
theorem implS_l1 (W : List (List ByteArray)) (n : Int) (i : Nat) (hi : i < 9000000) (x : Int) (w : List ByteArray) (hw : ∀ m ∈ w, m.size ≤ 1048576) (hl : w.length ≤ 9000000) (b : Bool) (next : Evt (fun k => impl_isSignal.l0 k x W n ((i + 1 : Nat) : Int)) b) (d : Nat) : ∀ j, j ≤ w.length → w.length - j = d → Evt (fun k => impl_isSignal.l1 k x W n i w (w.length : Int) j) (okW (w.drop j) && b) := by
  induction d with
  | zero =>
    intro j hj hd
    rw [List.drop_eq_nil_of_le (by omega), show okW [] = true from rfl, Bool.true_and]
    exact Evt.succ (fun k => by rw [impl_isSignal.l1, if_neg (by omega), wrap_succ i (by omega)]) next
  | succ d ih =>
    intro j hj hd
    have lj : j < w.length := by omega
    have hm := hw w[j] (List.getElem_mem lj)
    rw [okW_drop w j lj]
    refine Evt.succ (h := fun k => if okMarks w[j] 1 5 = true then impl_isSignal.l1 k x W n i w (w.length : Int) ((j + 1 : Nat) : Int) else some false) (fun k => ?_) ?_
    · rw [impl_isSignal.l1, if_pos (by omega), if_pos (by omega), if_pos (by omega), rdOf_get _ _ _ lj]
      unfold impl_isLetterMarks.f
      rw [implAreMarks_eq w[j] 1 5 (by omega), Option.bind_some, Option.bind_some, wrap_succ j (by omega)]
    · cases h : okMarks w[j] 1 5 with
      | false => exact Evt.ite_neg (by simp) (Evt.const _)
      | true =>
        rw [Bool.true_and]
        exact Evt.ite_pos rfl (ih (j + 1) (by omega) (by omega))
theorem implS_l0 (W : List (List ByteArray)) (hW : W.length ≤ 2000000) (hw : ∀ w ∈ W, w.length ≤ 9000000 ∧ ∀ m ∈ w, m.size ≤ 1048576) (d : Nat) : ∀ (i x : Nat), i ≤ W.length → W.length - i = d → x + sumL (W.drop i) ≤ 90000000 → Evt (fun k => impl_isSignal.l0 k x W (W.length : Int) i) ((W.drop i).all okW && decide (x + sumL (W.drop i) ≤ 12)) := by
  induction d with
  | zero =>
    intro i x hi hd hb
    rw [List.drop_eq_nil_of_le (by omega), List.all_nil, Bool.true_and]
    have e : decide ((x : Int) ≤ 12) = decide (x + sumL [] ≤ 12) := by
      rw [Bool.eq_iff_iff, decide_eq_true_eq, decide_eq_true_eq, show sumL [] = 0 from rfl]
      omega
    rw [← e]
    exact Evt.succ (fun k => by rw [impl_isSignal.l0, if_neg (by omega)]) (Evt.const _)
  | succ d ih =>
    intro i x hi hd hb
    have li : i < W.length := by omega
    have hs := sumL_drop W i li
    have hdr : W.drop i = W[i] :: W.drop (i + 1) := by simp
    have hwi := hw W[i] (List.getElem_mem li)
    have w1 : wrap64 ((x : Int) + (W[i].length : Int)) = ((x + W[i].length : Nat) : Int) := by unfold wrap64; omega
    have go := ih (i + 1) (x + W[i].length) (by omega) (by omega) (by omega)
    have l1 := implS_l1 W (W.length : Int) i (by omega) ((x + W[i].length : Nat) : Int) W[i] hwi.2 hwi.1 _ go W[i].length 0 (by omega) (by omega)
    rw [List.drop_zero] at l1
    rw [hs, hdr, List.all_cons, ← Nat.add_assoc, Bool.and_assoc]
    exact Evt.succ (fun k => by rw [impl_isSignal.l0, if_pos (by omega), if_pos (by omega), if_pos (by omega), rdL2_nat _ _ li, w1]; rfl) l1
theorem specS_l1 (W : List (List ByteArray)) (i : Nat) (hi : i < W.length) (hW : W.length ≤ 2000000) (x : Nat) (hx : x ≤ 90000000) (w : List ByteArray) (ew : W[i] = w) (hw : ∀ m ∈ w, m.size ≤ 1048576) (hl : w.length ≤ 9000000) (b : Bool) (next : Evt (fun k => spec_l2Signal.l0 k W ((x + w.length + 1 : Nat) : Int) ((i + 1 : Nat) : Int)) b) (d : Nat) : ∀ j, j ≤ w.length → w.length - j = d → Evt (fun k => spec_l2Signal.l1 k W x i j) (okW (w.drop j) && b) := by
  have er : rd_L1 W (i : Int) = w := (rdL2_nat W i hi).trans ew
  induction d with
  | zero =>
    intro j hj hd
    have w1 : wrap64 (wrap64 ((x : Int) + (w.length : Int)) + 1) = ((x + w.length + 1 : Nat) : Int) := by unfold wrap64; omega
    rw [List.drop_eq_nil_of_le (by omega), show okW [] = true from rfl, Bool.true_and]
    exact Evt.succ (fun k => by rw [spec_l2Signal.l1, if_pos (by omega), if_pos (by omega), er, if_neg (by omega), w1, wrap_succ i (by omega)]) next
  | succ d ih =>
    intro j hj hd
    have lj : j < w.length := by omega
    have hm := hw w[j] (List.getElem_mem lj)
    rw [okW_drop w j lj]
    have sm : Evt (fun k => spec_l2Marks.f k w[j] 1 5) (okMarks w[j] 1 5) := ⟨30, fun k hk => specMarks_eq w[j] 1 5 (by omega) (by omega) k (by omega)⟩
    refine Evt.succ (h := fun k => (spec_l2Marks.f k w[j] 1 5).bind fun t => if t = true then spec_l2Signal.l1 k W x i ((j + 1 : Nat) : Int) else some false) (fun k => ?_) (Evt.bind sm ?_)
    · rw [spec_l2Signal.l1, if_pos (by omega), if_pos (by omega), er, if_pos (by omega), if_pos (by omega), rdOf_get _ _ _ lj, wrap_succ j (by omega)]
    · cases h : okMarks w[j] 1 5 with
      | false => exact Evt.ite_neg (by simp) (Evt.const _)
      | true =>
        rw [Bool.true_and]
        exact Evt.ite_pos rfl (ih (j + 1) (by omega) (by omega))
theorem specS_l0 (W : List (List ByteArray)) (hW : W.length ≤ 2000000) (hw : ∀ w ∈ W, w.length ≤ 9000000 ∧ ∀ m ∈ w, m.size ≤ 1048576) (d : Nat) : ∀ (i x : Nat), i ≤ W.length → W.length - i = d → x + sumL (W.drop i) + (W.length - i) ≤ 80000000 → Evt (fun k => spec_l2Signal.l0 k W x i) ((W.drop i).all okW && decide (x + sumL (W.drop i) + (W.length - i) ≤ 13)) := by
  induction d with
  | zero =>
    intro i x hi hd hb
    have w1 : wrap64 ((x : Int) - 1) = (x : Int) - 1 := by unfold wrap64; omega
    rw [List.drop_eq_nil_of_le (by omega), List.all_nil, Bool.true_and]
    have e : decide ((x : Int) - 1 ≤ 12) = decide (x + sumL [] + (W.length - i) ≤ 13) := by
      rw [Bool.eq_iff_iff, decide_eq_true_eq, decide_eq_true_eq, show sumL [] = 0 from rfl]
      omega
    rw [← e]
    exact Evt.succ (fun k => by rw [spec_l2Signal.l0, if_neg (by omega), w1]) (Evt.const _)
  | succ d ih =>
    intro i x hi hd hb
    have li : i < W.length := by omega
    have hs := sumL_drop W i li
    have hdr : W.drop i = W[i] :: W.drop (i + 1) := by simp
    have hwi := hw W[i] (List.getElem_mem li)
    have go := ih (i + 1) (x + W[i].length + 1) (by omega) (by omega) (by omega)
    have l1 := specS_l1 W i li hW x (by omega) W[i] rfl hwi.2 hwi.1 _ go W[i].length 0 (by omega) (by omega)
    have e : x + W[i].length + 1 + sumL (W.drop (i + 1)) + (W.length - (i + 1)) = x + (W[i].length + sumL (W.drop (i + 1))) + (W.length - i) := by omega
    rw [e, List.drop_zero] at l1
    rw [hs, hdr, List.all_cons, Bool.and_assoc]
    exact Evt.succ (fun k => by rw [spec_l2Signal.l0, if_pos (by omega)]; rfl) l1
theorem okW_size : ∀ w : List ByteArray, okW w = true → (w.map ByteArray.size).sum ≤ 5 * w.length
  | [], _ => by simp
  | m :: w, h => by
    unfold okW at h
    rw [List.all_cons, Bool.and_eq_true] at h
    have h1 : m.size ≤ 5 := by
      have := h.1
      simp only [okMarks, Bool.and_eq_true, decide_eq_true_eq] at this
      omega
    have h2 := okW_size w h.2
    rw [List.map_cons, List.sum_cons, List.length_cons]
    omega
theorem words_facts : ∀ (W : List (List ByteArray)) (P : List (List UInt8)), W.map (List.map dl) = P.map (spl 32) → W.length = P.length ∧ (W.all okW = true → (P.map List.length).sum + P.length ≤ 6 * sumL W) ∧ sumL W ≤ (P.map List.length).sum + P.length ∧ ∀ w ∈ W, w.length ≤ (P.map List.length).sum + P.length ∧ ∀ m ∈ w, m.size ≤ (P.map List.length).sum
  | [], [], _ => ⟨rfl, fun _ => by simp, by simp [sumL], fun w hw => by cases hw⟩
  | [], _ :: _, h => by simp at h
  | _ :: _, [], h => by simp at h
  | w :: W, p :: P, h => by
    rw [List.map_cons, List.map_cons] at h
    injection h with h1 h2
    obtain ⟨a, b, c, e⟩ := words_facts W P h2
    have hl := spl_len 32 p
    rw [← h1, map_len, List.length_map] at hl
    have hm : ∀ m ∈ w, m.size ≤ p.length := by
      intro m hm
      have q := mem_sum (spl 32 p) (dl m) (by rw [← h1]; exact List.mem_map_of_mem hm)
      have z : (dl m).length = m.size := size_data m
      rw [← h1, map_len, z] at q
      have g : 1 ≤ w.length := List.length_pos_of_mem hm
      omega
    have hs : sumL (w :: W) = w.length + sumL W := by unfold sumL; rw [List.map_cons, List.sum_cons]
    rw [hs, List.map_cons, List.sum_cons, List.length_cons, List.length_cons]
    refine ⟨by omega, fun hall => ?_, by omega, fun v hv => ?_⟩
    · rw [List.all_cons, Bool.and_eq_true] at hall
      have k1 := okW_size w hall.1
      have k2 := b hall.2
      omega
    · rcases List.mem_cons.1 hv with rfl | hv
      · exact ⟨by omega, fun m hm' => by have := hm m hm'; omega⟩
      · have k := e v hv
        exact ⟨by omega, fun m hm' => by have := k.2 m hm'; omega⟩
theorem signal_evt (s : ByteArray) (hs : s.size ≤ 1048576) : ∃ b : Bool, Evt (fun k => spec_l2Signal.f k s) b ∧ Evt (fun k => impl_isSignal.f k s) b := by
  by_cases he : s.toList = []
  · refine ⟨true, Evt.ite_pos he (Evt.const _), ?_⟩
    refine Evt.bind (a := []) (Evt.bind (Evt.const []) (Evt.ite_pos he (Evt.const _))) ?_
    exact Evt.succ (h := fun _ => some true) (fun k => by rw [impl_isSignal.l0, if_neg (by decide)]; show some (decide (wrap64 (0 - 1) ≤ 12)) = some true; rw [show wrap64 (0 - 1) = -1 by unfold wrap64; omega]; rfl) (Evt.const _)
  · obtain ⟨W, w1, w2, w3⟩ := words_evt s hs he
    obtain ⟨f1, f2, f3, f4⟩ := words_facts W _ w3
    have hsum := spl_len 47 (dl s)
    have hsz : (dl s).length = s.size := size_data s
    have h1 : 1 ≤ (spl 47 (dl s)).length := by
      obtain ⟨h, t, e⟩ := spl_ne 47 (dl s)
      rw [e]
      simp
    rw [hsum, hsz] at f2 f3
    have hw : ∀ w ∈ W, w.length ≤ 9000000 ∧ ∀ m ∈ w, m.size ≤ 1048576 := by
      intro w hw
      have := f4 w hw
      rw [hsum, hsz] at this
      exact ⟨by omega, fun m hm => by have := this.2 m hm; omega⟩
    have e1 := implS_l0 W (by omega) hw W.length 0 (W.length - 1) (by omega) (by omega) (by rw [List.drop_zero]; omega)
    have e2 := specS_l0 W (by omega) hw W.length 0 0 (by omega) (by omega) (by rw [List.drop_zero]; omega)
    rw [List.drop_zero] at e1 e2
    have e3 : decide (W.length - 1 + sumL W ≤ 12) = decide (0 + sumL W + (W.length - 0) ≤ 13) := by
      rw [Bool.eq_iff_iff, decide_eq_true_eq, decide_eq_true_eq]
      omega
    have w4 : wrap64 ((W.length : Int) - 1) = ((W.length - 1 : Nat) : Int) := by unfold wrap64; omega
    rw [e3] at e1
    have ei : Evt (fun k => impl_isSignal.f k s) (W.all okW && decide (0 + sumL W + (W.length - 0) ≤ 13)) := by
      refine Evt.bind w2 ?_
      rw [w4]
      exact e1
    by_cases h72 : (s.size : Int) > 72
    · refine ⟨false, Evt.ite_neg he (Evt.ite_pos h72 (Evt.const _)), ?_⟩
      have : (W.all okW && decide (0 + sumL W + (W.length - 0) ≤ 13)) = false := by
        rw [Bool.eq_false_iff]
        intro q
        rw [Bool.and_eq_true, decide_eq_true_eq] at q
        have := f2 q.1
        omega
      rw [this] at ei
      exact ei
    · exact ⟨_, Evt.ite_neg he (Evt.ite_neg h72 (Evt.bind w1 e2)), ei⟩

/-! ### signalw -/
/-- What a signal is taken apart into: words of letters' marks. -/
theorem signal_words (s : ByteArray) (hs : s.size ≤ 1048576) (he : s.toList ≠ []) : ∃ (W : List (List ByteArray)) (b : Bool), Evt (fun k => spec_l2Words.f k s) W ∧ Evt (fun k => impl_lettersOf.f k s) W ∧ W.map (List.map dl) = (spl 47 (dl s)).map (spl 32) ∧ Evt (fun k => spec_l2Signal.f k s) b ∧ Evt (fun k => impl_isSignal.f k s) b ∧ (b = true → W.all okW = true ∧ sumL W + W.length ≤ 13 ∧ 1 ≤ W.length ∧ s.size ≤ 72) := by
  obtain ⟨W, w1, w2, w3⟩ := words_evt s hs he
  obtain ⟨f1, f2, f3, f4⟩ := words_facts W _ w3
  have hsum := spl_len 47 (dl s)
  have hsz : (dl s).length = s.size := size_data s
  have h1 : 1 ≤ (spl 47 (dl s)).length := by
    obtain ⟨h, t, e⟩ := spl_ne 47 (dl s)
    rw [e]
    simp
  rw [hsum, hsz] at f2 f3
  have hw : ∀ w ∈ W, w.length ≤ 9000000 ∧ ∀ m ∈ w, m.size ≤ 1048576 := by
    intro w hw
    have := f4 w hw
    rw [hsum, hsz] at this
    exact ⟨by omega, fun m hm => by have := this.2 m hm; omega⟩
  have e1 := implS_l0 W (by omega) hw W.length 0 (W.length - 1) (by omega) (by omega) (by rw [List.drop_zero]; omega)
  have e2 := specS_l0 W (by omega) hw W.length 0 0 (by omega) (by omega) (by rw [List.drop_zero]; omega)
  rw [List.drop_zero] at e1 e2
  have e3 : decide (W.length - 1 + sumL W ≤ 12) = decide (0 + sumL W + (W.length - 0) ≤ 13) := by
    rw [Bool.eq_iff_iff, decide_eq_true_eq, decide_eq_true_eq]
    omega
  have w4 : wrap64 ((W.length : Int) - 1) = ((W.length - 1 : Nat) : Int) := by unfold wrap64; omega
  rw [e3] at e1
  have ei : Evt (fun k => impl_isSignal.f k s) (W.all okW && decide (0 + sumL W + (W.length - 0) ≤ 13)) := by
    refine Evt.bind w2 ?_
    rw [w4]
    exact e1
  by_cases h72 : (s.size : Int) > 72
  · refine ⟨W, false, w1, w2, w3, Evt.ite_neg he (Evt.ite_pos h72 (Evt.const _)), ?_, fun h => by cases h⟩
    have : (W.all okW && decide (0 + sumL W + (W.length - 0) ≤ 13)) = false := by
      rw [Bool.eq_false_iff]
      intro q
      rw [Bool.and_eq_true, decide_eq_true_eq] at q
      have := f2 q.1
      omega
    rw [this] at ei
    exact ei
  · refine ⟨W, _, w1, w2, w3, Evt.ite_neg he (Evt.ite_neg h72 (Evt.bind w1 e2)), ei, fun h => ?_⟩
    rw [Bool.and_eq_true, decide_eq_true_eq] at h
    exact ⟨h.1, by omega, by omega, by omega⟩
theorem signal_none (s : ByteArray) (he : s.toList = []) : Evt (fun k => spec_l2Signal.f k s) true ∧ Evt (fun k => impl_isSignal.f k s) true ∧ Evt (fun k => impl_lettersOf.f k s) [] := by
  refine ⟨Evt.ite_pos he (Evt.const _), ?_, Evt.bind (Evt.const []) (Evt.ite_pos he (Evt.const _))⟩
  refine Evt.bind (a := []) (Evt.bind (Evt.const []) (Evt.ite_pos he (Evt.const _))) ?_
  exact Evt.succ (h := fun _ => some true) (fun k => by rw [impl_isSignal.l0, if_neg (by decide)]; show some (decide (wrap64 (0 - 1) ≤ 12)) = some true; rw [show wrap64 (0 - 1) = -1 by unfold wrap64; omega]; rfl) (Evt.const _)
theorem okW_mem (w : List ByteArray) (h : okW w = true) (m : ByteArray) (hm : m ∈ w) : m.size ≤ 5 ∧ okMarks m 1 5 = true := by
  have := List.all_eq_true.1 h m hm
  refine ⟨?_, this⟩
  simp only [okMarks, Bool.and_eq_true, decide_eq_true_eq] at this
  omega

/-! ### lines -/
/-- A signal's line as blocks: a sign and how often. -/
def tm (c : UInt8) : Nat := if c = 45 then 3 else 1
def nx (c : UInt8) : Bool := decide (c = 46) || decide (c = 45)
def pr (p : Bool) (c : UInt8) : List (UInt8 × Nat) := if nx c = true then (if p = true then [(48, 1)] else []) ++ [(49, tm c)] else if c = 32 then [(48, 3)] else [(48, 7)]
def bl : Bool → List UInt8 → List (UInt8 × Nat)
  | _, [] => []
  | p, c :: x => pr p c ++ bl (nx c) x
def flat (B : List (UInt8 × Nat)) : List UInt8 := B.flatMap fun b => List.replicate b.2 b.1
theorem flat_append (A B : List (UInt8 × Nat)) : flat (A ++ B) = flat A ++ flat B := List.flatMap_append ..
theorem join_cons (a : List UInt8) (l : List (List UInt8)) (s : List UInt8) (h : l ≠ []) : Lib.join (a :: l) s = a ++ (s ++ Lib.join l s) := by
  cases l with
  | nil => exact absurd rfl h
  | cons b l =>
    unfold Lib.join
    exact icl_cons2 s a b l
theorem join_one (a s : List UInt8) : Lib.join [a] s = a := by
  unfold Lib.join
  simp [List.intercalate]
theorem join_front (a b : List UInt8) (l : List (List UInt8)) (s : List UInt8) : Lib.join ((a ++ b) :: l) s = a ++ Lib.join (b :: l) s := by
  cases l with
  | nil => rw [join_one, join_one]
  | cons c l => rw [join_cons (a ++ b) (c :: l) s (by simp), join_cons b (c :: l) s (by simp), List.append_assoc]
/-- Parts joined are the whole. -/
theorem join_spl (c : UInt8) (n : Nat) (hc : ∀ p, pr p c = [(48, n)]) (hn : nx c = false) : ∀ (x : List UInt8) (p : Bool) (h : List UInt8) (t : List (List UInt8)), spl c x = h :: t → Lib.join (flat (bl p h) :: t.map fun y => flat (bl false y)) (List.replicate n 48) = flat (bl p x) := by
  intro x
  induction x with
  | nil =>
    intro p h t e
    unfold spl at e
    injection e with e1 e2
    subst e1
    subst e2
    rw [List.map_nil, join_one]
  | cons b l ih =>
    intro p h t e
    obtain ⟨h', t', e'⟩ := spl_ne c l
    unfold spl at e
    by_cases hb : b = c
    · rw [if_pos hb, e'] at e
      injection e with e1 e2
      subst e1
      subst e2
      subst hb
      rw [List.map_cons, join_cons _ _ _ (by simp), ih false h' t' e']
      show flat (bl p []) ++ _ = flat (pr p b ++ bl (nx b) l)
      rw [hc, hn, flat_append]
      simp [bl, flat]
    · rw [if_neg hb, e'] at e
      simp only at e
      injection e with e1 e2
      subst e1
      subst e2
      show Lib.join (flat (pr p b ++ bl (nx b) h') :: _) _ = flat (pr p b ++ bl (nx b) l)
      rw [flat_append, flat_append, join_front, ih (nx b) h' t' e']
theorem join_all (c : UInt8) (n : Nat) (hc : ∀ p, pr p c = [(48, n)]) (hn : nx c = false) (x : List UInt8) : Lib.join ((spl c x).map fun y => flat (bl false y)) (List.replicate n 48) = flat (bl false x) := by
  obtain ⟨h, t, e⟩ := spl_ne c x
  rw [e, List.map_cons]
  exact join_spl c n hc hn x false h t e
/-- A letter's line. -/
def sg (c : UInt8) : List UInt8 := if c = 46 then [49] else if c = 45 then [49, 49, 49] else []
theorem sg_tm (c : UInt8) (h : nx c = true) : sg c = List.replicate (tm c) 49 := by
  unfold nx at h
  unfold sg tm
  by_cases c1 : c = 46
  · subst c1
    rfl
  · by_cases c2 : c = 45
    · subst c2
      rfl
    · simp [c1, c2] at h
theorem letter_line (m : List UInt8) (h : ∀ c ∈ m, nx c = true) : ∀ p : Bool, Lib.join ((if p = true then [[]] else []) ++ m.map sg) [48] = flat (bl p m) ∨ m = [] := by
  induction m with
  | nil => intro p; exact .inr rfl
  | cons c m ih =>
    intro p
    left
    have hc := h c List.mem_cons_self
    have h2 := ih (fun x hx => h x (List.mem_cons_of_mem _ hx)) true
    have e1 : Lib.join (sg c :: m.map sg) [48] = sg c ++ flat (bl true m) := by
      rcases h2 with h2 | rfl
      · rw [if_pos rfl, List.singleton_append] at h2
        cases m with
        | nil =>
          rw [List.map_nil, join_one]
          simp [bl, flat]
        | cons d m =>
          rw [List.map_cons] at h2 ⊢
          rw [join_cons _ _ _ (by simp)] at h2 ⊢
          rw [← h2, List.nil_append]
      · rw [List.map_nil, join_one]
        simp [bl, flat]
    have e2 : bl p (c :: m) = pr p c ++ bl true m := by
      show pr p c ++ bl (nx c) m = _
      rw [hc]
    rw [e2, flat_append, List.map_cons]
    unfold pr
    rw [if_pos hc]
    cases p with
    | false =>
      rw [if_neg (by simp), if_neg (by simp), List.nil_append, List.nil_append, e1, sg_tm c hc]
      simp [flat]
    | true =>
      rw [if_pos rfl, if_pos rfl, List.singleton_append, join_cons _ _ _ (by simp), e1, sg_tm c hc]
      simp [flat]
theorem letter_line0 (m : List UInt8) (h : ∀ c ∈ m, nx c = true) (hm : m ≠ []) : Lib.join (m.map sg) [48] = flat (bl false m) := by
  have h1 := (letter_line m h false).resolve_right hm
  rw [if_neg (by simp), List.nil_append] at h1
  exact h1
/-- No two blocks of one sign side by side. -/
def alt : UInt8 → List (UInt8 × Nat) → Prop
  | _, [] => True
  | a, b :: B => b.1 ≠ a ∧ 1 ≤ b.2 ∧ alt b.1 B
def Q (f : Bool) (x : List UInt8) : Prop := ∃ h t h2 t2, spl 47 x = h :: t ∧ spl 32 h = h2 :: t2 ∧ (∀ y ∈ t, ∀ m ∈ spl 32 y, m ≠ []) ∧ (∀ m ∈ t2, m ≠ []) ∧ (f = true → h2 ≠ [])
theorem Q_alt : ∀ (x : List UInt8) (f : Bool), (∀ c ∈ x, nx c = true ∨ c = 32 ∨ c = 47) → Q f x → alt (if f = true then 48 else 49) (bl (!f) x) := by
  intro x
  induction x with
  | nil => intro f _ _; exact trivial
  | cons b l ih =>
    intro f hx hQ
    have hx' := fun c hc => hx c (List.mem_cons_of_mem _ hc)
    obtain ⟨h, t, h2, t2, e1, e2, q1, q2, q3⟩ := hQ
    obtain ⟨h', t', e'⟩ := spl_ne 47 l
    obtain ⟨g', u', k'⟩ := spl_ne 32 h'
    unfold spl at e1
    by_cases c1 : b = 47
    · rw [if_pos c1, e'] at e1
      injection e1 with e1 e3
      subst e1
      subst e3
      subst c1
      have e4 : h2 = [] ∧ t2 = [] := by
        unfold spl at e2
        injection e2 with a1 a2
        exact ⟨a1.symm, a2.symm⟩
      have hf : f = false := by
        cases f with
        | false => rfl
        | true => exact absurd e4.1 (q3 rfl)
      subst hf
      have hq : Q true l := ⟨h', t', g', u', e', k', fun y hy => q1 y (List.mem_cons_of_mem _ hy), fun m hm => q1 h' List.mem_cons_self m (by rw [k']; exact List.mem_cons_of_mem _ hm), fun _ => q1 h' List.mem_cons_self g' (by rw [k']; exact List.mem_cons_self)⟩
      have h1 := ih true hx' hq
      show alt 49 (pr true 47 ++ bl (nx 47) l)
      exact ⟨by decide, by decide, h1⟩
    · rw [if_neg c1, e'] at e1
      simp only at e1
      injection e1 with e1 e3
      subst e1
      subst e3
      unfold spl at e2
      by_cases c2 : b = 32
      · rw [if_pos c2, k'] at e2
        injection e2 with a1 a2
        subst c2
        have hf : f = false := by
          cases f with
          | false => rfl
          | true => exact absurd a1.symm (q3 rfl)
        subst hf
        have hq : Q true l := ⟨h', t', g', u', e', k', q1, fun m hm => q2 m (by rw [← a2]; exact List.mem_cons_of_mem _ hm), fun _ => q2 g' (by rw [← a2]; exact List.mem_cons_self)⟩
        have h1 := ih true hx' hq
        show alt 49 (pr true 32 ++ bl (nx 32) l)
        exact ⟨by decide, by decide, h1⟩
      · rw [if_neg c2, k'] at e2
        simp only at e2
        injection e2 with a1 a2
        have hq : Q false l := ⟨h', t', g', u', e', k', q1, fun m hm => q2 m (by rw [← a2]; exact hm), fun h => by cases h⟩
        have h1 := ih false hx' hq
        have tp : 1 ≤ tm b := by unfold tm; by_cases c : b = 45 <;> simp [c]
        show alt _ (pr (!f) b ++ bl (nx b) l)
        by_cases c3 : nx b = true
        · rw [c3]
          unfold pr
          rw [if_pos c3]
          cases f with
          | true => exact ⟨(show (49 : UInt8) ≠ 48 by decide), tp, h1⟩
          | false => exact ⟨(show (48 : UInt8) ≠ 49 by decide), (show 1 ≤ 1 by decide), (show (49 : UInt8) ≠ 48 by decide), tp, h1⟩
        · rcases hx b List.mem_cons_self with h | h | h
          · exact absurd h c3
          · exact absurd h c2
          · exact absurd h c1
theorem nat_byte_ (x y : UInt8) : ((x.toNat : Int) = (y.toNat : Int)) ↔ x = y := by
  constructor
  · intro h
    exact UInt8.toNat_inj.1 (by omega)
  · intro h
    rw [h]
/-- How often the runs of a line come, one after the other. -/
theorem flat_cons (b : UInt8 × Nat) (B : List (UInt8 × Nat)) : flat (b :: B) = List.replicate b.2 b.1 ++ flat B := by
  unfold flat
  rw [List.flatMap_cons]
theorem exact_l0 (s : ByteArray) (hs : s.size ≤ 1000) (d : Nat) : ∀ (i : Nat) (out : List Int), i ≤ s.size → s.size - i = d → out.length ≤ 2 * i → Evt (fun k => spec_l5Exact.l0 k s out i) (out ++ (bl (if 0 < i then nx (s.data.toList.getD (i - 1) 0) else false) (s.data.toList.drop i)).map fun b => (b.2 : Int)) := by
  have hz := size_data s
  induction d with
  | zero =>
    intro i out hi hd ho
    rw [List.drop_eq_nil_of_le (by omega)]
    show Evt _ (out ++ [])
    rw [List.append_nil]
    exact Evt.succ (fun k => by rw [spec_l5Exact.l0, if_neg (by omega)]) (Evt.const _)
  | succ d ih =>
    intro i out hi hd ho
    have li : i < s.data.toList.length := by omega
    have e1 := bt_get s i (by omega)
    rw [drop_cons_ _ i li]
    have hgd : s.data.toList.getD i 0 = s.data.toList[i] := by
      rw [List.getD_eq_getElem?_getD, List.getElem?_eq_getElem li]
      rfl
    have go := fun out' (h : out'.length ≤ 2 * (i + 1)) => ih (i + 1) out' (by omega) (by omega) h
    rw [if_pos (by omega), show i + 1 - 1 = i by omega, hgd] at go
    generalize s.data.toList[i] = c at e1 go ⊢
    generalize hp : (if 0 < i then nx (s.data.toList.getD (i - 1) 0) else false) = p
    have eb : ∀ n : UInt8, bt s (i : Int) = (n.toNat : Int) ↔ c = n := fun n => by
      rw [e1]
      exact nat_byte_ c n
    have bs : ∀ n : UInt8, (bt s (i : Int) == (n.toNat : Int)) = decide (c = n) := fun n => by
      rw [Bool.eq_iff_iff, beq_iff_eq, decide_eq_true_eq]
      exact eb n
    show Evt _ (out ++ (pr p c ++ bl (nx c) (s.data.toList.drop (i + 1))).map fun b => (b.2 : Int))
    have hw : wrap64 ((i : Int) + 1) = ((i + 1 : Nat) : Int) := wrap_succ i (by omega)
    have e46 := eb 46
    have e45 := eb 45
    have e32 := eb 32
    have s46 := bs 46
    have s45 := bs 45
    change bt s (i : Int) = 46 ↔ c = 46 at e46
    change bt s (i : Int) = 45 ↔ c = 45 at e45
    change bt s (i : Int) = 32 ↔ c = 32 at e32
    change (bt s (i : Int) == 46) = decide (c = 46) at s46
    change (bt s (i : Int) == 45) = decide (c = 45) at s45
    have fin : ∀ out' : List Int, out'.length ≤ 2 * i + 1 → Evt (fun k => if (bt s (i : Int)) = 45 then (if out'.length < 17592186044416 then (spec_l5Exact.l0 k s (out' ++ [3]) ((i + 1 : Nat) : Int)) else (none)) else (if out'.length < 17592186044416 then (spec_l5Exact.l0 k s (out' ++ [1]) ((i + 1 : Nat) : Int)) else (none))) (out' ++ ((tm c : Int) :: (bl (nx c) (s.data.toList.drop (i + 1))).map fun b => (b.2 : Int))) := fun out' h => by
      unfold tm
      by_cases c1 : c = 45
      · have g1 := go (out' ++ [3]) (by simp; omega)
        rw [List.append_assoc] at g1
        rw [if_pos c1]
        exact Evt.ite_pos (e45.2 c1) (Evt.ite_pos (by omega) g1)
      · have g1 := go (out' ++ [1]) (by simp; omega)
        rw [List.append_assoc] at g1
        rw [if_neg c1]
        exact Evt.ite_neg (fun h => c1 (e45.1 h)) (Evt.ite_pos (by omega) g1)
    have j2 : nx c = true → Evt (fun k => spec_l5Exact.j2 k s out i p) (out ++ (pr p c ++ bl (nx c) (s.data.toList.drop (i + 1))).map fun b => (b.2 : Int)) := fun hc => by
      unfold pr
      rw [if_pos hc]
      cases p with
      | true =>
        have f1 := fin (out ++ [1]) (by simp; omega)
        rw [List.append_assoc out [1] ((tm c : Int) :: _)] at f1
        exact Evt.succ (h := fun k => if out.length < 17592186044416 then (if (bt s (i : Int)) = 45 then (if (out ++ [1]).length < 17592186044416 then (spec_l5Exact.l0 k s (out ++ [1] ++ [3]) ((i + 1 : Nat) : Int)) else (none)) else (if (out ++ [1]).length < 17592186044416 then (spec_l5Exact.l0 k s (out ++ [1] ++ [1]) ((i + 1 : Nat) : Int)) else (none))) else none) (fun k => by rw [spec_l5Exact.j2, if_pos rfl, Option.bind_some, if_pos (show (0 : Int) ≤ (i : Int) by omega), if_pos (show (i : Int) < (s.size : Int) by omega), hw]) (Evt.ite_pos (by omega) f1)
      | false =>
        have f1 := fin out (by omega)
        exact Evt.succ (fun k => by rw [spec_l5Exact.j2, if_neg (by simp), if_pos (show (0 : Int) ≤ (i : Int) by omega), if_pos (show (i : Int) < (s.size : Int) by omega), hw]) f1
    have j1 : Evt (fun k => spec_l5Exact.j1 k s out i (bt s (i : Int)) (nx c)) (out ++ (pr p c ++ bl (nx c) (s.data.toList.drop (i + 1))).map fun b => (b.2 : Int)) := by
      by_cases hc : nx c = true
      · have j2' := j2 hc
        by_cases h0 : 0 < i
        · rw [if_pos h0] at hp
          have lp : i - 1 < s.data.toList.length := by omega
          have ep := bt_get s (i - 1) (by omega)
          have hgp : s.data.toList.getD (i - 1) 0 = s.data.toList[i - 1] := by
            rw [List.getD_eq_getElem?_getD, List.getElem?_eq_getElem lp]
            rfl
          rw [hgp] at hp
          have wm : wrap64 ((i : Int) - 1) = ((i - 1 : Nat) : Int) := by unfold wrap64; omega
          generalize s.data.toList[i - 1] = cp at ep hp
          have p46 : bt s ((i - 1 : Nat) : Int) = 46 ↔ cp = 46 := by
            rw [ep]
            exact nat_byte_ cp 46
          have p45 : (bt s ((i - 1 : Nat) : Int) == 45) = decide (cp = 45) := by
            rw [Bool.eq_iff_iff, beq_iff_eq, decide_eq_true_eq, ep]
            exact nat_byte_ cp 45
          refine Evt.succ (h := fun k => if (bt s ((i - 1 : Nat) : Int)) = 46 then (spec_l5Exact.j2 k s out i true) else (spec_l5Exact.j2 k s out i ((bt s ((i - 1 : Nat) : Int)) == 45))) (fun k => by rw [spec_l5Exact.j1, if_pos hc, if_pos (by omega), wm, if_pos (by omega), if_pos (by omega)]) ?_
          by_cases cc : cp = 46
          · have : p = true := by rw [← hp]; unfold nx; rw [decide_eq_true cc]; rfl
            rw [this] at j2' ⊢
            exact Evt.ite_pos (p46.2 cc) j2'
          · refine Evt.ite_neg (fun h => cc (p46.1 h)) ?_
            rw [p45]
            have : p = decide (cp = 45) := by rw [← hp]; unfold nx; rw [decide_eq_false cc, Bool.false_or]
            rw [← this]
            exact j2'
        · rw [if_neg h0] at hp
          rw [← hp] at j2' ⊢
          exact Evt.succ (fun k => by rw [spec_l5Exact.j1, if_pos hc, if_neg (by omega)]) j2'
      · have hcf : nx c = false := by simpa using hc
        unfold pr
        rw [if_neg hc]
        by_cases c32 : c = 32
        · have g1 := go (out ++ [3]) (by simp; omega)
          rw [List.append_assoc] at g1
          rw [if_pos c32]
          exact Evt.succ (fun k => by rw [spec_l5Exact.j1, if_neg hc, if_pos (e32.2 c32), if_pos (by omega), hw]) g1
        · have g1 := go (out ++ [7]) (by simp; omega)
          rw [List.append_assoc] at g1
          rw [if_neg c32]
          exact Evt.succ (fun k => by rw [spec_l5Exact.j1, if_neg hc, if_neg (fun h => c32 (e32.1 h)), if_pos (by omega), hw]) g1
    by_cases c46 : c = 46
    · have hf : nx c = decide (c = 46) := by unfold nx; rw [decide_eq_true c46]; rfl
      refine Evt.succ (fun k => ?_) j1
      rw [spec_l5Exact.l0, if_pos (by omega), if_pos (by omega), if_pos (e46.2 c46), s46, ← hf]
    · have hf : nx c = decide (c = 45) := by unfold nx; rw [decide_eq_false c46, Bool.false_or]
      refine Evt.succ (fun k => ?_) j1
      rw [spec_l5Exact.l0, if_pos (by omega), if_pos (by omega), if_neg (fun h => c46 (e46.1 h)), s45, ← hf]
theorem exact_evt (s : ByteArray) (hs : s.size ≤ 1000) : Evt (fun k => spec_l5Exact.f k s) ((bl false s.data.toList).map fun b => (b.2 : Int)) := by
  have h := exact_l0 s hs s.size 0 [] (by omega) (by omega) (by simp)
  rw [List.drop_zero] at h
  exact h
def f1s (out : List S36) : List Int := out.map fun e => e.f1
theorem rdA2 (l : List S36) (i : Nat) (h : i < l.length) : rd_T36 l (i : Int) = l[i] := by
  unfold rd_T36
  rw [Int.toNat_natCast, List.getD_eq_getElem?_getD, List.getElem?_eq_getElem h]
  rfl
theorem f1s_last (out : List S36) (P : List Int) (v : Int) (h : f1s out = P ++ [v]) : ∃ n : Nat, out.length = n + 1 ∧ P.length = n ∧ (rd_T36 out (n : Int)).f1 = v ∧ ∀ e : S36, f1s (out.set n e) = P ++ [e.f1] := by
  have hl : out.length = P.length + 1 := by
    have := congrArg List.length h
    unfold f1s at this
    rw [List.length_map, List.length_append, List.length_singleton] at this
    exact this
  refine ⟨P.length, hl, rfl, ?_, fun e => ?_⟩
  · rw [rdA2 _ _ (by omega)]
    have h1 : (f1s out)[P.length]'(by unfold f1s; rw [List.length_map]; omega) = v := by
      simp only [h]
      simp
    unfold f1s at h1
    rw [List.getElem_map] at h1
    exact h1
  · unfold f1s at h ⊢
    rw [List.map_set, h]
    simp
theorem runs_new (x : ByteArray) (hx : x.size ≤ 100000) (i : Nat) (hi : i < x.size) (hd : i = 0 ∨ (0 < i ∧ ¬ bt x (i : Int) = bt x ((i - 1 : Nat) : Int))) (out : List S36) (P : List Int) (hP : f1s out = P) (ho : out.length ≤ i) : ∃ out' : List S36, f1s out' = P ++ [1] ∧ out'.length = out.length + 1 ∧ ∀ k, impl_runsOf.l0 (k + 1) x out x.size i = impl_runsOf.l0 k x out' x.size ((i + 1 : Nat) : Int) := by
  have hy0 : f1s (out ++ [(⟨((bt x (i : Int)) - 48) % 256, 0⟩ : S36)]) = P ++ [0] := by
    unfold f1s at hP ⊢
    rw [List.map_append, hP]
    rfl
  have hyl : (out ++ [(⟨((bt x (i : Int)) - 48) % 256, 0⟩ : S36)]).length = out.length + 1 := by rw [List.length_append, List.length_singleton]
  have step : ∀ k, impl_runsOf.l0 (k + 1) x out x.size i = (some (out ++ [(⟨((bt x (i : Int)) - 48) % 256, 0⟩ : S36)])).bind fun y197 => if 0 ≤ (wrap64 ((y197.length : Int) - 1)) then (if (wrap64 ((y197.length : Int) - 1)) < (y197.length : Int) then (impl_runsOf.l0 k x (y197.set ((wrap64 ((y197.length : Int) - 1)) : Int).toNat (⟨(rd_T36 y197 (wrap64 ((y197.length : Int) - 1))).f0, wrap64 (((rd_T36 y197 (wrap64 ((y197.length : Int) - 1))).f1) + 1)⟩ : S36)) x.size (wrap64 ((i : Int) + 1))) else (none)) else (none) := by
    intro k
    rcases hd with h0 | ⟨h0, hne⟩
    · rw [impl_runsOf.l0, if_pos (show (i : Int) < (x.size : Int) by omega), if_pos (show (i : Int) = 0 by omega), if_pos (show (0 : Int) ≤ (i : Int) by omega), if_pos (show (i : Int) < (x.size : Int) by omega), if_pos (show out.length < 8796093022208 by omega)]
    · have wm : wrap64 ((i : Int) - 1) = ((i - 1 : Nat) : Int) := by unfold wrap64; omega
      rw [impl_runsOf.l0, if_pos (show (i : Int) < (x.size : Int) by omega), if_neg (show ¬ (i : Int) = 0 by omega), if_pos (show (0 : Int) ≤ (i : Int) by omega), if_pos (show (i : Int) < (x.size : Int) by omega), wm, if_pos (show (0 : Int) ≤ ((i - 1 : Nat) : Int) by omega), if_pos (show ((i - 1 : Nat) : Int) < (x.size : Int) by omega), if_neg hne, if_pos (show out.length < 8796093022208 by omega)]
  generalize (out ++ [(⟨((bt x (i : Int)) - 48) % 256, 0⟩ : S36)]) = y at hy0 hyl step
  obtain ⟨n, n1, n2, n3, n4⟩ := f1s_last y P 0 hy0
  have wl : wrap64 ((y.length : Int) - 1) = (n : Int) := by
    rw [n1]
    unfold wrap64
    omega
  have wi : wrap64 ((i : Int) + 1) = ((i + 1 : Nat) : Int) := wrap_succ i (by omega)
  have w1 : wrap64 ((0 : Int) + 1) = 1 := by unfold wrap64; omega
  refine ⟨y.set n ⟨(rd_T36 y (n : Int)).f0, 1⟩, n4 _, by rw [List.length_set, hyl], fun k => ?_⟩
  rw [step, Option.bind_some, wl, if_pos (show (0 : Int) ≤ (n : Int) by omega), if_pos (show (n : Int) < (y.length : Int) by omega), n3, w1, wi, Int.toNat_natCast]
theorem runs_same (x : ByteArray) (hx : x.size ≤ 100000) (i : Nat) (hi : i < x.size) (h0 : 0 < i) (he : bt x (i : Int) = bt x ((i - 1 : Nat) : Int)) (out : List S36) (P : List Int) (v : Nat) (hv : v ≤ 100000) (hP : f1s out = P ++ [(v : Int)]) (ho : out.length ≤ i) : ∃ out' : List S36, f1s out' = P ++ [((v + 1 : Nat) : Int)] ∧ out'.length = out.length ∧ ∀ k, impl_runsOf.l0 (k + 1) x out x.size i = impl_runsOf.l0 k x out' x.size ((i + 1 : Nat) : Int) := by
  obtain ⟨n, n1, n2, n3, n4⟩ := f1s_last out P v hP
  have a1 : (i : Int) < (x.size : Int) := by omega
  have a2 : ¬ (i : Int) = 0 := by omega
  have a3 : (0 : Int) ≤ (i : Int) := by omega
  have a4 : (0 : Int) ≤ ((i - 1 : Nat) : Int) := by omega
  have a5 : ((i - 1 : Nat) : Int) < (x.size : Int) := by omega
  have a6 : (0 : Int) ≤ (n : Int) := by omega
  have a7 : (n : Int) < (out.length : Int) := by omega
  have wm : wrap64 ((i : Int) - 1) = ((i - 1 : Nat) : Int) := by unfold wrap64; omega
  have step : ∀ k, impl_runsOf.l0 (k + 1) x out x.size i = if 0 ≤ (wrap64 ((out.length : Int) - 1)) then (if (wrap64 ((out.length : Int) - 1)) < (out.length : Int) then (impl_runsOf.l0 k x (out.set ((wrap64 ((out.length : Int) - 1)) : Int).toNat (⟨(rd_T36 out (wrap64 ((out.length : Int) - 1))).f0, wrap64 (((rd_T36 out (wrap64 ((out.length : Int) - 1))).f1) + 1)⟩ : S36)) x.size (wrap64 ((i : Int) + 1))) else (none)) else (none) := by
    intro k
    rw [impl_runsOf.l0, if_pos a1, if_neg a2, if_pos a3, if_pos a1, wm, if_pos a4, if_pos a5, if_pos he]
  have wl : wrap64 ((out.length : Int) - 1) = (n : Int) := by
    rw [n1]
    unfold wrap64
    omega
  have wi : wrap64 ((i : Int) + 1) = ((i + 1 : Nat) : Int) := wrap_succ i (by omega)
  have w1 : wrap64 ((v : Int) + 1) = ((v + 1 : Nat) : Int) := wrap_succ v (by omega)
  refine ⟨out.set n ⟨(rd_T36 out (n : Int)).f0, ((v + 1 : Nat) : Int)⟩, n4 _, by rw [List.length_set], fun k => ?_⟩
  rw [step, wl, if_pos a6, if_pos a7, n3, w1, wi, Int.toNat_natCast]
theorem bt_mid (x : ByteArray) (pre : List UInt8) (c : UInt8) (r : List UInt8) (h : dl x = pre ++ c :: r) : pre.length < x.size ∧ bt x (pre.length : Int) = (c.toNat : Int) := by
  have h' : x.data.toList = pre ++ c :: r := h
  have hl : pre.length < x.size := by
    rw [← size_data x, h', List.length_append, List.length_cons]
    omega
  refine ⟨hl, ?_⟩
  rw [bt_get x _ hl]
  have e : x.data.toList[pre.length]'(by rw [size_data]; exact hl) = c := by simp [h']
  rw [e]
theorem bt_last (x : ByteArray) (pre : List UInt8) (a : UInt8) (r : List UInt8) (h : dl x = pre ++ r) (hp : ∃ q, pre = q ++ [a]) : 0 < pre.length ∧ bt x ((pre.length - 1 : Nat) : Int) = (a.toNat : Int) := by
  obtain ⟨q, rfl⟩ := hp
  have h2 : dl x = q ++ a :: r := by rw [h, List.append_assoc]; rfl
  have e := (bt_mid x q a r h2).2
  have l : (q ++ [a]).length = q.length + 1 := by simp
  rw [l, Nat.add_sub_cancel]
  exact ⟨by omega, e⟩
/-- The rest of a block. -/
theorem runs_rest (x : ByteArray) (hx : x.size ≤ 100000) (c : UInt8) (r : List UInt8) (m : Nat) : ∀ (pre : List UInt8) (out : List S36) (P : List Int) (v : Nat), dl x = pre ++ (List.replicate m c ++ r) → (∃ q, pre = q ++ [c]) → f1s out = P ++ [(v : Int)] → v ≤ pre.length → out.length ≤ pre.length → ∃ out' : List S36, f1s out' = P ++ [((v + m : Nat) : Int)] ∧ out'.length = out.length ∧ ∀ R, Evt (fun k => impl_runsOf.l0 k x out' x.size ((pre.length + m : Nat) : Int)) R → Evt (fun k => impl_runsOf.l0 k x out x.size (pre.length : Nat)) R := by
  induction m with
  | zero => intro pre out P v _ _ hP _ _; exact ⟨out, hP, rfl, fun R h => h⟩
  | succ m ih =>
    intro pre out P v hd hp hP hv ho
    rw [List.replicate_succ, List.cons_append] at hd
    obtain ⟨li, ei⟩ := bt_mid x pre c _ hd
    obtain ⟨l0, el⟩ := bt_last x pre c _ hd hp
    obtain ⟨out1, s1, s2, s3⟩ := runs_same x hx pre.length li l0 (ei.trans el.symm) out P v (by omega) hP ho
    have hl : (pre ++ [c]).length = pre.length + 1 := by simp
    obtain ⟨out2, t1, t2, t3⟩ := ih (pre ++ [c]) out1 P (v + 1) (by rw [hd, List.append_assoc]; rfl) ⟨pre, rfl⟩ s1 (by omega) (by omega)
    rw [hl] at t3
    refine ⟨out2, by rw [t1, show v + 1 + m = v + (m + 1) by omega], by omega, fun R h => Evt.succ s3 (t3 R ?_)⟩
    rw [show pre.length + 1 + m = pre.length + (m + 1) by omega]
    exact h
theorem runs_blocks (x : ByteArray) (hx : x.size ≤ 100000) : ∀ (B : List (UInt8 × Nat)) (a : UInt8) (pre : List UInt8) (out : List S36) (P : List Int), dl x = pre ++ flat B → (pre = [] ∨ ∃ q, pre = q ++ [a]) → alt a B → f1s out = P → out.length ≤ pre.length → ∃ R : List S36, f1s R = P ++ B.map (fun b => (b.2 : Int)) ∧ Evt (fun k => impl_runsOf.l0 k x out x.size (pre.length : Nat)) R := by
  intro B
  induction B with
  | nil =>
    intro a pre out P hd _ _ hP _
    have e : pre.length = x.size := by
      rw [← size_data x]
      show _ = (dl x).length
      rw [hd]
      simp [flat]
    refine ⟨out, by rw [hP, List.map_nil, List.append_nil], ?_⟩
    rw [e]
    have nl : ¬ (x.size : Int) < (x.size : Int) := by omega
    exact Evt.succ (fun k => by rw [impl_runsOf.l0, if_neg nl]) (Evt.const _)
  | cons b B ih =>
    intro a pre out P hd hp ha hP ho
    obtain ⟨c, n⟩ := b
    obtain ⟨h1, h2, h3⟩ := ha
    simp only at h1 h2 h3
    rw [flat_cons] at hd
    simp only at hd
    obtain ⟨m, rfl⟩ : ∃ m, n = m + 1 := ⟨n - 1, by omega⟩
    rw [List.replicate_succ, List.cons_append] at hd
    obtain ⟨li, ei⟩ := bt_mid x pre c _ hd
    have hdif : pre.length = 0 ∨ (0 < pre.length ∧ ¬ bt x (pre.length : Int) = bt x ((pre.length - 1 : Nat) : Int)) := by
      rcases hp with rfl | hp
      · exact .inl rfl
      · obtain ⟨l0, el⟩ := bt_last x pre a _ hd hp
        exact .inr ⟨l0, fun h => h1 ((nat_byte_ c a).1 (by rw [← ei, ← el]; exact h))⟩
    obtain ⟨out1, s1, s2, s3⟩ := runs_new x hx pre.length li hdif out P hP ho
    have hl : (pre ++ [c]).length = pre.length + 1 := by simp
    obtain ⟨out2, t1, t2, t3⟩ := runs_rest x hx c (flat B) m (pre ++ [c]) out1 P 1 (by rw [hd, List.append_assoc]; rfl) ⟨pre, rfl⟩ s1 (by omega) (by omega)
    have hl2 : (pre ++ List.replicate (m + 1) c).length = pre.length + (m + 1) := by simp
    obtain ⟨R, r1, r2⟩ := ih c (pre ++ List.replicate (m + 1) c) out2 (P ++ [((1 + m : Nat) : Int)]) (by rw [hd, List.append_assoc, List.replicate_succ, List.cons_append]) (.inr ⟨pre ++ List.replicate m c, by rw [List.replicate_succ', List.append_assoc]⟩) h3 t1 (by omega)
    refine ⟨R, by rw [r1, List.map_cons, List.append_assoc, Nat.add_comm 1 m]; rfl, Evt.succ s3 ?_⟩
    have t4 := t3 R
    rw [hl] at t4
    refine t4 ?_
    rw [show pre.length + 1 + m = pre.length + (m + 1) by omega, ← hl2]
    exact r2
theorem runs_evt (x : ByteArray) (hx : x.size ≤ 100000) (B : List (UInt8 × Nat)) (a : UInt8) (h : dl x = flat B) (ha : alt a B) : ∃ R : List S36, f1s R = B.map (fun b => (b.2 : Int)) ∧ Evt (fun k => impl_runsOf.f k x) R := by
  obtain ⟨R, r1, r2⟩ := runs_blocks x hx B a [] [] [] h (.inl rfl) ha rfl (Nat.le_refl _)
  exact ⟨R, by rw [r1, List.nil_append], r2⟩
theorem flat_len : ∀ (x : List UInt8) (p : Bool), (flat (bl p x)).length ≤ 7 * x.length
  | [], _ => Nat.le_refl _
  | c :: x, p => by
    have ih := flat_len x (nx c)
    show (flat (pr p c ++ bl (nx c) x)).length ≤ _
    rw [flat_append, List.length_append, List.length_cons]
    have h : (flat (pr p c)).length ≤ 7 := by
      unfold pr tm
      by_cases h1 : nx c = true
      · rw [if_pos h1]
        by_cases h2 : c = 45 <;> cases p <;> simp [flat, h2]
      · rw [if_neg h1]
        by_cases h2 : c = 32 <;> simp [flat, h2]
    omega
theorem joinF (l : List ByteArray) (s : ByteArray) (h1 : l.length ≤ 100000) (h2 : (Lib.join (l.map dl) (dl s)).length ≤ 100000) : ∃ J, strings_Join.f l s = some J ∧ dl J = Lib.join (l.map dl) (dl s) := by
  refine ⟨⟨(strings_Join.t l s).toArray⟩, ?_, ?_⟩
  · unfold strings_Join.f
    exact if_pos ⟨by omega, Nat.le_trans h2 (by omega)⟩
  · rfl
def sgB (b : Int) : ByteArray := if b = 46 then ⟨#[49]⟩ else if b = 45 then ⟨#[49, 49, 49]⟩ else ⟨#[]⟩
theorem sgB_dl (c : UInt8) : dl (sgB (c.toNat : Int)) = sg c := by
  have e1 := nat_byte_ c 46
  have e2 := nat_byte_ c 45
  change ((c.toNat : Int) = 46) ↔ c = 46 at e1
  change ((c.toNat : Int) = 45) ↔ c = 45 at e2
  unfold sgB sg
  by_cases h1 : c = 46
  · rw [if_pos h1, if_pos (e1.2 h1)]
    rfl
  · rw [if_neg h1, if_neg (fun h => h1 (e1.1 h))]
    by_cases h2 : c = 45
    · rw [if_pos h2, if_pos (e2.2 h2)]
      rfl
    · rw [if_neg h2, if_neg (fun h => h2 (e2.1 h))]
      rfl
/-- One letter's line. -/
theorem line_l2 (x3 x6 : List ByteArray) (m : ByteArray) (W : List (List ByteArray)) (x14 x15 : Int) (w : List ByteArray) (x21 x22 : Int) (hm : m.size ≤ 5) (h6 : x6.length ≤ 100000) (hn : ∀ c ∈ dl m, nx c = true) (he : dl m ≠ []) (hw : 0 ≤ x22) (hw2 : x22 ≤ 100000) (R : ByteArray) (next : ∀ J : ByteArray, dl J = flat (bl false (dl m)) → Evt (fun k => impl_lineOf.l1 k x3 (x6 ++ [J]) W x14 x15 w x21 (x22 + 1)) R) (d : Nat) : ∀ (j : Nat) (out : List ByteArray), j ≤ m.size → m.size - j = d → out.map dl = ((dl m).take j).map sg → Evt (fun k => impl_lineOf.l2 k x3 x6 m out W x14 x15 w x21 x22 (m.size : Int) j) R := by
  have hz : (dl m).length = m.size := size_data m
  induction d with
  | zero =>
    intro j out hj hd ho
    obtain rfl : j = m.size := by omega
    rw [List.take_of_length_le (by omega)] at ho
    have hl := flat_len (dl m) false
    have lo : out.length = (dl m).length := by
      have := congrArg List.length ho
      rw [List.length_map, List.length_map] at this
      exact this
    have e1 : Lib.join (out.map dl) (dl ⟨#[48]⟩) = flat (bl false (dl m)) := by
      rw [ho]
      exact letter_line0 (dl m) hn he
    obtain ⟨J, j1, j2⟩ := joinF out ⟨#[48]⟩ (by omega) (by rw [e1]; omega)
    have wi : wrap64 (x22 + 1) = x22 + 1 := by unfold wrap64; omega
    have c1 : ¬ (m.size : Int) < (m.size : Int) := by omega
    have c2 : x6.length < 8796093022208 := by omega
    exact Evt.succ (fun k => by rw [impl_lineOf.l2, if_neg c1, j1, Option.bind_some, if_pos c2, wi]) (next J (j2.trans e1))
  | succ d ih =>
    intro j out hj hd ho
    have lj : j < m.size := by omega
    have lo : out.length = j := by
      have := congrArg List.length ho
      rw [List.length_map, List.length_map, List.length_take] at this
      omega
    have e := bt_get m j lj
    have go := ih (j + 1) (out ++ [sgB (bt m (j : Int))]) (by omega) (by omega) (by
      rw [List.map_append, ho, List.take_succ_eq_append_getElem (by omega), List.map_append, List.map_singleton, List.map_singleton, e, sgB_dl]
      rfl)
    have c1 : (j : Int) < (m.size : Int) := by omega
    have c2 : (0 : Int) ≤ (j : Int) := by omega
    have c3 : out.length < 8796093022208 := by omega
    have wi : wrap64 ((j : Int) + 1) = ((j + 1 : Nat) : Int) := wrap_succ j (by omega)
    exact Evt.succ (fun k => by rw [impl_lineOf.l2, if_pos c1, if_pos c2, if_pos c1, wi]; show (mapLit.f _).bind _ = _; unfold mapLit.f; rw [Option.bind_some, if_pos c3]; rfl) go
/-- One word's line. -/
theorem line_l1 (x3 : List ByteArray) (W : List (List ByteArray)) (x14 : Int) (i : Nat) (hi : i ≤ 100000) (h3 : x3.length ≤ 100000) (w : List ByteArray) (hl : w.length ≤ 1000) (hw : ∀ m ∈ w, m.size ≤ 5 ∧ dl m ≠ [] ∧ ∀ c ∈ dl m, nx c = true) (y : List UInt8) (hy : w.map dl = spl 32 y) (hyl : y.length ≤ 10000) (R : ByteArray) (next : ∀ J : ByteArray, dl J = flat (bl false y) → Evt (fun k => impl_lineOf.l0 k (x3 ++ [J]) W x14 ((i + 1 : Nat) : Int)) R) (d : Nat) : ∀ (j : Nat) (out : List ByteArray), j ≤ w.length → w.length - j = d → out.map dl = (w.take j).map (fun m => flat (bl false (dl m))) → Evt (fun k => impl_lineOf.l1 k x3 out W x14 i w (w.length : Int) j) R := by
  induction d with
  | zero =>
    intro j out hj hd ho
    obtain rfl : j = w.length := by omega
    rw [List.take_of_length_le (by omega)] at ho
    have hlen := flat_len y false
    have lo : out.length = w.length := by
      have := congrArg List.length ho
      rw [List.length_map, List.length_map] at this
      exact this
    have e1 : Lib.join (out.map dl) (dl ⟨#[48, 48, 48]⟩) = flat (bl false y) := by
      have e2 := join_all 32 3 (fun p => rfl) rfl y
      rw [← hy, List.map_map] at e2
      rw [ho]
      exact e2
    obtain ⟨J, j1, j2⟩ := joinF out ⟨#[48, 48, 48]⟩ (by omega) (by rw [e1]; omega)
    have wi : wrap64 ((i : Int) + 1) = ((i + 1 : Nat) : Int) := wrap_succ i (by omega)
    have c1 : ¬ (w.length : Int) < (w.length : Int) := by omega
    have c2 : x3.length < 8796093022208 := by omega
    exact Evt.succ (fun k => by rw [impl_lineOf.l1, if_neg c1, j1, Option.bind_some, if_pos c2, wi]) (next J (j2.trans e1))
  | succ d ih =>
    intro j out hj hd ho
    have lj : j < w.length := by omega
    have lo : out.length = j := by
      have := congrArg List.length ho
      rw [List.length_map, List.length_map, List.length_take] at this
      omega
    obtain ⟨m1, m2, m3⟩ := hw w[j] (List.getElem_mem lj)
    have go := line_l2 x3 out w[j] W x14 i w (w.length : Int) (j : Int) m1 (by omega) m3 m2 (by omega) (by omega) R (fun J hJ => ih (j + 1) (out ++ [J]) (by omega) (by omega) (by
      rw [List.map_append, ho, List.take_succ_eq_append_getElem lj, List.map_append, List.map_singleton, List.map_singleton, hJ])) w[j].size 0 [] (by omega) (by omega) (by simp)
    have c1 : (j : Int) < (w.length : Int) := by omega
    have c2 : (0 : Int) ≤ (j : Int) := by omega
    exact Evt.succ (fun k => by rw [impl_lineOf.l1, if_pos c1, if_pos c2, if_pos c1, rdOf_get _ _ _ lj]; rfl) go
theorem line_l0 (W : List (List ByteArray)) (s : List UInt8) (hs : s.length ≤ 10000) (Y : List (List UInt8)) (eY : Y = spl 47 s) (hW : W.map (List.map dl) = Y.map (spl 32)) (hl : W.length ≤ 1000) (hw : ∀ w ∈ W, w.length ≤ 1000 ∧ ∀ m ∈ w, m.size ≤ 5 ∧ dl m ≠ [] ∧ ∀ c ∈ dl m, nx c = true) (d : Nat) : ∀ (i : Nat) (out : List ByteArray), i ≤ W.length → W.length - i = d → out.map dl = (Y.take i).map (fun y => flat (bl false y)) → ∃ J, dl J = flat (bl false s) ∧ Evt (fun k => impl_lineOf.l0 k out W (W.length : Int) i) J := by
  have hYl : Y.length = W.length := by
    have := congrArg List.length hW
    rw [List.length_map, List.length_map] at this
    exact this.symm
  have hys : ∀ y ∈ Y, y.length ≤ 10000 := by
    intro y hy
    have a := mem_sum Y y hy
    have b := spl_len 47 s
    rw [← eY] at b
    have : 1 ≤ Y.length := List.length_pos_of_mem hy
    omega
  induction d with
  | zero =>
    intro i out hi hd ho
    obtain rfl : i = W.length := by omega
    rw [List.take_of_length_le (by omega)] at ho
    have hlen := flat_len s false
    have lo : out.length = Y.length := by
      have := congrArg List.length ho
      rw [List.length_map, List.length_map] at this
      exact this
    have e1 : Lib.join (out.map dl) (dl ⟨#[48, 48, 48, 48, 48, 48, 48]⟩) = flat (bl false s) := by
      rw [ho, eY]
      exact join_all 47 7 (fun p => rfl) rfl s
    obtain ⟨J, j1, j2⟩ := joinF out ⟨#[48, 48, 48, 48, 48, 48, 48]⟩ (by omega) (by rw [e1]; omega)
    have c1 : ¬ (W.length : Int) < (W.length : Int) := by omega
    exact ⟨J, j2.trans e1, Evt.succ (fun k => by rw [impl_lineOf.l0, if_neg c1, j1, Option.bind_some]) (Evt.const _)⟩
  | succ d ih =>
    intro i out hi hd ho
    have li : i < W.length := by omega
    have li' : i < Y.length := by omega
    have lo : out.length = i := by
      have := congrArg List.length ho
      rw [List.length_map, List.length_map, List.length_take] at this
      omega
    have hx : W[i].map dl = spl 32 Y[i] := by
      have h1 : (W.map (List.map dl))[i]'(by rw [List.length_map]; exact li) = (Y.map (spl 32))[i]'(by rw [List.length_map]; exact li') := by simp only [hW]
      rw [List.getElem_map, List.getElem_map] at h1
      exact h1
    obtain ⟨g1, g2⟩ := hw W[i] (List.getElem_mem li)
    have sz : ∀ J : ByteArray, dl J = flat (bl false Y[i]) → (out ++ [J]).map dl = (Y.take (i + 1)).map (fun y => flat (bl false y)) := fun J hJ => by
      rw [List.map_append, ho, List.take_succ_eq_append_getElem li', List.map_append, List.map_singleton, List.map_singleton, hJ]
    -- the rest of the line does not depend on how the word's line is held
    obtain ⟨J0, hJ0⟩ : ∃ J0 : ByteArray, dl J0 = flat (bl false Y[i]) := ⟨⟨(flat (bl false Y[i])).toArray⟩, rfl⟩
    obtain ⟨J, q1, q2⟩ := ih (i + 1) (out ++ [J0]) (by omega) (by omega) (sz J0 hJ0)
    have go := line_l1 out W (W.length : Int) i (by omega) (by omega) W[i] g1 g2 Y[i] hx (hys _ (List.getElem_mem li')) J (fun J' hJ' => by rw [dl_inj J' J0 (hJ'.trans hJ0.symm)]; exact q2) W[i].length 0 [] (by omega) (by omega) (by simp)
    have c1 : (i : Int) < (W.length : Int) := by omega
    have c2 : (0 : Int) ≤ (i : Int) := by omega
    exact ⟨J, q1, Evt.succ (fun k => by rw [impl_lineOf.l0, if_pos c1, if_pos c2, if_pos c1, rdL2_nat _ _ li]; rfl) go⟩

/-! ### times -/
/-- The lengths of a signal's runs: the program's and the reference's. -/
theorem ok_letter (m : ByteArray) (h : okMarks m 1 5 = true) : m.size ≤ 5 ∧ dl m ≠ [] ∧ ∀ c ∈ dl m, nx c = true := by
  have hz : (dl m).length = m.size := size_data m
  unfold okMarks at h
  rw [Bool.and_eq_true, decide_eq_true_eq, List.all_eq_true] at h
  obtain ⟨⟨h1, h2⟩, h3⟩ := h
  refine ⟨by omega, fun e => ?_, fun c hc => ?_⟩
  · rw [e, List.length_nil] at hz
    omega
  · have := h3 c hc
    unfold okc at this
    unfold nx
    simpa using this
theorem spl_mem (s : UInt8) : ∀ (x : List UInt8) (c : UInt8), c ∈ x → c = s ∨ ∃ p ∈ spl s x, c ∈ p := by
  intro x
  induction x with
  | nil => intro c h; cases h
  | cons b l ih =>
    intro c h
    obtain ⟨g, t, e⟩ := spl_ne s l
    unfold spl
    by_cases hb : b = s
    · rw [if_pos hb]
      rcases List.mem_cons.1 h with rfl | h
      · exact .inl hb
      · rcases ih c h with q | ⟨p, p1, p2⟩
        · exact .inl q
        · exact .inr ⟨p, List.mem_cons_of_mem _ p1, p2⟩
    · rw [if_neg hb, e]
      rw [e] at ih
      simp only
      rcases List.mem_cons.1 h with rfl | h
      · exact .inr ⟨c :: g, List.mem_cons_self, List.mem_cons_self⟩
      · rcases ih c h with q | ⟨p, p1, p2⟩
        · exact .inl q
        · rcases List.mem_cons.1 p1 with rfl | p1
          · exact .inr ⟨b :: p, List.mem_cons_self, List.mem_cons_of_mem _ p2⟩
          · exact .inr ⟨p, List.mem_cons_of_mem _ p1, p2⟩
theorem bl_len : ∀ (x : List UInt8) (p : Bool), (bl p x).length ≤ 2 * x.length
  | [], _ => Nat.le_refl _
  | c :: x, p => by
    have ih := bl_len x (nx c)
    show (pr p c ++ bl (nx c) x).length ≤ _
    rw [List.length_append, List.length_cons]
    have h : (pr p c).length ≤ 2 := by
      unfold pr
      by_cases h1 : nx c = true
      · rw [if_pos h1]
        cases p <;> simp
      · rw [if_neg h1]
        by_cases h2 : c = 32 <;> simp [h2]
    omega
theorem times_l0 (l : List S36) (hl : l.length ≤ 100000) (d : Nat) : ∀ (i : Nat) (out : List Int), i ≤ l.length → l.length - i = d → out = (f1s l).take i → Evt (fun k => impl_timesOf.l0 k out l (l.length : Int) i) (f1s l) := by
  have hf : (f1s l).length = l.length := by unfold f1s; rw [List.length_map]
  induction d with
  | zero =>
    intro i out hi hd ho
    obtain rfl : i = l.length := by omega
    rw [List.take_of_length_le (by omega)] at ho
    subst ho
    have c1 : ¬ (l.length : Int) < (l.length : Int) := by omega
    exact Evt.succ (fun k => by rw [impl_timesOf.l0, if_neg c1]) (Evt.const _)
  | succ d ih =>
    intro i out hi hd ho
    have li : i < l.length := by omega
    have go := ih (i + 1) (out ++ [(l[i]).f1]) (by omega) (by omega) (by
      rw [List.take_succ_eq_append_getElem (by omega), ← ho]
      unfold f1s
      rw [List.getElem_map])
    have lo : out.length ≤ i := by rw [ho, List.length_take]; omega
    have c1 : (i : Int) < (l.length : Int) := by omega
    have c2 : (0 : Int) ≤ (i : Int) := by omega
    have c3 : out.length < 17592186044416 := by omega
    have wi : wrap64 ((i : Int) + 1) = ((i + 1 : Nat) : Int) := wrap_succ i (by omega)
    exact Evt.succ (fun k => by rw [impl_timesOf.l0, if_pos c1, if_pos c2, if_pos c1, if_pos c3, rdA2 l i li, wi]) go
theorem mem_sumN (l : List Nat) (n : Nat) (h : n ∈ l) : n ≤ l.sum := by
  induction l with
  | nil => cases h
  | cons x l ih =>
    rw [List.sum_cons]
    rcases List.mem_cons.1 h with rfl | h
    · omega
    · have := ih h
      omega
theorem times_evt (s : ByteArray) (W : List (List ByteArray)) (w2 : Evt (fun k => impl_lettersOf.f k s) W) (w3 : W.map (List.map dl) = (spl 47 (dl s)).map (spl 32)) (hok : W.all okW = true) (hW : sumL W + W.length ≤ 13) (h72 : s.size ≤ 72) : ∃ X : List Int, X.length ≤ 1000 ∧ Evt (fun k => spec_l5Exact.f k s) X ∧ Evt (fun k => impl_timesOf.f k s) X := by
  have hz : (dl s).length = s.size := size_data s
  have hlet : ∀ w ∈ W, ∀ m ∈ w, m.size ≤ 5 ∧ dl m ≠ [] ∧ ∀ c ∈ dl m, nx c = true := by
    intro w hw m hm
    have a := List.all_eq_true.1 hok w hw
    exact ok_letter m (okW_mem w a m hm).2
  have hin : ∀ y ∈ spl 47 (dl s), ∀ q ∈ spl 32 y, ∃ m : ByteArray, q = dl m ∧ dl m ≠ [] ∧ ∀ c ∈ dl m, nx c = true := by
    intro y hy q hq
    have h1 : spl 32 y ∈ W.map (List.map dl) := by rw [w3]; exact List.mem_map_of_mem hy
    obtain ⟨w, hw, e⟩ := List.mem_map.1 h1
    rw [← e] at hq
    obtain ⟨m, hm, e2⟩ := List.mem_map.1 hq
    exact ⟨m, e2.symm, (hlet w hw m hm).2⟩
  have hwl : ∀ w ∈ W, w.length ≤ 1000 := by
    intro w hw
    have : w.length ∈ W.map List.length := List.mem_map_of_mem hw
    have h2 : w.length ≤ sumL W := by
      unfold sumL
      exact mem_sumN _ _ this
    omega
  have hWl : W.length ≤ 1000 := by omega
  obtain ⟨J, j1, j2⟩ := line_l0 W (dl s) (by omega) _ rfl w3 hWl (fun w hw => ⟨hwl w hw, hlet w hw⟩) W.length 0 [] (by omega) (by omega) (by simp)
  have hbytes : ∀ c ∈ dl s, nx c = true ∨ c = 32 ∨ c = 47 := by
    intro c hc
    rcases spl_mem 47 (dl s) c hc with e | ⟨y, y1, y2⟩
    · exact .inr (.inr e)
    · rcases spl_mem 32 y c y2 with e | ⟨q, q1, q2⟩
      · exact .inr (.inl e)
      · obtain ⟨m, e, m2, m3⟩ := hin y y1 q q1
        exact .inl (m3 c (by rw [← e]; exact q2))
  have hQ : Q true (dl s) := by
    obtain ⟨h, t, e⟩ := spl_ne 47 (dl s)
    obtain ⟨h2, t2, e2⟩ := spl_ne 32 h
    rw [e] at hin
    have ne : ∀ y ∈ h :: t, ∀ q ∈ spl 32 y, q ≠ [] := fun y hy q hq => by
      obtain ⟨m, e, m2, m3⟩ := hin y hy q hq
      rw [e]
      exact m2
    exact ⟨h, t, h2, t2, e, e2, fun y hy m hm => ne y (List.mem_cons_of_mem _ hy) m hm, fun m hm => ne h List.mem_cons_self m (by rw [e2]; exact List.mem_cons_of_mem _ hm), fun _ => ne h List.mem_cons_self h2 (by rw [e2]; exact List.mem_cons_self)⟩
  have halt := Q_alt (dl s) true hbytes hQ
  have hfl := flat_len (dl s) false
  have hJ : J.size ≤ 100000 := by
    have : (dl J).length = J.size := size_data J
    rw [j1] at this
    omega
  obtain ⟨R, r1, r2⟩ := runs_evt J hJ _ _ j1 halt
  have hbl := bl_len (dl s) false
  have hR : R.length ≤ 1000 := by
    have := congrArg List.length r1
    unfold f1s at this
    rw [List.length_map, List.length_map] at this
    change R.length = (bl false (dl s)).length at this
    omega
  have ex := exact_evt s (by omega)
  have tm := times_l0 R (by omega) R.length 0 [] (by omega) (by omega) (by simp)
  rw [r1] at tm
  refine ⟨(bl false (dl s)).map (fun b => (b.2 : Int)), by rw [List.length_map]; omega, ex, Evt.bind (Evt.bind w2 j2) (Evt.bind r2 tm)⟩
theorem unit_eq (u : Int) : spec_l5Unit.f u = some (decide (1 ≤ u ∧ u ≤ 99)) ∧ impl_isUnit.f u = some (decide (1 ≤ u ∧ u ≤ 99)) := by
  constructor
  · unfold spec_l5Unit.f
    rw [l1In_eq]
    rfl
  · unfold impl_isUnit.f
    rw [in_eq]
    rfl
/-- Both sides look at the text and the unit, then read the lengths, or say no. -/
theorem both_evt {α : Type} (s : ByteArray) (hs : s.size ≤ 1048576) (u : Int) (F G : Nat → Option α) (sj ij : Nat → Bool → Option α) (eF : ∀ k, F k = (spec_l2Signal.f k s).bind fun t => if t = true then (if s.toList = ([] : List UInt8) then sj k true else (spec_l5Unit.f u).bind fun t => sj k (!t)) else sj k true) (eG : ∀ k, G k = if s.toList = ([] : List UInt8) then ij k true else (impl_isSignal.f k s).bind fun t => if t = true then (impl_isUnit.f u).bind fun t => ij k (!t) else ij k true) (no : α) (hs0 : Evt (fun k => sj k true) no) (hi0 : Evt (fun k => ij k true) no) (P : α → Prop) (hno : P no) (ok : (1 ≤ u ∧ u ≤ 99) → ∀ X : List Int, X.length ≤ 1000 → Evt (fun k => spec_l5Exact.f k s) X → Evt (fun k => impl_timesOf.f k s) X → ∃ r, P r ∧ Evt (fun k => sj k false) r ∧ Evt (fun k => ij k false) r) : ∃ r, P r ∧ Evt F r ∧ Evt G r := by
  by_cases he : s.toList = []
  · exact ⟨no, hno, Evt.of_eq eF (Evt.bind (signal_none s he).1 (Evt.ite_pos rfl (Evt.ite_pos he hs0))), Evt.of_eq eG (Evt.ite_pos he hi0)⟩
  · obtain ⟨W, b, w1, w2, w3, b1, b2, b3⟩ := signal_words s hs he
    cases b with
    | false => exact ⟨no, hno, Evt.of_eq eF (Evt.bind b1 (Evt.ite_neg (by simp) hs0)), Evt.of_eq eG (Evt.ite_neg he (Evt.bind b2 (Evt.ite_neg (by simp) hi0)))⟩
    | true =>
      obtain ⟨c1, c2, c3, c4⟩ := b3 rfl
      obtain ⟨X, x1, x2, x3⟩ := times_evt s W w2 w3 c1 c2 c4
      obtain ⟨u1, u2⟩ := unit_eq u
      have v1 : Evt (fun _ => spec_l5Unit.f u) (decide (1 ≤ u ∧ u ≤ 99)) := (Evt.const _).of_eq (fun _ => u1)
      have v2 : Evt (fun _ => impl_isUnit.f u) (decide (1 ≤ u ∧ u ≤ 99)) := (Evt.const _).of_eq (fun _ => u2)
      by_cases hu : 1 ≤ u ∧ u ≤ 99
      · rw [decide_eq_true hu] at v1 v2
        obtain ⟨r, r1, r2, r3⟩ := ok hu X x1 x2 x3
        exact ⟨r, r1, Evt.of_eq eF (Evt.bind b1 (Evt.ite_pos rfl (Evt.ite_neg he (Evt.bind v1 r2)))), Evt.of_eq eG (Evt.ite_neg he (Evt.bind b2 (Evt.ite_pos rfl (Evt.bind v2 r3))))⟩
      · rw [decide_eq_false hu] at v1 v2
        exact ⟨no, hno, Evt.of_eq eF (Evt.bind b1 (Evt.ite_pos rfl (Evt.ite_neg he (Evt.bind v1 hs0)))), Evt.of_eq eG (Evt.ite_neg he (Evt.bind b2 (Evt.ite_pos rfl (Evt.bind v2 hi0))))⟩

/-! ### eqIntA2 -/
/-- The law's own looks at a row of arrays of 2 whole numbers. -/
theorem eqIntA2_evt (a0 a1 : Int) : Evt (fun k => laws_eqIntA2.f k a0 a1 a0 a1) true := by
  refine Evt.succ (h := fun k => laws_eqIntA2.l0 k 1 a0 a1 a0 a1) (fun k => ?_) ?_
  · show laws_eqIntA2.l0 (k + 1) 0 a0 a1 a0 a1 = _
    rw [laws_eqIntA2.l0, if_pos (by decide), if_pos (by decide), if_pos rfl, if_pos rfl, show wrap64 (0 + 1) = 1 by unfold wrap64; omega]
  refine Evt.succ (h := fun k => laws_eqIntA2.l0 k 2 a0 a1 a0 a1) (fun k => ?_) ?_
  · rw [laws_eqIntA2.l0, if_pos (by decide), if_pos (by decide), if_neg (by decide), if_pos rfl, if_pos rfl, show wrap64 (1 + 1) = 2 by unfold wrap64; omega]
  refine Evt.succ (h := fun _ => some true) (fun k => ?_) (Evt.const _)
  rw [laws_eqIntA2.l0, if_neg (by decide)]

/-! ### marksIntA2S -/
theorem rdT2_nat (l : List S36) (i : Nat) (h : i < l.length) : rd_T36 l (i : Int) = l[i] := by
  unfold rd_T36
  rw [Int.toNat_natCast, List.getD_eq_getElem?_getD, List.getElem?_eq_getElem h]
  rfl
theorem rdT2_set (l : List S36) (i : Nat) (e : S36) (h : i < l.length) : rd_T36 (l.set i e) (i : Int) = e := by
  rw [rdT2_nat _ _ (by rw [List.length_set]; exact h), List.getElem_set_self]
theorem eqIntA2S_l0 (l : List S36) (hl : l.length ≤ 1099511627776) (d : Nat) : ∀ (i : Nat), i ≤ l.length → l.length - i = d → Evt (fun k => laws_eqIntA2S.l0 k l l i) true := by
  induction d with
  | zero =>
    intro i hi hd
    refine Evt.succ (h := fun _ => some true) (fun k => ?_) (Evt.const _)
    rw [laws_eqIntA2S.l0, if_neg (by omega)]
  | succ d ih =>
    intro i hi hd
    refine Evt.succ (fun k => ?_) (Evt.bind (h := fun k b => if b = true then laws_eqIntA2S.l0 k l l ((i + 1 : Nat) : Int) else some false) (eqIntA2_evt (rd_T36 l (i : Int)).f0 (rd_T36 l (i : Int)).f1) (Evt.ite_pos rfl (ih (i + 1) (by omega) (by omega))))
    rw [laws_eqIntA2S.l0, if_pos (by omega), if_pos (by omega), if_pos (by omega), wrap_succ i (by omega)]
theorem eqIntA2S_evt (l : List S36) (hl : l.length ≤ 1099511627776) : Evt (fun k => laws_eqIntA2S.f k l l) true := by
  refine (eqIntA2S_l0 l hl l.length 0 (by omega) (by omega)).of_eq (fun k => ?_)
  unfold laws_eqIntA2S.f
  rw [if_pos rfl]
  rfl
def mkIntA2S (n : Nat) : List S36 := (List.range n).map fun i => ⟨((2 * i + 1 : Nat) : Int), ((2 * i + 2 : Nat) : Int)⟩
theorem mkIntA2S_len (n : Nat) : (mkIntA2S n).length = n := by unfold mkIntA2S; rw [List.length_map, List.length_range]
theorem mkIntA2S_get (n i : Nat) (h : i < (mkIntA2S n).length) : (mkIntA2S n)[i] = ⟨((2 * i + 1 : Nat) : Int), ((2 * i + 2 : Nat) : Int)⟩ := by
  simp only [mkIntA2S, List.getElem_map, List.getElem_range]
theorem markIntA2S_step (x : List S36) (i : Nat) (hi : i < x.length) (hx : x.length ≤ 1099511627776) {r : Int × List S36} (H : Evt (fun k => laws_markIntA2S.l0 k (x.set i ⟨((2 * i + 1 : Nat) : Int), ((2 * i + 2 : Nat) : Int)⟩) ((2 * (i + 1) + 1 : Nat) : Int) ((i + 1 : Nat) : Int)) r) : Evt (fun k => laws_markIntA2S.l0 k x ((2 * i + 1 : Nat) : Int) i) r := by
  refine Evt.succ (h := fun k => laws_markIntA2S.l1 k x ((2 * i + 1 : Nat) : Int) i 0) (fun k => by rw [laws_markIntA2S.l0, if_pos (by omega)]) ?_
  refine Evt.succ (h := fun k => laws_markIntA2S.l1 k (x.set i ⟨((2 * i + 1 : Nat) : Int), (rd_T36 x (i : Int)).f1⟩) ((2 * i + 2 : Nat) : Int) i 1) (fun k => ?_) ?_
  · rw [laws_markIntA2S.l1, if_pos (by decide), if_pos (by omega), if_pos (by omega), if_pos (by decide), if_pos rfl, Int.toNat_natCast, wrap_succ (2 * i + 1) (by omega), show wrap64 (0 + 1) = 1 by unfold wrap64; omega]
  refine Evt.succ (h := fun k => laws_markIntA2S.l1 k (x.set i ⟨((2 * i + 1 : Nat) : Int), ((2 * i + 2 : Nat) : Int)⟩) ((2 * i + 3 : Nat) : Int) i 2) (fun k => ?_) ?_
  · rw [laws_markIntA2S.l1, if_pos (by decide), if_pos (by omega), if_pos (by rw [List.length_set]; omega), if_pos (by decide), if_neg (by decide), if_pos rfl, Int.toNat_natCast, wrap_succ (2 * i + 2) (by omega), show wrap64 (1 + 1) = 2 by unfold wrap64; omega]
    rw [rdT2_set _ _ _ hi, List.set_set]
  refine Evt.succ (fun k => ?_) H
  rw [laws_markIntA2S.l1, if_neg (by decide), wrap_succ i (by omega)]
  rfl
theorem markIntA2S_l0 (n : Nat) (hl : n ≤ 1099511627776) (d : Nat) : ∀ (i : Nat) (x : List S36), i ≤ n → n - i = d → x.length = n → x.take i = (mkIntA2S n).take i → Evt (fun k => laws_markIntA2S.l0 k x ((2 * i + 1 : Nat) : Int) i) (((2 * n + 1 : Nat) : Int), mkIntA2S n) := by
  induction d with
  | zero =>
    intro i x hi hd hx ht
    have e : x = mkIntA2S n := by
      have h1 : i = n := by omega
      have h2 := mkIntA2S_len n
      rw [h1, List.take_of_length_le (by omega), List.take_of_length_le (by omega)] at ht
      exact ht
    subst e
    obtain rfl : i = n := by omega
    refine Evt.succ (h := fun _ => some (((2 * i + 1 : Nat) : Int), mkIntA2S i)) (fun k => ?_) (Evt.const _)
    rw [laws_markIntA2S.l0, if_neg (by omega)]
  | succ d ih =>
    intro i x hi hd hx ht
    have h2 := mkIntA2S_len n
    refine markIntA2S_step x i (by omega) (by omega) (ih (i + 1) _ (by omega) (by omega) (by rw [List.length_set]; exact hx) ?_)
    rw [List.take_succ_eq_append_getElem (by rw [List.length_set]; omega), List.take_succ_eq_append_getElem (by omega), List.take_set_of_le (by omega), ht, List.getElem_set_self, mkIntA2S_get]
theorem markIntA2S_evt (l : List S36) (hl : l.length ≤ 1099511627776) : Evt (fun k => laws_markIntA2S.f k l 1) (((2 * l.length + 1 : Nat) : Int), mkIntA2S l.length) :=
  markIntA2S_l0 l.length hl l.length 0 l (by omega) (by omega) rfl rfl
theorem heldIntA2S_l0 (n : Nat) (hl : n ≤ 1099511627776) (d : Nat) : ∀ (i : Nat), i ≤ n → n - i = d → Evt (fun k => laws_heldIntA2S.l0 k (mkIntA2S n) ((2 * i + 1 : Nat) : Int) i) ((2 * n + 1 : Nat) : Int) := by
  have h2 := mkIntA2S_len n
  induction d with
  | zero =>
    intro i hi hd
    obtain rfl : i = n := by omega
    refine Evt.succ (h := fun _ => some ((2 * i + 1 : Nat) : Int)) (fun k => ?_) (Evt.const _)
    rw [laws_heldIntA2S.l0, if_neg (by omega)]
  | succ d ih =>
    intro i hi hd
    refine Evt.succ (h := fun k => laws_heldIntA2S.l1 k (mkIntA2S n) ((2 * i + 1 : Nat) : Int) i 0) (fun k => by rw [laws_heldIntA2S.l0, if_pos (by omega)]) ?_
    refine Evt.succ (h := fun k => laws_heldIntA2S.l1 k (mkIntA2S n) ((2 * i + 2 : Nat) : Int) i 1) (fun k => ?_) ?_
    · rw [laws_heldIntA2S.l1, if_pos (by decide), if_pos (by omega), if_pos (by omega), if_pos (by decide), if_pos rfl, rdT2_nat _ _ (by omega), mkIntA2S_get, if_pos rfl, wrap_succ (2 * i + 1) (by omega), show wrap64 (0 + 1) = 1 by unfold wrap64; omega]
    refine Evt.succ (h := fun k => laws_heldIntA2S.l1 k (mkIntA2S n) ((2 * i + 3 : Nat) : Int) i 2) (fun k => ?_) ?_
    · rw [laws_heldIntA2S.l1, if_pos (by decide), if_pos (by omega), if_pos (by omega), if_pos (by decide), if_neg (by decide), if_pos rfl, rdT2_nat _ _ (by omega), mkIntA2S_get, if_pos rfl, wrap_succ (2 * i + 2) (by omega), show wrap64 (1 + 1) = 2 by unfold wrap64; omega]
    refine Evt.succ (fun k => ?_) (ih (i + 1) (by omega) (by omega))
    rw [laws_heldIntA2S.l1, if_neg (by decide), wrap_succ i (by omega)]
    rfl
theorem heldIntA2S_evt (n : Nat) (hl : n ≤ 1099511627776) : Evt (fun k => laws_heldIntA2S.f k (mkIntA2S n) 1) ((2 * n + 1 : Nat) : Int) :=
  heldIntA2S_l0 n hl n 0 (by omega) (by omega)

theorem bounds_l0 (u : Int) (X : List Int) (hX : X.length ≤ 1000) (d : Nat) : ∀ (i : Nat) (x : List S36), x.length ≤ i → i ≤ X.length → X.length - i = d → ∃ r : List S36, r.length ≤ 1000 ∧ Evt (fun k => spec_BoundsOf.l0 k u x X i) (r, true) ∧ Evt (fun k => impl_BoundsOf.l0 k u x X (X.length : Int) i) (r, true) := by
  induction d with
  | zero =>
    intro i x hx hi hd
    have c1 : ¬ (i : Int) < (X.length : Int) := by omega
    exact ⟨x, by omega, Evt.succ (fun k => by rw [spec_BoundsOf.l0, if_neg c1]) (Evt.const _), Evt.succ (fun k => by rw [impl_BoundsOf.l0, if_neg c1]) (Evt.const _)⟩
  | succ d ih =>
    intro i x hx hi hd
    have c1 : (i : Int) < (X.length : Int) := by omega
    have c2 : (0 : Int) ≤ (i : Int) := by omega
    have c3 : x.length < 8796093022208 := by omega
    have wi : wrap64 ((i : Int) + 1) = ((i + 1 : Nat) : Int) := wrap_succ i (by omega)
    have go := fun e : S36 => ih (i + 1) (x ++ [e]) (by rw [List.length_append, List.length_singleton]; omega) (by omega) (by omega)
    by_cases v1 : rd X (i : Int) = 1
    · obtain ⟨r, r0, r1, r2⟩ := go _
      exact ⟨r, r0, Evt.succ (fun k => by rw [spec_BoundsOf.l0, if_pos c1, if_pos c2, if_pos v1, if_pos c3, wi]) r1, Evt.succ (fun k => by rw [impl_BoundsOf.l0, if_pos c1, if_pos c2, if_pos c1, if_pos v1, if_pos c3, wi]) r2⟩
    · -- what either side does behind the test
      have j2 : ∀ b : Bool, ∃ r : List S36, r.length ≤ 1000 ∧ Evt (fun k => spec_BoundsOf.j2 k u x X i b) (r, true) ∧ Evt (fun k => impl_BoundsOf.j2 k u x (rd X (i : Int)) X (X.length : Int) i b) (r, true) := by
        intro b
        cases b with
        | true =>
          obtain ⟨r, r0, r1, r2⟩ := go _
          exact ⟨r, r0, Evt.succ (fun k => by rw [spec_BoundsOf.j2, if_pos rfl, if_pos c3, wi]) r1, Evt.succ (fun k => by rw [impl_BoundsOf.j2, if_pos rfl, if_pos c3, wi]) r2⟩
        | false =>
          have nb : ¬ (false = true) := by simp
          by_cases v3 : rd X (i : Int) = 3
          · obtain ⟨r, r0, r1, r2⟩ := go _
            exact ⟨r, r0, Evt.succ (fun k => by rw [spec_BoundsOf.j2, if_neg nb, if_pos c2, if_pos c1, if_pos v3, if_pos c3, wi]) r1, Evt.succ (fun k => by rw [impl_BoundsOf.j2, if_neg nb, if_pos v3, if_pos c3, wi]) r2⟩
          · obtain ⟨r, r0, r1, r2⟩ := go _
            exact ⟨r, r0, Evt.succ (fun k => by rw [spec_BoundsOf.j2, if_neg nb, if_pos c2, if_pos c1, if_neg v3, if_pos c3, wi]) r1, Evt.succ (fun k => by rw [impl_BoundsOf.j2, if_neg nb, if_neg v3, if_pos c3, wi]) r2⟩
      by_cases v3 : rd X (i : Int) = 3
      · obtain ⟨r, r0, r1, r2⟩ := j2 (Int.tmod (i : Int) 2 == 1)
        exact ⟨r, r0, Evt.succ (fun k => by rw [spec_BoundsOf.l0, if_pos c1, if_pos c2, if_neg v1, if_pos v3]) r1, Evt.succ (fun k => by rw [impl_BoundsOf.l0, if_pos c1, if_pos c2, if_pos c1, if_neg v1, if_pos v3]) r2⟩
      · obtain ⟨r, r0, r1, r2⟩ := j2 false
        exact ⟨r, r0, Evt.succ (fun k => by rw [spec_BoundsOf.l0, if_pos c1, if_pos c2, if_neg v1, if_neg v3]) r1, Evt.succ (fun k => by rw [impl_BoundsOf.l0, if_pos c1, if_pos c2, if_pos c1, if_neg v1, if_neg v3]) r2⟩
theorem same_evt (s : ByteArray) (hs : s.size ≤ 1048576) (u : Int) : ∃ r : List S36 × Bool, r.1.length ≤ 1099511627776 ∧ Evt (fun k => spec_BoundsOf.f k s u) r ∧ Evt (fun k => impl_BoundsOf.f k s u) r := by
  refine both_evt s hs u _ _ (fun k b => spec_BoundsOf.j0 k s u [] b) (fun k b => impl_BoundsOf.j0 k s u b) (fun k => rfl) (fun k => rfl) ([], false) ?_ ?_ (fun r => r.1.length ≤ 1099511627776) (by simp) ?_
  · exact Evt.succ (fun k => by rw [spec_BoundsOf.j0, if_pos rfl]) (Evt.const _)
  · exact Evt.succ (fun k => by rw [impl_BoundsOf.j0, if_pos rfl]) (Evt.const _)
  · intro hu X hX h1 h2
    obtain ⟨r, r0, r1, r2⟩ := bounds_l0 u X hX X.length 0 [] (by simp) (by omega) (by omega)
    refine ⟨(r, true), by show r.length ≤ _; omega, ?_, ?_⟩
    · exact Evt.succ (fun k => by rw [spec_BoundsOf.j0, if_neg (by simp)]) (Evt.bind h1 r1)
    · exact Evt.succ (fun k => by rw [impl_BoundsOf.j0, if_neg (by simp)]) (Evt.bind h2 r2)
theorem FnExactBoundsOf : laws_FnExactBoundsOf.Pure := by
  intro s u _ _
  refine Evt.get (r := true) ?_
  by_cases b1 : (s.size : Int) > 1048576
  · exact Evt.ite_pos b1 (Evt.const _)
  refine Evt.ite_neg b1 ?_
  obtain ⟨r, hr, h1, h2⟩ := same_evt s (by omega) u
  refine Evt.bind h1 (Evt.bind h2 (Evt.bind (eqIntA2S_evt r.1 hr) (Evt.ite_pos rfl ?_)))
  rw [show (r.2 != r.2) = false by simp]
  refine Evt.succ (h := fun k => _) (fun k => by simp only [laws_FnExactBoundsOf.j0]; rfl) ?_
  refine Evt.ite_neg (by simp) ?_
  refine Evt.bind (markIntA2S_evt r.1 hr) (Evt.bind (heldIntA2S_evt r.1.length hr) (Evt.ite_neg (by first | omega | (dsimp only; omega)) (Evt.ite_pos rfl ?_)))
  refine Evt.bind h2 (Evt.bind (eqIntA2S_evt r.1 hr) (Evt.ite_pos rfl ?_))
  rw [show (r.2 != r.2) = false by simp]
  refine Evt.succ (h := fun k => _) (fun k => by simp only [laws_FnExactBoundsOf.j1]; rfl) ?_
  refine Evt.ite_neg (by simp) ?_
  exact Evt.bind (heldIntA2S_evt r.1.length hr) (Evt.ite_neg (by first | omega | (dsimp only; omega)) (Evt.ite_pos rfl (Evt.const _)))
end Go.Proofs.YtdjlehnffphmbaaDoor.Pure
