/- SplitString and JoinStrings are inverse, and LessString is a strict order: at whatever the bytes draw. No condition. -/
import Derived.Test.YtolbhpgphinjcaaDoorPFnSplitJoinx3
namespace Go.Proofs.YtolbhpgphinjcaaDoor.Pure
open Go.RowKit Go.Proofs.YtolbhpgphinjcaaDoor.PFnSplitJoin Go.Proofs.YtolbhpgphinjcaaDoorW.PrintWords Go.Proofs.YtolbhpgphinjcaaDoorW.PrintLast Go.Proofs.YtolbhpgphinjcaaDoorW.PrintMore
set_option linter.unusedVariables false
set_option linter.unusedSimpArgs false

/-! ### ev -/
/-- With enough rounds, and ever after, g answers r. -/
def Evt {α : Type} (g : Nat → Option α) (r : α) : Prop := ∃ K, ∀ k, K ≤ k → g k = some r
theorem Evt.const {α : Type} (r : α) : Evt (fun _ => some r) r := ⟨0, fun _ _ => rfl⟩
theorem Evt.of_eq {α : Type} {g h : Nat → Option α} {r : α} (e : ∀ k, g k = h k) (H : Evt h r) : Evt g r := by
  obtain ⟨K, hK⟩ := H
  exact ⟨K, fun k hk => (e k).trans (hK k hk)⟩
theorem Evt.bind {α β : Type} {g : Nat → Option β} {h : Nat → β → Option α} {a : β} {r : α} (H1 : Evt g a) (H2 : Evt (fun k => h k a) r) : Evt (fun k => (g k).bind (h k)) r := by
  obtain ⟨K1, h1⟩ := H1
  obtain ⟨K2, h2⟩ := H2
  refine ⟨max K1 K2, fun k hk => ?_⟩
  show (g k).bind (h k) = some r
  rw [h1 k (by omega)]
  exact h2 k (by omega)
theorem Evt.succ {α : Type} {g h : Nat → Option α} {r : α} (e : ∀ k, g (k + 1) = h k) (H : Evt h r) : Evt g r := by
  obtain ⟨K, hK⟩ := H
  refine ⟨K + 1, fun k hk => ?_⟩
  obtain ⟨k, rfl⟩ : ∃ m, k = m + 1 := ⟨k - 1, by omega⟩
  rw [e]
  exact hK k (by omega)
theorem Evt.get {α : Type} {g : Nat → Option α} {r : α} (H : Evt g r) : ∃ k, g k = some r := by
  obtain ⟨K, hK⟩ := H
  exact ⟨K, hK K (Nat.le_refl _)⟩
theorem Evt.get2 {α β : Type} {g : Nat → Option α} {h : Nat → Option β} {r : α} {s : β} (H : Evt g r) (H' : Evt h s) : ∃ k, g k = some r ∧ h k = some s := by
  obtain ⟨K, hK⟩ := H
  obtain ⟨K', hK'⟩ := H'
  exact ⟨max K K', hK _ (by omega), hK' _ (by omega)⟩
theorem Evt.ite_pos {α : Type} {c : Prop} [Decidable c] {g h : Nat → Option α} {r : α} (hc : c) (H : Evt g r) : Evt (fun k => if c then g k else h k) r :=
  H.of_eq (fun k => by rw [if_pos hc])
theorem Evt.ite_neg {α : Type} {c : Prop} [Decidable c] {g h : Nat → Option α} {r : α} (hc : ¬ c) (H : Evt h r) : Evt (fun k => if c then g k else h k) r :=
  H.of_eq (fun k => by rw [if_neg hc])
theorem Evt.pred {α : Type} {g h : Nat → Option α} {r : α} (e : ∀ k, g (k + 1) = h k) (H : Evt g r) : Evt h r := by
  obtain ⟨K, hK⟩ := H
  exact ⟨K, fun k hk => (e k).symm.trans (hK (k + 1) (by omega))⟩

/-! ### lists -/
theorem rdOf_get {α : Type} (d : α) (l : List α) (i : Nat) (h : i < l.length) : rdOf d l (i : Int) = l[i] := by
  unfold rdOf
  rw [Int.toNat_natCast, List.getD_eq_getElem?_getD, List.getElem?_eq_getElem h]
  rfl
theorem rd_get (l : List Int) (i : Nat) (h : i < l.length) : rd l (i : Int) = l[i] := by
  unfold rd
  rw [Int.toNat_natCast, List.getD_eq_getElem?_getD, List.getElem?_eq_getElem h]
  rfl
theorem drop_get {α : Type} (l : List α) (i : Nat) (h : i < l.length) : l.drop i = l[i] :: l.drop (i + 1) := by simp
theorem wrap_succ (i : Nat) (h : i < 9223372036854775807) : wrap64 ((i : Int) + 1) = ((i + 1 : Nat) : Int) := by unfold wrap64; omega

/-! ### in -/

/-! ### marks -/
/-- A byte that is a mark. -/
def okc (c : UInt8) : Bool := c == 46 || c == 45
def okMarks (s : ByteArray) (lo hi : Int) : Bool := decide (lo ≤ s.size ∧ (s.size : Int) ≤ hi) && s.data.toList.all okc
theorem size_data (s : ByteArray) : s.data.toList.length = s.size := by rw [Array.length_toList]; rfl
theorem bt_get (s : ByteArray) (i : Nat) (h : i < s.size) : bt s (i : Int) = ((s.data.toList[i]'(by rw [size_data]; exact h)).toNat : Int) := by
  unfold bt
  rw [dif_pos (by simpa using h)]
  simp only [Int.toNat_natCast, Array.getElem_toList]
  rfl
theorem drop_cons_ (l : List UInt8) (i : Nat) (h : i < l.length) : l.drop i = l[i] :: l.drop (i + 1) := by simp

/-! ### draws -/
/-- What a draw takes: numbers out of the bytes. -/
theorem mask255 (X : Int) (h : 0 ≤ X) (h1 : X < 2 ^ 64) : 0 ≤ Go.bits .and .u64 X 255 ∧ Go.bits .and .u64 X 255 ≤ 255 := by
  have hk : ∀ n : Int, 0 ≤ n → n < 2 ^ 64 → IntKind.u64.wrap n = n := fun n a b => by
    simp only [IntKind.wrap, IntKind.bits, IntKind.signed]
    simp
    omega
  have e := bits_mask .u64 64 (by decide) hk 8 (by decide) X h h1
  have e2 : ((2 : Int) ^ 8 - 1) = 255 := by decide
  rw [e2] at e
  rw [e]
  omega
theorem u64_bd (n : Int) : 0 ≤ IntKind.u64.wrap n ∧ IntKind.u64.wrap n < 2 ^ 64 := by
  simp only [IntKind.wrap, IntKind.bits, IntKind.signed]
  simp
  omega
theorem low_bd (n : Int) : 0 ≤ wrap64 (Go.bits .and .u64 (IntKind.u64.wrap n / 1099511627776) 255) ∧ wrap64 (Go.bits .and .u64 (IntKind.u64.wrap n / 1099511627776) 255) ≤ 255 := by
  have h := u64_bd n
  have m := mask255 (IntKind.u64.wrap n / 1099511627776) (by omega) (by omega)
  generalize Go.bits .and .u64 (IntKind.u64.wrap n / 1099511627776) 255 = z at m
  have : wrap64 z = z := by unfold wrap64; omega
  rw [this]
  exact m
def okB (l : List Int) : Prop := l.length ≤ 65536 ∧ ∀ x ∈ l, 0 ≤ x ∧ x ≤ 255
theorem next_evt (l : List Int) (hl : okB l) (a : Nat) (ha : a ≤ 70000) (sd : Int) : ∃ v sd', spec_l1Cur_next.f l a sd = some (v, ((a + 1 : Nat) : Int), sd') ∧ 0 ≤ v ∧ v ≤ 255 := by
  have w := wrap_succ a (by omega)
  unfold spec_l1Cur_next.f
  rw [w]
  have c0 : (0 : Int) ≤ (a : Int) := Int.natCast_nonneg a
  by_cases h : (a : Int) < (l.length : Int)
  · have la : a < l.length := by omega
    have hv := hl.2 _ (List.getElem_mem la)
    have er : wrap64 (rd l (a : Int)) = l[a] := by
      rw [rd_get l a la]
      unfold wrap64
      omega
    rw [if_pos h, if_pos c0]
    by_cases h2 : ((a + 1 : Nat) : Int) ≤ (l.length : Int)
    · rw [if_pos h2, er]
      exact ⟨_, _, rfl, hv.1, hv.2⟩
    · rw [if_neg h2]
      exact ⟨_, _, rfl, (low_bd _).1, (low_bd _).2⟩
  · rw [if_neg h]
    by_cases h2 : ((a + 1 : Nat) : Int) ≤ (l.length : Int)
    · exact absurd h2 (by omega)
    · rw [if_neg h2]
      exact ⟨_, _, rfl, (low_bd _).1, (low_bd _).2⟩
theorem pick_evt (l : List Int) (hl : okB l) (a : Nat) (ha : a ≤ 70000) (sd : Int) (n : Int) (h1 : 2 ≤ n) (h2 : n ≤ 200) : ∃ v sd', spec_l1Cur_pick.f l a sd n = some (v, ((a + 1 : Nat) : Int), sd') ∧ 0 ≤ v ∧ v < n := by
  obtain ⟨v, sd', e, b1, b2⟩ := next_evt l hl a ha sd
  have c1 : ¬ n ≤ 1 := by omega
  have c2 : ¬ n > 200 := by omega
  have c3 : ¬ n = 0 := by omega
  refine ⟨Int.tmod v n, sd', ?_, ?_, ?_⟩
  · unfold spec_l1Cur_pick.f
    rw [if_neg c1, e, Option.bind_some, if_neg c2, if_neg c3]
  · exact Int.tmod_nonneg _ b1
  · exact Int.tmod_lt_of_pos _ (by omega)
theorem of_evt (l : List Int) (hl : okB l) (a : Nat) (ha : a ≤ 70000) (sd : Int) (L : List ByteArray) (h1 : 2 ≤ L.length) (h2 : L.length ≤ 200) : ∃ m sd', spec_l1Cur_of.f l a sd L = some (m, ((a + 1 : Nat) : Int), sd') ∧ m ∈ L := by
  obtain ⟨v, sd', e, b1, b2⟩ := pick_evt l hl a ha sd (L.length : Int) (by omega) (by omega)
  have lv : v.toNat < L.length := by omega
  refine ⟨L[v.toNat], sd', ?_, List.getElem_mem lv⟩
  unfold spec_l1Cur_of.f
  have er : rdOf ByteArray.empty L v = L[v.toNat] := by
    have := rdOf_get ByteArray.empty L v.toNat lv
    rw [← this]
    congr 1
    omega
  rw [e, Option.bind_some, if_pos b1, if_pos b2, er]
def anys : List ByteArray := [⟨#[]⟩, ⟨#[97]⟩, ⟨#[97, 44, 98]⟩, ⟨#[115, 111, 109, 101, 32, 119, 111, 114, 100, 115]⟩, ⟨#[120, 35, 121]⟩, ⟨#[45, 49, 50]⟩, ⟨#[0, 255]⟩, ⟨#[44, 44]⟩, ⟨#[48]⟩]
theorem any_evt (l : List Int) (hl : okB l) (a : Nat) (ha : a ≤ 70000) (sd : Int) : ∃ m sd', spec_l1Cur_any1.f l a sd = some (m, ((a + 1 : Nat) : Int), sd') ∧ m ∈ anys := by
  obtain ⟨m, sd', e, hm⟩ := of_evt l hl a ha sd anys (by decide) (by decide)
  refine ⟨m, sd', ?_, hm⟩
  unfold spec_l1Cur_any1.f
  show (spec_l1Cur_of.f l a sd anys).bind _ = _
  rw [e]
  rfl

/-! ### split -/
/-- The pieces of a text between the bytes c. -/
def spl (c : UInt8) : List UInt8 → List (List UInt8)
  | [] => [[]]
  | b :: l => if b = c then [] :: spl c l else
    match spl c l with
    | h :: t => (b :: h) :: t
    | [] => [[b]]
def splF (c : UInt8) (p r : List UInt8) : List (List UInt8) :=
  match spl c r with
  | h :: t => (p ++ h) :: t
  | [] => [p]
theorem spl_ne (c : UInt8) : ∀ l, ∃ h t, spl c l = h :: t
  | [] => ⟨[], [], rfl⟩
  | b :: l => by
    obtain ⟨h, t, e⟩ := spl_ne c l
    unfold spl
    rw [e]
    by_cases hb : b = c
    · rw [if_pos hb]; exact ⟨_, _, rfl⟩
    · rw [if_neg hb]; exact ⟨_, _, rfl⟩
theorem splF_nil (c : UInt8) (p : List UInt8) : splF c p [] = [p] := by
  unfold splF spl
  simp
theorem splF_hit (c : UInt8) (p r : List UInt8) : splF c p (c :: r) = p :: splF c [] r := by
  obtain ⟨h, t, e⟩ := spl_ne c r
  unfold splF
  rw [e]
  unfold spl
  rw [if_pos rfl, e]
  simp
theorem splF_miss (c b : UInt8) (hb : b ≠ c) (p r : List UInt8) : splF c p (b :: r) = splF c (p ++ [b]) r := by
  obtain ⟨h, t, e⟩ := spl_ne c r
  unfold splF
  rw [e]
  unfold spl
  rw [if_neg hb, e]
  simp
theorem splF_zero (c : UInt8) (r : List UInt8) : splF c [] r = spl c r := by
  obtain ⟨h, t, e⟩ := spl_ne c r
  unfold splF
  rw [e]
  rfl
theorem spl_none (c : UInt8) : ∀ l : List UInt8, c ∉ l → spl c l = [l]
  | [], _ => rfl
  | b :: l, h => by
    rw [List.mem_cons, not_or] at h
    unfold spl
    rw [if_neg (fun e => h.1 e.symm), spl_none c l h.2]
theorem spl_pre (c : UInt8) (r : List UInt8) : ∀ p : List UInt8, c ∉ p → spl c (p ++ c :: r) = p :: spl c r
  | [], _ => by
    show spl c (c :: r) = _
    rw [spl, if_pos rfl]
  | b :: p, h => by
    rw [List.mem_cons, not_or] at h
    rw [List.cons_append, spl, if_neg (fun e => h.1 e.symm), spl_pre c r p h.2]
theorem first_mem (c : UInt8) : ∀ l : List UInt8, c ∈ l → ∃ p r, l = p ++ c :: r ∧ c ∉ p
  | [], h => by cases h
  | b :: l, h => by
    by_cases e : b = c
    · subst e
      exact ⟨[], l, rfl, by simp⟩
    · rw [List.mem_cons] at h
      obtain ⟨p, r, q, hp⟩ := first_mem c l (h.resolve_left (fun x => e x.symm))
      exact ⟨b :: p, r, by rw [q]; rfl, by rw [List.mem_cons, not_or]; exact ⟨fun x => e x.symm, hp⟩⟩
theorem idx_pre (c : UInt8) (r : List UInt8) : ∀ p : List UInt8, c ∉ p → Lib.indexByte (p ++ c :: r) c = (p.length : Int)
  | [], _ => by
    show Lib.indexByte (c :: r) c = 0
    unfold Lib.indexByte
    rw [if_pos (by simp)]
  | b :: p, h => by
    rw [List.mem_cons, not_or] at h
    rw [List.cons_append]
    unfold Lib.indexByte
    rw [idx_pre c r p h.2, if_neg (by rw [beq_iff_eq]; exact fun e => h.1 e.symm), if_neg (by rw [beq_iff_eq]; omega), List.length_cons]
    omega
/-- The library's pieces. -/
theorem splitK_spl (c : UInt8) : ∀ (n : Nat) (l : List UInt8), l.length ≤ n → Lib.splitK [c] 0 (l.count c) l = spl c l
  | 0, l, h => by
    obtain rfl : l = [] := List.eq_nil_of_length_eq_zero (by omega)
    rfl
  | n + 1, l, h => by
    by_cases hm : c ∈ l
    · obtain ⟨p, r, rfl, hp⟩ : ∃ p r, l = p ++ c :: r ∧ c ∉ p := by
        exact first_mem c l hm
      have hc : (p ++ c :: r).count c = r.count c + 1 := by
        rw [List.count_append, List.count_eq_zero_of_not_mem hp, List.count_cons_self, Nat.zero_add]
      have hi : Lib.index (p ++ c :: r) [c] = (p.length : Int) := by
        rw [strings_Split.index_one]
        exact idx_pre c r p hp
      rw [hc, Lib.splitK, hi, if_neg (by rw [beq_iff_eq]; omega), spl_pre c r p hp]
      have e1 : (p ++ c :: r).take ((p.length : Int).toNat + 0) = p := by simp
      have e2 : (p ++ c :: r).drop ((p.length : Int).toNat + [c].length) = r := by
        rw [Int.toNat_natCast, List.length_singleton, ← List.drop_drop, List.drop_left]
        rfl
      rw [e1, e2, splitK_spl c n r (by rw [List.length_append, List.length_cons] at h; omega)]
    · rw [List.count_eq_zero_of_not_mem hm, spl_none c l hm]
      rfl
theorem ext_data (s : ByteArray) (a b : Nat) : (s.extract a b).data.toList = (s.data.toList.drop a).take (b - a) := by
  rw [ByteArray.data_extract, Array.toList_extract]
def dl (s : ByteArray) : List UInt8 := s.data.toList
theorem dl_inj (a b : ByteArray) (h : dl a = dl b) : a = b := by
  cases a
  cases b
  unfold dl at h
  simp only at h
  rw [Array.toList_inj.1 h]
theorem map_dl_inj : ∀ a b : List ByteArray, a.map dl = b.map dl → a = b
  | [], [], _ => rfl
  | [], _ :: _, h => by simp at h
  | _ :: _, [], h => by simp at h
  | x :: a, y :: b, h => by
    rw [List.map_cons, List.map_cons] at h
    injection h with h1 h2
    rw [dl_inj x y h1, map_dl_inj a b h2]
theorem libSplit_eq (s : ByteArray) (c : UInt8) : (Lib.splitB ⟨#[c]⟩ 0 (Lib.countB s ⟨#[c]⟩) s).map dl = spl c (dl s) := by
  have h := Lib.splitB_data ⟨#[c]⟩ 0 (Lib.countB s ⟨#[c]⟩) s
  have e : Lib.countB s ⟨#[c]⟩ = (dl s).count c := by
    show Lib.count s.data.toList [c] = _
    rw [Lib.count_one]
    rfl
  rw [e] at h ⊢
  exact h.trans (splitK_spl c _ (dl s) (Nat.le_refl _))

/-! ### joinb -/
/-- Texts joined with a byte. -/
theorem ba_ext (a b : ByteArray) (h : a.data.toList = b.data.toList) : a = b := by
  obtain ⟨⟨l⟩⟩ := a
  obtain ⟨⟨m⟩⟩ := b
  have h : l = m := h
  rw [h]
theorem dl_append (a b : ByteArray) : dl (a ++ b) = dl a ++ dl b := by
  show (a ++ b).data.toList = _
  rw [ByteArray.data_append, Array.toList_append]
  rfl
theorem icl_cons2 (s a b : List UInt8) (l : List (List UInt8)) : s.intercalate (a :: b :: l) = a ++ (s ++ s.intercalate (b :: l)) := by
  simp [List.intercalate, List.intersperse]
theorem icl_snoc (s y : List UInt8) : ∀ xs : List (List UInt8), xs ≠ [] → s.intercalate (xs ++ [y]) = s.intercalate xs ++ (s ++ y)
  | [], h => absurd rfl h
  | [a], _ => by rw [List.singleton_append, icl_cons2]; simp [List.intercalate]
  | a :: b :: l, _ => by
    have ih := icl_snoc s y (b :: l) (by simp)
    rw [List.cons_append, List.cons_append, icl_cons2, icl_cons2]
    rw [List.cons_append] at ih
    rw [ih]
    simp
theorem joinT_snoc (out : List ByteArray) (s y : ByteArray) : strings_Join.t (out ++ [y]) s = (if out = [] then [] else strings_Join.t out s ++ dl s) ++ dl y := by
  unfold strings_Join.t Lib.join
  by_cases h : out = []
  · subst h
    rw [if_pos rfl]
    simp [List.intercalate]
    rfl
  · rw [if_neg h, List.map_append, List.map_singleton, icl_snoc _ _ _ (by simpa using h), List.append_assoc]
    rfl

/-! ### tolist -/
theorem toList_inj (a b : ByteArray) : a.toList = b.toList ↔ a = b := by
  rw [Lib.toList_data, Lib.toList_data]
  constructor
  · intro h
    obtain ⟨⟨l⟩⟩ := a
    obtain ⟨⟨m⟩⟩ := b
    simp only at h
    rw [h]
  · rintro rfl
    rfl

theorem seps_small (m : ByteArray) (h : m ∈ anys) : m.size ≤ 4000 := by
  have : anys.all (fun m => decide (m.size ≤ 4000)) = true := by decide
  simpa using List.all_eq_true.1 this m h
/-- Texts joined: parts, length. -/
def J (c : UInt8) (l : List ByteArray) : List UInt8 := Lib.join (l.map dl) [c]
theorem jn_cons (a b : List UInt8) (l : List (List UInt8)) (s : List UInt8) : Lib.join (a :: b :: l) s = a ++ (s ++ Lib.join (b :: l) s) := by
  unfold Lib.join
  exact icl_cons2 s a b l
theorem jn_one (a s : List UInt8) : Lib.join [a] s = a := by
  unfold Lib.join
  simp [List.intercalate]
theorem jn_snoc (s y : List UInt8) (l : List (List UInt8)) (h : l ≠ []) : Lib.join (l ++ [y]) s = Lib.join l s ++ (s ++ y) := by
  unfold Lib.join
  exact icl_snoc s y l h
theorem jn_len (c : UInt8) : ∀ l : List (List UInt8), l ≠ [] → (Lib.join l [c]).length + 1 = (l.map List.length).sum + l.length
  | [], h => absurd rfl h
  | [a], _ => by
    rw [jn_one]
    simp
  | a :: b :: l, _ => by
    have ih := jn_len c (b :: l) (by simp)
    rw [jn_cons, List.length_append, List.length_append, List.length_singleton, List.map_cons, List.sum_cons, List.length_cons]
    omega
theorem jn_mono (c : UInt8) (l m : List (List UInt8)) : (Lib.join l [c]).length ≤ (Lib.join (l ++ m) [c]).length := by
  by_cases h : l = []
  · subst h
    show (Lib.join [] [c]).length ≤ _
    simp [Lib.join, List.intercalate]
  · have h1 := jn_len c l h
    have h2 := jn_len c (l ++ m) (by simp [h])
    rw [List.map_append, List.sum_append, List.length_append] at h2
    omega
theorem idx_mem (c : UInt8) : ∀ l : List UInt8, (0 ≤ Lib.indexByte l c ↔ c ∈ l) ∧ -1 ≤ Lib.indexByte l c
  | [] => by
    unfold Lib.indexByte
    simp
  | b :: l => by
    obtain ⟨ih, ih2⟩ := idx_mem c l
    unfold Lib.indexByte
    by_cases h : b = c
    · subst h
      rw [if_pos (by simp)]
      simp
    · rw [if_neg (by rw [beq_iff_eq]; exact h)]
      by_cases h2 : Lib.indexByte l c = -1
      · rw [if_pos (by rw [beq_iff_eq]; exact h2)]
        rw [h2] at ih
        constructor
        · rw [List.mem_cons]
          constructor
          · intro h3; omega
          · rintro (h3 | h3)
            · exact absurd h3.symm h
            · have := ih.2 h3; omega
        · omega
      · rw [if_neg (by rw [beq_iff_eq]; exact h2)]
        have h3 : 0 ≤ Lib.indexByte l c := by omega
        constructor
        · rw [List.mem_cons]
          constructor
          · intro _; exact .inr (ih.1 h3)
          · intro _; omega
        · omega
theorem contains_eq (s : ByteArray) (c : UInt8) : strings_Contains.f s ⟨#[c]⟩ = some (decide (c ∈ dl s)) := by
  unfold strings_Contains.f
  rw [if_pos (by rfl)]
  congr 1
  rw [Bool.eq_iff_iff, decide_eq_true_eq, decide_eq_true_eq]
  exact (idx_mem c (dl s)).1
theorem stands_l0 (s : ByteArray) (hs : s.size ≤ 1000000) (c : UInt8) (d : Nat) : ∀ i, i ≤ s.size → s.size - i = d → Evt (fun k => spec_l1Stands.l0 k s (c.toNat : Int) i) (decide (c ∈ (dl s).drop i)) := by
  have hz : (dl s).length = s.size := size_data s
  induction d with
  | zero =>
    intro i hi hd
    have c1 : ¬ (i : Int) < (s.size : Int) := by omega
    rw [List.drop_eq_nil_of_le (by omega), decide_eq_false (by simp)]
    exact Evt.succ (fun k => by rw [spec_l1Stands.l0, if_neg c1]) (Evt.const _)
  | succ d ih =>
    intro i hi hd
    have li : i < (dl s).length := by omega
    have c1 : (i : Int) < (s.size : Int) := by omega
    have c2 : (0 : Int) ≤ (i : Int) := by omega
    have hb : bt s (i : Int) = ((dl s)[i].toNat : Int) := bt_get s i (by omega)
    have go := ih (i + 1) (by omega) (by omega)
    have w := wrap_succ i (by omega)
    rw [drop_cons_ _ _ li]
    generalize (dl s)[i] = b at hb ⊢
    by_cases h : b = c
    · subst h
      rw [decide_eq_true (by simp)]
      exact Evt.succ (fun k => by rw [spec_l1Stands.l0, if_pos c1, if_pos c2, if_pos hb]) (Evt.const _)
    · have h' : ¬ bt s (i : Int) = (c.toNat : Int) := fun e => h (UInt8.toNat_inj.1 (by rw [hb] at e; exact Int.ofNat.inj e))
      have e : decide (c ∈ b :: (dl s).drop (i + 1)) = decide (c ∈ (dl s).drop (i + 1)) := by
        rw [Bool.eq_iff_iff, decide_eq_true_eq, decide_eq_true_eq, List.mem_cons]
        constructor
        · rintro (q | q)
          · exact absurd q.symm h
          · exact q
        · exact .inr
      rw [e]
      exact Evt.succ (fun k => by rw [spec_l1Stands.l0, if_pos c1, if_pos c2, if_neg h', w]) go
theorem stands_evt (s : ByteArray) (hs : s.size ≤ 1000000) (c : UInt8) : Evt (fun k => spec_l1Stands.f k s (c.toNat : Int)) (decide (c ∈ dl s)) := by
  have := stands_l0 s hs c s.size 0 (by omega) (by omega)
  rw [List.drop_zero] at this
  exact this
/-- What both sides answer. -/
def bad (c : UInt8) (l : List ByteArray) : Bool := l.any fun m => decide (c ∈ dl m)
noncomputable def ans (c : UInt8) (l : List ByteArray) : ByteArray × Bool := if bad c l = true ∨ 4000 < (J c l).length then (⟨#[]⟩, false) else (⟨(J c l).toArray⟩, true)
theorem sum_sizes (l : List ByteArray) : ((l.map dl).map List.length) = l.map ByteArray.size := by
  rw [List.map_map]
  exact List.map_congr_left (fun m _ => size_data m)
theorem J_len (c : UInt8) (l : List ByteArray) (h : l ≠ []) : (J c l).length + 1 = (l.map ByteArray.size).sum + l.length := by
  unfold J
  rw [jn_len c _ (by simpa using h), sum_sizes, List.length_map]
def okl (l : List ByteArray) : Prop := l.length ≤ 10000 ∧ ∀ m ∈ l, m.size ≤ 5000
theorem implJ_l0 (c : UInt8) (l : List ByteArray) (hl : okl l) (hne : l ≠ []) (d : Nat) : ∀ (i x : Nat), i ≤ l.length → l.length - i = d → x + ((l.drop i).map ByteArray.size).sum ≤ 100000000 → x + ((l.drop i).map ByteArray.size).sum = (J c l).length → bad c (l.take i) = false → Evt (fun k => impl_JoinStrings.l0 k l ⟨#[c]⟩ x l (l.length : Int) i) (ans c l) := by
  have hl1 := hl.1
  induction d with
  | zero =>
    intro i x hi hd hx hJ hb
    obtain rfl : i = l.length := by omega
    rw [List.take_of_length_le (Nat.le_refl _)] at hb
    rw [List.drop_eq_nil_of_le (Nat.le_refl _)] at hJ hx
    have hJ : x = (J c l).length := by simpa using hJ
    have c1 : ¬ (l.length : Int) < (l.length : Int) := by omega
    unfold ans
    rw [hb]
    by_cases h : 4000 < (J c l).length
    · rw [if_pos (.inr h)]
      have c2 : (x : Int) > 4000 := by omega
      exact Evt.succ (fun k => by rw [impl_JoinStrings.l0, if_neg c1, if_pos c2]) (Evt.const _)
    · rw [if_neg (by simp; omega)]
      have c2 : ¬ (x : Int) > 4000 := by omega
      have e : strings_Join.f l ⟨#[c]⟩ = some ⟨(J c l).toArray⟩ := by
        have hlen : (strings_Join.t l ⟨#[c]⟩).length ≤ 140737488355328 := by
          show (J c l).length ≤ _
          omega
        unfold strings_Join.f
        rw [if_pos ⟨by omega, hlen⟩]
        rfl
      exact Evt.succ (fun k => by rw [impl_JoinStrings.l0, if_neg c1, if_neg c2, e, Option.bind_some]) (Evt.const _)
  | succ d ih =>
    intro i x hi hd hx hJ hb
    have li : i < l.length := by omega
    have hsz := hl.2 _ (List.getElem_mem li)
    have hdr : l.drop i = l[i] :: l.drop (i + 1) := by simp
    rw [hdr, List.map_cons, List.sum_cons] at hx hJ
    have c1 : (i : Int) < (l.length : Int) := by omega
    have c2 : (0 : Int) ≤ (i : Int) := by omega
    have b1 : i + 1 ≤ l.length := by omega
    have b2 : l.length - (i + 1) = d := by omega
    have b3 : x + l[i].size + ((l.drop (i + 1)).map ByteArray.size).sum ≤ 100000000 := by omega
    have b4 : x + l[i].size + ((l.drop (i + 1)).map ByteArray.size).sum = (J c l).length := by omega
    have b5 : x + l[i].size ≤ 200000000 := by omega
    have tk : bad c (l.take (i + 1)) = decide (c ∈ dl l[i]) := by
      unfold bad at hb ⊢
      rw [List.take_succ_eq_append_getElem li, List.any_append, hb, Bool.false_or, List.any_cons, List.any_nil, Bool.or_false]
    have w1 : wrap64 ((i : Int) + 1) = ((i + 1 : Nat) : Int) := wrap_succ i (by omega)
    have w2 : wrap64 ((x : Int) + (l[i].size : Int)) = ((x + l[i].size : Nat) : Int) := by unfold wrap64; omega
    by_cases h : c ∈ dl l[i]
    · have e1 : strings_Contains.f l[i] ⟨#[c]⟩ = some true := by rw [contains_eq, decide_eq_true h]
      have hbad : bad c l = true := by
        unfold bad
        rw [List.any_eq_true]
        exact ⟨l[i], List.getElem_mem li, decide_eq_true h⟩
      unfold ans
      rw [if_pos (.inl hbad)]
      exact Evt.succ (fun k => by rw [impl_JoinStrings.l0, if_pos c1, if_pos c2, if_pos c1, rdOf_get _ _ _ li, e1, Option.bind_some, if_pos rfl]) (Evt.const _)
    · have e1 : strings_Contains.f l[i] ⟨#[c]⟩ = some false := by rw [contains_eq, decide_eq_false h]
      rw [decide_eq_false h] at tk
      exact Evt.succ (fun k => by rw [impl_JoinStrings.l0, if_pos c1, if_pos c2, if_pos c1, rdOf_get _ _ _ li, e1, Option.bind_some, if_neg (by simp), w1, w2]) (ih (i + 1) (x + l[i].size) b1 b2 b3 b4 tk)
theorem implJ_evt (c : UInt8) (l : List ByteArray) (hl : okl l) (hs : (l.map ByteArray.size).sum ≤ 50000000) (hne : l ≠ []) : Evt (fun k => impl_JoinStrings.f k l ⟨#[c]⟩) (ans c l) := by
  have hl1 := hl.1
  have hp : 1 ≤ l.length := List.length_pos_iff.2 hne
  have hj := J_len c l hne
  have c1 : ¬ (l.length : Int) = 0 := by omega
  have go := implJ_l0 c l hl hne l.length 0 (l.length - 1) (by omega) (by omega) (by rw [List.drop_zero]; omega) (by rw [List.drop_zero]; omega) rfl
  have w : wrap64 ((l.length : Int) - 1) = ((l.length - 1 : Nat) : Int) := by unfold wrap64; omega
  refine Evt.ite_neg c1 ?_
  show Evt (fun k => impl_JoinStrings.j0 k l ⟨#[c]⟩ false) _
  exact Evt.succ (fun k => by rw [impl_JoinStrings.j0, if_neg (by simp), w]; rfl) go
theorem specJ_l0 (c : UInt8) (l : List ByteArray) (hl : okl l) (d : Nat) : ∀ (i : Nat) (x : ByteArray), i ≤ l.length → l.length - i = d → dl x = J c (l.take i) → x.size ≤ 4000 → bad c (l.take i) = false → Evt (fun k => spec_JoinStrings.l0 k l ⟨#[c]⟩ x i) (ans c l) := by
  have hl1 := hl.1
  induction d with
  | zero =>
    intro i x hi hd hx hs hb
    obtain rfl : i = l.length := by omega
    rw [List.take_of_length_le (Nat.le_refl _)] at hb hx
    have c1 : ¬ (l.length : Int) < (l.length : Int) := by omega
    have hz : (dl x).length = x.size := size_data x
    have e : ans c l = (x, true) := by
      unfold ans
      rw [hb, ← hx, if_neg (by simp; omega)]
      rfl
    rw [e]
    exact Evt.succ (fun k => by rw [spec_JoinStrings.l0, if_neg c1]) (Evt.const _)
  | succ d ih =>
    intro i x hi hd hx hs hb
    have li : i < l.length := by omega
    have hsz := hl.2 _ (List.getElem_mem li)
    have c1 : (i : Int) < (l.length : Int) := by omega
    have c2 : (0 : Int) ≤ (i : Int) := by omega
    have c3 : (0 : Int) < ((⟨#[c]⟩ : ByteArray).size : Int) := by show (0 : Int) < ((1 : Nat) : Int); omega
    have b1 : i + 1 ≤ l.length := by omega
    have b2 : l.length - (i + 1) = d := by omega
    have b3 : l[i].size ≤ 1000000 := by omega
    have b4 : x.size + 1 ≤ 9223372036854775807 := by omega
    have b5 : x.size + l[i].size ≤ 9223372036854775807 := by omega
    have b6 : x.size + 1 + l[i].size ≤ 9223372036854775807 := by omega
    have hbt : bt (⟨#[c]⟩ : ByteArray) 0 = (c.toNat : Int) := by
      have := bt_get (⟨#[c]⟩ : ByteArray) 0 (by show 0 < 1; omega)
      exact this
    have st := stands_evt l[i] b3 c
    have tk : bad c (l.take (i + 1)) = decide (c ∈ dl l[i]) := by
      unfold bad at hb ⊢
      rw [List.take_succ_eq_append_getElem li, List.any_append, hb, Bool.false_or, List.any_cons, List.any_nil, Bool.or_false]
    have hJ1 : J c (l.take (i + 1)) = if i = 0 then dl l[i] else dl x ++ ([c] ++ dl l[i]) := by
      by_cases h0 : i = 0
      · subst h0
        rw [if_pos rfl]
        unfold J
        rw [List.take_succ_eq_append_getElem li, List.take_zero, List.nil_append, List.map_singleton, jn_one]
      · rw [if_neg h0, hx]
        unfold J
        rw [List.take_succ_eq_append_getElem li, List.map_append, List.map_singleton, jn_snoc _ _ _ (by
          intro h
          have := congrArg List.length h
          rw [List.length_map, List.length_take, List.length_nil] at this
          omega)]
    have hmono : (J c (l.take (i + 1))).length ≤ (J c l).length := by
      have := jn_mono c ((l.take (i + 1)).map dl) ((l.drop (i + 1)).map dl)
      rw [← List.map_append, List.take_append_drop] at this
      exact this
    have b7 : i < 9223372036854775807 := by omega
    by_cases h : c ∈ dl l[i]
    · rw [decide_eq_true h] at st
      have w1 : wrap64 ((i : Int) + 1) = ((i + 1 : Nat) : Int) := wrap_succ i b7
      have hbad : bad c l = true := by
        unfold bad
        rw [List.any_eq_true]
        exact ⟨l[i], List.getElem_mem li, decide_eq_true h⟩
      unfold ans
      rw [if_pos (.inl hbad)]
      exact Evt.succ (fun k => by rw [spec_JoinStrings.l0, if_pos c1, if_pos c2, if_pos c3, hbt, rdOf_get _ _ _ li]) (Evt.bind st (Evt.ite_pos rfl (Evt.const _)))
    · rw [decide_eq_false h] at st tk
      -- the part is put behind what there is
      have fin : ∀ y : ByteArray, dl y = J c (l.take (i + 1)) → Evt (fun k => if (y.size : Int) > 4000 then some ((⟨#[]⟩ : ByteArray), false) else spec_JoinStrings.l0 k l ⟨#[c]⟩ y ((i + 1 : Nat) : Int)) (ans c l) := by
        intro y hy
        have hyz : (dl y).length = y.size := size_data y
        by_cases hb : (y.size : Int) > 4000
        · have : 4000 < (J c l).length := by rw [hy] at hyz; omega
          unfold ans
          rw [if_pos (.inr this)]
          exact Evt.ite_pos hb (Evt.const _)
        · exact Evt.ite_neg hb (ih (i + 1) y b1 b2 hy (by omega) tk)
      by_cases h0 : (i : Int) > 0
      · have i0 : ¬ i = 0 := by omega
        have w1 : wrap64 ((i : Int) + 1) = ((i + 1 : Nat) : Int) := wrap_succ i b7
        rw [if_neg i0] at hJ1
        have sz1 : (x ++ (⟨#[c]⟩ : ByteArray)).size = x.size + 1 := by rw [ByteArray.size_append]; rfl
        have q1 : x.size + (⟨#[c]⟩ : ByteArray).size ≤ 9223372036854775807 := b4
        have q2 : (x ++ (⟨#[c]⟩ : ByteArray)).size + l[i].size ≤ 9223372036854775807 := by rw [sz1]; exact b6
        have f := fin ((x ++ (⟨#[c]⟩ : ByteArray)) ++ l[i]) (by rw [hJ1, dl_append, dl_append, List.append_assoc]; rfl)
        exact Evt.succ (fun k => by rw [spec_JoinStrings.l0, if_pos c1, if_pos c2, if_pos c3, hbt, rdOf_get _ _ _ li, w1]) (Evt.bind st (Evt.ite_neg (show ¬ (false = true) by simp) (Evt.ite_pos h0 (Evt.ite_pos q1 (Evt.ite_pos q2 f)))))
      · have i0 : i = 0 := by omega
        have w1 : wrap64 ((i : Int) + 1) = ((i + 1 : Nat) : Int) := wrap_succ i b7
        rw [if_pos i0] at hJ1
        have hx0 : dl x = [] := by
          rw [hx, i0, List.take_zero]
          rfl
        have f := fin (x ++ l[i]) (by rw [hJ1, dl_append, hx0, List.nil_append])
        exact Evt.succ (fun k => by rw [spec_JoinStrings.l0, if_pos c1, if_pos c2, if_pos c3, hbt, rdOf_get _ _ _ li, w1]) (Evt.bind st (Evt.ite_neg (show ¬ (false = true) by simp) (Evt.ite_neg h0 (Evt.ite_pos b5 f))))
theorem specJ_evt (c : UInt8) (l : List ByteArray) (hl : okl l) (hne : l ≠ []) : Evt (fun k => spec_JoinStrings.f k l ⟨#[c]⟩) (ans c l) := by
  have hp : 1 ≤ l.length := List.length_pos_iff.2 hne
  have go := specJ_l0 c l hl l.length 0 ⟨#[]⟩ (by omega) (by omega) rfl (by show 0 ≤ 4000; omega) rfl
  refine Evt.ite_pos (by rfl) ?_
  rw [show ((l.length : Int) == 0) = false by rw [beq_eq_false_iff_ne]; omega]
  exact Evt.succ (fun k => by rw [spec_JoinStrings.j0, if_neg (by simp)]; rfl) go
/-- Both JoinStrings, at whatever parts and mark. -/
theorem bothJ (l : List ByteArray) (hl : okl l) (hs : (l.map ByteArray.size).sum ≤ 50000000) (m : ByteArray) : ∃ r, Evt (fun k => impl_JoinStrings.f k l m) r ∧ Evt (fun k => spec_JoinStrings.f k l m) r := by
  have ino : Evt (fun k => impl_JoinStrings.j0 k l m true) (⟨#[]⟩, false) := Evt.succ (fun k => by rw [impl_JoinStrings.j0, if_pos rfl]) (Evt.const _)
  have sno : Evt (fun k => spec_JoinStrings.j0 k l m true) (⟨#[]⟩, false) := Evt.succ (fun k => by rw [spec_JoinStrings.j0, if_pos rfl]) (Evt.const _)
  by_cases h1 : m.size = 1
  · obtain ⟨⟨q⟩⟩ := m
    have h1 : q.length = 1 := h1
    match q, h1 with
    | [c], _ =>
      by_cases hne : l = []
      · subst hne
        exact ⟨_, Evt.ite_pos rfl ino, Evt.ite_pos (by rfl) sno⟩
      · exact ⟨_, implJ_evt c l hl hs hne, specJ_evt c l hl hne⟩
  · have c1 : ¬ (m.size : Int) = 1 := by omega
    refine ⟨_, ?_, Evt.ite_neg c1 sno⟩
    by_cases h0 : (l.length : Int) = 0
    · exact Evt.ite_pos h0 ino
    · refine Evt.ite_neg h0 ?_
      rw [show ((m.size : Int) != 1) = true by rw [bne_iff_ne]; exact c1]
      exact ino
/-- What is split and joined again is what it was. -/
theorem spl_ok (c : UInt8) : ∀ x : List UInt8, Lib.join (spl c x) [c] = x ∧ (∀ p ∈ spl c x, c ∉ p)
  | [] => by
    unfold spl
    exact ⟨jn_one _ _, by simp⟩
  | b :: l => by
    obtain ⟨i1, i2⟩ := spl_ok c l
    obtain ⟨h, t, e⟩ := spl_ne c l
    rw [e] at i1 i2
    unfold spl
    by_cases hb : b = c
    · rw [if_pos hb, e]
      refine ⟨by rw [jn_cons, i1, hb]; rfl, fun p hp => ?_⟩
      rcases List.mem_cons.1 hp with rfl | hp
      · simp
      · exact i2 p hp
    · rw [if_neg hb, e]
      simp only
      refine ⟨?_, fun p hp => ?_⟩
      · cases t with
        | nil =>
          rw [jn_one] at i1 ⊢
          rw [i1]
        | cons g t =>
          rw [jn_cons] at i1 ⊢
          rw [List.cons_append, i1]
      · rcases List.mem_cons.1 hp with rfl | hp
        · rw [List.mem_cons, not_or]
          exact ⟨fun q => hb q.symm, i2 h List.mem_cons_self⟩
        · exact i2 p (List.mem_cons_of_mem _ hp)
theorem back_evt (s : ByteArray) (hs : s.size ≤ 4000) (c : UInt8) : ∃ l, strings_Split.f s ⟨#[c]⟩ = some l ∧ Evt (fun k => impl_JoinStrings.f k l ⟨#[c]⟩) (s, true) := by
  have hz : (dl s).length = s.size := size_data s
  have c1 : s.size < 4294967281 := by omega
  refine ⟨Lib.splitB ⟨#[c]⟩ 0 (Lib.countB s ⟨#[c]⟩) s, by unfold strings_Split.f; rw [if_pos c1, if_pos (by rfl)], ?_⟩
  have he := libSplit_eq s c
  generalize Lib.splitB ⟨#[c]⟩ 0 (Lib.countB s ⟨#[c]⟩) s = l at he ⊢
  obtain ⟨j1, j2⟩ := spl_ok c (dl s)
  have hJ : J c l = dl s := by
    unfold J
    rw [he, j1]
  have hne : l ≠ [] := by
    rintro rfl
    obtain ⟨h, t, e⟩ := spl_ne c (dl s)
    rw [e] at he
    simp at he
  have hlen := J_len c l hne
  rw [hJ, hz] at hlen
  have hmem : ∀ m ∈ l, m.size ≤ (l.map ByteArray.size).sum := by
    intro m hm
    have : ∀ (q : List Nat) (n : Nat), n ∈ q → n ≤ q.sum := by
      intro q
      induction q with
      | nil => intro n h; cases h
      | cons a q ih =>
        intro n h
        rw [List.sum_cons]
        rcases List.mem_cons.1 h with rfl | h
        · omega
        · have := ih n h
          omega
    exact this _ _ (List.mem_map_of_mem hm)
  have hp : 1 ≤ l.length := List.length_pos_iff.2 hne
  have hok : okl l := ⟨by omega, fun m hm => by have := hmem m hm; omega⟩
  have h := implJ_evt c l hok (by omega) hne
  have e : ans c l = (s, true) := by
    have hb : bad c l = false := by
      unfold bad
      rw [List.any_eq_false]
      intro m hm
      have := j2 (dl m) (by rw [← he]; exact List.mem_map_of_mem hm)
      simpa using this
    unfold ans
    rw [hb, hJ, if_neg (by simp; omega)]
    rfl
  rw [e] at h
  exact h
theorem less_asymm : ∀ x y : List UInt8, Op.bytesLess x y = true → Op.bytesLess y x = false
  | _, [] => by intro h; unfold Op.bytesLess at h; cases h
  | [], b :: y => by intro _; unfold Op.bytesLess; rfl
  | a :: x, b :: y => by
    intro h
    unfold Op.bytesLess at h ⊢
    rw [Bool.or_eq_true, Bool.and_eq_true, decide_eq_true_eq, beq_iff_eq] at h
    rw [Bool.or_eq_false_iff, Bool.and_eq_false_iff, decide_eq_false_iff_not]
    rcases h with h | ⟨h, h2⟩
    · refine ⟨fun q => ?_, .inl ?_⟩
      · rw [UInt8.lt_iff_toNat_lt] at h q
        omega
      · rw [beq_eq_false_iff_ne]
        rintro rfl
        rw [UInt8.lt_iff_toNat_lt] at h
        omega
    · subst h
      refine ⟨fun q => ?_, .inr (less_asymm x y h2)⟩
      rw [UInt8.lt_iff_toNat_lt] at q
      omega
/-- The parts that are drawn. -/
theorem drawJ_l0 (L : List Int) (hL : okB L) (n : Nat) (hn : n ≤ 4) (d : Nat) : ∀ (i a : Nat) (sd : Int) (out : List ByteArray), i ≤ n → n - i = d → a ≤ 10 + i → out.length ≤ i → (∀ m ∈ out, m.size ≤ 5000) → ∃ r : List ByteArray × ByteArray, Evt (fun k => spec_DrawJoinStrings.l0 k out n i L a sd) r ∧ r.1.length ≤ 10 ∧ ∀ m ∈ r.1, m.size ≤ 5000 := by
  induction d with
  | zero =>
    intro i a sd out hi hd ha ho hm
    have c1 : ¬ (i : Int) < (n : Int) := by omega
    obtain ⟨v, sd1, e1, v0, v1⟩ := pick_evt L hL a (by omega) sd 20 (by omega) (by omega)
    have e1' : spec_l1Cur_one.f L a sd 20 = some (v == 0, ((a + 1 : Nat) : Int), sd1) := by
      unfold spec_l1Cur_one.f
      rw [e1]
      rfl
    by_cases h : (v == 0) = true
    · obtain ⟨u, sd2, e2, u0, u1⟩ := pick_evt L hL (a + 1) (by omega) sd1 20 (by omega) (by omega)
      obtain ⟨m, sd3, e3, hm3⟩ := of_evt L hL (a + 1 + 1) (by omega) sd2 [⟨#[44]⟩, ⟨#[59]⟩, ⟨#[59]⟩, ⟨#[]⟩, ⟨#[97, 98]⟩] (by decide) (by decide)
      have q1 : 0 ≤ wrap64 (3990 + u) ∧ wrap64 (3990 + u) ≤ 4010 := by unfold wrap64; omega
      have q2 : (wrap64 (3990 + u)).toNat ≤ 281474976710656 := by omega
      have q3 : out.length < 8796093022208 := by omega
      refine ⟨(out ++ [strOfNums (List.replicate (wrap64 (3990 + u)).toNat 0)], m), ?_, ?_, ?_⟩
      · refine Evt.succ (fun k => by rw [spec_DrawJoinStrings.l0, if_neg c1, e1', Option.bind_some, if_pos h, e2, Option.bind_some, if_pos q1.1, if_pos q2, if_pos q3, e3, Option.bind_some]) (Evt.const _)
      · show (out ++ [_]).length ≤ 10
        rw [List.length_append, List.length_singleton]
        omega
      · intro x hx
        rcases List.mem_append.1 hx with hx | hx
        · exact hm x hx
        · obtain rfl := List.mem_singleton.1 hx
          have : (strOfNums (List.replicate (wrap64 (3990 + u)).toNat 0)).size = (wrap64 (3990 + u)).toNat := by
            unfold strOfNums
            show (List.map _ _).toArray.size = _
            simp
          rw [this]
          omega
    · obtain ⟨m, sd3, e3, hm3⟩ := of_evt L hL (a + 1) (by omega) sd1 [⟨#[44]⟩, ⟨#[59]⟩, ⟨#[59]⟩, ⟨#[]⟩, ⟨#[97, 98]⟩] (by decide) (by decide)
      refine ⟨(out, m), ?_, by show out.length ≤ 10; omega, hm⟩
      exact Evt.succ (fun k => by rw [spec_DrawJoinStrings.l0, if_neg c1, e1', Option.bind_some, if_neg h, e3, Option.bind_some]) (Evt.const _)
  | succ d ih =>
    intro i a sd out hi hd ha ho hm
    have c1 : (i : Int) < (n : Int) := by omega
    have c2 : out.length < 8796093022208 := by omega
    obtain ⟨x, sd1, e1, hx⟩ := any_evt L hL a (by omega) sd
    have hxs := seps_small x hx
    obtain ⟨r, r1, r2, r3⟩ := ih (i + 1) (a + 1) sd1 (out ++ [x]) (by omega) (by omega) (by omega) (by rw [List.length_append, List.length_singleton]; omega) (fun y hy => by
      rcases List.mem_append.1 hy with hy | hy
      · exact hm y hy
      · obtain rfl := List.mem_singleton.1 hy
        omega)
    have w := wrap_succ i (by omega)
    exact ⟨r, Evt.succ (fun k => by rw [spec_DrawJoinStrings.l0, if_pos c1, e1, Option.bind_some, if_pos c2, w]) r1, r2, r3⟩
theorem drawJ_evt (L : List Int) (hL : okB L) : ∃ r : List ByteArray × ByteArray, Evt (fun k => spec_DrawJoinStrings.f k L) r ∧ r.1.length ≤ 10 ∧ ∀ m ∈ r.1, m.size ≤ 5000 := by
  obtain ⟨v, sd1, e1, v0, v1⟩ := pick_evt L hL 0 (by omega) 0 4 (by omega) (by omega)
  obtain ⟨r, r1, r2, r3⟩ := drawJ_l0 L hL v.toNat (by omega) v.toNat 0 1 sd1 [] (by omega) (by omega) (by omega) (by simp) (by simp)
  refine ⟨r, ?_, r2, r3⟩
  rw [show ((v.toNat : Nat) : Int) = v by omega] at r1
  refine Evt.bind (a := (v, ((0 + 1 : Nat) : Int), sd1)) (Evt.of_eq (fun _ => e1) (Evt.const _)) r1
def seps : List ByteArray := [⟨#[44]⟩, ⟨#[44]⟩, ⟨#[32]⟩, ⟨#[]⟩, ⟨#[44, 44]⟩]
theorem drawS (L : List Int) (hL : okB L) : ∃ s m, spec_DrawSplitString.f L = some (s, m) ∧ s ∈ anys ∧ m ∈ seps := by
  obtain ⟨s, sd1, e1, h1⟩ := any_evt L hL 0 (by omega) 0
  obtain ⟨m, sd2, e2, h2⟩ := of_evt L hL 1 (by omega) sd1 seps (by decide) (by decide)
  refine ⟨s, m, ?_, h1, h2⟩
  unfold spec_DrawSplitString.f
  show (spec_l1Cur_any1.f L ((0 : Nat) : Int) 0).bind _ = _
  rw [e1, Option.bind_some]
  show (spec_l1Cur_of.f L ((0 + 1 : Nat) : Int) sd1 seps).bind _ = _
  rw [e2]
  rfl
theorem drawL (L : List Int) (hL : okB L) : ∃ a b, spec_DrawLessString.f L = some (a, b) := by
  obtain ⟨s, sd1, e1, h1⟩ := any_evt L hL 0 (by omega) 0
  obtain ⟨m, sd2, e2, h2⟩ := any_evt L hL 1 (by omega) sd1
  refine ⟨s, m, ?_⟩
  unfold spec_DrawLessString.f
  show (spec_l1Cur_any1.f L ((0 : Nat) : Int) 0).bind _ = _
  rw [e1, Option.bind_some]
  show (spec_l1Cur_any1.f L ((0 + 1 : Nat) : Int) sd1).bind _ = _
  rw [e2]
  rfl
theorem sum_le (l : List ByteArray) (h : ∀ m ∈ l, m.size ≤ 5000) : (l.map ByteArray.size).sum ≤ 5000 * l.length := by
  induction l with
  | nil => simp
  | cons a l ih =>
    have := ih (fun m hm => h m (List.mem_cons_of_mem _ hm))
    have := h a List.mem_cons_self
    rw [List.map_cons, List.sum_cons, List.length_cons]
    omega
/-- The law's own end. -/
theorem tail_evt (s m : ByteArray) (hs : s.size ≤ 4000) : ∃ l b, impl_SplitString.f s m = some (l, b) ∧ Evt (fun k => laws_FnSplitJoin.j0 k s m l b false) true := by
  have c0 : ¬ (s.size : Int) > 4000 := by omega
  by_cases h1 : m.size = 1
  · obtain ⟨⟨q⟩⟩ := m
    have h1 : q.length = 1 := h1
    match q, h1 with
    | [c], _ =>
      obtain ⟨l, e, hj⟩ := back_evt s hs c
      refine ⟨l, true, ?_, ?_⟩
      · unfold impl_SplitString.f
        rw [if_neg c0, if_pos (by rfl), e]
        rfl
      · have hb : (s.toList == s.toList) = true := by simp
        have u : ∀ k, laws_FnSplitJoin.j0 (k + 1) s ⟨#[c]⟩ l true false = (impl_JoinStrings.f k l ⟨#[c]⟩).bind fun bt206 => if bt206.2 = true then some (bt206.1.toList == s.toList) else some false := by
          intro k
          rw [laws_FnSplitJoin.j0, if_neg (by simp), if_pos (by rfl)]
          simp only [if_pos]
        refine Evt.succ u (Evt.bind hj (Evt.ite_pos rfl ?_))
        show Evt (fun _ => some (s.toList == s.toList)) true
        rw [hb]
        exact Evt.const _
  · have c1 : ¬ (m.size : Int) = 1 := by omega
    refine ⟨[], false, ?_, ?_⟩
    · unfold impl_SplitString.f
      rw [if_neg c0, if_neg c1]
    · exact Evt.succ (h := fun _ => some true) (fun k => by rw [laws_FnSplitJoin.j0, if_neg (by simp), if_neg c1, if_neg (by simp)]; rfl) (Evt.const _)
theorem wf_byte (x : Int) (h : (Lit.int .u8 x).wf = true) : 0 ≤ x ∧ x ≤ 255 := by
  simp [Lit.wf, IntKind.min, IntKind.max, IntKind.bits, IntKind.signed] at h
  omega
/-- The comparison's end. -/
theorem less_evt (s m : ByteArray) (l : List ByteArray) (b : Bool) (x y : ByteArray) (ht : Evt (fun k => laws_FnSplitJoin.j0 k s m l b false) true) : Evt (fun k => (impl_LessString.f x y).bind fun t202 => (spec_LessString.f x y).bind fun t203 => if (t202 != t203) = true then laws_FnSplitJoin.j0 k s m l b true else (impl_LessString.f x y).bind fun t204 => if t204 = true then (impl_LessString.f y x).bind fun t205 => laws_FnSplitJoin.j0 k s m l b t205 else laws_FnSplitJoin.j0 k s m l b false) true := by
  refine ht.of_eq (fun k => ?_)
  show (if (Op.bytesLess x.toList y.toList != Op.bytesLess x.toList y.toList) = true then _ else if Op.bytesLess x.toList y.toList = true then laws_FnSplitJoin.j0 k s m l b (Op.bytesLess y.toList x.toList) else _) = _
  rw [if_neg (by simp)]
  by_cases h : Op.bytesLess x.toList y.toList = true
  · rw [if_pos h, less_asymm _ _ h]
  · rw [if_neg h]
theorem FnSplitJoin : laws_FnSplitJoin.Pure := by
  intro L hL hw
  refine Evt.get (r := true) ?_
  by_cases big : (L.length : Int) > 65536
  · refine Evt.bind (a := true) (Evt.of_eq (fun _ => by unfold laws_vBig.f; rw [decide_eq_true big]) (Evt.const _)) (Evt.ite_pos rfl (Evt.const _))
  refine Evt.bind (a := false) (Evt.of_eq (fun _ => by unfold laws_vBig.f; rw [decide_eq_false big]) (Evt.const _)) (Evt.ite_neg (by simp) ?_)
  have hB : okB L := ⟨by omega, fun x hx => wf_byte x (hw x hx)⟩
  clear hw hL big
  obtain ⟨s, m, e1, hs, _⟩ := drawS L hB
  obtain ⟨l, b, e2, ht⟩ := tail_evt s m (seps_small s hs)
  obtain ⟨r, r1, r2, r3⟩ := drawJ_evt L hB
  have hsum := sum_le r.1 r3
  obtain ⟨q, q1, q2⟩ := bothJ r.1 ⟨by omega, r3⟩ (by omega) r.2
  obtain ⟨x, y, e3⟩ := drawL L hB
  refine Evt.bind (a := (s, m)) (Evt.of_eq (fun _ => e1) (Evt.const _)) (Evt.bind (a := (l, b)) (Evt.of_eq (fun _ => e2) (Evt.const _)) (Evt.bind r1 (Evt.bind q1 (Evt.bind q2 (Evt.bind (a := (x, y)) (Evt.of_eq (fun _ => e3) (Evt.const _)) (Evt.ite_pos rfl ?_))))))
  exact Evt.ite_neg (show ¬ ((q.2 != q.2) = true) by simp) (less_evt s m l b x y ht)
end Go.Proofs.YtolbhpgphinjcaaDoor.Pure
