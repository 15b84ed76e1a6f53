/- The program's TableAt returns what the reference's TableAt returns, for all arguments. No condition. -/
import Derived.Test.YtlgmccliclmbaaaPFnExactTableAtx5
namespace Go.Proofs.Ytlgmccliclmbaaa.Pure
open Go.RowKit Go.Proofs.Ytlgmccliclmbaaa.PFnExactTableAt Go.Proofs.YtlgmccliclmbaaaW.PrintWords Go.Proofs.YtlgmccliclmbaaaW.PrintLast Go.Proofs.YtlgmccliclmbaaaW.PrintMore
set_option linter.unusedVariables false
set_option linter.unusedSimpArgs false

/-! ### in -/
theorem in_eq (a b c : Int) : impl_in.f a b c = some (decide (b ≤ a ∧ a ≤ c)) := by
  unfold impl_in.f
  by_cases h : a ≥ b
  · rw [if_pos h]
    simp [show b ≤ a from h]
  · rw [if_neg h]
    simp [show ¬ b ≤ a from h]
theorem l1In_eq (a b c : Int) : spec_l1In.f a b c = some (decide (b ≤ a ∧ a ≤ c)) := by
  unfold spec_l1In.f
  by_cases h : a ≥ b
  · rw [if_pos h]
    simp [show b ≤ a from h]
  · rw [if_neg h]
    simp [show ¬ b ≤ a from h]

/-! ### ev -/
/-- With enough rounds, and ever after, g answers r. -/
def Evt {α : Type} (g : Nat → Option α) (r : α) : Prop := ∃ K, ∀ k, K ≤ k → g k = some r
theorem Evt.const {α : Type} (r : α) : Evt (fun _ => some r) r := ⟨0, fun _ _ => rfl⟩
theorem Evt.of_eq {α : Type} {g h : Nat → Option α} {r : α} (e : ∀ k, g k = h k) (H : Evt h r) : Evt g r := by
  obtain ⟨K, hK⟩ := H
  exact ⟨K, fun k hk => (e k).trans (hK k hk)⟩
theorem Evt.bind {α β : Type} {g : Nat → Option β} {h : Nat → β → Option α} {a : β} {r : α} (H1 : Evt g a) (H2 : Evt (fun k => h k a) r) : Evt (fun k => (g k).bind (h k)) r := by
  obtain ⟨K1, h1⟩ := H1
  obtain ⟨K2, h2⟩ := H2
  refine ⟨max K1 K2, fun k hk => ?_⟩
  show (g k).bind (h k) = some r
  rw [h1 k (by omega)]
  exact h2 k (by omega)
theorem Evt.succ {α : Type} {g h : Nat → Option α} {r : α} (e : ∀ k, g (k + 1) = h k) (H : Evt h r) : Evt g r := by
  obtain ⟨K, hK⟩ := H
  refine ⟨K + 1, fun k hk => ?_⟩
  obtain ⟨k, rfl⟩ : ∃ m, k = m + 1 := ⟨k - 1, by omega⟩
  rw [e]
  exact hK k (by omega)
theorem Evt.get {α : Type} {g : Nat → Option α} {r : α} (H : Evt g r) : ∃ k, g k = some r := by
  obtain ⟨K, hK⟩ := H
  exact ⟨K, hK K (Nat.le_refl _)⟩
theorem Evt.get2 {α β : Type} {g : Nat → Option α} {h : Nat → Option β} {r : α} {s : β} (H : Evt g r) (H' : Evt h s) : ∃ k, g k = some r ∧ h k = some s := by
  obtain ⟨K, hK⟩ := H
  obtain ⟨K', hK'⟩ := H'
  exact ⟨max K K', hK _ (by omega), hK' _ (by omega)⟩
theorem Evt.ite_pos {α : Type} {c : Prop} [Decidable c] {g h : Nat → Option α} {r : α} (hc : c) (H : Evt g r) : Evt (fun k => if c then g k else h k) r :=
  H.of_eq (fun k => by rw [if_pos hc])
theorem Evt.ite_neg {α : Type} {c : Prop} [Decidable c] {g h : Nat → Option α} {r : α} (hc : ¬ c) (H : Evt h r) : Evt (fun k => if c then g k else h k) r :=
  H.of_eq (fun k => by rw [if_neg hc])
theorem Evt.pred {α : Type} {g h : Nat → Option α} {r : α} (e : ∀ k, g (k + 1) = h k) (H : Evt g r) : Evt h r := by
  obtain ⟨K, hK⟩ := H
  exact ⟨K, fun k hk => (e k).symm.trans (hK (k + 1) (by omega))⟩

/-! ### lists -/
theorem rdOf_get {α : Type} (d : α) (l : List α) (i : Nat) (h : i < l.length) : rdOf d l (i : Int) = l[i] := by
  unfold rdOf
  rw [Int.toNat_natCast, List.getD_eq_getElem?_getD, List.getElem?_eq_getElem h]
  rfl
theorem rd_get (l : List Int) (i : Nat) (h : i < l.length) : rd l (i : Int) = l[i] := by
  unfold rd
  rw [Int.toNat_natCast, List.getD_eq_getElem?_getD, List.getElem?_eq_getElem h]
  rfl
theorem drop_get {α : Type} (l : List α) (i : Nat) (h : i < l.length) : l.drop i = l[i] :: l.drop (i + 1) := by simp
theorem wrap_succ (i : Nat) (h : i < 9223372036854775807) : wrap64 ((i : Int) + 1) = ((i + 1 : Nat) : Int) := by unfold wrap64; omega

/-! ### has -/
/-- Does a number stand in a list? -/
theorem has_l0 (l : List Int) (x : Int) (hl : l.length < 9223372036854775807) (d : Nat) : ∀ i, i ≤ l.length → l.length - i = d → Evt (fun k => spec_l1Has.l0 k l x i) (decide (x ∈ l.drop i)) := by
  induction d with
  | zero =>
    intro i hi hd
    rw [List.drop_eq_nil_of_le (by omega)]
    exact Evt.succ (h := fun _ => some false) (fun k => by rw [spec_l1Has.l0, if_neg (by omega)]) (Evt.const _)
  | succ d ih =>
    intro i hi hd
    have hlt : i < l.length := by omega
    rw [drop_get l i hlt]
    by_cases h : l[i] = x
    · have e : decide (x ∈ l[i] :: l.drop (i + 1)) = true := by
        rw [decide_eq_true_eq, h]
        exact List.mem_cons_self
      rw [e]
      refine Evt.succ (h := fun _ => some true) (fun k => ?_) (Evt.const _)
      rw [spec_l1Has.l0, if_pos (by omega), if_pos (by omega), rd_get _ _ hlt, if_pos h]
    · have e : decide (x ∈ l[i] :: l.drop (i + 1)) = decide (x ∈ l.drop (i + 1)) := by
        rw [decide_eq_decide, List.mem_cons]
        exact ⟨fun h' => h'.elim (fun e => absurd e.symm h) id, .inr⟩
      rw [e]
      refine Evt.succ (fun k => ?_) (ih (i + 1) (by omega) (by omega))
      rw [spec_l1Has.l0, if_pos (by omega), if_pos (by omega), rd_get _ _ hlt, if_neg h, wrap_succ i (by omega)]
theorem has_evt (l : List Int) (x : Int) (hl : l.length < 9223372036854775807) : Evt (fun k => spec_l1Has.f k l x) (decide (x ∈ l)) :=
  has_l0 l x hl l.length 0 (by omega) (by omega)

/-! ### marksText -/
/-- The marks that the law writes into a row of texts. -/
theorem markText_l0 (d : Nat) : ∀ (x : Nat) (s : ByteArray), x ≤ 1099511627777 → x < 10 ^ d → s.size + d ≤ 1000 → ∃ r, Evt (fun k => laws_markText.l0 k x s) r := by
  induction d with
  | zero =>
    intro x s h0 h1 hs
    have hx : ¬ (x : Int) > 0 := by
      have : x < 1 := h1
      omega
    refine ⟨_, Evt.succ (h := fun _ => some ((⟨#[109]⟩ : ByteArray) ++ s)) (fun k => ?_) (Evt.const _)⟩
    rw [laws_markText.l0, if_neg hx, if_pos (by omega)]
  | succ d ih =>
    intro x s h0 h1 hs
    by_cases hx : (x : Int) > 0
    · have e : wrap64 (Int.tdiv x 10) = ((x / 10 : Nat) : Int) := by
        rw [Int.tdiv_eq_ediv_of_nonneg (by omega)]
        unfold wrap64
        omega
      have hz : (strOfNums [(wrap64 (48 + (Int.tmod x 10))) % 256]).size = 1 := by
        rw [strOfNums_size]
        rfl
      obtain ⟨r, hr⟩ := ih (x / 10) (strOfNums [(wrap64 (48 + (Int.tmod x 10))) % 256] ++ s) (by omega) (by rw [Nat.pow_succ] at h1; omega) (by rw [ByteArray.size_append, hz]; omega)
      refine ⟨r, Evt.succ (fun k => ?_) hr⟩
      rw [laws_markText.l0, if_pos hx]
      show (if _ then _ else _) = _
      rw [if_pos (by rw [hz]; omega), e]
    · refine ⟨_, Evt.succ (h := fun _ => some ((⟨#[109]⟩ : ByteArray) ++ s)) (fun k => ?_) (Evt.const _)⟩
      rw [laws_markText.l0, if_neg hx, if_pos (by omega)]
theorem markText_evt (x : Nat) (h : x ≤ 1099511627777) : ∃ r, Evt (fun k => laws_markText.f k x) r := by
  by_cases hx : (x : Int) ≤ 0
  · exact ⟨_, Evt.ite_pos hx (Evt.const _)⟩
  · obtain ⟨r, hr⟩ := markText_l0 13 x (⟨#[]⟩ : ByteArray) h (by omega) (by decide)
    exact ⟨r, Evt.ite_neg hx hr⟩
theorem markStringS_l0 (n : Nat) (hn : n ≤ 1099511627776) (d : Nat) : ∀ (i : Nat) (x : List ByteArray), i ≤ n → n - i = d → x.length = n → ∃ y, Evt (fun k => laws_markStringS.l0 k x ((1 + i : Nat) : Int) i) (((1 + n : Nat) : Int), y) := by
  induction d with
  | zero =>
    intro i x hi hd hx
    obtain rfl : i = n := by omega
    refine ⟨x, Evt.succ (h := fun _ => some (((1 + i : Nat) : Int), x)) (fun k => ?_) (Evt.const _)⟩
    rw [laws_markStringS.l0, if_neg (by omega)]
  | succ d ih =>
    intro i x hi hd hx
    obtain ⟨t, ht⟩ := markText_evt (1 + i) (by omega)
    obtain ⟨y, hy⟩ := ih (i + 1) (x.set i t) (by omega) (by omega) (by rw [List.length_set]; exact hx)
    refine ⟨y, Evt.succ (fun k => ?_) (Evt.bind (h := fun k t => if 0 ≤ (i : Int) then laws_markStringS.l0 k (x.set i t) ((1 + (i + 1) : Nat) : Int) ((i + 1 : Nat) : Int) else none) ht (Evt.ite_pos (by omega) hy))⟩
    rw [laws_markStringS.l0, if_pos (by omega), wrap_succ i (by omega), wrap_succ (1 + i) (by omega), Int.toNat_natCast]
    rfl
theorem markStringS_evt (l : List ByteArray) (hl : l.length ≤ 1099511627776) : ∃ y, Evt (fun k => laws_markStringS.f k l 1) (((1 + l.length : Nat) : Int), y) :=
  markStringS_l0 l.length hl l.length 0 l (by omega) (by omega) rfl

/-! ### heldText -/
/-- The marks in a row of texts, and that they are held. -/
noncomputable def mt (x : Nat) : ByteArray := if h : x ≤ 1099511627777 then Classical.choose (markText_evt x h) else ByteArray.empty
theorem mt_evt (x : Nat) (h : x ≤ 1099511627777) : Evt (fun k => laws_markText.f k x) (mt x) := by
  unfold mt
  rw [dif_pos h]
  exact Classical.choose_spec (markText_evt x h)
noncomputable def mts (n : Nat) : List ByteArray := (List.range n).map fun i => mt (1 + i)
theorem mts_len (n : Nat) : (mts n).length = n := by unfold mts; rw [List.length_map, List.length_range]
theorem mts_get (n i : Nat) (h : i < (mts n).length) : (mts n)[i] = mt (1 + i) := by
  simp only [mts, List.getElem_map, List.getElem_range]
theorem markS_l0 (n : Nat) (hn : n ≤ 1099511627776) (d : Nat) : ∀ (i : Nat) (x : List ByteArray), i ≤ n → n - i = d → x.length = n → x.take i = (mts n).take i → Evt (fun k => laws_markStringS.l0 k x ((1 + i : Nat) : Int) i) (((1 + n : Nat) : Int), mts n) := by
  have h2 := mts_len n
  induction d with
  | zero =>
    intro i x hi hd hx ht
    obtain rfl : i = n := by omega
    have e : x = mts i := by
      rw [List.take_of_length_le (by omega), List.take_of_length_le (by omega)] at ht
      exact ht
    subst e
    exact Evt.succ (fun k => by rw [laws_markStringS.l0, if_neg (by omega)]) (Evt.const _)
  | succ d ih =>
    intro i x hi hd hx ht
    refine Evt.succ (fun k => ?_) (Evt.bind (h := fun k t => if 0 ≤ (i : Int) then laws_markStringS.l0 k (x.set i t) ((1 + (i + 1) : Nat) : Int) ((i + 1 : Nat) : Int) else none) (mt_evt (1 + i) (by omega)) (Evt.ite_pos (by omega) (ih (i + 1) (x.set i (mt (1 + i))) (by omega) (by omega) (by rw [List.length_set]; exact hx) ?_)))
    · rw [laws_markStringS.l0, if_pos (by omega), wrap_succ i (by omega), wrap_succ (1 + i) (by omega), Int.toNat_natCast]
      rfl
    · rw [List.take_succ_eq_append_getElem (by rw [List.length_set]; omega), List.take_succ_eq_append_getElem (by omega), List.take_set_of_le (by omega), ht, List.getElem_set_self, mts_get]
theorem markS_evt (l : List ByteArray) (hl : l.length ≤ 1099511627776) : Evt (fun k => laws_markStringS.f k l 1) (((1 + l.length : Nat) : Int), mts l.length) :=
  markS_l0 l.length hl l.length 0 l (by omega) (by omega) rfl rfl
theorem heldS_l0 (n : Nat) (hn : n ≤ 1099511627776) (d : Nat) : ∀ (i : Nat), i ≤ n → n - i = d → Evt (fun k => laws_heldStringS.l0 k (mts n) ((1 + i : Nat) : Int) i) ((1 + n : Nat) : Int) := by
  have h2 := mts_len n
  induction d with
  | zero =>
    intro i hi hd
    obtain rfl : i = n := by omega
    exact Evt.succ (fun k => by rw [laws_heldStringS.l0, if_neg (by omega)]) (Evt.const _)
  | succ d ih =>
    intro i hi hd
    refine Evt.succ (h := fun k => (laws_markText.f k ((1 + i : Nat) : Int)).bind fun t => if (mt (1 + i)).toList = t.toList then laws_heldStringS.l0 k (mts n) ((1 + (i + 1) : Nat) : Int) ((i + 1 : Nat) : Int) else some (-1)) (fun k => ?_) (Evt.bind (mt_evt (1 + i) (by omega)) (Evt.ite_pos rfl (ih (i + 1) (by omega) (by omega))))
    rw [laws_heldStringS.l0, if_pos (by omega), if_pos (by omega), rdOf_get _ _ _ (by omega), mts_get, wrap_succ i (by omega), wrap_succ (1 + i) (by omega)]
    rfl
theorem heldS_evt (n : Nat) (hn : n ≤ 1099511627776) : Evt (fun k => laws_heldStringS.f k (mts n) 1) ((1 + n : Nat) : Int) := heldS_l0 n hn n 0 (by omega) (by omega)

/-! ### marks -/
/-- A byte that is a mark. -/
def okc (c : UInt8) : Bool := c == 46 || c == 45
def okMarks (s : ByteArray) (lo hi : Int) : Bool := decide (lo ≤ s.size ∧ (s.size : Int) ≤ hi) && s.data.toList.all okc
theorem size_data (s : ByteArray) : s.data.toList.length = s.size := by rw [Array.length_toList]; rfl
theorem bt_get (s : ByteArray) (i : Nat) (h : i < s.size) : bt s (i : Int) = ((s.data.toList[i]'(by rw [size_data]; exact h)).toNat : Int) := by
  unfold bt
  rw [dif_pos (by simpa using h)]
  simp only [Int.toNat_natCast, Array.getElem_toList]
  rfl
theorem drop_cons_ (l : List UInt8) (i : Nat) (h : i < l.length) : l.drop i = l[i] :: l.drop (i + 1) := by simp

/-! ### tolist -/
theorem toList_inj (a b : ByteArray) : a.toList = b.toList ↔ a = b := by
  rw [Lib.toList_data, Lib.toList_data]
  constructor
  · intro h
    obtain ⟨⟨l⟩⟩ := a
    obtain ⟨⟨m⟩⟩ := b
    simp only at h
    rw [h]
  · rintro rfl
    rfl

/-! ### table -/
open Classical
/-- The first place of a text in a list, from place i on; -1 for none. -/
def plc : List ByteArray → ByteArray → Nat → Int
  | [], _, _ => -1
  | x :: l, s, i => if x = s then (i : Int) else plc l s (i + 1)
theorem plc_ge (l : List ByteArray) (s : ByteArray) : ∀ i, plc l s i = -1 ∨ (i : Int) ≤ plc l s i := by
  induction l with
  | nil => exact fun i => .inl rfl
  | cons x l ih =>
    intro i
    unfold plc
    by_cases h : x = s
    · rw [if_pos h]
      exact .inr (Int.le_refl _)
    · rw [if_neg h]
      rcases ih (i + 1) with h | h
      · exact .inl h
      · right
        omega
theorem plc_none (l : List ByteArray) (s : ByteArray) : ∀ i, plc l s i = -1 ↔ s ∉ l := by
  induction l with
  | nil => intro i; simp [plc]
  | cons x l ih =>
    intro i
    unfold plc
    by_cases h : x = s
    · subst h
      rw [if_pos rfl]
      simp
    · rw [if_neg h, ih, List.mem_cons]
      constructor
      · intro hn he
        rcases he with e | e
        · exact h e.symm
        · exact hn e
      · intro hn he
        exact hn (.inr he)
theorem plc_lt (l : List ByteArray) (s : ByteArray) : ∀ i, plc l s i < ((i + l.length : Nat) : Int) := by
  induction l with
  | nil => intro i; simp [plc]; omega
  | cons x l ih =>
    intro i
    unfold plc
    by_cases h : x = s
    · rw [if_pos h]
      simp
      omega
    · rw [if_neg h]
      have := ih (i + 1)
      simp at this ⊢
      omega
/-- Is a list of marks a table? -/
noncomputable def okTable (l : List ByteArray) : Bool := decide (1 ≤ l.length ∧ l.length ≤ 10 ∧ (∀ m ∈ l, okMarks m 1 5 = true) ∧ l.Nodup)
theorem plc_first (l m : List ByteArray) (s : ByteArray) : ∀ i, plc (l ++ s :: m) s i = ((i + l.length : Nat) : Int) ↔ s ∉ l := by
  induction l with
  | nil =>
    intro i
    simp [plc]
  | cons x l ih =>
    intro i
    rw [List.cons_append]
    unfold plc
    by_cases h : x = s
    · rw [if_pos h]
      simp [h]
      omega
    · rw [if_neg h, show i + (x :: l).length = (i + 1) + l.length by simp; omega, ih, List.mem_cons]
      constructor
      · intro hn he
        rcases he with e | e
        · exact h e.symm
        · exact hn e
      · intro hn he
        exact hn (.inr he)
/-- The rest of a table is good, what stands ahead of it known. -/
noncomputable def okRest (l : List ByteArray) (i : Nat) : Bool := decide (∀ j (h : j < l.length), i ≤ j → okMarks l[j] 1 5 = true ∧ l[j] ∉ l.take j)
theorem okRest_end (l : List ByteArray) (i : Nat) (h : l.length ≤ i) : okRest l i = true := by
  unfold okRest
  rw [decide_eq_true_eq]
  intro j hj hij
  omega
theorem okRest_step (l : List ByteArray) (i : Nat) (h : i < l.length) : okRest l i = (okMarks l[i] 1 5 && (!decide (l[i] ∈ l.take i)) && okRest l (i + 1)) := by
  unfold okRest
  rw [Bool.eq_iff_iff]
  simp only [Bool.and_eq_true, decide_eq_true_eq, Bool.not_eq_true', decide_eq_false_iff_not]
  constructor
  · intro H
    exact ⟨H i h (Nat.le_refl _), fun j hj hij => H j hj (by omega)⟩
  · intro H j hj hij
    by_cases e : j = i
    · subst e
      exact H.1
    · exact H.2 j hj (by omega)
theorem okTable_eq (l : List ByteArray) : okTable l = (decide (1 ≤ l.length ∧ l.length ≤ 10) && okRest l 0) := by
  unfold okTable okRest
  rw [Bool.eq_iff_iff]
  simp only [Bool.and_eq_true, decide_eq_true_eq]
  constructor
  · rintro ⟨h1, h2, h3, h4⟩
    refine ⟨⟨h1, h2⟩, fun j hj _ => ⟨h3 _ (List.getElem_mem hj), fun hm => ?_⟩⟩
    obtain ⟨q, hq, he⟩ := List.getElem_of_mem hm
    rw [List.length_take] at hq
    rw [List.getElem_take] at he
    exact absurd ((List.getElem_inj h4).1 he) (by omega)
  · rintro ⟨⟨h1, h2⟩, h3⟩
    refine ⟨h1, h2, fun m hm => ?_, ?_⟩
    · obtain ⟨j, hj, rfl⟩ := List.getElem_of_mem hm
      exact (h3 j hj (Nat.zero_le _)).1
    · rw [List.nodup_iff_pairwise_ne, List.pairwise_iff_getElem]
      intro i j hi hj hij he
      refine (h3 j hj (Nat.zero_le _)).2 ?_
      rw [← he]
      exact List.mem_of_getElem? (i := i) (by rw [List.getElem?_take, if_pos hij, List.getElem?_eq_getElem hi])

/-! ### lawtable -/
theorem eqStringS_l0 (l : List ByteArray) (hl : l.length ≤ 1048576) (d : Nat) : ∀ (i : Nat), i ≤ l.length → l.length - i = d → Evt (fun k => laws_eqStringS.l0 k l l i) true := by
  induction d with
  | zero =>
    intro i hi hd
    refine Evt.succ (h := fun _ => some true) (fun k => ?_) (Evt.const _)
    simp only [laws_eqStringS.l0]
    rw [if_neg (by omega)]
  | succ d ih =>
    intro i hi hd
    refine Evt.succ (fun k => ?_) (ih (i + 1) (by omega) (by omega))
    simp only [laws_eqStringS.l0]
    rw [if_pos (by omega), if_pos (by omega), if_pos (by omega), if_pos trivial, wrap_succ i (by omega)]
theorem eqStringS_evt (l : List ByteArray) (hl : l.length ≤ 1048576) : Evt (fun k => laws_eqStringS.f k l l) true := by
  refine (eqStringS_l0 l hl l.length 0 (by omega) (by omega)).of_eq (fun k => ?_)
  unfold laws_eqStringS.f
  rw [if_pos rfl]
  rfl
theorem eqTable_evt (l : List ByteArray) (hl : l.length ≤ 1048576) : Evt (fun k => laws_eqTable.f k l l) true :=
  Evt.bind (eqStringS_evt l hl) (Evt.ite_pos rfl (Evt.const _))
theorem of_table (l : List ByteArray) (h : okTable l = true) : 1 ≤ l.length ∧ l.length ≤ 10 ∧ (∀ m ∈ l, okMarks m 1 5 = true) ∧ l.Nodup := by
  unfold okTable at h
  rw [decide_eq_true_eq] at h
  exact h
theorem len_wrap (l : List ByteArray) (h : l.length ≤ 1048576) : wrap64 ((l.length : Int) - 1) = (l.length : Int) - 1 := by
  unfold wrap64
  omega
theorem isLetter_len (l : List ByteArray) (h : okTable l = true) : wrap64 ((l.length : Int) - 1) = (l.length : Int) - 1 := by
  have := of_table l h
  unfold wrap64
  omega

/-! ### heldTable -/
theorem markTable2_evt (l : List ByteArray) (hl : l.length ≤ 1099511627776) : Evt (fun k => laws_markTable.f k l 1) (((1 + l.length : Nat) : Int), mts l.length) :=
  Evt.bind (markS_evt l hl) (Evt.const _)
theorem heldTable_evt (n : Nat) (hn : n ≤ 1099511627776) : Evt (fun k => laws_heldTable.f k (mts n) 1) ((1 + n : Nat) : Int) :=
  Evt.bind (heldS_evt n hn) (Evt.ite_neg (by omega) (Evt.const _))

/-! ### mono -/
/-- What is told once is told ever after. -/
theorem Evt.of_mono {α : Type} {g : Nat → Option α} {r : α} (m : ∀ k, LeO (g k) (g (k + 1))) {k0 : Nat} (h : g k0 = some r) : Evt g r := by
  refine ⟨k0, fun k hk => ?_⟩
  obtain ⟨d, rfl⟩ : ∃ d, k = k0 + d := ⟨k - k0, by omega⟩
  clear hk
  induction d with
  | zero => exact h
  | succ d ih => exact m (k0 + d) r ih

/-! ### rank -/
/-- How many lists of n different ones there are of N. -/
def tabN : Nat → Nat → Nat
  | 0, _ => 1
  | n + 1, N => N * tabN n (N - 1)
theorem left_in : ∀ m : Fin 5, spec_l9Left.f ((m.val : Int) + 1) = some ((2 ^ (m.val + 2) - 2 : Nat) : Int) ∧ impl_nodesFor.f ((m.val : Int) + 1) = some ((2 ^ (m.val + 2) - 2 : Nat) : Int) := by decide +kernel
theorem many_in : ∀ m : Fin 5, ∀ i : Fin 11, ∀ n : Fin 11, n.val + i.val ≤ 10 → i.val ≤ 2 ^ (m.val + 2) - 2 → spec_l9Many.f 20 n.val ((2 ^ (m.val + 2) - 2 - i.val : Nat) : Int) = some (tabN n.val (2 ^ (m.val + 2) - 2 - i.val) : Int) ∧ impl_tables.f 20 n.val ((2 ^ (m.val + 2) - 2 - i.val : Nat) : Int) = some (tabN n.val (2 ^ (m.val + 2) - 2 - i.val) : Int) ∧ tabN n.val (2 ^ (m.val + 2) - 2 - i.val) < 4611686018427387904 := by decide +kernel
/-- What is known of the number N of nodes of at most m marks. -/
structure Sized (a1 : Int) (N : Nat) : Prop where
  big : N ≤ 62
  left : spec_l9Left.f a1 = some (N : Int)
  nodes : impl_nodesFor.f a1 = some (N : Int)
  many : ∀ n i : Nat, n + i ≤ 10 → i ≤ N → Evt (fun k => spec_l9Many.f k n ((N - i : Nat) : Int)) (tabN n (N - i) : Int)
  tables : ∀ n i : Nat, n + i ≤ 10 → i ≤ N → Evt (fun k => impl_tables.f k n ((N - i : Nat) : Int)) (tabN n (N - i) : Int)
  less : ∀ n i : Nat, n + i ≤ 10 → i ≤ N → tabN n (N - i) < 4611686018427387904
theorem pow_in : ∀ m : Fin 5, 2 ^ (m.val + 2) - 2 ≤ 62 := by decide
theorem sized (a1 : Int) (h : 1 ≤ a1 ∧ a1 ≤ 5) : ∃ N, Sized a1 N := by
  obtain ⟨m, hm⟩ : ∃ m : Fin 5, a1 = (m.val : Int) + 1 := ⟨⟨(a1 - 1).toNat, by omega⟩, by show a1 = ((a1 - 1).toNat : Int) + 1; omega⟩
  subst hm
  exact ⟨2 ^ (m.val + 2) - 2, pow_in m, (left_in m).1, (left_in m).2, fun n i h1 h2 => Evt.of_mono (fun k => spec_l9Many.mono _ _ k) (many_in m ⟨i, by omega⟩ ⟨n, by omega⟩ h1 h2).1, fun n i h1 h2 => Evt.of_mono (fun k => impl_tables.mono _ _ k) (many_in m ⟨i, by omega⟩ ⟨n, by omega⟩ h1 h2).2.1, fun n i h1 h2 => (many_in m ⟨i, by omega⟩ ⟨n, by omega⟩ h1 h2).2.2⟩

/-! ### marksat -/
/-- The text of a node. -/
def mk (v : Nat) : ByteArray := (spec_l9Marks.f 10 v).getD ⟨#[]⟩
theorem marks_in : ((List.range 64).all fun v => decide (spec_l9Marks.f 10 (v : Int) = some (mk v)) && decide (impl_marksAt.f 10 (v : Int) = some (mk v)) && decide ((mk v).size ≤ 5)) = true := by decide +kernel
theorem marks_at (v : Nat) (h : v < 64) : Evt (fun k => spec_l9Marks.f k v) (mk v) ∧ Evt (fun k => impl_marksAt.f k v) (mk v) ∧ (mk v).size ≤ 5 := by
  have := List.all_eq_true.1 marks_in v (List.mem_range.2 h)
  rw [Bool.and_eq_true, Bool.and_eq_true, decide_eq_true_eq] at this
  replace this : (spec_l9Marks.f 10 (v : Int) = some (mk v) ∧ impl_marksAt.f 10 (v : Int) = some (mk v)) ∧ (mk v).size ≤ 5 := ⟨⟨this.1.1, of_decide_eq_true this.1.2⟩, of_decide_eq_true this.2⟩
  exact ⟨Evt.of_mono (fun k => spec_l9Marks.mono _ k) this.1.1, Evt.of_mono (fun k => impl_marksAt.mono _ k) this.1.2, this.2⟩

theorem wrap_back (q : Nat) (h : q < 1000) : wrap64 (((q + 1 : Nat) : Int) - 1) = (q : Int) := by unfold wrap64; omega
theorem wrap_a (n d i : Nat) (h : i + (d + 1) = n) (hn : n ≤ 10) : wrap64 ((wrap64 ((n : Int) - 1)) - i) = (d : Int) := by unfold wrap64; omega
theorem wrap_c (n d i : Nat) (h : i + (d + 1) = n) (hn : n ≤ 10) : wrap64 ((wrap64 ((n : Int) - i)) - 1) = (d : Int) := by unfold wrap64; omega
theorem wrap_b (N i : Nat) (h : i < N) (hN : N ≤ 62) : wrap64 ((wrap64 ((N : Int) - 1)) - i) = ((N - (i + 1) : Nat) : Int) := by unfold wrap64; omega
theorem wrap_d (N i : Nat) (h : i < N) (hN : N ≤ 62) : wrap64 ((wrap64 ((N : Int) - i)) - 1) = ((N - (i + 1) : Nat) : Int) := by unfold wrap64; omega
theorem wrap_less (q : Nat) (h : q < 100) : wrap64 (q : Int) = (q : Int) := by unfold wrap64; omega
/-- The nodes that are left, in order. -/
def leftL (N : Nat) (u : List Int) : List Int := ((List.range' 2 N).map fun n : Nat => (n : Int)).filter fun x => !decide (x ∈ u)
theorem erase_at : ∀ (l : List Int) (q : Nat) (hq : q < l.length), l.Nodup → l.filter (fun x => !decide (x = l[q])) = l.take q ++ l.drop (q + 1) := by
  intro l
  induction l with
  | nil => intro q hq; exact absurd hq (by simp)
  | cons a l ih =>
    intro q hq hn
    rw [List.nodup_cons] at hn
    cases q with
    | zero =>
      have e : l.filter (fun x => !decide (x = a)) = l := List.filter_eq_self.2 (fun x hx => by
        have : x ≠ a := fun e => hn.1 (e ▸ hx)
        simp [this])
      simp [e]
    | succ q =>
      have hq' : q < l.length := by simpa using hq
      have h1 := ih q hq' hn.2
      have hne : a ≠ l[q] := fun e => hn.1 (e ▸ List.getElem_mem hq')
      rw [List.getElem_cons_succ, List.filter_cons, if_pos (by simp [hne]), h1]
      simp
theorem left_snoc (N : Nat) (u : List Int) (v : Int) : leftL N (u ++ [v]) = (leftL N u).filter fun x => !decide (x = v) := by
  unfold leftL
  rw [List.filter_filter]
  congr 1
  funext x
  by_cases h1 : x ∈ u
  · simp [h1]
  · by_cases h2 : x = v
    · simp [h2]
    · simp [h1, h2]
theorem left_nodup (N : Nat) (u : List Int) : (leftL N u).Nodup := by
  unfold leftL
  rw [List.nodup_iff_pairwise_ne]
  refine List.Pairwise.filter _ ?_
  rw [List.pairwise_map]
  have h := List.nodup_range' (s := 2) (n := N)
  rw [List.nodup_iff_pairwise_ne] at h
  exact h.imp (fun h e => h (by omega))
theorem left_mem (N : Nat) (u : List Int) (x : Int) (h : x ∈ leftL N u) : ∃ v : Nat, x = v ∧ 2 ≤ v ∧ v < N + 2 := by
  unfold leftL at h
  obtain ⟨v, hv, rfl⟩ := List.mem_map.1 (List.mem_filter.1 h).1
  rw [List.mem_range'_1] at hv
  exact ⟨v, rfl, by omega, by omega⟩
/-- The reference looks for the node before which q are left. -/
theorem search (x0 x1 x2 : Int) (u : List Int) (hu : u.length < 100) (i e : Int) (out : List ByteArray) (R : List ByteArray × Bool) (c : Nat) : ∀ (v q : Nat) (hq : q < (((List.range' v c).map fun n : Nat => (n : Int)).filter fun x => !decide (x ∈ u)).length), v + c < 1000 →
    Evt (fun k => spec_TableAt.j3 k x0 x1 x2 u i e ((((List.range' v c).map fun n : Nat => (n : Int)).filter fun x => !decide (x ∈ u))[q]) 0 false out) R → Evt (fun k => spec_TableAt.l1 k x0 x1 x2 u i e v q out) R := by
  induction c with
  | zero => intro v q hq; exact absurd hq (by simp)
  | succ c ih =>
    intro v q hq hb hR
    have hh := has_evt u v (by omega)
    by_cases hv : (v : Int) ∈ u
    · rw [decide_eq_true hv] at hh
      have hl : (((List.range' v (c + 1)).map fun n : Nat => (n : Int)).filter fun x => !decide (x ∈ u)) = (((List.range' (v + 1) c).map fun n : Nat => (n : Int)).filter fun x => !decide (x ∈ u)) := by
        rw [List.range'_succ, List.map_cons, List.filter_cons, if_neg (by simp [hv])]
      simp only [hl] at hR
      have h1 := ih (v + 1) q (by rw [← hl]; exact hq) (by omega) hR
      have h2 : Evt (fun k => spec_TableAt.j3 k x0 x1 x2 u i e v q true out) R := by
        refine Evt.succ (h := fun k => (spec_l1Has.f k u v).bind fun t120 => if t120 = true then spec_TableAt.l1 k x0 x1 x2 u i e ((v + 1 : Nat) : Int) q out else spec_TableAt.l1 k x0 x1 x2 u i e ((v + 1 : Nat) : Int) (wrap64 ((q : Int) - 1)) out) (fun k => ?_) (Evt.bind hh (Evt.ite_pos rfl h1))
        rw [spec_TableAt.j3, if_pos rfl, wrap_succ v (by omega)]
      by_cases h0 : (q : Int) > 0
      · exact Evt.succ (fun k => by rw [spec_TableAt.l1, if_pos h0]) h2
      · exact Evt.succ (h := fun k => (spec_l1Has.f k u v).bind fun t119 => spec_TableAt.j3 k x0 x1 x2 u i e v q t119 out) (fun k => by rw [spec_TableAt.l1, if_neg h0]) (Evt.bind hh h2)
    · rw [decide_eq_false hv] at hh
      have hl : (((List.range' v (c + 1)).map fun n : Nat => (n : Int)).filter fun x => !decide (x ∈ u)) = (v : Int) :: (((List.range' (v + 1) c).map fun n : Nat => (n : Int)).filter fun x => !decide (x ∈ u)) := by
        rw [List.range'_succ, List.map_cons, List.filter_cons, if_pos (by simp [hv])]
      simp only [hl] at hR
      cases q with
      | zero => exact Evt.succ (h := fun k => (spec_l1Has.f k u v).bind fun t119 => spec_TableAt.j3 k x0 x1 x2 u i e v 0 t119 out) (fun k => by rw [spec_TableAt.l1, if_neg (by omega)]; rfl) (Evt.bind hh hR)
      | succ q =>
        rw [hl] at hq
        simp only [List.getElem_cons_succ] at hR
        have h1 := ih (v + 1) q (by simpa using hq) (by omega) hR
        have h2 : Evt (fun k => spec_TableAt.j3 k x0 x1 x2 u i e v ((q + 1 : Nat) : Int) true out) R := by
          refine Evt.succ (h := fun k => (spec_l1Has.f k u v).bind fun t120 => if t120 = true then spec_TableAt.l1 k x0 x1 x2 u i e ((v + 1 : Nat) : Int) ((q + 1 : Nat) : Int) out else spec_TableAt.l1 k x0 x1 x2 u i e ((v + 1 : Nat) : Int) q out) (fun k => ?_) (Evt.bind hh (Evt.ite_neg (by simp) h1))
          rw [spec_TableAt.j3, if_pos rfl, wrap_succ v (by omega), show wrap64 (((q + 1 : Nat) : Int) - 1) = (q : Int) by exact wrap_back q (by (have h9 := List.length_filter_le (fun x => !decide (x ∈ u)) ((List.range' (v + 1) c).map fun n : Nat => (n : Int)); rw [List.length_map, List.length_range'] at h9; rw [List.length_cons] at hq; omega))]
        exact Evt.succ (fun k => by rw [spec_TableAt.l1, if_pos (by omega)]) h2
theorem steps (n : Nat) (hn : n ≤ 10) (a1 : Int) (N : Nat) (S : Sized a1 N) (d : Nat) : ∀ (i x2 : Nat) (u : List Int) (out : List ByteArray), i + d = n → i ≤ N → u.length = i → out.length = i → (leftL N u).length = N - i → x2 < tabN d (N - i) →
    ∃ r : List ByteArray × Bool, Evt (fun k => spec_TableAt.l0 k n a1 x2 u i out) r ∧ Evt (fun k => impl_TableAt.l1 k n a1 x2 (leftL N u) n i out) r ∧ r.1.length ≤ 10 := by
  induction d with
  | zero =>
    intro i x2 u out hi hN hu ho hl hx
    exact ⟨(out, true), Evt.succ (fun k => by rw [spec_TableAt.l0, if_neg (by omega)]) (Evt.const _), Evt.succ (fun k => by rw [impl_TableAt.l1, if_neg (by omega)]) (Evt.const _), by show out.length ≤ 10; omega⟩
  | succ d ih =>
    intro i x2 u out hi hN hu ho hl hx
    have hB := S.big
    have hx' : x2 < (N - i) * tabN d (N - (i + 1)) := by
      have e : N - (i + 1) = N - i - 1 := by omega
      rw [e]
      exact hx
    have hbig := S.less (d + 1) i (by omega) hN
    have hpos : 0 < N - i := by
      rcases Nat.eq_zero_or_pos (N - i) with h | h
      · rw [h, Nat.zero_mul] at hx'
        omega
      · exact h
    have h1 := S.many d (i + 1) (by omega) (by omega)
    have h2 := S.tables d (i + 1) (by omega) (by omega)
    have hl2 := S.less d (i + 1) (by omega) (by omega)
    generalize hE : tabN d (N - (i + 1)) = E at h1 h2 hx' hl2
    have hEp : 0 < E := by
      rcases Nat.eq_zero_or_pos E with h | h
      · rw [h, Nat.mul_zero] at hx'
        omega
      · exact h
    have hq : x2 / E < N - i := Nat.div_lt_of_lt_mul (by rw [Nat.mul_comm]; exact hx')
    have hdm : wrap64 (Int.tdiv (x2 : Int) (E : Int)) = ((x2 / E : Nat) : Int) := by
      rw [Int.tdiv_eq_ediv_of_nonneg (by omega), ← Int.natCast_ediv]
      exact wrap_less _ (by omega)
    have hmm : Int.tmod (x2 : Int) (E : Int) = ((x2 % E : Nat) : Int) := by
      rw [Int.tmod_eq_emod_of_nonneg (by omega), Int.natCast_emod]
    have hml : x2 % E < E := Nat.mod_lt _ hEp
    have hiN : i < N := by clear hx hx' hbig hl2 hml hmm hdm; omega
    clear hbig hl2 hx hx'
    generalize x2 / E = q at hq hdm
    generalize x2 % E = y at hmm hml
    have HDM := Aside0.mk hdm
    have HMM := Aside0.mk hmm
    clear hdm hmm
    have hql : q < (leftL N u).length := by omega
    obtain ⟨v, hv, v2, vN⟩ := left_mem N u _ (List.getElem_mem hql)
    obtain ⟨m1, m2, _⟩ := marks_at v (by omega)
    have hsn : leftL N (u ++ [(v : Int)]) = (leftL N u).take q ++ (leftL N u).drop (q + 1) := by
      rw [left_snoc, ← hv]
      exact erase_at _ q hql (left_nodup N u)
    have hE0 : ¬ (E : Int) = 0 := by omega
    obtain ⟨r, r1, r2, hr⟩ := ih (i + 1) y (u ++ [(v : Int)]) (out ++ [mk v]) (by omega) (by omega) (by simp [hu]) (by simp [ho]) (by rw [hsn, List.length_append, List.length_take, List.length_drop]; omega) (by rw [hE]; exact hml)
    refine ⟨r, ?_, ?_, hr⟩
    · have hj : Evt (fun k => spec_TableAt.j3 k n a1 x2 u i E (((leftL N u))[q]) 0 false out) r := by
        rw [hv]
        refine Evt.succ (h := fun k => (spec_l9Marks.f k v).bind fun t124 => spec_TableAt.l0 k n a1 y (u ++ [(v : Int)]) ((i + 1 : Nat) : Int) (out ++ [t124])) (fun k => ?_) (Evt.bind m1 r1)
        rw [spec_TableAt.j3, if_neg (by simp), if_neg hE0, if_pos (by omega), HMM.out, wrap_succ i (by omega)]
        simp only [if_pos (show out.length < 8796093022208 by omega)]
      have hs := search n a1 x2 u (by omega) i E out r N 2 q hql (by omega) hj
      refine Evt.succ (h := fun k => (spec_l9Many.f k d ((N - (i + 1) : Nat) : Int)).bind fun t118 => if t118 = 0 then none else spec_TableAt.l1 k n a1 x2 u i t118 2 (wrap64 (Int.tdiv x2 t118)) out) (fun k => ?_) (Evt.bind h1 (Evt.ite_neg hE0 (by rw [HDM.out]; exact hs)))
      rw [spec_TableAt.l0, if_pos (by omega), S.left, Option.bind_some, wrap_a n d i hi hn, wrap_b N i hiN hB]
    · refine Evt.succ (h := fun k => (impl_tables.f k d ((N - (i + 1) : Nat) : Int)).bind fun t148 => if t148 = 0 then none else if 0 ≤ (wrap64 (Int.tdiv x2 t148)) then (if (wrap64 (Int.tdiv x2 t148)) < ((leftL N u).length : Int) then ((impl_marksAt.f k (rd (leftL N u) (wrap64 (Int.tdiv x2 t148)))).bind fun t150 => (if out.length < 8796093022208 then ((slices_Delete_int_int.f (leftL N u) (wrap64 (Int.tdiv x2 t148)) (wrap64 ((wrap64 (Int.tdiv x2 t148)) + 1))).bind fun t154 => (impl_TableAt.l1 k n a1 (Int.tmod x2 t148) t154 n ((i + 1 : Nat) : Int) (out ++ [t150]))) else (none))) else (none)) else (none)) (fun k => ?_) (Evt.bind h2 (Evt.ite_neg hE0 ?_))
      · rw [impl_TableAt.l1, if_pos (by omega), S.nodes, Option.bind_some, wrap_c n d i hi hn, wrap_d N i hiN hB, wrap_succ i (by omega)]
      · rw [HDM.out, HMM.out, rd_get _ _ hql, hv]
        refine Evt.ite_pos (by omega) (Evt.ite_pos (by omega) (Evt.bind m2 (Evt.ite_pos (by omega) ?_)))
        rw [wrap_succ q (by omega)]
        have hdel : slices_Delete_int_int.f (leftL N u) (q : Int) ((q + 1 : Nat) : Int) = some (leftL N (u ++ [(v : Int)])) := by
          unfold slices_Delete_int_int.f
          rw [if_pos (by omega), hsn]
          rfl
        exact r2.of_eq (fun k => by rw [hdel]; rfl)
theorem build (n a1 a2 : Int) (N : Nat) (hN : N ≤ 62) (R : List ByteArray × Bool) (h : Evt (fun k => impl_TableAt.l1 k n a1 a2 (leftL N []) n 0 []) R) (d : Nat) : ∀ i, i ≤ N → N - i = d → Evt (fun k => impl_TableAt.l0 k n a1 a2 ((List.range' 2 i).map fun n : Nat => (n : Int)) N i) R := by
  induction d with
  | zero =>
    intro i hi hd
    obtain rfl : i = N := by omega
    refine Evt.succ (fun k => ?_) h
    rw [impl_TableAt.l0, if_neg (by omega)]
    have e : leftL i [] = (List.range' 2 i).map fun n : Nat => (n : Int) := by
      unfold leftL
      exact List.filter_eq_self.2 (fun x _ => by simp)
    rw [e]
  | succ d ih =>
    intro i hi hd
    refine Evt.succ (fun k => ?_) (ih (i + 1) (by omega) (by omega))
    rw [impl_TableAt.l0, if_pos (by omega), if_pos (by simp; omega), List.range'_1_concat, List.map_append, wrap_succ i (by omega), show wrap64 ((i : Int) + 2) = ((2 + i : Nat) : Int) by unfold wrap64; omega]
    rfl
theorem same_evt (a0 a1 a2 : Int) (h0 : (Lit.int .i64 a2).wf = true) : ∃ r : List ByteArray × Bool, Evt (fun k => spec_TableAt.f k a0 a1 a2) r ∧ Evt (fun k => impl_TableAt.f k a0 a1 a2) r ∧ r.1.length ≤ 10 := by
  have no : ∃ r : List ByteArray × Bool, Evt (fun k => spec_TableAt.j0 k a0 a1 a2 true) r ∧ Evt (fun k => impl_TableAt.j0 k a0 a1 a2 true) r ∧ r.1.length ≤ 10 := ⟨(([] : List ByteArray), false), Evt.succ (fun k => by rw [spec_TableAt.j0, if_pos rfl]) (Evt.const _), Evt.succ (fun k => by rw [impl_TableAt.j0, if_pos rfl]) (Evt.const _), by simp⟩
  obtain ⟨r0, n1, n2, n3⟩ := no
  have es : ∀ k, spec_TableAt.f k a0 a1 a2 = if decide (1 ≤ a0 ∧ a0 ≤ 10) = true then (if decide (1 ≤ a1 ∧ a1 ≤ 5) = true then ((spec_l9Left.f a1).bind fun t107 => ((spec_l9Many.f k a0 t107).bind fun t108 => ((spec_l1In.f a2 0 (wrap64 (t108 - 1))).bind fun t109 => (spec_TableAt.j0 k a0 a1 a2 (!t109))))) else spec_TableAt.j0 k a0 a1 a2 true) else spec_TableAt.j0 k a0 a1 a2 true := by
    intro k
    unfold spec_TableAt.f spec_l9Size.f
    rw [l1In_eq, l1In_eq]
    cases decide (1 ≤ a0 ∧ a0 ≤ 10) <;> cases decide (1 ≤ a1 ∧ a1 ≤ 5) <;> rfl
  have ei : ∀ k, impl_TableAt.f k a0 a1 a2 = if decide (1 ≤ a0 ∧ a0 ≤ 10) = true then (if decide (1 ≤ a1 ∧ a1 ≤ 5) = true then ((impl_nodesFor.f a1).bind fun t136 => ((impl_tables.f k a0 t136).bind fun t137 => ((impl_in.f a2 0 (wrap64 (t137 - 1))).bind fun t138 => (impl_TableAt.j0 k a0 a1 a2 (!t138))))) else impl_TableAt.j0 k a0 a1 a2 true) else impl_TableAt.j0 k a0 a1 a2 true := by
    intro k
    unfold impl_TableAt.f impl_areFew.f
    rw [in_eq, in_eq]
    cases decide (1 ≤ a0 ∧ a0 ≤ 10) <;> cases decide (1 ≤ a1 ∧ a1 ≤ 5) <;> rfl
  by_cases c0 : 1 ≤ a0 ∧ a0 ≤ 10
  · by_cases c1 : 1 ≤ a1 ∧ a1 ≤ 5
    · obtain ⟨N, S⟩ := sized a1 c1
      obtain ⟨n, rfl⟩ : ∃ n : Nat, a0 = (n : Int) := ⟨a0.toNat, by omega⟩
      have m1 := S.many n 0 (by omega) (by omega)
      have m2 := S.tables n 0 (by omega) (by omega)
      have hl := S.less n 0 (by omega) (by omega)
      rw [Nat.sub_zero] at m1 m2 hl
      have hw : wrap64 ((tabN n N : Int) - 1) = (tabN n N : Int) - 1 := by unfold wrap64; omega
      by_cases c2 : 0 ≤ a2 ∧ a2 ≤ (tabN n N : Int) - 1
      · obtain ⟨x2, rfl⟩ : ∃ x2 : Nat, a2 = (x2 : Int) := ⟨a2.toNat, by omega⟩
        obtain ⟨r, r1, r2, r3⟩ := steps n (by omega) a1 N S n 0 x2 [] [] (by omega) (by omega) rfl rfl (by unfold leftL; rw [List.filter_eq_self.2 (fun x _ => by simp)]; simp) (by rw [Nat.sub_zero]; omega)
        refine ⟨r, ?_, ?_, r3⟩
        · refine Evt.of_eq es (Evt.ite_pos (by simp; omega) (Evt.ite_pos (by simp; omega) ?_))
          rw [S.left]
          refine Evt.bind (Evt.const _) (Evt.bind m1 ?_)
          rw [l1In_eq, hw, decide_eq_true c2]
          refine Evt.bind (Evt.const _) (Evt.succ (fun k => ?_) r1)
          rw [spec_TableAt.j0, if_neg (by simp)]
          rfl
        · refine Evt.of_eq ei (Evt.ite_pos (by simp; omega) (Evt.ite_pos (by simp; omega) ?_))
          rw [S.nodes]
          refine Evt.bind (Evt.const _) (Evt.bind m2 ?_)
          rw [in_eq, hw, decide_eq_true c2]
          refine Evt.bind (Evt.const _) (Evt.succ (h := fun k => impl_TableAt.l0 k n a1 x2 [] N 0) (fun k => ?_) (build n a1 x2 N S.big r r2 N 0 (by omega) (by omega)))
          rw [impl_TableAt.j0, if_neg (by simp), S.nodes]
          rfl
      · refine ⟨r0, ?_, ?_, n3⟩
        · refine Evt.of_eq es (Evt.ite_pos (by simp; omega) (Evt.ite_pos (by simp; omega) ?_))
          rw [S.left]
          refine Evt.bind (Evt.const _) (Evt.bind m1 ?_)
          rw [l1In_eq, hw, decide_eq_false c2]
          exact Evt.bind (Evt.const _) n1
        · refine Evt.of_eq ei (Evt.ite_pos (by simp; omega) (Evt.ite_pos (by simp; omega) ?_))
          rw [S.nodes]
          refine Evt.bind (Evt.const _) (Evt.bind m2 ?_)
          rw [in_eq, hw, decide_eq_false c2]
          exact Evt.bind (Evt.const _) n2
    · exact ⟨r0, Evt.of_eq es (Evt.ite_pos (by simp; omega) (Evt.ite_neg (by simp; omega) n1)), Evt.of_eq ei (Evt.ite_pos (by simp; omega) (Evt.ite_neg (by simp; omega) n2)), n3⟩
  · exact ⟨r0, Evt.of_eq es (Evt.ite_neg (by simp; omega) n1), Evt.of_eq ei (Evt.ite_neg (by simp; omega) n2), n3⟩
theorem FnExactTableAt : laws_FnExactTableAt.Pure := by
  intro a0 a1 a2 _ _ h2
  obtain ⟨r, r1, r2, hr⟩ := same_evt a0 a1 a2 h2
  refine Evt.get (r := true) ?_
  refine Evt.bind r1 (Evt.bind r2 (Evt.bind (eqTable_evt r.1 (by omega)) (Evt.ite_pos rfl ?_)))
  rw [show (r.2 != r.2) = false by simp]
  refine Evt.succ (h := fun k => _) (fun k => by simp only [laws_FnExactTableAt.j0]; rfl) ?_
  refine Evt.ite_neg (by simp) (Evt.bind (markTable2_evt r.1 (by omega)) (Evt.bind (heldTable_evt r.1.length (by omega)) (Evt.ite_neg (by omega) (Evt.ite_pos rfl (Evt.bind r2 (Evt.bind (eqTable_evt r.1 (by omega)) (Evt.ite_pos rfl ?_)))))))
  rw [show (r.2 != r.2) = false by simp]
  refine Evt.succ (h := fun k => _) (fun k => by simp only [laws_FnExactTableAt.j1]; rfl) ?_
  exact Evt.ite_neg (by simp) (Evt.bind (heldTable_evt r.1.length (by omega)) (Evt.ite_neg (by omega) (Evt.ite_pos rfl (Evt.const _))))
end Go.Proofs.Ytlgmccliclmbaaa.Pure
