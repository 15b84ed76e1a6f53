-- Written by a program of this session (the kit's print with this session's additions, wip/tools): Lean checks it.
import Derived.Test.YtgaadjlcmgmfaaaGreatDoorPFnExactMeanFlipsx0
namespace Go.Proofs.YtgaadjlcmgmfaaaGreatDoor.PFnExactMeanFlips
open Go.RowKit Go.Proofs.YtgaadjlcmgmfaaaGreatDoorW.PrintWords Go.Proofs.YtgaadjlcmgmfaaaGreatDoorW.PrintLast Go.Proofs.YtgaadjlcmgmfaaaGreatDoorW.PrintMore
attribute [local go_sem] max2_int min2_int max_two min_two max_three min_three max_four min_four   -- for this text's walks alone
set_option linter.unusedVariables false
set_option linter.unusedSimpArgs false

/-! ### impl_bare: function 51 -/
theorem bonce_.disable (w : World) : (callFunc 175 #[]).run Tryz.prog w = .ok (.value (.tuple #[])) w := run_call_mark0 Tryz.func175 (by kernel_rfl) (by kernel_rfl) (by kernel_rfl) .disable (by kernel_rfl) w
theorem bonce_.enable (w : World) : (callFunc 177 #[]).run Tryz.prog w = .ok (.value (.tuple #[])) w := run_call_mark0 Tryz.func177 (by kernel_rfl) (by kernel_rfl) (by kernel_rfl) .enable (by kernel_rfl) w
theorem bonce_.acquire (a : Addr) (w : World) : (callFunc 178 #[.pointer (some a)]).run Tryz.prog w = .ok (.value (.tuple #[])) w := run_call_marked Tryz.func178 (by kernel_rfl) (by kernel_rfl) (by kernel_rfl) .acquire (by kernel_rfl) a w
theorem bonce_.releaseMerge (a : Addr) (w : World) : (callFunc 180 #[.pointer (some a)]).run Tryz.prog w = .ok (.value (.tuple #[])) w := run_call_marked Tryz.func180 (by kernel_rfl) (by kernel_rfl) (by kernel_rfl) .releaseMerge (by kernel_rfl) a w

set_option maxRecDepth 100000 in
set_option maxHeartbeats 4000000 in
theorem bonce_.store (a : Addr) (x : Value) (u : FrameMode) (w : World) (hc : w.cell? a = some x) (hz : w.frozen? a = false) :
    CallsD Tryz.prog 148 #[.pointer (some a), .bool true] u w fun e u' w' => u' = u ∧ (e = .returned (.tuple #[]) ∧ w' = w.drew.setCell a (.int .u32 1)) := by
  have hc' : w.drew.cell? a = some x := by go_simp
  have hz' : w.drew.frozen? a = false := by go_simp
  have hst := run_call_store (P := Tryz.prog) Tryz.func166 (by kernel_rfl) (by kernel_rfl) (by kernel_rfl) (by kernel_rfl) (k := .u32) (y := 1) hc' hz'
  go_enter_d Tryz.func148, Tryz.ntmps148
  go_wp2
  go_region_calls
  all_goals (go_end0; exact ⟨rfl, rfl⟩)
set_option maxRecDepth 100000 in
set_option maxHeartbeats 4000000 in
theorem bonce_.unlock (a : Addr) (u : FrameMode) (w : World) (hc : w.cell? a = some (.int .i32 1)) (hz : w.frozen? a = false) :
    CallsD Tryz.prog 147 #[.pointer (some a)] u w fun e u' w' => u' = u ∧ (e = .returned (.tuple #[]) ∧ w' = w.setCell a (.int .i32 0)) := by
  have hd := bonce_.disable
  have he := bonce_.enable
  have hr := bonce_.releaseMerge
  have hadd := run_call_add (P := Tryz.prog) Tryz.func181 (by kernel_rfl) (by kernel_rfl) (by kernel_rfl) .i32 (by kernel_rfl) (y := -1) (s := 0) hc hz (by simp [go_sem]; rfl)
  have hcv := run_convert_to_unsafe (P := Tryz.prog) (src := 224) (dst := 196) Tryz.underlying224 Tryz.underlying196 (by kernel_rfl) hc
  go_enter_d Tryz.func147, Tryz.ntmps147
  go_wp2
  go_end0
  go_wp2
  go_end0
  exact ⟨rfl, rfl⟩
set_option maxRecDepth 100000 in
set_option maxHeartbeats 4000000 in
theorem bonce_.lock (a : Addr) (w : World) (hc : w.cell? a = some (.int .i32 0)) (hz : w.frozen? a = false) :
    Calls Tryz.prog 146 #[.pointer (some a)] w fun e w' => e = .returned (.tuple #[]) ∧ w' = w.setCell a (.int .i32 1) := by
  have hd := bonce_.disable
  have he := bonce_.enable
  have ha := bonce_.acquire
  have hcas := run_call_cas_hit (P := Tryz.prog) Tryz.func176 (by kernel_rfl) (by kernel_rfl) (by kernel_rfl) .i32 (by kernel_rfl) (y := 1) hc hz
  have hc' : (w.setCell a (.int .i32 1)).cell? a = some (.int .i32 1) := World.cell?_setCell_same w a _ hc
  have hcv := run_convert_to_unsafe (P := Tryz.prog) (src := 224) (dst := 196) Tryz.underlying224 Tryz.underlying196 (by kernel_rfl) hc'
  go_enter Tryz.func146, Tryz.ntmps146
  go_wp2
  first | go_end0 | (simp only [Exit.inBlock, Exit.then]; refine bodyPost_ret (results_none rfl _ _ _) rfl ?_) | refine bodyPost_ret (results_none rfl _ _ _) rfl ?_
  go_wp2
  go_end0
  exact ⟨rfl, rfl⟩
set_option maxRecDepth 100000 in
set_option maxHeartbeats 4000000 in
theorem bonce_.load (a : Addr) (x : Int) (w : World) (h : w.cell? a = some (.int .u32 x)) :
    Calls Tryz.prog 127 #[.pointer (some a)] w fun e w' => e = .returned (.bool (x != 0)) ∧ w' = w := by
  have hl := run_call_load (P := Tryz.prog) Tryz.func145 (by kernel_rfl) (by kernel_rfl) (by kernel_rfl) .u32 (by kernel_rfl) h
  go_enter Tryz.func127, Tryz.ntmps127
  go_wp2
  go_ret
  exact ⟨rfl, rfl⟩
set_option maxRecDepth 100000 in
set_option maxHeartbeats 4000000 in
theorem bonce_.slow (b : Nat) (R : World → Prop) (w : World) (h0 : w.cell? ⟨b, 0, none⟩ = some (.int .u32 0)) (h1 : w.cell? ⟨b, 1, none⟩ = some (.int .i32 0)) (f1 : w.frozen? ⟨b, 1, none⟩ = false)
    (hR : ∀ W, R W → W.cell? ⟨b, 0, none⟩ = some (.int .u32 0) ∧ W.cell? ⟨b, 1, none⟩ = some (.int .i32 1) ∧ W.frozen? ⟨b, 0, none⟩ = false ∧ W.frozen? ⟨b, 1, none⟩ = false)
    (hf : Calls Tryz.prog 102 #[.pointer (some ⟨b, 0, none⟩)] (w.setCell ⟨b, 1, none⟩ (.int .i32 1)) fun e w' => e = .returned (.tuple #[]) ∧ R w') :
    Calls Tryz.prog 128 #[.pointer (some ⟨b, 0, none⟩), .func (.func 102) #[.pointer (some ⟨b, 0, none⟩)] #[]] w fun e w' => e = .returned (.tuple #[]) ∧ ∃ w1, R w1 ∧ w' = (w1.drew.setCell ⟨b, 0, none⟩ (.int .u32 1)).setCell ⟨b, 1, none⟩ (.int .i32 0) := by
  have hl := bonce_.load ⟨b, 0, none⟩ 0 (w.setCell ⟨b, 1, none⟩ (.int .i32 1)) ((World.cell?_setCell_other _ ⟨b, 1, none⟩ ⟨b, 0, none⟩ _ (by simp)).trans h0)
  have hnot : ∀ (x : Bool) (w : World), (Op.unary .not (.bool x)).run Tryz.prog w = .ok (.bool (!x)) w := fun _ _ => rfl
  have hL := bonce_.lock ⟨b, 1, none⟩ w h1 f1
  go_enter_defers Tryz.func128, Tryz.ntmps128
  go_wp2_with (first | (go_at_call 146; refine hL.mono ?_; rintro e w' ⟨rfl, rfl⟩) | (go_at_call 127; refine hl.mono ?_; rintro e w' ⟨rfl, rfl⟩))
  refine hf.mono ?_
  rintro e w1 ⟨rfl, hw1⟩
  obtain ⟨q0, q1, q2, q3⟩ := hR w1 hw1
  go_wp2
  refine leaves_cons (f := 148) (args := #[.pointer (some ⟨b, 0, none⟩), .bool true]) (by simp) (by simp [go_sem]) ?_
  refine (bonce_.store ⟨b, 0, none⟩ (.int .u32 0) .returning _ q0 q2).mono ?_
  rintro e u' w'' ⟨rfl, rfl, rfl⟩
  refine leaves_cons (f := 147) (args := #[.pointer (some ⟨b, 1, none⟩)]) (by simp [settle]) (by simp [go_sem]) ?_
  refine (bonce_.unlock ⟨b, 1, none⟩ _ _ ?_ (by simp [q3])).mono ?_
  · refine (World.cell?_setCell_other _ ⟨b, 0, none⟩ ⟨b, 1, none⟩ _ (by simp)).trans ?_
    rw [World.cell?_drew]
    exact q1
  rintro e u' w'' ⟨rfl, rfl, rfl⟩
  simp [Leaves, settle, results, Tryz.results128]
  exact ⟨w1, hw1, rfl⟩
set_option maxRecDepth 100000 in
set_option maxHeartbeats 4000000 in
theorem bonce_.do_ (b : Nat) (R : World → Prop) (w : World) (h0 : w.cell? ⟨b, 0, none⟩ = some (.int .u32 0)) (h1 : w.cell? ⟨b, 1, none⟩ = some (.int .i32 0)) (f1 : w.frozen? ⟨b, 1, none⟩ = false)
    (hR : ∀ W, R W → W.cell? ⟨b, 0, none⟩ = some (.int .u32 0) ∧ W.cell? ⟨b, 1, none⟩ = some (.int .i32 1) ∧ W.frozen? ⟨b, 0, none⟩ = false ∧ W.frozen? ⟨b, 1, none⟩ = false)
    (hf : Calls Tryz.prog 102 #[.pointer (some ⟨b, 0, none⟩)] (w.setCell ⟨b, 1, none⟩ (.int .i32 1)) fun e w' => e = .returned (.tuple #[]) ∧ R w') :
    Calls Tryz.prog 101 #[.pointer (some ⟨b, 0, none⟩), .func (.func 102) #[.pointer (some ⟨b, 0, none⟩)] #[]] w fun e w' => e = .returned (.tuple #[]) ∧ ∃ w1, R w1 ∧ w' = (w1.drew.setCell ⟨b, 0, none⟩ (.int .u32 1)).setCell ⟨b, 1, none⟩ (.int .i32 0) := by
  have hl := bonce_.load ⟨b, 0, none⟩ 0 w h0
  have hs := bonce_.slow b R w h0 h1 f1 hR hf
  have hnot : ∀ (x : Bool) (w : World), (Op.unary .not (.bool x)).run Tryz.prog w = .ok (.bool (!x)) w := fun _ _ => rfl
  go_enter Tryz.func101, Tryz.ntmps101
  go_wp2_with (first | (go_at_call 127; refine hl.mono ?_; rintro e w' ⟨rfl, rfl⟩) | (go_at_call 128; refine hs.mono ?_; rintro e w' ⟨rfl, hw⟩))
  go_end0
  exact ⟨rfl, hw⟩
theorem bopp_.fold_str : ∀ (l : List Nat) (a : ByteArray), (l.map (fun n : Nat => (n : Int))).foldl (fun r n => r.push (UInt8.ofNat n.toNat)) a = ⟨(a.data.toList ++ l.map UInt8.ofNat).toArray⟩
  | [], a => by simp
  | n :: l, a => by
    rw [List.map_cons, List.foldl_cons, bopp_.fold_str l]
    simp [ByteArray.push]
set_option maxRecDepth 100000 in
set_option maxHeartbeats 8000000 in
theorem bopp_.info9 : (Tryz.prog.info? 9).map (fun i => (i.zero, i.size, i.bytes)) = some (some (.string ByteArray.empty), 1, 16) := by kernel_rfl
theorem bare_.wj (j : Nat) (h : j ≤ 140737488355328) : wrap64 (j : Int) = j := by unfold wrap64; omega
def bare_.gone (c : UInt8) : Bool := c == 32 || c == 47
/-- How many are gone. -/
def bare_.cnt (l : List UInt8) : Nat := (l.filter bare_.gone).length
def bare_.fl (l : List UInt8) : List UInt8 := l.filter fun c => !bare_.gone c
theorem bare_.cnt_fl (l : List UInt8) : bare_.cnt l + (bare_.fl l).length = l.length := by
  induction l with
  | nil => rfl
  | cons c l ih =>
    unfold bare_.cnt bare_.fl at *
    rw [List.filter_cons, List.filter_cons, List.length_cons]
    cases h : bare_.gone c
    · simp; omega
    · simp; omega
theorem bare_.cnt_two (l : List UInt8) : bare_.cnt l = l.count 47 + l.count 32 := by
  induction l with
  | nil => rfl
  | cons c l ih =>
    unfold bare_.cnt at *
    rw [List.filter_cons, List.count_cons, List.count_cons]
    by_cases h1 : c = 47
    · subst h1; simp [bare_.gone]; omega
    · by_cases h2 : c = 32
      · subst h2; simp [bare_.gone]; omega
      · have : bare_.gone c = false := by simp [bare_.gone, h1, h2]
        rw [this]; simp [h1, h2]; omega
theorem bare_.cnt_snoc (l : List UInt8) (c : UInt8) : bare_.cnt (l ++ [c]) = bare_.cnt l + (if bare_.gone c = true then 1 else 0) := by
  unfold bare_.cnt
  rw [List.filter_append, List.length_append]
  congr 1
  cases h : bare_.gone c <;> simp [h]
theorem bare_.fl_snoc (l : List UInt8) (c : UInt8) : bare_.fl (l ++ [c]) = bare_.fl l ++ (if bare_.gone c = true then [] else [c]) := by
  unfold bare_.fl
  rw [List.filter_append]
  congr 1
  cases h : bare_.gone c <;> simp [h]
theorem bare_.w64 (n : Int) : IntKind.i64.wrap n = wrap64 n := by unfold wrap64; exact IntKind.wrap_i64 n
theorem bare_.nz (n : Nat) (h : n ≠ 0) : (!decide (n = 0)) = true := by simp [h]
theorem bare_.less (n c : Nat) (h : c ≤ n) (hn : n ≤ 140737488355328) : wrap64 ((n : Int) + wrap64 (-(c : Int))) = ((n - c : Nat) : Int) := by
  unfold wrap64
  omega
theorem bare_.fl_all (l : List UInt8) (h : bare_.cnt l = 0) : bare_.fl l = l := by
  unfold bare_.cnt at h
  have h := List.eq_nil_of_length_eq_zero h
  unfold bare_.fl
  rw [List.filter_eq_self]
  intro c hc
  have := List.filter_eq_nil_iff.1 h c hc
  simpa using this
theorem bare_.whole (s : ByteArray) : (⟨s.data.toList.toArray⟩ : ByteArray) = s := by obtain ⟨⟨l⟩⟩ := s; rfl
theorem bare_.info5 : (Tryz.prog.info? 5).map (fun i => (i.zero, i.size, i.bytes)) = some (some (.int .u8 0), 1, 1) := by kernel_rfl
theorem bare_.fl_le (l : List UInt8) (i : Nat) : (bare_.fl (l.take i)).length ≤ (bare_.fl l).length := by
  unfold bare_.fl
  exact (List.Sublist.filter _ (List.take_sublist i l)).length_le
theorem bare_.at_ (s : ByteArray) (i : Nat) (hi : i < s.size) : (s[i]'hi).toNat < 256 ∧ s.data.toList.take (i + 1) = s.data.toList.take i ++ [s[i]'hi] ∧ i < s.data.toList.length := by
  have hz2 : s.data.toList.length = s.size := (Lib.size_eq s).symm
  refine ⟨(s[i]'hi).toNat_lt, ?_, by omega⟩
  rw [List.take_succ_eq_append_getElem (by omega)]
  rfl
/-- What the replacer's variable holds. -/
def bare_.T (a1 c1 a2 c2 k : Nat) : Value := if k = 47 then .slice (some ⟨a1, 0, none⟩) 0 c1 else if k = 32 then .slice (some ⟨a2, 0, none⟩) 0 c2 else .slice none 0 0
theorem bare_.put (cur : Array Value) (nn j : Nat) (l : List UInt8) (c : UInt8) (hs : cur.size = nn) (hj : j < nn) (hl : j = l.length) (ht : cur.toList.take j = l.map fun c => Value.int .u8 (c.toNat : Int)) : (cur.setIfInBounds j (.int .u8 (c.toNat : Int))).toList.take (l ++ [c]).length = (l ++ [c]).map fun c => Value.int .u8 (c.toNat : Int) := by
  rw [Array.toList_setIfInBounds, List.length_append, List.length_singleton, List.map_append, ← hl, ← ht, List.take_succ_eq_append_getElem (by rw [List.length_set, Array.length_toList]; omega), List.take_set_of_le (Nat.le_refl _), List.getElem_set_self]
  rfl
theorem bare_.up (j : Nat) (c : UInt8) (h : j ≤ 140737488355328) : Value.int .i64 (wrap64 ((j : Int) + 1)) = .int .i64 ((j + [c].length : Nat) : Int) := by
  have e : wrap64 ((j : Int) + 1) = ((j + 1 : Nat) : Int) := by unfold wrap64; omega
  rw [e]
  rfl
theorem bare_.T_gone (a1 c1 a2 c2 : Nat) (c : UInt8) (h : bare_.gone c = true) : ∃ a k, bare_.T a1 c1 a2 c2 c.toNat = .slice (some ⟨a, 0, none⟩) 0 k := by
  unfold bare_.gone at h
  simp only [Bool.or_eq_true, beq_iff_eq] at h
  rcases h with rfl | rfl
  · exact ⟨a2, c2, rfl⟩
  · exact ⟨a1, c1, rfl⟩
theorem bare_.T_not (a1 c1 a2 c2 : Nat) (c : UInt8) (h : bare_.gone c = false) : bare_.T a1 c1 a2 c2 c.toNat = .slice none 0 0 := by
  unfold bare_.gone at h
  simp only [Bool.or_eq_false_iff, beq_eq_false_iff_ne] at h
  unfold bare_.T
  rw [if_neg (fun e => h.2 (UInt8.toNat_inj.1 (by rw [e]; rfl))), if_neg (fun e => h.1 (UInt8.toNat_inj.1 (by rw [e]; rfl)))]
theorem bare_.str (W : World) (g nn : Nat) (cur : Array Value) (l : List UInt8) (hg : W.heap[g]? = some (.cells cur 5 (0, 0))) (hs : cur.size = nn) (ht : cur.toList.take nn = l.map fun c => Value.int .u8 (c.toNat : Int)) (hn : nn = l.length) :
    (convert 88 9 (.slice (some ⟨g, 0, none⟩) nn nn)).run Tryz.prog W = .ok (.string ⟨l.toArray⟩) W := by
  have hld : (loadCells ⟨g, 0, none⟩ nn).run Tryz.prog W = .ok ((l.map fun c => (c.toNat : Nat)).map (fun n : Nat => (n : Int)) |>.map (Value.int .u8)).toArray W := by
    have h1 := run_loadCells_list (P := Tryz.prog) W ⟨g, 0, none⟩ (((l.map fun c => c.toNat).map (fun n : Nat => (n : Int))).map (Value.int .u8)) (fun j v hv => by
      have hj : j < l.length := by
        have := (List.getElem?_eq_some_iff.1 hv).1
        simpa using this
      have ha : (⟨g, 0, none⟩ : Addr).add j = ⟨g, j, none⟩ := by unfold Addr.add; split <;> simp_all
      rw [ha, cell_of_row W g j cur 5 (0, 0) hg]
      have e : (cur.toList.take nn)[j]? = cur[j]? := by rw [List.getElem?_take_of_lt (by omega), Array.getElem?_toList]
      rw [← e, ht, ← hv]
      simp [List.map_map, Function.comp_def])
    simpa [hn] using h1
  have hst := run_bytesToString (P := Tryz.prog) W ⟨g, 0, none⟩ nn nn _ hld
  rw [bopp_.fold_str] at hst
  rw [run_convert_bytes_string (P := Tryz.prog) W 88 9 5 (some ⟨g, 0, none⟩) nn nn Tryz.underlying88 Tryz.underlying5 Tryz.underlying9, hst]
  simp [List.map_map, Function.comp_def]
theorem bare_.count_ (s : ByteArray) (c : UInt8) (w : World) :
    Calls Tryz.prog 94 #[.string s, .string ⟨#[c]⟩] w fun e w' => e = .returned (.int .i64 ((s.data.toList.count c : Nat) : Int)) ∧ w' = w := by
  refine (Tryz.strings_Count_laid s c w).mono fun e w' ⟨he, hw⟩ => ?_
  exact ⟨he, hw⟩
set_option maxRecDepth 100000 in
set_option maxHeartbeats 8000000 in
theorem bare_.replace (q0 M a1 c1 a2 c2 : Nat) (s : ByteArray) (w : World) (hz : s.size ≤ 140737488355328) (hq : q0 < w.heap.size) (hT : ∀ k, k < 256 → w.cell? ⟨q0, k, none⟩ = some (bare_.T a1 c1 a2 c2 k)) (hR : w.cell? ⟨q0, 256, none⟩ = some (.slice (some ⟨M, 0, none⟩) 2 2)) (m0 : w.cell? ⟨M, 0, none⟩ = some (.string ⟨#[47]⟩)) (m1 : w.cell? ⟨M, 1, none⟩ = some (.string ⟨#[32]⟩)) :
    Calls Tryz.prog 221 #[.pointer (some ⟨q0, 0, none⟩), .string s] w fun e w' => e = .returned (.string ⟨(bare_.fl s.data.toList).toArray⟩) ∧ Below w.heap.size w w' := by
  have hz2 : s.data.toList.length = s.size := (Lib.size_eq s).symm
  have u8s := run_underlying (P := Tryz.prog) Tryz.underlying88
  have nil1 : ∀ w, (binOp .neq 88 (.slice none 0 0) (.slice none 0 0)).run Tryz.prog w = .ok (.bool false) w := fun w => by first | kernel_rfl | (simp [binOp, Op.equal, u8s, go_sem]; done) | rfl
  have nil2 : ∀ (a : Addr) (l c : Nat) w, (binOp .neq 88 (.slice (some a) l c) (.slice none 0 0)).run Tryz.prog w = .ok (.bool true) w := fun a l c w => by first | kernel_rfl | (simp [binOp, Op.equal, u8s, go_sem]; done) | rfl
  clear u8s
  have hmx : Tryz.prog.follows .mixedOrders = true := by kernel_rfl
  have h47 : w.cell? ⟨q0, 47, none⟩ = some (.slice (some ⟨a1, 0, none⟩) 0 c1) := hT 47 (by omega)
  have h32 : w.cell? ⟨q0, 32, none⟩ = some (.slice (some ⟨a2, 0, none⟩) 0 c2) := hT 32 (by omega)
  have g47 : ((⟨#[47]⟩ : ByteArray)[0]'(by decide)).toNat = 47 := rfl
  have g32 : ((⟨#[32]⟩ : ByteArray)[0]'(by decide)).toNat = 32 := rfl
  obtain ⟨n47, e47⟩ : ∃ n, n = s.data.toList.count 47 := ⟨_, rfl⟩
  obtain ⟨n32, e32⟩ : ∃ n, n = s.data.toList.count 32 := ⟨_, rfl⟩
  have HC47 := Aside0.mk (fun W => bare_.count_ s 47 W)
  have HC32 := Aside0.mk (fun W => bare_.count_ s 32 W)
  rw [← e47] at HC47
  rw [← e32] at HC32
  have hcn : bare_.cnt s.data.toList = n47 + n32 := by rw [bare_.cnt_two, e47, e32]
  have hcl := bare_.cnt_fl s.data.toList
  obtain ⟨cN, ecN⟩ : ∃ cN, cN = n47 + n32 := ⟨_, rfl⟩
  rw [hz2] at hcl
  have HCN := Aside0.mk (And.intro hcn (And.intro hcl ecN))
  clear e47 e32 hcn hcl ecN
  obtain ⟨ti, hti, hz0, hz1, hz2'⟩ := info_parts bare_.info5
  by_cases h16 : 16 ≤ s.size
  · have h16' : (16 : Int) ≤ (s.size : Int) := by omega
    go_enter Tryz.func221, Tryz.ntmps221
    go_wp2
    go_loopg [5, 6, 32] 2 (fun q v5 v6 v32 wx => Below w.heap.size w wx ∧ ((q = 2 ∧ v5 = .int .i64 ((s.size : Nat) : Int) ∧ v6 = .bool false ∧ v32 = .int .i64 0) ∨ (q = 1 ∧ v5 = .int .i64 ((s.size - n47 : Nat) : Int) ∧ v6 = .bool (!decide (n47 = 0)) ∧ v32 = .int .i64 1) ∨ (q = 0 ∧ v5 = .int .i64 ((s.size - cN : Nat) : Int) ∧ v6 = .bool (!decide (cN = 0)) ∧ v32 = .int .i64 2)))
    case atStart => exact ⟨Below.refl _ _, .inl ⟨rfl, rfl, rfl, rfl⟩⟩
    case round =>
      obtain ⟨hB, hrel⟩ := hrel
      have hML := World.block_lt_of_cell? w _ m0
      have k47 := (hB.cell (p := ⟨q0, 47, none⟩) hq).trans h47
      have k32 := (hB.cell (p := ⟨q0, 32, none⟩) hq).trans h32
      have kR := (hB.cell (p := ⟨q0, 256, none⟩) hq).trans hR
      have km0 := (hB.cell (p := ⟨M, 0, none⟩) hML).trans m0
      have km1 := (hB.cell (p := ⟨M, 1, none⟩) hML).trans m1
      rcases hrel with ⟨rfl, rfl, rfl, rfl⟩ | ⟨rfl, rfl, rfl, rfl⟩ | ⟨rfl, rfl, rfl, rfl⟩
      · by_cases hz0 : n47 = 0
        · subst hz0
          go_wp2_with (go_at_call 94; refine (HC47.out _).mono ?_; rintro e w' ⟨rfl, rfl⟩)
          go_roundg 1
          case measure => omega
          case rel => exact ⟨hB, .inr (.inl ⟨rfl, rfl, rfl, by first | rfl | (simp; done)⟩)⟩
        · have hzi : ((n47 : Nat) : Int) ≠ 0 := by omega
          go_wp2_with (go_at_call 94; refine (HC47.out _).mono ?_; rintro e w' ⟨rfl, rfl⟩)
          go_region
          all_goals go_wp2
          all_goals go_roundg 1
          case measure => omega
          case rel => exact ⟨hB.drew, .inr (.inl ⟨rfl, by rw [bare_.less _ _ (by have := HCN.out; omega) hz], congrArg Value.bool (bare_.nz n47 hz0).symm, by first | rfl | (simp; done)⟩)⟩
      · by_cases hz0 : n32 = 0
        · subst hz0
          go_wp2_with (go_at_call 94; refine (HC32.out _).mono ?_; rintro e w' ⟨rfl, rfl⟩)
          go_roundg 0
          case measure => omega
          case rel => exact ⟨hB, .inr (.inr ⟨rfl, by rw [HCN.out.2.2, Nat.add_zero], by rw [HCN.out.2.2, Nat.add_zero], by first | rfl | (simp; done)⟩)⟩
        · have hzi : ((n32 : Nat) : Int) ≠ 0 := by omega
          go_wp2_with (go_at_call 94; refine (HC32.out _).mono ?_; rintro e w' ⟨rfl, rfl⟩)
          go_region
          all_goals go_wp2
          all_goals go_roundg 0
          case measure => omega
          case rel => exact ⟨hB.drew, .inr (.inr ⟨rfl, by rw [bare_.less _ _ (by have := HCN.out; omega) (by omega)]; congr 2; have := HCN.out; omega, (by have := HCN.out.2.2; exact congrArg Value.bool (bare_.nz cN (by omega)).symm), by first | rfl | (simp; done)⟩)⟩
      · skip
        by_cases hc0 : cN = 0
        · subst hc0
          go_wp2
          try go_ret
          have hn := HCN.out
          exact ⟨by rw [bare_.fl_all s.data.toList (by omega)]; exact congrArg Ending.returned (congrArg Value.string (bare_.whole s).symm), hB⟩
        · obtain ⟨nn, enn⟩ : ∃ nn, nn = s.size - cN := ⟨_, rfl⟩
          have HNN : Aside0 (nn = (bare_.fl s.data.toList).length) := ⟨by have := HCN.out; omega⟩
          rw [← enn]
          have hmk := run_make (P := Tryz.prog) wr 88 5 ti _ Tryz.underlying88 hti hz0 .i64 .i64 (nn : Int) (nn : Int) (by omega) (Int.le_refl _) (by rw [hz2']; omega) (by omega)
          rw [Int.toNat_natCast] at hmk
          clear enn
          have hnz : (!decide (cN = 0)) = true := bare_.nz cN hc0
          rw [hnz]
          obtain ⟨g, eg⟩ : ∃ g, g = wr.heap.size := ⟨_, rfl⟩
          have hBa : Below w.heap.size w (wr.alloc (.cells (madeCells (Value.int .u8 0).cells (nn * ti.size)) 5)) := hB.alloc hB.size _
          have hga := heap_alloc_last wr (.cells (madeCells (Value.int .u8 0).cells (nn * ti.size)) 5)
          rw [hz1, Nat.mul_one] at hBa hga hmk
          have hwg : w.heap.size ≤ g := by rw [eg]; exact hB.size
          rw [← eg] at hmk hga
          clear eg hB
          have HGA := Aside0.mk hga
          have HBA := Aside0.mk hBa
          clear hga hBa
          go_wp2
          clear hmk
          go_loopg [13, 14] s.size (fun q v13 v14 wy => ∃ (i : Nat) (cur : Array Value), v14 = .int .i64 (i : Int) ∧ v13 = .int .i64 (((bare_.fl (s.data.toList.take i)).length : Nat) : Int) ∧ Aside0 (i + q = s.size) ∧ Aside0 (Below w.heap.size w wy) ∧ Aside0 (wy.heap[g]? = some (.cells cur 5 (0, 0))) ∧ Aside0 (cur.size = nn) ∧ Aside0 (cur.toList.take (bare_.fl (s.data.toList.take i)).length = (bare_.fl (s.data.toList.take i)).map fun c => Value.int .u8 (c.toNat : Int)))
          case atStart => exact ⟨0, _, rfl, rfl, ⟨by omega⟩, HBA, HGA, ⟨by simp [madeCells, Value.cells]⟩, ⟨by simp [bare_.fl]⟩⟩
          case round =>
            obtain ⟨i, cur, rfl, rfl, HI, HB, HG, HS, HC⟩ := hrel
            cases gk with
            | zero =>
              obtain rfl : i = s.size := by have := HI.out; omega
              have hte : s.data.toList.take s.size = s.data.toList := List.take_of_length_le (by omega)
              have hcc := HC.out
              rw [hte, ← HNN.out] at hcc
              have hcv := bare_.str wr g nn cur (bare_.fl s.data.toList) HG.out HS.out hcc HNN.out
              rw [hte]
              clear hcc hte
              go_wp2
              go_ret
              exact ⟨rfl, HB.out⟩
            | succ q =>
              have li : i < s.size := by have := HI.out; omega
              have li' : (i : Int) < (s.size : Int) := by omega
              have l0 : (0 : Int) ≤ (i : Int) := by omega
              obtain ⟨x1, x3, x4⟩ := bare_.at_ s i li
              have hcq := (HB.out.cell (p := ⟨q0, (s[i]'li).toNat, none⟩) hq).trans (hT _ x1)
              have y1 : ((s[i]'li).toNat : Int) < 256 := by omega
              have hjn := bare_.fl_le s.data.toList i
              have HX := Aside0.mk (And.intro x3 x4)
              obtain ⟨j, ej⟩ : ∃ j, j = (bare_.fl (s.data.toList.take i)).length := ⟨_, rfl⟩
              rw [← HNN.out, ← ej] at hjn
              have HC2 := Aside0.mk HC.out
              rw [← ej] at HC2
              rw [← ej]
              have HJ := Aside0.mk ej
              clear ej x3 x4 HC
              have l1 : (0 : Int) ≤ (j : Int) := by omega
              by_cases hgo : bare_.gone (s[i]'li) = true
              · obtain ⟨aa, cc, hcs⟩ := bare_.T_gone a1 c1 a2 c2 (s[i]'li) hgo
                rw [hcs] at hcq
                have l2 : (j : Int) ≤ (nn : Int) := by omega
                have hcf := cut_from (P := Tryz.prog) 88 5 .i64 Tryz.underlying88 hti 1 hz1 (some ⟨g, 0, none⟩) nn nn (j : Int) l1 l2
                obtain ⟨Ac, hAc⟩ : ∃ Ac, Ac = (if nn = (j : Int).toNat then (some ⟨g, 0, none⟩ : Option Addr) else (some ⟨g, 0, none⟩ : Option Addr).map (·.add ((j : Int).toNat * 1))) := ⟨_, rfl⟩
                rw [← hAc] at hcf
                clear hAc
                have hcp := fun W => run_copy_none (P := Tryz.prog) W 88 88 3 5 Ac (some ⟨aa, 0, none⟩) (nn - j) (nn - j) 0 cc Tryz.underlying88 (by kernel_rfl) (Nat.zero_min _)
                have hfl : bare_.fl (s.data.toList.take (i + 1)) = bare_.fl (s.data.toList.take i) := by rw [HX.out.1, bare_.fl_snoc, if_pos hgo, List.append_nil]
                go_wp2
                go_region
                all_goals go_wp2
                all_goals go_roundg q
                case measure => omega
                case rel => exact ⟨i + 1, cur, by first | rfl | (simp; done) | (congr 1; unfold wrap64; omega), by rw [hfl, ← HJ.out]; first | rfl | (simp; done) | (congr 1; unfold wrap64; omega) | (congr 1; exact bare_.wj j (by have := HCN.out; have := HNN.out; omega)), ⟨by have := HI.out; omega⟩, ⟨HB.out.drew⟩, HG, HS, ⟨by rw [hfl, ← HJ.out]; exact HC2.out⟩⟩
              · have hcs := bare_.T_not a1 c1 a2 c2 (s[i]'li) (by simpa using hgo)
                rw [hcs] at hcq
                have hfl : bare_.fl (s.data.toList.take (i + 1)) = bare_.fl (s.data.toList.take i) ++ [s[i]'li] := by rw [HX.out.1, bare_.fl_snoc, if_neg hgo]
                have hjl := bare_.fl_le s.data.toList (i + 1)
                rw [hfl, List.length_append, List.length_singleton, ← HJ.out, ← HNN.out] at hjl
                have l2 : (j : Int) < (nn : Int) := by omega
                obtain ⟨vj, hvj⟩ : ∃ v, cur[j]? = some v := ⟨_, Array.getElem?_eq_getElem (by have := HS.out; omega)⟩
                have hcb := (blk_cell HG.out j).trans hvj
                have hfb := blk_frozen HG.out j
                clear hvj
                go_wp2
                go_roundg q
                case measure => omega
                case rel => exact ⟨i + 1, cur.setIfInBounds j (.int .u8 ((s[i]'li).toNat : Int)), by first | rfl | (simp; done) | (congr 1; unfold wrap64; omega), by rw [hfl, List.length_append, ← HJ.out]; exact bare_.up j _ (by have := HCN.out; have := HNN.out; omega), ⟨by have := HI.out; omega⟩, ⟨HB.out.setCell (p := ⟨g, j, none⟩) hwg _⟩, ⟨blk_set HG.out j _⟩, ⟨by simp; exact HS.out⟩, ⟨by rw [hfl]; exact bare_.put cur nn j _ _ HS.out (by omega) HJ.out HC2.out⟩⟩
  · have h16' : ¬ (16 : Int) ≤ (s.size : Int) := by omega
    go_enter Tryz.func221, Tryz.ntmps221
    go_wp2
    go_loopg [5, 6, 10] s.size (fun q v5 v6 v10 wx => ∃ i : Nat, v10 = .int .i64 (i : Int) ∧ v5 = .int .i64 ((s.size - bare_.cnt (s.data.toList.take i) : Nat) : Int) ∧ v6 = .bool (!decide (bare_.cnt (s.data.toList.take i) = 0)) ∧ Aside0 (i + q = s.size) ∧ Below w.heap.size w wx)
    case atStart => exact ⟨0, rfl, by simp [bare_.cnt], by simp [bare_.cnt], ⟨by omega⟩, Below.refl _ _⟩
    case round =>
      obtain ⟨i, rfl, rfl, rfl, HI, hB⟩ := hrel
      cases gk with
      | zero =>
        obtain rfl : i = s.size := by have := HI.out; omega
        have hte : s.data.toList.take s.size = s.data.toList := List.take_of_length_le (by omega)
        have hcnt : bare_.cnt s.data.toList = cN := by have := HCN.out; omega
        rw [hte, hcnt]
        clear hte hcnt
        by_cases hc0 : cN = 0
        · subst hc0
          go_wp2
          try go_ret
          have hn := HCN.out
          exact ⟨by rw [bare_.fl_all s.data.toList (by omega)]; exact congrArg Ending.returned (congrArg Value.string (bare_.whole s).symm), hB⟩
        · obtain ⟨nn, enn⟩ : ∃ nn, nn = s.size - cN := ⟨_, rfl⟩
          have HNN : Aside0 (nn = (bare_.fl s.data.toList).length) := ⟨by have := HCN.out; omega⟩
          rw [← enn]
          have hmk := run_make (P := Tryz.prog) wr 88 5 ti _ Tryz.underlying88 hti hz0 .i64 .i64 (nn : Int) (nn : Int) (by omega) (Int.le_refl _) (by rw [hz2']; omega) (by omega)
          rw [Int.toNat_natCast] at hmk
          clear enn
          have hnz : (!decide (cN = 0)) = true := bare_.nz cN hc0
          rw [hnz]
          obtain ⟨g, eg⟩ : ∃ g, g = wr.heap.size := ⟨_, rfl⟩
          have hBa : Below w.heap.size w (wr.alloc (.cells (madeCells (Value.int .u8 0).cells (nn * ti.size)) 5)) := hB.alloc hB.size _
          have hga := heap_alloc_last wr (.cells (madeCells (Value.int .u8 0).cells (nn * ti.size)) 5)
          rw [hz1, Nat.mul_one] at hBa hga hmk
          have hwg : w.heap.size ≤ g := by rw [eg]; exact hB.size
          rw [← eg] at hmk hga
          clear eg hB
          have HGA := Aside0.mk hga
          have HBA := Aside0.mk hBa
          clear hga hBa
          go_wp2
          clear hmk
          go_loopg [13, 14] s.size (fun q v13 v14 wy => ∃ (i : Nat) (cur : Array Value), v14 = .int .i64 (i : Int) ∧ v13 = .int .i64 (((bare_.fl (s.data.toList.take i)).length : Nat) : Int) ∧ Aside0 (i + q = s.size) ∧ Aside0 (Below w.heap.size w wy) ∧ Aside0 (wy.heap[g]? = some (.cells cur 5 (0, 0))) ∧ Aside0 (cur.size = nn) ∧ Aside0 (cur.toList.take (bare_.fl (s.data.toList.take i)).length = (bare_.fl (s.data.toList.take i)).map fun c => Value.int .u8 (c.toNat : Int)))
          case atStart => exact ⟨0, _, rfl, rfl, ⟨by omega⟩, HBA, HGA, ⟨by simp [madeCells, Value.cells]⟩, ⟨by simp [bare_.fl]⟩⟩
          case round =>
            obtain ⟨i, cur, rfl, rfl, HI, HB, HG, HS, HC⟩ := hrel
            cases gk with
            | zero =>
              obtain rfl : i = s.size := by have := HI.out; omega
              have hte : s.data.toList.take s.size = s.data.toList := List.take_of_length_le (by omega)
              have hcc := HC.out
              rw [hte, ← HNN.out] at hcc
              have hcv := bare_.str wr g nn cur (bare_.fl s.data.toList) HG.out HS.out hcc HNN.out
              rw [hte]
              clear hcc hte
              go_wp2
              go_ret
              exact ⟨rfl, HB.out⟩
            | succ q =>
              have li : i < s.size := by have := HI.out; omega
              have li' : (i : Int) < (s.size : Int) := by omega
              have l0 : (0 : Int) ≤ (i : Int) := by omega
              obtain ⟨x1, x3, x4⟩ := bare_.at_ s i li
              have hcq := (HB.out.cell (p := ⟨q0, (s[i]'li).toNat, none⟩) hq).trans (hT _ x1)
              have y1 : ((s[i]'li).toNat : Int) < 256 := by omega
              have hjn := bare_.fl_le s.data.toList i
              have HX := Aside0.mk (And.intro x3 x4)
              obtain ⟨j, ej⟩ : ∃ j, j = (bare_.fl (s.data.toList.take i)).length := ⟨_, rfl⟩
              rw [← HNN.out, ← ej] at hjn
              have HC2 := Aside0.mk HC.out
              rw [← ej] at HC2
              rw [← ej]
              have HJ := Aside0.mk ej
              clear ej x3 x4 HC
              have l1 : (0 : Int) ≤ (j : Int) := by omega
              by_cases hgo : bare_.gone (s[i]'li) = true
              · obtain ⟨aa, cc, hcs⟩ := bare_.T_gone a1 c1 a2 c2 (s[i]'li) hgo
                rw [hcs] at hcq
                have l2 : (j : Int) ≤ (nn : Int) := by omega
                have hcf := cut_from (P := Tryz.prog) 88 5 .i64 Tryz.underlying88 hti 1 hz1 (some ⟨g, 0, none⟩) nn nn (j : Int) l1 l2
                obtain ⟨Ac, hAc⟩ : ∃ Ac, Ac = (if nn = (j : Int).toNat then (some ⟨g, 0, none⟩ : Option Addr) else (some ⟨g, 0, none⟩ : Option Addr).map (·.add ((j : Int).toNat * 1))) := ⟨_, rfl⟩
                rw [← hAc] at hcf
                clear hAc
                have hcp := fun W => run_copy_none (P := Tryz.prog) W 88 88 3 5 Ac (some ⟨aa, 0, none⟩) (nn - j) (nn - j) 0 cc Tryz.underlying88 (by kernel_rfl) (Nat.zero_min _)
                have hfl : bare_.fl (s.data.toList.take (i + 1)) = bare_.fl (s.data.toList.take i) := by rw [HX.out.1, bare_.fl_snoc, if_pos hgo, List.append_nil]
                go_wp2
                go_region
                all_goals go_wp2
                all_goals go_roundg q
                case measure => omega
                case rel => exact ⟨i + 1, cur, by first | rfl | (simp; done) | (congr 1; unfold wrap64; omega), by rw [hfl, ← HJ.out]; first | rfl | (simp; done) | (congr 1; unfold wrap64; omega) | (congr 1; exact bare_.wj j (by have := HCN.out; have := HNN.out; omega)), ⟨by have := HI.out; omega⟩, ⟨HB.out.drew⟩, HG, HS, ⟨by rw [hfl, ← HJ.out]; exact HC2.out⟩⟩
              · have hcs := bare_.T_not a1 c1 a2 c2 (s[i]'li) (by simpa using hgo)
                rw [hcs] at hcq
                have hfl : bare_.fl (s.data.toList.take (i + 1)) = bare_.fl (s.data.toList.take i) ++ [s[i]'li] := by rw [HX.out.1, bare_.fl_snoc, if_neg hgo]
                have hjl := bare_.fl_le s.data.toList (i + 1)
                rw [hfl, List.length_append, List.length_singleton, ← HJ.out, ← HNN.out] at hjl
                have l2 : (j : Int) < (nn : Int) := by omega
                obtain ⟨vj, hvj⟩ : ∃ v, cur[j]? = some v := ⟨_, Array.getElem?_eq_getElem (by have := HS.out; omega)⟩
                have hcb := (blk_cell HG.out j).trans hvj
                have hfb := blk_frozen HG.out j
                clear hvj
                go_wp2
                go_roundg q
                case measure => omega
                case rel => exact ⟨i + 1, cur.setIfInBounds j (.int .u8 ((s[i]'li).toNat : Int)), by first | rfl | (simp; done) | (congr 1; unfold wrap64; omega), by rw [hfl, List.length_append, ← HJ.out]; exact bare_.up j _ (by have := HCN.out; have := HNN.out; omega), ⟨by have := HI.out; omega⟩, ⟨HB.out.setCell (p := ⟨g, j, none⟩) hwg _⟩, ⟨blk_set HG.out j _⟩, ⟨by simp; exact HS.out⟩, ⟨by rw [hfl]; exact bare_.put cur nn j _ _ HS.out (by omega) HJ.out HC2.out⟩⟩
      | succ q =>
        have li : i < s.size := by have := HI.out; omega
        have li' : (i : Int) < (s.size : Int) := by omega
        have l0 : (0 : Int) ≤ (i : Int) := by omega
        obtain ⟨x1, x3, x4⟩ := bare_.at_ s i li
        have hcq := (hB.cell (p := ⟨q0, (s[i]'li).toNat, none⟩) hq).trans (hT _ x1)
        have y1 : ((s[i]'li).toNat : Int) < 256 := by omega
        obtain ⟨j, ej⟩ : ∃ j, j = bare_.cnt (s.data.toList.take i) := ⟨_, rfl⟩
        rw [← ej]
        have HJ := Aside0.mk ej
        have HX := Aside0.mk (And.intro x3 x4)
        have HJ2 : Aside0 (j < s.size + 1) := ⟨by have := bare_.cnt_fl (s.data.toList.take i); rw [List.length_take] at this; omega⟩
        clear ej x3 x4
        by_cases hgo : bare_.gone (s[i]'li) = true
        · obtain ⟨aa, cc, hcs⟩ := bare_.T_gone a1 c1 a2 c2 (s[i]'li) hgo
          rw [hcs] at hcq
          have hst : bare_.cnt (s.data.toList.take (i + 1)) = j + 1 := by rw [HX.out.1, bare_.cnt_snoc, if_pos hgo, HJ.out]
          have HJ3 : Aside0 (j + 1 ≤ s.size) := ⟨by have := bare_.cnt_fl (s.data.toList.take (i + 1)); rw [List.length_take, hst] at this; omega⟩
          go_wp2
          go_roundg q
          case measure => omega
          case rel => exact ⟨i + 1, by first | rfl | (simp; done) | (congr 1; unfold wrap64; omega), by rw [hst]; have := HJ3.out; first | rfl | (congr 1; omega) | (congr 1; unfold wrap64; omega), by rw [hst]; first | rfl | (simp; done), ⟨by have := HI.out; omega⟩, hB⟩
        · have hcs := bare_.T_not a1 c1 a2 c2 (s[i]'li) (by simpa using hgo)
          rw [hcs] at hcq
          have hst : bare_.cnt (s.data.toList.take (i + 1)) = j := by rw [HX.out.1, bare_.cnt_snoc, if_neg hgo, Nat.add_zero, HJ.out]
          go_wp2
          go_roundg q
          case measure => omega
          case rel => exact ⟨i + 1, by first | rfl | (simp; done) | (congr 1; unfold wrap64; omega), by rw [hst], by rw [hst], ⟨by have := HI.out; omega⟩, hB⟩
theorem bare_.infoS : (Tryz.prog.info? 9).map (fun i => (i.zero, i.size, i.bytes)) = some (some (.string ByteArray.empty), 1, 16) := by kernel_rfl
def bare_.row (f : Nat → Value) (r : Value) : Array Value := ((List.range 256).map f).toArray.push r
theorem bare_.row_size (f : Nat → Value) (r : Value) : (bare_.row f r).size = 257 := by simp [bare_.row]
theorem bare_.row_get (f : Nat → Value) (r : Value) (k : Nat) (h : k < 256) : (bare_.row f r)[k]? = some (f k) := by
  unfold bare_.row
  rw [Array.getElem?_push_lt (by simpa using h)]
  simp
theorem bare_.row_last (f : Nat → Value) (r : Value) : (bare_.row f r)[256]? = some r := by
  unfold bare_.row
  simp
theorem bare_.row_upd (f : Nat → Value) (r : Value) (k : Nat) (v : Value) (h : k < 256) : (bare_.row f r).setIfInBounds k v = bare_.row (fun j => if j = k then v else f j) r := by
  apply Array.ext_getElem?
  intro i
  rw [Array.getElem?_setIfInBounds]
  by_cases hi : i < 256
  · rw [bare_.row_get _ _ i hi, bare_.row_get _ _ i hi]
    by_cases hk : k = i
    · subst hk
      simp [bare_.row_size]
      omega
    · rw [if_neg hk, if_neg (fun q => hk q.symm)]
  · rw [if_neg (by omega)]
    by_cases h2 : i = 256
    · subst h2
      rw [bare_.row_last, bare_.row_last]
    · rw [Array.getElem?_eq_none (by rw [bare_.row_size]; omega), Array.getElem?_eq_none (by rw [bare_.row_size]; omega)]
theorem bare_.row_upd2 (f : Nat → Value) (r v : Value) : (bare_.row f r).setIfInBounds 256 v = bare_.row f v := by
  apply Array.ext_getElem?
  intro i
  rw [Array.getElem?_setIfInBounds]
  by_cases hi : i < 256
  · rw [if_neg (by omega), bare_.row_get _ _ i hi, bare_.row_get _ _ i hi]
  · by_cases h2 : i = 256
    · subst h2
      rw [if_pos rfl, if_pos (by rw [bare_.row_size]; omega), bare_.row_last]
    · rw [if_neg (by omega), Array.getElem?_eq_none (by rw [bare_.row_size]; omega), Array.getElem?_eq_none (by rw [bare_.row_size]; omega)]
theorem bare_.row_set (f : Nat → Value) (r v : Value) : (bare_.row f r).toList.set 256 v = (bare_.row f v).toList := by
  rw [← Array.toList_setIfInBounds, bare_.row_upd2]
set_option maxRecDepth 100000 in
theorem bare_.zeros : Tryz.zeroCells183 = bare_.row (fun _ => .slice none 0 0) (.slice none 0 0) := by
  first | rfl | kernel_rfl
theorem bare_.row_one (f : Nat → Value) (r : Value) (hf : ∀ k, (f k).oneCell' = true) (hr : r.oneCell' = true) : (bare_.row f r).all (·.oneCell') = true := by
  unfold bare_.row
  rw [Array.all_push]
  simp [hf, hr]
theorem bare_.bw (w : World) (s : ByteArray) : Below w.heap.size w (Lib.bytesWorld w 5 s) := ⟨rfl, rfl, rfl, by rw [Lib.bytesWorld_size]; omega, fun k hk => Lib.bytesWorld_at_old w 5 s k hk⟩
/-- What the built replacer's variable holds. -/
def bare_.Ok (B q0 : Nat) (w : World) : Prop := B ≤ q0 ∧ q0 < w.heap.size ∧ ∃ M a1 c1 a2 c2, B ≤ M ∧ (∀ k, k < 256 → w.cell? ⟨q0, k, none⟩ = some (bare_.T a1 c1 a2 c2 k)) ∧ w.cell? ⟨q0, 256, none⟩ = some (.slice (some ⟨M, 0, none⟩) 2 2) ∧ w.cell? ⟨M, 0, none⟩ = some (.string ⟨#[47]⟩) ∧ w.cell? ⟨M, 1, none⟩ = some (.string ⟨#[32]⟩)
theorem bare_.Ok.setCell {B q0 : Nat} {w : World} (h : bare_.Ok B q0 w) {p : Addr} (hp : p.block < B) (v : Value) : bare_.Ok B q0 (w.setCell p v) := by
  obtain ⟨h1, h2, M, a1, c1, a2, c2, h3, h4, h5, h6, h7⟩ := h
  have o : ∀ (q j : Nat), B ≤ q → (w.setCell p v).cell? ⟨q, j, none⟩ = w.cell? ⟨q, j, none⟩ := fun q j hq => World.cell?_setCell_other _ p ⟨q, j, none⟩ _ (fun e => by
    have : p.block = q := congrArg (·.block) e
    omega)
  exact ⟨h1, by simpa using h2, M, a1, c1, a2, c2, h3, fun k hk => (o _ _ h1).trans (h4 k hk), (o _ _ h1).trans h5, (o _ _ h3).trans h6, (o _ _ h3).trans h7⟩
theorem bare_.Ok.drew {B q0 : Nat} {w : World} (h : bare_.Ok B q0 w) : bare_.Ok B q0 w.drew := by
  obtain ⟨h1, h2, M, a1, c1, a2, c2, h3, h4, h5, h6, h7⟩ := h
  exact ⟨h1, h2, M, a1, c1, a2, c2, h3, h4, h5, h6, h7⟩
set_option maxRecDepth 100000 in
set_option maxHeartbeats 8000000 in
theorem bare_.build (b g cap : Nat) (w : World) (h4 : w.cell? ⟨b, 4, none⟩ = some (.slice (some ⟨g, 0, none⟩) 4 cap))
    (c0 : w.cell? ⟨g, 0, none⟩ = some (.string ⟨#[32]⟩)) (c1 : w.cell? ⟨g, 1, none⟩ = some (.string ⟨#[]⟩)) (c2 : w.cell? ⟨g, 2, none⟩ = some (.string ⟨#[47]⟩)) (c3 : w.cell? ⟨g, 3, none⟩ = some (.string ⟨#[]⟩)) :
    Calls Tryz.prog 129 #[.pointer (some ⟨b, 0, none⟩)] w fun e w' => ∃ q0, e = .returned (.iface 184 (.pointer (some ⟨q0, 0, none⟩))) ∧ Below w.heap.size w w' ∧ bare_.Ok w.heap.size q0 w' := by
  obtain ⟨si, hsi, hz0, hz1, hz2⟩ := info_parts bare_.infoS
  have hgl := World.block_lt_of_cell? w _ c0
  have hB0 : Below w.heap.size w w := Below.refl _ _
  have g47 : ((⟨#[47]⟩ : ByteArray)[0]'(by decide)).toNat = 47 := rfl
  have g32 : ((⟨#[32]⟩ : ByteArray)[0]'(by decide)).toNat = 32 := rfl
  have u8s := run_underlying (P := Tryz.prog) Tryz.underlying88
  have nil1 : ∀ w, (binOp .eql 88 (.slice none 0 0) (.slice none 0 0)).run Tryz.prog w = .ok (.bool true) w := fun w => by first | kernel_rfl | (simp [binOp, Op.equal, u8s, go_sem]; done) | rfl
  clear u8s
  go_enter Tryz.func129, Tryz.ntmps129
  go_wp2
  go_loopg [4, 5] 2 (fun q v4 v5 wx => v4 = .bool (decide (q = 2)) ∧ (∃ j : Nat, v5 = .int .i64 ((2 * j : Nat) : Int) ∧ j + q = 2) ∧ wx = w)
  case atStart => exact ⟨rfl, ⟨0, rfl, rfl⟩, rfl⟩
  case round =>
    obtain ⟨rfl, ⟨j, rfl, hj⟩, hwx⟩ := hrel
    subst hwx
    obtain ⟨rfl, rfl⟩ | ⟨rfl, rfl⟩ | ⟨rfl, rfl⟩ : (j = 0 ∧ gk = 2) ∨ (j = 1 ∧ gk = 1) ∨ (j = 2 ∧ gk = 0) := by omega
    · go_wp2
      go_roundg 1
      case measure => omega
      case rel => exact ⟨rfl, ⟨1, by first | rfl | (simp; done), rfl⟩, rfl⟩
    · go_wp2
      go_roundg 0
      case measure => omega
      case rel => exact ⟨rfl, ⟨2, by first | rfl | (simp; done), rfl⟩, rfl⟩
    · have hmk := run_make (P := Tryz.prog) wr 22 9 si _ Tryz.underlying22 hsi hz0 .i64 .i64 (0 : Int) (2 : Int) (by omega) (by omega) (by rw [hz2]; decide) (by decide)
      have hBa : Below wr.heap.size wr (wr.alloc (.cells (madeCells (Value.string ByteArray.empty).cells ((2 : Int).toNat * si.size)) 9)) := hB0.alloc (Nat.le_refl _) _
      have hMa := heap_alloc_last wr (.cells (madeCells (Value.string ByteArray.empty).cells ((2 : Int).toNat * si.size)) 9)
      have hsa : (wr.alloc (.cells (madeCells (Value.string ByteArray.empty).cells ((2 : Int).toNat * si.size)) 9)).heap.size = wr.heap.size + 1 := by simp
      rw [hz1] at hBa hMa hmk hsa
      have e2 : madeCells (Value.string ByteArray.empty).cells ((2 : Int).toNat * 1) = #[.string ByteArray.empty, .string ByteArray.empty] := by first | rfl | kernel_rfl | simp [madeCells, Value.cells, show Array.range 2 = #[0, 1] by decide]
      rw [e2] at hBa hMa hmk hsa
      obtain ⟨W1, hW1⟩ : ∃ W1, W1 = wr.alloc (.cells #[.string ByteArray.empty, .string ByteArray.empty] 9) := ⟨_, rfl⟩
      rw [← hW1] at hBa hMa hmk hsa
      clear hW1 e2
      obtain ⟨M, hM⟩ : ∃ M, M = wr.heap.size := ⟨_, rfl⟩
      rw [← hM] at hMa hmk hsa
      have HM := Aside0.mk hM
      clear hM
      have hz : (storeCells ⟨M + 1, 0, none⟩ (Tryz.zeroCells183.toList.set 256 (.slice (some ⟨M, 0, none⟩) 0 2)) 0).run Tryz.prog (W1.alloc (.cells Tryz.zeroCells183 183)) = .ok () (W1.alloc (.cells (bare_.row (fun _ => .slice none 0 0) (.slice (some ⟨M, 0, none⟩) 0 2)) 183)) := by
        rw [bare_.zeros, bare_.row_set, ← hsa]
        exact run_storeCells_new W1 183 _ _ (by kernel_rfl) (by rw [bare_.row_size, bare_.row_size]) (bare_.row_one _ _ (fun _ => rfl) rfl)
      have hBb : Below wr.heap.size wr (W1.alloc (.cells (bare_.row (fun _ => .slice none 0 0) (.slice (some ⟨M, 0, none⟩) 0 2)) 183)) := hBa.alloc (by have := HM.out; omega) _
      have hRb := heap_alloc_last W1 (.cells (bare_.row (fun _ => .slice none 0 0) (.slice (some ⟨M, 0, none⟩) 0 2)) 183)
      have hMb : (W1.alloc (.cells (bare_.row (fun _ => .slice none 0 0) (.slice (some ⟨M, 0, none⟩) 0 2)) 183)).heap[M]? = some (.cells #[.string ByteArray.empty, .string ByteArray.empty] 9 (0, 0)) := by
        rw [heap_alloc_old W1 _ (by omega)]
        exact hMa
      rw [hsa] at hRb
      clear hMa hBa
      obtain ⟨W2, hW2⟩ : ∃ W2, W2 = W1.alloc (.cells (bare_.row (fun _ => .slice none 0 0) (.slice (some ⟨M, 0, none⟩) 0 2)) 183) := ⟨_, rfl⟩
      rw [← hW2] at hz hBb hRb hMb
      clear hW2
      go_wp2
      clear hz hsa
      go_loopg [12, 13, 14] 2 (fun q v12 v13 v14 wx => Below wr.heap.size wr wx ∧ ((q = 2 ∧ v12 = .int .i64 2 ∧ Aside0 (wx.heap[M + 1]? = some (.cells (bare_.row (fun _ => .slice none 0 0) (.slice (some ⟨M, 0, none⟩) 0 2)) 183 (0, 0)) ∧ wx.heap[M]? = some (.cells #[.string ⟨#[]⟩, .string ⟨#[]⟩] 9 (0, 0))))
        ∨ (q = 1 ∧ v12 = .int .i64 0 ∧ ∃ a1 c1, Aside0 (wx.heap[M + 1]? = some (.cells (bare_.row (fun k => if k = 47 then .slice (some ⟨a1, 0, none⟩) 0 c1 else .slice none 0 0) (.slice (some ⟨M, 0, none⟩) 1 2)) 183 (0, 0)) ∧ wx.heap[M]? = some (.cells #[.string ⟨#[47]⟩, .string ⟨#[]⟩] 9 (0, 0))))
        ∨ (q = 0 ∧ v12 = .int .i64 (-2) ∧ ∃ a1 c1 a2 c2, Aside0 (wx.heap[M + 1]? = some (.cells (bare_.row (bare_.T a1 c1 a2 c2) (.slice (some ⟨M, 0, none⟩) 2 2)) 183 (0, 0)) ∧ wx.heap[M]? = some (.cells #[.string ⟨#[47]⟩, .string ⟨#[32]⟩] 9 (0, 0))))))
      case atStart => exact ⟨hBb, .inl ⟨rfl, rfl, ⟨hRb, hMb⟩⟩⟩
      case round =>
        obtain ⟨hB, hrel⟩ := hrel
        have k0 := (hB.cell (p := ⟨g, 0, none⟩) hgl).trans c0
        have k1 := (hB.cell (p := ⟨g, 1, none⟩) hgl).trans c1
        have k2 := (hB.cell (p := ⟨g, 2, none⟩) hgl).trans c2
        have k3 := (hB.cell (p := ⟨g, 3, none⟩) hgl).trans c3
        clear c0 c1 c2 c3 h4
        rcases hrel with ⟨rfl, rfl, H⟩ | ⟨rfl, rfl, a1, d1, H⟩ | ⟨rfl, rfl, a1, d1, a2, d2, H⟩
        · obtain ⟨H1, H2⟩ := H.out
          have hMB := Nat.le_of_eq HM.out.symm
          have r1 := (blk_cell H1 47).trans (bare_.row_get _ _ 47 (by omega))
          have r2 := (blk_cell H1 256).trans (bare_.row_last _ _)
          have f1 := blk_frozen H1 47
          have f2 := blk_frozen H1 256
          have hgg := blk_frozen H2 0
          have hcv := bare_.str (wr.alloc (.cells #[.int .u8 47] 5)) wr.heap.size 1 #[.int .u8 47] [47] (heap_alloc_last _ _) rfl rfl rfl
          have r2' : (wr.alloc (.cells #[.int .u8 47] 5)).cell? ⟨M + 1, 256, none⟩ = some (.slice (some ⟨M, 0, none⟩) 0 2) := (World.cell?_alloc_past _ _ _ (blk_lt H1)).trans r2
          have hMl := blk_lt H2
          have hRl := blk_lt H1
          have s1 : ∀ A B : Obj, ((wr.alloc A).alloc B).heap[M]? = some (.cells #[.string ⟨#[]⟩, .string ⟨#[]⟩] 9 (0, 0)) := fun A B => by rw [heap_alloc_old _ _ (by simp; omega), heap_alloc_old _ _ hMl]; exact H2
          have s2 : ∀ A B : Obj, ((wr.alloc A).alloc B).cell? ⟨M, 0, none⟩ = some (.string ⟨#[]⟩) := fun A B => (blk_cell (s1 A B) 0).trans rfl
          have s3 : ∀ A B : Obj, ((wr.alloc A).alloc B).frozen? ⟨M, 0, none⟩ = false := fun A B => blk_frozen (s1 A B) 0
          have t1 : ∀ A B : Obj, ((wr.alloc A).alloc B).heap[M + 1]? = some (.cells (bare_.row (fun _ => .slice none 0 0) (.slice (some ⟨M, 0, none⟩) 0 2)) 183 (0, 0)) := fun A B => by rw [heap_alloc_old _ _ (by simp; omega), heap_alloc_old _ _ hRl]; exact H1
          have t2 : ∀ (A B : Obj) (v : Value), (((wr.alloc A).alloc B).setCell ⟨M, 0, none⟩ v).heap[M + 1]? = some (.cells (bare_.row (fun _ => .slice none 0 0) (.slice (some ⟨M, 0, none⟩) 0 2)) 183 (0, 0)) := fun A B v => blk_far (t1 A B) (by simp) v
          have t3 : ∀ (A B : Obj) (v : Value), (((wr.alloc A).alloc B).setCell ⟨M, 0, none⟩ v).cell? ⟨M + 1, 256, none⟩ = some (.slice (some ⟨M, 0, none⟩) 0 2) := fun A B v => (blk_cell (t2 A B v) 256).trans (bare_.row_last _ _)
          have t4 : ∀ (A B : Obj) (v : Value), (((wr.alloc A).alloc B).setCell ⟨M, 0, none⟩ v).frozen? ⟨M + 1, 256, none⟩ = false := fun A B v => blk_frozen (t2 A B v) 256
          clear s1 t1 t2
          go_wp2
          obtain ⟨W3, hW3⟩ : ∃ W3, W3 = (((wr.setCell ⟨M, 0, none⟩ (.string ⟨#[47]⟩)).setCell ⟨M + 1, 256, none⟩ (.slice (some ⟨M, 0, none⟩) 1 2)).alloc (.cells #[.int .u8 47] 5)).alloc (.cells #[.string ⟨#[47]⟩] 9) := ⟨_, rfl⟩
          rw [← hW3]
          have F1 : W3.heap[M + 1]? = some (.cells (bare_.row (fun _ => .slice none 0 0) (.slice (some ⟨M, 0, none⟩) 1 2)) 183 (0, 0)) := by
            rw [hW3, heap_alloc_old _ _ (by simp; omega), heap_alloc_old _ _ (by simp; omega)]
            have := blk_set (blk_far H1 (p := ⟨M, 0, none⟩) (by simp) (.string ⟨#[47]⟩)) 256 (.slice (some ⟨M, 0, none⟩) 1 2)
            rwa [bare_.row_upd2] at this
          have F2 : W3.heap[M]? = some (.cells #[.string ⟨#[47]⟩, .string ⟨#[]⟩] 9 (0, 0)) := by
            rw [hW3, heap_alloc_old _ _ (by simp; omega), heap_alloc_old _ _ (by simp; omega)]
            exact blk_far (blk_set H2 0 _) (p := ⟨M + 1, 256, none⟩) (by simp) _
          have F3 := (((hB.setCell (p := ⟨M, 0, none⟩) hMB (.string ⟨#[47]⟩)).setCell (p := ⟨M + 1, 256, none⟩) (Nat.le_succ_of_le hMB) (.slice (some ⟨M, 0, none⟩) 1 2)).alloc (by simp; exact hB.size) (.cells #[.int .u8 47] 5)).alloc (by simp; exact Nat.le_succ_of_le hB.size) (.cells #[.string ⟨#[47]⟩] 9)
          rw [← hW3] at F3
          clear hW3 s2 s3 t3 t4 hB H H1 H2 r1 r2 f1 f2 hgg hcv r2' k0 k1 k2 k3 hMl hRl
          have hcb := Lib.run_convert_string_bytes (P := Tryz.prog) W3 9 88 5 ⟨#[]⟩ Tryz.underlying9 Tryz.underlying88 Tryz.underlying5
          have G1 := (Lib.bytesWorld_at_old W3 5 ⟨#[]⟩ _ (blk_lt F1)).trans F1
          have G2 := (Lib.bytesWorld_at_old W3 5 ⟨#[]⟩ _ (blk_lt F2)).trans F2
          have G3 := F3.trans ((bare_.bw W3 ⟨#[]⟩).mono F3.size)
          obtain ⟨W4, hW4⟩ : ∃ W4, W4 = Lib.bytesWorld W3 5 ⟨#[]⟩ := ⟨_, rfl⟩
          rw [← hW4] at hcb G1 G2 G3
          clear hW4
          have q1 := (blk_cell G1 47).trans (bare_.row_get _ _ 47 (by omega))
          have q2 := blk_frozen G1 47
          rw [hcb]
          clear hcb
          go_wp2
          go_roundg 1
          case measure => omega
          case rel =>
            refine ⟨?_, .inr (.inl ⟨rfl, by first | rfl | (simp; done), W3.heap.size, grownCap W3 0 0 5, ⟨?_, ?_⟩⟩)⟩
            · exact G3.setCell (p := ⟨M + 1, 47, none⟩) (Nat.le_succ_of_le hMB) _
            · refine (blk_set G1 47 _).trans ?_
              rw [bare_.row_upd _ _ _ _ (by omega)]
              all_goals exact congrArg (fun f => some (Obj.cells (bare_.row f (.slice (some ⟨M, 0, none⟩) 1 2)) 183 (0, 0))) (rfl)
            · exact blk_far G2 (p := ⟨M + 1, 47, none⟩) (by simp) _
        · obtain ⟨H1, H2⟩ := H.out
          have hMB := Nat.le_of_eq HM.out.symm
          have r1 := (blk_cell H1 32).trans (bare_.row_get _ _ 32 (by omega))
          have r2 := (blk_cell H1 256).trans (bare_.row_last _ _)
          have f1 := blk_frozen H1 32
          have f2 := blk_frozen H1 256
          have hgg := blk_frozen H2 1
          have hcv := bare_.str (wr.alloc (.cells #[.int .u8 32] 5)) wr.heap.size 1 #[.int .u8 32] [32] (heap_alloc_last _ _) rfl rfl rfl
          have r2' : (wr.alloc (.cells #[.int .u8 32] 5)).cell? ⟨M + 1, 256, none⟩ = some (.slice (some ⟨M, 0, none⟩) 1 2) := (World.cell?_alloc_past _ _ _ (blk_lt H1)).trans r2
          have hMl := blk_lt H2
          have hRl := blk_lt H1
          have s1 : ∀ A B : Obj, ((wr.alloc A).alloc B).heap[M]? = some (.cells #[.string ⟨#[47]⟩, .string ⟨#[]⟩] 9 (0, 0)) := fun A B => by rw [heap_alloc_old _ _ (by simp; omega), heap_alloc_old _ _ hMl]; exact H2
          have s2 : ∀ A B : Obj, ((wr.alloc A).alloc B).cell? ⟨M, 1, none⟩ = some (.string ⟨#[]⟩) := fun A B => (blk_cell (s1 A B) 1).trans rfl
          have s3 : ∀ A B : Obj, ((wr.alloc A).alloc B).frozen? ⟨M, 1, none⟩ = false := fun A B => blk_frozen (s1 A B) 1
          have t1 : ∀ A B : Obj, ((wr.alloc A).alloc B).heap[M + 1]? = some (.cells (bare_.row (fun k => if k = 47 then .slice (some ⟨a1, 0, none⟩) 0 d1 else .slice none 0 0) (.slice (some ⟨M, 0, none⟩) 1 2)) 183 (0, 0)) := fun A B => by rw [heap_alloc_old _ _ (by simp; omega), heap_alloc_old _ _ hRl]; exact H1
          have t2 : ∀ (A B : Obj) (v : Value), (((wr.alloc A).alloc B).setCell ⟨M, 1, none⟩ v).heap[M + 1]? = some (.cells (bare_.row (fun k => if k = 47 then .slice (some ⟨a1, 0, none⟩) 0 d1 else .slice none 0 0) (.slice (some ⟨M, 0, none⟩) 1 2)) 183 (0, 0)) := fun A B v => blk_far (t1 A B) (by simp) v
          have t3 : ∀ (A B : Obj) (v : Value), (((wr.alloc A).alloc B).setCell ⟨M, 1, none⟩ v).cell? ⟨M + 1, 256, none⟩ = some (.slice (some ⟨M, 0, none⟩) 1 2) := fun A B v => (blk_cell (t2 A B v) 256).trans (bare_.row_last _ _)
          have t4 : ∀ (A B : Obj) (v : Value), (((wr.alloc A).alloc B).setCell ⟨M, 1, none⟩ v).frozen? ⟨M + 1, 256, none⟩ = false := fun A B v => blk_frozen (t2 A B v) 256
          clear s1 t1 t2
          go_wp2
          obtain ⟨W3, hW3⟩ : ∃ W3, W3 = (((wr.setCell ⟨M, 1, none⟩ (.string ⟨#[32]⟩)).setCell ⟨M + 1, 256, none⟩ (.slice (some ⟨M, 0, none⟩) 2 2)).alloc (.cells #[.int .u8 32] 5)).alloc (.cells #[.string ⟨#[32]⟩] 9) := ⟨_, rfl⟩
          rw [← hW3]
          have F1 : W3.heap[M + 1]? = some (.cells (bare_.row (fun k => if k = 47 then .slice (some ⟨a1, 0, none⟩) 0 d1 else .slice none 0 0) (.slice (some ⟨M, 0, none⟩) 2 2)) 183 (0, 0)) := by
            rw [hW3, heap_alloc_old _ _ (by simp; omega), heap_alloc_old _ _ (by simp; omega)]
            have := blk_set (blk_far H1 (p := ⟨M, 1, none⟩) (by simp) (.string ⟨#[32]⟩)) 256 (.slice (some ⟨M, 0, none⟩) 2 2)
            rwa [bare_.row_upd2] at this
          have F2 : W3.heap[M]? = some (.cells #[.string ⟨#[47]⟩, .string ⟨#[32]⟩] 9 (0, 0)) := by
            rw [hW3, heap_alloc_old _ _ (by simp; omega), heap_alloc_old _ _ (by simp; omega)]
            exact blk_far (blk_set H2 1 _) (p := ⟨M + 1, 256, none⟩) (by simp) _
          have F3 := (((hB.setCell (p := ⟨M, 1, none⟩) hMB (.string ⟨#[32]⟩)).setCell (p := ⟨M + 1, 256, none⟩) (Nat.le_succ_of_le hMB) (.slice (some ⟨M, 0, none⟩) 2 2)).alloc (by simp; exact hB.size) (.cells #[.int .u8 32] 5)).alloc (by simp; exact Nat.le_succ_of_le hB.size) (.cells #[.string ⟨#[32]⟩] 9)
          rw [← hW3] at F3
          clear hW3 s2 s3 t3 t4 hB H H1 H2 r1 r2 f1 f2 hgg hcv r2' k0 k1 k2 k3 hMl hRl
          have hcb := Lib.run_convert_string_bytes (P := Tryz.prog) W3 9 88 5 ⟨#[]⟩ Tryz.underlying9 Tryz.underlying88 Tryz.underlying5
          have G1 := (Lib.bytesWorld_at_old W3 5 ⟨#[]⟩ _ (blk_lt F1)).trans F1
          have G2 := (Lib.bytesWorld_at_old W3 5 ⟨#[]⟩ _ (blk_lt F2)).trans F2
          have G3 := F3.trans ((bare_.bw W3 ⟨#[]⟩).mono F3.size)
          obtain ⟨W4, hW4⟩ : ∃ W4, W4 = Lib.bytesWorld W3 5 ⟨#[]⟩ := ⟨_, rfl⟩
          rw [← hW4] at hcb G1 G2 G3
          clear hW4
          have q1 := (blk_cell G1 32).trans (bare_.row_get _ _ 32 (by omega))
          have q2 := blk_frozen G1 32
          rw [hcb]
          clear hcb
          go_wp2
          go_roundg 0
          case measure => omega
          case rel =>
            refine ⟨?_, .inr (.inr ⟨rfl, by first | rfl | (simp; done), a1, d1, W3.heap.size, grownCap W3 0 0 5, ⟨?_, ?_⟩⟩)⟩
            · exact G3.setCell (p := ⟨M + 1, 32, none⟩) (Nat.le_succ_of_le hMB) _
            · refine (blk_set G1 32 _).trans ?_
              rw [bare_.row_upd _ _ _ _ (by omega)]
              all_goals exact congrArg (fun f => some (Obj.cells (bare_.row f (.slice (some ⟨M, 0, none⟩) 2 2)) 183 (0, 0))) (by funext k; unfold bare_.T; by_cases h1 : k = 32 <;> by_cases h2 : k = 47 <;> simp [h1, h2] <;> omega)
            · exact blk_far G2 (p := ⟨M + 1, 32, none⟩) (by simp) _
        · go_wp2
          go_ret
          exact ⟨M + 1, rfl, hB, Nat.le_succ_of_le (Nat.le_of_eq HM.out.symm), blk_lt H.out.1, M, a1, d1, a2, d2, Nat.le_of_eq HM.out.symm, fun k hk => (blk_cell H.out.1 k).trans (bare_.row_get _ _ k hk), (blk_cell H.out.1 256).trans (bare_.row_last _ _), (blk_cell H.out.2 0).trans rfl, (blk_cell H.out.2 1).trans rfl⟩
set_option maxRecDepth 100000 in
set_option maxHeartbeats 8000000 in
theorem bare_.buildOnce (b g cap : Nat) (x3 : Value) (w : World) (h3 : w.cell? ⟨b, 3, none⟩ = some x3) (h4 : w.cell? ⟨b, 4, none⟩ = some (.slice (some ⟨g, 0, none⟩) 4 cap)) (f3 : w.frozen? ⟨b, 3, none⟩ = false) (f4 : w.frozen? ⟨b, 4, none⟩ = false)
    (c0 : w.cell? ⟨g, 0, none⟩ = some (.string ⟨#[32]⟩)) (c1 : w.cell? ⟨g, 1, none⟩ = some (.string ⟨#[]⟩)) (c2 : w.cell? ⟨g, 2, none⟩ = some (.string ⟨#[47]⟩)) (c3 : w.cell? ⟨g, 3, none⟩ = some (.string ⟨#[]⟩)) :
    Calls Tryz.prog 102 #[.pointer (some ⟨b, 0, none⟩)] w fun e w' => e = .returned (.tuple #[]) ∧ ∃ q0 W, Below w.heap.size w W ∧ bare_.Ok w.heap.size q0 W ∧ w' = (W.setCell ⟨b, 3, none⟩ (.iface 184 (.pointer (some ⟨q0, 0, none⟩)))).setCell ⟨b, 4, none⟩ (.slice none 0 0) := by
  have hbl := World.block_lt_of_cell? w _ h3
  have hB := bare_.build b g cap w h4 c0 c1 c2 c3
  go_enter Tryz.func102, Tryz.ntmps102
  go_wp2_with (go_at_call 129; refine hB.mono ?_; rintro e w' ⟨q0, rfl, hb1, hb2⟩; have k3 := (hb1.cell (p := ⟨b, 3, none⟩) hbl).trans h3; have k4 := (hb1.cell (p := ⟨b, 4, none⟩) hbl).trans h4; have z3 := (World.frozen?_of_block (a := ⟨b, 3, none⟩) (hb1.block b hbl)).trans f3; have z4 := (World.frozen?_of_block (a := ⟨b, 4, none⟩) (hb1.block b hbl)).trans f4)
  go_end0
  exact ⟨rfl, _, _, hb1, hb2, rfl⟩
set_option maxRecDepth 100000 in
set_option maxHeartbeats 8000000 in
theorem bare_.new (g0 : Nat) (w : World) (c0 : w.cell? ⟨g0, 0, none⟩ = some (.string ⟨#[32]⟩)) (c1 : w.cell? ⟨g0, 1, none⟩ = some (.string ⟨#[]⟩)) (c2 : w.cell? ⟨g0, 2, none⟩ = some (.string ⟨#[47]⟩)) (c3 : w.cell? ⟨g0, 3, none⟩ = some (.string ⟨#[]⟩)) :
    Calls Tryz.prog 79 #[.slice (some ⟨g0, 0, none⟩) 4 4] w fun e w' => ∃ b g cap, e = .returned (.pointer (some ⟨b, 0, none⟩)) ∧ w.heap.size ≤ b ∧ w.heap.size ≤ g ∧ g < b ∧ w'.heap[b]? = some (.cells #[.int .u32 0, .int .i32 0, .int .u32 0, .nilIface, .slice (some ⟨g, 0, none⟩) 4 cap] 123 (0, 0)) ∧ (w'.cell? ⟨g, 0, none⟩ = some (.string ⟨#[32]⟩) ∧ w'.cell? ⟨g, 1, none⟩ = some (.string ⟨#[]⟩) ∧ w'.cell? ⟨g, 2, none⟩ = some (.string ⟨#[47]⟩) ∧ w'.cell? ⟨g, 3, none⟩ = some (.string ⟨#[]⟩)) ∧ Below w.heap.size w w' := by
  obtain ⟨i0, hi, hz0, hz1, hz2⟩ := info_parts bare_.infoS
  go_enter Tryz.func79, Tryz.ntmps79
  go_wp2
  go_ret
  generalize ((Question.appendCap 4 0 9).cut (w.tape w.drawn (Question.appendCap 4 0 9))) = cap
  have hcell : ∀ (O : Obj) (j : Nat) (v : Value), (#[Value.string ⟨#[32]⟩, Value.string ⟨#[]⟩, Value.string ⟨#[47]⟩, Value.string ⟨#[]⟩] ++ Builtin.zeroCells #[Value.string ⟨#[]⟩] (cap - 4))[j]? = some v → ((w.alloc (.cells (#[Value.string ⟨#[32]⟩, Value.string ⟨#[]⟩, Value.string ⟨#[47]⟩, Value.string ⟨#[]⟩] ++ Builtin.zeroCells #[Value.string ⟨#[]⟩] (cap - 4)) 9)).alloc O).cell? ⟨w.heap.size, j, none⟩ = some v := fun O j v hv => by
    refine (Below.cell ((Below.refl _ (w.alloc (.cells (#[Value.string ⟨#[32]⟩, Value.string ⟨#[]⟩, Value.string ⟨#[47]⟩, Value.string ⟨#[]⟩] ++ Builtin.zeroCells #[Value.string ⟨#[]⟩] (cap - 4)) 9))).alloc (Nat.le_refl _) O) (p := ⟨w.heap.size, j, none⟩) (by simp)).trans ?_
    rw [cell_of_row _ _ j _ 9 (0, 0) (heap_alloc_last w _)]
    exact hv
  refine ⟨_, w.heap.size, cap, rfl, by omega, Nat.le_refl _, by omega, ?_, ⟨hcell _ 0 _ ?_, hcell _ 1 _ ?_, hcell _ 2 _ ?_, hcell _ 3 _ ?_⟩, ?_⟩
  · have := heap_alloc_last (w.alloc (.cells (#[Value.string ⟨#[32]⟩, Value.string ⟨#[]⟩, Value.string ⟨#[47]⟩, Value.string ⟨#[]⟩] ++ Builtin.zeroCells #[Value.string ⟨#[]⟩] (cap - 4)) 9)) (.cells #[.int .u32 0, .int .i32 0, .int .u32 0, .nilIface, .slice (some ⟨w.heap.size, 0, none⟩) 4 cap] 123)
    rwa [World.size_alloc] at this
  · rw [Array.getElem?_append_left (by simp)]; rfl
  · rw [Array.getElem?_append_left (by simp)]; rfl
  · rw [Array.getElem?_append_left (by simp)]; rfl
  · rw [Array.getElem?_append_left (by simp)]; rfl
  · exact Below.drew (((Below.refl _ w).alloc (Nat.le_refl _) _).alloc (by simp) _)
set_option maxRecDepth 100000 in
set_option maxHeartbeats 8000000 in
theorem bare_.Replace (B b g cap : Nat) (s : ByteArray) (w : World) (hz : s.size ≤ 140737488355328) (hBb : B ≤ b) (hgb : g < b)
    (hb : w.heap[b]? = some (.cells #[.int .u32 0, .int .i32 0, .int .u32 0, .nilIface, .slice (some ⟨g, 0, none⟩) 4 cap] 123 (0, 0)))
    (c0 : w.cell? ⟨g, 0, none⟩ = some (.string ⟨#[32]⟩)) (c1 : w.cell? ⟨g, 1, none⟩ = some (.string ⟨#[]⟩)) (c2 : w.cell? ⟨g, 2, none⟩ = some (.string ⟨#[47]⟩)) (c3 : w.cell? ⟨g, 3, none⟩ = some (.string ⟨#[]⟩)) :
    Calls Tryz.prog 80 #[.pointer (some ⟨b, 0, none⟩), .string s] w fun e w' => e = .returned (.string ⟨(bare_.fl s.data.toList).toArray⟩) ∧ Below B w w' := by
  have hbl : b < w.heap.size := (Array.getElem?_eq_some_iff.1 hb).1
  have h0 : w.cell? ⟨b, 0, none⟩ = some (.int .u32 0) := by rw [cell_of_row _ _ 0 _ 123 (0, 0) hb]; rfl
  have h1 : w.cell? ⟨b, 1, none⟩ = some (.int .i32 0) := by rw [cell_of_row _ _ 1 _ 123 (0, 0) hb]; rfl
  have h3 : w.cell? ⟨b, 3, none⟩ = some .nilIface := by rw [cell_of_row _ _ 3 _ 123 (0, 0) hb]; rfl
  have h4 : w.cell? ⟨b, 4, none⟩ = some (.slice (some ⟨g, 0, none⟩) 4 cap) := by rw [cell_of_row _ _ 4 _ 123 (0, 0) hb]; rfl
  have hfr : ∀ j, w.frozen? ⟨b, j, none⟩ = false := fun j => by simp [World.frozen?, hb]
  have ob : ∀ (W : World) (i j : Nat) (v : Value), i ≠ j → (W.setCell ⟨b, i, none⟩ v).cell? ⟨b, j, none⟩ = W.cell? ⟨b, j, none⟩ := fun W i j v h => World.cell?_setCell_other _ ⟨b, i, none⟩ ⟨b, j, none⟩ _ (by simp [h])
  have og : ∀ (W : World) (i j k : Nat) (v : Value), k ≠ b → (W.setCell ⟨b, i, none⟩ v).cell? ⟨k, j, none⟩ = W.cell? ⟨k, j, none⟩ := fun W i j k v h => World.cell?_setCell_other _ ⟨b, i, none⟩ ⟨k, j, none⟩ _ (by simp [Ne.symm h])
  have hgne : g ≠ b := by omega
  obtain ⟨w0, hw0⟩ : ∃ w0, w0 = w.setCell ⟨b, 1, none⟩ (.int .i32 1) := ⟨_, rfl⟩
  have hw0s : w0.heap.size = w.heap.size := by rw [hw0]; simp
  have i0 : w0.cell? ⟨b, 0, none⟩ = some (.int .u32 0) := by rw [hw0, ob _ _ _ _ (by omega)]; exact h0
  have i1 : w0.cell? ⟨b, 1, none⟩ = some (.int .i32 1) := by rw [hw0]; exact World.cell?_setCell_same _ _ _ h1
  have i3 : w0.cell? ⟨b, 3, none⟩ = some .nilIface := by rw [hw0, ob _ _ _ _ (by omega)]; exact h3
  have i4 : w0.cell? ⟨b, 4, none⟩ = some (.slice (some ⟨g, 0, none⟩) 4 cap) := by rw [hw0, ob _ _ _ _ (by omega)]; exact h4
  have ifr : ∀ j, w0.frozen? ⟨b, j, none⟩ = false := fun j => by rw [hw0, World.frozen?_setCell]; exact hfr j
  have iB : Below B w w0 := by rw [hw0]; exact (Below.refl B w).setCell (p := ⟨b, 1, none⟩) hBb _
  have hf := bare_.buildOnce b g cap .nilIface w0 i3 i4 (ifr 3) (ifr 4) (by rw [hw0, og _ _ _ _ _ hgne]; exact c0) (by rw [hw0, og _ _ _ _ _ hgne]; exact c1) (by rw [hw0, og _ _ _ _ _ hgne]; exact c2) (by rw [hw0, og _ _ _ _ _ hgne]; exact c3)
  have hbl0 : b < w0.heap.size := by omega
  have hdo := bonce_.do_ b (fun W' => ∃ q0 W, Below w0.heap.size w0 W ∧ bare_.Ok w0.heap.size q0 W ∧ W' = (W.setCell ⟨b, 3, none⟩ (.iface 184 (.pointer (some ⟨q0, 0, none⟩)))).setCell ⟨b, 4, none⟩ (.slice none 0 0)) w h0 h1 (hfr 1) (fun W' ⟨q0, W, x1, x2, x3⟩ => by
    subst x3
    refine ⟨?_, ?_, ?_, ?_⟩
    · rw [ob _ _ _ _ (by omega), ob _ _ _ _ (by omega)]
      exact (x1.cell (p := ⟨b, 0, none⟩) hbl0).trans i0
    · rw [ob _ _ _ _ (by omega), ob _ _ _ _ (by omega)]
      exact (x1.cell (p := ⟨b, 1, none⟩) hbl0).trans i1
    · rw [World.frozen?_setCell, World.frozen?_setCell]
      exact (World.frozen?_of_block (a := ⟨b, 0, none⟩) (x1.block b hbl0)).trans (ifr 0)
    · rw [World.frozen?_setCell, World.frozen?_setCell]
      exact (World.frozen?_of_block (a := ⟨b, 1, none⟩) (x1.block b hbl0)).trans (ifr 1)) (by rw [← hw0]; exact hf)
  have hBs : B ≤ w0.heap.size := by omega
  have hdo2 : Calls Tryz.prog 101 #[.pointer (some ⟨b, 0, none⟩), .func (.func 102) #[.pointer (some ⟨b, 0, none⟩)] #[]] w fun e w' => e = .returned (.tuple #[]) ∧ ∃ q0, bare_.Ok w0.heap.size q0 w' ∧ Below B w w' ∧ w'.cell? ⟨b, 3, none⟩ = some (.iface 184 (.pointer (some ⟨q0, 0, none⟩))) := hdo.mono fun e w' ⟨y1, w1, ⟨q0, W, x1, x2, x3⟩, y3⟩ => by
    subst y3 x3
    refine ⟨y1, q0, ((((x2.setCell (p := ⟨b, 3, none⟩) hbl0 _).setCell (p := ⟨b, 4, none⟩) hbl0 _).drew).setCell (p := ⟨b, 0, none⟩) hbl0 _).setCell (p := ⟨b, 1, none⟩) hbl0 _, ((((iB.trans (x1.mono hBs)).setCell (p := ⟨b, 3, none⟩) hBb _).setCell (p := ⟨b, 4, none⟩) hBb _).drew.setCell (p := ⟨b, 0, none⟩) hBb _).setCell (p := ⟨b, 1, none⟩) hBb _, ?_⟩
    rw [ob _ _ _ _ (by omega), ob _ _ _ _ (by omega), World.cell?_drew, ob _ _ _ _ (by omega)]
    exact World.cell?_setCell_same _ _ _ ((x1.cell (p := ⟨b, 3, none⟩) hbl0).trans i3)
  clear hdo hf i0 i1 i3 i4 ifr h0 h1 h3 h4 hfr ob og iB hw0 c0 c1 c2 c3 hb
  have hm : ∀ (a : Addr) (W : World), (method 366 184 (.pointer (some a)) "Replace").run Tryz.prog W = .ok (221, .pointer (some a)) W := fun _ _ => by kernel_rfl
  go_enter Tryz.func80, Tryz.ntmps80
  go_wp2_with (first | (go_at_call 101; refine hdo2.mono ?_; rintro e w1 ⟨rfl, q0, hok, hbb, hc3⟩) | (go_at_call 221; obtain ⟨hk1, hk2, M, a1, d1, a2, d2, hk3, hT, hR, m0, m1⟩ := hok; refine (bare_.replace q0 M a1 d1 a2 d2 s w1 hz hk2 hT hR m0 m1).mono ?_; rintro e w' ⟨rfl, hw⟩))
  go_ret
  exact ⟨rfl, hbb.trans (hw.mono (by have := hbb.size; omega))⟩
set_option maxRecDepth 100000 in
set_option maxHeartbeats 8000000 in
theorem bare_.bare (s : ByteArray) (w : World) (hz : s.size ≤ 140737488355328) :
    Calls Tryz.prog 51 #[.string s] w fun e w' => e = .returned (.string ⟨(bare_.fl s.data.toList).toArray⟩) ∧ Below w.heap.size w w' := by
  obtain ⟨w0, hw0⟩ : ∃ w0, w0 = w.alloc (.cells #[Value.string ⟨#[32]⟩, Value.string ⟨#[]⟩, Value.string ⟨#[47]⟩, Value.string ⟨#[]⟩] 9) := ⟨_, rfl⟩
  have hc : ∀ (j : Nat) (v : Value), (#[Value.string ⟨#[32]⟩, Value.string ⟨#[]⟩, Value.string ⟨#[47]⟩, Value.string ⟨#[]⟩] : Array Value)[j]? = some v → w0.cell? ⟨w.heap.size, j, none⟩ = some v := fun j v h => by
    rw [hw0, cell_of_row _ _ j _ 9 (0, 0) (heap_alloc_last w _)]
    exact h
  have hB : Below w.heap.size w w0 := by rw [hw0]; exact (Below.refl _ w).alloc (Nat.le_refl _) _
  have hsz : w0.heap.size = w.heap.size + 1 := by rw [hw0]; simp
  have hn := bare_.new w.heap.size w0 (hc 0 _ rfl) (hc 1 _ rfl) (hc 2 _ rfl) (hc 3 _ rfl)
  rw [hw0] at hn
  go_enter Tryz.func51, Tryz.ntmps51
  go_wp2_with (first
    | (go_at_call 80; refine (bare_.Replace w.heap.size b g cap s w1 hz (by omega) h3 h4 h5.1 h5.2.1 h5.2.2.1 h5.2.2.2).mono ?_; rintro e w' ⟨rfl, hw⟩)
    | (go_at_call 79; refine hn.mono ?_; rintro e w1 ⟨b, g, cap, rfl, h1, h2, h3, h4, h5, h6⟩; rw [← hw0, hsz] at h1 h2; rw [← hw0] at h6))
  go_ret
  exact ⟨rfl, hB.trans (Below.trans (h6.mono (by omega)) hw)⟩
def impl_bare.f (s : ByteArray) : Option ByteArray := if s.size ≤ 140737488355328 then some ⟨(bare_.fl s.data.toList).toArray⟩ else none
theorem impl_bare.calls (a0 : ByteArray) (r : ByteArray) (w : World) (h : impl_bare.f a0 = some r) :
    Calls Tryz.prog 51 #[.string a0] w fun e w' => e = .returned (.string r) ∧ Below w.heap.size w w' := by
  unfold impl_bare.f at h
  by_cases c : a0.size ≤ 140737488355328
  · rw [if_pos c] at h
    obtain rfl := Option.some.inj h
    exact bare_.bare a0 w c
  · rw [if_neg c] at h
    cases h

/-! ### strings_Fields: function 81 -/
/-- The package's table of spaces lies where the program has it. -/
structure GInv (w : World) : Prop where
  tab : Lib.TabIs Tryz.prog w "strings.asciiSpace" .u8 Lib.asciiSpaceTab
theorem strings_Fields.cnt (l : List UInt8) : ∀ ws : Bool, Lib.cntF ws l ≤ l.length := by
  induction l with
  | nil => intro ws; simp [Lib.cntF]
  | cons b l ih =>
    intro ws
    unfold Lib.cntF
    have := ih (Lib.isSp b)
    rw [List.length_cons]
    split <;> omega
def strings_Fields.f (a0 : ByteArray) : Option (List ByteArray) := if a0.size < 4294967281 ∧ (a0.data.toList.all fun b => decide (b.toNat < 128)) = true then some ((Lib.fields a0.data.toList).map fun l => ⟨l.toArray⟩) else none
set_option maxHeartbeats 8000000 in
set_option maxRecDepth 100000 in
theorem strings_Fields.calls (a0 : ByteArray) (r : List ByteArray) (w : World) (hG : GInv w) (h : strings_Fields.f a0 = some r) :
    Calls Tryz.prog 81 #[.string a0] w fun e w' => ∃ v0_ : Value, e = .returned (v0_) ∧ Kd.R Kd.string 9 w' w.heap.size (fun _ => True) v0_ r ∧ Below w.heap.size w w' := by
  unfold strings_Fields.f at h
  by_cases hs : a0.size < 4294967281 ∧ (a0.data.toList.all fun b => decide (b.toNat < 128)) = true
  · rw [if_pos hs] at h
    obtain rfl := Option.some.inj h
    have ha : ∀ (j : Nat) b, a0.data.toList[j]? = some b → b.toNat < 128 := fun j b hb => of_decide_eq_true (List.all_eq_true.1 hs.2 b (List.mem_of_getElem? hb))
    have hi9 : (Tryz.prog.info? (Tryz.lays157_ren.t 9)).map (fun i => (i.zero, i.size, i.bytes)) = some (some (.string ByteArray.empty), 1, 16) := by kernel_rfl
    have k := Any.strings_Fields { Tryz.lays157 with } hi9 (by kernel_rfl) a0 w hs.1 ha hG.tab
    refine Calls.mono k fun e w' ⟨he, hw⟩ => ⟨_, he, ?_, ?_⟩
    · subst hw
      have hl : (Lib.fields a0.data.toList).length ≤ a0.data.toList.length := by rw [Lib.fields_length]; exact strings_Fields.cnt _ _
      have hz2 : a0.data.toList.length = a0.size := (Lib.size_eq a0).symm
      have e1 : (Lib.fields a0.data.toList).length = ((Lib.fields a0.data.toList).map fun l => (⟨l.toArray⟩ : ByteArray)).length := (List.length_map ..).symm
      have e2 : ((Lib.fields a0.data.toList).map fun l => Value.string ⟨l.toArray⟩) = ((Lib.fields a0.data.toList).map fun l => (⟨l.toArray⟩ : ByteArray)).map Value.string := by rw [List.map_map]; rfl
      have hm : (Lib.fields a0.data.toList).length ≤ maxLen := by unfold maxLen; have := hs.1; omega
      rw [e2]
      rw [e1] at hm ⊢
      generalize (Lib.fields a0.data.toList).map (fun l => (⟨l.toArray⟩ : ByteArray)) = q at hm ⊢
      refine Kd.R_of_own ⟨by unfold encs; rw [List.length_map, Nat.mul_one], .inr ⟨w.heap.size, q.length, (q.map Value.string).toArray, rfl, Nat.le_refl _, ?_, Nat.le_refl _, hm, by simp, ?_⟩⟩ (fun _ _ => trivial)
      · show (w.heap.push _)[w.heap.size]? = _
        exact Array.getElem?_push_size
      · unfold encs
        rw [Nat.mul_one]
        exact List.take_of_length_le (by simp)
    · subst hw
      exact below_alloc (Below.refl _ w) _
  · rw [if_neg hs] at h
    cases h

end Go.Proofs.YtgaadjlcmgmfaaaGreatDoor.PFnExactMeanFlips
