-- Written by a program of this session (the kit's print with this session's additions, wip/tools): Lean checks it.
import Derived.Test.YtgaadjlcmgmfaaaGreatDoorPFnExactBestFromx0
import Derived.Test.YtgaadjlcmgmfaaaGreatDoorPFnExactBestFromx7
namespace Go.Proofs.YtgaadjlcmgmfaaaGreatDoor.PFnExactBestFrom
open Go.RowKit Go.Proofs.YtgaadjlcmgmfaaaGreatDoorW.PrintWords Go.Proofs.YtgaadjlcmgmfaaaGreatDoorW.PrintLast Go.Proofs.YtgaadjlcmgmfaaaGreatDoorW.PrintMore
attribute [local go_sem] max2_int min2_int max_two min_two max_three min_three max_four min_four   -- for this text's walks alone
set_option linter.unusedVariables false
set_option linter.unusedSimpArgs false

/-! ### impl_opposite: function 62 -/
theorem once_.disable (w : World) : (callFunc 175 #[]).run Tryz.prog w = .ok (.value (.tuple #[])) w := run_call_mark0 Tryz.func175 (by kernel_rfl) (by kernel_rfl) (by kernel_rfl) .disable (by kernel_rfl) w
theorem once_.enable (w : World) : (callFunc 177 #[]).run Tryz.prog w = .ok (.value (.tuple #[])) w := run_call_mark0 Tryz.func177 (by kernel_rfl) (by kernel_rfl) (by kernel_rfl) .enable (by kernel_rfl) w
theorem once_.acquire (a : Addr) (w : World) : (callFunc 178 #[.pointer (some a)]).run Tryz.prog w = .ok (.value (.tuple #[])) w := run_call_marked Tryz.func178 (by kernel_rfl) (by kernel_rfl) (by kernel_rfl) .acquire (by kernel_rfl) a w
theorem once_.releaseMerge (a : Addr) (w : World) : (callFunc 180 #[.pointer (some a)]).run Tryz.prog w = .ok (.value (.tuple #[])) w := run_call_marked Tryz.func180 (by kernel_rfl) (by kernel_rfl) (by kernel_rfl) .releaseMerge (by kernel_rfl) a w

set_option maxRecDepth 100000 in
set_option maxHeartbeats 4000000 in
theorem once_.store (a : Addr) (x : Value) (u : FrameMode) (w : World) (hc : w.cell? a = some x) (hz : w.frozen? a = false) :
    CallsD Tryz.prog 148 #[.pointer (some a), .bool true] u w fun e u' w' => u' = u ∧ (e = .returned (.tuple #[]) ∧ w' = w.drew.setCell a (.int .u32 1)) := by
  have hc' : w.drew.cell? a = some x := by go_simp
  have hz' : w.drew.frozen? a = false := by go_simp
  have hst := run_call_store (P := Tryz.prog) Tryz.func166 (by kernel_rfl) (by kernel_rfl) (by kernel_rfl) (by kernel_rfl) (k := .u32) (y := 1) hc' hz'
  go_enter_d Tryz.func148, Tryz.ntmps148
  go_wp2
  go_region_calls
  all_goals (go_end0; exact ⟨rfl, rfl⟩)
set_option maxRecDepth 100000 in
set_option maxHeartbeats 4000000 in
theorem once_.unlock (a : Addr) (u : FrameMode) (w : World) (hc : w.cell? a = some (.int .i32 1)) (hz : w.frozen? a = false) :
    CallsD Tryz.prog 147 #[.pointer (some a)] u w fun e u' w' => u' = u ∧ (e = .returned (.tuple #[]) ∧ w' = w.setCell a (.int .i32 0)) := by
  have hd := once_.disable
  have he := once_.enable
  have hr := once_.releaseMerge
  have hadd := run_call_add (P := Tryz.prog) Tryz.func181 (by kernel_rfl) (by kernel_rfl) (by kernel_rfl) .i32 (by kernel_rfl) (y := -1) (s := 0) hc hz (by simp [go_sem]; rfl)
  have hcv := run_convert_to_unsafe (P := Tryz.prog) (src := 224) (dst := 196) Tryz.underlying224 Tryz.underlying196 (by kernel_rfl) hc
  go_enter_d Tryz.func147, Tryz.ntmps147
  go_wp2
  go_end0
  go_wp2
  go_end0
  exact ⟨rfl, rfl⟩
set_option maxRecDepth 100000 in
set_option maxHeartbeats 4000000 in
theorem once_.lock (a : Addr) (w : World) (hc : w.cell? a = some (.int .i32 0)) (hz : w.frozen? a = false) :
    Calls Tryz.prog 146 #[.pointer (some a)] w fun e w' => e = .returned (.tuple #[]) ∧ w' = w.setCell a (.int .i32 1) := by
  have hd := once_.disable
  have he := once_.enable
  have ha := once_.acquire
  have hcas := run_call_cas_hit (P := Tryz.prog) Tryz.func176 (by kernel_rfl) (by kernel_rfl) (by kernel_rfl) .i32 (by kernel_rfl) (y := 1) hc hz
  have hc' : (w.setCell a (.int .i32 1)).cell? a = some (.int .i32 1) := World.cell?_setCell_same w a _ hc
  have hcv := run_convert_to_unsafe (P := Tryz.prog) (src := 224) (dst := 196) Tryz.underlying224 Tryz.underlying196 (by kernel_rfl) hc'
  go_enter Tryz.func146, Tryz.ntmps146
  go_wp2
  first | go_end0 | (simp only [Exit.inBlock, Exit.then]; refine bodyPost_ret (results_none rfl _ _ _) rfl ?_) | refine bodyPost_ret (results_none rfl _ _ _) rfl ?_
  go_wp2
  go_end0
  exact ⟨rfl, rfl⟩
set_option maxRecDepth 100000 in
set_option maxHeartbeats 4000000 in
theorem once_.load (a : Addr) (x : Int) (w : World) (h : w.cell? a = some (.int .u32 x)) :
    Calls Tryz.prog 127 #[.pointer (some a)] w fun e w' => e = .returned (.bool (x != 0)) ∧ w' = w := by
  have hl := run_call_load (P := Tryz.prog) Tryz.func145 (by kernel_rfl) (by kernel_rfl) (by kernel_rfl) .u32 (by kernel_rfl) h
  go_enter Tryz.func127, Tryz.ntmps127
  go_wp2
  go_ret
  exact ⟨rfl, rfl⟩
set_option maxRecDepth 100000 in
set_option maxHeartbeats 4000000 in
theorem once_.slow (b : Nat) (R : World → Prop) (w : World) (h0 : w.cell? ⟨b, 0, none⟩ = some (.int .u32 0)) (h1 : w.cell? ⟨b, 1, none⟩ = some (.int .i32 0)) (f1 : w.frozen? ⟨b, 1, none⟩ = false)
    (hR : ∀ W, R W → W.cell? ⟨b, 0, none⟩ = some (.int .u32 0) ∧ W.cell? ⟨b, 1, none⟩ = some (.int .i32 1) ∧ W.frozen? ⟨b, 0, none⟩ = false ∧ W.frozen? ⟨b, 1, none⟩ = false)
    (hf : Calls Tryz.prog 102 #[.pointer (some ⟨b, 0, none⟩)] (w.setCell ⟨b, 1, none⟩ (.int .i32 1)) fun e w' => e = .returned (.tuple #[]) ∧ R w') :
    Calls Tryz.prog 128 #[.pointer (some ⟨b, 0, none⟩), .func (.func 102) #[.pointer (some ⟨b, 0, none⟩)] #[]] w fun e w' => e = .returned (.tuple #[]) ∧ ∃ w1, R w1 ∧ w' = (w1.drew.setCell ⟨b, 0, none⟩ (.int .u32 1)).setCell ⟨b, 1, none⟩ (.int .i32 0) := by
  have hl := once_.load ⟨b, 0, none⟩ 0 (w.setCell ⟨b, 1, none⟩ (.int .i32 1)) ((World.cell?_setCell_other _ ⟨b, 1, none⟩ ⟨b, 0, none⟩ _ (by simp)).trans h0)
  have hnot : ∀ (x : Bool) (w : World), (Op.unary .not (.bool x)).run Tryz.prog w = .ok (.bool (!x)) w := fun _ _ => rfl
  have hL := once_.lock ⟨b, 1, none⟩ w h1 f1
  go_enter_defers Tryz.func128, Tryz.ntmps128
  go_wp2_with (first | (go_at_call 146; refine hL.mono ?_; rintro e w' ⟨rfl, rfl⟩) | (go_at_call 127; refine hl.mono ?_; rintro e w' ⟨rfl, rfl⟩))
  refine hf.mono ?_
  rintro e w1 ⟨rfl, hw1⟩
  obtain ⟨q0, q1, q2, q3⟩ := hR w1 hw1
  go_wp2
  refine leaves_cons (f := 148) (args := #[.pointer (some ⟨b, 0, none⟩), .bool true]) (by simp) (by simp [go_sem]) ?_
  refine (once_.store ⟨b, 0, none⟩ (.int .u32 0) .returning _ q0 q2).mono ?_
  rintro e u' w'' ⟨rfl, rfl, rfl⟩
  refine leaves_cons (f := 147) (args := #[.pointer (some ⟨b, 1, none⟩)]) (by simp [settle]) (by simp [go_sem]) ?_
  refine (once_.unlock ⟨b, 1, none⟩ _ _ ?_ (by simp [q3])).mono ?_
  · refine (World.cell?_setCell_other _ ⟨b, 0, none⟩ ⟨b, 1, none⟩ _ (by simp)).trans ?_
    rw [World.cell?_drew]
    exact q1
  rintro e u' w'' ⟨rfl, rfl, rfl⟩
  simp [Leaves, settle, results, Tryz.results128]
  exact ⟨w1, hw1, rfl⟩
/-- A table of bytes. -/
def opp_.tab (f : Nat → Nat) : Array Value := ((List.range 256).map fun j => Value.int .u8 (f j)).toArray
theorem opp_.tab_size (f : Nat → Nat) : (opp_.tab f).size = 256 := by simp [opp_.tab]
theorem opp_.tab_get (f : Nat → Nat) (k : Nat) (h : k < 256) : (opp_.tab f)[k]? = some (.int .u8 (f k)) := by simp [opp_.tab, h]
theorem opp_.tab_cell (f : Nat → Nat) (w : World) (k : Nat) (h : k < 256) : (w.alloc (.cells (opp_.tab f) 179)).cell? ⟨w.heap.size, k, none⟩ = some (.int .u8 (f k)) := by
  rw [cell_of_row _ _ k (opp_.tab f) 179 (0, 0) (heap_alloc_last w _)]
  exact opp_.tab_get f k h
theorem opp_.tab_frozen (f : Nat → Nat) (w : World) (k : Nat) : (w.alloc (.cells (opp_.tab f) 179)).frozen? ⟨w.heap.size, k, none⟩ = false := by simp
theorem opp_.tab_upd (f : Nat → Nat) (k v : Nat) (h : k < 256) : (opp_.tab f).setIfInBounds k (.int .u8 v) = opp_.tab fun j => if j = k then v else f j := by
  apply Array.ext_getElem?
  intro i
  rw [Array.getElem?_setIfInBounds]
  by_cases hi : i < 256
  · rw [opp_.tab_get _ i hi, opp_.tab_get _ i hi]
    by_cases hk : k = i
    · subst hk
      simp [opp_.tab_size, h]
    · rw [if_neg hk, if_neg (fun q => hk q.symm)]
  · have n1 : (opp_.tab f)[i]? = none := by rw [Array.getElem?_eq_none]; rw [opp_.tab_size]; omega
    have n2 : (opp_.tab fun j => if j = k then v else f j)[i]? = none := by rw [Array.getElem?_eq_none]; rw [opp_.tab_size]; omega
    rw [n1, n2, if_neg (by omega)]
theorem opp_.tab_set (f : Nat → Nat) (w : World) (k v : Nat) (h : k < 256) : (w.alloc (.cells (opp_.tab f) 179)).setCell ⟨w.heap.size, k, none⟩ (.int .u8 v) = w.alloc (.cells (opp_.tab fun j => if j = k then v else f j) 179) := by
  have e := opp_.tab_upd f k v h
  rw [← e]
  simp only [World.setCell, World.alloc]
  congr 1
  apply Array.ext_getElem?
  intro i
  rw [Array.getElem?_modify, Array.getElem?_push, Array.getElem?_push]
  by_cases hi : w.heap.size = i
  · subst hi
    simp
  · rw [if_neg hi, if_neg (fun q => hi q.symm), if_neg (fun q => hi q.symm)]
set_option maxRecDepth 100000 in
theorem opp_.zeros : Tryz.zeroCells179 = opp_.tab fun _ => 0 := by
  first | rfl | kernel_rfl | decide
theorem opp_.tab_eq (f g : Nat → Nat) (h : ∀ i, i < 256 → f i = g i) : opp_.tab f = opp_.tab g := by
  unfold opp_.tab
  congr 1
  exact List.map_congr_left (fun i hi => by rw [h i (List.mem_range.1 hi)])
theorem opp_.step (w : World) (j : Nat) (h : j < 256) : (w.alloc (.cells (opp_.tab fun i => if i < j then i else 0) 179)).setCell ⟨w.heap.size, j, none⟩ (.int .u8 j) = w.alloc (.cells (opp_.tab fun i => if i < j + 1 then i else 0) 179) := by
  rw [opp_.tab_set _ _ _ _ h]
  congr 2
  apply opp_.tab_eq
  intro i _
  by_cases e : i = j
  · subst e
    simp
  · rw [if_neg e]
    by_cases l : i < j
    · rw [if_pos l, if_pos (by omega)]
    · rw [if_neg l, if_neg (by omega)]
def opp_.fin : Nat → Nat := fun j => if j = 46 then 45 else if j = 45 then 46 else j
set_option maxRecDepth 100000 in
set_option maxHeartbeats 8000000 in
theorem opp_.build (b g cap : Nat) (w : World) (h4 : w.cell? ⟨b, 4, none⟩ = some (.slice (some ⟨g, 0, none⟩) 4 cap))
    (c0 : w.cell? ⟨g, 0, none⟩ = some (.string ⟨#[46]⟩)) (c1 : w.cell? ⟨g, 1, none⟩ = some (.string ⟨#[45]⟩)) (c2 : w.cell? ⟨g, 2, none⟩ = some (.string ⟨#[45]⟩)) (c3 : w.cell? ⟨g, 3, none⟩ = some (.string ⟨#[46]⟩)) :
    Calls Tryz.prog 129 #[.pointer (some ⟨b, 0, none⟩)] w fun e w' => e = .returned (.iface 180 (.pointer (some ⟨w.heap.size, 0, none⟩))) ∧ w' = w.alloc (.cells (opp_.tab opp_.fin) 179) := by
  have hz : (storeCells ⟨w.heap.size, 0, none⟩ Tryz.zeroCells179.toList 0).run Tryz.prog (w.alloc (.cells Tryz.zeroCells179 179)) = .ok () (w.alloc (.cells Tryz.zeroCells179 179)) :=
    run_storeCells_new w 179 _ _ (by kernel_rfl) rfl (by rw [opp_.zeros]; simp [opp_.tab]; intro _ _; rfl)
  have hgl := World.block_lt_of_cell? w _ c0
  have k0 := fun f => (Below.cell ((Below.refl w.heap.size w).alloc (Nat.le_refl _) (.cells (opp_.tab f) 179)) (p := ⟨g, 0, none⟩) hgl).trans c0
  have k1 := fun f => (Below.cell ((Below.refl w.heap.size w).alloc (Nat.le_refl _) (.cells (opp_.tab f) 179)) (p := ⟨g, 1, none⟩) hgl).trans c1
  have k2 := fun f => (Below.cell ((Below.refl w.heap.size w).alloc (Nat.le_refl _) (.cells (opp_.tab f) 179)) (p := ⟨g, 2, none⟩) hgl).trans c2
  have k3 := fun f => (Below.cell ((Below.refl w.heap.size w).alloc (Nat.le_refl _) (.cells (opp_.tab f) 179)) (p := ⟨g, 3, none⟩) hgl).trans c3
  go_enter Tryz.func129, Tryz.ntmps129
  go_wp2
  go_loopg [4, 5] 2 (fun q v4 v5 wx => v4 = .bool true ∧ (∃ j : Nat, v5 = .int .i64 ((2 * j : Nat) : Int) ∧ j + q = 2) ∧ wx = w)
  case atStart => exact ⟨rfl, ⟨0, rfl, rfl⟩, rfl⟩
  case round =>
    obtain ⟨rfl, ⟨j, rfl, hj⟩, hwx⟩ := hrel
    subst hwx
    obtain ⟨rfl, rfl⟩ | ⟨rfl, rfl⟩ | ⟨rfl, rfl⟩ : (j = 0 ∧ gk = 2) ∨ (j = 1 ∧ gk = 1) ∨ (j = 2 ∧ gk = 0) := by omega
    · go_wp2
      go_roundg 1
      case measure => omega
      case rel => exact ⟨rfl, ⟨1, by first | rfl | (simp; done), rfl⟩, rfl⟩
    · go_wp2
      go_roundg 0
      case measure => omega
      case rel => exact ⟨rfl, ⟨2, by first | rfl | (simp; done), rfl⟩, rfl⟩
    · go_wp2
      rw [opp_.zeros]
      go_loopg [7, 61] 256 (fun q v7 v61 wx => ∃ j : Nat, v61 = .int .i64 j ∧ j + q = 256 ∧ wx = wr.alloc (.cells (opp_.tab fun i => if i < j then i else 0) 179))
      case atStart => exact ⟨0, rfl, rfl, by simp⟩
      case round =>
        obtain ⟨j, rfl, hj, rfl⟩ := hrel
        cases gk with
        | zero =>
          obtain rfl : j = 256 := by omega
          have e0 : opp_.tab (fun i => if i < 256 then i else 0) = opp_.tab (fun i => i) := opp_.tab_eq _ _ (fun i hi => by simp [hi])
          rw [e0]
          have q0 := k0 (fun i => i)
          have q1 := k1 (fun i => i)
          have q2 := k2 (fun i => i)
          have q3 := k3 (fun i => i)
          go_wp2
          go_loopg [8, 9, 10] 2 (fun q v8 v9 v10 wx => (q = 2 ∧ v8 = .int .i64 2 ∧ wx = wr.alloc (.cells (opp_.tab fun i => i) 179)) ∨ (q = 1 ∧ v8 = .int .i64 0 ∧ wx = wr.alloc (.cells (opp_.tab fun i => if i = 45 then 46 else i) 179)) ∨ (q = 0 ∧ v8 = .int .i64 (-2) ∧ wx = wr.alloc (.cells (opp_.tab opp_.fin) 179)))
          case atStart => exact .inl ⟨rfl, rfl, rfl⟩
          case round =>
            rcases hrel with ⟨rfl, rfl, rfl⟩ | ⟨rfl, rfl, rfl⟩ | ⟨rfl, rfl, rfl⟩
            · have q2 := k2 (fun i => i)
              have q3 := k3 (fun i => i)
              have hc := opp_.tab_cell (fun i => i) wr 45 (by omega)
              have hf := opp_.tab_frozen (fun i => i) wr 45
              go_wp2
              go_roundg 1
              case measure => omega
              case rel => exact .inr (.inl ⟨rfl, by first | rfl | (simp; done), congrArg (fun c => World.alloc _ (.cells c 179)) (opp_.tab_upd (fun i => i) 45 46 (by omega))⟩)
            · have q0 := k0 (fun i => if i = 45 then 46 else i)
              have q1 := k1 (fun i => if i = 45 then 46 else i)
              have hc := opp_.tab_cell (fun i => if i = 45 then 46 else i) wr 46 (by omega)
              have hf := opp_.tab_frozen (fun i => if i = 45 then 46 else i) wr 46
              go_wp2
              go_roundg 0
              case measure => omega
              case rel => exact .inr (.inr ⟨rfl, by first | rfl | (simp; done), congrArg (fun c => World.alloc _ (.cells c 179)) (opp_.tab_upd (fun i => if i = 45 then 46 else i) 46 45 (by omega))⟩)
            · go_wp2
              go_ret
              exact ⟨rfl, rfl⟩
        | succ q =>
          have hj' : j < 256 := by omega
          have hc := opp_.tab_cell (fun i => if i < j then i else 0) wr j hj'
          have hf := opp_.tab_frozen (fun i => if i < j then i else 0) wr j
          have hl : (j : Int) < 256 := by omega
          have h0 : (0 : Int) ≤ (j : Int) := by omega
          have hm : (j : Int) % 256 = (j : Int) := by omega
          have hs := opp_.step wr j hj'
          go_wp2
          go_roundg q
          case measure => omega
          case rel => exact ⟨j + 1, by first | rfl | (simp; done) | (simp; unfold wrap64; omega), by omega, by first | exact hs | (simp; done) | (simp; exact hs)⟩
set_option maxRecDepth 100000 in
set_option maxHeartbeats 8000000 in
theorem opp_.buildOnce (b g cap : Nat) (x3 : Value) (w : World) (h3 : w.cell? ⟨b, 3, none⟩ = some x3) (h4 : w.cell? ⟨b, 4, none⟩ = some (.slice (some ⟨g, 0, none⟩) 4 cap)) (f3 : w.frozen? ⟨b, 3, none⟩ = false) (f4 : w.frozen? ⟨b, 4, none⟩ = false)
    (c0 : w.cell? ⟨g, 0, none⟩ = some (.string ⟨#[46]⟩)) (c1 : w.cell? ⟨g, 1, none⟩ = some (.string ⟨#[45]⟩)) (c2 : w.cell? ⟨g, 2, none⟩ = some (.string ⟨#[45]⟩)) (c3 : w.cell? ⟨g, 3, none⟩ = some (.string ⟨#[46]⟩)) :
    Calls Tryz.prog 102 #[.pointer (some ⟨b, 0, none⟩)] w fun e w' => e = .returned (.tuple #[]) ∧ w' = ((w.setCell ⟨b, 3, none⟩ (.iface 180 (.pointer (some ⟨w.heap.size, 0, none⟩)))).setCell ⟨b, 4, none⟩ (.slice none 0 0)).alloc (.cells (opp_.tab opp_.fin) 179) := by
  have hbl := World.block_lt_of_cell? w _ h3
  have hB := opp_.build b g cap w h4 c0 c1 c2 c3
  have k3 := (Below.cell ((Below.refl w.heap.size w).alloc (Nat.le_refl _) (.cells (opp_.tab opp_.fin) 179)) (p := ⟨b, 3, none⟩) hbl).trans h3
  have k4 := (Below.cell ((Below.refl w.heap.size w).alloc (Nat.le_refl _) (.cells (opp_.tab opp_.fin) 179)) (p := ⟨b, 4, none⟩) hbl).trans h4
  have z3 : (w.alloc (.cells (opp_.tab opp_.fin) 179)).frozen? ⟨b, 3, none⟩ = false := by rw [World.frozen?_alloc_past _ _ _ hbl]; exact f3
  have z4 : (w.alloc (.cells (opp_.tab opp_.fin) 179)).frozen? ⟨b, 4, none⟩ = false := by rw [World.frozen?_alloc_past _ _ _ hbl]; exact f4
  go_enter Tryz.func102, Tryz.ntmps102
  go_wp2_with (go_at_call 129; refine hB.mono ?_; rintro e w' ⟨rfl, rfl⟩)
  go_end0
  exact ⟨rfl, rfl⟩
set_option maxRecDepth 100000 in
set_option maxHeartbeats 4000000 in
theorem once_.do_ (b : Nat) (R : World → Prop) (w : World) (h0 : w.cell? ⟨b, 0, none⟩ = some (.int .u32 0)) (h1 : w.cell? ⟨b, 1, none⟩ = some (.int .i32 0)) (f1 : w.frozen? ⟨b, 1, none⟩ = false)
    (hR : ∀ W, R W → W.cell? ⟨b, 0, none⟩ = some (.int .u32 0) ∧ W.cell? ⟨b, 1, none⟩ = some (.int .i32 1) ∧ W.frozen? ⟨b, 0, none⟩ = false ∧ W.frozen? ⟨b, 1, none⟩ = false)
    (hf : Calls Tryz.prog 102 #[.pointer (some ⟨b, 0, none⟩)] (w.setCell ⟨b, 1, none⟩ (.int .i32 1)) fun e w' => e = .returned (.tuple #[]) ∧ R w') :
    Calls Tryz.prog 101 #[.pointer (some ⟨b, 0, none⟩), .func (.func 102) #[.pointer (some ⟨b, 0, none⟩)] #[]] w fun e w' => e = .returned (.tuple #[]) ∧ ∃ w1, R w1 ∧ w' = (w1.drew.setCell ⟨b, 0, none⟩ (.int .u32 1)).setCell ⟨b, 1, none⟩ (.int .i32 0) := by
  have hl := once_.load ⟨b, 0, none⟩ 0 w h0
  have hs := once_.slow b R w h0 h1 f1 hR hf
  have hnot : ∀ (x : Bool) (w : World), (Op.unary .not (.bool x)).run Tryz.prog w = .ok (.bool (!x)) w := fun _ _ => rfl
  go_enter Tryz.func101, Tryz.ntmps101
  go_wp2_with (first | (go_at_call 127; refine hl.mono ?_; rintro e w' ⟨rfl, rfl⟩) | (go_at_call 128; refine hs.mono ?_; rintro e w' ⟨rfl, hw⟩))
  go_end0
  exact ⟨rfl, hw⟩
theorem opp_.at_ (s : ByteArray) (hs : ∀ c ∈ s.data.toList, c = 45 ∨ c = 46) (i : Nat) (hi : i < s.size) : (s[i]'hi).toNat < 256 ∧ opp_.fin (s[i]'hi).toNat ≠ (s[i]'hi).toNat ∧ s.data.toList.getD i 0 = s[i]'hi := by
  have hz2 : s.data.toList.length = s.size := (Lib.size_eq s).symm
  have e : s.data.toList.getD i 0 = s[i]'hi := by
    rw [List.getD_eq_getElem?_getD, List.getElem?_eq_getElem (by omega)]
    rfl
  have hm : s[i]'hi ∈ s.data.toList := by
    rw [← e, List.getD_eq_getElem?_getD, List.getElem?_eq_getElem (by omega)]
    exact List.getElem_mem _
  refine ⟨(s[i]'hi).toNat_lt, ?_, e⟩
  rcases hs _ hm with h | h <;> rw [h] <;> decide
structure opp_.Up (B : Nat) (w w' : World) : Prop where
  below : Below B w w'
  drawn : w.drawn ≤ w'.drawn
theorem opp_.Up.refl (B : Nat) (w : World) : opp_.Up B w w := ⟨Below.refl _ _, Nat.le_refl _⟩
theorem opp_.Up.trans {B : Nat} {a b c : World} (h : opp_.Up B a b) (k : opp_.Up B b c) : opp_.Up B a c := ⟨h.below.trans k.below, Nat.le_trans h.drawn k.drawn⟩
theorem opp_.Up.mono {B B' : Nat} {w w' : World} (h : opp_.Up B w w') (hB : B' ≤ B) : opp_.Up B' w w' := ⟨h.below.mono hB, h.drawn⟩
theorem opp_.Up.drew {B : Nat} {a w : World} (h : opp_.Up B a w) : opp_.Up B a w.drew := ⟨h.below.drew, Nat.le_succ_of_le h.drawn⟩
theorem opp_.Up.drewN {B : Nat} {a w : World} (h : opp_.Up B a w) (n : Nat) : opp_.Up B a (w.drewN n) := ⟨⟨h.below.os, h.below.tape, h.below.output, h.below.size, h.below.block⟩, Nat.le_trans h.drawn (Nat.le_add_right _ _)⟩
theorem opp_.Up.alloc {B : Nat} {a w : World} (h : opp_.Up B a w) (hB : B ≤ w.heap.size) (o : Obj) : opp_.Up B a (w.alloc o) := ⟨h.below.alloc hB o, h.drawn⟩
theorem opp_.Up.setCell {B : Nat} {a w : World} (h : opp_.Up B a w) {p : Addr} (hp : B ≤ p.block) (u : Value) : opp_.Up B a (w.setCell p u) := ⟨h.below.setCell hp u, h.drawn⟩
theorem opp_.Up.cell {B : Nat} {w w' : World} (h : opp_.Up B w w') {p : Addr} (hp : p.block < B) : w'.cell? p = w.cell? p := h.below.cell hp
theorem opp_.Up.size {B : Nat} {w w' : World} (h : opp_.Up B w w') : w.heap.size ≤ w'.heap.size := h.below.size
theorem opp_.bw_below (w : World) (s : ByteArray) : opp_.Up w.heap.size w (Lib.bytesWorld w 5 s) := ⟨⟨rfl, rfl, rfl, by rw [Lib.bytesWorld_size]; omega, fun k hk => Lib.bytesWorld_at_old w 5 s k hk⟩, by show w.drawn ≤ w.drawn + 1; omega⟩
theorem opp_.bw_frozen (w : World) (s : ByteArray) (k : Nat) (h : k < s.size) : (Lib.bytesWorld w 5 s).frozen? ⟨w.heap.size, k, none⟩ = false := by
  unfold World.frozen?
  rw [Lib.bytesWorld_at_new]
  have : k < (Lib.bytesCells w 5 s).size := by
    unfold Lib.bytesCells
    rw [Array.size_append, Array.size_map]
    have : s.data.size = s.size := rfl
    omega
  simp
  omega
theorem opp_.fold_str : ∀ (l : List Nat) (a : ByteArray), (l.map (fun n : Nat => (n : Int))).foldl (fun r n => r.push (UInt8.ofNat n.toNat)) a = ⟨(a.data.toList ++ l.map UInt8.ofNat).toArray⟩
  | [], a => by simp
  | n :: l, a => by
    rw [List.map_cons, List.foldl_cons, opp_.fold_str l]
    simp [ByteArray.push]
set_option maxRecDepth 100000 in
set_option maxHeartbeats 8000000 in
theorem opp_.replace (q0 : Nat) (s : ByteArray) (w : World) (hs : ∀ c ∈ s.data.toList, c = 45 ∨ c = 46) (hz : s.size ≤ 140737488355328) (hq : q0 < w.heap.size) (hT : ∀ k, k < 256 → w.cell? ⟨q0, k, none⟩ = some (.int .u8 (opp_.fin k))) :
    Calls Tryz.prog 219 #[.pointer (some ⟨q0, 0, none⟩), .string s] w fun e w' => e = .returned (.string ⟨(s.data.toList.map fun c => UInt8.ofNat (opp_.fin c.toNat)).toArray⟩) ∧ opp_.Up w.heap.size w w' := by
  have hz2 : s.data.toList.length = s.size := (Lib.size_eq s).symm
  have u_sl := run_underlying (P := Tryz.prog) Tryz.underlying88
  have nil1 : ∀ w, (binOp .eql 88 (.slice none 0 0) (.slice none 0 0)).run Tryz.prog w = .ok (.bool true) w := fun w => by first | kernel_rfl | (simp [binOp, Op.equal, u_sl, go_sem]; done) | rfl
  have nil2 : ∀ (a : Addr) (l c : Nat) w, (binOp .eql 88 (.slice (some a) l c) (.slice none 0 0)).run Tryz.prog w = .ok (.bool false) w := fun a l c w => by first | kernel_rfl | (simp [binOp, Op.equal, u_sl, go_sem]; done) | rfl
  go_enter Tryz.func219, Tryz.ntmps219
  go_wp2
  go_loopg [5, 6, 7] s.size (fun q v5 v6 v7 wx => ∃ i : Nat, v6 = .int .i64 i ∧ i + q = s.size ∧ opp_.Up w.heap.size w wx ∧ ((i = 0 ∧ v5 = .slice none 0 0) ∨ (0 < i ∧ ∃ gq cp, v5 = .slice (some ⟨gq, 0, none⟩) s.size cp ∧ w.heap.size ≤ gq ∧ (∀ k, k < s.size → wx.cell? ⟨gq, k, none⟩ = some (.int .u8 (if k < i then opp_.fin (s.data.toList.getD k 0).toNat else (s.data.toList.getD k 0).toNat : Nat))) ∧ ∀ k, k < s.size → wx.frozen? ⟨gq, k, none⟩ = false)))
  case atStart => exact ⟨0, rfl, by omega, opp_.Up.refl _ _, .inl ⟨rfl, rfl⟩⟩
  case round =>
    obtain ⟨i, rfl, hi, hB, hb⟩ := hrel
    cases gk with
    | zero =>
      obtain rfl : i = s.size := by omega
      rcases hb with ⟨h0, rfl⟩ | ⟨h0, gq, cp, rfl, hgq, hcs, hfs⟩
      · have e0 : s.data.toList = [] := List.eq_nil_of_length_eq_zero (by omega)
        go_wp2
        try go_ret
        refine ⟨?_, hB⟩
        obtain ⟨⟨l⟩⟩ := s
        have e0 : l = [] := e0
        subst e0
        rfl
      · have hld : (loadCells ⟨gq, 0, none⟩ s.size).run Tryz.prog wr = .ok ((s.data.toList.map fun c => (opp_.fin c.toNat)).map (fun n : Nat => (n : Int)) |>.map (Value.int .u8)).toArray wr := by
          have h1 := run_loadCells_list (P := Tryz.prog) wr ⟨gq, 0, none⟩ (((s.data.toList.map fun c => (opp_.fin c.toNat)).map (fun n : Nat => (n : Int))).map (Value.int .u8)) (fun j v hv => by
            have hj : j < s.size := by
              have := (List.getElem?_eq_some_iff.1 hv).1
              simpa [hz2] using this
            have h2 := hcs j hj
            rw [if_pos hj] at h2
            have ha : (⟨gq, 0, none⟩ : Addr).add j = ⟨gq, j, none⟩ := by unfold Addr.add; split <;> simp_all
            rw [ha, h2]
            rw [List.getD_eq_getElem?_getD, List.getElem?_eq_getElem (by omega)]
            rw [List.getElem?_map, List.getElem?_map, List.getElem?_map, List.getElem?_eq_getElem (by omega)] at hv
            exact hv)
          simpa [hz2] using h1
        have hst := run_bytesToString (P := Tryz.prog) wr ⟨gq, 0, none⟩ s.size cp _ hld
        rw [opp_.fold_str] at hst
        have hcv := run_convert_bytes_string (P := Tryz.prog) wr 88 9 5 (some ⟨gq, 0, none⟩) s.size cp Tryz.underlying88 Tryz.underlying5 Tryz.underlying9
        rw [hst] at hcv
        clear hst hld
        go_wp2
        go_ret
        exact ⟨by simp [Function.comp_def], hB⟩
    | succ q =>
      have li : i < s.size := by omega
      have li' : (i : Int) < (s.size : Int) := by omega
      have l0 : (0 : Int) ≤ (i : Int) := by omega
      obtain ⟨x1, x2, x3⟩ := opp_.at_ s hs i li
      rcases hb with ⟨rfl, rfl⟩ | ⟨h0, gq, cp, rfl, hgq, hcs, hfs⟩
      · have hc := hB.cell (p := ⟨q0, (s[0]'li).toNat, none⟩) hq
        rw [hT _ x1] at hc
        have y1 : ((s[0]'li).toNat : Int) < 256 := by omega
        have y2 : (((opp_.fin (s[0]'li).toNat : Nat) : Int) != ((s[0]'li).toNat : Int)) = true := by rw [bne_iff_ne]; omega
        have y3 : decide (((opp_.fin (s[0]'li).toNat : Nat) : Int) = ((s[0]'li).toNat : Int)) = false := decide_eq_false (by omega)
        have hcv := Lib.run_convert_string_bytes (P := Tryz.prog) wr 9 88 5 s Tryz.underlying9 Tryz.underlying88 Tryz.underlying5
        have hc2 := (Lib.bytesWorld_old wr 5 s ⟨q0, (s[0]'li).toNat, none⟩ (by have := hB.size; show q0 < _; omega)).trans hc
        have hc3 := Lib.bytesWorld_cell wr 5 s 0 li
        have hf3 := opp_.bw_frozen wr s 0 li
        go_wp2
        go_roundg q
        case measure => omega
        case rel =>
          have hwl : w.heap.size ≤ wr.heap.size := hB.size
          refine ⟨1, by first | rfl | (simp; done), by omega, ((hB.trans ((opp_.bw_below wr s).mono hwl)).setCell (p := ⟨wr.heap.size, 0, none⟩) hwl _), .inr ⟨by omega, wr.heap.size, _, rfl, hwl, fun k hk => ?_, fun k hk => ?_⟩⟩
          · by_cases e : k = 0
            · subst e
              rw [if_pos (by omega), x3]
              exact World.cell?_setCell_same _ _ _ hc3
            · rw [if_neg (by omega)]
              exact (World.cell?_setCell_other _ ⟨wr.heap.size, 0, none⟩ ⟨wr.heap.size, k, none⟩ _ (by first | (simp; done) | (simp; omega))).trans (Lib.bytesWorld_cell wr 5 s k hk)
          · rw [World.frozen?_setCell]
            exact opp_.bw_frozen wr s k hk
      · have hc := hB.cell (p := ⟨q0, (s[i]'li).toNat, none⟩) hq
        rw [hT _ x1] at hc
        have y1 : ((s[i]'li).toNat : Int) < 256 := by omega
        have y2 : (((opp_.fin (s[i]'li).toNat : Nat) : Int) != ((s[i]'li).toNat : Int)) = true := by rw [bne_iff_ne]; omega
        have y3 : decide (((opp_.fin (s[i]'li).toNat : Nat) : Int) = ((s[i]'li).toNat : Int)) = false := decide_eq_false (by omega)
        have hc3 := hcs i li
        have hf3 := hfs i li
        go_wp2
        go_roundg q
        case measure => omega
        case rel =>
          refine ⟨i + 1, by first | rfl | (simp; done), by omega, hB.setCell (p := ⟨gq, i, none⟩) hgq _, .inr ⟨by omega, gq, cp, rfl, hgq, fun k hk => ?_, fun k hk => ?_⟩⟩
          · by_cases e : k = i
            · subst e
              rw [if_pos (by omega), x3]
              exact World.cell?_setCell_same _ _ _ hc3
            · refine (World.cell?_setCell_other _ ⟨gq, i, none⟩ ⟨gq, k, none⟩ _ (by first | (simp; done) | (simp; omega))).trans ((hcs k hk).trans ?_)
              by_cases l : k < i
              · rw [if_pos l, if_pos (by omega)]
              · rw [if_neg l, if_neg (by omega)]
          · rw [World.frozen?_setCell]
            exact hfs k hk
def opp_.olds : List Value := [.string ⟨#[46]⟩, .string ⟨#[45]⟩, .string ⟨#[45]⟩, .string ⟨#[46]⟩]
theorem opp_.info9 : (Tryz.prog.info? 9).map (fun i => (i.zero, i.size, i.bytes)) = some (some (.string ByteArray.empty), 1, 16) := by kernel_rfl
set_option maxRecDepth 100000 in
set_option maxHeartbeats 8000000 in
theorem opp_.new (g0 : Nat) (w : World) (c0 : w.cell? ⟨g0, 0, none⟩ = some (.string ⟨#[46]⟩)) (c1 : w.cell? ⟨g0, 1, none⟩ = some (.string ⟨#[45]⟩)) (c2 : w.cell? ⟨g0, 2, none⟩ = some (.string ⟨#[45]⟩)) (c3 : w.cell? ⟨g0, 3, none⟩ = some (.string ⟨#[46]⟩)) :
    Calls Tryz.prog 79 #[.slice (some ⟨g0, 0, none⟩) 4 4] w fun e w' => ∃ b g cap, e = .returned (.pointer (some ⟨b, 0, none⟩)) ∧ w.heap.size ≤ b ∧ w.heap.size ≤ g ∧ g < b ∧ w'.heap[b]? = some (.cells #[.int .u32 0, .int .i32 0, .int .u32 0, .nilIface, .slice (some ⟨g, 0, none⟩) 4 cap] 123 (0, 0)) ∧ (w'.cell? ⟨g, 0, none⟩ = some (.string ⟨#[46]⟩) ∧ w'.cell? ⟨g, 1, none⟩ = some (.string ⟨#[45]⟩) ∧ w'.cell? ⟨g, 2, none⟩ = some (.string ⟨#[45]⟩) ∧ w'.cell? ⟨g, 3, none⟩ = some (.string ⟨#[46]⟩)) ∧ opp_.Up w.heap.size w w' := by
  obtain ⟨i0, hi, hz0, hz1, hz2⟩ := info_parts opp_.info9
  go_enter Tryz.func79, Tryz.ntmps79
  go_wp2
  go_ret
  generalize ((Question.appendCap 4 0 9).cut (w.tape w.drawn (Question.appendCap 4 0 9))) = cap
  have hcell : ∀ (O : Obj) (j : Nat) (v : Value), (#[Value.string ⟨#[46]⟩, Value.string ⟨#[45]⟩, Value.string ⟨#[45]⟩, Value.string ⟨#[46]⟩] ++ Builtin.zeroCells #[Value.string ⟨#[]⟩] (cap - 4))[j]? = some v → ((w.alloc (.cells (#[Value.string ⟨#[46]⟩, Value.string ⟨#[45]⟩, Value.string ⟨#[45]⟩, Value.string ⟨#[46]⟩] ++ Builtin.zeroCells #[Value.string ⟨#[]⟩] (cap - 4)) 9)).alloc O).cell? ⟨w.heap.size, j, none⟩ = some v := fun O j v hv => by
    refine (opp_.Up.cell ((opp_.Up.refl _ (w.alloc (.cells (#[Value.string ⟨#[46]⟩, Value.string ⟨#[45]⟩, Value.string ⟨#[45]⟩, Value.string ⟨#[46]⟩] ++ Builtin.zeroCells #[Value.string ⟨#[]⟩] (cap - 4)) 9))).alloc (Nat.le_refl _) O) (p := ⟨w.heap.size, j, none⟩) (by simp)).trans ?_
    rw [cell_of_row _ _ j _ 9 (0, 0) (heap_alloc_last w _)]
    exact hv
  refine ⟨_, w.heap.size, cap, rfl, by omega, Nat.le_refl _, by omega, ?_, ⟨hcell _ 0 _ ?_, hcell _ 1 _ ?_, hcell _ 2 _ ?_, hcell _ 3 _ ?_⟩, ?_⟩
  · have := heap_alloc_last (w.alloc (.cells (#[Value.string ⟨#[46]⟩, Value.string ⟨#[45]⟩, Value.string ⟨#[45]⟩, Value.string ⟨#[46]⟩] ++ Builtin.zeroCells #[Value.string ⟨#[]⟩] (cap - 4)) 9)) (.cells #[.int .u32 0, .int .i32 0, .int .u32 0, .nilIface, .slice (some ⟨w.heap.size, 0, none⟩) 4 cap] 123)
    rwa [World.size_alloc] at this
  · rw [Array.getElem?_append_left (by simp)]; rfl
  · rw [Array.getElem?_append_left (by simp)]; rfl
  · rw [Array.getElem?_append_left (by simp)]; rfl
  · rw [Array.getElem?_append_left (by simp)]; rfl
  · exact opp_.Up.drew (((opp_.Up.refl _ w).alloc (Nat.le_refl _) _).alloc (by simp) _)
set_option maxRecDepth 100000 in
set_option maxHeartbeats 8000000 in
theorem opp_.Replace (B b g cap : Nat) (s : ByteArray) (w : World) (hs : ∀ c ∈ s.data.toList, c = 45 ∨ c = 46) (hz : s.size ≤ 140737488355328) (hBb : B ≤ b) (hgb : g < b)
    (hb : w.heap[b]? = some (.cells #[.int .u32 0, .int .i32 0, .int .u32 0, .nilIface, .slice (some ⟨g, 0, none⟩) 4 cap] 123 (0, 0)))
    (c0 : w.cell? ⟨g, 0, none⟩ = some (.string ⟨#[46]⟩)) (c1 : w.cell? ⟨g, 1, none⟩ = some (.string ⟨#[45]⟩)) (c2 : w.cell? ⟨g, 2, none⟩ = some (.string ⟨#[45]⟩)) (c3 : w.cell? ⟨g, 3, none⟩ = some (.string ⟨#[46]⟩)) :
    Calls Tryz.prog 80 #[.pointer (some ⟨b, 0, none⟩), .string s] w fun e w' => e = .returned (.string ⟨(s.data.toList.map fun c => UInt8.ofNat (opp_.fin c.toNat)).toArray⟩) ∧ opp_.Up B w w' := by
  have hbl : b < w.heap.size := (Array.getElem?_eq_some_iff.1 hb).1
  have h0 : w.cell? ⟨b, 0, none⟩ = some (.int .u32 0) := by rw [cell_of_row _ _ 0 _ 123 (0, 0) hb]; rfl
  have h1 : w.cell? ⟨b, 1, none⟩ = some (.int .i32 0) := by rw [cell_of_row _ _ 1 _ 123 (0, 0) hb]; rfl
  have h3 : w.cell? ⟨b, 3, none⟩ = some .nilIface := by rw [cell_of_row _ _ 3 _ 123 (0, 0) hb]; rfl
  have h4 : w.cell? ⟨b, 4, none⟩ = some (.slice (some ⟨g, 0, none⟩) 4 cap) := by rw [cell_of_row _ _ 4 _ 123 (0, 0) hb]; rfl
  have hfr : ∀ j, w.frozen? ⟨b, j, none⟩ = false := fun j => by simp [World.frozen?, hb]
  have ob : ∀ (W : World) (i j : Nat) (v : Value), i ≠ j → (W.setCell ⟨b, i, none⟩ v).cell? ⟨b, j, none⟩ = W.cell? ⟨b, j, none⟩ := fun W i j v h => World.cell?_setCell_other _ ⟨b, i, none⟩ ⟨b, j, none⟩ _ (by simp [h])
  have og : ∀ (W : World) (i j k : Nat) (v : Value), k ≠ b → (W.setCell ⟨b, i, none⟩ v).cell? ⟨k, j, none⟩ = W.cell? ⟨k, j, none⟩ := fun W i j k v h => World.cell?_setCell_other _ ⟨b, i, none⟩ ⟨k, j, none⟩ _ (by simp [Ne.symm h])
  have hgne : g ≠ b := by omega
  have hf := opp_.buildOnce b g cap .nilIface (w.setCell ⟨b, 1, none⟩ (.int .i32 1)) (by rw [ob _ _ _ _ (by omega)]; exact h3) (by rw [ob _ _ _ _ (by omega)]; exact h4) (by rw [World.frozen?_setCell]; exact hfr 3) (by rw [World.frozen?_setCell]; exact hfr 4) (by rw [og _ _ _ _ _ hgne]; exact c0) (by rw [og _ _ _ _ _ hgne]; exact c1) (by rw [og _ _ _ _ _ hgne]; exact c2) (by rw [og _ _ _ _ _ hgne]; exact c3)
  have hsz : (w.setCell ⟨b, 1, none⟩ (.int .i32 1)).heap.size = w.heap.size := by simp
  rw [hsz] at hf
  obtain ⟨W1, hW1⟩ : ∃ W1, W1 = (((w.setCell ⟨b, 1, none⟩ (.int .i32 1)).setCell ⟨b, 3, none⟩ (.iface 180 (.pointer (some ⟨w.heap.size, 0, none⟩)))).setCell ⟨b, 4, none⟩ (.slice none 0 0)).alloc (.cells (opp_.tab opp_.fin) 179) := ⟨_, rfl⟩
  rw [← hW1] at hf
  have a0 : W1.cell? ⟨b, 0, none⟩ = some (.int .u32 0) := by
    rw [hW1, World.cell?_alloc_past _ _ _ (by simp; exact hbl), ob _ _ _ _ (by omega), ob _ _ _ _ (by omega), ob _ _ _ _ (by omega)]
    exact h0
  have a1 : W1.cell? ⟨b, 1, none⟩ = some (.int .i32 1) := by
    rw [hW1, World.cell?_alloc_past _ _ _ (by simp; exact hbl), ob _ _ _ _ (by omega), ob _ _ _ _ (by omega)]
    exact World.cell?_setCell_same _ _ _ h1
  have a3 : W1.cell? ⟨b, 3, none⟩ = some (.iface 180 (.pointer (some ⟨w.heap.size, 0, none⟩))) := by
    rw [hW1, World.cell?_alloc_past _ _ _ (by simp; exact hbl), ob _ _ _ _ (by omega)]
    exact World.cell?_setCell_same _ _ _ (by rw [ob _ _ _ _ (by omega)]; exact h3)
  have af : ∀ j, W1.frozen? ⟨b, j, none⟩ = false := fun j => by
    rw [hW1, World.frozen?_alloc_past _ _ _ (by simp; exact hbl), World.frozen?_setCell, World.frozen?_setCell, World.frozen?_setCell]
    exact hfr j
  have aT : ∀ k, k < 256 → W1.cell? ⟨w.heap.size, k, none⟩ = some (.int .u8 (opp_.fin k)) := fun k hk => by
    have := opp_.tab_cell opp_.fin (((w.setCell ⟨b, 1, none⟩ (.int .i32 1)).setCell ⟨b, 3, none⟩ (.iface 180 (.pointer (some ⟨w.heap.size, 0, none⟩)))).setCell ⟨b, 4, none⟩ (.slice none 0 0)) k hk
    rw [← hW1] at this
    simpa using this
  have aB : opp_.Up B w W1 := by
    rw [hW1]
    exact ((((opp_.Up.refl B w).setCell (p := ⟨b, 1, none⟩) hBb _).setCell (p := ⟨b, 3, none⟩) hBb _).setCell (p := ⟨b, 4, none⟩) hBb _).alloc (by simp; omega) _
  have asz : W1.heap.size = w.heap.size + 1 := by rw [hW1]; simp
  have hdo := once_.do_ b (fun W => W = W1) w h0 h1 (hfr 1) (fun W h => by subst h; exact ⟨a0, a1, af 0, af 1⟩) hf
  clear hf hW1
  obtain ⟨W2, hW2⟩ : ∃ W2, W2 = (W1.drew.setCell ⟨b, 0, none⟩ (.int .u32 1)).setCell ⟨b, 1, none⟩ (.int .i32 0) := ⟨_, rfl⟩
  have hdo2 : Calls Tryz.prog 101 #[.pointer (some ⟨b, 0, none⟩), .func (.func 102) #[.pointer (some ⟨b, 0, none⟩)] #[]] w fun e w' => e = .returned (.tuple #[]) ∧ w' = W2 := hdo.mono fun e w' ⟨h1, w1, h2, h3⟩ => ⟨h1, by rw [h3, h2, hW2]⟩
  have b3 : W2.cell? ⟨b, 3, none⟩ = some (.iface 180 (.pointer (some ⟨w.heap.size, 0, none⟩))) := by
    rw [hW2, ob _ _ _ _ (by omega), ob _ _ _ _ (by omega), World.cell?_drew]
    exact a3
  have bT : ∀ k, k < 256 → W2.cell? ⟨w.heap.size, k, none⟩ = some (.int .u8 (opp_.fin k)) := fun k hk => by
    rw [hW2, og _ _ _ _ _ (by omega), og _ _ _ _ _ (by omega), World.cell?_drew]
    exact aT k hk
  have bB : opp_.Up B w W2 := by
    rw [hW2]
    exact ((opp_.Up.drew aB).setCell (p := ⟨b, 0, none⟩) hBb _).setCell (p := ⟨b, 1, none⟩) hBb _
  have bsz : W2.heap.size = w.heap.size + 1 := by rw [hW2]; simp [asz]
  have hrep := opp_.replace w.heap.size s W2 hs hz (by omega) bT
  clear hdo a0 a1 a3 af aT aB hW2 bT
  have hm : ∀ (a : Addr) (W : World), (method 366 180 (.pointer (some a)) "Replace").run Tryz.prog W = .ok (219, .pointer (some a)) W := fun _ _ => by kernel_rfl
  go_enter Tryz.func80, Tryz.ntmps80
  go_wp2_with (first | (go_at_call 101; refine hdo2.mono ?_; rintro e w' ⟨rfl, rfl⟩) | (go_at_call 219; refine hrep.mono ?_; rintro e w' ⟨rfl, hw⟩))
  go_ret
  exact ⟨rfl, bB.trans (hw.mono (by rw [bsz]; omega))⟩
set_option maxRecDepth 100000 in
set_option maxHeartbeats 8000000 in
theorem opp_.opposite (s : ByteArray) (w : World) (hs : ∀ c ∈ s.data.toList, c = 45 ∨ c = 46) (hz : s.size ≤ 140737488355328) :
    Calls Tryz.prog 62 #[.string s] w fun e w' => e = .returned (.string ⟨(s.data.toList.map fun c => UInt8.ofNat (opp_.fin c.toNat)).toArray⟩) ∧ opp_.Up w.heap.size w w' := by
  obtain ⟨w0, hw0⟩ : ∃ w0, w0 = w.alloc (.cells #[Value.string ⟨#[46]⟩, Value.string ⟨#[45]⟩, Value.string ⟨#[45]⟩, Value.string ⟨#[46]⟩] 9) := ⟨_, rfl⟩
  have hc : ∀ (j : Nat) (v : Value), (#[Value.string ⟨#[46]⟩, Value.string ⟨#[45]⟩, Value.string ⟨#[45]⟩, Value.string ⟨#[46]⟩] : Array Value)[j]? = some v → w0.cell? ⟨w.heap.size, j, none⟩ = some v := fun j v h => by
    rw [hw0, cell_of_row _ _ j _ 9 (0, 0) (heap_alloc_last w _)]
    exact h
  have hB : opp_.Up w.heap.size w w0 := by rw [hw0]; exact (opp_.Up.refl _ w).alloc (Nat.le_refl _) _
  have hsz : w0.heap.size = w.heap.size + 1 := by rw [hw0]; simp
  have hn := opp_.new w.heap.size w0 (hc 0 _ rfl) (hc 1 _ rfl) (hc 2 _ rfl) (hc 3 _ rfl)
  rw [hw0] at hn
  go_enter Tryz.func62, Tryz.ntmps62
  go_wp2_with (first
    | (go_at_call 80; refine (opp_.Replace w.heap.size b g cap s w1 hs hz (by omega) h3 h4 h5.1 h5.2.1 h5.2.2.1 h5.2.2.2).mono ?_; rintro e w' ⟨rfl, hw⟩)
    | (go_at_call 79; refine hn.mono ?_; rintro e w1 ⟨b, g, cap, rfl, h1, h2, h3, h4, h5, h6⟩; rw [← hw0, hsz] at h1 h2; rw [← hw0] at h6))
  go_ret
  exact ⟨rfl, hB.trans (opp_.Up.trans (h6.mono (by omega)) hw)⟩
def impl_opposite.f (s : ByteArray) : Option ByteArray := if s.size ≤ 140737488355328 ∧ (s.data.toList.all fun c => c == 45 || c == 46) = true then some ⟨(s.data.toList.map fun c => UInt8.ofNat (opp_.fin c.toNat)).toArray⟩ else none
theorem impl_opposite.up_ (a0 : ByteArray) (r : ByteArray) (w : World) (h : impl_opposite.f a0 = some r) :
    Calls Tryz.prog 62 #[.string a0] w fun e w' => e = .returned (.string r) ∧ opp_.Up w.heap.size w w' := by
  unfold impl_opposite.f at h
  by_cases c : a0.size ≤ 140737488355328 ∧ (a0.data.toList.all fun c => c == 45 || c == 46) = true
  · rw [if_pos c] at h
    obtain rfl := Option.some.inj h
    exact opp_.opposite a0 w (fun x hx => by have := List.all_eq_true.1 c.2 x hx; simpa using this) c.1
  · rw [if_neg c] at h
    cases h
theorem impl_opposite.calls (a0 : ByteArray) (r : ByteArray) (w : World) (h : impl_opposite.f a0 = some r) :
    Calls Tryz.prog 62 #[.string a0] w fun e w' => e = .returned (.string r) ∧ Below w.heap.size w w' :=
  (impl_opposite.up_ a0 r w h).mono fun _ _ h => ⟨h.1, h.2.below⟩

/-! ### impl_byTime: function 33 -/
def impl_byTime.f (k : Nat) (a0 : ByteArray) (a1 : ByteArray) : Option (Int) := (impl_timeOf.f a0).bind fun t234 => ((impl_timeOf.f a1).bind fun t235 => ((cmp_Compare_int.f t234 t235).bind fun t236 => ((cmp_Compare_int.f (a0.size : Int) (a1.size : Int)).bind fun t237 => ((impl_opposite.f a0).bind fun t238 => ((impl_opposite.f a1).bind fun t239 => ((strings_Compare.f t238 t239).bind fun t240 => ((cmp_Or_int.f k (([t236, t237, t240] : List Int))).bind fun t244 => (some t244))))))))
theorem impl_byTime.mono : ∀ a0 a1 k, LeO (impl_byTime.f k a0 a1) (impl_byTime.f (k + 1) a0 a1) := by
  intro a0 a1 k
  unfold impl_byTime.f
  repeat' first
      | (with_reducible exact cmp_Or_int.mono _ _)
      | (with_reducible exact LeO.refl _)
      | (with_reducible exact LeO.none _)
      | (with_reducible refine LeO.ite ?_ ?_)
      | (with_reducible refine LeO.bind ?_ (fun _ => ?_))
      | exact cmp_Or_int.mono _ _
      | exact LeO.none _
      | refine LeO.ite ?_ ?_
      | refine LeO.bind ?_ (fun _ => ?_)
set_option maxHeartbeats 8000000 in
set_option maxRecDepth 100000 in
theorem impl_byTime.calls (k : Nat) (a0 : ByteArray) (a1 : ByteArray) (r : Int) (w : World) (h : impl_byTime.f k a0 a1 = some r) :
    Calls Tryz.prog 33 #[.string a0, .string a1] w fun e w' => e = .returned (.int .i64 r) ∧ Below w.heap.size w w' := by
  have HB := Aside0.mk (Below.refl w.heap.size w)
  have H : ((impl_timeOf.f a0).bind fun t234 => ((impl_timeOf.f a1).bind fun t235 => ((cmp_Compare_int.f t234 t235).bind fun t236 => ((cmp_Compare_int.f (a0.size : Int) (a1.size : Int)).bind fun t237 => ((impl_opposite.f a0).bind fun t238 => ((impl_opposite.f a1).bind fun t239 => ((strings_Compare.f t238 t239).bind fun t240 => ((cmp_Or_int.f k (([t236, t237, t240] : List Int))).bind fun t244 => (some t244))))))))) = some r := h
  clear h
  replace H := Option.bind_eq_some_iff.mp H
  obtain ⟨t234, A30, H⟩ := H
  replace H : ((impl_timeOf.f a1).bind fun t235 => ((cmp_Compare_int.f t234 t235).bind fun t236 => ((cmp_Compare_int.f (a0.size : Int) (a1.size : Int)).bind fun t237 => ((impl_opposite.f a0).bind fun t238 => ((impl_opposite.f a1).bind fun t239 => ((strings_Compare.f t238 t239).bind fun t240 => ((cmp_Or_int.f k (([t236, t237, t240] : List Int))).bind fun t244 => (some t244)))))))) = some r := H
  have A3 := Aside0.mk A30
  clear A30
  replace H := Option.bind_eq_some_iff.mp H
  obtain ⟨t235, A40, H⟩ := H
  replace H : ((cmp_Compare_int.f t234 t235).bind fun t236 => ((cmp_Compare_int.f (a0.size : Int) (a1.size : Int)).bind fun t237 => ((impl_opposite.f a0).bind fun t238 => ((impl_opposite.f a1).bind fun t239 => ((strings_Compare.f t238 t239).bind fun t240 => ((cmp_Or_int.f k (([t236, t237, t240] : List Int))).bind fun t244 => (some t244))))))) = some r := H
  have A4 := Aside0.mk A40
  clear A40
  replace H := Option.bind_eq_some_iff.mp H
  obtain ⟨t236, A50, H⟩ := H
  replace H : ((cmp_Compare_int.f (a0.size : Int) (a1.size : Int)).bind fun t237 => ((impl_opposite.f a0).bind fun t238 => ((impl_opposite.f a1).bind fun t239 => ((strings_Compare.f t238 t239).bind fun t240 => ((cmp_Or_int.f k (([t236, t237, t240] : List Int))).bind fun t244 => (some t244)))))) = some r := H
  have A5 := Aside0.mk A50
  clear A50
  replace H := Option.bind_eq_some_iff.mp H
  obtain ⟨t237, A60, H⟩ := H
  replace H : ((impl_opposite.f a0).bind fun t238 => ((impl_opposite.f a1).bind fun t239 => ((strings_Compare.f t238 t239).bind fun t240 => ((cmp_Or_int.f k (([t236, t237, t240] : List Int))).bind fun t244 => (some t244))))) = some r := H
  have A6 := Aside0.mk A60
  clear A60
  replace H := Option.bind_eq_some_iff.mp H
  obtain ⟨t238, A70, H⟩ := H
  replace H : ((impl_opposite.f a1).bind fun t239 => ((strings_Compare.f t238 t239).bind fun t240 => ((cmp_Or_int.f k (([t236, t237, t240] : List Int))).bind fun t244 => (some t244)))) = some r := H
  have A7 := Aside0.mk A70
  clear A70
  replace H := Option.bind_eq_some_iff.mp H
  obtain ⟨t239, A80, H⟩ := H
  replace H : ((strings_Compare.f t238 t239).bind fun t240 => ((cmp_Or_int.f k (([t236, t237, t240] : List Int))).bind fun t244 => (some t244))) = some r := H
  have A8 := Aside0.mk A80
  clear A80
  replace H := Option.bind_eq_some_iff.mp H
  obtain ⟨t240, A90, H⟩ := H
  replace H : ((cmp_Or_int.f k (([t236, t237, t240] : List Int))).bind fun t244 => (some t244)) = some r := H
  have A9 := Aside0.mk A90
  clear A90
  obtain ⟨y241, hy241⟩ : ∃ y_ : List Int, y_ = (([t236, t237, t240] : List Int)) := ⟨_, rfl⟩
  replace H : ((cmp_Or_int.f k y241).bind fun t244 => (some t244)) = some r := by first | (rw [hy241]; with_reducible exact H) | (have H2_ := (Option.bind_some _ _).symm.trans H; rw [hy241]; with_reducible exact H2_) | (have H2_ := (Option.bind_some _ _).symm.trans H; with_reducible exact H2_) | with_reducible exact H | (rw [hy241]; exact H) | exact H
  have Ny241 := Aside0.mk hy241
  clear hy241
  replace H := Option.bind_eq_some_iff.mp H
  obtain ⟨t244, A100, H⟩ := H
  replace H : (some t244) = some r := H
  have A10 := Aside0.mk A100
  clear A100
  obtain rfl := Option.some.inj H
  go_enter Tryz.func33, Tryz.ntmps33
  go_wp2_with (first | ((with_reducible refine gate_callee (f := 60) rfl ?_); refine goesL_ (some 6) rfl rfl Tryz.func60 (by kernel_rfl) rfl #[.string a0] rfl (by (try simp only [List.map_toArray, List.map_cons, List.map_nil]); first | done | rfl | (simp only [List.length_drop, List.length_take]; rfl)) ?_; (with_reducible refine (impl_timeOf.calls a0 t234 _ A3.out).mono ?_); rintro e w' ⟨rfl, ⟨nd, rfl⟩⟩; refine ⟨_, rfl, ?_⟩) | ((with_reducible refine gate_callee (f := 60) rfl ?_); refine goesL_ (some 8) rfl rfl Tryz.func60 (by kernel_rfl) rfl #[.string a1] rfl (by (try simp only [List.map_toArray, List.map_cons, List.map_nil]); first | done | rfl | (simp only [List.length_drop, List.length_take]; rfl)) ?_; (with_reducible refine (impl_timeOf.calls a1 t235 _ A4.out).mono ?_); rintro e w' ⟨rfl, ⟨nd, rfl⟩⟩; refine ⟨_, rfl, ?_⟩) | ((with_reducible refine gate_callee (f := 59) rfl ?_); refine goesL_ (some 9) rfl rfl Tryz.func59 (by kernel_rfl) rfl #[.int .i64 t234, .int .i64 t235] rfl (by (try simp only [List.map_toArray, List.map_cons, List.map_nil]); first | done | rfl | (simp only [List.length_drop, List.length_take]; rfl)) ?_; (with_reducible refine (cmp_Compare_int.calls t234 t235 t236 _ A5.out).mono ?_); rintro e w' ⟨rfl, ⟨nd, rfl⟩⟩; refine ⟨_, rfl, ?_⟩) | ((with_reducible refine gate_callee (f := 59) rfl ?_); refine goesL_ (some 14) rfl rfl Tryz.func59 (by kernel_rfl) rfl #[.int .i64 (a0.size : Int), .int .i64 (a1.size : Int)] rfl (by (try simp only [List.map_toArray, List.map_cons, List.map_nil]); first | done | rfl | (simp only [List.length_drop, List.length_take]; rfl)) ?_; (with_reducible refine (cmp_Compare_int.calls (a0.size : Int) (a1.size : Int) t237 _ A6.out).mono ?_); rintro e w' ⟨rfl, ⟨nd, rfl⟩⟩; refine ⟨_, rfl, ?_⟩) | ((with_reducible refine gate_callee (f := 62) rfl ?_); refine goesL_ (some 16) rfl rfl Tryz.func62 (by kernel_rfl) rfl #[.string a0] rfl (by (try simp only [List.map_toArray, List.map_cons, List.map_nil]); first | done | rfl | (simp only [List.length_drop, List.length_take]; rfl)) ?_; (with_reducible refine (impl_opposite.calls a0 t238 _ A7.out).mono ?_); rintro e w11 ⟨rfl, hb⟩; refine ⟨_, rfl, ?_⟩; have n0_ := Aside0.mk (below_step (by repeat (first | (with_reducible first | exact HB.out | apply below_alloc | apply pw_below_drewN | apply below_drew1) | exact HB.out)) hb); clear HB; have HB := n0_; clear n0_; (try clear hb); (try clear hb2); (try clear hk); (try clear hi)) | ((with_reducible refine gate_callee (f := 62) rfl ?_); refine goesL_ (some 18) rfl rfl Tryz.func62 (by kernel_rfl) rfl #[.string a1] rfl (by (try simp only [List.map_toArray, List.map_cons, List.map_nil]); first | done | rfl | (simp only [List.length_drop, List.length_take]; rfl)) ?_; (with_reducible refine (impl_opposite.calls a1 t239 _ A8.out).mono ?_); rintro e w12 ⟨rfl, hb⟩; refine ⟨_, rfl, ?_⟩; have n0_ := Aside0.mk (below_step (by repeat (first | (with_reducible first | exact HB.out | apply below_alloc | apply pw_below_drewN | apply below_drew1) | exact HB.out)) hb); clear HB; have HB := n0_; clear n0_; (try clear hb); (try clear hb2); (try clear hk); (try clear hi)) | ((with_reducible refine gate_callee (f := 61) rfl ?_); refine goesL_ (some 19) rfl rfl Tryz.func61 (by kernel_rfl) rfl #[.string t238, .string t239] rfl (by (try simp only [List.map_toArray, List.map_cons, List.map_nil]); first | done | rfl | (simp only [List.length_drop, List.length_take]; rfl)) ?_; (with_reducible refine (strings_Compare.calls t238 t239 t240 _ A9.out).mono ?_); rintro e w13 ⟨rfl, hb⟩; refine ⟨_, rfl, ?_⟩; have n0_ := Aside0.mk (below_step (by repeat (first | (with_reducible first | exact HB.out | apply below_alloc | apply pw_below_drewN | apply below_drew1) | exact HB.out)) hb); clear HB; have HB := n0_; clear n0_; (try clear hb); (try clear hb2); (try clear hk); (try clear hi)) | ((with_reducible refine gate_dst (N := 20) rfl ?_); refine Kd.R_lit (Kd.int .i64) _ 3 ?hg (N := 20) ?hd (xs := ([t236, t237, t240] : List Int)) (inner := [.int .i64 t236, .int .i64 t237, .int .i64 t240]) (ok := fun _ => True) (okp := fun _ => True) ?hr ?hp (fun _ hk => hk) trivial (Below.refl _ _) (Nat.le_refl _) (by simp) ?_; (case hd => rfl); (case hg => rfl); (case hr => first | (go_simp; done) | (go_simp; rfl)); (case hp => exact (Reps.one (show Kd.M (Kd.int .i64) _ _ _ t236 [.int .i64 t236] from rfl) (Reps.one (show Kd.M (Kd.int .i64) _ _ _ t237 [.int .i64 t237] from rfl) (Reps.one (show Kd.M (Kd.int .i64) _ _ _ t240 [.int .i64 t240] from rfl) (Reps.none _ _))))); intro v242 w14 ho15 hb hg_ hnew_; clear hg_ hnew_; (first | rw [← Ny241.out] at ho15 | (simp only [Int.reduceToNat] at ho15; rw [← Ny241.out] at ho15)); have n0_ := Aside0.mk (Kd.R_lower ho15 (below_size (by repeat (first | (with_reducible first | exact HB.out | apply below_alloc | apply pw_below_drewN | apply below_drew1) | exact HB.out)))); have n1_ := Aside0.mk (below_step (by repeat (first | (with_reducible first | exact HB.out | apply below_alloc | apply pw_below_drewN | apply below_drew1) | exact HB.out)) hb); clear HB; have HO243 := n0_; have HB := n1_; clear n0_ n1_; clear hb ho15; obtain ⟨Ao16, co16, eo16⟩ := Kd.R_slice HO243.out; subst eo16) | ((with_reducible refine gate_callee (f := 58) rfl ?_); refine goesL_ (some 21) rfl rfl Tryz.func58 (by kernel_rfl) rfl #[.slice Ao16 y241.length co16] rfl (by (try simp only [List.map_toArray, List.map_cons, List.map_nil]); first | done | rfl | (simp only [List.length_drop, List.length_take]; rfl)) ?_; (with_reducible refine (cmp_Or_int.calls k _ _ y241 t244 _ ?side1 ?side2 A10.out).mono ?_); (case side1 => repeat (first | exact (Kd.R_reads' HO243.out).2.2 | (with_reducible refine Kd.C_alloc ?_ _) | (with_reducible refine Kd.C_drewN ?_ _) | (with_reducible refine Kd.C_drew ?_))); (case side2 => exact (Kd.R_reads' HO243.out).2.1); rintro e w' ⟨rfl, ⟨nd, rfl⟩⟩; refine ⟨_, rfl, ?_⟩))
  go_ret
  exact ⟨by first | rfl | (simp [errW_none, errW_some] <;> rfl) | (simp [*, errW_none, errW_some] <;> rfl), by repeat (first | (with_reducible first | exact HB.out | apply below_alloc | apply pw_below_drewN | apply below_drew1) | exact HB.out)⟩

/-! ### slices_SortFunc_string_string: function 32 -/
theorem slices_SortFunc_string_string_.or_ (k : Nat) (p q s x : Int) (W : World) (h : cmp_Or_int.f k [p, q, s] = some x) :
    Calls Tryz.prog 58 #[.slice (some ⟨W.heap.size, 0, none⟩) 3 3] (W.alloc (.cells #[.int .i64 p, .int .i64 q, .int .i64 s] 3)) fun e w' => e = .returned (.int .i64 x) ∧ ∃ n, w' = (W.alloc (.cells #[.int .i64 p, .int .i64 q, .int .i64 s] 3)).drewN n := by
  have hc : ∀ (j : Nat) (v : Value), (#[.int .i64 p, .int .i64 q, .int .i64 s] : Array Value)[j]? = some v → (W.alloc (.cells #[.int .i64 p, .int .i64 q, .int .i64 s] 3)).cell? ⟨W.heap.size, j, none⟩ = some v := fun j v h => by
    rw [cell_of_row _ _ j _ 3 (0, 0) (heap_alloc_last W _)]
    exact h
  exact (cmp_Or_int.calls k (some ⟨W.heap.size, 0, none⟩) 3 [p, q, s] x _ (by
    refine Kd.C_of_reads (enc := Value.int .i64) (d := 0) (h1 := fun _ => rfl) ⟨rfl, (by show (3 : Nat) ≤ 9223372036854775807; decide), fun _ => ⟨_, rfl, fun j hj => ?_⟩⟩
    have ha : (⟨W.heap.size, 0, none⟩ : Addr).add j = ⟨W.heap.size, j, none⟩ := by unfold Addr.add; split <;> simp_all
    rw [ha]
    have hj : j < 3 := hj
    rcases j with _ | _ | _ | j
    · exact hc 0 _ rfl
    · exact hc 1 _ rfl
    · exact hc 2 _ rfl
    · omega) (Nat.le_refl 3) h).mono fun e w' h => ⟨h.1, h.2.out⟩
theorem slices_SortFunc_string_string_.up (w w' : World) (h : opp_.Up w.heap.size w w') : ∃ q os, w' = Go.Sort.grow (w.drewN q) os := by
  refine ⟨w'.drawn - w.drawn, w'.heap.extract w.heap.size w'.heap.size, ?_⟩
  obtain ⟨⟨h1, h2, h3, h4, h5⟩, h6⟩ := h
  obtain ⟨H, T, D, O, U⟩ := w
  obtain ⟨H', T', D', O', U'⟩ := w'
  simp only at h1 h2 h3 h4 h5 h6
  subst h1 h2 h3
  unfold Go.Sort.grow World.drewN
  simp only [World.mk.injEq, true_and, and_true]
  refine ⟨?_, by omega⟩
  apply Array.ext
  · simp; omega
  · intro i hi1 hi2
    rw [Array.getElem_append]
    by_cases hi : i < H.size
    · rw [dif_pos hi]
      have := h5 i hi
      rw [Array.getElem?_eq_getElem hi1, Array.getElem?_eq_getElem hi] at this
      exact Option.some.inj this
    · rw [dif_neg hi, Array.getElem_extract]
      congr 1
      omega
set_option maxHeartbeats 8000000 in
set_option maxRecDepth 100000 in
theorem slices_SortFunc_string_string_.byTime (k : Nat) (a b : ByteArray) (r : Int) (w : World) (h : impl_byTime.f k a b = some r) :
    Calls Tryz.prog 33 #[.string a, .string b] w fun e w' => e = .returned (.int .i64 r) ∧ ∃ q os, w' = Go.Sort.grow (w.drewN q) os := by
  unfold impl_byTime.f at h
  obtain ⟨t1, e1, h⟩ := Option.bind_eq_some_iff.mp h
  obtain ⟨t2, e2, h⟩ := Option.bind_eq_some_iff.mp h
  obtain ⟨t3, e3, h⟩ := Option.bind_eq_some_iff.mp h
  obtain ⟨t4, e4, h⟩ := Option.bind_eq_some_iff.mp h
  obtain ⟨t5, e5, h⟩ := Option.bind_eq_some_iff.mp h
  obtain ⟨t6, e6, h⟩ := Option.bind_eq_some_iff.mp h
  obtain ⟨t7, e7, h⟩ := Option.bind_eq_some_iff.mp h
  obtain ⟨t8, e8, h⟩ := Option.bind_eq_some_iff.mp h
  obtain rfl := Option.some.inj h
  have H1 := Aside0.mk (fun w => (impl_timeOf.calls a t1 w e1).mono (R' := fun e w' => e = .returned (.int .i64 t1) ∧ ∃ n, w' = w.drewN n) (fun e w' h => ⟨h.1, h.2.out⟩))
  have H2 := Aside0.mk (fun w => (impl_timeOf.calls b t2 w e2).mono (R' := fun e w' => e = .returned (.int .i64 t2) ∧ ∃ n, w' = w.drewN n) (fun e w' h => ⟨h.1, h.2.out⟩))
  have H3 := Aside0.mk (fun w => (cmp_Compare_int.calls t1 t2 t3 w e3).mono (R' := fun e w' => e = .returned (.int .i64 t3) ∧ ∃ n, w' = w.drewN n) (fun e w' h => ⟨h.1, h.2.out⟩))
  have H4 := Aside0.mk (fun w => (cmp_Compare_int.calls _ _ t4 w e4).mono (R' := fun e w' => e = .returned (.int .i64 t4) ∧ ∃ n, w' = w.drewN n) (fun e w' h => ⟨h.1, h.2.out⟩))
  have H5 := Aside0.mk (fun w => impl_opposite.up_ a t5 w e5)
  have H6 := Aside0.mk (fun w => impl_opposite.up_ b t6 w e6)
  have H7 := Aside0.mk (fun w => strings_Compare.same t5 t6 t7 w e7)
  have H8 := Aside0.mk (fun W => slices_SortFunc_string_string_.or_ k t3 t4 t7 t8 W e8)
  clear e1 e2 e3 e4 e5 e6 e7 e8 h
  suffices hs : Calls Tryz.prog 33 #[.string a, .string b] w fun e w' => e = .returned (.int .i64 t8) ∧ opp_.Up w.heap.size w w' from hs.mono fun e w' h => ⟨h.1, slices_SortFunc_string_string_.up w w' h.2⟩
  go_enter Tryz.func33, Tryz.ntmps33
  go_wp2_with (first
    | (go_at_call_of 60 (Value.string a); refine (H1.out _).mono ?_; rintro e w' ⟨rfl, n1, rfl⟩)
    | (go_at_call_of 60 (Value.string b); refine (H2.out _).mono ?_; rintro e w' ⟨rfl, n2, rfl⟩)
    | (go_at_call_of 59 (Value.int .i64 t1); refine (H3.out _).mono ?_; rintro e w' ⟨rfl, n3, rfl⟩)
    | (go_at_call 59; refine (H4.out _).mono ?_; rintro e w' ⟨rfl, n4, rfl⟩)
    | (go_at_call_of 62 (Value.string a); refine (H5.out _).mono ?_; rintro e w5 ⟨rfl, h5⟩)
    | (go_at_call_of 62 (Value.string b); refine (H6.out _).mono ?_; rintro e w6 ⟨rfl, h6⟩)
    | (go_at_call 61; refine (H7.out _).mono ?_; rintro e w' ⟨rfl, rfl⟩)
    | (go_at_call 58; refine (H8.out _).mono ?_; rintro e w' ⟨rfl, n8, rfl⟩))
  go_ret
  refine ⟨rfl, opp_.Up.drewN ?_ _⟩
  refine opp_.Up.alloc ?_ ?_ _
  · exact ((opp_.Up.drewN (opp_.Up.refl _ w) _).trans h5).trans (h6.mono h5.size)
  · exact Nat.le_trans h5.below.size h6.below.size
def slices_SortFunc_string_string_.v (k : Nat) (x y : ByteArray) : Int := (impl_byTime.f k x y).getD 0
def slices_SortFunc_string_string_.ok (k : Nat) (l : List ByteArray) : Prop := l.length < 4611686018427387904 ∧ (∀ x ∈ l, ∀ y ∈ l, (impl_byTime.f k x y).isSome = true) ∧ (∀ x ∈ l, ¬ slices_SortFunc_string_string_.v k x x < 0) ∧ (∀ x ∈ l, ∀ y ∈ l, ∀ z ∈ l, slices_SortFunc_string_string_.v k x y < 0 → slices_SortFunc_string_string_.v k y z < 0 → slices_SortFunc_string_string_.v k x z < 0) ∧ (∀ x ∈ l, ∀ y ∈ l, ∀ z ∈ l, ¬ slices_SortFunc_string_string_.v k x y < 0 → ¬ slices_SortFunc_string_string_.v k y z < 0 → ¬ slices_SortFunc_string_string_.v k x z < 0) ∧ (∀ x ∈ l, ∀ y ∈ l, ¬ slices_SortFunc_string_string_.v k x y < 0 → ¬ slices_SortFunc_string_string_.v k y x < 0 → x = y)
instance (k : Nat) (l : List ByteArray) : Decidable (slices_SortFunc_string_string_.ok k l) := inferInstanceAs (Decidable (_ ∧ _ ∧ _ ∧ _ ∧ _ ∧ _))
def slices_SortFunc_string_string.f (k : Nat) (l : List ByteArray) : Option (List ByteArray) := if slices_SortFunc_string_string_.ok k l then some (l.mergeSort fun x y => !decide (slices_SortFunc_string_string_.v k y x < 0)) else none
theorem slices_SortFunc_string_string_.up1 (k : Nat) (x y : ByteArray) (h : (impl_byTime.f k x y).isSome = true) : slices_SortFunc_string_string_.v (k + 1) x y = slices_SortFunc_string_string_.v k x y ∧ (impl_byTime.f (k + 1) x y).isSome = true := by
  obtain ⟨d, hd⟩ := Option.isSome_iff_exists.1 h
  have := impl_byTime.mono _ _ k d hd
  unfold slices_SortFunc_string_string_.v
  rw [hd, this]
  exact ⟨rfl, rfl⟩
theorem slices_SortFunc_string_string.mono (l : List ByteArray) (k : Nat) : LeO (slices_SortFunc_string_string.f k l) (slices_SortFunc_string_string.f (k + 1) l) := by
  intro r h
  unfold slices_SortFunc_string_string.f at h ⊢
  by_cases c : slices_SortFunc_string_string_.ok k l
  · rw [if_pos c] at h
    obtain ⟨c1, c2, c3, c4, c5, c6⟩ := c
    have e : ∀ x ∈ l, ∀ y ∈ l, slices_SortFunc_string_string_.v (k + 1) x y = slices_SortFunc_string_string_.v k x y := fun x hx y hy => (slices_SortFunc_string_string_.up1 k x y (c2 x hx y hy)).1
    have c' : slices_SortFunc_string_string_.ok (k + 1) l := by
      refine ⟨c1, fun x hx y hy => (slices_SortFunc_string_string_.up1 k x y (c2 x hx y hy)).2, fun x hx => ?_, fun x hx y hy z hz => ?_, fun x hx y hy z hz => ?_, fun x hx y hy => ?_⟩
      · rw [e x hx x hx]; exact c3 x hx
      · rw [e x hx y hy, e y hy z hz, e x hx z hz]; exact c4 x hx y hy z hz
      · rw [e x hx y hy, e y hy z hz, e x hx z hz]; exact c5 x hx y hy z hz
      · rw [e x hx y hy, e y hy x hx]; exact c6 x hx y hy
    rw [if_pos c', ← h]
    congr 1
    have e4 := List.map_mergeSort (l := l) (f := id) (r := fun x y => !decide (slices_SortFunc_string_string_.v (k + 1) y x < 0)) (s := fun x y => !decide (slices_SortFunc_string_string_.v k y x < 0)) (fun x hx y hy => by simp only [id, e y hy x hx])
    simpa using e4
  · rw [if_neg c] at h
    cases h
theorem slices_SortFunc_string_string_.cells {α : Type} [Inhabited α] (enc : α → Value) (v : α → ByteArray) (h : ∀ x, enc x = .string (v x)) (d : Array α) (w : World) (g : Nat) : Go.Sort.putRow enc w g 0 d = Go.Sort.putRow Value.string w g 0 (d.map v) := by
  have e : Go.Sort.putCells enc 0 d = Go.Sort.putCells Value.string 0 (d.map v) := by
    funext c
    unfold Go.Sort.putCells
    congr 1
    funext i x
    by_cases hi : i < d.size
    · simp [hi, h]
    · simp [hi]
  unfold Go.Sort.putRow
  rw [e]
def slices_SortFunc_string_string_.cf (k : Nat) (l : List ByteArray) (x y : {x : ByteArray // x ∈ l}) : Int := slices_SortFunc_string_string_.v k x.1 y.1
set_option maxHeartbeats 8000000 in
set_option maxRecDepth 100000 in
theorem slices_SortFunc_string_string.calls (k : Nat) (P0_ : Nat → Prop) (u9000_ : Value) (l0 : List ByteArray) (r : List ByteArray) (w0 w : World) (hB : Below w0.heap.size w0 w) (ho0 : Kd.R Kd.string 9 w w0.heap.size P0_ u9000_ l0) (h : slices_SortFunc_string_string.f k l0 = some r) :
    Calls Tryz.prog 32 #[u9000_, .func (.func 33) #[] #[]] w fun e w' => e = .returned (.tuple #[]) ∧ Kd.R Kd.string 9 w' w0.heap.size (fun k_ => (P0_ k_ ∨ w.heap.size ≤ k_)) u9000_ r ∧ Below w0.heap.size w0 w' ∧ Kept w w' (fun k_ => P0_ k_) := by
  unfold slices_SortFunc_string_string.f at h
  by_cases c : slices_SortFunc_string_string_.ok k l0
  · rw [if_pos c] at h
    obtain rfl := Option.some.inj h
    obtain ⟨hl, hsome, c3, c4, c5, c6⟩ := c
    rcases Given.row_open ho0 with ⟨rfl, rfl⟩ | ⟨g, cap, cur, rfl, hok, hg, hlt, hh, hlc, hcm, hcs, hH⟩
    · refine (AnyF.slices_SortFunc_none (P := Tryz.prog) (ρ := Tryz.sortFuncStr_ren) { Tryz.sortFuncStr with } none 0 _ w).mono ?_
      rintro e w' ⟨rfl, hw⟩
      subst hw
      exact ⟨rfl, by rw [List.mergeSort_nil]; exact Kd.R_nil _ _ _ _ _, hB, Kept.refl _ _⟩
    · by_cases h0 : l0 = []
      · subst h0
        refine (AnyF.slices_SortFunc_none (P := Tryz.prog) (ρ := Tryz.sortFuncStr_ren) { Tryz.sortFuncStr with } (some ⟨g, 0, none⟩) cap _ w).mono ?_
        rintro e w' ⟨rfl, hw⟩
        subst hw
        exact ⟨rfl, by rw [List.mergeSort_nil]; exact Kd.R_mono ho0 (fun _ h => .inl h), hB, Kept.refl _ _⟩
      · obtain ⟨x0, hx0⟩ := List.exists_mem_of_ne_nil l0 h0
        letI : Inhabited {x : ByteArray // x ∈ l0} := ⟨⟨x0, hx0⟩⟩
        have hlt2 : ∀ x y : {x : ByteArray // x ∈ l0}, ltOf (slices_SortFunc_string_string_.cf k l0) x y = decide (slices_SortFunc_string_string_.v k x.1 y.1 < 0) := fun x y => rfl
        have hO : Go.Sort.SWO (ltOf (slices_SortFunc_string_string_.cf k l0)) := ⟨fun x => by rw [hlt2]; exact decide_eq_false (c3 x.1 x.2), fun x y z h1 h2 => by
          rw [hlt2, decide_eq_true_eq] at h1 h2 ⊢
          exact c4 x.1 x.2 y.1 y.2 z.1 z.2 h1 h2, fun x y z h1 h2 => by
          rw [hlt2, decide_eq_false_iff_not] at h1 h2 ⊢
          first | exact c5 x.1 x.2 y.1 y.2 z.1 z.2 h1 h2 | exact c5 z.1 z.2 y.1 y.2 x.1 x.2 h2 h1⟩
        have hT : ∀ x y, (ltOf (slices_SortFunc_string_string_.cf k l0)) x y = false → (ltOf (slices_SortFunc_string_string_.cf k l0)) y x = false → x = y := fun x y h1 h2 => by
          rw [hlt2, decide_eq_false_iff_not] at h1 h2
          exact Subtype.ext (c6 x.1 x.2 y.1 y.2 h1 h2)
        have hcmp : CmpLays1 Tryz.prog 33 #[] (fun x : {x : ByteArray // x ∈ l0} => Value.string x.1) (slices_SortFunc_string_string_.cf k l0) g 0 (l0.pmap Subtype.mk (fun x h => h)).toArray.size w := fun m os dk _ x y => by
          refine slices_SortFunc_string_string_.byTime k x.1 y.1 _ _ ?_
          obtain ⟨d, hd⟩ := Option.isSome_iff_exists.1 (hsome x.1 x.2 y.1 y.2)
          rw [hd]
          unfold slices_SortFunc_string_string_.cf slices_SortFunc_string_string_.v
          rw [hd]
          rfl
        have hsz : (l0.pmap Subtype.mk (fun x (h : x ∈ l0) => h)).toArray.size = l0.length := by simp
        have hHd : Go.Sort.Holds (fun x : {x : ByteArray // x ∈ l0} => Value.string x.1) w g 0 (l0.pmap Subtype.mk (fun x h => h)).toArray := fun j hj => by
          have hj' : j < l0.length := by rw [hsz] at hj; exact hj
          have h1 := hH j (by simpa using hj')
          simpa [hj'] using h1
        have eg : ∀ args w, (callFunc 33 args).run Tryz.prog w = .ok (.enter 33 args) w := enters_of Tryz.func33 (by kernel_rfl) rfl
        have hmain := Any.slices_SortFunc_total Tryz.sortFuncStr (fun x : {x : ByteArray // x ∈ l0} => Value.string x.1) (fun _ => rfl) (slices_SortFunc_string_string_.cf k l0) hO 33 #[] g 0 cap (l0.pmap Subtype.mk (fun x h => h)).toArray w eg hcmp hHd hlt (by rw [hsz]; exact hl) hT
        rw [hsz] at hmain
        refine hmain.mono ?_
        rintro e w' ⟨rfl, n, os, rfl⟩
        have hmap : ((l0.pmap Subtype.mk (fun x (h : x ∈ l0) => h)).toArray.toList.mergeSort fun x y => !(ltOf (slices_SortFunc_string_string_.cf k l0)) y x).map (fun x => x.1) = l0.mergeSort fun x y => !decide (slices_SortFunc_string_string_.v k y x < 0) := by
          rw [List.map_mergeSort (s := fun x y => !decide (slices_SortFunc_string_string_.v k y x < 0)) (fun x _ y _ => by rw [hlt2])]
          congr 1
          simp [List.map_pmap]
        have hm : (l0.mergeSort fun x y => !decide (slices_SortFunc_string_string_.v k y x < 0)).length = l0.length := List.length_mergeSort _
        have h := Given.row_put (enc := Value.string) (h1 := fun _ => rfl) (os := os) (n := n) (m := l0.length) (zs := l0.mergeSort fun x y => !decide (slices_SortFunc_string_string_.v k y x < 0)) hB hok hg hh hcm hcs (by omega) (by omega)
        rw [List.take_of_length_le (by omega)] at h
        have hw : sortWorld (fun x : {x : ByteArray // x ∈ l0} => Value.string x.1) w g 0 n ((l0.pmap Subtype.mk (fun x (h : x ∈ l0) => h)).toArray.toList.mergeSort fun x y => !(ltOf (slices_SortFunc_string_string_.cf k l0)) y x).toArray os = Go.Sort.grow (Go.Sort.putRow Value.string (Sort.ahead w n) g 0 (l0.mergeSort fun x y => !decide (slices_SortFunc_string_string_.v k y x < 0)).toArray) os := by
          unfold sortWorld
          rw [slices_SortFunc_string_string_.cells (fun x : {x : ByteArray // x ∈ l0} => Value.string x.1) (fun x => x.1) (fun _ => rfl), List.map_toArray, hmap]
        rw [hw]
        exact ⟨rfl, h.1, h.2.1, h.2.2⟩
  · rw [if_neg c] at h
    cases h

/-! ### impl_in: function 71 -/
def impl_in.f (a0 : Int) (a1 : Int) (a2 : Int) : Option (Bool) := if a0 ≥ a1 then (some (decide (a0 ≤ a2))) else (some false)
set_option maxHeartbeats 8000000 in
set_option maxRecDepth 100000 in
theorem impl_in.calls (a0 : Int) (a1 : Int) (a2 : Int) (r : Bool) (w : World) (h : impl_in.f a0 a1 a2 = some r) :
    Calls Tryz.prog 71 #[.int .i64 a0, .int .i64 a1, .int .i64 a2] w fun e w' => e = .returned (.bool r) ∧ Drawn0 w w' := by
  have H : (if a0 ≥ a1 then (some (decide (a0 ≤ a2))) else (some false)) = some r := h
  clear h
  by_cases c4 : a0 ≥ a1
  · rw [if_pos c4] at H
    have c4b0 : decide (a1 ≤ a0) = true := decide_eq_true c4
    clear c4
    obtain rfl := Option.some.inj H
    go_enter Tryz.func71, Tryz.ntmps71
    go_wp2
    go_ret
    exact ⟨by first | rfl | (simp; done) | (simp [*]; done), by repeat (first | exact Drawn0.refl _ | apply Drawn0.step)⟩
  · rw [if_neg c4] at H
    have c4b0 : decide (a1 ≤ a0) = false := decide_eq_false c4
    clear c4
    obtain rfl := Option.some.inj H
    go_enter Tryz.func71, Tryz.ntmps71
    go_wp2
    go_ret
    exact ⟨by first | rfl | (simp; done) | (simp [*]; done), by repeat (first | exact Drawn0.refl _ | apply Drawn0.step)⟩

/-! ### strings_Trim: function 126 -/
def strings_Trim.f (a0 a1 : ByteArray) : Option ByteArray := if a0.size ≤ 9223372036854775807 then (if a1.data.toList = [46, 45] then some ⟨(Lib.trimS a0.data.toList [46, 45]).toArray⟩ else none) else none
theorem strings_Trim.calls (a0 a1 : ByteArray) (r : ByteArray) (w : World) (h : strings_Trim.f a0 a1 = some r) :
    Calls Tryz.prog 126 #[.string a0, .string a1] w fun e w' => e = .returned (.string r) ∧ Below w.heap.size w w' := by
  unfold strings_Trim.f at h
  by_cases h1 : a0.size ≤ 9223372036854775807
  · rw [if_pos h1] at h
    by_cases h2 : a1.data.toList = [46, 45]
    · rw [if_pos h2] at h
      obtain rfl := Option.some.inj h
      obtain rfl : a1 = ⟨#[46, 45]⟩ := by
        obtain ⟨⟨l⟩⟩ := a1
        simp only at h2
        rw [h2]
      exact Tryz.strings_Trim_laid a0 ⟨#[46, 45]⟩ w h1 (by decide) (ascii_of_all (by decide))
    · rw [if_neg h2] at h
      cases h
  · rw [if_neg h1] at h
    cases h

/-! ### impl_areMarks: function 98 -/
def impl_areMarks.f (a0 : ByteArray) (a1 : Int) (a2 : Int) : Option (Bool) := (impl_in.f (a0.size : Int) a1 a2).bind fun t245 => (if t245 = true then ((strings_Trim.f a0 (⟨#[46, 45]⟩ : ByteArray)).bind fun t246 => (some (t246.toList == ([] : List UInt8)))) else (some false))
set_option maxHeartbeats 8000000 in
set_option maxRecDepth 100000 in
theorem impl_areMarks.calls (a0 : ByteArray) (a1 : Int) (a2 : Int) (r : Bool) (w : World) (h : impl_areMarks.f a0 a1 a2 = some r) :
    Calls Tryz.prog 98 #[.string a0, .int .i64 a1, .int .i64 a2] w fun e w' => e = .returned (.bool r) ∧ Below w.heap.size w w' := by
  have HB := Aside0.mk (Below.refl w.heap.size w)
  have H : ((impl_in.f (a0.size : Int) a1 a2).bind fun t245 => (if t245 = true then ((strings_Trim.f a0 (⟨#[46, 45]⟩ : ByteArray)).bind fun t246 => (some (t246.toList == ([] : List UInt8)))) else (some false))) = some r := h
  clear h
  replace H := Option.bind_eq_some_iff.mp H
  obtain ⟨t245, A40, H⟩ := H
  replace H : (if t245 = true then ((strings_Trim.f a0 (⟨#[46, 45]⟩ : ByteArray)).bind fun t246 => (some (t246.toList == ([] : List UInt8)))) else (some false)) = some r := H
  have A4 := Aside0.mk A40
  clear A40
  by_cases c5 : t245 = true
  · subst c5
    have H1 : ((strings_Trim.f a0 (⟨#[46, 45]⟩ : ByteArray)).bind fun t246 => (some (t246.toList == ([] : List UInt8)))) = some r := by rw [if_pos rfl] at H; first | exact H | (simp only [if_true, eq_self] at H ⊢; exact H)
    clear H
    have H := H1
    clear H1
    replace H := Option.bind_eq_some_iff.mp H
    obtain ⟨t246, A60, H⟩ := H
    replace H : (some (t246.toList == ([] : List UInt8))) = some r := H
    have A6 := Aside0.mk A60
    clear A60
    obtain rfl := Option.some.inj H
    go_enter Tryz.func98, Tryz.ntmps98
    go_wp2_with (first | ((with_reducible refine gate_callee (f := 71) rfl ?_); refine goesL_ (some 11) rfl rfl Tryz.func71 (by kernel_rfl) rfl #[.int .i64 (a0.size : Int), .int .i64 a1, .int .i64 a2] rfl (by (try simp only [List.map_toArray, List.map_cons, List.map_nil]); first | done | rfl | (simp only [List.length_drop, List.length_take]; rfl)) ?_; (with_reducible refine (impl_in.calls (a0.size : Int) a1 a2 true _ A4.out).mono ?_); rintro e w' ⟨rfl, ⟨nd, rfl⟩⟩; refine ⟨_, rfl, ?_⟩) | (go_at_call 126; (with_reducible refine (strings_Trim.calls a0 (⟨#[46, 45]⟩ : ByteArray) t246 _ A6.out).mono ?_); rintro e w7 ⟨rfl, hb⟩; have n0_ := Aside0.mk (below_step (by repeat (first | (with_reducible first | exact HB.out | apply below_alloc | apply pw_below_drewN | apply below_drew1) | exact HB.out)) hb); clear HB; have HB := n0_; clear n0_; (try clear hb); (try clear hb2); (try clear hk); (try clear hi)))
    go_ret
    exact ⟨by first | rfl | (simp [errW_none, errW_some] <;> rfl) | (simp [*, errW_none, errW_some] <;> rfl), by repeat (first | (with_reducible first | exact HB.out | apply below_alloc | apply pw_below_drewN | apply below_drew1) | exact HB.out)⟩
  · replace c5 := Bool.eq_false_iff.mpr c5
    subst c5
    have H1 : (some false) = some r := by rw [if_neg (show ¬ (false = true) by decide)] at H; first | exact H | (simp only [if_true, eq_self] at H ⊢; exact H)
    clear H
    have H := H1
    clear H1
    obtain rfl := Option.some.inj H
    go_enter Tryz.func98, Tryz.ntmps98
    go_wp2_with (first | ((with_reducible refine gate_callee (f := 71) rfl ?_); refine goesL_ (some 11) rfl rfl Tryz.func71 (by kernel_rfl) rfl #[.int .i64 (a0.size : Int), .int .i64 a1, .int .i64 a2] rfl (by (try simp only [List.map_toArray, List.map_cons, List.map_nil]); first | done | rfl | (simp only [List.length_drop, List.length_take]; rfl)) ?_; (with_reducible refine (impl_in.calls (a0.size : Int) a1 a2 false _ A4.out).mono ?_); rintro e w' ⟨rfl, ⟨nd, rfl⟩⟩; refine ⟨_, rfl, ?_⟩))
    go_ret
    exact ⟨by first | rfl | (simp [errW_none, errW_some] <;> rfl) | (simp [*, errW_none, errW_some] <;> rfl), by repeat (first | (with_reducible first | exact HB.out | apply below_alloc | apply pw_below_drewN | apply below_drew1) | exact HB.out)⟩

/-! ### impl_isLetterMarks: function 69 -/
def impl_isLetterMarks.f (a0 : ByteArray) : Option (Bool) := (impl_areMarks.f a0 1 5).bind fun t247 => (some t247)
set_option maxHeartbeats 8000000 in
set_option maxRecDepth 100000 in
theorem impl_isLetterMarks.calls (a0 : ByteArray) (r : Bool) (w : World) (h : impl_isLetterMarks.f a0 = some r) :
    Calls Tryz.prog 69 #[.string a0] w fun e w' => e = .returned (.bool r) ∧ Below w.heap.size w w' := by
  have HB := Aside0.mk (Below.refl w.heap.size w)
  have H : ((impl_areMarks.f a0 1 5).bind fun t247 => (some t247)) = some r := h
  clear h
  replace H := Option.bind_eq_some_iff.mp H
  obtain ⟨t247, A20, H⟩ := H
  replace H : (some t247) = some r := H
  have A2 := Aside0.mk A20
  clear A20
  obtain rfl := Option.some.inj H
  go_enter Tryz.func69, Tryz.ntmps69
  go_wp2_with (first | ((with_reducible refine gate_callee (f := 98) rfl ?_); refine goesL_ (some 4) rfl rfl Tryz.func98 (by kernel_rfl) rfl #[.string a0, .int .i64 1, .int .i64 5] rfl (by (try simp only [List.map_toArray, List.map_cons, List.map_nil]); first | done | rfl | (simp only [List.length_drop, List.length_take]; rfl)) ?_; (with_reducible refine (impl_areMarks.calls a0 1 5 t247 _ A2.out).mono ?_); rintro e w3 ⟨rfl, hb⟩; refine ⟨_, rfl, ?_⟩; have n0_ := Aside0.mk (below_step (by repeat (first | (with_reducible first | exact HB.out | apply below_alloc | apply pw_below_drewN | apply below_drew1) | exact HB.out)) hb); clear HB; have HB := n0_; clear n0_; (try clear hb); (try clear hb2); (try clear hk); (try clear hi)))
  go_ret
  exact ⟨by first | rfl | (simp [errW_none, errW_some] <;> rfl) | (simp [*, errW_none, errW_some] <;> rfl), by repeat (first | (with_reducible first | exact HB.out | apply below_alloc | apply pw_below_drewN | apply below_drew1) | exact HB.out)⟩

end Go.Proofs.YtgaadjlcmgmfaaaGreatDoor.PFnExactBestFrom
