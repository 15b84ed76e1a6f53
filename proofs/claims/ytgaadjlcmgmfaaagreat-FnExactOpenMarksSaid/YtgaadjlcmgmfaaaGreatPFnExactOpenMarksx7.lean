-- Written by a program of this session (the kit's print with this session's additions, wip/tools): Lean checks it.
import Derived.Test.YtgaadjlcmgmfaaaGreatPFnExactOpenMarksx0
import Derived.Test.YtgaadjlcmgmfaaaGreatPFnExactOpenMarksx5
import Derived.Test.YtgaadjlcmgmfaaaGreatPFnExactOpenMarksx6
namespace Go.Proofs.YtgaadjlcmgmfaaaGreat.PFnExactOpenMarks
open Go.RowKit Go.Proofs.YtgaadjlcmgmfaaaGreatW.PrintWords Go.Proofs.YtgaadjlcmgmfaaaGreatW.PrintLast Go.Proofs.YtgaadjlcmgmfaaaGreatW.PrintMore
attribute [local go_sem] max2_int min2_int max_two min_two max_three min_three max_four min_four   -- for this text's walks alone
set_option linter.unusedVariables false
set_option linter.unusedSimpArgs false

/-! ### impl_OpenMarks: function 15 -/
/-- What append gives over a row of one's own: the new row; the old one still lies there. -/
theorem opn_.run_app {P : Program} (w : World) (base : Nat) (t ty e : TypeId) (i : TypeInfo) (z : Value) (ht : P.underlying t = some (.slice e)) (hi : P.info? e = some i) (hz : i.zero = some z) (hsize : i.size = 1) (hby : i.bytes = 16) (hzs : z.cells.size = 1)
    (v : Value) (n : Nat) (xs : List Value) (hown : w.ownsRow base e 1 v n xs) (a : Addr) (c : Nat) (u : Value) (hu : w.cell? a = some u) (h1 : u.oneCell' = true) (hn : n ≤ 1000) (hbase : base ≤ w.heap.size) :
    ∃ v' w', (Builtin.append_ #[t, t] ty #[v, .slice (some a) 1 c]).run P w = .ok v' w' ∧ w'.ownsRow base e 1 v' (n + 1) (xs ++ [u]) ∧ w'.ownsRow base e 1 v n xs ∧ w.grownBy w' v.ownBlock ∧
      ((∃ g cap, v = .slice (some ⟨g, 0, none⟩) n cap ∧ v' = .slice (some ⟨g, 0, none⟩) (n + 1) cap) ∨ ∃ b cap, v' = .slice (some ⟨b, 0, none⟩) (n + 1) cap ∧ w.heap.size ≤ b) := by
  have hnews : ∀ j x, [u][j]? = some x → w.cell? (a.add j) = some x := fun j x hx => by
    cases j with
    | zero =>
      obtain rfl : u = x := by simpa using hx
      exact hu
    | succ j => simp at hx
  have hl : ([u] : List Value).length = 1 * i.size := by rw [hsize]; rfl
  have hlo : xs.length = n * i.size := by rw [hsize]; exact hown.1
  have fresh : ∀ old, old < n + 1 → ∀ r, (w.drew.alloc (.cells (xs.toArray ++ [u].toArray ++ Builtin.zeroCells z.cells (grownCap w (n + 1) old e - (n + 1))) e)).ownsRow base e 1 (.slice (some ⟨w.heap.size, 0, none⟩) (n + 1) (grownCap w (n + 1) old e)) (n + 1) (xs ++ [u]) ∧ w.grownBy (w.drew.alloc (.cells (xs.toArray ++ [u].toArray ++ Builtin.zeroCells z.cells (grownCap w (n + 1) old e - (n + 1))) e)) r := fun old ho r => by
    have hge := grownCap_ge w (n + 1) old e
    have hx := hown.1
    refine ⟨⟨by rw [List.length_append, hx]; simp, .inr ⟨w.heap.size, _, _, rfl, hbase, heap_alloc_new w.drew _, hge, grownCap_le_maxLen w (n + 1) old e (by simp only [maxLen]; omega), ?_, ?_⟩⟩, ⟨rfl, rfl, rfl, by simp, fun k hk _ => heap_alloc_old w.drew _ hk⟩⟩
    · simp only [Array.size_append, List.size_toArray, size_zeroCells, hzs, hx, List.length_singleton]
      omega
    · simp only [Array.toList_append, List.append_assoc]
      rw [← List.append_assoc]
      have e1 : (xs ++ [u]).length = (n + 1) * 1 := by rw [List.length_append, hx]; simp
      rw [← e1]
      exact List.take_left
  rcases hown.2 with ⟨rfl, rfl⟩ | ⟨g, cap, cur, rfl, hbg, hg, hnc, hcm, hcs, htake⟩
  · obtain rfl : xs = [] := List.eq_nil_of_length_eq_zero (by simpa using hown.1)
    have hr := run_append_nil (P := P) w t ty e i z ht hi hz a 1 c [u] hl hnews (by omega) (by omega) (by rw [hby]; omega)
    have hf := fresh 0 (by omega) none
    simp only [Nat.zero_add, List.nil_append, Array.empty_append] at hf ⊢
    exact ⟨_, _, hr, hf.1, World.ownsRow_nil _ _ _ _, ⟨hf.2.os, hf.2.tape, hf.2.output, hf.2.size, fun k hk _ => hf.2.block k hk (by simp)⟩, .inr ⟨_, _, rfl, Nat.le_refl _⟩⟩
  · by_cases hroom : n + 1 ≤ cap
    · have hr := run_append_room (P := P) w t ty e i ht hi g n cap cur hg a 1 c [u] hl hnews (fun x hx => by rw [List.mem_singleton.1 hx]; exact h1) hroom (by rw [hsize, hcs]; simp; omega)
      rw [hsize, Nat.mul_one] at hr
      rw [Nat.mul_one] at htake
      have hs := setRow_heap w g cur (cur.toList.take n ++ [u] ++ cur.toList.drop (n + [u].length)).toArray e (0, 0) hg
      have hx := hown.1
      have hsz : (cur.toList.take n ++ [u] ++ cur.toList.drop (n + [u].length)).toArray.size = cap * 1 := by
        simp only [List.size_toArray, List.length_append, List.length_take, List.length_drop, Array.length_toList, List.length_singleton]
        omega
      refine ⟨_, _, hr, ⟨by rw [List.length_append, hx]; simp, .inr ⟨g, cap, _, rfl, hbg, hs, hroom, hcm, hsz, ?_⟩⟩, ⟨hx, .inr ⟨g, cap, _, rfl, hbg, hs, hnc, hcm, hsz, ?_⟩⟩, ⟨rfl, rfl, rfl, by simp, fun k _ hk => setRow_other w g k _ (fun e => hk (by simp [Value.ownBlock, e]))⟩, .inl ⟨g, cap, rfl, rfl⟩⟩
      · rw [htake]
        have e1 : (xs ++ [u]).length = (n + 1) * 1 := by rw [List.length_append, hx]; simp
        show ((xs ++ [u]) ++ _).take ((n + 1) * 1) = _
        rw [← e1]
        exact List.take_left
      · rw [htake, Nat.mul_one]
        have e1 : xs.length = n := by rw [hx, Nat.mul_one]
        show ((xs ++ [u]) ++ _).take n = _
        rw [List.append_assoc, ← e1]
        exact List.take_left
    · have hr := run_append_grow (P := P) w t ty e i z ht hi hz ⟨g, 0, none⟩ n cap xs hlo (hown.cells (g := g) rfl) a 1 c [u] hl hnews (by omega) (by omega) (growslice_fits (by omega) (by rw [hby]; omega))
      have hf := fresh cap (by omega) none
      exact ⟨_, _, hr, hf.1, hown.kept hf.2 (by simp [Value.ownBlock]), ⟨hf.2.os, hf.2.tape, hf.2.output, hf.2.size, fun k hk _ => hf.2.block k hk (by simp)⟩, .inr ⟨_, _, rfl, Nat.le_refl _⟩⟩
/-- What the search holds: the texts below, its own variable, the list, the best list. -/
structure opn_.Inv (wT : World) (ob TY : Nat) (tv : Value) (n : Nat) (w : World) (v : Value) (l : List ByteArray) (bv : Value) (st : Option (List ByteArray) × Int) : Prop where
  tb : Below wT.heap.size wT w
  ge : wT.heap.size ≤ ob
  obj : w.heap[ob]? = some (.cells #[tv, .int .i64 (n : Int), bv, .int .i64 st.2] TY (0, 0))
  row : w.ownsRow (ob + 1) 9 1 v l.length (l.map Value.string)
  best : (st.1 = none ∧ bv = .slice none 0 0) ∨ ∃ b g len cap, st.1 = some b ∧ bv = .slice (some g) len cap ∧ w.ownsRow (ob + 1) 9 1 bv b.length (b.map Value.string)
  apart : ∀ k, bv.ownBlock = some k → v.ownBlock ≠ some k
/-- What a look leaves alone. -/
structure opn_.Fr (ob : Nat) (v : Value) (w w' : World) (bv bv' : Value) : Prop where
  size : w.heap.size ≤ w'.heap.size
  keep : ∀ k, k < w.heap.size → k ≠ ob → v.ownBlock ≠ some k → w'.heap[k]? = w.heap[k]?
  new : ∀ k, bv'.ownBlock = some k → bv.ownBlock = some k ∨ w.heap.size ≤ k
theorem opn_.Fr.refl (ob : Nat) (v : Value) (w : World) (bv : Value) : opn_.Fr ob v w w bv bv := ⟨Nat.le_refl _, fun _ _ _ _ => rfl, fun _ h => .inl h⟩
theorem opn_.Fr.trans {ob : Nat} {v : Value} {a b c : World} {x y z : Value} (h : opn_.Fr ob v a b x y) (k : opn_.Fr ob v b c y z) : opn_.Fr ob v a c x z :=
  ⟨Nat.le_trans h.size k.size, fun i hi ho hv => (k.keep i (Nat.lt_of_lt_of_le hi h.size) ho hv).trans (h.keep i hi ho hv), fun i hi => by
    rcases k.new i hi with h1 | h1
    · exact h.new i h1
    · exact .inr (Nat.le_trans h.size h1)⟩
theorem opn_.own_below {w w' : World} {base : Nat} {v : Value} {n : Nat} {xs : List Value} (h : w.ownsRow base 9 1 v n xs) (hB : Below w.heap.size w w') : w'.ownsRow base 9 1 v n xs :=
  h.kept (row := none) ⟨hB.os, hB.tape, hB.output, hB.size, fun k hk _ => hB.block k hk⟩ (by cases hv : v.ownBlock <;> simp)
theorem opn_.Inv.below {wT : World} {ob TY : Nat} {tv : Value} {n : Nat} {w w' : World} {v : Value} {l : List ByteArray} {bv : Value} {st : Option (List ByteArray) × Int} (h : opn_.Inv wT ob TY tv n w v l bv st) (hB : Below w.heap.size w w') : opn_.Inv wT ob TY tv n w' v l bv st := by
  have hlt := (Array.getElem?_eq_some_iff.1 h.obj).1
  refine ⟨h.tb.trans (hB.mono h.tb.size), h.ge, (hB.block ob hlt).trans h.obj, opn_.own_below h.row hB, ?_, h.apart⟩
  rcases h.best with hb | ⟨b, g, len, cap, e1, e2, ho⟩
  · exact .inl hb
  · exact .inr ⟨b, g, len, cap, e1, e2, opn_.own_below ho hB⟩
theorem opn_.Fr.below {ob : Nat} {v : Value} {a b c : World} {x y : Value} (h : opn_.Fr ob v a b x y) (hB : Below b.heap.size b c) : opn_.Fr ob v a c x y :=
  h.trans ⟨hB.size, fun k hk _ _ => hB.block k hk, fun _ hk => .inl hk⟩
/-- The list one text longer. -/
theorem opn_.Inv.child {wT : World} {ob TY : Nat} {tv : Value} {n : Nat} {W w4 : World} {v v1 : Value} {l : List ByteArray} {m : ByteArray} {bv : Value} {st : Option (List ByteArray) × Int} (h : opn_.Inv wT ob TY tv n W v l bv st) (hg : W.grownBy w4 v.ownBlock)
    (hn : w4.ownsRow (ob + 1) 9 1 v1 (l.length + 1) (l.map Value.string ++ [.string m]))
    (ha : (∃ g cap, v = .slice (some ⟨g, 0, none⟩) l.length cap ∧ v1 = .slice (some ⟨g, 0, none⟩) (l.length + 1) cap) ∨ ∃ b cap, v1 = .slice (some ⟨b, 0, none⟩) (l.length + 1) cap ∧ W.heap.size ≤ b) : opn_.Inv wT ob TY tv n w4 v1 (l ++ [m]) bv st := by
  have hlt := (Array.getElem?_eq_some_iff.1 h.obj).1
  have hvb : ∀ k, v.ownBlock = some k → ob + 1 ≤ k := fun k hk => (h.row.lt k hk).1
  refine ⟨⟨hg.os.trans h.tb.os, hg.tape.trans h.tb.tape, hg.output.trans h.tb.output, Nat.le_trans h.tb.size hg.size, fun k hk => (hg.block k (Nat.lt_of_lt_of_le hk h.tb.size) (fun e => ?_)).trans (h.tb.block k hk)⟩, h.ge, (hg.block ob hlt (fun e => ?_)).trans h.obj, by rw [List.length_append, List.length_singleton, List.map_append]; exact hn, ?_, fun k hk => ?_⟩
  · have := hvb k e.symm; have := h.ge; omega
  · have := hvb ob e.symm; omega
  · rcases h.best with hb | ⟨b, g, len, cap, e1, e2, ho⟩
    · exact .inl hb
    · refine .inr ⟨b, g, len, cap, e1, e2, ho.kept hg ?_⟩
      cases hbv : bv.ownBlock with
      | none => exact .inl rfl
      | some k => exact .inr (fun e => h.apart k hbv e.symm)
  · rcases ha with ⟨g, cap, e1, e2⟩ | ⟨b, cap, e1, hb⟩
    · have := h.apart k hk
      rw [e1] at this
      rw [e2]
      exact this
    · rw [e1]
      intro e
      have e : b = k := by simpa [Value.ownBlock] using e
      rcases h.best with hbb | ⟨b', g, len, cap, _, _, ho⟩
      · rw [hbb.2] at hk; simp [Value.ownBlock] at hk
      · have := (ho.lt k hk).2; omega
/-- Back from the look over the longer list. -/
theorem opn_.Inv.back {wT : World} {ob TY : Nat} {tv : Value} {n : Nat} {W w4 w5 : World} {v v1 : Value} {l : List ByteArray} {m : ByteArray} {bv bv5 : Value} {st st5 : Option (List ByteArray) × Int} (h : opn_.Inv wT ob TY tv n W v l bv st) (hg : W.grownBy w4 v.ownBlock)
    (ho : w4.ownsRow (ob + 1) 9 1 v l.length (l.map Value.string)) (ha : (∃ g cap, v = .slice (some ⟨g, 0, none⟩) l.length cap ∧ v1 = .slice (some ⟨g, 0, none⟩) (l.length + 1) cap) ∨ ∃ b cap, v1 = .slice (some ⟨b, 0, none⟩) (l.length + 1) cap ∧ W.heap.size ≤ b)
    (k : opn_.Inv wT ob TY tv n w5 v1 (l ++ [m]) bv5 st5) (f : opn_.Fr ob v1 w4 w5 bv bv5) : opn_.Inv wT ob TY tv n w5 v l bv5 st5 ∧ opn_.Fr ob v W w5 bv bv5 := by
  have hvb : ∀ k, v.ownBlock = some k → ob + 1 ≤ k ∧ k < W.heap.size := fun k hk => h.row.lt k hk
  refine ⟨⟨k.tb, k.ge, k.obj, ?_, k.best, fun i hi hv => ?_⟩, ⟨Nat.le_trans hg.size f.size, fun i hi hio hiv => ?_, fun i hi => ?_⟩⟩
  · rcases ha with ⟨g, cap, e1, e2⟩ | ⟨b, cap, e1, hb⟩
    · subst e1
      rcases k.row.2 with ⟨e, _⟩ | ⟨g', cap', cur, e, hbg, hgg, hnc, hcm, hcs, ht⟩
      · rw [e2] at e; cases e
      · rw [e2] at e
        injection e with h1 h2 h3
        injection h1 with h1
        injection h1 with h1
        subst h1 h3
        rw [List.length_append, List.length_singleton] at hnc ht
        refine ⟨by simp, .inr ⟨g, cap, cur, rfl, hbg, hgg, by omega, hcm, hcs, ?_⟩⟩
        have e3 : cur.toList.take (l.length * 1) = (cur.toList.take ((l.length + 1) * 1)).take (l.length * 1) := by rw [List.take_take]; congr 1; omega
        rw [e3, ht, List.map_append, Nat.mul_one]
        exact List.take_left' (by simp)
    · refine ⟨ho.1, ?_⟩
      rcases ho.2 with hn | ⟨g, cap', cur, e, hbg, hgg, rest⟩
      · exact .inl hn
      · refine .inr ⟨g, cap', cur, e, hbg, ?_, rest⟩
        have hv : v.ownBlock = some g := by rw [e]; rfl
        have := hvb g hv
        exact (f.keep g (Array.getElem?_eq_some_iff.1 hgg).1 (by omega) (by rw [e1]; intro q; have : b = g := by simpa [Value.ownBlock] using q
                                                                            omega)).trans hgg
  · rcases f.new i hi with h1 | h1
    · exact h.apart i h1 hv
    · have := (hvb i hv).2; have := hg.size; omega
  · have e1 := hg.block i hi (fun e => hiv e.symm)
    refine (f.keep i (Nat.lt_of_lt_of_le hi hg.size) hio (fun q => ?_)).trans e1
    rcases ha with ⟨g, cap, e1, e2⟩ | ⟨b, cap, e1, hb⟩
    · rw [e2] at q
      exact hiv (by rw [e1]; exact q)
    · rw [e1] at q
      have : b = i := by simpa [Value.ownBlock] using q
      omega
  · rcases f.new i hi with h1 | h1
    · exact .inl h1
    · exact .inr (Nat.le_trans hg.size h1)
theorem opn_.own_set {w : World} {base ob : Nat} {v : Value} {n : Nat} {xs : List Value} (h : w.ownsRow base 9 1 v n xs) (hb : ob < base) (i : Nat) (u : Value) : (w.setCell ⟨ob, i, none⟩ u).ownsRow base 9 1 v n xs :=
  h.kept (row := some ob) ⟨rfl, rfl, rfl, by simp, fun k _ hk => Below.heap_setCell w ⟨ob, i, none⟩ u k (fun e => hk (by rw [e]))⟩ (.inr (fun e => by have := (h.lt ob e).1; omega))
theorem opn_.own_base {w : World} {a b : Nat} {v : Value} {n : Nat} {xs : List Value} (h : w.ownsRow b 9 1 v n xs) (hb : a ≤ b) : w.ownsRow a 9 1 v n xs := by
  refine ⟨h.1, ?_⟩
  rcases h.2 with hn | ⟨g, cap, cur, e, hbg, rest⟩
  · exact .inl hn
  · exact .inr ⟨g, cap, cur, e, by omega, rest⟩
/-- The list is whole: it becomes the best one. -/
theorem opn_.Inv.best_ {wT : World} {ob TY : Nat} {tv : Value} {n : Nat} {w w1 : World} {v v1 : Value} {l : List ByteArray} {bv : Value} {st : Option (List ByteArray) × Int} (s : Int) (h : opn_.Inv wT ob TY tv n w v l bv st) (h1 : 1 ≤ l.length) (hB : Below w.heap.size w w1) (hv : Kd.R Kd.string 9 w1 w.heap.size (fun _ => True) v1 l) :
    opn_.Inv wT ob TY tv n ((w1.setCell ⟨ob, 2, none⟩ v1).setCell ⟨ob, 3, none⟩ (.int .i64 s)) v l v1 (some l, s) ∧ opn_.Fr ob v w ((w1.setCell ⟨ob, 2, none⟩ v1).setCell ⟨ob, 3, none⟩ (.int .i64 s)) bv v1 := by
  have hob := (Array.getElem?_eq_some_iff.1 h.obj).1
  have k := h.below hB
  have ho := Kd.own_of_R hv
  obtain ⟨g, cap, e, _, _, _⟩ := Kd.R_form hv (by omega)
  have hgb := ho.lt g (by rw [e]; rfl)
  have h2 := blk_set (blk_set k.obj 2 v1) 3 (.int .i64 s)
  have far : ∀ i, i ≠ ob → ((w1.setCell ⟨ob, 2, none⟩ v1).setCell ⟨ob, 3, none⟩ (.int .i64 s)).heap[i]? = w1.heap[i]? := fun i hi => (Below.heap_setCell _ ⟨ob, 3, none⟩ _ i hi).trans (Below.heap_setCell _ ⟨ob, 2, none⟩ _ i hi)
  have hge := h.ge
  refine ⟨⟨⟨k.tb.os, k.tb.tape, k.tb.output, by simp; exact k.tb.size, fun i hi => (far i (by omega)).trans (k.tb.block i hi)⟩, h.ge, h2, opn_.own_set (opn_.own_set k.row (by omega) _ _) (by omega) _ _, .inr ⟨l, _, _, _, rfl, e, opn_.own_set (opn_.own_set (opn_.own_base ho (by omega)) (by omega) _ _) (by omega) _ _⟩, fun i hi hv' => ?_⟩, ⟨by simp; exact hB.size, fun i hi hio _ => (far i hio).trans (hB.block i hi), fun i hi => .inr ?_⟩⟩
  · have a1 := (h.row.lt i hv').2
    rw [e] at hi
    have : g = i := by simpa [Value.ownBlock] using hi
    omega
  · rw [e] at hi
    have : g = i := by simpa [Value.ownBlock] using hi
    omega
set_option maxHeartbeats 8000000 in
set_option maxRecDepth 100000 in
theorem opn_.index (g : Nat) (lb : Array Value) (p : ByteArray → Bool) (w : World) (eg : ∀ args w, (callFunc g args).run Tryz.prog w = .ok (.enter g args) w) (l : List ByteArray)
    (hg : ∀ (x : ByteArray), x ∈ l → ∀ (W : World), Below w.heap.size w W → Calls Tryz.prog g (#[.string x] ++ lb) W fun e W' => e = .returned (.bool (p x)) ∧ Below W.heap.size W W')
    (A : Option Addr) (c : Nat) (hr : Kd.C Kd.string w A l.length l) (hc : l.length ≤ c) (hl : l.length ≤ 9223372036854775807) :
    Calls Tryz.prog 63 #[.slice A l.length c, .func (.func g) #[] lb] w fun e w' => (∃ i : Int, e = .returned (.int .i64 i) ∧ decide (0 ≤ i) = l.any p) ∧ Below w.heap.size w w' := by
  have HR := Aside0.mk hr
  have HC := Aside0.mk hc
  clear hr hc
  have HG := Aside0.mk hg
  clear hg
  have HD := Aside0.mk (Below.refl w.heap.size w)
  have hu3 := Tryz.underlying3
  have hu9 := Tryz.underlying9
  go_enter Tryz.func63, Tryz.ntmps63
  go_wp2
  go_loopg [8] l.length (fun kq v8 w' => ∃ x : Int, v8 = .int .i64 x ∧ Aside0 (0 ≤ x ∧ x + (kq : Int) = (l.length : Int)) ∧ Aside0 (∀ j (h : j < l.length), (j : Int) < x → p l[j] = false) ∧ Aside0 (Below w.heap.size w w'))
  case atStart => exact ⟨0, by rfl, ⟨by omega⟩, ⟨fun j _ h => by omega⟩, HD⟩
  case round =>
    clear HD
    obtain ⟨x, rfl, HI, HP, HD⟩ := hrel
    by_cases ci : x < (l.length : Int)
    · have hlt : x.toNat < l.length := by have := HI.out; omega
      obtain ⟨ad, ead, hx⟩ := Kd.at_string HR.out x HI.out.1 ci
      cases ead
      replace hx := (HD.out.cell (World.block_lt_of_cell? w _ hx)).trans hx
      have hrd : rdOf ByteArray.empty l x = l[x.toNat] := by
        unfold rdOf
        rw [List.getD_eq_getElem?_getD, List.getElem?_eq_getElem hlt]
        rfl
      have HM : Aside0 (rdOf ByteArray.empty l x ∈ l) := ⟨by rw [hrd]; exact List.getElem_mem hlt⟩
      have c1 := eq_true HI.out.1
      have c2 := eq_true ci
      cases hp : p l[x.toNat] with
      | true =>
        have hpr : p (rdOf ByteArray.empty l x) = true := by rw [hrd]; exact hp
        have HPR := Aside0.mk hpr
        have HAN : Aside0 (decide (0 ≤ x) = l.any p) := ⟨by rw [decide_eq_true HI.out.1, eq_comm, List.any_eq_true]; exact ⟨_, List.getElem_mem hlt, hp⟩⟩
        clear hpr hp hrd hlt ci HP
        go_wp2_with (go_at_fn g; refine (HG.out (rdOf ByteArray.empty l x) HM.out _ (by repeat (first | (with_reducible first | exact HD.out | apply below_alloc | apply pw_below_drewN | apply below_drew1) | exact HD.out))).mono ?_; rintro e w' ⟨rfl, hd⟩; rw [HPR.out]; have n1_ := Aside0.mk (below_step (by repeat (first | (with_reducible first | exact HD.out | apply below_alloc | apply pw_below_drewN | apply below_drew1) | exact HD.out)) hd); clear HD hd; have HD := n1_; clear n1_)
        go_ret
        exact ⟨⟨x, rfl, HAN.out⟩, HD.out⟩
      | false =>
        have hpr : p (rdOf ByteArray.empty l x) = false := by rw [hrd]; exact hp
        have HPR := Aside0.mk hpr
        have HPN : Aside0 (∀ j (h : j < l.length), (j : Int) < x + 1 → p l[j] = false) := ⟨fun j h hj => by
          by_cases e : (j : Int) = x
          · have : j = x.toNat := by omega
            subst this
            exact hp
          · exact HP.out j h (by omega)⟩
        clear hpr hp hrd hlt ci HP
        go_wp2_with (go_at_fn g; refine (HG.out (rdOf ByteArray.empty l x) HM.out _ (by repeat (first | (with_reducible first | exact HD.out | apply below_alloc | apply pw_below_drewN | apply below_drew1) | exact HD.out))).mono ?_; rintro e w' ⟨rfl, hd⟩; rw [HPR.out]; have n1_ := Aside0.mk (below_step (by repeat (first | (with_reducible first | exact HD.out | apply below_alloc | apply pw_below_drewN | apply below_drew1) | exact HD.out)) hd); clear HD hd; have HD := n1_; clear n1_)
        go_roundg (gk - 1)
        case measure => have := HI.out; have := of_eq_true c2; omega
        case rel => exact ⟨x + 1, by congr 1; unfold wrap64; have := HI.out; have := of_eq_true c2; omega, ⟨by have := HI.out; have := of_eq_true c2; omega⟩, HPN, ⟨(by repeat (first | (with_reducible first | exact HD.out | apply below_alloc | apply pw_below_drewN | apply below_drew1) | exact HD.out))⟩⟩
    · have c2 := eq_false ci
      have HAN : Aside0 (false = l.any p) := ⟨by
        rw [eq_comm, List.any_eq_false]
        intro y hy
        obtain ⟨j, hj, rfl⟩ := List.getElem_of_mem hy
        rw [HP.out j hj (by omega)]
        decide⟩
      clear HP ci
      go_wp2
      go_ret
      exact ⟨⟨-1, rfl, HAN.out⟩, HD.out⟩
set_option maxHeartbeats 8000000 in
set_option maxRecDepth 100000 in
theorem opn_.contains (g : Nat) (lb : Array Value) (p : ByteArray → Bool) (w : World) (eg : ∀ args w, (callFunc g args).run Tryz.prog w = .ok (.enter g args) w) (l : List ByteArray)
    (hg : ∀ (x : ByteArray), x ∈ l → ∀ (W : World), Below w.heap.size w W → Calls Tryz.prog g (#[.string x] ++ lb) W fun e W' => e = .returned (.bool (p x)) ∧ Below W.heap.size W W')
    (A : Option Addr) (c : Nat) (hr : Kd.C Kd.string w A l.length l) (hc : l.length ≤ c) (hl : l.length ≤ 9223372036854775807) :
    Calls Tryz.prog 46 #[.slice A l.length c, .func (.func g) #[] lb] w fun e w' => e = .returned (.bool (l.any p)) ∧ Below w.heap.size w w' := by
  have e6 : ∀ args w, (callFunc 63 args).run Tryz.prog w = .ok (.enter 63 args) w := enters_of Tryz.func63 (by kernel_rfl) rfl
  have hcon := opn_.index g lb p w eg l hg A c hr hc hl
  clear hr hc hg
  go_enter Tryz.func46, Tryz.ntmps46
  go_wp2_with (go_at_fn 63; refine hcon.mono ?_; rintro e w' ⟨⟨i, rfl, hi⟩, hd⟩; have HI := Aside0.mk hi; have HD := Aside0.mk hd; clear hi hd)
  go_ret
  refine ⟨?_, HD.out⟩
  rw [← HI.out]
  rfl
theorem opn_.hp (s p : ByteArray) (w : World) : Calls Tryz.prog 48 #[.string s, .string p] w fun e w' => e = .returned (.bool (Lib.hasPrefix s.data.toList p.data.toList)) ∧ w' = w := Any.strings_HasPrefix Tryz.lays99 s p w
def opn_.pre (m x : ByteArray) : Bool := Lib.hasPrefix x.data.toList m.data.toList || Lib.hasPrefix m.data.toList x.data.toList
set_option maxHeartbeats 8000000 in
set_option maxRecDepth 100000 in
theorem opn_.closure (m : ByteArray) (gb : Nat) (w : World) (hgb : gb < w.heap.size) (hcell : w.cell? ⟨gb, 0, none⟩ = some (.string m)) (x : ByteArray) (W : World) (hW : Below w.heap.size w W) :
    Calls Tryz.prog 47 #[.string x, .pointer (some ⟨gb, 0, none⟩)] W fun e W' => e = .returned (.bool (opn_.pre m x)) ∧ Below W.heap.size W W' := by
  have hc : W.cell? ⟨gb, 0, none⟩ = some (.string m) := (hW.cell (p := ⟨gb, 0, none⟩) hgb).trans hcell
  clear hW hcell hgb
  go_enter Tryz.func47, Tryz.ntmps47
  cases hb : Lib.hasPrefix x.data.toList m.data.toList
  · go_wp2_with (go_at_call 48; refine (opn_.hp _ _ _).mono ?_; rintro e w' ⟨rfl, rfl⟩; first | rw [hb] | skip)
    go_ret
    exact ⟨by unfold opn_.pre; rw [hb]; rfl, Below.refl _ _⟩
  · go_wp2_with (go_at_call 48; refine (opn_.hp _ _ _).mono ?_; rintro e w' ⟨rfl, rfl⟩; first | rw [hb] | skip)
    go_ret
    exact ⟨by unfold opn_.pre; rw [hb]; rfl, Below.refl _ _⟩
def opn_.tm (m : ByteArray) : Int := (impl_timeOf.f m).getD 0
/-- The search. -/
def opn_.look (T : List ByteArray) (n : Nat) : Nat → List ByteArray → Nat → Int → Option (List ByteArray) × Int → Option (List ByteArray) × Int
  | 0, _, _, _, st => st
  | d + 1, l, i, s, st => if st.1.isSome = true ∧ st.2 ≤ s then st else if l.length = n then (some l, s) else
    (List.range (T.length - i)).foldl (fun st j => if l.any (opn_.pre (rdOf ByteArray.empty T ((i + j : Nat) : Int))) = true then st else opn_.look T n d (l ++ [rdOf ByteArray.empty T ((i + j : Nat) : Int)]) (i + j + 1) (wrap64 (s + opn_.tm (rdOf ByteArray.empty T ((i + j : Nat) : Int)))) st) st
theorem opn_.idle {p : Prop} (h : p) : p := h
theorem opn_.rdOf_get (d : ByteArray) (l : List ByteArray) (i : Nat) (h : i < l.length) : rdOf d l (i : Int) = l[i] := by
  unfold rdOf
  rw [Int.toNat_natCast, List.getD_eq_getElem?_getD, List.getElem?_eq_getElem h]
  rfl
def opn_.stp (T : List ByteArray) (n d : Nat) (l : List ByteArray) (i : Nat) (s : Int) (st : Option (List ByteArray) × Int) (j : Nat) : Option (List ByteArray) × Int := if l.any (opn_.pre (rdOf ByteArray.empty T ((i + j : Nat) : Int))) = true then st else opn_.look T n d (l ++ [rdOf ByteArray.empty T ((i + j : Nat) : Int)]) (i + j + 1) (wrap64 (s + opn_.tm (rdOf ByteArray.empty T ((i + j : Nat) : Int)))) st
theorem opn_.info9 : (Tryz.prog.info? 9).map (fun i => (i.zero, i.size, i.bytes)) = some (some (.string ByteArray.empty), 1, 16) := by kernel_rfl
theorem opn_.stp_skip (T : List ByteArray) (n d : Nat) (l : List ByteArray) (i : Nat) (s : Int) (st : Option (List ByteArray) × Int) (j : Nat) (m : ByteArray) (hm : m = rdOf ByteArray.empty T ((i + j : Nat) : Int)) (h : l.any (opn_.pre m) = true) : opn_.stp T n d l i s st j = st := by
  unfold opn_.stp
  rw [← hm, if_pos h]
theorem opn_.stp_take (T : List ByteArray) (n d : Nat) (l : List ByteArray) (i : Nat) (s : Int) (st : Option (List ByteArray) × Int) (j : Nat) (m : ByteArray) (hm : m = rdOf ByteArray.empty T ((i + j : Nat) : Int)) (h : l.any (opn_.pre m) = false) : opn_.stp T n d l i s st j = opn_.look T n d (l ++ [m]) (i + j + 1) (wrap64 (s + opn_.tm m)) st := by
  unfold opn_.stp
  rw [← hm, if_neg (by rw [h]; simp)]
theorem opn_.wp_app {P : Program} {o : Oper} {a : Act} {W w4 : World} {K : Act → World → Prop} {Q : Exit → Act → World → Prop} (s x : Operand) (t : TypeId) (ho : o.op = .call { callee := .builtin .append, args := #[s, x], argTypes := #[t, t] }) (v z v1 : Value) (hs : a.eval s = v) (hx : a.eval x = z)
    (hr : (Builtin.append_ #[t, t] o.type #[v, z]).run P W = .ok v1 w4) (h : K (a.put o.dst v1) w4) : o.wp P a W K Q := by
  unfold Oper.wp execOp
  simp only [ho, resolve, invoke, builtin, Sem.run_bind, Sem.run_pure, Result.andThen_ok, List.map_toArray, List.map_cons, List.map_nil, hs, hx, hr]
  exact h
theorem opn_.row_C {w : World} {base : Nat} {A : Option Addr} {c : Nat} {l : List ByteArray} (h : w.ownsRow base 9 1 (.slice A l.length c) l.length (l.map Value.string)) : Kd.C Kd.string w A l.length l ∧ l.length ≤ c := by
  have hr : Kd.R Kd.string 9 w base (fun _ => True) (.slice A l.length c) l := Kd.R_of_own h (fun _ _ => trivial)
  exact ⟨(Kd.R_reads' hr).2.2, (Kd.R_reads' hr).2.1⟩
theorem opn_.after {T : List ByteArray} {n d : Nat} {wT : World} {ob TY : Nat} {tv0 : Value} {w wr W3 w4 : World} {v : Value} {A1 : Option Addr} {c1 : Nat} {l : List ByteArray} {m : ByteArray} {i0 i j : Nat} {s tv : Int} {st : Option (List ByteArray) × Int} {bv br : Value}
    (ih : ∀ (A : Option Addr) (c : Nat) (l : List ByteArray) (i0 : Nat) (s : Int) (bv : Value) (st : Option (List ByteArray) × Int) (w : World), n < l.length + d → l.length ≤ n → i0 ≤ T.length → opn_.Inv wT ob TY tv0 n w (.slice A l.length c) l bv st →
      Calls Tryz.prog 30 #[.pointer (some ⟨ob, 0, none⟩), .slice A l.length c, .int .i64 (i0 : Int), .int .i64 s] w fun e w' => e = .returned (.tuple #[]) ∧ ∃ bv', opn_.Inv wT ob TY tv0 n w' (.slice A l.length c) l bv' (opn_.look T n d l i0 s st) ∧ opn_.Fr ob (.slice A l.length c) w w' bv bv')
    (nd : Nat) (h1 : n < l.length + (d + 1)) (h2 : l.length < n) (h3 : i + 1 ≤ T.length ∧ T.length ≤ 1000) (hi : i = i0 + j) (hm : m = rdOf ByteArray.empty T (i : Int)) (htv : impl_timeOf.f m = some tv) (ha : l.any (opn_.pre m) = false) (hF : opn_.Fr ob v w wr bv br) (hB : Below wr.heap.size wr W3) (h4 : opn_.Inv wT ob TY tv0 n w4 (.slice A1 (l.length + 1) c1) (l ++ [m]) br st)
    (back : ∀ bv5 st5 w5, opn_.Inv wT ob TY tv0 n w5 (.slice A1 (l.length + 1) c1) (l ++ [m]) bv5 st5 → opn_.Fr ob (.slice A1 (l.length + 1) c1) w4 w5 br bv5 → opn_.Inv wT ob TY tv0 n w5 v l bv5 st5 ∧ opn_.Fr ob v W3 w5 br bv5) :
    Calls Tryz.prog 30 #[.pointer (some ⟨ob, 0, none⟩), .slice A1 (l.length + 1) c1, .int .i64 (IntKind.i64.wrap ((i : Int) + 1)), .int .i64 (IntKind.i64.wrap (s + tv))] (w4.drewN nd) fun e w' => e = .returned (.tuple #[]) ∧ ∃ bv', opn_.Inv wT ob TY tv0 n w' v l bv' (opn_.stp T n d l i0 s st j) ∧ opn_.Fr ob v w w' bv bv' := by
  have e1 : IntKind.i64.wrap ((i : Int) + 1) = ((i + 1 : Nat) : Int) := by rw [i64_w]; unfold wrap64; omega
  have e2 : opn_.tm m = tv := by unfold opn_.tm; rw [htv]; rfl
  have hl : (l ++ [m]).length = l.length + 1 := by rw [List.length_append]; rfl
  have k := ih A1 c1 (l ++ [m]) (i + 1) (wrap64 (s + tv)) br st (w4.drewN nd) (by omega) (by omega) h3.1 (by rw [hl]; exact h4.below ⟨rfl, rfl, rfl, Nat.le_refl _, fun _ _ => rfl⟩)
  rw [hl] at k
  rw [e1, i64_w]
  refine k.mono ?_
  rintro e w5 ⟨he, bv5, hI, hf⟩
  obtain ⟨k1, k2⟩ := back bv5 _ w5 hI ⟨hf.size, hf.keep, hf.new⟩
  refine ⟨he, bv5, ?_, (hF.below hB).trans k2⟩
  rw [opn_.stp_take T n d l i0 s st j m (by rw [hm, hi]) ha, e2, ← hi]
  exact k1
set_option maxRecDepth 100000 in
set_option maxHeartbeats 8000000 in
theorem opn_.walk (T : List ByteArray) (n : Nat) (hn1 : 1 ≤ n) (hn : n ≤ 1000) (hT : T.length ≤ 1000) (htm : ∀ m ∈ T, (impl_timeOf.f m).isSome = true) (wT : World) (At : Option Addr) (ct : Nat) (hC : Kd.C Kd.string wT At T.length T) (hct : T.length ≤ ct) (ob TY : Nat) (d : Nat) :
    ∀ (A : Option Addr) (c : Nat) (l : List ByteArray) (i0 : Nat) (s : Int) (bv : Value) (st : Option (List ByteArray) × Int) (w : World), n < l.length + d → l.length ≤ n → i0 ≤ T.length → opn_.Inv wT ob TY (.slice At T.length ct) n w (.slice A l.length c) l bv st →
      Calls Tryz.prog 30 #[.pointer (some ⟨ob, 0, none⟩), .slice A l.length c, .int .i64 (i0 : Int), .int .i64 s] w fun e w' => e = .returned (.tuple #[]) ∧ ∃ bv', opn_.Inv wT ob TY (.slice At T.length ct) n w' (.slice A l.length c) l bv' (opn_.look T n d l i0 s st) ∧ opn_.Fr ob (.slice A l.length c) w w' bv bv' := by
  induction d with
  | zero => exact fun A c l i0 s bv st w h1 h2 => absurd h1 (by omega)
  | succ d ih =>
    intro A c l i0 s bv st w h1 h2 h3 hI
    have u23 := run_underlying (P := Tryz.prog) Tryz.underlying23
    have nil1 : ∀ w, (binOp .neq 23 (.slice none 0 0) (.slice none 0 0)).run Tryz.prog w = .ok (.bool false) w := fun w => by first | kernel_rfl | (simp [binOp, Op.equal, u23, go_sem]; done) | rfl
    have nil2 : ∀ (a : Addr) (l c : Nat) w, (binOp .neq 23 (.slice (some a) l c) (.slice none 0 0)).run Tryz.prog w = .ok (.bool true) w := fun a l c w => by first | kernel_rfl | (simp [binOp, Op.equal, u23, go_sem]; done) | rfl
    clear u23
    have c0 : w.cell? ⟨ob, 0, none⟩ = some (.slice At T.length ct) := (blk_cell hI.obj 0).trans rfl
    have c1 : w.cell? ⟨ob, 1, none⟩ = some (.int .i64 (n : Int)) := (blk_cell hI.obj 1).trans rfl
    have c2 : w.cell? ⟨ob, 2, none⟩ = some bv := (blk_cell hI.obj 2).trans rfl
    have c3 : w.cell? ⟨ob, 3, none⟩ = some (.int .i64 st.2) := (blk_cell hI.obj 3).trans rfl
    have f2 := blk_frozen hI.obj 2
    have f3 := blk_frozen hI.obj 3
    have HI := Aside0.mk hI
    have HIH := Aside0.mk ih
    have HL := Aside0.mk h1
    have HL2 := Aside0.mk h2
    have HL3 := Aside0.mk h3
    clear ih h1 h2 h3
    have HCL := Aside0.mk (fun (h : l.length ≤ 1000) => slices_Clone_string_string.calls A c l l w (opn_.row_C hI.row).1 (opn_.row_C hI.row).2 (by unfold slices_Clone_string_string.f; rw [if_pos (by omega)]))
    by_cases hp : st.1.isSome = true ∧ st.2 ≤ s
    · have hst : opn_.look T n (d + 1) l i0 s st = st := by rw [opn_.look, if_pos hp]
      rw [hst]
      obtain ⟨hp1, hp2⟩ := hp
      rcases hI.best with ⟨e1, e2⟩ | ⟨b, g, len, cap, e1, e2, ho⟩
      · rw [e1] at hp1; cases hp1
      subst e2
      clear ho hI hst hp1
      have hge : st.2 ≤ s := hp2
      go_enter Tryz.func30, Tryz.ntmps30
      go_wp2
      refine bodyPost_ret (results_none rfl _ _ _) rfl ?_
      exact ⟨rfl, _, HI.out, opn_.Fr.refl _ _ _ _⟩
    by_cases hq : l.length = n
    · have hst : opn_.look T n (d + 1) l i0 s st = (some l, s) := by rw [opn_.look, if_neg hp, if_pos hq]
      rw [hst]
      subst hq
      have HCL2 := Aside0.mk (HCL.out (by omega))
      clear HCL
      rcases hI.best with ⟨e1, e2⟩ | ⟨b, g, len, cap, e1, e2, ho⟩
      · subst e2
        clear hI hst hp HIH HL HL2 HL3
        go_enter Tryz.func30, Tryz.ntmps30
        go_wp2_with (go_at_call 40; refine HCL2.out.mono ?_; rintro e w1 ⟨v1, rfl, hv, hB⟩; obtain ⟨Av, cv, rfl⟩ := Kd.R_slice hv; have HV := Aside0.mk hv; have HB := Aside0.mk hB; have k2 := (hB.cell (p := ⟨ob, 2, none⟩) (Array.getElem?_eq_some_iff.1 HI.out.obj).1).trans c2; have k3 := (hB.cell (p := ⟨ob, 3, none⟩) (Array.getElem?_eq_some_iff.1 HI.out.obj).1).trans c3; have z2 := blk_frozen (HI.out.below hB).obj 2; have z3 := blk_frozen (HI.out.below hB).obj 3; clear hv hB)
        refine bodyPost_ret (results_none rfl _ _ _) rfl ?_
        exact ⟨rfl, _, HI.out.best_ s hn1 HB.out HV.out⟩
      · subst e2
        have hlt : ¬ st.2 ≤ s := fun h => hp ⟨by rw [e1]; rfl, h⟩
        clear hI hst hp HIH HL HL2 HL3 ho
        go_enter Tryz.func30, Tryz.ntmps30
        go_wp2_with (go_at_call 40; refine HCL2.out.mono ?_; rintro e w1 ⟨v1, rfl, hv, hB⟩; obtain ⟨Av, cv, rfl⟩ := Kd.R_slice hv; have HV := Aside0.mk hv; have HB := Aside0.mk hB; have k2 := (hB.cell (p := ⟨ob, 2, none⟩) (Array.getElem?_eq_some_iff.1 HI.out.obj).1).trans c2; have k3 := (hB.cell (p := ⟨ob, 3, none⟩) (Array.getElem?_eq_some_iff.1 HI.out.obj).1).trans c3; have z2 := blk_frozen (HI.out.below hB).obj 2; have z3 := blk_frozen (HI.out.below hB).obj 3; clear hv hB)
        refine bodyPost_ret (results_none rfl _ _ _) rfl ?_
        exact ⟨rfl, _, HI.out.best_ s hn1 HB.out HV.out⟩
    · have hlt : l.length < n := by have := HL2.out; omega
      have hst : opn_.look T n (d + 1) l i0 s st = (List.range (T.length - i0)).foldl (opn_.stp T n d l i0 s) st := by rw [opn_.look, if_neg hp, if_neg hq]; rfl
      have hne : ¬ (l.length : Int) = (n : Int) := by omega
      have hbeq : ((l.length : Int) == (n : Int)) = false := by rw [beq_eq_false_iff_ne]; exact hne
      rw [hst]
      clear HCL hst
      rcases hI.best with ⟨e1, e2⟩ | ⟨b, g, len, cap, e1, e2, ho⟩
      rw [e2] at c2
      clear hI hp
      go_enter Tryz.func30, Tryz.ntmps30
      focus go_wp2
      rotate_left
      have hlt2 : ¬ st.2 ≤ s := fun h => hp ⟨by rw [e1]; rfl, h⟩
      rw [e2] at c2
      clear hI hp ho
      go_enter Tryz.func30, Tryz.ntmps30
      focus go_wp2
      clear hlt2
      all_goals
        have HI2 := Aside0.mk (And.intro HI.out (opn_.Fr.refl ob (.slice A l.length c) w bv))
        clear c0 c1 c2 c3 f2 f3 nil1 nil2 hne e1 e2
        (try simp only [hbeq])
        have HLT := Aside0.mk hlt
        clear hlt
        go_loopg [8] (T.length - i0) (fun kq v8 wr => ∃ (j : Nat) (br : Value), v8 = .int .i64 ((i0 + j : Nat) : Int) ∧ Aside0 (i0 + j + kq = T.length) ∧ Aside0 (opn_.Inv wT ob TY (.slice At T.length ct) n wr (.slice A l.length c) l br ((List.range j).foldl (opn_.stp T n d l i0 s) st) ∧ opn_.Fr ob (.slice A l.length c) w wr bv br))
        case atStart => exact ⟨0, bv, rfl, ⟨by have := HL3.out; omega⟩, HI2⟩
        case round =>
          obtain ⟨j, br, rfl, HK, HJ⟩ := hrel
          clear HI HI2
          have c0 : wr.cell? ⟨ob, 0, none⟩ = some (.slice At T.length ct) := (blk_cell HJ.out.1.obj 0).trans rfl
          have HX : Aside0 (∃ i, i = i0 + j) := ⟨⟨_, rfl⟩⟩
          obtain ⟨i, hi⟩ := HX.out
          have HIJ := Aside0.mk hi
          rw [← hi]
          clear hi HX
          rcases Nat.eq_zero_or_pos gk with hz | hz
          · have hb : ¬ (i : Int) < (T.length : Int) := by have := HK.out; have := HIJ.out; omega
            go_wp2
            go_end0
            have hjj : T.length - i0 = j := by have := HK.out; omega
            rw [hjj]
            exact ⟨rfl, br, HJ.out⟩
          · have hil : i < T.length := by have := HK.out; have := HIJ.out; omega
            have hb : (i : Int) < (T.length : Int) := by omega
            obtain ⟨ad, ead, hx⟩ := Kd.at_string (Kd.C_below hC HJ.out.1.tb) (i : Int) (by omega) hb
            subst ead
            obtain ⟨tv, htv⟩ := Option.isSome_iff_exists.1 (htm (rdOf ByteArray.empty T (i : Int)) (by
              rw [opn_.rdOf_get _ T i hil]
              exact List.getElem_mem hil))
            rw [Int.toNat_natCast] at hx
            obtain ⟨m, hm⟩ : ∃ m, m = rdOf ByteArray.empty T (i : Int) := ⟨_, rfl⟩
            rw [← hm] at hx htv
            have HM := Aside0.mk hm
            have HTV := Aside0.mk htv
            clear hm htv
            have b1 := eq_true hb
            have b2 : (0 ≤ (i : Int)) = True := eq_true (by omega)
            have b3 := eq_true hil
            clear hb hil
            have hBa : Below wr.heap.size wr (wr.alloc (.cells #[.string m] 9)) := below_alloc (Below.refl _ _) _
            have HIa := Aside0.mk (HJ.out.1.below hBa)
            have HCF := Aside0.mk (opn_.contains 47 #[.pointer (some ⟨wr.heap.size, 0, none⟩)] (opn_.pre m) (wr.alloc (.cells #[.string m] 9)) (enters_of Tryz.func47 (by kernel_rfl) rfl) l (fun x _ W hW => opn_.closure m wr.heap.size _ (by simp) ((cell_of_row _ _ 0 _ _ (0, 0) (heap_alloc_last wr _)).trans rfl) x W hW) A c (opn_.row_C HIa.out.row).1 (opn_.row_C HIa.out.row).2 (by have := HL2.out; omega))
            have hmb := heap_alloc_last wr (.cells #[.string m] 9)
            have HMB := Aside0.mk hmb
            clear hmb hBa
            cases hany : l.any (opn_.pre m) with
            | true =>
              rw [hany] at HCF
              go_wp2_with (go_at_call 46; refine HCF.out.mono ?_; rintro e w2 ⟨rfl, hB2⟩; have HB2 := Aside0.mk hB2; clear hB2)
              have hfo := opn_.stp_skip T n d l i0 s ((List.range j).foldl (opn_.stp T n d l i0 s) st) j m (by rw [HM.out, HIJ.out]) hany
              have hB3 : Below wr.heap.size wr w2 := (below_alloc (Below.refl _ _) _).trans (HB2.out.mono (by simp))
              go_roundg (gk - 1)
              case measure => omega
              case rel => exact ⟨j + 1, br, by congr 1; unfold wrap64; have := HIJ.out; have := HK.out; omega, ⟨by have := HK.out; omega⟩, ⟨by rw [List.range_succ, List.foldl_append]; show opn_.Inv wT ob TY _ n w2 _ l br (opn_.stp T n d l i0 s _ j); rw [hfo]; exact HJ.out.1.below hB3, HJ.out.2.below hB3⟩⟩
            | false =>
              rw [hany] at HCF
              go_wp2_with (go_at_call 46; refine HCF.out.mono ?_; rintro e w2 ⟨rfl, hB2⟩; have HB2 := Aside0.mk hB2; clear hB2)
              have hB3 : Below wr.heap.size wr (w2.drew.alloc (.cells #[.string m] 9)) := below_alloc (below_drew1 ((below_alloc (Below.refl _ _) _).trans (HB2.out.mono (by simp)))) _
              obtain ⟨ti, hti, hz0, hz1, hz2⟩ := info_parts opn_.info9
              have hI3 := HJ.out.1.below hB3
              obtain ⟨v1, w4, hrun, hn4, ho4, hg4, ha4⟩ := opn_.run_app (P := Tryz.prog) (w2.drew.alloc (.cells #[.string m] 9)) (ob + 1) 23 23 9 ti _ Tryz.underlying23 hti hz0 hz1 hz2 rfl (.slice A l.length c) l.length (l.map Value.string) hI3.row ⟨w2.heap.size, 0, none⟩ 1 (.string m) ((cell_of_row _ _ 0 _ _ (0, 0) (heap_alloc_last w2.drew _)).trans rfl) rfl (by have := HL2.out; omega) (by have := (Array.getElem?_eq_some_iff.1 hI3.obj).1; omega)
              have hv1 : ∃ A1 c1, v1 = .slice A1 (l.length + 1) c1 := by
                rcases ha4 with ⟨g, cap, _, e⟩ | ⟨b, cap, e, _⟩
                · exact ⟨_, _, e⟩
                · exact ⟨_, _, e⟩
              obtain ⟨A1, c1, rfl⟩ := hv1
              have hI4 := Aside0.mk (hI3.child hg4 hn4 ha4)
              have HBK := Aside0.mk (fun bv5 st5 w5 => opn_.Inv.back (m := m) (bv5 := bv5) (st5 := st5) (w5 := w5) hI3 hg4 ho4 ha4)
              have hlw : wr.heap.size < w2.heap.size := by have := HB2.out.size; rw [World.size_alloc] at this; omega
              have hm2 : w2.cell? ⟨wr.heap.size, 0, none⟩ = some (.string m) := (HB2.out.cell (p := ⟨wr.heap.size, 0, none⟩) (by simp)).trans ((cell_of_row _ _ 0 _ _ (0, 0) HMB.out).trans rfl)
              have hm3 : (w2.drew.alloc (.cells #[.string m] 9)).cell? ⟨wr.heap.size, 0, none⟩ = some (.string m) := ((below_alloc (Below.refl _ _) _ : Below w2.drew.heap.size w2.drew (w2.drew.alloc (.cells #[.string m] 9))).cell (p := ⟨wr.heap.size, 0, none⟩) hlw).trans hm2
              have hm3' : (w2.alloc (.cells #[.string m] 9)).cell? ⟨wr.heap.size, 0, none⟩ = some (.string m) := ((below_alloc (Below.refl _ _) _ : Below w2.heap.size w2 (w2.alloc (.cells #[.string m] 9))).cell (p := ⟨wr.heap.size, 0, none⟩) hlw).trans hm2
              have hm4 : w4.cell? ⟨wr.heap.size, 0, none⟩ = some (.string m) := hg4.cell hm3 (fun e => by have := (HJ.out.1.row.lt wr.heap.size e.symm).2; omega)
              have HB3 := Aside0.mk hB3
              clear hn4 ho4 hg4 ha4 hI3 hlw hti hz0 hz1 hz2 hB3
              have hwi : IntKind.i64.wrap ((i : Int) + 1) = ((i + 1 : Nat) : Int) := by
                have := HIJ.out
                have := HK.out
                rw [i64_w]
                unfold wrap64
                omega
              have HLK := Aside0.mk (fun nd => opn_.after (T := T) (n := n) (d := d) (wT := wT) (ob := ob) (TY := TY) (tv0 := .slice (some ad) T.length ct) (w := w) (wr := wr) (W3 := w2.drew.alloc (.cells #[.string m] 9)) (w4 := w4) (v := .slice A l.length c) (A1 := A1) (c1 := c1) (l := l) (m := m) (i0 := i0) (i := i) (j := j) (s := s) (tv := tv) (st := (List.range j).foldl (opn_.stp T n d l i0 s) st) (bv := bv) (br := br) HIH.out nd HL.out HLT.out (by have := HK.out; have := HIJ.out; omega) HIJ.out HM.out HTV.out hany HJ.out.2 HB3.out hI4.out HBK.out)
              have HEND : Aside0 (∀ w5, (∃ bv5, opn_.Inv wT ob TY (.slice (some ad) T.length ct) n w5 (.slice A l.length c) l bv5 (opn_.stp T n d l i0 s ((List.range j).foldl (opn_.stp T n d l i0 s) st) j) ∧ opn_.Fr ob (.slice A l.length c) w w5 bv bv5) → ∃ (j' : Nat) (br' : Value), Value.int .i64 (wrap64 ((i : Int) + 1)) = .int .i64 ((i0 + j' : Nat) : Int) ∧ Aside0 (i0 + j' + (gk - 1) = T.length) ∧ Aside0 (opn_.Inv wT ob TY (.slice (some ad) T.length ct) n w5 (.slice A l.length c) l br' ((List.range j').foldl (opn_.stp T n d l i0 s) st) ∧ opn_.Fr ob (.slice A l.length c) w w5 bv br')) := ⟨fun w5 ⟨bv5, h5⟩ => ⟨j + 1, bv5, by rw [← i64_w, hwi]; congr 2; have := HIJ.out; omega, ⟨by have := HK.out; omega⟩, ⟨by rw [List.range_succ, List.foldl_append]; exact h5⟩⟩⟩
              have hmx : Tryz.prog.follows .mixedOrders = true := by kernel_rfl
              clear hwi
              refine wp_region_any hmx ?_
              change wpAny _ _ _ _ _ _ _ (World.drew _)
              (refine wpAny_take (i := 0) (v := ?_) rfl (by kernel_rfl) (by decide +kernel) (by decide +kernel) (fun _ _ _ h => h) (Or.inl ⟨by rfl, ?_⟩) ?_; rotate_left; (focus (intro w; go_simp; try with_reducible rfl)))
              (refine wpAny_take (i := 1) (v := ?_) rfl (by kernel_rfl) (by decide +kernel) (by decide +kernel) (fun _ _ _ h => h) (Or.inl ⟨by rfl, ?_⟩) ?_; rotate_left; (focus (intro w; go_simp; try with_reducible rfl)))
              (refine wpAny_take (i := 5) (v := ?_) rfl (by kernel_rfl) (by decide +kernel) (by decide +kernel) (fun _ _ _ h => h) (Or.inl ⟨by rfl, ?_⟩) ?_; rotate_left; (focus (intro w; go_simp; try with_reducible rfl)))
              (refine wpAny_take (i := 7) (v := ?_) rfl (by kernel_rfl) (by decide +kernel) (by decide +kernel) (fun _ _ _ h => h) (Or.inl ⟨by rfl, ?_⟩) ?_; rotate_left; (focus (intro w; go_simp; try with_reducible rfl)))
              (refine wpAny_take (i := 6) (v := ?_) rfl (by kernel_rfl) (by decide +kernel) (by decide +kernel) (fun _ _ _ h => h) (Or.inl ⟨by rfl, ?_⟩) ?_; rotate_left; (focus (intro w; go_simp; try with_reducible rfl)))
              refine wpAny_ready (rs := [2, 8]) (by decide +kernel) (by simp) ?_
              refine AllReady.cons rfl (fun K hK => ?_) ?_
              · go_simp
                refine hK _ _ ?_
                clear hK K
                refine wpAny_ready (rs := [3, 8]) (by decide +kernel) (by simp) ?_
                refine AllReady.cons rfl (fun K hK => ?_) ?_
                · go_simp
                  refine hK _ _ ?_
                  clear hK K
                  refine wpAny_ready (rs := [4, 8]) (by decide +kernel) (by simp) ?_
                  refine AllReady.cons rfl (fun K hK => ?_) ?_
                  · rw [if_pos (by rfl)]
                    refine opn_.wp_app (.tmp 61) (.tmp 63) 23 rfl (.slice A l.length c) _ _ rfl rfl hrun ?_
                    refine hK _ _ ?_
                    clear hK K
                    refine wpAny_ready (rs := [8]) (by decide +kernel) (by simp) ?_
                    refine AllReady.cons rfl (fun K hK => ?_) ?_
                    · go_simp
                      refine hK _ _ ?_
                      clear hK K
                      refine wpAny_ready (rs := [9]) (by decide +kernel) (by simp) ?_
                      refine AllReady.cons rfl (fun K hK => ?_) ?_
                      · go_simp
                        go_at_call 42
                        refine (impl_timeOf.calls m tv _ HTV.out).mono ?_
                        rintro e w' ⟨rfl, hd⟩
                        obtain ⟨nd, rfl⟩ := hd.out
                        refine hK _ _ ?_
                        clear hK K
                        (refine wpAny_take (i := 10) (v := ?_) rfl (by kernel_rfl) (by decide +kernel) (by decide +kernel) (fun _ _ _ h => h) (Or.inl ⟨by rfl, ?_⟩) ?_; rotate_left; (focus (intro w; go_simp; try with_reducible rfl)))
                        refine wpAny_ready (rs := [11]) (by decide +kernel) (by simp) ?_
                        refine AllReady.cons rfl (fun K hK => ?_) ?_
                        · go_simp
                          go_at_call 30
                          refine (HLK.out nd).mono ?_
                          rintro e w5 ⟨rfl, hr5⟩
                          have HR := Aside0.mk hr5
                          clear hr5
                          refine hK _ _ ?_
                          clear hK K
                          refine wpAny_done (by decide +kernel) ?_ _
                          go_wp2
                          go_roundg (gk - 1)
                          case measure => omega
                          case rel => exact HEND.out _ HR.out
                        exact AllReady.nil
                      exact AllReady.nil
                    exact AllReady.nil
                  refine AllReady.cons rfl (fun K hK => ?_) ?_
                  · go_simp
                    refine hK _ _ ?_
                    clear hK K
                    refine wpAny_ready (rs := [4]) (by decide +kernel) (by simp) ?_
                    refine AllReady.cons rfl (fun K hK => ?_) ?_
                    · rw [if_pos (by rfl)]
                      refine opn_.wp_app (.tmp 61) (.tmp 63) 23 rfl (.slice A l.length c) _ _ rfl rfl hrun ?_
                      refine hK _ _ ?_
                      clear hK K
                      refine wpAny_ready (rs := [9]) (by decide +kernel) (by simp) ?_
                      refine AllReady.cons rfl (fun K hK => ?_) ?_
                      · go_simp
                        go_at_call 42
                        refine (impl_timeOf.calls m tv _ HTV.out).mono ?_
                        rintro e w' ⟨rfl, hd⟩
                        obtain ⟨nd, rfl⟩ := hd.out
                        refine hK _ _ ?_
                        clear hK K
                        (refine wpAny_take (i := 10) (v := ?_) rfl (by kernel_rfl) (by decide +kernel) (by decide +kernel) (fun _ _ _ h => h) (Or.inl ⟨by rfl, ?_⟩) ?_; rotate_left; (focus (intro w; go_simp; try with_reducible rfl)))
                        refine wpAny_ready (rs := [11]) (by decide +kernel) (by simp) ?_
                        refine AllReady.cons rfl (fun K hK => ?_) ?_
                        · go_simp
                          go_at_call 30
                          refine (HLK.out nd).mono ?_
                          rintro e w5 ⟨rfl, hr5⟩
                          have HR := Aside0.mk hr5
                          clear hr5
                          refine hK _ _ ?_
                          clear hK K
                          refine wpAny_done (by decide +kernel) ?_ _
                          go_wp2
                          go_roundg (gk - 1)
                          case measure => omega
                          case rel => exact HEND.out _ HR.out
                        exact AllReady.nil
                      exact AllReady.nil
                    exact AllReady.nil
                  exact AllReady.nil
                refine AllReady.cons rfl (fun K hK => ?_) ?_
                · go_simp
                  refine hK _ _ ?_
                  clear hK K
                  refine wpAny_ready (rs := [3]) (by decide +kernel) (by simp) ?_
                  refine AllReady.cons rfl (fun K hK => ?_) ?_
                  · go_simp
                    refine hK _ _ ?_
                    clear hK K
                    refine wpAny_ready (rs := [4]) (by decide +kernel) (by simp) ?_
                    refine AllReady.cons rfl (fun K hK => ?_) ?_
                    · rw [if_pos (by rfl)]
                      refine opn_.wp_app (.tmp 61) (.tmp 63) 23 rfl (.slice A l.length c) _ _ rfl rfl hrun ?_
                      refine hK _ _ ?_
                      clear hK K
                      refine wpAny_ready (rs := [9]) (by decide +kernel) (by simp) ?_
                      refine AllReady.cons rfl (fun K hK => ?_) ?_
                      · go_simp
                        go_at_call 42
                        refine (impl_timeOf.calls m tv _ HTV.out).mono ?_
                        rintro e w' ⟨rfl, hd⟩
                        obtain ⟨nd, rfl⟩ := hd.out
                        refine hK _ _ ?_
                        clear hK K
                        (refine wpAny_take (i := 10) (v := ?_) rfl (by kernel_rfl) (by decide +kernel) (by decide +kernel) (fun _ _ _ h => h) (Or.inl ⟨by rfl, ?_⟩) ?_; rotate_left; (focus (intro w; go_simp; try with_reducible rfl)))
                        refine wpAny_ready (rs := [11]) (by decide +kernel) (by simp) ?_
                        refine AllReady.cons rfl (fun K hK => ?_) ?_
                        · go_simp
                          go_at_call 30
                          refine (HLK.out nd).mono ?_
                          rintro e w5 ⟨rfl, hr5⟩
                          have HR := Aside0.mk hr5
                          clear hr5
                          refine hK _ _ ?_
                          clear hK K
                          refine wpAny_done (by decide +kernel) ?_ _
                          go_wp2
                          go_roundg (gk - 1)
                          case measure => omega
                          case rel => exact HEND.out _ HR.out
                        exact AllReady.nil
                      exact AllReady.nil
                    exact AllReady.nil
                  exact AllReady.nil
                exact AllReady.nil
              refine AllReady.cons rfl (fun K hK => ?_) ?_
              · go_simp
                refine hK _ _ ?_
                clear hK K
                refine wpAny_ready (rs := [2]) (by decide +kernel) (by simp) ?_
                refine AllReady.cons rfl (fun K hK => ?_) ?_
                · go_simp
                  refine hK _ _ ?_
                  clear hK K
                  refine wpAny_ready (rs := [3]) (by decide +kernel) (by simp) ?_
                  refine AllReady.cons rfl (fun K hK => ?_) ?_
                  · go_simp
                    refine hK _ _ ?_
                    clear hK K
                    refine wpAny_ready (rs := [4]) (by decide +kernel) (by simp) ?_
                    refine AllReady.cons rfl (fun K hK => ?_) ?_
                    · rw [if_pos (by rfl)]
                      refine opn_.wp_app (.tmp 61) (.tmp 63) 23 rfl (.slice A l.length c) _ _ rfl rfl hrun ?_
                      refine hK _ _ ?_
                      clear hK K
                      refine wpAny_ready (rs := [9]) (by decide +kernel) (by simp) ?_
                      refine AllReady.cons rfl (fun K hK => ?_) ?_
                      · go_simp
                        go_at_call 42
                        refine (impl_timeOf.calls m tv _ HTV.out).mono ?_
                        rintro e w' ⟨rfl, hd⟩
                        obtain ⟨nd, rfl⟩ := hd.out
                        refine hK _ _ ?_
                        clear hK K
                        (refine wpAny_take (i := 10) (v := ?_) rfl (by kernel_rfl) (by decide +kernel) (by decide +kernel) (fun _ _ _ h => h) (Or.inl ⟨by rfl, ?_⟩) ?_; rotate_left; (focus (intro w; go_simp; try with_reducible rfl)))
                        refine wpAny_ready (rs := [11]) (by decide +kernel) (by simp) ?_
                        refine AllReady.cons rfl (fun K hK => ?_) ?_
                        · go_simp
                          go_at_call 30
                          refine (HLK.out nd).mono ?_
                          rintro e w5 ⟨rfl, hr5⟩
                          have HR := Aside0.mk hr5
                          clear hr5
                          refine hK _ _ ?_
                          clear hK K
                          refine wpAny_done (by decide +kernel) ?_ _
                          go_wp2
                          go_roundg (gk - 1)
                          case measure => omega
                          case rel => exact HEND.out _ HR.out
                        exact AllReady.nil
                      exact AllReady.nil
                    exact AllReady.nil
                  exact AllReady.nil
                exact AllReady.nil
              exact AllReady.nil
theorem opn_.start (T : List ByteArray) (n : Nat) (hn1 : 1 ≤ n) (hn : n ≤ 6) (hT : T.length ≤ 1000) (htm : ∀ m ∈ T, (impl_timeOf.f m).isSome = true) (w w1 : World) (At : Option Addr) (ct TY : Nat) (hB : Below w.heap.size w w1) (hv : Kd.R Kd.string 9 w1 w.heap.size (fun _ => True) (.slice At T.length ct) T) :
    Calls Tryz.prog 30 #[.pointer (some ⟨w1.heap.size, 0, none⟩), .slice none 0 0, .int .i64 0, .int .i64 0] (w1.alloc (.cells #[.slice At T.length ct, .int .i64 (n : Int), .slice none 0 0, .int .i64 0] TY)) fun e w' => e = .returned (.tuple #[]) ∧
      ∃ A c, w'.cell? ⟨w1.heap.size, 2, none⟩ = some (.slice A ((opn_.look T n (n + 1) [] 0 0 (none, 0)).1.getD []).length c) ∧ Kd.R Kd.string 9 w' w.heap.size (fun _ => True) (.slice A ((opn_.look T n (n + 1) [] 0 0 (none, 0)).1.getD []).length c) ((opn_.look T n (n + 1) [] 0 0 (none, 0)).1.getD []) ∧ Below w.heap.size w w' := by
  have hs := hB.size
  have hI : opn_.Inv w1 w1.heap.size TY (.slice At T.length ct) n (w1.alloc (.cells #[.slice At T.length ct, .int .i64 (n : Int), .slice none 0 0, .int .i64 0] TY)) (.slice none ([] : List ByteArray).length 0) [] (.slice none 0 0) (none, 0) :=
    ⟨below_alloc (Below.refl _ _) _, Nat.le_refl _, heap_alloc_last w1 _, World.ownsRow_nil _ _ _ _, .inl ⟨rfl, rfl⟩, fun k hk => by simp [Value.ownBlock] at hk⟩
  have hw := opn_.walk T n hn1 (by omega) hT htm w1 At ct (Kd.R_reads' hv).2.2 (Kd.R_reads' hv).2.1 w1.heap.size TY (n + 1) none 0 [] 0 0 (.slice none 0 0) (none, 0) _ (by simp) (by simp) (Nat.zero_le _) hI
  refine Calls.mono (show Calls Tryz.prog 30 #[.pointer (some ⟨w1.heap.size, 0, none⟩), .slice none 0 0, .int .i64 0, .int .i64 0] _ _ from hw) ?_
  rintro e w' ⟨he, bv, hI2, _⟩
  have hc := (blk_cell hI2.obj 2).trans rfl
  have hBw : Below w.heap.size w w' := hB.trans (hI2.tb.mono hs)
  rcases hI2.best with ⟨e1, e2⟩ | ⟨b, g, len, cap, e1, e2, ho⟩
  · rw [e1]
    exact ⟨he, none, 0, by rw [e2] at hc; exact hc, Kd.R_nil _ _ _ _ _, hBw⟩
  · rw [e1]
    have hr : Kd.R Kd.string 9 w' w.heap.size (fun _ => True) bv b := Kd.R_of_own (opn_.own_base ho (by omega)) (fun _ _ => trivial)
    obtain ⟨A, c, e3⟩ := Kd.R_slice hr
    exact ⟨he, A, c, by rw [e3] at hc; exact hc, by rw [e3] at hr; exact hr, hBw⟩
/-- What OpenMarks gives. -/
def impl_OpenMarks.f (k : Nat) (a0 : Int) : Option (List ByteArray × Bool) := if 1 ≤ a0 ∧ a0 ≤ 6 then (impl_allMarks.f k 4).bind fun T => (if T.length ≤ 1000 ∧ (∀ m ∈ T, (impl_timeOf.f m).isSome = true) then some ((opn_.look T a0.toNat (a0.toNat + 1) [] 0 0 (none, 0)).1.getD [], true) else none) else some ([], false)
theorem impl_OpenMarks.mono (a0 : Int) (k : Nat) : LeO (impl_OpenMarks.f k a0) (impl_OpenMarks.f (k + 1) a0) := by
  intro r h
  unfold impl_OpenMarks.f at h ⊢
  by_cases hc : 1 ≤ a0 ∧ a0 ≤ 6
  · rw [if_pos hc] at h ⊢
    obtain ⟨T, h1, h2⟩ := Option.bind_eq_some_iff.mp h
    exact Option.bind_eq_some_iff.mpr ⟨T, impl_allMarks.mono 4 k T h1, h2⟩
  · rw [if_neg hc] at h ⊢
    exact h
set_option maxRecDepth 100000 in
set_option maxHeartbeats 8000000 in
theorem impl_OpenMarks.calls (k : Nat) (a0 : Int) (r1 : List ByteArray) (r2 : Bool) (w : World) (h : impl_OpenMarks.f k a0 = some (r1, r2)) :
    Calls Tryz.prog 15 #[.int .i64 a0] w fun e w' => ∃ v0_ : Value, e = .returned (.tuple #[v0_, .bool r2]) ∧ Kd.R Kd.string 9 w' w.heap.size (fun _ => True) v0_ r1 ∧ Below w.heap.size w w' := by
  have HIN := Aside0.mk (fun b (hb : impl_in.f a0 1 6 = some b) => impl_in.calls a0 1 6 b w hb)
  unfold impl_OpenMarks.f at h
  by_cases hc : 1 ≤ a0 ∧ a0 ≤ 6
  · rw [if_pos hc] at h
    obtain ⟨T, h1, h2⟩ := Option.bind_eq_some_iff.mp h
    by_cases hd : T.length ≤ 1000 ∧ (∀ m ∈ T, (impl_timeOf.f m).isSome = true)
    · rw [if_pos hd] at h2
      obtain ⟨rfl, rfl⟩ := Prod.mk.inj (Option.some.inj h2)
      have hb : impl_in.f a0 1 6 = some true := by unfold impl_in.f; rw [if_pos hc.1, decide_eq_true hc.2]
      have HI := Aside0.mk (HIN.out true hb)
      have HA := Aside0.mk (fun w' => impl_allMarks.calls k 4 T w' h1)
      have HD := Aside0.mk hd
      obtain ⟨n, rfl⟩ : ∃ n : Nat, a0 = (n : Int) := ⟨a0.toNat, by omega⟩
      have HN : Aside0 (1 ≤ n ∧ n ≤ 6) := ⟨by omega⟩
      rw [Int.toNat_natCast]
      clear HIN h h1 h2 hc hd hb
      go_enter Tryz.func15, Tryz.ntmps15
      go_wp2_with (first
        | (go_at_call 29; refine HI.out.mono ?_; rintro e w' ⟨rfl, hd⟩; obtain ⟨nd, rfl⟩ := hd.out)
        | (go_at_call 26; refine (HA.out _).mono ?_; rintro e w1 ⟨v1, rfl, hv, hB⟩; obtain ⟨At, ct, rfl⟩ := Kd.R_slice hv; have HV := Aside0.mk hv; have HB1 := Aside0.mk hB; clear hv hB)
        | (go_at_call 30; refine (opn_.start T n HN.out.1 HN.out.2 HD.out.1 HD.out.2 w w1 At ct _ (show Below w.heap.size w w1 from ⟨HB1.out.os, HB1.out.tape, HB1.out.output, HB1.out.size, HB1.out.block⟩) (show Kd.R Kd.string 9 w1 w.heap.size (fun _ => True) (.slice At T.length ct) T from HV.out)).mono ?_; rintro e w3 ⟨rfl, Ab, cb, hcb, hrb, hbb⟩; have HRB := Aside0.mk hrb; have HBB := Aside0.mk hbb; clear hrb hbb))
      go_ret2
      exact ⟨_, rfl, HRB.out, HBB.out⟩
    · rw [if_neg hd] at h2
      cases h2
  · rw [if_neg hc] at h
    obtain ⟨rfl, rfl⟩ := Prod.mk.inj (Option.some.inj h)
    have hb : impl_in.f a0 1 6 = some false := by
      unfold impl_in.f
      by_cases h6 : a0 ≥ 1
      · rw [if_pos h6, decide_eq_false (fun h => hc ⟨h6, h⟩)]
      · rw [if_neg h6]
    have HI := Aside0.mk (HIN.out false hb)
    clear HIN h hc hb
    go_enter Tryz.func15, Tryz.ntmps15
    go_wp2_with (go_at_call 29; refine HI.out.mono ?_; rintro e w' ⟨rfl, hd⟩; obtain ⟨nd, rfl⟩ := hd.out)
    go_ret2
    exact ⟨_, rfl, Kd.R_nil _ _ _ _ _, ⟨rfl, rfl, rfl, Nat.le_refl _, fun _ _ => rfl⟩⟩

/-! ### laws_eqStringS: function 16 -/
def laws_eqStringS.l0 : Nat → List ByteArray → List ByteArray → Int → Option (Bool)
  | 0, _, _, _ => none
  | k + 1, x0, x1, x5 => if x5 < (x0.length : Int) then (if 0 ≤ x5 then (if x5 < (x1.length : Int) then (if (rdOf ByteArray.empty x0 x5).toList = (rdOf ByteArray.empty x1 x5).toList then (laws_eqStringS.l0 k x0 x1 (wrap64 (x5 + 1))) else (some false)) else (none)) else (none)) else (some true)
def laws_eqStringS.f (k : Nat) (l0 : List ByteArray) (l1 : List ByteArray) : Option (Bool) := if (l0.length : Int) = (l1.length : Int) then (laws_eqStringS.l0 k l0 l1 0) else (some false)
theorem laws_eqStringS.mono_l : ∀ k, (∀ y0 y1 y2, LeO (laws_eqStringS.l0 k y0 y1 y2) (laws_eqStringS.l0 (k + 1) y0 y1 y2))
  | 0 => fun _ _ _ r h => by simp [laws_eqStringS.l0] at h
  | k + 1 => by
    have ih0 := laws_eqStringS.mono_l k
    · intro y0 y1 y2
      unfold laws_eqStringS.l0
      repeat' first
      | (with_reducible exact ih0 _ _ _)
      | (with_reducible exact LeO.refl _)
      | (with_reducible exact LeO.none _)
      | (with_reducible refine LeO.ite ?_ ?_)
      | (with_reducible refine LeO.bind ?_ (fun _ => ?_))
      | exact ih0 _ _ _
      | exact LeO.none _
      | refine LeO.ite ?_ ?_
      | refine LeO.bind ?_ (fun _ => ?_)
theorem laws_eqStringS.mono : ∀ a0 a1 k, LeO (laws_eqStringS.f k a0 a1) (laws_eqStringS.f (k + 1) a0 a1) := by
  intro a0 a1 k
  have ih0 := laws_eqStringS.mono_l k
  unfold laws_eqStringS.f
  repeat' first
      | (with_reducible exact ih0 _ _ _)
      | (with_reducible exact LeO.refl _)
      | (with_reducible exact LeO.none _)
      | (with_reducible refine LeO.ite ?_ ?_)
      | (with_reducible refine LeO.bind ?_ (fun _ => ?_))
      | exact ih0 _ _ _
      | exact LeO.none _
      | refine LeO.ite ?_ ?_
      | refine LeO.bind ?_ (fun _ => ?_)
set_option maxHeartbeats 8000000 in
set_option maxRecDepth 100000 in
theorem laws_eqStringS.calls (k : Nat) (A0 : Option Addr) (c0 : Nat) (l0 : List ByteArray) (A1 : Option Addr) (c1 : Nat) (l1 : List ByteArray) (r : Bool) (w : World) (hr0 : Kd.C Kd.string w A0 l0.length l0) (hc0 : l0.length ≤ c0) (hr1 : Kd.C Kd.string w A1 l1.length l1) (hc1 : l1.length ≤ c1) (h : laws_eqStringS.f k l0 l1 = some r) :
    Calls Tryz.prog 16 #[.slice A0 l0.length c0, .slice A1 l1.length c1] w fun e w' => e = .returned (.bool r) ∧ Drawn0 w w' := by
  have HR0 := Aside0.mk hr0
  have HC0 := Aside0.mk hc0
  clear hr0 hc0
  have HR1 := Aside0.mk hr1
  have HC1 := Aside0.mk hc1
  clear hr1 hc1
  have H : (if (l0.length : Int) = (l1.length : Int) then (laws_eqStringS.l0 k l0 l1 0) else (some false)) = some r := h
  clear h
  by_cases c3 : (l0.length : Int) = (l1.length : Int)
  · rw [if_pos c3] at H
    have c3b0 : ((l0.length : Int) == (l1.length : Int)) = true := beq_iff_eq.mpr c3
    have c3b1 : ((l0.length : Int) != (l1.length : Int)) = false := bne_eq_false_iff_eq.mpr c3
    have c3b2 : (l0.length == l1.length) = true := by first | simpa using c3 | (simp at c3 ⊢; omega)
    clear c3
    have H' := Aside0.mk H
    clear H
    go_enter Tryz.func16, Tryz.ntmps16
    go_wp2
    repeat (go_quiet (fail); try go_wp2)
    go_loopg [5] k (fun kq v5 w' => ∃ (x5_1 : Int), v5 = .int .i64 x5_1 ∧ Aside0 (laws_eqStringS.l0 kq l0 l1 x5_1 = some r) ∧ Aside0 (kq ≤ k) ∧ Drawn0 w w')
    case atStart => exact ⟨(0), (by first | rfl | (simp; done) | (simp [*]; done)), H', ⟨Nat.le_refl _⟩, by repeat (first | exact Drawn0.refl _ | apply Drawn0.step)⟩
    case round =>
      clear H'
      try clear c1
      try clear p2
      try clear c3
      try clear c3b0
      try clear c3b1
      try clear c3b2
      obtain ⟨x5_1, rfl, HA, HK1, ⟨m1, rfl⟩⟩ := hrel
      cases gk with
      | zero => exact absurd HA.out (by simp [laws_eqStringS.l0])
      | succ k1 =>
        have H := HA.out
        clear HA
        simp only [laws_eqStringS.l0] at H
        by_cases c4 : x5_1 < (l0.length : Int)
        · rw [if_pos c4] at H
          have c4b0 : decide (x5_1 < (l0.length : Int)) = true := decide_eq_true c4
          clear c4
          by_cases c5 : 0 ≤ x5_1
          · rw [if_pos c5] at H
            have c5b0 : decide (0 ≤ x5_1) = true := decide_eq_true c5
            clear c5
            by_cases c6 : x5_1 < (l1.length : Int)
            · rw [if_pos c6] at H
              have c6b0 : decide (x5_1 < (l1.length : Int)) = true := decide_eq_true c6
              clear c6
              by_cases c7 : (rdOf ByteArray.empty l0 x5_1).toList = (rdOf ByteArray.empty l1 x5_1).toList
              · rw [if_pos c7] at H
                have c7b0 : ((rdOf ByteArray.empty l0 x5_1).toList == (rdOf ByteArray.empty l1 x5_1).toList) = true := beq_iff_eq.mpr c7
                have c7b1 : ((rdOf ByteArray.empty l0 x5_1).toList != (rdOf ByteArray.empty l1 x5_1).toList) = false := bne_eq_false_iff_eq.mpr c7
                clear c7
                have H' := Aside0.mk H
                clear H
                have p222 : 0 ≤ (x5_1 : Int) := of_decide_eq_true (by first | (with_reducible assumption) | assumption)
                have q222 : x5_1 < (l0.length : Int) := of_decide_eq_true (by first | (with_reducible assumption) | assumption)
                obtain ⟨ad222, e222, hx222_0⟩ := Kd.at_string HR0.out x5_1 p222 q222
                cases e222
                replace p222 := eq_true p222
                replace q222 := eq_true q222
                have p223 : 0 ≤ (x5_1 : Int) := of_decide_eq_true (by first | (with_reducible assumption) | assumption)
                have q223 : x5_1 < (l1.length : Int) := of_decide_eq_true (by first | (with_reducible assumption) | assumption)
                obtain ⟨ad223, e223, hx223_0⟩ := Kd.at_string HR1.out x5_1 p223 q223
                cases e223
                replace p223 := eq_true p223
                replace q223 := eq_true q223
                go_wp2
                repeat (go_quiet (fail); try go_wp2)
                go_roundg k1
                case measure => have := HK1.out; omega
                case rel => exact ⟨(wrap64 (x5_1 + 1)), (by first | rfl | (simp; done) | (simp [*]; done) | (simp only [i64_w]; done) | (simp only [i64_w]; rfl) | (simp only [decide_eq_true_eq] at *; congr 1; unfold wrap64; omega)), H', ⟨by have := HK1.out; omega⟩, by repeat (first | exact Drawn0.refl _ | apply Drawn0.step)⟩
              · rw [if_neg c7] at H
                have c7b0 : ((rdOf ByteArray.empty l0 x5_1).toList == (rdOf ByteArray.empty l1 x5_1).toList) = false := beq_eq_false_iff_ne.mpr c7
                have c7b1 : ((rdOf ByteArray.empty l0 x5_1).toList != (rdOf ByteArray.empty l1 x5_1).toList) = true := bne_iff_ne.mpr c7
                obtain rfl := Option.some.inj H
                have p222 : 0 ≤ (x5_1 : Int) := of_decide_eq_true (by first | (with_reducible assumption) | assumption)
                have q222 : x5_1 < (l0.length : Int) := of_decide_eq_true (by first | (with_reducible assumption) | assumption)
                obtain ⟨ad222, e222, hx222_0⟩ := Kd.at_string HR0.out x5_1 p222 q222
                cases e222
                replace p222 := eq_true p222
                replace q222 := eq_true q222
                have p223 : 0 ≤ (x5_1 : Int) := of_decide_eq_true (by first | (with_reducible assumption) | assumption)
                have q223 : x5_1 < (l1.length : Int) := of_decide_eq_true (by first | (with_reducible assumption) | assumption)
                obtain ⟨ad223, e223, hx223_0⟩ := Kd.at_string HR1.out x5_1 p223 q223
                cases e223
                replace p223 := eq_true p223
                replace q223 := eq_true q223
                go_wp2
                repeat (go_quiet (fail); try go_wp2)
                go_ret
                exact ⟨by first | rfl | (simp; done) | (simp [*]; done), by repeat (first | exact Drawn0.refl _ | apply Drawn0.step)⟩
            · rw [if_neg c6] at H
              exact absurd H (by simp)
          · rw [if_neg c5] at H
            exact absurd H (by simp)
        · rw [if_neg c4] at H
          have c4b0 : decide (x5_1 < (l0.length : Int)) = false := decide_eq_false c4
          clear c4
          obtain rfl := Option.some.inj H
          go_wp2
          repeat (go_quiet (fail); try go_wp2)
          go_ret
          exact ⟨by first | rfl | (simp; done) | (simp [*]; done), by repeat (first | exact Drawn0.refl _ | apply Drawn0.step)⟩
  · rw [if_neg c3] at H
    have c3b0 : ((l0.length : Int) == (l1.length : Int)) = false := beq_eq_false_iff_ne.mpr c3
    have c3b1 : ((l0.length : Int) != (l1.length : Int)) = true := bne_iff_ne.mpr c3
    have c3b2 : (l0.length == l1.length) = false := by first | simpa using c3 | (simp at c3 ⊢; omega)
    obtain rfl := Option.some.inj H
    go_enter Tryz.func16, Tryz.ntmps16
    go_wp2
    repeat (go_quiet (fail); try go_wp2)
    go_ret
    exact ⟨by first | rfl | (simp; done) | (simp [*]; done), by repeat (first | exact Drawn0.refl _ | apply Drawn0.step)⟩

end Go.Proofs.YtgaadjlcmgmfaaaGreat.PFnExactOpenMarks
