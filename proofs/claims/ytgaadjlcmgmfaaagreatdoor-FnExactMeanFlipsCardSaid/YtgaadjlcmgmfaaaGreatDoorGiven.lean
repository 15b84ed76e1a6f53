/- Rows of a call's own, in the words of the library's contracts: what a row holds, and what is left of it behind a call that writes it. General lemmas; no law's text. -/
import Derived.Sort.Grow
import Derived.Test.YtgaadjlcmgmfaaaGreatDoorWWords
import Derived.Test.YtgaadjlcmgmfaaaGreatDoorWKept
namespace Go.Proofs.YtgaadjlcmgmfaaaGreatDoor.Given
open Go.Sort Go.Proofs.YtgaadjlcmgmfaaaGreatDoorW.PrintWords
section
variable {α : Type} [Inhabited α] {enc : α → Value} {h1 : ∀ x, (enc x).oneCell' = true} {e : Nat} {w w0 : World} {base : Nat} {ok P : Nat → Prop} {v : Value} {xs : List α}
theorem row_open (h : (Kd.scalar enc h1).R e w base ok v xs) : (v = .slice none 0 0 ∧ xs = []) ∨ ∃ g cap cur, v = .slice (some ⟨g, 0, none⟩) xs.length cap ∧ ok g ∧ base ≤ g ∧ g < w.heap.size ∧ w.heap[g]? = some (.cells cur e (0, 0)) ∧ xs.length ≤ cap ∧ cap ≤ maxLen ∧ cur.size = cap ∧ Holds enc w g 0 xs.toArray := by
  have ho := Kd.own_of_R h
  rcases ho.2 with ⟨rfl, hz⟩ | ⟨g, cap, cur, rfl, hg, hh, hnc, hcm, hcs, ht⟩
  · exact .inl ⟨rfl, List.eq_nil_of_length_eq_zero hz⟩
  · refine .inr ⟨g, cap, cur, rfl, h.1 g rfl, hg, (Array.getElem?_eq_some_iff.1 hh).1, hh, hnc, hcm, by omega, fun j hj => ?_⟩
    have hj' : j < xs.length := by simpa using hj
    refine ⟨?_, by simp [World.frozen?, hh]⟩
    have h1 : (cur.toList.take (xs.length * 1))[j]? = (encs enc xs)[j]? := by rw [ht]
    rw [List.getElem?_take_of_lt (by omega)] at h1
    simp only [World.cell?, hh, Nat.zero_add]
    simp only [Option.isSome_none, Bool.false_eq_true, if_false]
    rw [← Array.getElem?_toList, h1]
    simp [encs, hj']
theorem heap_put {g n : Nat} {os : Array Obj} {cur : Array Value} {fr : Nat × Nat} (d : Array α) (hb : w.heap[g]? = some (.cells cur e fr)) :
    (grow (putRow enc (Sort.ahead w n) g 0 d) os).heap[g]? = some (.cells (putCells enc 0 d cur) e fr) := by
  have hg : g < w.heap.size := (Array.getElem?_eq_some_iff.1 hb).1
  rw [heap_grow_old _ _ (by simpa using hg)]
  simp [putRow, mapBlock, Sort.ahead, Array.getElem?_modify, hb, onCells]
theorem grown_put {g n : Nat} {os : Array Obj} (d : Array α) : w.grownBy (grow (putRow enc (Sort.ahead w n) g 0 d) os) (some g) := by
  refine ⟨rfl, rfl, rfl, by simp, fun k hk hne => ?_⟩
  rw [heap_grow_old _ _ (by simpa using hk)]
  have : g ≠ k := fun e => hne (by rw [e])
  simp [putRow, mapBlock, Sort.ahead, Array.getElem?_modify, this]
theorem take_put (cur : Array Value) (zs : List α) (h : zs.length ≤ cur.size) (m : Nat) (hm : m ≤ zs.length) : (putCells enc 0 zs.toArray cur).toList.take m = encs enc (zs.take m) := by
  apply List.ext_getElem?
  intro j
  by_cases hj : j < m
  · rw [List.getElem?_take_of_lt hj, Array.getElem?_toList]
    simp [putCells, encs, hj, show j < zs.length by omega, show j < cur.size by omega]
  · rw [List.getElem?_take_eq_none (by omega), List.getElem?_eq_none (by simp [encs]; omega)]
/-- Behind a call that wrote a row of the call's own: what it holds now (the first m of zs), and what is as it was. -/
theorem row_put {g cap n m : Nat} {os : Array Obj} {cur : Array Value} {zs : List α} (hB : Go.RowKit.Below w0.heap.size w0 w) (hP : P g) (hg : w0.heap.size ≤ g) (hh : w.heap[g]? = some (.cells cur e (0, 0))) (hcm : cap ≤ maxLen) (hcs : cur.size = cap) (hz : zs.length ≤ cap) (hm : m ≤ zs.length) :
    (Kd.scalar enc h1).R e (grow (putRow enc (Sort.ahead w n) g 0 zs.toArray) os) w0.heap.size (fun k_ => (P k_ ∨ w.heap.size ≤ k_)) (.slice (some ⟨g, 0, none⟩) m cap) (zs.take m) ∧ Go.RowKit.Below w0.heap.size w0 (grow (putRow enc (Sort.ahead w n) g 0 zs.toArray) os) ∧ Kept w (grow (putRow enc (Sort.ahead w n) g 0 zs.toArray) os) (fun k_ => P k_) := by
  have hl : (zs.take m).length = m := by rw [List.length_take]; omega
  refine ⟨Kd.R_of_own ⟨by simp [encs], .inr ⟨g, cap, _, by rw [hl], hg, heap_put _ hh, by omega, hcm, by simp [putCells, hcs], ?_⟩⟩ ?_, ?_, ?_⟩
  · rw [hl, Nat.mul_one]
    exact take_put cur zs (by omega) m hm
  · intro k hk
    have : g = k := by simpa [Value.ownBlock] using hk
    subst this
    exact .inl hP
  · exact hB.grown (grown_put _) hB.size (fun j hj => by cases hj; exact hg)
  · exact Kept.of_grown (grown_put _) (Kept.refl w _) (fun k hk => by cases hk; exact .inl hP)
end
section
variable {α : Type} {enc : α → Value} {h1 : ∀ x, (enc x).oneCell' = true} {w : World} {xs : List α}
theorem base_of_C {A : Option Addr} {n : Nat} (h : (Kd.scalar enc h1).C w A n xs) (hn : 0 < n) : ∃ b off, A = some ⟨b, off, none⟩ ∧ b < w.heap.size ∧ ∀ (j : Nat) x, xs[j]? = some x → w.cell? ⟨b, off + j, none⟩ = some (enc x) := by
  obtain ⟨hl, _, hr⟩ := h
  obtain ⟨ad, rfl, hc⟩ := hr hn
  have each : ∀ (j : Nat) x, xs[j]? = some x → w.cell? (ad.add j) = some (enc x) := by
    intro j x hx
    obtain ⟨c, _, he, hu⟩ := hc j x hx
    have he : c = [enc x] := he
    subst he
    have h2 := hu 0 (enc x) rfl
    have h3 : (Kd.scalar enc h1).sz = 1 := rfl
    rw [h3, Nat.mul_one, Nat.add_zero] at h2
    exact h2
  have h0 := each 0 _ (List.getElem?_eq_getElem (by omega))
  have e0 : ad.add 0 = ad := rfl
  rw [e0] at h0
  have hs : ad.spot = none := by
    unfold World.cell? at h0
    split at h0
    · cases hs : ad.spot with
      | none => rfl
      | some q => simp [hs] at h0
    · cases h0
  obtain ⟨b, off, spot⟩ := ad
  cases hs
  refine ⟨b, off, rfl, World.block_lt_of_cell? w _ h0, fun j x hx => ?_⟩
  have h2 := each j x hx
  unfold Addr.add at h2
  by_cases hj : j = 0
  · subst hj
    rw [if_pos rfl] at h2
    exact h2
  · rw [if_neg hj] at h2
    exact h2
end
end Go.Proofs.YtgaadjlcmgmfaaaGreatDoor.Given
