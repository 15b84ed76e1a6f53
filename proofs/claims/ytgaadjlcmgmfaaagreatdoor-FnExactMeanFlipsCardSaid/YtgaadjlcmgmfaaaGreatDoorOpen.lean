/- What came in, opened: a datum's reading gives the value's shape, a list, and what the elements are. General lemmas; no law's text. -/
import Derived.SizedLaws
import Derived.ChangeSlices
import Derived.ProofKit
import Derived.Test.YtgaadjlcmgmfaaaGreatDoorWWords
namespace Go.Proofs.YtgaadjlcmgmfaaaGreatDoor.Open
open Go.ChangeShapes Go.WideShapes Go.ChangeAt Go.Proofs.YtgaadjlcmgmfaaaGreatDoorW.PrintWords
section
variable {H : Type} {enc : TypeId × Value → H} {P : Program} {w : World} {base : Nat} {spare : Nat → Bool} {held : Bool}

theorem add_add_ (a : Addr) (x y : Nat) : (a.add x).add y = a.add (x + y) := by
  unfold Addr.add
  by_cases hx : x = 0
  · subst hx
    simp
  · by_cases hy : y = 0
    · subst hy
      simp
    · rw [if_neg hx, if_neg hy, if_neg (by omega)]
      simp only [Nat.add_assoc]
theorem el_int {t : TypeId} {k : IntKind} (ht : P.underlying t = some (.int k)) : ∀ (fuel : Nat) (cs : List Value) (y : DataW H × List MemPlace), DataW.trod enc P w base spare held fuel t cs = some y → ∃ a : Int, (Kd.int k).K w a cs ∧ (Lit.int k a).wf = true := by
  intro fuel cs y h
  obtain ⟨n, rfl, _, hw⟩ := DataW.trod_int ht h
  exact ⟨n, rfl, hw⟩
theorem el_str {t : TypeId} (ht : P.underlying t = some .string) : ∀ (fuel : Nat) (cs : List Value) (y : DataW H × List MemPlace), DataW.trod enc P w base spare held fuel t cs = some y → ∃ a : ByteArray, Kd.string.K w a cs ∧ a.size ≤ 9223372036854775807 := by
  intro fuel cs y h
  obtain ⟨s, rfl, _, hw⟩ := DataW.trod_string ht h
  unfold maxLen at hw
  exact ⟨s, rfl, by omega⟩
theorem el_bool {t : TypeId} (ht : P.underlying t = some .bool) : ∀ (fuel : Nat) (cs : List Value) (y : DataW H × List MemPlace), DataW.trod enc P w base spare held fuel t cs = some y → ∃ a : Bool, Kd.bool.K w a cs ∧ True := by
  intro fuel cs y h
  obtain ⟨s, rfl, _⟩ := DataW.trod_bool ht h
  exact ⟨s, rfl, trivial⟩
theorem el_slice {α : Type} {d : Kd α} {t e : TypeId} {Q : α → Prop} (ht : P.underlying t = some (.slice e)) (hc : P.cellsOf e = d.sz)
    (hel : ∀ (fuel : Nat) (cs : List Value) (y : DataW H × List MemPlace), DataW.trod enc P w base spare held fuel e cs = some y → ∃ a, d.K w a cs ∧ Q a) :
    ∀ (fuel : Nat) (cs : List Value) (y : DataW H × List MemPlace), DataW.trod enc P w base spare held fuel t cs = some y → ∃ a : List α, (Kd.slice e d).K w a cs ∧ a.length ≤ 9223372036854775807 ∧ ∀ z ∈ a, Q z := by
  intro fuel cs y h
  rcases DataW.trod_slice ht h with ⟨rfl, _⟩ | ⟨a, len, cap, elems, rest, n, _, rfl, _, _, hl, hm, hlen, hel', _⟩
  · exact ⟨[], ⟨none, 0, rfl, Nat.le_refl _, rfl, by simp, fun h => absurd h (by simp)⟩, by simp, by simp⟩
  · have each : ∀ i, i < len → ∃ z : α, Q z ∧ ∃ c : List Value, c.length = d.sz ∧ d.K w z c ∧ ∀ j u, c[j]? = some u → w.cell? (a.add (i * d.sz + j)) = some u := by
      intro i hi
      have h1 := hel' i hi
      rw [List.getElem?_eq_getElem (by omega), Option.bind_eq_some_iff] at h1
      obtain ⟨c, hcs, ht'⟩ := h1
      obtain ⟨z, hz, hq⟩ := hel _ _ _ ht'
      obtain ⟨_, hlc, hcell⟩ := World.cells?_some hcs
      refine ⟨z, hq, c, d.K_len hz, hz, fun j u hu => ?_⟩
      have hj : j < c.length := (List.getElem?_eq_some_iff.1 hu).1
      have h2 := hcell j (by omega)
      rw [hc, hu] at h2
      rw [← h2]
      rw [add_add_ a _ _]
    have ex : ∃ xs : List α, xs.length = len ∧ ∀ i z, xs[i]? = some z → Q z ∧ ∃ c : List Value, c.length = d.sz ∧ d.K w z c ∧ ∀ j u, c[j]? = some u → w.cell? (a.add (i * d.sz + j)) = some u := by
      refine ⟨List.ofFn (fun i : Fin len => Classical.choose (each i.val i.isLt)), by simp, ?_⟩
      intro i z hz
      rw [List.getElem?_ofFn] at hz
      split at hz
      · rename_i hi
        obtain rfl := Option.some.inj hz
        exact Classical.choose_spec (each i hi)
      · cases hz
    obtain ⟨xs, rfl, hx⟩ := ex
    unfold maxLen at hm
    refine ⟨xs, ⟨some a, cap, rfl, hl, rfl, by omega, fun _ => ⟨a, rfl, fun j p hp => (hx j p hp).2⟩⟩, by omega, fun z hz => ?_⟩
    obtain ⟨i, hi⟩ := List.getElem?_of_mem hz
    exact (hx i z hi).1
theorem top_slice {α : Type} {d : Kd α} {r : Reach} {b0 : Nat} {t e : TypeId} {Q : List α → Prop} {v : Value} {x : DataW H} {ps : List MemPlace} (ht : P.underlying t = some (.slice e)) (hval : Value.okWide P w r b0 t v)
    (hel : ∀ (fuel : Nat) (cs : List Value) (y : DataW H × List MemPlace), DataW.trod enc P w base spare held fuel t cs = some y → ∃ a : List α, (Kd.slice e d).K w a cs ∧ Q a)
    (h : DataW.Trod enc P w base spare held t v x ps) : ∃ A c, ∃ xs : List α, v = .slice A xs.length c ∧ xs.length ≤ c ∧ d.C w A xs.length xs ∧ Q xs := by
  obtain ⟨A, len, cap, rfl⟩ := okWide_slice ht hval
  obtain ⟨fuel, hf⟩ := h
  obtain ⟨a, ⟨A', c', he, hl, hr⟩, hq⟩ := hel _ _ _ hf
  simp only [Value.cells] at he
  injection he with he _
  injection he with h1 h2 h3
  subst h1; subst h2; subst h3
  exact ⟨A, cap, a, rfl, hl, hr, hq⟩
theorem top_struct {α : Type} {K : α → List Value → Prop} {r : Reach} {b0 : Nat} {t : TypeId} {fs : Array Field} {Q : α → Prop} {v : Value} {x : DataW H} {ps : List MemPlace} (ht : P.underlying t = some (.struct fs)) (hval : Value.okWide P w r b0 t v)
    (hel : ∀ (fuel : Nat) (cs : List Value) (y : DataW H × List MemPlace), DataW.trod enc P w base spare held fuel t cs = some y → ∃ a, K a cs ∧ Q a)
    (h : DataW.Trod enc P w base spare held t v x ps) : ∃ cs, v = .agg cs ∧ ∃ a, K a cs.toList ∧ Q a := by
  obtain ⟨cs, rfl, _⟩ := okWide_struct ht hval
  obtain ⟨fuel, hf⟩ := h
  exact ⟨cs, rfl, hel _ _ _ hf⟩
end
theorem arr_eq {α : Type} {cs : Array α} {l : List α} (h : cs.toList = l) : cs = l.toArray := by
  subst h
  simp
theorem list1 {α : Type} {l : List α} (h : l.length = 1) : ∃ a, l = [a] := by
  match l, h with
  | [a], _ => exact ⟨a, rfl⟩
theorem list2 {α : Type} {l : List α} (h : l.length = 2) : ∃ a b, l = [a, b] := by
  match l, h with
  | [a, b], _ => exact ⟨a, b, rfl⟩
theorem list3 {α : Type} {l : List α} (h : l.length = 3) : ∃ a b c, l = [a, b, c] := by
  match l, h with
  | [a, b, c], _ => exact ⟨a, b, c, rfl⟩
theorem list4 {α : Type} {l : List α} (h : l.length = 4) : ∃ a b c d, l = [a, b, c, d] := by
  match l, h with
  | [a, b, c, d], _ => exact ⟨a, b, c, d, rfl⟩
end Go.Proofs.YtgaadjlcmgmfaaaGreatDoor.Open
