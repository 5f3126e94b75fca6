/- How a law's arguments open: structs, slices of structs, of strings and of numbers. Laid by pr.py. -/
import Derived.Test.YtopmmmggjohkeaaDoorFAx0
import Derived.ProofKit
import Derived.OpenShut
import Derived.ChangeOld
import Derived.SizedLaws
import Derived.Deep.Slices
import Derived.KernelRfl
namespace Go.Proofs.YtopmmmggjohkeaaDoor.FA.Open
open Go.ChangeShapes Go.WideShapes Go.RowKit Go.Proofs.YtopmmmggjohkeaaDoor.FA Go.Proofs.YtopmmmggjohkeaaDoorW.PrintWords
set_option linter.unusedVariables false
set_option maxRecDepth 100000
theorem choose_list {α : Type} (P : Nat → α → Prop) : ∀ n, (∀ i, i < n → ∃ x, P i x) → ∃ l : List α, l.length = n ∧ ∀ i x, l[i]? = some x → P i x
  | 0, _ => ⟨[], rfl, fun i x h => by simp at h⟩
  | n + 1, h => by
    obtain ⟨l, hl, hp⟩ := choose_list P n (fun i hi => h i (by omega))
    obtain ⟨x, hx⟩ := h n (by omega)
    refine ⟨l ++ [x], by simp [hl], fun i y hy => ?_⟩
    rcases Nat.lt_or_ge i n with hi | hi
    · rw [List.getElem?_append_left (by omega)] at hy
      exact hp i y hy
    · have hlt := (List.getElem?_eq_some_iff.1 hy).1
      rw [List.length_append, List.length_singleton] at hlt
      obtain rfl : i = n := by omega
      rw [List.getElem?_append_right (by omega), hl, Nat.sub_self] at hy
      obtain rfl : x = y := by simpa using hy
      exact hx
theorem open_rows {α : Type} (d : Kd α) (Q : α → Prop) {H : Type} {enc : TypeId × Value → H} {w : World} {spare : Nat → Bool} {held : Bool} {t e : TypeId} (ht : Tryd.prog.underlying t = some (.slice e)) (hc : Tryd.prog.cellsOf e = d.sz)
    (hopen : ∀ fuel cs y, DataW.trod enc Tryd.prog w 0 spare held fuel e cs = some y → ∃ x, d.K w x cs ∧ Q x) {A : Option Addr} {len cap : Nat} {dd : DataW H} {p : List MemPlace}
    (h : DataW.Trod enc Tryd.prog w 0 spare held t (.slice A len cap) dd p) : ∃ l : List α, l.length = len ∧ d.C w A l.length l ∧ l.length ≤ cap ∧ ∀ x ∈ l, Q x := by
  obtain ⟨fuel, hf⟩ := h
  rcases DataW.trod_slice ht hf with ⟨hcs, _⟩ | ⟨a, len', cap', elems, rest, n, _, hcs, _, _, hl, hm, hel, hi, _, _⟩
  · simp [Value.cells] at hcs
    obtain ⟨rfl, rfl, rfl⟩ := hcs
    exact ⟨[], rfl, ⟨rfl, by simp, fun h => absurd h (by simp)⟩, by simp, fun x hx => by simp at hx⟩
  · simp [Value.cells] at hcs
    obtain ⟨rfl, rfl, rfl⟩ := hcs
    have hx : ∀ i, i < len → ∃ x : α, Q x ∧ ∃ c : List Value, c.length = d.sz ∧ d.K w x c ∧ ∀ j u, c[j]? = some u → w.cell? (a.add (i * d.sz + j)) = some u := by
      intro i hlt
      have hi2 := hi i hlt
      obtain ⟨z, hz⟩ : ∃ z, elems[i]? = some z := ⟨_, List.getElem?_eq_getElem (by omega)⟩
      rw [hz] at hi2
      obtain ⟨cs, hcs, ht2⟩ := Option.bind_eq_some_iff.1 hi2
      rw [hc] at hcs
      obtain ⟨x, hk, hq⟩ := hopen _ _ _ ht2
      obtain ⟨_, hlen, hat⟩ := World.cells?_some hcs
      refine ⟨x, hq, cs, by simpa using hlen, hk, fun j u hu => ?_⟩
      have hj := (List.getElem?_eq_some_iff.1 hu).1
      have h2 := hat j (by omega)
      rw [hu, Go.Deep.add_add] at h2
      exact h2
    obtain ⟨l, hll, hp⟩ := choose_list _ len hx
    subst hll
    refine ⟨l, rfl, ⟨rfl, by simp only [maxLen] at hm; omega, fun _ => ⟨a, rfl, fun j p hj => ?_⟩⟩, hl, fun x hxm => ?_⟩
    · obtain ⟨_, c, h1, h2, h3⟩ := hp j p hj
      exact ⟨c, h1, h2, h3⟩
    · obtain ⟨i, hi3, rfl⟩ := List.getElem_of_mem hxm
      exact (hp i _ (List.getElem?_eq_getElem hi3)).1
theorem sized_any {H : Type} {enc : TypeId × Value → H} {W : World} {base : Nat} {spare : Nat → Bool} {held : Bool} {t e : TypeId} {a : Option Addr} {len cap : Nat} {d : DataW H} {ps : List MemPlace} {ts : List TypeId} {ds : List (DataW H)} {j : Nat}
    (hsz : (DataW.weightsEach Tryd.prog ts ds).all (· ≤ reachBytes) = true) (ht : ts[j]? = some t) (hd : ds[j]? = some d) (hu : Tryd.prog.underlying t = some (.slice e)) {B : Nat} (hB : Tryd.prog.bytesOf e = B)
    (h : DataW.Trod enc Tryd.prog W base spare held t (.slice a len cap) d ps) : len * B ≤ 140737488351232 := by
  obtain ⟨fuel, hf⟩ := h
  rcases DataW.trod_slice hu hf with ⟨hcs, _⟩ | ⟨a', len', cap', elems, rest, n, _, hcs, hx, _, hl, hm, hel, _⟩
  · simp [Value.cells] at hcs
    obtain ⟨rfl, rfl, rfl⟩ := hcs
    simp
  · simp [Value.cells] at hcs
    obtain ⟨rfl, rfl, rfl⟩ := hcs
    obtain ⟨hx1, _⟩ := Prod.mk.inj hx
    subst hx1
    have z := sized_slice hsz ht hd hu
    rw [hB, List.length_map, List.length_map] at z
    have z2 : len * B ≤ (elems.length + rest.length) * B := Nat.mul_le_mul_right _ (by omega)
    exact Nat.le_trans z2 z

end Go.Proofs.YtopmmmggjohkeaaDoor.FA.Open
