/- How a law's arguments open: structs, slices of structs, of strings and of numbers. Laid by pr.py. -/
import Derived.Test.YtkhaofalaikegaaFGx0
import Derived.ProofKit
import Derived.OpenShut
import Derived.ChangeOld
import Derived.SizedLaws
import Derived.Deep.Slices
import Derived.KernelRfl
namespace Go.Proofs.Ytkhaofalaikegaa.FG.Open
open Go.ChangeShapes Go.WideShapes Go.RowKit Go.Proofs.Ytkhaofalaikegaa.FG Go.Proofs.YtkhaofalaikegaaW.PrintWords
set_option linter.unusedVariables false
set_option maxRecDepth 100000
theorem list2 {α : Type} : ∀ {l : List α}, l.length = 2 → ∃ c0 c1, l = [c0, c1]
  | [c0, c1], _ => ⟨c0, c1, rfl⟩
theorem cellsOf3 : Try.prog.cellsOf 3 = 1 := by kernel_rfl
theorem cellsOf9 : Try.prog.cellsOf 9 = 1 := by kernel_rfl
theorem choose_list {α : Type} (P : Nat → α → Prop) : ∀ n, (∀ i, i < n → ∃ x, P i x) → ∃ l : List α, l.length = n ∧ ∀ i x, l[i]? = some x → P i x
  | 0, _ => ⟨[], rfl, fun i x h => by simp at h⟩
  | n + 1, h => by
    obtain ⟨l, hl, hp⟩ := choose_list P n (fun i hi => h i (by omega))
    obtain ⟨x, hx⟩ := h n (by omega)
    refine ⟨l ++ [x], by simp [hl], fun i y hy => ?_⟩
    rcases Nat.lt_or_ge i n with hi | hi
    · rw [List.getElem?_append_left (by omega)] at hy
      exact hp i y hy
    · have hlt := (List.getElem?_eq_some_iff.1 hy).1
      rw [List.length_append, List.length_singleton] at hlt
      obtain rfl : i = n := by omega
      rw [List.getElem?_append_right (by omega), hl, Nat.sub_self] at hy
      obtain rfl : x = y := by simpa using hy
      exact hx
theorem open_rows {α : Type} (d : Kd α) (Q : α → Prop) {H : Type} {enc : TypeId × Value → H} {w : World} {spare : Nat → Bool} {held : Bool} {t e : TypeId} (ht : Try.prog.underlying t = some (.slice e)) (hc : Try.prog.cellsOf e = d.sz)
    (hopen : ∀ fuel cs y, DataW.trod enc Try.prog w 0 spare held fuel e cs = some y → ∃ x, d.K w x cs ∧ Q x) {A : Option Addr} {len cap : Nat} {dd : DataW H} {p : List MemPlace}
    (h : DataW.Trod enc Try.prog w 0 spare held t (.slice A len cap) dd p) : ∃ l : List α, l.length = len ∧ d.C w A l.length l ∧ l.length ≤ cap ∧ ∀ x ∈ l, Q x := by
  obtain ⟨fuel, hf⟩ := h
  rcases DataW.trod_slice ht hf with ⟨hcs, _⟩ | ⟨a, len', cap', elems, rest, n, _, hcs, _, _, hl, hm, hel, hi, _, _⟩
  · simp [Value.cells] at hcs
    obtain ⟨rfl, rfl, rfl⟩ := hcs
    exact ⟨[], rfl, ⟨rfl, by simp, fun h => absurd h (by simp)⟩, by simp, fun x hx => by simp at hx⟩
  · simp [Value.cells] at hcs
    obtain ⟨rfl, rfl, rfl⟩ := hcs
    have hx : ∀ i, i < len → ∃ x : α, Q x ∧ ∃ c : List Value, c.length = d.sz ∧ d.K w x c ∧ ∀ j u, c[j]? = some u → w.cell? (a.add (i * d.sz + j)) = some u := by
      intro i hlt
      have hi2 := hi i hlt
      obtain ⟨z, hz⟩ : ∃ z, elems[i]? = some z := ⟨_, List.getElem?_eq_getElem (by omega)⟩
      rw [hz] at hi2
      obtain ⟨cs, hcs, ht2⟩ := Option.bind_eq_some_iff.1 hi2
      rw [hc] at hcs
      obtain ⟨x, hk, hq⟩ := hopen _ _ _ ht2
      obtain ⟨_, hlen, hat⟩ := World.cells?_some hcs
      refine ⟨x, hq, cs, by simpa using hlen, hk, fun j u hu => ?_⟩
      have hj := (List.getElem?_eq_some_iff.1 hu).1
      have h2 := hat j (by omega)
      rw [hu, Go.Deep.add_add] at h2
      exact h2
    obtain ⟨l, hll, hp⟩ := choose_list _ len hx
    subst hll
    refine ⟨l, rfl, ⟨rfl, by simp only [maxLen] at hm; omega, fun _ => ⟨a, rfl, fun j p hj => ?_⟩⟩, hl, fun x hxm => ?_⟩
    · obtain ⟨_, c, h1, h2, h3⟩ := hp j p hj
      exact ⟨c, h1, h2, h3⟩
    · obtain ⟨i, hi3, rfl⟩ := List.getElem_of_mem hxm
      exact (hp i _ (List.getElem?_eq_getElem hi3)).1
theorem sized_any {H : Type} {enc : TypeId × Value → H} {W : World} {base : Nat} {spare : Nat → Bool} {held : Bool} {t e : TypeId} {a : Option Addr} {len cap : Nat} {d : DataW H} {ps : List MemPlace} {ts : List TypeId} {ds : List (DataW H)} {j : Nat}
    (hsz : (DataW.weightsEach Try.prog ts ds).all (· ≤ reachBytes) = true) (ht : ts[j]? = some t) (hd : ds[j]? = some d) (hu : Try.prog.underlying t = some (.slice e)) {B : Nat} (hB : Try.prog.bytesOf e = B)
    (h : DataW.Trod enc Try.prog W base spare held t (.slice a len cap) d ps) : len * B ≤ 140737488351232 := by
  obtain ⟨fuel, hf⟩ := h
  rcases DataW.trod_slice hu hf with ⟨hcs, _⟩ | ⟨a', len', cap', elems, rest, n, _, hcs, hx, _, hl, hm, hel, _⟩
  · simp [Value.cells] at hcs
    obtain ⟨rfl, rfl, rfl⟩ := hcs
    simp
  · simp [Value.cells] at hcs
    obtain ⟨rfl, rfl, rfl⟩ := hcs
    obtain ⟨hx1, _⟩ := Prod.mk.inj hx
    subst hx1
    have z := sized_slice hsz ht hd hu
    rw [hB, List.length_map, List.length_map] at z
    have z2 : len * B ≤ (elems.length + rest.length) * B := Nat.mul_le_mul_right _ (by omega)
    exact Nat.le_trans z2 z

theorem cells23 {H : Type} {enc : TypeId × Value → H} {w : World} {base : Nat} {spare : Nat → Bool} {held : Bool} {fuel : Nat} {cs : List Value} {y : DataW H × List MemPlace} (h : DataW.trod enc Try.prog w base spare held fuel 23 cs = some y) :
    ∃ (b0 : ByteArray) (b1 : Int), cs = [.string b0, .int .i64 b1] ∧ b0.size ≤ maxLen ∧ (Lit.int .i64 b1).wf = true := by
  obtain ⟨xs, n, _, _, hl, hx, hg⟩ := DataW.trod_struct Try.underlying23 h
  have hl2 : cs.length = 2 := hl.trans (by kernel_rfl)
  have hx2 : xs.length = 2 := hx
  obtain ⟨c0, c1, rfl⟩ := list2 hl2
  obtain ⟨z0, hz0⟩ : ∃ z, xs[0]? = some z := ⟨_, List.getElem?_eq_getElem (by omega)⟩
  have g0 : DataW.trod enc Try.prog w base spare held n 9 [c0] = some z0 := by
    have g : DataW.trod enc Try.prog w base spare held n 9 (([c0, c1].drop 0).take (Try.prog.cellsOf 9)) = xs[0]? := hg 0 _ rfl
    rw [cellsOf9] at g
    exact g.trans hz0
  obtain ⟨b0, e0, _, hw0⟩ := DataW.trod_string Try.underlying9 g0
  have s0 := List.head_eq_of_cons_eq e0
  obtain ⟨z1, hz1⟩ : ∃ z, xs[1]? = some z := ⟨_, List.getElem?_eq_getElem (by omega)⟩
  have g1 : DataW.trod enc Try.prog w base spare held n 3 [c1] = some z1 := by
    have g : DataW.trod enc Try.prog w base spare held n 3 (([c0, c1].drop 1).take (Try.prog.cellsOf 3)) = xs[1]? := hg 1 _ rfl
    rw [cellsOf3] at g
    exact g.trans hz1
  obtain ⟨b1, e1, _, hw1⟩ := DataW.trod_int Try.underlying3 g1
  have s1 := List.head_eq_of_cons_eq e1
  subst s0 s1
  exact ⟨b0, b1, rfl, hw0, hw1⟩
theorem open23 {H : Type} {enc : TypeId × Value → H} {w : World} {base b0 : Nat} {spare : Nat → Bool} {held : Bool} {v : Value} {d : DataW H} {p : List MemPlace} (hv : Value.okWide Try.prog w .any b0 23 v) (h : DataW.Trod enc Try.prog w base spare held 23 v d p) :
    ∃ (b0 : ByteArray) (b1 : Int), v = .agg #[.string b0, .int .i64 b1] ∧ b0.size ≤ maxLen ∧ (Lit.int .i64 b1).wf = true := by
  obtain ⟨cs, rfl, _⟩ := okWide_struct Try.underlying23 hv
  obtain ⟨l⟩ := cs
  obtain ⟨fuel, hf⟩ := h
  obtain ⟨b0, b1, hc, hw⟩ := cells23 (cs := l) (by simpa [Value.cells] using hf)
  subst hc
  exact ⟨b0, b1, rfl, hw⟩
end Go.Proofs.Ytkhaofalaikegaa.FG.Open
