/- How a law's arguments open: structs, slices of structs, of strings and of numbers. Laid by pr.py. -/
import Derived.Test.YtkhaofalaikegaaFBx0
import Derived.ProofKit
import Derived.OpenShut
import Derived.ChangeOld
import Derived.SizedLaws
import Derived.Deep.Slices
import Derived.KernelRfl
namespace Go.Proofs.Ytkhaofalaikegaa.FB.Open
open Go.ChangeShapes Go.WideShapes Go.RowKit Go.Proofs.Ytkhaofalaikegaa.FB Go.Proofs.YtkhaofalaikegaaW.PrintWords
set_option linter.unusedVariables false
set_option maxRecDepth 100000
theorem list2 {α : Type} : ∀ {l : List α}, l.length = 2 → ∃ c0 c1, l = [c0, c1]
  | [c0, c1], _ => ⟨c0, c1, rfl⟩
theorem list3 {α : Type} : ∀ {l : List α}, l.length = 3 → ∃ c0 c1 c2, l = [c0, c1, c2]
  | [c0, c1, c2], _ => ⟨c0, c1, c2, rfl⟩
theorem list6 {α : Type} : ∀ {l : List α}, l.length = 6 → ∃ c0 c1 c2 c3 c4 c5, l = [c0, c1, c2, c3, c4, c5]
  | [c0, c1, c2, c3, c4, c5], _ => ⟨c0, c1, c2, c3, c4, c5, rfl⟩
theorem list13 {α : Type} : ∀ {l : List α}, l.length = 13 → ∃ c0 c1 c2 c3 c4 c5 c6 c7 c8 c9 c10 c11 c12, l = [c0, c1, c2, c3, c4, c5, c6, c7, c8, c9, c10, c11, c12]
  | [c0, c1, c2, c3, c4, c5, c6, c7, c8, c9, c10, c11, c12], _ => ⟨c0, c1, c2, c3, c4, c5, c6, c7, c8, c9, c10, c11, c12, rfl⟩
theorem cellsOf3 : Try.prog.cellsOf 3 = 1 := by kernel_rfl
theorem cellsOf4 : Try.prog.cellsOf 4 = 1 := by kernel_rfl
theorem cellsOf9 : Try.prog.cellsOf 9 = 1 := by kernel_rfl
theorem cellsOf23 : Try.prog.cellsOf 23 = 2 := by kernel_rfl
theorem cellsOf39 : Try.prog.cellsOf 39 = 6 := by kernel_rfl
theorem cellsOf41 : Try.prog.cellsOf 41 = 2 := by kernel_rfl
theorem cellsOf43 : Try.prog.cellsOf 43 = 3 := by kernel_rfl
theorem choose_list {α : Type} (P : Nat → α → Prop) : ∀ n, (∀ i, i < n → ∃ x, P i x) → ∃ l : List α, l.length = n ∧ ∀ i x, l[i]? = some x → P i x
  | 0, _ => ⟨[], rfl, fun i x h => by simp at h⟩
  | n + 1, h => by
    obtain ⟨l, hl, hp⟩ := choose_list P n (fun i hi => h i (by omega))
    obtain ⟨x, hx⟩ := h n (by omega)
    refine ⟨l ++ [x], by simp [hl], fun i y hy => ?_⟩
    rcases Nat.lt_or_ge i n with hi | hi
    · rw [List.getElem?_append_left (by omega)] at hy
      exact hp i y hy
    · have hlt := (List.getElem?_eq_some_iff.1 hy).1
      rw [List.length_append, List.length_singleton] at hlt
      obtain rfl : i = n := by omega
      rw [List.getElem?_append_right (by omega), hl, Nat.sub_self] at hy
      obtain rfl : x = y := by simpa using hy
      exact hx
theorem open_rows {α : Type} (d : Kd α) (Q : α → Prop) {H : Type} {enc : TypeId × Value → H} {w : World} {spare : Nat → Bool} {held : Bool} {t e : TypeId} (ht : Try.prog.underlying t = some (.slice e)) (hc : Try.prog.cellsOf e = d.sz)
    (hopen : ∀ fuel cs y, DataW.trod enc Try.prog w 0 spare held fuel e cs = some y → ∃ x, d.K w x cs ∧ Q x) {A : Option Addr} {len cap : Nat} {dd : DataW H} {p : List MemPlace}
    (h : DataW.Trod enc Try.prog w 0 spare held t (.slice A len cap) dd p) : ∃ l : List α, l.length = len ∧ d.C w A l.length l ∧ l.length ≤ cap ∧ ∀ x ∈ l, Q x := by
  obtain ⟨fuel, hf⟩ := h
  rcases DataW.trod_slice ht hf with ⟨hcs, _⟩ | ⟨a, len', cap', elems, rest, n, _, hcs, _, _, hl, hm, hel, hi, _, _⟩
  · simp [Value.cells] at hcs
    obtain ⟨rfl, rfl, rfl⟩ := hcs
    exact ⟨[], rfl, ⟨rfl, by simp, fun h => absurd h (by simp)⟩, by simp, fun x hx => by simp at hx⟩
  · simp [Value.cells] at hcs
    obtain ⟨rfl, rfl, rfl⟩ := hcs
    have hx : ∀ i, i < len → ∃ x : α, Q x ∧ ∃ c : List Value, c.length = d.sz ∧ d.K w x c ∧ ∀ j u, c[j]? = some u → w.cell? (a.add (i * d.sz + j)) = some u := by
      intro i hlt
      have hi2 := hi i hlt
      obtain ⟨z, hz⟩ : ∃ z, elems[i]? = some z := ⟨_, List.getElem?_eq_getElem (by omega)⟩
      rw [hz] at hi2
      obtain ⟨cs, hcs, ht2⟩ := Option.bind_eq_some_iff.1 hi2
      rw [hc] at hcs
      obtain ⟨x, hk, hq⟩ := hopen _ _ _ ht2
      obtain ⟨_, hlen, hat⟩ := World.cells?_some hcs
      refine ⟨x, hq, cs, by simpa using hlen, hk, fun j u hu => ?_⟩
      have hj := (List.getElem?_eq_some_iff.1 hu).1
      have h2 := hat j (by omega)
      rw [hu, Go.Deep.add_add] at h2
      exact h2
    obtain ⟨l, hll, hp⟩ := choose_list _ len hx
    subst hll
    refine ⟨l, rfl, ⟨rfl, by simp only [maxLen] at hm; omega, fun _ => ⟨a, rfl, fun j p hj => ?_⟩⟩, hl, fun x hxm => ?_⟩
    · obtain ⟨_, c, h1, h2, h3⟩ := hp j p hj
      exact ⟨c, h1, h2, h3⟩
    · obtain ⟨i, hi3, rfl⟩ := List.getElem_of_mem hxm
      exact (hp i _ (List.getElem?_eq_getElem hi3)).1
theorem sized_any {H : Type} {enc : TypeId × Value → H} {W : World} {base : Nat} {spare : Nat → Bool} {held : Bool} {t e : TypeId} {a : Option Addr} {len cap : Nat} {d : DataW H} {ps : List MemPlace} {ts : List TypeId} {ds : List (DataW H)} {j : Nat}
    (hsz : (DataW.weightsEach Try.prog ts ds).all (· ≤ reachBytes) = true) (ht : ts[j]? = some t) (hd : ds[j]? = some d) (hu : Try.prog.underlying t = some (.slice e)) {B : Nat} (hB : Try.prog.bytesOf e = B)
    (h : DataW.Trod enc Try.prog W base spare held t (.slice a len cap) d ps) : len * B ≤ 140737488351232 := by
  obtain ⟨fuel, hf⟩ := h
  rcases DataW.trod_slice hu hf with ⟨hcs, _⟩ | ⟨a', len', cap', elems, rest, n, _, hcs, hx, _, hl, hm, hel, _⟩
  · simp [Value.cells] at hcs
    obtain ⟨rfl, rfl, rfl⟩ := hcs
    simp
  · simp [Value.cells] at hcs
    obtain ⟨rfl, rfl, rfl⟩ := hcs
    obtain ⟨hx1, _⟩ := Prod.mk.inj hx
    subst hx1
    have z := sized_slice hsz ht hd hu
    rw [hB, List.length_map, List.length_map] at z
    have z2 : len * B ≤ (elems.length + rest.length) * B := Nat.mul_le_mul_right _ (by omega)
    exact Nat.le_trans z2 z

theorem cells39 {H : Type} {enc : TypeId × Value → H} {w : World} {base : Nat} {spare : Nat → Bool} {held : Bool} {fuel : Nat} {cs : List Value} {y : DataW H × List MemPlace} (h : DataW.trod enc Try.prog w base spare held fuel 39 cs = some y) :
    ∃ (b0 : Int) (b1 : Int) (b2 : Int) (b3 : Int) (b4 : Int) (b5 : Bool), cs = [.int .i64 b0, .int .i64 b1, .int .i64 b2, .int .i64 b3, .int .i64 b4, .bool b5] ∧ (Lit.int .i64 b0).wf = true ∧ (Lit.int .i64 b1).wf = true ∧ (Lit.int .i64 b2).wf = true ∧ (Lit.int .i64 b3).wf = true ∧ (Lit.int .i64 b4).wf = true := by
  obtain ⟨xs, n, _, _, hl, hx, hg⟩ := DataW.trod_struct Try.underlying39 h
  have hl2 : cs.length = 6 := hl.trans (by kernel_rfl)
  have hx2 : xs.length = 6 := hx
  obtain ⟨c0, c1, c2, c3, c4, c5, rfl⟩ := list6 hl2
  obtain ⟨z0, hz0⟩ : ∃ z, xs[0]? = some z := ⟨_, List.getElem?_eq_getElem (by omega)⟩
  have g0 : DataW.trod enc Try.prog w base spare held n 3 [c0] = some z0 := by
    have g : DataW.trod enc Try.prog w base spare held n 3 (([c0, c1, c2, c3, c4, c5].drop 0).take (Try.prog.cellsOf 3)) = xs[0]? := hg 0 _ rfl
    rw [cellsOf3] at g
    exact g.trans hz0
  obtain ⟨b0, e0, _, hw0⟩ := DataW.trod_int Try.underlying3 g0
  have s0 := List.head_eq_of_cons_eq e0
  obtain ⟨z1, hz1⟩ : ∃ z, xs[1]? = some z := ⟨_, List.getElem?_eq_getElem (by omega)⟩
  have g1 : DataW.trod enc Try.prog w base spare held n 3 [c1] = some z1 := by
    have g : DataW.trod enc Try.prog w base spare held n 3 (([c0, c1, c2, c3, c4, c5].drop 1).take (Try.prog.cellsOf 3)) = xs[1]? := hg 1 _ rfl
    rw [cellsOf3] at g
    exact g.trans hz1
  obtain ⟨b1, e1, _, hw1⟩ := DataW.trod_int Try.underlying3 g1
  have s1 := List.head_eq_of_cons_eq e1
  obtain ⟨z2, hz2⟩ : ∃ z, xs[2]? = some z := ⟨_, List.getElem?_eq_getElem (by omega)⟩
  have g2 : DataW.trod enc Try.prog w base spare held n 3 [c2] = some z2 := by
    have g : DataW.trod enc Try.prog w base spare held n 3 (([c0, c1, c2, c3, c4, c5].drop 2).take (Try.prog.cellsOf 3)) = xs[2]? := hg 2 _ rfl
    rw [cellsOf3] at g
    exact g.trans hz2
  obtain ⟨b2, e2, _, hw2⟩ := DataW.trod_int Try.underlying3 g2
  have s2 := List.head_eq_of_cons_eq e2
  obtain ⟨z3, hz3⟩ : ∃ z, xs[3]? = some z := ⟨_, List.getElem?_eq_getElem (by omega)⟩
  have g3 : DataW.trod enc Try.prog w base spare held n 3 [c3] = some z3 := by
    have g : DataW.trod enc Try.prog w base spare held n 3 (([c0, c1, c2, c3, c4, c5].drop 3).take (Try.prog.cellsOf 3)) = xs[3]? := hg 3 _ rfl
    rw [cellsOf3] at g
    exact g.trans hz3
  obtain ⟨b3, e3, _, hw3⟩ := DataW.trod_int Try.underlying3 g3
  have s3 := List.head_eq_of_cons_eq e3
  obtain ⟨z4, hz4⟩ : ∃ z, xs[4]? = some z := ⟨_, List.getElem?_eq_getElem (by omega)⟩
  have g4 : DataW.trod enc Try.prog w base spare held n 3 [c4] = some z4 := by
    have g : DataW.trod enc Try.prog w base spare held n 3 (([c0, c1, c2, c3, c4, c5].drop 4).take (Try.prog.cellsOf 3)) = xs[4]? := hg 4 _ rfl
    rw [cellsOf3] at g
    exact g.trans hz4
  obtain ⟨b4, e4, _, hw4⟩ := DataW.trod_int Try.underlying3 g4
  have s4 := List.head_eq_of_cons_eq e4
  obtain ⟨z5, hz5⟩ : ∃ z, xs[5]? = some z := ⟨_, List.getElem?_eq_getElem (by omega)⟩
  have g5 : DataW.trod enc Try.prog w base spare held n 4 [c5] = some z5 := by
    have g : DataW.trod enc Try.prog w base spare held n 4 (([c0, c1, c2, c3, c4, c5].drop 5).take (Try.prog.cellsOf 4)) = xs[5]? := hg 5 _ rfl
    rw [cellsOf4] at g
    exact g.trans hz5
  obtain ⟨b5, e5, _⟩ := DataW.trod_bool Try.underlying4 g5
  have s5 := List.head_eq_of_cons_eq e5
  subst s0 s1 s2 s3 s4 s5
  exact ⟨b0, b1, b2, b3, b4, b5, rfl, hw0, hw1, hw2, hw3, hw4⟩
theorem open39 {H : Type} {enc : TypeId × Value → H} {w : World} {base b0 : Nat} {spare : Nat → Bool} {held : Bool} {v : Value} {d : DataW H} {p : List MemPlace} (hv : Value.okWide Try.prog w .any b0 39 v) (h : DataW.Trod enc Try.prog w base spare held 39 v d p) :
    ∃ (b0 : Int) (b1 : Int) (b2 : Int) (b3 : Int) (b4 : Int) (b5 : Bool), v = .agg #[.int .i64 b0, .int .i64 b1, .int .i64 b2, .int .i64 b3, .int .i64 b4, .bool b5] ∧ (Lit.int .i64 b0).wf = true ∧ (Lit.int .i64 b1).wf = true ∧ (Lit.int .i64 b2).wf = true ∧ (Lit.int .i64 b3).wf = true ∧ (Lit.int .i64 b4).wf = true := by
  obtain ⟨cs, rfl, _⟩ := okWide_struct Try.underlying39 hv
  obtain ⟨l⟩ := cs
  obtain ⟨fuel, hf⟩ := h
  obtain ⟨b0, b1, b2, b3, b4, b5, hc, hw⟩ := cells39 (cs := l) (by simpa [Value.cells] using hf)
  subst hc
  exact ⟨b0, b1, b2, b3, b4, b5, rfl, hw⟩
theorem cells41 {H : Type} {enc : TypeId × Value → H} {w : World} {base : Nat} {spare : Nat → Bool} {held : Bool} {fuel : Nat} {cs : List Value} {y : DataW H × List MemPlace} (h : DataW.trod enc Try.prog w base spare held fuel 41 cs = some y) :
    ∃ (b0 : Int) (b1 : Int), cs = [.int .i64 b0, .int .i64 b1] ∧ (Lit.int .i64 b0).wf = true ∧ (Lit.int .i64 b1).wf = true := by
  obtain ⟨xs, n, _, _, hl, hx, hg⟩ := DataW.trod_struct Try.underlying41 h
  have hl2 : cs.length = 2 := hl.trans (by kernel_rfl)
  have hx2 : xs.length = 2 := hx
  obtain ⟨c0, c1, rfl⟩ := list2 hl2
  obtain ⟨z0, hz0⟩ : ∃ z, xs[0]? = some z := ⟨_, List.getElem?_eq_getElem (by omega)⟩
  have g0 : DataW.trod enc Try.prog w base spare held n 3 [c0] = some z0 := by
    have g : DataW.trod enc Try.prog w base spare held n 3 (([c0, c1].drop 0).take (Try.prog.cellsOf 3)) = xs[0]? := hg 0 _ rfl
    rw [cellsOf3] at g
    exact g.trans hz0
  obtain ⟨b0, e0, _, hw0⟩ := DataW.trod_int Try.underlying3 g0
  have s0 := List.head_eq_of_cons_eq e0
  obtain ⟨z1, hz1⟩ : ∃ z, xs[1]? = some z := ⟨_, List.getElem?_eq_getElem (by omega)⟩
  have g1 : DataW.trod enc Try.prog w base spare held n 3 [c1] = some z1 := by
    have g : DataW.trod enc Try.prog w base spare held n 3 (([c0, c1].drop 1).take (Try.prog.cellsOf 3)) = xs[1]? := hg 1 _ rfl
    rw [cellsOf3] at g
    exact g.trans hz1
  obtain ⟨b1, e1, _, hw1⟩ := DataW.trod_int Try.underlying3 g1
  have s1 := List.head_eq_of_cons_eq e1
  subst s0 s1
  exact ⟨b0, b1, rfl, hw0, hw1⟩
theorem open41 {H : Type} {enc : TypeId × Value → H} {w : World} {base b0 : Nat} {spare : Nat → Bool} {held : Bool} {v : Value} {d : DataW H} {p : List MemPlace} (hv : Value.okWide Try.prog w .any b0 41 v) (h : DataW.Trod enc Try.prog w base spare held 41 v d p) :
    ∃ (b0 : Int) (b1 : Int), v = .agg #[.int .i64 b0, .int .i64 b1] ∧ (Lit.int .i64 b0).wf = true ∧ (Lit.int .i64 b1).wf = true := by
  obtain ⟨cs, rfl, _⟩ := okWide_struct Try.underlying41 hv
  obtain ⟨l⟩ := cs
  obtain ⟨fuel, hf⟩ := h
  obtain ⟨b0, b1, hc, hw⟩ := cells41 (cs := l) (by simpa [Value.cells] using hf)
  subst hc
  exact ⟨b0, b1, rfl, hw⟩
theorem cells43 {H : Type} {enc : TypeId × Value → H} {w : World} {base : Nat} {spare : Nat → Bool} {held : Bool} {fuel : Nat} {cs : List Value} {y : DataW H × List MemPlace} (h : DataW.trod enc Try.prog w base spare held fuel 43 cs = some y) :
    ∃ (b0 : Int) (b1 : Int) (b2 : Bool), cs = [.int .i64 b0, .int .i64 b1, .bool b2] ∧ (Lit.int .i64 b0).wf = true ∧ (Lit.int .i64 b1).wf = true := by
  obtain ⟨xs, n, _, _, hl, hx, hg⟩ := DataW.trod_struct Try.underlying43 h
  have hl2 : cs.length = 3 := hl.trans (by kernel_rfl)
  have hx2 : xs.length = 3 := hx
  obtain ⟨c0, c1, c2, rfl⟩ := list3 hl2
  obtain ⟨z0, hz0⟩ : ∃ z, xs[0]? = some z := ⟨_, List.getElem?_eq_getElem (by omega)⟩
  have g0 : DataW.trod enc Try.prog w base spare held n 3 [c0] = some z0 := by
    have g : DataW.trod enc Try.prog w base spare held n 3 (([c0, c1, c2].drop 0).take (Try.prog.cellsOf 3)) = xs[0]? := hg 0 _ rfl
    rw [cellsOf3] at g
    exact g.trans hz0
  obtain ⟨b0, e0, _, hw0⟩ := DataW.trod_int Try.underlying3 g0
  have s0 := List.head_eq_of_cons_eq e0
  obtain ⟨z1, hz1⟩ : ∃ z, xs[1]? = some z := ⟨_, List.getElem?_eq_getElem (by omega)⟩
  have g1 : DataW.trod enc Try.prog w base spare held n 3 [c1] = some z1 := by
    have g : DataW.trod enc Try.prog w base spare held n 3 (([c0, c1, c2].drop 1).take (Try.prog.cellsOf 3)) = xs[1]? := hg 1 _ rfl
    rw [cellsOf3] at g
    exact g.trans hz1
  obtain ⟨b1, e1, _, hw1⟩ := DataW.trod_int Try.underlying3 g1
  have s1 := List.head_eq_of_cons_eq e1
  obtain ⟨z2, hz2⟩ : ∃ z, xs[2]? = some z := ⟨_, List.getElem?_eq_getElem (by omega)⟩
  have g2 : DataW.trod enc Try.prog w base spare held n 4 [c2] = some z2 := by
    have g : DataW.trod enc Try.prog w base spare held n 4 (([c0, c1, c2].drop 2).take (Try.prog.cellsOf 4)) = xs[2]? := hg 2 _ rfl
    rw [cellsOf4] at g
    exact g.trans hz2
  obtain ⟨b2, e2, _⟩ := DataW.trod_bool Try.underlying4 g2
  have s2 := List.head_eq_of_cons_eq e2
  subst s0 s1 s2
  exact ⟨b0, b1, b2, rfl, hw0, hw1⟩
theorem open43 {H : Type} {enc : TypeId × Value → H} {w : World} {base b0 : Nat} {spare : Nat → Bool} {held : Bool} {v : Value} {d : DataW H} {p : List MemPlace} (hv : Value.okWide Try.prog w .any b0 43 v) (h : DataW.Trod enc Try.prog w base spare held 43 v d p) :
    ∃ (b0 : Int) (b1 : Int) (b2 : Bool), v = .agg #[.int .i64 b0, .int .i64 b1, .bool b2] ∧ (Lit.int .i64 b0).wf = true ∧ (Lit.int .i64 b1).wf = true := by
  obtain ⟨cs, rfl, _⟩ := okWide_struct Try.underlying43 hv
  obtain ⟨l⟩ := cs
  obtain ⟨fuel, hf⟩ := h
  obtain ⟨b0, b1, b2, hc, hw⟩ := cells43 (cs := l) (by simpa [Value.cells] using hf)
  subst hc
  exact ⟨b0, b1, b2, rfl, hw⟩
theorem cells23 {H : Type} {enc : TypeId × Value → H} {w : World} {base : Nat} {spare : Nat → Bool} {held : Bool} {fuel : Nat} {cs : List Value} {y : DataW H × List MemPlace} (h : DataW.trod enc Try.prog w base spare held fuel 23 cs = some y) :
    ∃ (b0 : ByteArray) (b1 : Int), cs = [.string b0, .int .i64 b1] ∧ b0.size ≤ maxLen ∧ (Lit.int .i64 b1).wf = true := by
  obtain ⟨xs, n, _, _, hl, hx, hg⟩ := DataW.trod_struct Try.underlying23 h
  have hl2 : cs.length = 2 := hl.trans (by kernel_rfl)
  have hx2 : xs.length = 2 := hx
  obtain ⟨c0, c1, rfl⟩ := list2 hl2
  obtain ⟨z0, hz0⟩ : ∃ z, xs[0]? = some z := ⟨_, List.getElem?_eq_getElem (by omega)⟩
  have g0 : DataW.trod enc Try.prog w base spare held n 9 [c0] = some z0 := by
    have g : DataW.trod enc Try.prog w base spare held n 9 (([c0, c1].drop 0).take (Try.prog.cellsOf 9)) = xs[0]? := hg 0 _ rfl
    rw [cellsOf9] at g
    exact g.trans hz0
  obtain ⟨b0, e0, _, hw0⟩ := DataW.trod_string Try.underlying9 g0
  have s0 := List.head_eq_of_cons_eq e0
  obtain ⟨z1, hz1⟩ : ∃ z, xs[1]? = some z := ⟨_, List.getElem?_eq_getElem (by omega)⟩
  have g1 : DataW.trod enc Try.prog w base spare held n 3 [c1] = some z1 := by
    have g : DataW.trod enc Try.prog w base spare held n 3 (([c0, c1].drop 1).take (Try.prog.cellsOf 3)) = xs[1]? := hg 1 _ rfl
    rw [cellsOf3] at g
    exact g.trans hz1
  obtain ⟨b1, e1, _, hw1⟩ := DataW.trod_int Try.underlying3 g1
  have s1 := List.head_eq_of_cons_eq e1
  subst s0 s1
  exact ⟨b0, b1, rfl, hw0, hw1⟩
theorem open23 {H : Type} {enc : TypeId × Value → H} {w : World} {base b0 : Nat} {spare : Nat → Bool} {held : Bool} {v : Value} {d : DataW H} {p : List MemPlace} (hv : Value.okWide Try.prog w .any b0 23 v) (h : DataW.Trod enc Try.prog w base spare held 23 v d p) :
    ∃ (b0 : ByteArray) (b1 : Int), v = .agg #[.string b0, .int .i64 b1] ∧ b0.size ≤ maxLen ∧ (Lit.int .i64 b1).wf = true := by
  obtain ⟨cs, rfl, _⟩ := okWide_struct Try.underlying23 hv
  obtain ⟨l⟩ := cs
  obtain ⟨fuel, hf⟩ := h
  obtain ⟨b0, b1, hc, hw⟩ := cells23 (cs := l) (by simpa [Value.cells] using hf)
  subst hc
  exact ⟨b0, b1, rfl, hw⟩
theorem cells45 {H : Type} {enc : TypeId × Value → H} {w : World} {base : Nat} {spare : Nat → Bool} {held : Bool} {fuel : Nat} {cs : List Value} {y : DataW H × List MemPlace} (h : DataW.trod enc Try.prog w base spare held fuel 45 cs = some y) :
    ∃ (b0 : Int) (b1 : Int) (b2 : Int) (b3 : Int) (b4 : Int) (b5 : Bool) (b6 : Int) (b7 : Int) (b8 : Int) (b9 : Int) (b10 : Bool) (b11 : ByteArray) (b12 : Int), cs = [.int .i64 b0, .int .i64 b1, .int .i64 b2, .int .i64 b3, .int .i64 b4, .bool b5, .int .i64 b6, .int .i64 b7, .int .i64 b8, .int .i64 b9, .bool b10, .string b11, .int .i64 b12] ∧ (Lit.int .i64 b0).wf = true ∧ (Lit.int .i64 b1).wf = true ∧ (Lit.int .i64 b2).wf = true ∧ (Lit.int .i64 b3).wf = true ∧ (Lit.int .i64 b4).wf = true ∧ (Lit.int .i64 b6).wf = true ∧ (Lit.int .i64 b7).wf = true ∧ (Lit.int .i64 b8).wf = true ∧ (Lit.int .i64 b9).wf = true ∧ b11.size ≤ maxLen ∧ (Lit.int .i64 b12).wf = true := by
  obtain ⟨xs, n, _, _, hl, hx, hg⟩ := DataW.trod_struct Try.underlying45 h
  have hl2 : cs.length = 13 := hl.trans (by kernel_rfl)
  have hx2 : xs.length = 4 := hx
  obtain ⟨c0, c1, c2, c3, c4, c5, c6, c7, c8, c9, c10, c11, c12, rfl⟩ := list13 hl2
  obtain ⟨z0, hz0⟩ : ∃ z, xs[0]? = some z := ⟨_, List.getElem?_eq_getElem (by omega)⟩
  have g0 : DataW.trod enc Try.prog w base spare held n 39 [c0, c1, c2, c3, c4, c5] = some z0 := by
    have g : DataW.trod enc Try.prog w base spare held n 39 (([c0, c1, c2, c3, c4, c5, c6, c7, c8, c9, c10, c11, c12].drop 0).take (Try.prog.cellsOf 39)) = xs[0]? := hg 0 _ rfl
    rw [cellsOf39] at g
    exact g.trans hz0
  obtain ⟨b0, b1, b2, b3, b4, b5, e0, hw0⟩ := cells39 g0
  simp only [List.cons.injEq, and_true] at e0
  obtain ⟨s0, s1, s2, s3, s4, s5⟩ := e0
  obtain ⟨z1, hz1⟩ : ∃ z, xs[1]? = some z := ⟨_, List.getElem?_eq_getElem (by omega)⟩
  have g1 : DataW.trod enc Try.prog w base spare held n 41 [c6, c7] = some z1 := by
    have g : DataW.trod enc Try.prog w base spare held n 41 (([c0, c1, c2, c3, c4, c5, c6, c7, c8, c9, c10, c11, c12].drop 6).take (Try.prog.cellsOf 41)) = xs[1]? := hg 1 _ rfl
    rw [cellsOf41] at g
    exact g.trans hz1
  obtain ⟨b6, b7, e1, hw1⟩ := cells41 g1
  simp only [List.cons.injEq, and_true] at e1
  obtain ⟨s6, s7⟩ := e1
  obtain ⟨z2, hz2⟩ : ∃ z, xs[2]? = some z := ⟨_, List.getElem?_eq_getElem (by omega)⟩
  have g2 : DataW.trod enc Try.prog w base spare held n 43 [c8, c9, c10] = some z2 := by
    have g : DataW.trod enc Try.prog w base spare held n 43 (([c0, c1, c2, c3, c4, c5, c6, c7, c8, c9, c10, c11, c12].drop 8).take (Try.prog.cellsOf 43)) = xs[2]? := hg 2 _ rfl
    rw [cellsOf43] at g
    exact g.trans hz2
  obtain ⟨b8, b9, b10, e2, hw2⟩ := cells43 g2
  simp only [List.cons.injEq, and_true] at e2
  obtain ⟨s8, s9, s10⟩ := e2
  obtain ⟨z3, hz3⟩ : ∃ z, xs[3]? = some z := ⟨_, List.getElem?_eq_getElem (by omega)⟩
  have g3 : DataW.trod enc Try.prog w base spare held n 23 [c11, c12] = some z3 := by
    have g : DataW.trod enc Try.prog w base spare held n 23 (([c0, c1, c2, c3, c4, c5, c6, c7, c8, c9, c10, c11, c12].drop 11).take (Try.prog.cellsOf 23)) = xs[3]? := hg 3 _ rfl
    rw [cellsOf23] at g
    exact g.trans hz3
  obtain ⟨b11, b12, e3, hw3⟩ := cells23 g3
  simp only [List.cons.injEq, and_true] at e3
  obtain ⟨s11, s12⟩ := e3
  subst s0 s1 s2 s3 s4 s5 s6 s7 s8 s9 s10 s11 s12
  exact ⟨b0, b1, b2, b3, b4, b5, b6, b7, b8, b9, b10, b11, b12, rfl, hw0.1, hw0.2.1, hw0.2.2.1, hw0.2.2.2.1, hw0.2.2.2.2, hw1.1, hw1.2, hw2.1, hw2.2, hw3.1, hw3.2⟩
theorem open45 {H : Type} {enc : TypeId × Value → H} {w : World} {base b0 : Nat} {spare : Nat → Bool} {held : Bool} {v : Value} {d : DataW H} {p : List MemPlace} (hv : Value.okWide Try.prog w .any b0 45 v) (h : DataW.Trod enc Try.prog w base spare held 45 v d p) :
    ∃ (b0 : Int) (b1 : Int) (b2 : Int) (b3 : Int) (b4 : Int) (b5 : Bool) (b6 : Int) (b7 : Int) (b8 : Int) (b9 : Int) (b10 : Bool) (b11 : ByteArray) (b12 : Int), v = .agg #[.int .i64 b0, .int .i64 b1, .int .i64 b2, .int .i64 b3, .int .i64 b4, .bool b5, .int .i64 b6, .int .i64 b7, .int .i64 b8, .int .i64 b9, .bool b10, .string b11, .int .i64 b12] ∧ (Lit.int .i64 b0).wf = true ∧ (Lit.int .i64 b1).wf = true ∧ (Lit.int .i64 b2).wf = true ∧ (Lit.int .i64 b3).wf = true ∧ (Lit.int .i64 b4).wf = true ∧ (Lit.int .i64 b6).wf = true ∧ (Lit.int .i64 b7).wf = true ∧ (Lit.int .i64 b8).wf = true ∧ (Lit.int .i64 b9).wf = true ∧ b11.size ≤ maxLen ∧ (Lit.int .i64 b12).wf = true := by
  obtain ⟨cs, rfl, _⟩ := okWide_struct Try.underlying45 hv
  obtain ⟨l⟩ := cs
  obtain ⟨fuel, hf⟩ := h
  obtain ⟨b0, b1, b2, b3, b4, b5, b6, b7, b8, b9, b10, b11, b12, hc, hw⟩ := cells45 (cs := l) (by simpa [Value.cells] using hf)
  subst hc
  exact ⟨b0, b1, b2, b3, b4, b5, b6, b7, b8, b9, b10, b11, b12, rfl, hw⟩
end Go.Proofs.Ytkhaofalaikegaa.FB.Open
