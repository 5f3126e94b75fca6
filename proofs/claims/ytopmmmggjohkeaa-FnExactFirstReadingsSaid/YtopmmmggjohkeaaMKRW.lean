/- Rows of one's own whose capacity may have been cut: the printed words' rows, seen through a value of smaller capacity. -/
import Derived.Test.YtopmmmggjohkeaaWMore
import Derived.Test.YtopmmmggjohkeaaWApart
import Derived.Test.YtopmmmggjohkeaaWKept
namespace Go.Proofs.Ytopmmmggjohkeaa.KRW
open Go.RowKit Go.Proofs.YtopmmmggjohkeaaW.PrintWords Go.Proofs.YtopmmmggjohkeaaW.PrintLast Go.Proofs.YtopmmmggjohkeaaW.PrintMore
/-- The row that lies behind v, its capacity at least v's. -/
def R {α : Type} (d : Kd α) (e : Nat) (w : World) (base : Nat) (ok : Nat → Prop) (v : Value) (xs : List α) : Prop := ∃ (A : Option Addr) (n c q : Nat), v = .slice A n c ∧ n ≤ c ∧ Kd.R d e w base ok (.slice A n q) xs
theorem ob (A : Option Addr) (n c q : Nat) : (Value.slice A n c).ownBlock = (Value.slice A n q).ownBlock := by cases A <;> rfl
section
variable {α : Type} {d : Kd α} {e e' : Nat} {w w1 W W2 : World} {base b' : Nat} {ok ok' ok1 S : Nat → Prop} {u v : Value} {xs : List α}
theorem of (h : Kd.R d e w base ok v xs) : R d e w base ok v xs := by
  obtain ⟨A, c, rfl, hl, _⟩ := Kd.R_reads h
  exact ⟨A, xs.length, c, c, rfl, hl, h⟩
theorem cut {n : Nat} (h0 : ∃ (A : Option Addr) (q : Nat), v = .slice A n q ∧ u = .slice A n n) (h : Kd.R d e w base ok v xs) : R d e w base ok u xs := by
  obtain ⟨A, q, rfl, rfl⟩ := h0
  exact ⟨A, n, n, q, rfl, Nat.le_refl _, h⟩
theorem R_mono (h : R d e w base ok v xs) (hok : ∀ k, ok k → ok' k) : R d e w base ok' v xs := by
  obtain ⟨A, n, c, q, rfl, hc, h⟩ := h
  exact ⟨A, n, c, q, rfl, hc, Kd.R_mono h hok⟩
theorem R_alloc (h : R d e w base ok v xs) (o : Obj) : R d e (w.alloc o) base ok v xs := by
  obtain ⟨A, n, c, q, rfl, hc, h⟩ := h
  exact ⟨A, n, c, q, rfl, hc, Kd.R_alloc h o⟩
theorem R_drew (h : R d e w base ok v xs) : R d e w.drew base ok v xs := by
  obtain ⟨A, n, c, q, rfl, hc, h⟩ := h
  exact ⟨A, n, c, q, rfl, hc, Kd.R_drew h⟩
theorem R_drewN (h : R d e w base ok v xs) (m : Nat) : R d e (w.drewN m) base ok v xs := by
  obtain ⟨A, n, c, q, rfl, hc, h⟩ := h
  exact ⟨A, n, c, q, rfl, hc, Kd.R_drewN h m⟩
theorem R_below (h : R d e w base ok v xs) (hb : Below w.heap.size w w1) : R d e w1 base ok v xs := by
  obtain ⟨A, n, c, q, rfl, hc, h⟩ := h
  exact ⟨A, n, c, q, rfl, hc, Kd.R_below h hb⟩
theorem R_lower (h : R d e w base ok v xs) (hb : b' ≤ base) : R d e w b' ok v xs := by
  obtain ⟨A, n, c, q, rfl, hc, h⟩ := h
  exact ⟨A, n, c, q, rfl, hc, Kd.R_lower h hb⟩
theorem R_base (h : R d e w base ok v xs) : ∀ k, v.ownBlock = some k → base ≤ k := by
  obtain ⟨A, n, c, q, rfl, hc, h⟩ := h
  rw [ob A n c q]
  exact Kd.R_base h
theorem R_lt (h : R d e w base ok v xs) : ∀ k, v.ownBlock = some k → k < w.heap.size := by
  obtain ⟨A, n, c, q, rfl, hc, h⟩ := h
  rw [ob A n c q]
  exact Kd.R_lt h
theorem R_typed (h : R d e w base ok v xs) : ∀ k, v.ownBlock = some k → ∃ cells, w.heap[k]? = some (.cells cells e (0, 0)) := by
  obtain ⟨A, n, c, q, rfl, hc, h⟩ := h
  rw [ob A n c q]
  exact Kd.R_typed h
theorem R_elder' (hu : R d e W base ok u xs) (hbase : ∀ k, v.ownBlock = some k → W.heap.size ≤ k) (hb : Below W.heap.size W w1) : R d e w1 base (fun k => ok k ∧ some k ≠ v.ownBlock) u xs := by
  obtain ⟨A, n, c, q, rfl, hc, h⟩ := hu
  exact ⟨A, n, c, q, rfl, hc, Kd.R_elder' h hbase hb⟩
theorem R_new' (h : R d e w1 W.heap.size ok v xs) (hlt : ∀ k, u.ownBlock = some k → k < W.heap.size) : R d e w1 W.heap.size (fun k => ok k ∧ some k ≠ u.ownBlock) v xs := by
  obtain ⟨A, n, c, q, rfl, hc, h⟩ := h
  exact ⟨A, n, c, q, rfl, hc, Kd.R_new' h hlt⟩
theorem R_apart' (h : R d e W base ok u xs) (hty : ∀ k, v.ownBlock = some k → ∃ cells, W.heap[k]? = some (.cells cells e' (0, 0))) (ht : ∀ q, q ∈ e :: d.E → q ≠ e') : R d e W base (fun k => ok k ∧ some k ≠ v.ownBlock) u xs := by
  obtain ⟨A, n, c, q, rfl, hc, h⟩ := h
  exact ⟨A, n, c, q, rfl, hc, Kd.R_apart' h hty ht⟩
theorem R_keptB (h : R d e W base ok v xs) (hk : Kept W W2 S) (hne : ∀ k, ok k → ¬ S k) : R d e W2 base (fun k => ok k ∧ (¬ S k ∧ k < W.heap.size)) v xs := by
  obtain ⟨A, n, c, q, rfl, hc, h⟩ := h
  exact ⟨A, n, c, q, rfl, hc, Kd.R_keptB h hk hne⟩
theorem R_tight (hE : d.E = []) (h : R d e w base ok v xs) : R d e w base (fun k => some k = v.ownBlock) v xs := by
  obtain ⟨A, n, c, q, rfl, hc, h⟩ := h
  refine ⟨A, n, c, q, rfl, hc, ?_⟩
  rw [ob A n c q]
  exact Kd.R_tight hE h
theorem R_reok (hE : d.E = []) (h : R d e W base ok1 v xs) (hok : ∀ k, v.ownBlock = some k → ok k) : R d e W base ok v xs := R_mono (R_tight hE h) (fun k hk => hok k hk.symm)
theorem R_fst (h : R d e w base ok v xs) : ∀ k, v.ownBlock = some k → ok k := by
  obtain ⟨A, n, c, q, rfl, hc, h⟩ := h
  rw [ob A n c q]
  exact h.1
theorem R_slice (h : R d e w base ok v xs) : ∃ A c, v = .slice A xs.length c := by
  obtain ⟨A, n, c, q, rfl, hc, h⟩ := h
  obtain ⟨h1, _⟩ := Kd.R_reads' h
  exact ⟨A, c, by rw [h1]⟩
theorem R_reads' {A : Option Addr} {n c : Nat} (h : R d e w base ok (.slice A n c) xs) : n = xs.length ∧ n ≤ c ∧ d.C w A xs.length xs := by
  obtain ⟨A', n', c', q, e1, hc, h⟩ := h
  injection e1 with e1 e2 e3
  subst e1 e2 e3
  obtain ⟨h1, _, h3⟩ := Kd.R_reads' h
  exact ⟨h1, hc, h3⟩
theorem R_form (h : R d e w base ok v xs) (hp : 0 < xs.length) : ∃ g cap, v = .slice (some ⟨g, 0, none⟩) xs.length cap ∧ base ≤ g ∧ g < w.heap.size ∧ ∃ cells, w.heap[g]? = some (.cells cells e (0, 0)) := by
  obtain ⟨A, n, c, q, rfl, hc, h⟩ := h
  obtain ⟨g, cap, e1, h2⟩ := Kd.R_form h hp
  injection e1 with e1 e2 e3
  subst e1 e2
  exact ⟨g, c, rfl, h2⟩
end
section
variable {α : Type} {enc : α → Value} {h1 : ∀ x, (enc x).oneCell' = true} {e base g n cap : Nat} {ok : Nat → Prop} {W : World} {xs : List α}
theorem R_celln (d : α) (h : R (Kd.scalar enc h1) e W base ok (.slice (some ⟨g, 0, none⟩) n cap) xs) (i : Int) (h0 : 0 ≤ i) (hi : i < n) : W.cell? ⟨g, i.toNat, none⟩ = some (enc (rdOf d xs i)) ∧ W.frozen? ⟨g, i.toNat, none⟩ = false := by
  obtain ⟨A', n', c', q, e1, hc, h⟩ := h
  injection e1 with e1 e2 e3
  subst e1 e2 e3
  exact Kd.R_celln d h i h0 hi
theorem R_putg (h : R (Kd.scalar enc h1) e W base ok (.slice (some ⟨g, 0, none⟩) n cap) xs) (i : Int) (x : α) : R (Kd.scalar enc h1) e (W.setCell ⟨g, i.toNat, none⟩ (enc x)) base ok (.slice (some ⟨g, 0, none⟩) n cap) (xs.set i.toNat x) ∧ W.grownBy (W.setCell ⟨g, i.toNat, none⟩ (enc x)) (some g) := by
  obtain ⟨A', n', c', q, e1, hc, h⟩ := h
  injection e1 with e1 e2 e3
  subst e1 e2 e3
  obtain ⟨h2, h3⟩ := Kd.R_putg h i x
  exact ⟨⟨_, _, _, q, rfl, hc, h2⟩, h3⟩
end
end Go.Proofs.Ytopmmmggjohkeaa.KRW
