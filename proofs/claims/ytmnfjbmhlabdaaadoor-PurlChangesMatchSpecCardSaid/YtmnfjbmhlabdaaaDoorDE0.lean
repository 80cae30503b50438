/- What the walks of a name with its fields hold of the world. Conditions: none. -/
import Derived.Test.YtmnfjbmhlabdaaaDoorDXa
import Derived.Test.YtmnfjbmhlabdaaaDoorDEn
namespace Go.Proofs.YtmnfjbmhlabdaaaDoor.Pr
open Go.RowKit Go.Proofs.YtmnfjbmhlabdaaaDoorW.PrintWords Go.Proofs.YtmnfjbmhlabdaaaDoorW.PrintLast Go.Proofs.YtmnfjbmhlabdaaaDoorW.PrintMore
set_option linter.unusedSimpArgs false
set_option linter.unusedVariables false
def st6 (W : World) (g : Nat) (y0 y1 y2 y3 y4 y5 : Value) : World := (((((W.setCell ⟨g, 0, none⟩ y0).setCell ⟨g, 1, none⟩ y1).setCell ⟨g, 2, none⟩ y2).setCell ⟨g, 3, none⟩ y3).setCell ⟨g, 4, none⟩ y4).setCell ⟨g, 5, none⟩ y5
section
variable {W : World} {g : Nat} {x0 x1 x2 x3 x4 x5 y0 y1 y2 y3 y4 y5 : Value}
theorem st6_at (h : W.heap[g]? = some (.cells #[x0, x1, x2, x3, x4, x5] 24 (0, 0))) : (st6 W g y0 y1 y2 y3 y4 y5).heap[g]? = some (.cells #[y0, y1, y2, y3, y4, y5] 24 (0, 0)) := by
 unfold st6
 exact zy (zy (zy (zy (zy (zy h 0 _ rfl) 1 _ rfl) 2 _ rfl) 3 _ rfl) 4 _ rfl) 5 _ rfl
theorem st6_far {k : Nat} (hk : k ≠ g) : (st6 W g y0 y1 y2 y3 y4 y5).heap[k]? = W.heap[k]? := by
 unfold st6
 rw [Below.heap_setCell _ ⟨g, 5, none⟩ _ k hk, Below.heap_setCell _ ⟨g, 4, none⟩ _ k hk, Below.heap_setCell _ ⟨g, 3, none⟩ _ k hk, Below.heap_setCell _ ⟨g, 2, none⟩ _ k hk, Below.heap_setCell _ ⟨g, 1, none⟩ _ k hk, Below.heap_setCell _ ⟨g, 0, none⟩ _ k hk]
theorem st6_below {B : Nat} {a : World} (h : Below B a W) (hg : B ≤ g) : Below B a (st6 W g y0 y1 y2 y3 y4 y5) := by
 unfold st6
 exact (((((h.setCell hg _).setCell hg _).setCell hg _).setCell hg _).setCell hg _).setCell hg _
theorem st6_size : (st6 W g y0 y1 y2 y3 y4 y5).heap.size = W.heap.size := by
 unfold st6
 simp [World.setCell]
end
def zero24 : Array Value := #[.string (⟨#[]⟩ : ByteArray), .string (⟨#[]⟩ : ByteArray), .string (⟨#[]⟩ : ByteArray), .string (⟨#[]⟩ : ByteArray), .slice none 0 0, .string (⟨#[]⟩ : ByteArray)]
structure Qf (w : World) (g1 g2 : Nat) (x0 x1 x2 x3 x4 x5 : Value) (W : World) : Prop where
 b1 : W.heap[g1]? = some (.cells #[x0, x1, x2, x3, x4, x5] 24 (0, 0))
 b2 : W.heap[g2]? = some (.cells #[.string (⟨#[]⟩ : ByteArray), .string (⟨#[]⟩ : ByteArray), .string (⟨#[]⟩ : ByteArray), .string (⟨#[]⟩ : ByteArray), .slice none 0 0, .string (⟨#[]⟩ : ByteArray)] 24 (0, 0))
 hb : Below w.heap.size w W
 l1 : w.heap.size ≤ g1
 l2 : w.heap.size ≤ g2
 n12 : g1 ≠ g2
section
variable {w : World} {g1 g2 : Nat} {x0 x1 x2 x3 x4 x5 : Value} {W W' : World}
theorem Qf.below (h : Qf w g1 g2 x0 x1 x2 x3 x4 x5 W) (k : Below W.heap.size W W') : Qf w g1 g2 x0 x1 x2 x3 x4 x5 W' :=
 ⟨zw h.b1 k, zw h.b2 k, zv h.hb k, h.l1, h.l2, h.n12⟩
theorem Qf.under (h : Qf w g1 g2 x0 x1 x2 x3 x4 x5 W) {B : Nat} (h1 : g1 < B) (h2 : g2 < B) (hB : w.heap.size ≤ B) (k : Below B W W') : Qf w g1 g2 x0 x1 x2 x3 x4 x5 W' :=
 ⟨(k.block g1 h1).trans h.b1, (k.block g2 h2).trans h.b2, below_weaken h.hb hB k, h.l1, h.l2, h.n12⟩
theorem Qf.put (h : Qf w g1 g2 x0 x1 x2 x3 x4 x5 W) (y0 y1 y2 y3 y4 y5 : Value) : Qf w g1 g2 y0 y1 y2 y3 y4 y5 (st6 W g1 y0 y1 y2 y3 y4 y5) :=
 ⟨st6_at h.b1, (st6_far h.n12.symm).trans h.b2, st6_below h.hb h.l1, h.l1, h.l2, h.n12⟩
theorem Qf.set4 (h : Qf w g1 g2 x0 x1 x2 x3 x4 x5 W) (v : Value) : Qf w g1 g2 x0 x1 x2 x3 v x5 (W.setCell ⟨g1, 4, none⟩ v) :=
 ⟨zy h.b1 4 _ rfl, zx h.b2 h.n12.symm _, zf h.hb h.l1, h.l1, h.l2, h.n12⟩
theorem Qf.drew (h : Qf w g1 g2 x0 x1 x2 x3 x4 x5 W) : Qf w g1 g2 x0 x1 x2 x3 x4 x5 W.drew := ⟨h.b1, h.b2, zc h.hb, h.l1, h.l2, h.n12⟩
theorem Qf.drewN (h : Qf w g1 g2 x0 x1 x2 x3 x4 x5 W) (n : Nat) : Qf w g1 g2 x0 x1 x2 x3 x4 x5 (W.drewN n) := ⟨h.b1, h.b2, zb h.hb n, h.l1, h.l2, h.n12⟩
theorem Qf.c0 (h : Qf w g1 g2 x0 x1 x2 x3 x4 x5 W) : W.cell? ⟨g1, 0, none⟩ = some x0 := (ze h.b1 0).trans rfl
theorem Qf.c1 (h : Qf w g1 g2 x0 x1 x2 x3 x4 x5 W) : W.cell? ⟨g1, 1, none⟩ = some x1 := (ze h.b1 1).trans rfl
theorem Qf.c2 (h : Qf w g1 g2 x0 x1 x2 x3 x4 x5 W) : W.cell? ⟨g1, 2, none⟩ = some x2 := (ze h.b1 2).trans rfl
theorem Qf.c3 (h : Qf w g1 g2 x0 x1 x2 x3 x4 x5 W) : W.cell? ⟨g1, 3, none⟩ = some x3 := (ze h.b1 3).trans rfl
theorem Qf.c4 (h : Qf w g1 g2 x0 x1 x2 x3 x4 x5 W) : W.cell? ⟨g1, 4, none⟩ = some x4 := (ze h.b1 4).trans rfl
theorem Qf.c5 (h : Qf w g1 g2 x0 x1 x2 x3 x4 x5 W) : W.cell? ⟨g1, 5, none⟩ = some x5 := (ze h.b1 5).trans rfl
theorem Qf.z (h : Qf w g1 g2 x0 x1 x2 x3 x4 x5 W) (i : Nat) (v : Value) (hi : zero24[i]? = some v) : W.cell? ⟨g2, i, none⟩ = some v := (ze h.b2 i).trans hi
end
theorem C_far {W : World} {g j : Nat} {A : Option Addr} {n : Nat} {l : List S64} {v : Value} (h : Kd.C k64 W A n l) (hne : ∀ ad, A = some ad → ad.block ≠ g) : Kd.C k64 (W.setCell ⟨g, j, none⟩ v) A n l := by
 refine ⟨h.1, h.2.1, fun hn => ?_⟩
 obtain ⟨ad, e, hc⟩ := h.2.2 hn
 refine ⟨ad, e, fun i x hx => ?_⟩
 obtain ⟨c, hl, hK, hcell⟩ := hc i x hx
 refine ⟨c, hl, ?_, fun t u hu => ?_⟩
 ·obtain rfl := k64_open hK
  exact k64_mk _ x
 ·have hb : (ad.add (i * k64.sz + t)).block = ad.block := by cases ad; simp only [Addr.add]; split <;> rfl
  rw [World.cell?_setCell_far _ _ _ _ (by rw [hb]; exact fun e2 => hne ad e e2.symm)]
  exact hcell t u hu
end Go.Proofs.YtmnfjbmhlabdaaaDoor.Pr
