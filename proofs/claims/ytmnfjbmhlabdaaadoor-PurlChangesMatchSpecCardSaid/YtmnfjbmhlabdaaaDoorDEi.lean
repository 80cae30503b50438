/- Helpers of the reader's walks: peek as a quiet call, the state behind a call. Conditions: none. -/
import Derived.Test.YtmnfjbmhlabdaaaDoorDXa
import Derived.Test.YtmnfjbmhlabdaaaDoorDPrx0
import Derived.Test.YtmnfjbmhlabdaaaDoorDPrx4
import Derived.Test.YtmnfjbmhlabdaaaDoorDEh
import Derived.Deep.RegionHeld3
namespace Go.Proofs.YtmnfjbmhlabdaaaDoor.Pr
open Go.RowKit Go.Proofs.YtmnfjbmhlabdaaaDoorW.PrintWords Go.Proofs.YtmnfjbmhlabdaaaDoorW.PrintLast Go.Proofs.YtmnfjbmhlabdaaaDoorW.PrintMore
structure Kp69 (w0 w : World) (g : Nat) (s0 : ByteArray) (s1 s2 : Int) (w' : World) : Prop where
 i : IsS69 w0 w' g s0 s1 s2
 k : KeepBut w w' g none
 b : Below w0.heap.size w0 w'
theorem Kp69.below {w0 w : World} {g : Nat} {s0 : ByteArray} {s1 s2 : Int} {w1 w2 : World} (h : Kp69 w0 w g s0 s1 s2 w1) (hb : Below w1.heap.size w1 w2) : Kp69 w0 w g s0 s1 s2 w2 :=
 ⟨h.i.below hb, h.k.trans (KeepBut.of_below hb g none) (.inl rfl), zv h.b hb⟩
def St69 (w0 w : World) (g : Nat) (s0 : ByteArray) (s1 s2 : Int) (w' : World) : Prop :=
 w'.cell? ⟨g, 0, none⟩ = some (.string s0) ∧ w'.cell? ⟨g, 1, none⟩ = some (.int .i64 s1) ∧ w'.cell? ⟨g, 2, none⟩ = some (.int .i64 s2) ∧ Kp69 w0 w g s0 s1 s2 w'
theorem St69.of {w0 w : World} {g : Nat} {s0 : ByteArray} {s1 s2 : Int} {w' : World} (h : Kp69 w0 w g s0 s1 s2 w') : St69 w0 w g s0 s1 s2 w' :=
 ⟨cellS69_0 h.i.1, cellS69_1 h.i.1, cellS69_2 h.i.1, h⟩
theorem St69.below {w0 w : World} {g : Nat} {s0 : ByteArray} {s1 s2 : Int} {w1 w2 : World} (h : St69 w0 w g s0 s1 s2 w1) (hb : Below w1.heap.size w1 w2) : St69 w0 w g s0 s1 s2 w2 := .of (h.2.2.2.below hb)
theorem St69.drew {w0 w : World} {g : Nat} {s0 : ByteArray} {s1 s2 : Int} {w1 : World} (hi : IsS69 w0 w1 g s0 s1 s2) (hk : KeepBut w w1 g none) (hb : Below w0.heap.size w0 w1) : St69 w0 w g s0 s1 s2 w1.drew := .of ⟨hi.drew, zV hk, zc hb⟩
theorem ne_of_base {α : Type} {d : Kd α} {e : Nat} {W w' : World} {ok : Nat → Prop} {v : Value} {xs : List α} {b : Nat} {o : Obj} (h : d.R e w' W.heap.size ok v xs) (hb : W.heap[b]? = some o) : ∀ k, v.ownBlock = some k → b ≠ k := fun k hk => by
 have h1 := Kd.R_base h k hk
 have h2 := (Array.getElem?_eq_some_iff.1 hb).1
 omega
theorem far_own {W : World} {b j : Nat} {ad : Addr} {n c m : Nat} {u : Value} (hne : ∀ k, (Value.slice (some ad) n c).ownBlock = some k → b ≠ k) (h : W.cell? (ad.add m) = some u) (v : Value) : (W.setCell ⟨b, j, none⟩ v).cell? (ad.add m) = some u := by
 have h1 : b ≠ ad.block := hne _ (by simp [Value.ownBlock])
 have h2 : (ad.add m).block = ad.block := by cases ad; simp only [Addr.add]; split <;> rfl
 rw [World.cell?_setCell_far _ _ _ _ (by rw [h2]; exact h1)]
 exact h
end Go.Proofs.YtmnfjbmhlabdaaaDoor.Pr
