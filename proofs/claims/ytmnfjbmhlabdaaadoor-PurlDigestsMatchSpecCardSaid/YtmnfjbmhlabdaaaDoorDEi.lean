/- Helpers of the reader's walks: peek as a quiet call, the state behind a call. Conditions: none. -/
import Derived.Test.YtmnfjbmhlabdaaaDoorDXa
import Derived.Test.YtmnfjbmhlabdaaaDoorDPrx0
import Derived.Test.YtmnfjbmhlabdaaaDoorDPrx4
import Derived.Test.YtmnfjbmhlabdaaaDoorDEh
import Derived.Deep.RegionHeld3
namespace Go.Proofs.YtmnfjbmhlabdaaaDoor.Pr
open Go.RowKit Go.Proofs.YtmnfjbmhlabdaaaDoorW.PrintWords Go.Proofs.YtmnfjbmhlabdaaaDoorW.PrintLast Go.Proofs.YtmnfjbmhlabdaaaDoorW.PrintMore
/-- What a walk holds of the world beside the state's cells. -/
structure Kp69 (w0 w : World) (g : Nat) (s0 : ByteArray) (s1 s2 : Int) (w' : World) : Prop where
 i : IsS69 w0 w' g s0 s1 s2
 k : KeepBut w w' g none
 b : Below w0.heap.size w0 w'
theorem Kp69.below {w0 w : World} {g : Nat} {s0 : ByteArray} {s1 s2 : Int} {w1 w2 : World} (h : Kp69 w0 w g s0 s1 s2 w1) (hb : Below w1.heap.size w1 w2) : Kp69 w0 w g s0 s1 s2 w2 :=
 ⟨h.i.below hb, h.k.trans (KeepBut.of_below hb g none) (.inl rfl), zv h.b hb⟩
def St69 (w0 w : World) (g : Nat) (s0 : ByteArray) (s1 s2 : Int) (w' : World) : Prop :=
 w'.cell? ⟨g, 0, none⟩ = some (.string s0) ∧ w'.cell? ⟨g, 1, none⟩ = some (.int .i64 s1) ∧ w'.cell? ⟨g, 2, none⟩ = some (.int .i64 s2) ∧ Kp69 w0 w g s0 s1 s2 w'
theorem St69.of {w0 w : World} {g : Nat} {s0 : ByteArray} {s1 s2 : Int} {w' : World} (h : Kp69 w0 w g s0 s1 s2 w') : St69 w0 w g s0 s1 s2 w' :=
 ⟨cellS69_0 h.i.1, cellS69_1 h.i.1, cellS69_2 h.i.1, h⟩
theorem St69.below {w0 w : World} {g : Nat} {s0 : ByteArray} {s1 s2 : Int} {w1 w2 : World} (h : St69 w0 w g s0 s1 s2 w1) (hb : Below w1.heap.size w1 w2) : St69 w0 w g s0 s1 s2 w2 := .of (h.2.2.2.below hb)
theorem St69.drew {w0 w : World} {g : Nat} {s0 : ByteArray} {s1 s2 : Int} {w1 : World} (hi : IsS69 w0 w1 g s0 s1 s2) (hk : KeepBut w w1 g none) (hb : Below w0.heap.size w0 w1) : St69 w0 w g s0 s1 s2 w1.drew := .of ⟨hi.drew, keep_drew hk, zc hb⟩
theorem ne_of_base {α : Type} {d : Kd α} {e : Nat} {W w' : World} {ok : Nat → Prop} {v : Value} {xs : List α} {b : Nat} {o : Obj} (h : d.R e w' W.heap.size ok v xs) (hb : W.heap[b]? = some o) : ∀ k, v.ownBlock = some k → b ≠ k := fun k hk => by
 have h1 := Kd.R_base h k hk
 have h2 := (Array.getElem?_eq_some_iff.1 hb).1
 omega
theorem far_own {W : World} {b j : Nat} {ad : Addr} {n c m : Nat} {u : Value} (hne : ∀ k, (Value.slice (some ad) n c).ownBlock = some k → b ≠ k) (h : W.cell? (ad.add m) = some u) (v : Value) : (W.setCell ⟨b, j, none⟩ v).cell? (ad.add m) = some u := by
 have h1 : b ≠ ad.block := hne _ (by simp [Value.ownBlock])
 have h2 : (ad.add m).block = ad.block := by cases ad; simp only [Addr.add]; split <;> rfl
 rw [World.cell?_setCell_far _ _ _ _ (by rw [h2]; exact h1)]
 exact h
theorem peek_state {a : ByteArray} {b c r1 r3 r4 : Int} {r2 : ByteArray} (h : purl_reader_peek.f a b c = some (r1, r2, r3, r4)) : a = r2 ∧ b = r3 ∧ c = r4 := by
 unfold purl_reader_peek.f at h
 split at h
 ·split at h
  ·simp only [Option.some.injEq, Prod.mk.injEq] at h; exact ⟨h.2.1, h.2.2.1, h.2.2.2⟩
  ·cases h
 ·simp only [Option.some.injEq, Prod.mk.injEq] at h; exact ⟨h.2.1, h.2.2.1, h.2.2.2⟩
set_option maxHeartbeats 8000000 in
set_option maxRecDepth 100000 in
theorem purl_reader_peek.quiet (g : Nat) (s0_0 : ByteArray) (s0_1 : Int) (s0_2 : Int) (r1 : Int) (r2 : ByteArray) (r3 : Int) (r4 : Int) (w0 w : World) (hI : IsS69 w0 w g s0_0 s0_1 s0_2) (h : purl_reader_peek.f s0_0 s0_1 s0_2 = some (r1, r2, r3, r4)) :
  Calls Tryd.prog 94 #[.pointer (some ⟨g, 0, none⟩)] w fun e w' => e = .returned (.int .u8 r1) ∧ Drawn0 w w' := by
 have HI0 := Aside0.mk hI
 clear hI
 have H : (if s0_1 < (s0_0.size : Int) then (if 0 ≤ s0_1 then (some (bt s0_0 s0_1, s0_0, s0_1, s0_2)) else (none)) else (some (0, s0_0, s0_1, s0_2))) = some (r1, r2, r3, r4) := h
 clear h
 by_cases c2 : s0_1 < (s0_0.size : Int)
 ·rw [if_pos c2] at H
  have c2b0 : decide (s0_1 < (s0_0.size : Int)) = true := zk c2
  clear c2
  by_cases c3 : 0 ≤ s0_1
  ·rw [if_pos c3] at H
   have c3b0 : decide (0 ≤ s0_1) = true := zk c3
   clear c3
   simp only [Option.some.injEq, Prod.mk.injEq] at H
   obtain ⟨rfl, rfl, rfl, rfl⟩ := H
   obtain ⟨HGz5, hgz5⟩ := HI0.out
   have hcz5_0 := cellS69_0 HGz5
   have hcz5_1 := cellS69_1 HGz5
   have hcz5_2 := cellS69_2 HGz5
   have hfz5_0 := za HGz5 0
   have hfz5_1 := za HGz5 1
   have hfz5_2 := za HGz5 2
   clear HGz5 hgz5
   have p4 : 0 ≤ (s0_1 : Int) := zj (by first | (with_reducible assumption) | assumption)
   have q4 : s0_1 < (s0_0.size : Int) := zj (by first | (with_reducible assumption) | assumption)
   have hx4 := bt_at s0_0 s0_1
   replace p4 := eq_true p4
   replace q4 := eq_true q4
   go_enter Tryd.func94, Tryd.ntmps94
   go_wp2
   repeat (go_quiet (fail); try go_wp2)
   go_ret
   exact ⟨by first | rfl | (simp; done) | (simp [*]; done), by repeat (first | exact Drawn0.refl _ | apply Drawn0.step)⟩
  ·rw [if_neg c3] at H
   exact absurd H (by simp)
 ·rw [if_neg c2] at H
  have c2b0 : decide (s0_1 < (s0_0.size : Int)) = false := zl c2
  clear c2
  simp only [Option.some.injEq, Prod.mk.injEq] at H
  obtain ⟨rfl, rfl, rfl, rfl⟩ := H
  obtain ⟨HGz6, hgz6⟩ := HI0.out
  have hcz6_0 := cellS69_0 HGz6
  have hcz6_1 := cellS69_1 HGz6
  have hcz6_2 := cellS69_2 HGz6
  have hfz6_0 := za HGz6 0
  have hfz6_1 := za HGz6 1
  have hfz6_2 := za HGz6 2
  clear HGz6 hgz6
  go_enter Tryd.func94, Tryd.ntmps94
  go_wp2
  repeat (go_quiet (fail); try go_wp2)
  go_ret
  exact ⟨by first | rfl | (simp; done) | (simp [*]; done), by repeat (first | exact Drawn0.refl _ | apply Drawn0.step)⟩
end Go.Proofs.YtmnfjbmhlabdaaaDoor.Pr
