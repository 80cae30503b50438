-- Written by a program of the session (wip/pr.py) out of the translation; Lean checks it.
import Derived.Test.YtmnfjbmhlabdaaaDoorDXa
import Derived.Test.YtmnfjbmhlabdaaaDoorDXb
import Derived.Test.YtmnfjbmhlabdaaaDoorDPrx0
import Derived.Test.YtmnfjbmhlabdaaaDoorDPrx4
import Derived.Test.YtmnfjbmhlabdaaaDoorDPrx5
import Derived.Test.YtmnfjbmhlabdaaaDoorDPrx6
import Derived.Test.YtmnfjbmhlabdaaaDoorDPrx7
import Derived.Test.YtmnfjbmhlabdaaaDoorDEc
import Derived.Test.YtmnfjbmhlabdaaaDoorDEi
import Derived.Deep.RegionWith
namespace Go.Proofs.YtmnfjbmhlabdaaaDoor.Pr
open Go.RowKit Go.Proofs.YtmnfjbmhlabdaaaDoorW.PrintWords Go.Proofs.YtmnfjbmhlabdaaaDoorW.PrintLast Go.Proofs.YtmnfjbmhlabdaaaDoorW.PrintMore
attribute [local go_sem] max2_int min2_int max_two min_two max_three min_three max_four min_four
set_option linter.unusedVariables false
set_option linter.unusedSimpArgs false
mutual
def pr_name.j0 : Nat → Bool → ByteArray → Int → Int → ByteArray → ByteArray → ByteArray → ByteArray → ByteArray → Option (ByteArray × ByteArray × ByteArray × ByteArray × (List (S64)) × ByteArray × ByteArray × Int × Int)
 | 0, _, _, _, _, _, _, _, _, _ => none
 | k + 1, x40, x1000, x1001, x1002, x223000, x223001, x223002, x223003, x223005 => if x40 = true then ((pr_part.f k x1000 (wrap64 (x1001 + 1)) x1002).bind fun bt239 => (pr_name.j1 k bt239.2.1 bt239.2.2.1 bt239.2.2.2 x223000 x223001 x223002 bt239.1 x223005)) else (none)
def pr_name.j1 : Nat → ByteArray → Int → Int → ByteArray → ByteArray → ByteArray → ByteArray → ByteArray → Option (ByteArray × ByteArray × ByteArray × ByteArray × (List (S64)) × ByteArray × ByteArray × Int × Int)
 | 0, _, _, _, _, _, _, _, _ => none
 | k + 1, x1000, x1001, x1002, x223000, x223001, x223002, x223003, x223005 => pr_name.l0 k 63 x1000 x1001 x1002 x223000 x223001 x223002 x223003 ([] : List (S64)) x223005
def pr_name.j3 : Nat → ByteArray → Int → Int → ByteArray → ByteArray → ByteArray → ByteArray → List (S64) → ByteArray → Option (ByteArray × ByteArray × ByteArray × ByteArray × (List (S64)) × ByteArray × ByteArray × Int × Int)
 | 0, _, _, _, _, _, _, _, _, _ => none
 | k + 1, x1000, x1001, x1002, x223000, x223001, x223002, x223003, x223004, x223005 => if x1002 < 0 then ((pr_peek.f x1000 x1001 x1002).bind fun bt255 => (pr_name.j4 k (bt255.1 == 35) bt255.2.1 bt255.2.2.1 bt255.2.2.2 x223000 x223001 x223002 x223003 x223004 x223005)) else (none)
def pr_name.j4 : Nat → Bool → ByteArray → Int → Int → ByteArray → ByteArray → ByteArray → ByteArray → List (S64) → ByteArray → Option (ByteArray × ByteArray × ByteArray × ByteArray × (List (S64)) × ByteArray × ByteArray × Int × Int)
 | 0, _, _, _, _, _, _, _, _, _, _ => none
 | k + 1, x97, x1000, x1001, x1002, x223000, x223001, x223002, x223003, x223004, x223005 => if x97 = true then (none) else (if x1002 < 0 then (if x1001 < (x1000.size : Int) then (none) else (some (x223000, x223001, x223002, x223003, x223004, x223005, x1000, x1001, x1002))) else (none))
def pr_name.l0 : Nat → Int → ByteArray → Int → Int → ByteArray → ByteArray → ByteArray → ByteArray → List (S64) → ByteArray → Option (ByteArray × ByteArray × ByteArray × ByteArray × (List (S64)) × ByteArray × ByteArray × Int × Int)
 | 0, _, _, _, _, _, _, _, _, _, _ => none
 | k + 1, x5, x1000, x1001, x1002, x223000, x223001, x223002, x223003, x223004, x223005 => if x1002 < 0 then (if x1001 < (x1000.size : Int) then (none) else (pr_name.j3 k x1000 x1001 x1002 x223000 x223001 x223002 x223003 x223004 x223005)) else (none)
end
def pr_name.f (k : Nat) (s0_0 : ByteArray) (s0_1 : Int) (s0_2 : Int) : Option (ByteArray × ByteArray × ByteArray × ByteArray × (List (S64)) × ByteArray × ByteArray × Int × Int) := (pr_head.f k s0_0 s0_1 s0_2 false).bind fun bt218 => (if bt218.2.2.2 ≥ 0 then (none) else ((pr_parts.f k bt218.2.1 bt218.2.2.1 bt218.2.2.2).bind fun bt223 => (if 0 ≤ (wrap64 ((bt223.1.length : Int) - 1)) then (if (wrap64 ((bt223.1.length : Int) - 1)) ≤ (bt223.1.length : Int) then ((lib_Join.f (bt223.1.take ((wrap64 ((bt223.1.length : Int) - 1)) : Int).toNat) (⟨#[47]⟩ : ByteArray)).bind fun t233 => (if (wrap64 ((bt223.1.length : Int) - 1)) < (bt223.1.length : Int) then (if bt223.2.2.2 < 0 then ((pr_peek.f bt223.2.1 bt223.2.2.1 bt223.2.2.2).bind fun bt235 => (pr_name.j0 k (bt235.1 == 64) bt235.2.1 bt235.2.2.1 bt235.2.2.2 bt218.1 t233 (rdOf ByteArray.empty bt223.1 (wrap64 ((bt223.1.length : Int) - 1))) (⟨#[]⟩ : ByteArray) (⟨#[]⟩ : ByteArray))) else (none)) else (none))) else (none)) else (none))))
theorem pr_name.mono_l : ∀ k, (∀ y0 y1 y2 y3 y4 y5 y6 y7 y8, LeO (pr_name.j0 k y0 y1 y2 y3 y4 y5 y6 y7 y8) (pr_name.j0 (k + 1) y0 y1 y2 y3 y4 y5 y6 y7 y8)) ∧ (∀ y0 y1 y2 y3 y4 y5 y6 y7, LeO (pr_name.j1 k y0 y1 y2 y3 y4 y5 y6 y7) (pr_name.j1 (k + 1) y0 y1 y2 y3 y4 y5 y6 y7)) ∧ (∀ y0 y1 y2 y3 y4 y5 y6 y7 y8, LeO (pr_name.j3 k y0 y1 y2 y3 y4 y5 y6 y7 y8) (pr_name.j3 (k + 1) y0 y1 y2 y3 y4 y5 y6 y7 y8)) ∧ (∀ y0 y1 y2 y3 y4 y5 y6 y7 y8 y9, LeO (pr_name.j4 k y0 y1 y2 y3 y4 y5 y6 y7 y8 y9) (pr_name.j4 (k + 1) y0 y1 y2 y3 y4 y5 y6 y7 y8 y9)) ∧ (∀ y0 y1 y2 y3 y4 y5 y6 y7 y8 y9, LeO (pr_name.l0 k y0 y1 y2 y3 y4 y5 y6 y7 y8 y9) (pr_name.l0 (k + 1) y0 y1 y2 y3 y4 y5 y6 y7 y8 y9))
 | 0 => ⟨fun _ _ _ _ _ _ _ _ _ r h => by simp [pr_name.j0] at h, fun _ _ _ _ _ _ _ _ r h => by simp [pr_name.j1] at h, fun _ _ _ _ _ _ _ _ _ r h => by simp [pr_name.j3] at h, fun _ _ _ _ _ _ _ _ _ _ r h => by simp [pr_name.j4] at h, fun _ _ _ _ _ _ _ _ _ _ r h => by simp [pr_name.l0] at h⟩
 | k + 1 => by
  obtain ⟨ih0, ih1, ih2, ih3, ih4⟩ := pr_name.mono_l k
  refine ⟨?_, ?_, ?_, ?_, ?_⟩
  ·intro y0 y1 y2 y3 y4 y5 y6 y7 y8
   unfold pr_name.j0
   repeat' first
   | (with_reducible exact ya _)
   | (with_reducible exact yb _)
   | (with_reducible refine zZ ?_ ?_)
   | (with_reducible refine zY ?_ (fun _ => ?_))
   | exact ih0 _ _ _ _ _ _ _ _ _
   | exact ih1 _ _ _ _ _ _ _ _
   | exact ih2 _ _ _ _ _ _ _ _ _
   | exact ih3 _ _ _ _ _ _ _ _ _ _
   | exact ih4 _ _ _ _ _ _ _ _ _ _
   | exact pr_head.mono _ _ _ _ _
   | exact pr_part.mono _ _ _ _
   | exact pr_parts.mono _ _ _ _
   | exact pr_qualifier.mono _ _ _ _
   | exact yb _
   | refine zZ ?_ ?_
   | refine zY ?_ (fun _ => ?_)
  ·intro y0 y1 y2 y3 y4 y5 y6 y7
   unfold pr_name.j1
   repeat' first
   | (with_reducible exact ya _)
   | (with_reducible exact yb _)
   | (with_reducible refine zZ ?_ ?_)
   | (with_reducible refine zY ?_ (fun _ => ?_))
   | exact ih0 _ _ _ _ _ _ _ _ _
   | exact ih1 _ _ _ _ _ _ _ _
   | exact ih2 _ _ _ _ _ _ _ _ _
   | exact ih3 _ _ _ _ _ _ _ _ _ _
   | exact ih4 _ _ _ _ _ _ _ _ _ _
   | exact pr_head.mono _ _ _ _ _
   | exact pr_part.mono _ _ _ _
   | exact pr_parts.mono _ _ _ _
   | exact pr_qualifier.mono _ _ _ _
   | exact yb _
   | refine zZ ?_ ?_
   | refine zY ?_ (fun _ => ?_)
  ·intro y0 y1 y2 y3 y4 y5 y6 y7 y8
   unfold pr_name.j3
   repeat' first
   | (with_reducible exact ya _)
   | (with_reducible exact yb _)
   | (with_reducible refine zZ ?_ ?_)
   | (with_reducible refine zY ?_ (fun _ => ?_))
   | exact ih0 _ _ _ _ _ _ _ _ _
   | exact ih1 _ _ _ _ _ _ _ _
   | exact ih2 _ _ _ _ _ _ _ _ _
   | exact ih3 _ _ _ _ _ _ _ _ _ _
   | exact ih4 _ _ _ _ _ _ _ _ _ _
   | exact pr_head.mono _ _ _ _ _
   | exact pr_part.mono _ _ _ _
   | exact pr_parts.mono _ _ _ _
   | exact pr_qualifier.mono _ _ _ _
   | exact yb _
   | refine zZ ?_ ?_
   | refine zY ?_ (fun _ => ?_)
  ·intro y0 y1 y2 y3 y4 y5 y6 y7 y8 y9
   unfold pr_name.j4
   repeat' first
   | (with_reducible exact ya _)
   | (with_reducible exact yb _)
   | (with_reducible refine zZ ?_ ?_)
   | (with_reducible refine zY ?_ (fun _ => ?_))
   | exact ih0 _ _ _ _ _ _ _ _ _
   | exact ih1 _ _ _ _ _ _ _ _
   | exact ih2 _ _ _ _ _ _ _ _ _
   | exact ih3 _ _ _ _ _ _ _ _ _ _
   | exact ih4 _ _ _ _ _ _ _ _ _ _
   | exact pr_head.mono _ _ _ _ _
   | exact pr_part.mono _ _ _ _
   | exact pr_parts.mono _ _ _ _
   | exact pr_qualifier.mono _ _ _ _
   | exact yb _
   | refine zZ ?_ ?_
   | refine zY ?_ (fun _ => ?_)
  ·intro y0 y1 y2 y3 y4 y5 y6 y7 y8 y9
   unfold pr_name.l0
   repeat' first
   | (with_reducible exact ya _)
   | (with_reducible exact yb _)
   | (with_reducible refine zZ ?_ ?_)
   | (with_reducible refine zY ?_ (fun _ => ?_))
   | exact ih0 _ _ _ _ _ _ _ _ _
   | exact ih1 _ _ _ _ _ _ _ _
   | exact ih2 _ _ _ _ _ _ _ _ _
   | exact ih3 _ _ _ _ _ _ _ _ _ _
   | exact ih4 _ _ _ _ _ _ _ _ _ _
   | exact pr_head.mono _ _ _ _ _
   | exact pr_part.mono _ _ _ _
   | exact pr_parts.mono _ _ _ _
   | exact pr_qualifier.mono _ _ _ _
   | exact yb _
   | refine zZ ?_ ?_
   | refine zY ?_ (fun _ => ?_)
theorem pr_name.mono : ∀ a0 a1 a2 k, LeO (pr_name.f k a0 a1 a2) (pr_name.f (k + 1) a0 a1 a2) := by
 intro a0 a1 a2 k
 obtain ⟨ih0, ih1, ih2, ih3, ih4⟩ := pr_name.mono_l k
 unfold pr_name.f
 repeat' first
   | (with_reducible exact ya _)
   | (with_reducible exact yb _)
   | (with_reducible refine zZ ?_ ?_)
   | (with_reducible refine zY ?_ (fun _ => ?_))
   | exact ih0 _ _ _ _ _ _ _ _ _
   | exact ih1 _ _ _ _ _ _ _ _
   | exact ih2 _ _ _ _ _ _ _ _ _
   | exact ih3 _ _ _ _ _ _ _ _ _ _
   | exact ih4 _ _ _ _ _ _ _ _ _ _
   | exact pr_head.mono _ _ _ _ _
   | exact pr_part.mono _ _ _ _
   | exact pr_parts.mono _ _ _ _
   | exact pr_qualifier.mono _ _ _ _
   | exact yb _
   | refine zZ ?_ ?_
   | refine zY ?_ (fun _ => ?_)
set_option maxHeartbeats 4000000 in
set_option maxRecDepth 100000 in
theorem pr_name.calls (k : Nat) (g : Nat) (s0_0 : ByteArray) (s0_1 : Int) (s0_2 : Int) (r1 : ByteArray) (r2 : ByteArray) (r3 : ByteArray) (r4 : ByteArray) (r5 : List (S64)) (r6 : ByteArray) (r7 : ByteArray) (r8 : Int) (r9 : Int) (w0 w : World) (hI : IsS69 w0 w g s0_0 s0_1 s0_2) (hB : Below w0.heap.size w0 w) (h : pr_name.f k s0_0 s0_1 s0_2 = some (r1, r2, r3, r4, r5, r6, r7, r8, r9)) :
  Calls Tryd.prog 46 #[.pointer (some ⟨g, 0, none⟩)] w fun e w' => ∃ v4_ : Value, e = .returned (.agg #[.string r1, .string r2, .string r3, .string r4, v4_, .string r6]) ∧ Kd.R k64 64 w' w.heap.size (fun _ => True) v4_ r5 ∧ IsS69 w0 w' g r7 r8 r9 ∧ Below w0.heap.size w0 w' ∧ KeepBut w w' g none := by
 have hu24 := Tryd.underlying24
 have HI0 := Aq.mk hI
 have HK := Aq.mk (KeepBut.refl w g none)
 have HL := Aq.mk hB.size
 clear hI
 have HW0 := Aq.mk hB.size
 have HB := Aq.mk hB
 clear hB
 have H : ((pr_head.f k s0_0 s0_1 s0_2 false).bind fun bt218 => (if bt218.2.2.2 ≥ 0 then (none) else ((pr_parts.f k bt218.2.1 bt218.2.2.1 bt218.2.2.2).bind fun bt223 => (if 0 ≤ (wrap64 ((bt223.1.length : Int) - 1)) then (if (wrap64 ((bt223.1.length : Int) - 1)) ≤ (bt223.1.length : Int) then ((lib_Join.f (bt223.1.take ((wrap64 ((bt223.1.length : Int) - 1)) : Int).toNat) (⟨#[47]⟩ : ByteArray)).bind fun t233 => (if (wrap64 ((bt223.1.length : Int) - 1)) < (bt223.1.length : Int) then (if bt223.2.2.2 < 0 then ((pr_peek.f bt223.2.1 bt223.2.2.1 bt223.2.2.2).bind fun bt235 => (pr_name.j0 k (bt235.1 == 64) bt235.2.1 bt235.2.2.1 bt235.2.2.2 bt218.1 t233 (rdOf ByteArray.empty bt223.1 (wrap64 ((bt223.1.length : Int) - 1))) (⟨#[]⟩ : ByteArray) (⟨#[]⟩ : ByteArray))) else (none)) else (none))) else (none)) else (none))))) = some (r1, r2, r3, r4, r5, r6, r7, r8, r9) := h
 clear h
 replace H := zu.mp H
 obtain ⟨⟨t218, t219, t220, t221⟩, A20, H⟩ := H
 replace H : (if t221 ≥ 0 then (none) else ((pr_parts.f k t219 t220 t221).bind fun bt223 => (if 0 ≤ (wrap64 ((bt223.1.length : Int) - 1)) then (if (wrap64 ((bt223.1.length : Int) - 1)) ≤ (bt223.1.length : Int) then ((lib_Join.f (bt223.1.take ((wrap64 ((bt223.1.length : Int) - 1)) : Int).toNat) (⟨#[47]⟩ : ByteArray)).bind fun t233 => (if (wrap64 ((bt223.1.length : Int) - 1)) < (bt223.1.length : Int) then (if bt223.2.2.2 < 0 then ((pr_peek.f bt223.2.1 bt223.2.2.1 bt223.2.2.2).bind fun bt235 => (pr_name.j0 k (bt235.1 == 64) bt235.2.1 bt235.2.2.1 bt235.2.2.2 t218 t233 (rdOf ByteArray.empty bt223.1 (wrap64 ((bt223.1.length : Int) - 1))) (⟨#[]⟩ : ByteArray) (⟨#[]⟩ : ByteArray))) else (none)) else (none))) else (none)) else (none)))) = some (r1, r2, r3, r4, r5, r6, r7, r8, r9) := H
 have A2 := Aq.mk A20
 clear A20
 by_cases c3 : t221 ≥ 0
 ·rw [if_pos c3] at H
  exact absurd H (by simp)
 ·rw [if_neg c3] at H
  have c3b0 : decide (0 ≤ t221) = false := zl c3
  clear c3
  replace H := zu.mp H
  obtain ⟨⟨t223, t226, t227, t228⟩, A130, H⟩ := H
  replace H : (if 0 ≤ (wrap64 ((t223.length : Int) - 1)) then (if (wrap64 ((t223.length : Int) - 1)) ≤ (t223.length : Int) then ((lib_Join.f (t223.take ((wrap64 ((t223.length : Int) - 1)) : Int).toNat) (⟨#[47]⟩ : ByteArray)).bind fun t233 => (if (wrap64 ((t223.length : Int) - 1)) < (t223.length : Int) then (if t228 < 0 then ((pr_peek.f t226 t227 t228).bind fun bt235 => (pr_name.j0 k (bt235.1 == 64) bt235.2.1 bt235.2.2.1 bt235.2.2.2 t218 t233 (rdOf ByteArray.empty t223 (wrap64 ((t223.length : Int) - 1))) (⟨#[]⟩ : ByteArray) (⟨#[]⟩ : ByteArray))) else (none)) else (none))) else (none)) else (none)) = some (r1, r2, r3, r4, r5, r6, r7, r8, r9) := H
  have A13 := Aq.mk A130
  clear A130
  obtain ⟨ji14, hji14⟩ : ∃ j_ : Int, (wrap64 ((t223.length : Int) - 1)) = j_ := ⟨_, rfl⟩
  replace H : (if 0 ≤ (ji14) then (if (ji14) ≤ (t223.length : Int) then ((lib_Join.f (t223.take ((ji14) : Int).toNat) (⟨#[47]⟩ : ByteArray)).bind fun t233 => (if (ji14) < (t223.length : Int) then (if t228 < 0 then ((pr_peek.f t226 t227 t228).bind fun bt235 => (pr_name.j0 k (bt235.1 == 64) bt235.2.1 bt235.2.2.1 bt235.2.2.2 t218 t233 (rdOf ByteArray.empty t223 (ji14)) (⟨#[]⟩ : ByteArray) (⟨#[]⟩ : ByteArray))) else (none)) else (none))) else (none)) else (none)) = some (r1, r2, r3, r4, r5, r6, r7, r8, r9) := by first | (rw [hji14] at H; exact H) | (simp only [hji14] at H ⊢; exact H)
  (try rw [hji14] at A2)
  (try rw [hji14] at A13)
  have hji14w : (IntKind.i64.wrap ((t223.length : Int) - 1)) = ji14 := (i64_w _).trans hji14
  by_cases c15 : 0 ≤ (ji14)
  ·rw [if_pos c15] at H
   have c15b0 := eq_true c15
   have c15b1 : decide (0 ≤ (ji14)) = true := zk c15
   clear c15
   by_cases c16 : (ji14) ≤ (t223.length : Int)
   ·rw [if_pos c16] at H
    have c16b0 := eq_true c16
    have c16b1 : decide ((ji14) ≤ (t223.length : Int)) = true := zk c16
    clear c16
    obtain ⟨y229, hy229⟩ : ∃ y_ : List ByteArray, y_ = (t223.take ((ji14) : Int).toNat) := ⟨_, rfl⟩
    replace H : ((lib_Join.f y229 (⟨#[47]⟩ : ByteArray)).bind fun t233 => (if (ji14) < (t223.length : Int) then (if t228 < 0 then ((pr_peek.f t226 t227 t228).bind fun bt235 => (pr_name.j0 k (bt235.1 == 64) bt235.2.1 bt235.2.2.1 bt235.2.2.2 t218 t233 (rdOf ByteArray.empty t223 (ji14)) (⟨#[]⟩ : ByteArray) (⟨#[]⟩ : ByteArray))) else (none)) else (none))) = some (r1, r2, r3, r4, r5, r6, r7, r8, r9) := by first | (rw [hy229]; with_reducible exact H) | (have H2_ := (Option.bind_some _ _).symm.trans H; rw [hy229]; with_reducible exact H2_) | (have H2_ := (Option.bind_some _ _).symm.trans H; with_reducible exact H2_) | with_reducible exact H | (rw [hy229]; exact H) | exact H
    have Ny229 := Aq.mk hy229
    clear hy229
    replace H := zu.mp H
    obtain ⟨t233, A170, H⟩ := H
    replace H : (if (ji14) < (t223.length : Int) then (if t228 < 0 then ((pr_peek.f t226 t227 t228).bind fun bt235 => (pr_name.j0 k (bt235.1 == 64) bt235.2.1 bt235.2.2.1 bt235.2.2.2 t218 t233 (rdOf ByteArray.empty t223 (ji14)) (⟨#[]⟩ : ByteArray) (⟨#[]⟩ : ByteArray))) else (none)) else (none)) = some (r1, r2, r3, r4, r5, r6, r7, r8, r9) := H
    have A17 := Aq.mk A170
    clear A170
    by_cases c18 : (ji14) < (t223.length : Int)
    ·rw [if_pos c18] at H
     have c18b0 : decide ((ji14) < (t223.length : Int)) = true := zk c18
     clear c18
     have HC19 := Aq.mk H
     clear H
     go_enter Tryd.func46, Tryd.ntmps46
     go_upto_region 5 with (first | ((with_reducible refine gate_dst (N := 2) rfl ?_); (try (refine gate_guard (by rfl) ?_; dsimp only)); refine box_event ?hg (N := 2) ?hd (cs := #[.string (⟨#[]⟩ : ByteArray), .string (⟨#[]⟩ : ByteArray), .string (⟨#[]⟩ : ByteArray), .string (⟨#[]⟩ : ByteArray), .slice none 0 0, .string (⟨#[]⟩ : ByteArray)]) (t := 24) ?hr ?_; (case hd => rfl); (case hg => rfl); (case hr => first | (go_simp; done) | (go_simp; rfl)); intro gb217 hg w20 hbox hb; have n0_ := Aq.mk (IsS69.below (by repeat (with_reducible first | exact HI0.out | apply zn | apply zo | apply zp | apply zq | apply zr | apply zt)) hb); have n1_ := Aq.mk (KeepBut.trans (by repeat (with_reducible first | exact HK.out | apply zm | apply zU | apply zV | apply zW)) (KeepBut.of_below hb g none) (.inl rfl)); have n2_ := Aq.mk (zv (by repeat (with_reducible first | exact HB.out | apply zd | apply zb | apply zc | refine zf ?_ (IsS69.ge HI0.out))) hb); have n3_ := Aq.mk (hbox); have n4_ := Aq.mk ((by rw [hg]; exact (keep_size (w := w) (g := g) (row := none) (by repeat (with_reducible first | exact HK.out | apply zm | apply zU | apply zV | apply zW))) : w.heap.size ≤ gb217)); have n5_ := Aq.mk ((Nat.le_trans HW0.out (by rw [hg]; exact (keep_size (w := w) (g := g) (row := none) (by repeat (with_reducible first | exact HK.out | apply zm | apply zU | apply zV | apply zW))) : w.heap.size ≤ gb217) : w0.heap.size ≤ gb217)); have n6_ := Aq.mk ((by rw [hg]; exact Nat.ne_of_lt (IsS69.lt (show IsS69 w0 _ g s0_0 s0_1 s0_2 from by repeat (with_reducible first | exact HI0.out | apply zn | apply zo | apply zp | apply zq | apply zr | apply zt))) : g ≠ gb217)); have n7_ := Aq.mk ((by rw [hg]; exact Nat.ne_of_gt (IsS69.lt (show IsS69 w0 _ g s0_0 s0_1 s0_2 from by repeat (with_reducible first | exact HI0.out | apply zn | apply zo | apply zp | apply zq | apply zr | apply zt))) : gb217 ≠ g)); clear HI0; clear HK; clear HB; have HI0 := n0_; have HK := n1_; have HB := n2_; have BK217 := n3_; have GW217 := n4_; have GE217 := n5_; have NB0_217 := n6_; have NB217_0 := n7_; clear n0_ n1_ n2_ n3_ n4_ n5_ n6_ n7_; clear hb hbox hg) | ((with_reducible refine gate_callee (f := 92) rfl ?_); refine goesL_ (some 7) rfl rfl Tryd.func92 (by kernel_rfl) rfl #[.pointer (some ⟨g, 0, none⟩), .bool false] rfl (by (try simp only [zP, zQ, zR]); first | done | rfl | (simp only [zS, zT]; rfl)) ?_; (with_reducible refine (pr_head.calls k g s0_0 s0_1 s0_2 false t218 t219 t220 t221 w0 _ ?side1 ?side2 A2.out).mono ?_); (case side1 => repeat (with_reducible first | exact HI0.out | apply zn | apply zo | apply zp | apply zq | apply zr | apply zt | refine IsS69.far ?_ NB0_217.out _)); (case side2 => repeat (with_reducible first | exact HB.out | apply zd | apply zb | apply zc | refine zf ?_ (IsS69.ge HI0.out) | refine zf ?_ GE217.out)); rintro e w21 ⟨rfl, hi, hb, hk⟩; refine ⟨_, rfl, ?_⟩; have n0_ := Aq.mk (KeepBut.blk hk (g' := gb217) (o := .cells #[.string (⟨#[]⟩ : ByteArray), .string (⟨#[]⟩ : ByteArray), .string (⟨#[]⟩ : ByteArray), .string (⟨#[]⟩ : ByteArray), .slice none 0 0, .string (⟨#[]⟩ : ByteArray)] 24 (0, 0)) (by (with_reducible repeat (first | refine zg ?_ _ | refine zi ?_ | refine zh ?_ _)); exact BK217.out) NB217_0.out (by simp)); have n1_ := Aq.mk (KeepBut.trans (by repeat (with_reducible first | exact HK.out | apply zm | apply zU | apply zV | apply zW | refine keep_far ?_ GW217.out _)) hk (.inl rfl)); have n2_ := Aq.mk (hb); have n3_ := Aq.mk (hi); clear BK217; clear HK; clear HB; clear HI0; have BK217 := n0_; have HK := n1_; have HB := n2_; have HI0 := n3_; clear n0_ n1_ n2_ n3_; (try clear hb); (try clear hb2); (try clear hk); (try clear hi)) | ((with_reducible refine gate_dst (N := 3) rfl ?_); (try (refine gate_guard (by rfl) ?_; dsimp only)); refine box_event ?hg (N := 3) ?hd (cs := #[.string (⟨#[]⟩ : ByteArray), .string (⟨#[]⟩ : ByteArray), .string (⟨#[]⟩ : ByteArray), .string (⟨#[]⟩ : ByteArray), .slice none 0 0, .string (⟨#[]⟩ : ByteArray)]) (t := 24) ?hr ?_; (case hd => rfl); (case hg => rfl); (case hr => first | (go_simp; done) | (go_simp; rfl)); intro gb222 hg w22 hbox hb; have n0_ := Aq.mk (IsS69.below (by repeat (with_reducible first | exact HI0.out | apply zn | apply zo | apply zp | apply zq | apply zr | apply zt | refine IsS69.far ?_ NB0_217.out _)) hb); have n1_ := Aq.mk (zw (g := gb217) (o := .cells #[.string (⟨#[]⟩ : ByteArray), .string (⟨#[]⟩ : ByteArray), .string (⟨#[]⟩ : ByteArray), .string (⟨#[]⟩ : ByteArray), .slice none 0 0, .string (⟨#[]⟩ : ByteArray)] 24 (0, 0)) (by (with_reducible repeat (first | refine zg ?_ _ | refine zi ?_ | refine zh ?_ _)); exact BK217.out) hb); have n2_ := Aq.mk (KeepBut.trans (by repeat (with_reducible first | exact HK.out | apply zm | apply zU | apply zV | apply zW | refine keep_far ?_ GW217.out _)) (KeepBut.of_below hb g none) (.inl rfl)); have n3_ := Aq.mk (zv (by repeat (with_reducible first | exact HB.out | apply zd | apply zb | apply zc | refine zf ?_ (IsS69.ge HI0.out) | refine zf ?_ GE217.out)) hb); have n4_ := Aq.mk (hbox); have n5_ := Aq.mk ((by rw [hg]; exact (keep_size (w := w) (g := g) (row := none) (by repeat (with_reducible first | exact HK.out | apply zm | apply zU | apply zV | apply zW | refine keep_far ?_ GW217.out _))) : w.heap.size ≤ gb222)); have n6_ := Aq.mk ((Nat.le_trans HW0.out (by rw [hg]; exact (keep_size (w := w) (g := g) (row := none) (by repeat (with_reducible first | exact HK.out | apply zm | apply zU | apply zV | apply zW | refine keep_far ?_ GW217.out _))) : w.heap.size ≤ gb222) : w0.heap.size ≤ gb222)); have n7_ := Aq.mk ((by rw [hg]; exact Nat.ne_of_lt (zA (g := gb217) (o := .cells #[.string (⟨#[]⟩ : ByteArray), .string (⟨#[]⟩ : ByteArray), .string (⟨#[]⟩ : ByteArray), .string (⟨#[]⟩ : ByteArray), .slice none 0 0, .string (⟨#[]⟩ : ByteArray)] 24 (0, 0)) (by (with_reducible repeat (first | refine zg ?_ _ | refine zi ?_ | refine zh ?_ _)); exact BK217.out)) : gb217 ≠ gb222)); have n8_ := Aq.mk ((by rw [hg]; exact Nat.ne_of_gt (zA (g := gb217) (o := .cells #[.string (⟨#[]⟩ : ByteArray), .string (⟨#[]⟩ : ByteArray), .string (⟨#[]⟩ : ByteArray), .string (⟨#[]⟩ : ByteArray), .slice none 0 0, .string (⟨#[]⟩ : ByteArray)] 24 (0, 0)) (by (with_reducible repeat (first | refine zg ?_ _ | refine zi ?_ | refine zh ?_ _)); exact BK217.out)) : gb222 ≠ gb217)); have n9_ := Aq.mk ((by rw [hg]; exact Nat.ne_of_lt (IsS69.lt (show IsS69 w0 _ g t219 t220 t221 from by repeat (with_reducible first | exact HI0.out | apply zn | apply zo | apply zp | apply zq | apply zr | apply zt | refine IsS69.far ?_ NB0_217.out _))) : g ≠ gb222)); have n10_ := Aq.mk ((by rw [hg]; exact Nat.ne_of_gt (IsS69.lt (show IsS69 w0 _ g t219 t220 t221 from by repeat (with_reducible first | exact HI0.out | apply zn | apply zo | apply zp | apply zq | apply zr | apply zt | refine IsS69.far ?_ NB0_217.out _))) : gb222 ≠ g)); clear HI0; clear BK217; clear HK; clear HB; have HI0 := n0_; have BK217 := n1_; have HK := n2_; have HB := n3_; have BK222 := n4_; have GW222 := n5_; have GE222 := n6_; have NB217_222 := n7_; have NB222_217 := n8_; have NB0_222 := n9_; have NB222_0 := n10_; clear n0_ n1_ n2_ n3_ n4_ n5_ n6_ n7_ n8_ n9_ n10_; clear hb hbox hg; have hnb23 := NB222_217.out; have hnc23 := NB217_222.out; have hnb24 := NB222_0.out; have hnc24 := NB0_222.out; have hcz25_0 : w22.cell? ⟨gb222, 0, none⟩ = some (.string (⟨#[]⟩ : ByteArray)) := (ze BK222.out 0).trans rfl; have hcz25_1 : w22.cell? ⟨gb222, 1, none⟩ = some (.string (⟨#[]⟩ : ByteArray)) := (ze BK222.out 1).trans rfl; have hcz25_2 : w22.cell? ⟨gb222, 2, none⟩ = some (.string (⟨#[]⟩ : ByteArray)) := (ze BK222.out 2).trans rfl; have hcz25_3 : w22.cell? ⟨gb222, 3, none⟩ = some (.string (⟨#[]⟩ : ByteArray)) := (ze BK222.out 3).trans rfl; have hcz25_4 : w22.cell? ⟨gb222, 4, none⟩ = some (.slice none 0 0) := (ze BK222.out 4).trans rfl; have hcz25_5 : w22.cell? ⟨gb222, 5, none⟩ = some (.string (⟨#[]⟩ : ByteArray)) := (ze BK222.out 5).trans rfl; have hfz25_0 := za BK222.out 0; have hfz25_1 := za BK222.out 1; have hfz25_2 := za BK222.out 2; have hfz25_3 := za BK222.out 3; have hfz25_4 := za BK222.out 4; have hfz25_5 := za BK222.out 5; obtain ⟨HGz26, hgz26⟩ := HI0.out; have hcz26_0 := cellS69_0 HGz26; have hcz26_1 := cellS69_1 HGz26; have hcz26_2 := cellS69_2 HGz26; have hfz26_0 := za HGz26 0; have hfz26_1 := za HGz26 1; have hfz26_2 := za HGz26 2; clear HGz26 hgz26) | ((with_reducible refine gate_callee (f := 93) rfl ?_); refine goesL_ (some 16) rfl rfl Tryd.func93 (by kernel_rfl) rfl #[.pointer (some ⟨g, 0, none⟩)] rfl (by (try simp only [zP, zQ, zR]); first | done | rfl | (simp only [zS, zT]; rfl)) ?_; (with_reducible refine (pr_parts.calls k g t219 t220 t221 t223 t226 t227 t228 w0 _ ?side1 ?side2 A13.out).mono ?_); (case side1 => repeat (with_reducible first | exact HI0.out | apply zn | apply zo | apply zp | apply zq | apply zr | apply zt | refine IsS69.far ?_ NB0_217.out _ | refine IsS69.far ?_ NB0_222.out _)); (case side2 => repeat (with_reducible first | exact HB.out | apply zd | apply zb | apply zc | refine zf ?_ (IsS69.ge HI0.out) | refine zf ?_ GE217.out | refine zf ?_ GE222.out)); rintro e w27 ⟨v224, rfl, ho0, hi, hb, hk⟩; refine ⟨_, rfl, ?_⟩; have NE222 := Aq.mk (ne_of_base (b := gb222) (o := .cells #[.string t218, .string (⟨#[]⟩ : ByteArray), .string (⟨#[]⟩ : ByteArray), .string (⟨#[]⟩ : ByteArray), .slice none 0 0, .string (⟨#[]⟩ : ByteArray)] 24 (0, 0)) ho0 (by (with_reducible repeat (first | refine zg ?_ _ | refine zi ?_ | refine zh ?_ _)); refine zy (cs := #[.string t218, .string (⟨#[]⟩ : ByteArray), .string (⟨#[]⟩ : ByteArray), .string (⟨#[]⟩ : ByteArray), .slice none 0 0, .string (⟨#[]⟩ : ByteArray)]) ?_ 5 _ rfl; (with_reducible repeat (first | refine zg ?_ _ | refine zi ?_ | refine zh ?_ _)); refine zy (cs := #[.string t218, .string (⟨#[]⟩ : ByteArray), .string (⟨#[]⟩ : ByteArray), .string (⟨#[]⟩ : ByteArray), .slice none 0 0, .string (⟨#[]⟩ : ByteArray)]) ?_ 4 _ rfl; (with_reducible repeat (first | refine zg ?_ _ | refine zi ?_ | refine zh ?_ _)); refine zy (cs := #[.string t218, .string (⟨#[]⟩ : ByteArray), .string (⟨#[]⟩ : ByteArray), .string (⟨#[]⟩ : ByteArray), .slice none 0 0, .string (⟨#[]⟩ : ByteArray)]) ?_ 3 _ rfl; (with_reducible repeat (first | refine zg ?_ _ | refine zi ?_ | refine zh ?_ _)); refine zy (cs := #[.string t218, .string (⟨#[]⟩ : ByteArray), .string (⟨#[]⟩ : ByteArray), .string (⟨#[]⟩ : ByteArray), .slice none 0 0, .string (⟨#[]⟩ : ByteArray)]) ?_ 2 _ rfl; (with_reducible repeat (first | refine zg ?_ _ | refine zi ?_ | refine zh ?_ _)); refine zy (cs := #[.string t218, .string (⟨#[]⟩ : ByteArray), .string (⟨#[]⟩ : ByteArray), .string (⟨#[]⟩ : ByteArray), .slice none 0 0, .string (⟨#[]⟩ : ByteArray)]) ?_ 1 _ rfl; (with_reducible repeat (first | refine zg ?_ _ | refine zi ?_ | refine zh ?_ _)); refine zy (cs := #[.string (⟨#[]⟩ : ByteArray), .string (⟨#[]⟩ : ByteArray), .string (⟨#[]⟩ : ByteArray), .string (⟨#[]⟩ : ByteArray), .slice none 0 0, .string (⟨#[]⟩ : ByteArray)]) ?_ 0 _ rfl; (with_reducible repeat (first | refine zg ?_ _ | refine zi ?_ | refine zh ?_ _)); exact BK222.out)); have n0_ := Aq.mk (KeepBut.blk hk (g' := gb217) (o := .cells #[.string (⟨#[]⟩ : ByteArray), .string (⟨#[]⟩ : ByteArray), .string (⟨#[]⟩ : ByteArray), .string (⟨#[]⟩ : ByteArray), .slice none 0 0, .string (⟨#[]⟩ : ByteArray)] 24 (0, 0)) (by (with_reducible repeat (first | refine zg ?_ _ | refine zi ?_ | refine zh ?_ _)); refine zx ?_ NB217_222.out _; (with_reducible repeat (first | refine zg ?_ _ | refine zi ?_ | refine zh ?_ _)); refine zx ?_ NB217_222.out _; (with_reducible repeat (first | refine zg ?_ _ | refine zi ?_ | refine zh ?_ _)); refine zx ?_ NB217_222.out _; (with_reducible repeat (first | refine zg ?_ _ | refine zi ?_ | refine zh ?_ _)); refine zx ?_ NB217_222.out _; (with_reducible repeat (first | refine zg ?_ _ | refine zi ?_ | refine zh ?_ _)); refine zx ?_ NB217_222.out _; (with_reducible repeat (first | refine zg ?_ _ | refine zi ?_ | refine zh ?_ _)); refine zx ?_ NB217_222.out _; (with_reducible repeat (first | refine zg ?_ _ | refine zi ?_ | refine zh ?_ _)); exact BK217.out) NB217_0.out (by simp)); have n1_ := Aq.mk (KeepBut.blk hk (g' := gb222) (o := .cells #[.string t218, .string (⟨#[]⟩ : ByteArray), .string (⟨#[]⟩ : ByteArray), .string (⟨#[]⟩ : ByteArray), .slice none 0 0, .string (⟨#[]⟩ : ByteArray)] 24 (0, 0)) (by (with_reducible repeat (first | refine zg ?_ _ | refine zi ?_ | refine zh ?_ _)); refine zy (cs := #[.string t218, .string (⟨#[]⟩ : ByteArray), .string (⟨#[]⟩ : ByteArray), .string (⟨#[]⟩ : ByteArray), .slice none 0 0, .string (⟨#[]⟩ : ByteArray)]) ?_ 5 _ rfl; (with_reducible repeat (first | refine zg ?_ _ | refine zi ?_ | refine zh ?_ _)); refine zy (cs := #[.string t218, .string (⟨#[]⟩ : ByteArray), .string (⟨#[]⟩ : ByteArray), .string (⟨#[]⟩ : ByteArray), .slice none 0 0, .string (⟨#[]⟩ : ByteArray)]) ?_ 4 _ rfl; (with_reducible repeat (first | refine zg ?_ _ | refine zi ?_ | refine zh ?_ _)); refine zy (cs := #[.string t218, .string (⟨#[]⟩ : ByteArray), .string (⟨#[]⟩ : ByteArray), .string (⟨#[]⟩ : ByteArray), .slice none 0 0, .string (⟨#[]⟩ : ByteArray)]) ?_ 3 _ rfl; (with_reducible repeat (first | refine zg ?_ _ | refine zi ?_ | refine zh ?_ _)); refine zy (cs := #[.string t218, .string (⟨#[]⟩ : ByteArray), .string (⟨#[]⟩ : ByteArray), .string (⟨#[]⟩ : ByteArray), .slice none 0 0, .string (⟨#[]⟩ : ByteArray)]) ?_ 2 _ rfl; (with_reducible repeat (first | refine zg ?_ _ | refine zi ?_ | refine zh ?_ _)); refine zy (cs := #[.string t218, .string (⟨#[]⟩ : ByteArray), .string (⟨#[]⟩ : ByteArray), .string (⟨#[]⟩ : ByteArray), .slice none 0 0, .string (⟨#[]⟩ : ByteArray)]) ?_ 1 _ rfl; (with_reducible repeat (first | refine zg ?_ _ | refine zi ?_ | refine zh ?_ _)); refine zy (cs := #[.string (⟨#[]⟩ : ByteArray), .string (⟨#[]⟩ : ByteArray), .string (⟨#[]⟩ : ByteArray), .string (⟨#[]⟩ : ByteArray), .slice none 0 0, .string (⟨#[]⟩ : ByteArray)]) ?_ 0 _ rfl; (with_reducible repeat (first | refine zg ?_ _ | refine zi ?_ | refine zh ?_ _)); exact BK222.out) NB222_0.out (by simp)); have n2_ := Aq.mk (zX ho0 (keep_size (w := w) (g := g) (row := none) (by repeat (with_reducible first | exact HK.out | apply zm | apply zU | apply zV | apply zW | refine keep_far ?_ GW217.out _ | refine keep_far ?_ GW222.out _)))); have n3_ := Aq.mk (KeepBut.trans (by repeat (with_reducible first | exact HK.out | apply zm | apply zU | apply zV | apply zW | refine keep_far ?_ GW217.out _ | refine keep_far ?_ GW222.out _)) hk (.inl rfl)); have n4_ := Aq.mk (hb); have n5_ := Aq.mk (hi); clear BK217; clear BK222; clear HK; clear HB; clear HI0; have BK217 := n0_; have BK222 := n1_; have HO225 := n2_; have HK := n3_; have HB := n4_; have HI0 := n5_; clear n0_ n1_ n2_ n3_ n4_ n5_; (try clear hb); (try clear hb2); (try clear hk); (try clear hi); (try clear ho0); obtain ⟨Ao28, co28, eo28⟩ := yi HO225.out; subst eo28; have q29 : ((ji14) : Int) ≤ ((t223.length : Int) : Int) := zj (by assumption); obtain ⟨i029, hi029, _, hsz29, _⟩ := info_parts info9; have hroom29 : t223.length ≤ co28 := (Kd.R_reads' HO225.out).2.1; have hC29 : Kd.C Kd.string _ Ao28 t223.length t223 := (Kd.R_reads' HO225.out).2.2; have hcut29 := cut_to (P := Tryd.prog) 41 9 .i64 Tryd.underlying41 hi029 Ao28 t223.length co28 (ji14) (zj (by assumption)) q29 hroom29; have hr29 := Kd.C_take (m := ((ji14) : Int).toNat) hC29 (by omega); have hy29 : y229.length = ((ji14) : Int).toNat := (by rw [Ny229.out, zT]; omega); rw [← Ny229.out] at hr29; rw [← hy29] at hcut29; have HR232 := Aq.mk hr29; have HC232 := Aq.mk (show y229.length ≤ co28 from by omega); clear hr29 hC29 hroom29 hi029 hsz29; have KY29 := Aq.mk hy29; clear hy29; have KL29 := Aq.mk (show ((ji14) : Int).toNat ≤ t223.length from by omega); replace q29 := eq_true q29) | ((with_reducible refine gate_callee (f := 40) rfl ?_); refine goesL_ (some 22) rfl rfl Tryd.func40 (by kernel_rfl) rfl #[.slice Ao28 y229.length co28, .string (⟨#[47]⟩ : ByteArray)] rfl (by (try simp only [zP, zQ, zR]); first | done | rfl | (simp only [zS, zT]; rfl)) ?_; (with_reducible refine (lib_Join.calls _ _ y229 (⟨#[47]⟩ : ByteArray) t233 _ ?side1 ?side2 A17.out).mono ?_); (case side1 => repeat (first | exact (by repeat (first | (with_reducible exact HR232.out) | (with_reducible refine zF ?_ _) | (with_reducible refine zE ?_ _) | (with_reducible refine zG ?_) | exact HR232.out)) | (with_reducible refine zF ?_ _) | (with_reducible refine zE ?_ _) | (with_reducible refine zG ?_))); (case side2 => exact HC232.out); rintro e w30 ⟨rfl, hb⟩; refine ⟨_, rfl, ?_⟩; have n0_ := Aq.mk (yj (by (with_reducible repeat (first | apply zC | apply zB | apply zD)); exact HO225.out) hb); have n1_ := Aq.mk (IsS69.below (by repeat (with_reducible first | exact HI0.out | apply zn | apply zo | apply zp | apply zq | apply zr | apply zt | refine IsS69.far ?_ NB0_217.out _ | refine IsS69.far ?_ NB0_222.out _)) hb); have n2_ := Aq.mk (zw (g := gb217) (o := .cells #[.string (⟨#[]⟩ : ByteArray), .string (⟨#[]⟩ : ByteArray), .string (⟨#[]⟩ : ByteArray), .string (⟨#[]⟩ : ByteArray), .slice none 0 0, .string (⟨#[]⟩ : ByteArray)] 24 (0, 0)) (by (with_reducible repeat (first | refine zg ?_ _ | refine zi ?_ | refine zh ?_ _)); exact BK217.out) hb); have n3_ := Aq.mk (zw (g := gb222) (o := .cells #[.string t218, .string (⟨#[]⟩ : ByteArray), .string (⟨#[]⟩ : ByteArray), .string (⟨#[]⟩ : ByteArray), .slice none 0 0, .string (⟨#[]⟩ : ByteArray)] 24 (0, 0)) (by (with_reducible repeat (first | refine zg ?_ _ | refine zi ?_ | refine zh ?_ _)); exact BK222.out) hb); have n4_ := Aq.mk (Kd.C_below (by repeat (first | (with_reducible exact HR232.out) | (with_reducible refine zF ?_ _) | (with_reducible refine zE ?_ _) | (with_reducible refine zG ?_) | exact HR232.out)) hb); have n5_ := Aq.mk (KeepBut.trans (by repeat (with_reducible first | exact HK.out | apply zm | apply zU | apply zV | apply zW | refine keep_far ?_ GW217.out _ | refine keep_far ?_ GW222.out _)) (KeepBut.of_below hb g none) (.inl rfl)); have n6_ := Aq.mk (zv (by repeat (with_reducible first | exact HB.out | apply zd | apply zb | apply zc | refine zf ?_ (IsS69.ge HI0.out) | refine zf ?_ GE217.out | refine zf ?_ GE222.out)) hb); clear HO225; clear HI0; clear BK217; clear BK222; clear HR232; clear HK; clear HB; have HO225 := n0_; have HI0 := n1_; have BK217 := n2_; have BK222 := n3_; have HR232 := n4_; have HK := n5_; have HB := n6_; clear n0_ n1_ n2_ n3_ n4_ n5_ n6_; (try clear hb); (try clear hb2); (try clear hk); (try clear hi); have p234 : 0 ≤ ((ji14) : Int) := zj (by assumption); have q234 : (ji14) < (t223.length : Int) := zj (by assumption); obtain ⟨ad234, e234, hx234_0⟩ := Kd.at_string (Kd.R_reads' HO225.out).2.2 (ji14) p234 q234; cases e234; replace p234 := eq_true p234; replace q234 := eq_true q234; have hcz31_0 : w30.cell? ⟨gb222, 0, none⟩ = some (.string t218) := (ze BK222.out 0).trans rfl; have hcz31_1 : w30.cell? ⟨gb222, 1, none⟩ = some (.string (⟨#[]⟩ : ByteArray)) := (ze BK222.out 1).trans rfl; have hcz31_2 : w30.cell? ⟨gb222, 2, none⟩ = some (.string (⟨#[]⟩ : ByteArray)) := (ze BK222.out 2).trans rfl; have hcz31_3 : w30.cell? ⟨gb222, 3, none⟩ = some (.string (⟨#[]⟩ : ByteArray)) := (ze BK222.out 3).trans rfl; have hcz31_4 : w30.cell? ⟨gb222, 4, none⟩ = some (.slice none 0 0) := (ze BK222.out 4).trans rfl; have hcz31_5 : w30.cell? ⟨gb222, 5, none⟩ = some (.string (⟨#[]⟩ : ByteArray)) := (ze BK222.out 5).trans rfl; have hfz31_0 := za BK222.out 0; have hfz31_1 := za BK222.out 1; have hfz31_2 := za BK222.out 2; have hfz31_3 := za BK222.out 3; have hfz31_4 := za BK222.out 4; have hfz31_5 := za BK222.out 5))
     (try simp only [Act.put, zJ, zK, zL])
     go_cut [] (fun wc => Aq (wc.heap[gb217]? = some (.cells #[.string (⟨#[]⟩ : ByteArray), .string (⟨#[]⟩ : ByteArray), .string (⟨#[]⟩ : ByteArray), .string (⟨#[]⟩ : ByteArray), (.slice none 0 0), .string (⟨#[]⟩ : ByteArray)] 24 (0, 0))) ∧ Aq (wc.heap[gb222]? = some (.cells #[.string t218, .string t233, .string (rdOf ByteArray.empty t223 (ji14)), .string (⟨#[]⟩ : ByteArray), (.slice none 0 0), .string (⟨#[]⟩ : ByteArray)] 24 (0, 0))) ∧ Aq (IsS69 w0 wc g t226 t227 t228) ∧ Aq (KeepBut w wc g none) ∧ Aq (Below w0.heap.size w0 wc))
     case first =>
      have p234 : 0 ≤ ((ji14) : Int) := zj (by assumption)
      have q234 : (ji14) < (t223.length : Int) := zj (by assumption)
      obtain ⟨ad234, e234, hx234_0⟩ := Kd.at_string (Kd.R_reads' HO225.out).2.2 (ji14) p234 q234
      cases e234
      replace p234 := eq_true p234
      replace q234 := eq_true q234
      go_region_with (first | (go_at_call 40; (with_reducible refine (lib_Join.calls _ _ y229 (⟨#[47]⟩ : ByteArray) t233 _ ?side1 ?side2 A17.out).mono ?_); (case side1 => repeat (first | exact (by repeat (first | (with_reducible exact HR232.out) | (with_reducible refine zF ?_ _) | (with_reducible refine zE ?_ _) | (with_reducible refine zG ?_) | exact HR232.out)) | (with_reducible refine zF ?_ _) | (with_reducible refine zE ?_ _) | (with_reducible refine zG ?_))); (case side2 => exact HC232.out); rintro e w30 ⟨rfl, hb⟩; have n0_ := Aq.mk (yj (by (with_reducible repeat (first | apply zC | apply zB | apply zD)); exact HO225.out) hb); have n1_ := Aq.mk (IsS69.below (by repeat (with_reducible first | exact HI0.out | apply zn | apply zo | apply zp | apply zq | apply zr | apply zt | refine IsS69.far ?_ NB0_217.out _ | refine IsS69.far ?_ NB0_222.out _)) hb); have n2_ := Aq.mk (zw (g := gb217) (o := .cells #[.string (⟨#[]⟩ : ByteArray), .string (⟨#[]⟩ : ByteArray), .string (⟨#[]⟩ : ByteArray), .string (⟨#[]⟩ : ByteArray), .slice none 0 0, .string (⟨#[]⟩ : ByteArray)] 24 (0, 0)) (by (with_reducible repeat (first | refine zg ?_ _ | refine zi ?_ | refine zh ?_ _)); exact BK217.out) hb); have n3_ := Aq.mk (zw (g := gb222) (o := .cells #[.string t218, .string (⟨#[]⟩ : ByteArray), .string (⟨#[]⟩ : ByteArray), .string (⟨#[]⟩ : ByteArray), .slice none 0 0, .string (⟨#[]⟩ : ByteArray)] 24 (0, 0)) (by (with_reducible repeat (first | refine zg ?_ _ | refine zi ?_ | refine zh ?_ _)); exact BK222.out) hb); have n4_ := Aq.mk (Kd.C_below (by repeat (first | (with_reducible exact HR232.out) | (with_reducible refine zF ?_ _) | (with_reducible refine zE ?_ _) | (with_reducible refine zG ?_) | exact HR232.out)) hb); have n5_ := Aq.mk (KeepBut.trans (by repeat (with_reducible first | exact HK.out | apply zm | apply zU | apply zV | apply zW | refine keep_far ?_ GW217.out _ | refine keep_far ?_ GW222.out _)) (KeepBut.of_below hb g none) (.inl rfl)); have n6_ := Aq.mk (zv (by repeat (with_reducible first | exact HB.out | apply zd | apply zb | apply zc | refine zf ?_ (IsS69.ge HI0.out) | refine zf ?_ GE217.out | refine zf ?_ GE222.out)) hb); clear HO225; clear HI0; clear BK217; clear BK222; clear HR232; clear HK; clear HB; have HO225 := n0_; have HI0 := n1_; have BK217 := n2_; have BK222 := n3_; have HR232 := n4_; have HK := n5_; have HB := n6_; clear n0_ n1_ n2_ n3_ n4_ n5_ n6_; (try clear hb); (try clear hb2); (try clear hk); (try clear hi); have p234 : 0 ≤ ((ji14) : Int) := zj (by assumption); have q234 : (ji14) < (t223.length : Int) := zj (by assumption); obtain ⟨ad234, e234, hx234_0⟩ := Kd.at_string (Kd.R_reads' HO225.out).2.2 (ji14) p234 q234; cases e234; have hxs234 := far_own (j := 1) NE222.out hx234_0; replace p234 := eq_true p234; replace q234 := eq_true q234; have hcz31_0 : w30.cell? ⟨gb222, 0, none⟩ = some (.string t218) := (ze BK222.out 0).trans rfl; have hcz31_1 : w30.cell? ⟨gb222, 1, none⟩ = some (.string (⟨#[]⟩ : ByteArray)) := (ze BK222.out 1).trans rfl; have hcz31_2 : w30.cell? ⟨gb222, 2, none⟩ = some (.string (⟨#[]⟩ : ByteArray)) := (ze BK222.out 2).trans rfl; have hcz31_3 : w30.cell? ⟨gb222, 3, none⟩ = some (.string (⟨#[]⟩ : ByteArray)) := (ze BK222.out 3).trans rfl; have hcz31_4 : w30.cell? ⟨gb222, 4, none⟩ = some (.slice none 0 0) := (ze BK222.out 4).trans rfl; have hcz31_5 : w30.cell? ⟨gb222, 5, none⟩ = some (.string (⟨#[]⟩ : ByteArray)) := (ze BK222.out 5).trans rfl; have hfz31_0 := za BK222.out 0; have hfz31_1 := za BK222.out 1; have hfz31_2 := za BK222.out 2; have hfz31_3 := za BK222.out 3; have hfz31_4 := za BK222.out 4; have hfz31_5 := za BK222.out 5))
      all_goals (go_wp2; go_meet; (case rel => exact ⟨⟨by (with_reducible repeat (first | refine zg ?_ _ | refine zi ?_ | refine zh ?_ _)); refine zx ?_ NB217_222.out _; refine zx ?_ NB217_222.out _; exact BK217.out⟩, ⟨by (with_reducible repeat (first | refine zg ?_ _ | refine zi ?_ | refine zh ?_ _)); refine zy (cs := #[.string t218, .string t233, .string (⟨#[]⟩ : ByteArray), .string (⟨#[]⟩ : ByteArray), .slice none 0 0, .string (⟨#[]⟩ : ByteArray)]) ?_ 2 _ rfl; (with_reducible repeat (first | refine zg ?_ _ | refine zi ?_ | refine zh ?_ _)); refine zy (cs := #[.string t218, .string (⟨#[]⟩ : ByteArray), .string (⟨#[]⟩ : ByteArray), .string (⟨#[]⟩ : ByteArray), .slice none 0 0, .string (⟨#[]⟩ : ByteArray)]) ?_ 1 _ rfl; exact BK222.out⟩, ⟨by repeat (with_reducible first | exact HI0.out | apply zn | apply zo | apply zp | apply zq | apply zr | apply zt | refine IsS69.far ?_ NB0_217.out _ | refine IsS69.far ?_ NB0_222.out _)⟩, ⟨by repeat (with_reducible first | exact HK.out | apply zm | apply zU | apply zV | apply zW | refine keep_far ?_ GW217.out _ | refine keep_far ?_ GW222.out _)⟩, ⟨by repeat (with_reducible first | exact HB.out | apply zd | apply zb | apply zc | refine zf ?_ (IsS69.ge HI0.out) | refine zf ?_ GE217.out | refine zf ?_ GE222.out)⟩⟩))
     obtain ⟨BK217, BK222, HI0, HK, HB⟩ := hcut
     clear HO225 HR232 HC232 NE222 KY29 KL29
     go_upto_region 6 with (fail)
     (try simp only [Act.put, zJ, zK, zL])
     go_cut [40] (fun v40 wc => ∃ (kq : Nat) (x40_18 : Bool) (x1000_18 : ByteArray) (x1001_18 : Int) (x1002_18 : Int), v40 = .bool x40_18 ∧ Aq (pr_name.j0 kq x40_18 x1000_18 x1001_18 x1002_18 t218 t233 (rdOf ByteArray.empty t223 (ji14)) (⟨#[]⟩ : ByteArray) (⟨#[]⟩ : ByteArray) = some (r1, r2, r3, r4, r5, r6, r7, r8, r9)) ∧ Aq (kq ≤ k) ∧ Aq (wc.heap[gb217]? = some (.cells #[.string (⟨#[]⟩ : ByteArray), .string (⟨#[]⟩ : ByteArray), .string (⟨#[]⟩ : ByteArray), .string (⟨#[]⟩ : ByteArray), (.slice none 0 0), .string (⟨#[]⟩ : ByteArray)] 24 (0, 0))) ∧ Aq (wc.heap[gb222]? = some (.cells #[.string t218, .string t233, .string (rdOf ByteArray.empty t223 (ji14)), .string (⟨#[]⟩ : ByteArray), (.slice none 0 0), .string (⟨#[]⟩ : ByteArray)] 24 (0, 0))) ∧ Aq (IsS69 w0 wc g x1000_18 x1001_18 x1002_18) ∧ Aq (KeepBut w wc g none) ∧ Aq (Below w0.heap.size w0 wc))
     case first =>
      have H := HC19.out
      clear HC19
      by_cases c32 : t228 < 0
      ·rw [if_pos c32] at H
       have c32b0 : decide (t228 < 0) = true := zk c32
       clear c32
       (first | rw [c32b0] | (simp only [i64_w, i32_w]; rw [c32b0]) | skip)
       replace H := zu.mp H
       obtain ⟨⟨t235, t236, t237, t238⟩, A330, H⟩ := H
       replace H : (pr_name.j0 k (t235 == 64) t236 t237 t238 t218 t233 (rdOf ByteArray.empty t223 (ji14)) (⟨#[]⟩ : ByteArray) (⟨#[]⟩ : ByteArray)) = some (r1, r2, r3, r4, r5, r6, r7, r8, r9) := H
       have A33 := Aq.mk A330
       clear A330
       have H' := Aq.mk H
       clear H
       obtain ⟨HGz34, hgz34⟩ := HI0.out
       have hcz34_0 := cellS69_0 HGz34
       have hcz34_1 := cellS69_1 HGz34
       have hcz34_2 := cellS69_2 HGz34
       have hfz34_0 := za HGz34 0
       have hfz34_1 := za HGz34 1
       have hfz34_2 := za HGz34 2
       clear HGz34 hgz34
       go_wp2_with (first | (go_at_call 94; (with_reducible refine (pr_peek.calls g t226 t227 t228 t235 t236 t237 t238 w0 _ ?side1 ?side2 A33.out).mono ?_); (case side1 => repeat (with_reducible first | exact HI0.out | apply zn | apply zo | apply zp | apply zq | apply zr | apply zt | refine IsS69.far ?_ NB0_217.out _ | refine IsS69.far ?_ NB0_222.out _)); (case side2 => repeat (with_reducible first | exact HB.out | apply zd | apply zb | apply zc | refine zf ?_ (IsS69.ge HI0.out) | refine zf ?_ GE217.out | refine zf ?_ GE222.out)); rintro e w35 ⟨rfl, hi, hb, hk⟩; have n0_ := Aq.mk (KeepBut.blk hk (g' := gb217) (o := .cells #[.string (⟨#[]⟩ : ByteArray), .string (⟨#[]⟩ : ByteArray), .string (⟨#[]⟩ : ByteArray), .string (⟨#[]⟩ : ByteArray), .slice none 0 0, .string (⟨#[]⟩ : ByteArray)] 24 (0, 0)) (by (with_reducible repeat (first | refine zg ?_ _ | refine zi ?_ | refine zh ?_ _)); (try refine zx ?_ NB217_222.out _); (with_reducible repeat (first | refine zg ?_ _ | refine zi ?_ | refine zh ?_ _)); (try refine zx ?_ NB217_222.out _); (with_reducible repeat (first | refine zg ?_ _ | refine zi ?_ | refine zh ?_ _)); exact BK217.out) NB217_0.out (by simp)); have n1_ := Aq.mk (KeepBut.blk hk (g' := gb222) (o := .cells #[.string t218, .string t233, .string (rdOf ByteArray.empty t223 (ji14)), .string (⟨#[]⟩ : ByteArray), .slice none 0 0, .string (⟨#[]⟩ : ByteArray)] 24 (0, 0)) (by (with_reducible repeat (first | refine zg ?_ _ | refine zi ?_ | refine zh ?_ _)); (try refine zy (cs := #[.string t218, .string t233, .string (⟨#[]⟩ : ByteArray), .string (⟨#[]⟩ : ByteArray), .slice none 0 0, .string (⟨#[]⟩ : ByteArray)]) ?_ 2 _ rfl); (with_reducible repeat (first | refine zg ?_ _ | refine zi ?_ | refine zh ?_ _)); (try refine zy (cs := #[.string t218, .string (⟨#[]⟩ : ByteArray), .string (⟨#[]⟩ : ByteArray), .string (⟨#[]⟩ : ByteArray), .slice none 0 0, .string (⟨#[]⟩ : ByteArray)]) ?_ 1 _ rfl); (with_reducible repeat (first | refine zg ?_ _ | refine zi ?_ | refine zh ?_ _)); exact BK222.out) NB222_0.out (by simp)); have n3_ := Aq.mk (KeepBut.trans (by repeat (with_reducible first | exact HK.out | apply zm | apply zU | apply zV | apply zW | refine keep_far ?_ GW217.out _ | refine keep_far ?_ GW222.out _)) hk (.inl rfl)); have n4_ := Aq.mk (hb); have n5_ := Aq.mk (hi); clear BK217; clear BK222; clear HK; clear HB; clear HI0; have BK217 := n0_; have BK222 := n1_; have HK := n3_; have HB := n4_; have HI0 := n5_; clear n0_ n1_ n3_ n4_ n5_; (try clear hb); (try clear hb2); (try clear hk); (try clear hi)))
       go_meet
       case rel => exact ⟨_, ((t235 == 64)), (t236), (t237), (t238), (by first | rfl | (simp; done) | (simp [*]; done)), H', ⟨by first | omega | exact Nat.le_refl _⟩, ⟨by (with_reducible repeat (first | refine zg ?_ _ | refine zi ?_ | refine zh ?_ _)); exact BK217.out⟩, ⟨by (with_reducible repeat (first | refine zg ?_ _ | refine zi ?_ | refine zh ?_ _)); exact BK222.out⟩, ⟨by repeat (with_reducible first | exact HI0.out | apply zn | apply zo | apply zp | apply zq | apply zr | apply zt | refine IsS69.far ?_ NB0_217.out _ | refine IsS69.far ?_ NB0_222.out _)⟩, ⟨by repeat (with_reducible first | exact HK.out | apply zm | apply zU | apply zV | apply zW | refine keep_far ?_ GW217.out _ | refine keep_far ?_ GW222.out _)⟩, ⟨by repeat (with_reducible first | exact HB.out | apply zd | apply zb | apply zc | refine zf ?_ (IsS69.ge HI0.out) | refine zf ?_ GE217.out | refine zf ?_ GE222.out)⟩⟩
      ·rw [if_neg c32] at H
       exact absurd H (by simp)
     case rest =>
      clear HC19
      try clear c1
      try clear c2
      try clear p2
      try clear q2
      try clear hx2
      try clear c3
      try clear c3b0
      try clear c4
      try clear p6
      try clear c7
      try clear c8
      try clear c9
      try clear c11
      try clear c15
      try clear c15b0
      try clear c15b1
      try clear c16
      try clear c16b0
      try clear c16b1
      try clear c18
      try clear c18b0
      try clear c23
      try clear p23
      try clear q23
      try clear hx23
      try clear c24
      try clear q29
      try clear c32
      try clear c32b0
      try clear hcz10_0
      try clear hcz10_1
      try clear hcz10_2
      try clear hcz12_0
      try clear hcz12_1
      try clear hcz12_2
      try clear hcz12_3
      try clear hcz12_4
      try clear hcz12_5
      try clear hcz25_0
      try clear hcz25_1
      try clear hcz25_2
      try clear hcz25_3
      try clear hcz25_4
      try clear hcz25_5
      try clear hcz26_0
      try clear hcz26_1
      try clear hcz26_2
      try clear hcz31_0
      try clear hcz31_1
      try clear hcz31_2
      try clear hcz31_3
      try clear hcz31_4
      try clear hcz31_5
      try clear hcz34_0
      try clear hcz34_1
      try clear hcz34_2
      try clear hcz36_0
      try clear hcz36_1
      try clear hcz36_2
      try clear hcz9_0
      try clear hcz9_1
      try clear hcz9_2
      try clear hcz9_3
      try clear hcz9_4
      try clear hcz9_5
      try clear hfz10_0
      try clear hfz10_1
      try clear hfz10_2
      try clear hfz12_0
      try clear hfz12_1
      try clear hfz12_2
      try clear hfz12_3
      try clear hfz12_4
      try clear hfz12_5
      try clear hfz25_0
      try clear hfz25_1
      try clear hfz25_2
      try clear hfz25_3
      try clear hfz25_4
      try clear hfz25_5
      try clear hfz26_0
      try clear hfz26_1
      try clear hfz26_2
      try clear hfz31_0
      try clear hfz31_1
      try clear hfz31_2
      try clear hfz31_3
      try clear hfz31_4
      try clear hfz31_5
      try clear hfz34_0
      try clear hfz34_1
      try clear hfz34_2
      try clear hfz36_0
      try clear hfz36_1
      try clear hfz36_2
      try clear hfz9_0
      try clear hfz9_1
      try clear hfz9_2
      try clear hfz9_3
      try clear hfz9_4
      try clear hfz9_5
      try clear hx234_0
      try clear p234
      try clear q234
      try clear q29
      obtain ⟨kq, x40_18, x1000_18, x1001_18, x1002_18, rfl, HA, HJ18, BK217, BK222, HI0, HK, HB⟩ := hcut
      cases kq with
      | zero => exact absurd HA.out (by simp [pr_name.j0])
      | succ kj18 =>
       have H := HA.out
       clear HA
       simp only [pr_name.j0] at H
       have HC37 := Aq.mk H
       clear H
       go_upto_if 40 with (fail)
       go_cut [] (fun wc => ∃ (kq : Nat) (x1000_36 : ByteArray) (x1001_36 : Int) (x1002_36 : Int) (x223003_36 : ByteArray), Aq (pr_name.j1 kq x1000_36 x1001_36 x1002_36 t218 t233 (rdOf ByteArray.empty t223 (ji14)) x223003_36 (⟨#[]⟩ : ByteArray) = some (r1, r2, r3, r4, r5, r6, r7, r8, r9)) ∧ Aq (kq ≤ kj18) ∧ Aq (wc.heap[gb217]? = some (.cells #[.string (⟨#[]⟩ : ByteArray), .string (⟨#[]⟩ : ByteArray), .string (⟨#[]⟩ : ByteArray), .string (⟨#[]⟩ : ByteArray), (.slice none 0 0), .string (⟨#[]⟩ : ByteArray)] 24 (0, 0))) ∧ Aq (wc.heap[gb222]? = some (.cells #[.string t218, .string t233, .string (rdOf ByteArray.empty t223 (ji14)), .string x223003_36, (.slice none 0 0), .string (⟨#[]⟩ : ByteArray)] 24 (0, 0))) ∧ Aq (IsS69 w0 wc g x1000_36 x1001_36 x1002_36) ∧ Aq (KeepBut w wc g none) ∧ Aq (Below w0.heap.size w0 wc))
       case first =>
        have H := HC37.out
        clear HC37
        by_cases c38 : x40_18 = true
        ·subst c38
         have H1 : ((pr_part.f kj18 x1000_18 (wrap64 (x1001_18 + 1)) x1002_18).bind fun bt239 => (pr_name.j1 kj18 bt239.2.1 bt239.2.2.1 bt239.2.2.2 t218 t233 (rdOf ByteArray.empty t223 (ji14)) bt239.1 (⟨#[]⟩ : ByteArray))) = some (r1, r2, r3, r4, r5, r6, r7, r8, r9) := by rw [if_pos rfl] at H; exact H
         clear H
         have H := H1
         clear H1
         replace H := zu.mp H
         obtain ⟨⟨t239, t240, t241, t242⟩, A390, H⟩ := H
         replace H : (pr_name.j1 kj18 t240 t241 t242 t218 t233 (rdOf ByteArray.empty t223 (ji14)) t239 (⟨#[]⟩ : ByteArray)) = some (r1, r2, r3, r4, r5, r6, r7, r8, r9) := H
         have A39 := Aq.mk A390
         clear A390
         have H' := Aq.mk H
         clear H
         obtain ⟨HGz40, hgz40⟩ := HI0.out
         have hcz40_0 := cellS69_0 HGz40
         have hcz40_1 := cellS69_1 HGz40
         have hcz40_2 := cellS69_2 HGz40
         have hfz40_0 := za HGz40 0
         have hfz40_1 := za HGz40 1
         have hfz40_2 := za HGz40 2
         clear HGz40 hgz40
         go_wp2_with (first | ((with_reducible refine gate_callee (f := 95) rfl ?_); refine goesL_ (some 49) rfl rfl Tryd.func95 (by kernel_rfl) rfl #[.pointer (some ⟨g, 0, none⟩)] rfl (by (try simp only [zP, zQ, zR]); first | done | rfl | (simp only [zS, zT]; rfl)) ?_; (with_reducible refine (pr_part.calls kj18 g x1000_18 (wrap64 (x1001_18 + 1)) x1002_18 t239 t240 t241 t242 w0 _ ?side1 ?side2 A39.out).mono ?_); (case side1 => repeat (with_reducible first | exact HI0.out | apply zn | apply zo | apply zp | apply zq | apply zr | apply zt | refine IsS69.far ?_ NB0_217.out _ | refine IsS69.far ?_ NB0_222.out _)); (case side2 => repeat (with_reducible first | exact HB.out | apply zd | apply zb | apply zc | refine zf ?_ (IsS69.ge HI0.out) | refine zf ?_ GE217.out | refine zf ?_ GE222.out)); rintro e w41 ⟨rfl, hi, hb, hk⟩; refine ⟨_, rfl, ?_⟩; have n0_ := Aq.mk (KeepBut.blk hk (g' := gb217) (o := .cells #[.string (⟨#[]⟩ : ByteArray), .string (⟨#[]⟩ : ByteArray), .string (⟨#[]⟩ : ByteArray), .string (⟨#[]⟩ : ByteArray), .slice none 0 0, .string (⟨#[]⟩ : ByteArray)] 24 (0, 0)) (by (with_reducible repeat (first | refine zg ?_ _ | refine zi ?_ | refine zh ?_ _)); refine zx ?_ NB217_0.out _; (with_reducible repeat (first | refine zg ?_ _ | refine zi ?_ | refine zh ?_ _)); exact BK217.out) NB217_0.out (by simp)); have n1_ := Aq.mk (KeepBut.blk hk (g' := gb222) (o := .cells #[.string t218, .string t233, .string (rdOf ByteArray.empty t223 (ji14)), .string (⟨#[]⟩ : ByteArray), .slice none 0 0, .string (⟨#[]⟩ : ByteArray)] 24 (0, 0)) (by (with_reducible repeat (first | refine zg ?_ _ | refine zi ?_ | refine zh ?_ _)); refine zx ?_ NB222_0.out _; (with_reducible repeat (first | refine zg ?_ _ | refine zi ?_ | refine zh ?_ _)); exact BK222.out) NB222_0.out (by simp)); have n2_ := Aq.mk (KeepBut.trans (by repeat (with_reducible first | exact HK.out | apply zm | apply zU | apply zV | apply zW | refine keep_far ?_ GW217.out _ | refine keep_far ?_ GW222.out _)) hk (.inl rfl)); have n3_ := Aq.mk (hb); have n4_ := Aq.mk (hi); clear BK217; clear BK222; clear HK; clear HB; clear HI0; have BK217 := n0_; have BK222 := n1_; have HK := n2_; have HB := n3_; have HI0 := n4_; clear n0_ n1_ n2_ n3_ n4_; (try clear hb); (try clear hb2); (try clear hk); (try clear hi); have hnb42 := NB222_217.out; have hnc42 := NB217_222.out; have hnb43 := NB222_0.out; have hnc43 := NB0_222.out; have hcz44_0 : w41.cell? ⟨gb222, 0, none⟩ = some (.string t218) := (ze BK222.out 0).trans rfl; have hcz44_1 : w41.cell? ⟨gb222, 1, none⟩ = some (.string t233) := (ze BK222.out 1).trans rfl; have hcz44_2 : w41.cell? ⟨gb222, 2, none⟩ = some (.string (rdOf ByteArray.empty t223 (ji14))) := (ze BK222.out 2).trans rfl; have hcz44_3 : w41.cell? ⟨gb222, 3, none⟩ = some (.string (⟨#[]⟩ : ByteArray)) := (ze BK222.out 3).trans rfl; have hcz44_4 : w41.cell? ⟨gb222, 4, none⟩ = some (.slice none 0 0) := (ze BK222.out 4).trans rfl; have hcz44_5 : w41.cell? ⟨gb222, 5, none⟩ = some (.string (⟨#[]⟩ : ByteArray)) := (ze BK222.out 5).trans rfl; have hfz44_0 := za BK222.out 0; have hfz44_1 := za BK222.out 1; have hfz44_2 := za BK222.out 2; have hfz44_3 := za BK222.out 3; have hfz44_4 := za BK222.out 4; have hfz44_5 := za BK222.out 5))
         go_meet
         case rel => exact ⟨_, (t240), (t241), (t242), (t239), H', ⟨by have := HJ18.out; first | omega | exact Nat.le_refl _⟩, ⟨by (with_reducible repeat (first | refine zg ?_ _ | refine zi ?_ | refine zh ?_ _)); refine zx ?_ NB217_222.out _; (with_reducible repeat (first | refine zg ?_ _ | refine zi ?_ | refine zh ?_ _)); exact BK217.out⟩, ⟨by (with_reducible repeat (first | refine zg ?_ _ | refine zi ?_ | refine zh ?_ _)); refine zy (cs := #[.string t218, .string t233, .string (rdOf ByteArray.empty t223 (ji14)), .string (⟨#[]⟩ : ByteArray), .slice none 0 0, .string (⟨#[]⟩ : ByteArray)]) ?_ 3 _ rfl; (with_reducible repeat (first | refine zg ?_ _ | refine zi ?_ | refine zh ?_ _)); exact BK222.out⟩, ⟨by repeat (with_reducible first | exact HI0.out | apply zn | apply zo | apply zp | apply zq | apply zr | apply zt | refine IsS69.far ?_ NB0_217.out _ | refine IsS69.far ?_ NB0_222.out _)⟩, ⟨by repeat (with_reducible first | exact HK.out | apply zm | apply zU | apply zV | apply zW | refine keep_far ?_ GW217.out _ | refine keep_far ?_ GW222.out _)⟩, ⟨by repeat (with_reducible first | exact HB.out | apply zd | apply zb | apply zc | refine zf ?_ (IsS69.ge HI0.out) | refine zf ?_ GE217.out | refine zf ?_ GE222.out)⟩⟩
        ·rw [if_neg c38] at H
         exact absurd H (by simp)
       case rest =>
        clear HC37
        try clear c1
        try clear c2
        try clear p2
        try clear q2
        try clear hx2
        try clear c3
        try clear c3b0
        try clear c4
        try clear p6
        try clear c7
        try clear c8
        try clear c9
        try clear c11
        try clear c15
        try clear c15b0
        try clear c15b1
        try clear c16
        try clear c16b0
        try clear c16b1
        try clear c18
        try clear c18b0
        try clear c23
        try clear p23
        try clear q23
        try clear hx23
        try clear c24
        try clear q29
        try clear c32
        try clear c32b0
        try clear c38
        try clear c40
        try clear c42
        try clear c43
        try clear hcz10_0
        try clear hcz10_1
        try clear hcz10_2
        try clear hcz12_0
        try clear hcz12_1
        try clear hcz12_2
        try clear hcz12_3
        try clear hcz12_4
        try clear hcz12_5
        try clear hcz25_0
        try clear hcz25_1
        try clear hcz25_2
        try clear hcz25_3
        try clear hcz25_4
        try clear hcz25_5
        try clear hcz26_0
        try clear hcz26_1
        try clear hcz26_2
        try clear hcz31_0
        try clear hcz31_1
        try clear hcz31_2
        try clear hcz31_3
        try clear hcz31_4
        try clear hcz31_5
        try clear hcz34_0
        try clear hcz34_1
        try clear hcz34_2
        try clear hcz36_0
        try clear hcz36_1
        try clear hcz36_2
        try clear hcz40_0
        try clear hcz40_1
        try clear hcz40_2
        try clear hcz44_0
        try clear hcz44_1
        try clear hcz44_2
        try clear hcz44_3
        try clear hcz44_4
        try clear hcz44_5
        try clear hcz9_0
        try clear hcz9_1
        try clear hcz9_2
        try clear hcz9_3
        try clear hcz9_4
        try clear hcz9_5
        try clear hfz10_0
        try clear hfz10_1
        try clear hfz10_2
        try clear hfz12_0
        try clear hfz12_1
        try clear hfz12_2
        try clear hfz12_3
        try clear hfz12_4
        try clear hfz12_5
        try clear hfz25_0
        try clear hfz25_1
        try clear hfz25_2
        try clear hfz25_3
        try clear hfz25_4
        try clear hfz25_5
        try clear hfz26_0
        try clear hfz26_1
        try clear hfz26_2
        try clear hfz31_0
        try clear hfz31_1
        try clear hfz31_2
        try clear hfz31_3
        try clear hfz31_4
        try clear hfz31_5
        try clear hfz34_0
        try clear hfz34_1
        try clear hfz34_2
        try clear hfz36_0
        try clear hfz36_1
        try clear hfz36_2
        try clear hfz40_0
        try clear hfz40_1
        try clear hfz40_2
        try clear hfz44_0
        try clear hfz44_1
        try clear hfz44_2
        try clear hfz44_3
        try clear hfz44_4
        try clear hfz44_5
        try clear hfz9_0
        try clear hfz9_1
        try clear hfz9_2
        try clear hfz9_3
        try clear hfz9_4
        try clear hfz9_5
        try clear hx234_0
        try clear p2
        try clear p23
        try clear p234
        try clear p6
        try clear q2
        try clear q23
        try clear q234
        try clear q29
        obtain ⟨kq, x1000_36, x1001_36, x1002_36, x223003_36, HA, HJ36, BK217, BK222, HI0, HK, HB⟩ := hcut
        cases kq with
        | zero => exact absurd HA.out (by simp [pr_name.j1])
        | succ kj36 =>
         have H := HA.out
         clear HA
         simp only [pr_name.j1] at H
         have HC45 := Aq.mk H
         clear H
         go_upto_block 0 with (fail)
         go_cut [] (fun wc => ∃ (kq : Nat) (x1000_44 : ByteArray) (x1001_44 : Int) (x1002_44 : Int) (x223004_44 : List (S64)) (u223004 : Value), Aq (pr_name.j3 kq x1000_44 x1001_44 x1002_44 t218 t233 (rdOf ByteArray.empty t223 (ji14)) x223003_36 x223004_44 (⟨#[]⟩ : ByteArray) = some (r1, r2, r3, r4, r5, r6, r7, r8, r9)) ∧ Aq (kq ≤ kj36) ∧ Aq (Kd.R k64 64 wc w.heap.size (fun _ => True) u223004 x223004_44) ∧ Aq (wc.heap[gb217]? = some (.cells #[.string (⟨#[]⟩ : ByteArray), .string (⟨#[]⟩ : ByteArray), .string (⟨#[]⟩ : ByteArray), .string (⟨#[]⟩ : ByteArray), (.slice none 0 0), .string (⟨#[]⟩ : ByteArray)] 24 (0, 0))) ∧ Aq (wc.heap[gb222]? = some (.cells #[.string t218, .string t233, .string (rdOf ByteArray.empty t223 (ji14)), .string x223003_36, u223004, .string (⟨#[]⟩ : ByteArray)] 24 (0, 0))) ∧ Aq (IsS69 w0 wc g x1000_44 x1001_44 x1002_44) ∧ Aq (KeepBut w wc g none) ∧ Aq (Below w0.heap.size w0 wc))
         case first =>
          have H := HC45.out
          clear HC45
          have H' := Aq.mk H
          clear H
          go_wp2
          repeat (go_quiet (fail); try go_wp2)
          go_loopg [5] kj36 (fun kq v5 w' => ∃ (x5_3 : Int) (x1000_3 : ByteArray) (x1001_3 : Int) (x1002_3 : Int) (x223004_3 : List (S64)) (u223004 : Value), v5 = .int .u8 x5_3 ∧ Aq (pr_name.l0 kq x5_3 x1000_3 x1001_3 x1002_3 t218 t233 (rdOf ByteArray.empty t223 (ji14)) x223003_36 x223004_3 (⟨#[]⟩ : ByteArray) = some (r1, r2, r3, r4, r5, r6, r7, r8, r9)) ∧ Aq (kq ≤ kj36) ∧ Aq (Kd.R k64 64 w' w.heap.size (fun _ => True) u223004 x223004_3) ∧ Aq (w'.heap[gb217]? = some (.cells #[.string (⟨#[]⟩ : ByteArray), .string (⟨#[]⟩ : ByteArray), .string (⟨#[]⟩ : ByteArray), .string (⟨#[]⟩ : ByteArray), (.slice none 0 0), .string (⟨#[]⟩ : ByteArray)] 24 (0, 0))) ∧ Aq (w'.heap[gb222]? = some (.cells #[.string t218, .string t233, .string (rdOf ByteArray.empty t223 (ji14)), .string x223003_36, u223004, .string (⟨#[]⟩ : ByteArray)] 24 (0, 0))) ∧ Aq (IsS69 w0 w' g x1000_3 x1001_3 x1002_3) ∧ Aq (KeepBut w w' g none) ∧ Aq (Below w0.heap.size w0 w'))
          case atStart => exact ⟨(63), (x1000_36), (x1001_36), (x1002_36), (([] : List (S64))), (.slice none 0 0), (by first | rfl | (simp; done) | (simp [*]; done)), H', ⟨Nat.le_refl _⟩, ⟨by first | exact Kd.R_nil _ _ _ _ _ | exact Kd.N_nil _ _ _ _ _ | exact Kd.V_nil _ _ _ _ _ | exact Kd.Q_nil _ _ _ _ _ | exact Kd.S_nil _ _ _ _ _⟩, ⟨by (with_reducible repeat (first | refine zg ?_ _ | refine zi ?_ | refine zh ?_ _)); exact BK217.out⟩, ⟨by (with_reducible repeat (first | refine zg ?_ _ | refine zi ?_ | refine zh ?_ _)); exact BK222.out⟩, ⟨by repeat (with_reducible first | exact HI0.out | apply zn | apply zo | apply zp | apply zq | apply zr | apply zt | refine IsS69.far ?_ NB0_217.out _ | refine IsS69.far ?_ NB0_222.out _)⟩, ⟨by repeat (with_reducible first | exact HK.out | apply zm | apply zU | apply zV | apply zW | refine keep_far ?_ GW217.out _ | refine keep_far ?_ GW222.out _)⟩, ⟨by repeat (with_reducible first | exact HB.out | apply zd | apply zb | apply zc | refine zf ?_ (IsS69.ge HI0.out) | refine zf ?_ GE217.out | refine zf ?_ GE222.out)⟩⟩
          case round =>
           clear H'
           try clear c1
           try clear c2
           try clear p2
           try clear q2
           try clear hx2
           try clear c3
           try clear c3b0
           try clear c4
           try clear p6
           try clear c7
           try clear c8
           try clear c9
           try clear c11
           try clear c15
           try clear c15b0
           try clear c15b1
           try clear c16
           try clear c16b0
           try clear c16b1
           try clear c18
           try clear c18b0
           try clear c23
           try clear p23
           try clear q23
           try clear hx23
           try clear c24
           try clear q29
           try clear c32
           try clear c32b0
           try clear c38
           try clear c40
           try clear c42
           try clear c43
           try clear hcz10_0
           try clear hcz10_1
           try clear hcz10_2
           try clear hcz12_0
           try clear hcz12_1
           try clear hcz12_2
           try clear hcz12_3
           try clear hcz12_4
           try clear hcz12_5
           try clear hcz25_0
           try clear hcz25_1
           try clear hcz25_2
           try clear hcz25_3
           try clear hcz25_4
           try clear hcz25_5
           try clear hcz26_0
           try clear hcz26_1
           try clear hcz26_2
           try clear hcz31_0
           try clear hcz31_1
           try clear hcz31_2
           try clear hcz31_3
           try clear hcz31_4
           try clear hcz31_5
           try clear hcz34_0
           try clear hcz34_1
           try clear hcz34_2
           try clear hcz36_0
           try clear hcz36_1
           try clear hcz36_2
           try clear hcz40_0
           try clear hcz40_1
           try clear hcz40_2
           try clear hcz44_0
           try clear hcz44_1
           try clear hcz44_2
           try clear hcz44_3
           try clear hcz44_4
           try clear hcz44_5
           try clear hcz9_0
           try clear hcz9_1
           try clear hcz9_2
           try clear hcz9_3
           try clear hcz9_4
           try clear hcz9_5
           try clear hfz10_0
           try clear hfz10_1
           try clear hfz10_2
           try clear hfz12_0
           try clear hfz12_1
           try clear hfz12_2
           try clear hfz12_3
           try clear hfz12_4
           try clear hfz12_5
           try clear hfz25_0
           try clear hfz25_1
           try clear hfz25_2
           try clear hfz25_3
           try clear hfz25_4
           try clear hfz25_5
           try clear hfz26_0
           try clear hfz26_1
           try clear hfz26_2
           try clear hfz31_0
           try clear hfz31_1
           try clear hfz31_2
           try clear hfz31_3
           try clear hfz31_4
           try clear hfz31_5
           try clear hfz34_0
           try clear hfz34_1
           try clear hfz34_2
           try clear hfz36_0
           try clear hfz36_1
           try clear hfz36_2
           try clear hfz40_0
           try clear hfz40_1
           try clear hfz40_2
           try clear hfz44_0
           try clear hfz44_1
           try clear hfz44_2
           try clear hfz44_3
           try clear hfz44_4
           try clear hfz44_5
           try clear hfz9_0
           try clear hfz9_1
           try clear hfz9_2
           try clear hfz9_3
           try clear hfz9_4
           try clear hfz9_5
           try clear hx234_0
           try clear p2
           try clear p23
           try clear p234
           try clear p6
           try clear q2
           try clear q23
           try clear q234
           try clear q29
           obtain ⟨x5_3, x1000_3, x1001_3, x1002_3, x223004_3, u223004, rfl, HA, HK3, HO_223004, BK217, BK222, HI0, HK, HB⟩ := hrel
           cases gk with
           | zero => exact absurd HA.out (by simp [pr_name.l0])
           | succ k3 =>
            have H := HA.out
            clear HA
            simp only [pr_name.l0] at H
            by_cases c46 : x1002_3 < 0
            ·rw [if_pos c46] at H
             have c46b0 : decide (x1002_3 < 0) = true := zk c46
             clear c46
             (first | rw [c46b0] | (simp only [i64_w, i32_w]; rw [c46b0]) | skip)
             by_cases c47 : x1001_3 < (x1000_3.size : Int)
             ·rw [if_pos c47] at H
              exact absurd H (by simp)
             ·rw [if_neg c47] at H
              have c47b0 : decide (x1001_3 < (x1000_3.size : Int)) = false := zl c47
              clear c47
              have H' := Aq.mk H
              clear H
              obtain ⟨HGz64, hgz64⟩ := HI0.out
              have hcz64_0 := cellS69_0 HGz64
              have hcz64_1 := cellS69_1 HGz64
              have hcz64_2 := cellS69_2 HGz64
              have hfz64_0 := za HGz64 0
              have hfz64_1 := za HGz64 1
              have hfz64_2 := za HGz64 2
              clear HGz64 hgz64
              go_wp2
              repeat (go_quiet (fail); try go_wp2)
              go_meet
              case rel => exact ⟨_, (x1000_3), (x1001_3), (x1002_3), (x223004_3), (u223004), H', ⟨by have := HJ18.out; have := HJ36.out; have := HK3.out; first | omega | exact Nat.le_refl _⟩, ⟨by (with_reducible repeat (first | apply zC | apply zB | apply zD)); exact HO_223004.out⟩, ⟨by (with_reducible repeat (first | refine zg ?_ _ | refine zi ?_ | refine zh ?_ _)); exact BK217.out⟩, ⟨by (with_reducible repeat (first | refine zg ?_ _ | refine zi ?_ | refine zh ?_ _)); exact BK222.out⟩, ⟨by repeat (with_reducible first | exact HI0.out | apply zn | apply zo | apply zp | apply zq | apply zr | apply zt | refine IsS69.far ?_ NB0_217.out _ | refine IsS69.far ?_ NB0_222.out _)⟩, ⟨by repeat (with_reducible first | exact HK.out | apply zm | apply zU | apply zV | apply zW | refine keep_far ?_ GW217.out _ | refine keep_far ?_ GW222.out _)⟩, ⟨by repeat (with_reducible first | exact HB.out | apply zd | apply zb | apply zc | refine zf ?_ (IsS69.ge HI0.out) | refine zf ?_ GE217.out | refine zf ?_ GE222.out)⟩⟩
            ·rw [if_neg c46] at H
             exact absurd H (by simp)
         case rest =>
          clear HC45
          try clear c1
          try clear c2
          try clear p2
          try clear q2
          try clear hx2
          try clear c3
          try clear c3b0
          try clear c4
          try clear c5
          try clear p6
          try clear c7
          try clear c8
          try clear c9
          try clear c11
          try clear c15
          try clear c15b0
          try clear c15b1
          try clear c16
          try clear c16b0
          try clear c16b1
          try clear c18
          try clear c18b0
          try clear c23
          try clear p23
          try clear q23
          try clear hx23
          try clear c24
          try clear q29
          try clear c32
          try clear c32b0
          try clear c38
          try clear c40
          try clear c42
          try clear c43
          try clear c46
          try clear c46b0
          try clear c47
          try clear c47b0
          try clear c49
          try clear c49b0
          try clear c49b1
          try clear c51
          try clear c55
          try clear c56
          try clear p64
          try clear hcz10_0
          try clear hcz10_1
          try clear hcz10_2
          try clear hcz12_0
          try clear hcz12_1
          try clear hcz12_2
          try clear hcz12_3
          try clear hcz12_4
          try clear hcz12_5
          try clear hcz25_0
          try clear hcz25_1
          try clear hcz25_2
          try clear hcz25_3
          try clear hcz25_4
          try clear hcz25_5
          try clear hcz26_0
          try clear hcz26_1
          try clear hcz26_2
          try clear hcz31_0
          try clear hcz31_1
          try clear hcz31_2
          try clear hcz31_3
          try clear hcz31_4
          try clear hcz31_5
          try clear hcz34_0
          try clear hcz34_1
          try clear hcz34_2
          try clear hcz36_0
          try clear hcz36_1
          try clear hcz36_2
          try clear hcz40_0
          try clear hcz40_1
          try clear hcz40_2
          try clear hcz44_0
          try clear hcz44_1
          try clear hcz44_2
          try clear hcz44_3
          try clear hcz44_4
          try clear hcz44_5
          try clear hcz52_0
          try clear hcz52_1
          try clear hcz52_2
          try clear hcz54_0
          try clear hcz54_1
          try clear hcz54_2
          try clear hcz57_0
          try clear hcz57_1
          try clear hcz57_2
          try clear hcz57_3
          try clear hcz57_4
          try clear hcz57_5
          try clear hcz61_0
          try clear hcz61_1
          try clear hcz61_2
          try clear hcz61_3
          try clear hcz61_4
          try clear hcz61_5
          try clear hcz62_0
          try clear hcz62_1
          try clear hcz62_2
          try clear hcz64_0
          try clear hcz64_1
          try clear hcz64_2
          try clear hcz65_0
          try clear hcz65_1
          try clear hcz65_2
          try clear hcz9_0
          try clear hcz9_1
          try clear hcz9_2
          try clear hcz9_3
          try clear hcz9_4
          try clear hcz9_5
          try clear hfz10_0
          try clear hfz10_1
          try clear hfz10_2
          try clear hfz12_0
          try clear hfz12_1
          try clear hfz12_2
          try clear hfz12_3
          try clear hfz12_4
          try clear hfz12_5
          try clear hfz25_0
          try clear hfz25_1
          try clear hfz25_2
          try clear hfz25_3
          try clear hfz25_4
          try clear hfz25_5
          try clear hfz26_0
          try clear hfz26_1
          try clear hfz26_2
          try clear hfz31_0
          try clear hfz31_1
          try clear hfz31_2
          try clear hfz31_3
          try clear hfz31_4
          try clear hfz31_5
          try clear hfz34_0
          try clear hfz34_1
          try clear hfz34_2
          try clear hfz36_0
          try clear hfz36_1
          try clear hfz36_2
          try clear hfz40_0
          try clear hfz40_1
          try clear hfz40_2
          try clear hfz44_0
          try clear hfz44_1
          try clear hfz44_2
          try clear hfz44_3
          try clear hfz44_4
          try clear hfz44_5
          try clear hfz52_0
          try clear hfz52_1
          try clear hfz52_2
          try clear hfz54_0
          try clear hfz54_1
          try clear hfz54_2
          try clear hfz57_0
          try clear hfz57_1
          try clear hfz57_2
          try clear hfz57_3
          try clear hfz57_4
          try clear hfz57_5
          try clear hfz61_0
          try clear hfz61_1
          try clear hfz61_2
          try clear hfz61_3
          try clear hfz61_4
          try clear hfz61_5
          try clear hfz62_0
          try clear hfz62_1
          try clear hfz62_2
          try clear hfz64_0
          try clear hfz64_1
          try clear hfz64_2
          try clear hfz65_0
          try clear hfz65_1
          try clear hfz65_2
          try clear hfz9_0
          try clear hfz9_1
          try clear hfz9_2
          try clear hfz9_3
          try clear hfz9_4
          try clear hfz9_5
          try clear hx234_0
          try clear p2
          try clear p23
          try clear p234
          try clear p6
          try clear q2
          try clear q23
          try clear q234
          try clear q29
          obtain ⟨kq, x1000_44, x1001_44, x1002_44, x223004_44, u223004, HA, HJ44, HO_223004, BK217, BK222, HI0, HK, HB⟩ := hcut
          cases kq with
          | zero => exact absurd HA.out (by simp [pr_name.j3])
          | succ kj44 =>
           have H := HA.out
           clear HA
           simp only [pr_name.j3] at H
           have HC66 := Aq.mk H
           clear H
           go_upto_region 14 with (fail)
           go_cut [97] (fun v97 wc => ∃ (kq : Nat) (x97_65 : Bool) (x1000_65 : ByteArray) (x1001_65 : Int) (x1002_65 : Int), v97 = .bool x97_65 ∧ Aq (pr_name.j4 kq x97_65 x1000_65 x1001_65 x1002_65 t218 t233 (rdOf ByteArray.empty t223 (ji14)) x223003_36 x223004_44 (⟨#[]⟩ : ByteArray) = some (r1, r2, r3, r4, r5, r6, r7, r8, r9)) ∧ Aq (kq ≤ kj44) ∧ Aq (Kd.R k64 64 wc w.heap.size (fun _ => True) u223004 x223004_44) ∧ Aq (wc.heap[gb217]? = some (.cells #[.string (⟨#[]⟩ : ByteArray), .string (⟨#[]⟩ : ByteArray), .string (⟨#[]⟩ : ByteArray), .string (⟨#[]⟩ : ByteArray), (.slice none 0 0), .string (⟨#[]⟩ : ByteArray)] 24 (0, 0))) ∧ Aq (wc.heap[gb222]? = some (.cells #[.string t218, .string t233, .string (rdOf ByteArray.empty t223 (ji14)), .string x223003_36, u223004, .string (⟨#[]⟩ : ByteArray)] 24 (0, 0))) ∧ Aq (IsS69 w0 wc g x1000_65 x1001_65 x1002_65) ∧ Aq (KeepBut w wc g none) ∧ Aq (Below w0.heap.size w0 wc))
           case first =>
            have H := HC66.out
            clear HC66
            by_cases c67 : x1002_44 < 0
            ·rw [if_pos c67] at H
             have c67b0 : decide (x1002_44 < 0) = true := zk c67
             clear c67
             (first | rw [c67b0] | (simp only [i64_w, i32_w]; rw [c67b0]) | skip)
             replace H := zu.mp H
             obtain ⟨⟨t255, t256, t257, t258⟩, A680, H⟩ := H
             replace H : (pr_name.j4 kj44 (t255 == 35) t256 t257 t258 t218 t233 (rdOf ByteArray.empty t223 (ji14)) x223003_36 x223004_44 (⟨#[]⟩ : ByteArray)) = some (r1, r2, r3, r4, r5, r6, r7, r8, r9) := H
             have A68 := Aq.mk A680
             clear A680
             have H' := Aq.mk H
             clear H
             obtain ⟨HGz69, hgz69⟩ := HI0.out
             have hcz69_0 := cellS69_0 HGz69
             have hcz69_1 := cellS69_1 HGz69
             have hcz69_2 := cellS69_2 HGz69
             have hfz69_0 := za HGz69 0
             have hfz69_1 := za HGz69 1
             have hfz69_2 := za HGz69 2
             clear HGz69 hgz69
             go_wp2_with (first | (go_at_call 94; (with_reducible refine (pr_peek.calls g x1000_44 x1001_44 x1002_44 t255 t256 t257 t258 w0 _ ?side1 ?side2 A68.out).mono ?_); (case side1 => repeat (with_reducible first | exact HI0.out | apply zn | apply zo | apply zp | apply zq | apply zr | apply zt | refine IsS69.far ?_ NB0_217.out _ | refine IsS69.far ?_ NB0_222.out _)); (case side2 => repeat (with_reducible first | exact HB.out | apply zd | apply zb | apply zc | refine zf ?_ (IsS69.ge HI0.out) | refine zf ?_ GE217.out | refine zf ?_ GE222.out)); rintro e w70 ⟨rfl, hi, hb, hk⟩; have n0_ := Aq.mk (Kd.R_mono (Kd.R_keep (IsS69.apart (show IsS69 w0 _ g x1000_44 x1001_44 x1002_44 from by repeat (with_reducible first | exact HI0.out | apply zn | apply zo | apply zp | apply zq | apply zr | apply zt | refine IsS69.far ?_ NB0_217.out _ | refine IsS69.far ?_ NB0_222.out _)) (by (with_reducible repeat (first | apply zC | apply zB | apply zD)); exact HO_223004.out) (by decide)) hk (fun _ h => h.2)) (fun _ h => h.1)); have n1_ := Aq.mk (KeepBut.blk hk (g' := gb217) (o := .cells #[.string (⟨#[]⟩ : ByteArray), .string (⟨#[]⟩ : ByteArray), .string (⟨#[]⟩ : ByteArray), .string (⟨#[]⟩ : ByteArray), .slice none 0 0, .string (⟨#[]⟩ : ByteArray)] 24 (0, 0)) (by (with_reducible repeat (first | refine zg ?_ _ | refine zi ?_ | refine zh ?_ _)); exact BK217.out) NB217_0.out (by simp)); have n2_ := Aq.mk (KeepBut.blk hk (g' := gb222) (o := .cells #[.string t218, .string t233, .string (rdOf ByteArray.empty t223 (ji14)), .string x223003_36, u223004, .string (⟨#[]⟩ : ByteArray)] 24 (0, 0)) (by (with_reducible repeat (first | refine zg ?_ _ | refine zi ?_ | refine zh ?_ _)); exact BK222.out) NB222_0.out (by simp)); have n3_ := Aq.mk (KeepBut.trans (by repeat (with_reducible first | exact HK.out | apply zm | apply zU | apply zV | apply zW | refine keep_far ?_ GW217.out _ | refine keep_far ?_ GW222.out _)) hk (.inl rfl)); have n4_ := Aq.mk (hb); have n5_ := Aq.mk (hi); clear HO_223004; clear BK217; clear BK222; clear HK; clear HB; clear HI0; have HO_223004 := n0_; have BK217 := n1_; have BK222 := n2_; have HK := n3_; have HB := n4_; have HI0 := n5_; clear n0_ n1_ n2_ n3_ n4_ n5_; (try clear hb); (try clear hb2); (try clear hk); (try clear hi)))
             repeat (go_quiet (fail); try go_wp2_with (first | (go_at_call 94; (with_reducible refine (pr_peek.calls g x1000_44 x1001_44 x1002_44 t255 t256 t257 t258 w0 _ ?side1 ?side2 A68.out).mono ?_); (case side1 => repeat (with_reducible first | exact HI0.out | apply zn | apply zo | apply zp | apply zq | apply zr | apply zt | refine IsS69.far ?_ NB0_217.out _ | refine IsS69.far ?_ NB0_222.out _)); (case side2 => repeat (with_reducible first | exact HB.out | apply zd | apply zb | apply zc | refine zf ?_ (IsS69.ge HI0.out) | refine zf ?_ GE217.out | refine zf ?_ GE222.out)); rintro e w70 ⟨rfl, hi, hb, hk⟩; have n0_ := Aq.mk (Kd.R_mono (Kd.R_keep (IsS69.apart (show IsS69 w0 _ g x1000_44 x1001_44 x1002_44 from by repeat (with_reducible first | exact HI0.out | apply zn | apply zo | apply zp | apply zq | apply zr | apply zt | refine IsS69.far ?_ NB0_217.out _ | refine IsS69.far ?_ NB0_222.out _)) (by (with_reducible repeat (first | apply zC | apply zB | apply zD)); exact HO_223004.out) (by decide)) hk (fun _ h => h.2)) (fun _ h => h.1)); have n1_ := Aq.mk (KeepBut.blk hk (g' := gb217) (o := .cells #[.string (⟨#[]⟩ : ByteArray), .string (⟨#[]⟩ : ByteArray), .string (⟨#[]⟩ : ByteArray), .string (⟨#[]⟩ : ByteArray), .slice none 0 0, .string (⟨#[]⟩ : ByteArray)] 24 (0, 0)) (by (with_reducible repeat (first | refine zg ?_ _ | refine zi ?_ | refine zh ?_ _)); exact BK217.out) NB217_0.out (by simp)); have n2_ := Aq.mk (KeepBut.blk hk (g' := gb222) (o := .cells #[.string t218, .string t233, .string (rdOf ByteArray.empty t223 (ji14)), .string x223003_36, u223004, .string (⟨#[]⟩ : ByteArray)] 24 (0, 0)) (by (with_reducible repeat (first | refine zg ?_ _ | refine zi ?_ | refine zh ?_ _)); exact BK222.out) NB222_0.out (by simp)); have n3_ := Aq.mk (KeepBut.trans (by repeat (with_reducible first | exact HK.out | apply zm | apply zU | apply zV | apply zW | refine keep_far ?_ GW217.out _ | refine keep_far ?_ GW222.out _)) hk (.inl rfl)); have n4_ := Aq.mk (hb); have n5_ := Aq.mk (hi); clear HO_223004; clear BK217; clear BK222; clear HK; clear HB; clear HI0; have HO_223004 := n0_; have BK217 := n1_; have BK222 := n2_; have HK := n3_; have HB := n4_; have HI0 := n5_; clear n0_ n1_ n2_ n3_ n4_ n5_; (try clear hb); (try clear hb2); (try clear hk); (try clear hi))))
             go_meet
             case rel => exact ⟨_, ((t255 == 35)), (t256), (t257), (t258), (by first | rfl | (simp; done) | (simp [*]; done)), H', ⟨by have := HJ18.out; have := HJ36.out; have := HJ44.out; first | omega | exact Nat.le_refl _⟩, ⟨by (with_reducible repeat (first | apply zC | apply zB | apply zD)); exact HO_223004.out⟩, ⟨by (with_reducible repeat (first | refine zg ?_ _ | refine zi ?_ | refine zh ?_ _)); exact BK217.out⟩, ⟨by (with_reducible repeat (first | refine zg ?_ _ | refine zi ?_ | refine zh ?_ _)); exact BK222.out⟩, ⟨by repeat (with_reducible first | exact HI0.out | apply zn | apply zo | apply zp | apply zq | apply zr | apply zt | refine IsS69.far ?_ NB0_217.out _ | refine IsS69.far ?_ NB0_222.out _)⟩, ⟨by repeat (with_reducible first | exact HK.out | apply zm | apply zU | apply zV | apply zW | refine keep_far ?_ GW217.out _ | refine keep_far ?_ GW222.out _)⟩, ⟨by repeat (with_reducible first | exact HB.out | apply zd | apply zb | apply zc | refine zf ?_ (IsS69.ge HI0.out) | refine zf ?_ GE217.out | refine zf ?_ GE222.out)⟩⟩
            ·rw [if_neg c67] at H
             exact absurd H (by simp)
           case rest =>
            clear HC66
            try clear c1
            try clear c2
            try clear p2
            try clear q2
            try clear hx2
            try clear c3
            try clear c3b0
            try clear c4
            try clear c5
            try clear c6
            try clear p6
            try clear c7
            try clear c8
            try clear c9
            try clear c11
            try clear c15
            try clear c15b0
            try clear c15b1
            try clear c16
            try clear c16b0
            try clear c16b1
            try clear c18
            try clear c18b0
            try clear c23
            try clear p23
            try clear q23
            try clear hx23
            try clear c24
            try clear q29
            try clear c32
            try clear c32b0
            try clear c38
            try clear c40
            try clear c42
            try clear c43
            try clear c46
            try clear c46b0
            try clear c47
            try clear c47b0
            try clear c49
            try clear c49b0
            try clear c49b1
            try clear c51
            try clear c55
            try clear c56
            try clear p64
            try clear c67
            try clear c67b0
            try clear hcz10_0
            try clear hcz10_1
            try clear hcz10_2
            try clear hcz12_0
            try clear hcz12_1
            try clear hcz12_2
            try clear hcz12_3
            try clear hcz12_4
            try clear hcz12_5
            try clear hcz25_0
            try clear hcz25_1
            try clear hcz25_2
            try clear hcz25_3
            try clear hcz25_4
            try clear hcz25_5
            try clear hcz26_0
            try clear hcz26_1
            try clear hcz26_2
            try clear hcz31_0
            try clear hcz31_1
            try clear hcz31_2
            try clear hcz31_3
            try clear hcz31_4
            try clear hcz31_5
            try clear hcz34_0
            try clear hcz34_1
            try clear hcz34_2
            try clear hcz36_0
            try clear hcz36_1
            try clear hcz36_2
            try clear hcz40_0
            try clear hcz40_1
            try clear hcz40_2
            try clear hcz44_0
            try clear hcz44_1
            try clear hcz44_2
            try clear hcz44_3
            try clear hcz44_4
            try clear hcz44_5
            try clear hcz52_0
            try clear hcz52_1
            try clear hcz52_2
            try clear hcz54_0
            try clear hcz54_1
            try clear hcz54_2
            try clear hcz57_0
            try clear hcz57_1
            try clear hcz57_2
            try clear hcz57_3
            try clear hcz57_4
            try clear hcz57_5
            try clear hcz61_0
            try clear hcz61_1
            try clear hcz61_2
            try clear hcz61_3
            try clear hcz61_4
            try clear hcz61_5
            try clear hcz62_0
            try clear hcz62_1
            try clear hcz62_2
            try clear hcz64_0
            try clear hcz64_1
            try clear hcz64_2
            try clear hcz65_0
            try clear hcz65_1
            try clear hcz65_2
            try clear hcz69_0
            try clear hcz69_1
            try clear hcz69_2
            try clear hcz71_0
            try clear hcz71_1
            try clear hcz71_2
            try clear hcz9_0
            try clear hcz9_1
            try clear hcz9_2
            try clear hcz9_3
            try clear hcz9_4
            try clear hcz9_5
            try clear hfz10_0
            try clear hfz10_1
            try clear hfz10_2
            try clear hfz12_0
            try clear hfz12_1
            try clear hfz12_2
            try clear hfz12_3
            try clear hfz12_4
            try clear hfz12_5
            try clear hfz25_0
            try clear hfz25_1
            try clear hfz25_2
            try clear hfz25_3
            try clear hfz25_4
            try clear hfz25_5
            try clear hfz26_0
            try clear hfz26_1
            try clear hfz26_2
            try clear hfz31_0
            try clear hfz31_1
            try clear hfz31_2
            try clear hfz31_3
            try clear hfz31_4
            try clear hfz31_5
            try clear hfz34_0
            try clear hfz34_1
            try clear hfz34_2
            try clear hfz36_0
            try clear hfz36_1
            try clear hfz36_2
            try clear hfz40_0
            try clear hfz40_1
            try clear hfz40_2
            try clear hfz44_0
            try clear hfz44_1
            try clear hfz44_2
            try clear hfz44_3
            try clear hfz44_4
            try clear hfz44_5
            try clear hfz52_0
            try clear hfz52_1
            try clear hfz52_2
            try clear hfz54_0
            try clear hfz54_1
            try clear hfz54_2
            try clear hfz57_0
            try clear hfz57_1
            try clear hfz57_2
            try clear hfz57_3
            try clear hfz57_4
            try clear hfz57_5
            try clear hfz61_0
            try clear hfz61_1
            try clear hfz61_2
            try clear hfz61_3
            try clear hfz61_4
            try clear hfz61_5
            try clear hfz62_0
            try clear hfz62_1
            try clear hfz62_2
            try clear hfz64_0
            try clear hfz64_1
            try clear hfz64_2
            try clear hfz65_0
            try clear hfz65_1
            try clear hfz65_2
            try clear hfz69_0
            try clear hfz69_1
            try clear hfz69_2
            try clear hfz71_0
            try clear hfz71_1
            try clear hfz71_2
            try clear hfz9_0
            try clear hfz9_1
            try clear hfz9_2
            try clear hfz9_3
            try clear hfz9_4
            try clear hfz9_5
            try clear hx234_0
            try clear p2
            try clear p23
            try clear p234
            try clear p6
            try clear p64
            try clear q2
            try clear q23
            try clear q234
            try clear q29
            obtain ⟨kq, x97_65, x1000_65, x1001_65, x1002_65, rfl, HA, HJ65, HO_223004, BK217, BK222, HI0, HK, HB⟩ := hcut
            cases kq with
            | zero => exact absurd HA.out (by simp [pr_name.j4])
            | succ kj65 =>
             have H := HA.out
             clear HA
             simp only [pr_name.j4] at H
             by_cases c72 : x97_65 = true
             ·rw [if_pos c72] at H
              exact absurd H (by simp)
             ·replace c72 := Bool.eq_false_iff.mpr c72
              subst c72
              have H1 : (if x1002_65 < 0 then (if x1001_65 < (x1000_65.size : Int) then (none) else (some (t218, t233, (rdOf ByteArray.empty t223 (ji14)), x223003_36, x223004_44, (⟨#[]⟩ : ByteArray), x1000_65, x1001_65, x1002_65))) else (none)) = some (r1, r2, r3, r4, r5, r6, r7, r8, r9) := by rw [if_neg (show ¬ (false = true) by decide)] at H; exact H
              clear H
              have H := H1
              clear H1
              by_cases c113 : x1002_65 < 0
              ·rw [if_pos c113] at H
               have c113b0 : decide (x1002_65 < 0) = true := zk c113
               clear c113
               by_cases c114 : x1001_65 < (x1000_65.size : Int)
               ·rw [if_pos c114] at H
                exact absurd H (by simp)
               ·rw [if_neg c114] at H
                have c114b0 : decide (x1001_65 < (x1000_65.size : Int)) = false := zl c114
                clear c114
                simp only [zH, zI] at H
                obtain ⟨rfl, rfl, rfl, rfl, rfl, rfl, rfl, rfl, rfl⟩ := H
                obtain ⟨HGz124, hgz124⟩ := HI0.out
                have hcz124_0 := cellS69_0 HGz124
                have hcz124_1 := cellS69_1 HGz124
                have hcz124_2 := cellS69_2 HGz124
                have hfz124_0 := za HGz124 0
                have hfz124_1 := za HGz124 1
                have hfz124_2 := za HGz124 2
                clear HGz124 hgz124
                have hnb125 := NB222_217.out
                have hnc125 := NB217_222.out
                have hnb126 := NB222_0.out
                have hnc126 := NB0_222.out
                have hcz127_0 : wc.cell? ⟨gb222, 0, none⟩ = some (.string t218) := (ze BK222.out 0).trans rfl
                have hcz127_1 : wc.cell? ⟨gb222, 1, none⟩ = some (.string t233) := (ze BK222.out 1).trans rfl
                have hcz127_2 : wc.cell? ⟨gb222, 2, none⟩ = some (.string (rdOf ByteArray.empty t223 (ji14))) := (ze BK222.out 2).trans rfl
                have hcz127_3 : wc.cell? ⟨gb222, 3, none⟩ = some (.string x223003_36) := (ze BK222.out 3).trans rfl
                have hcz127_4 : wc.cell? ⟨gb222, 4, none⟩ = some (u223004) := (ze BK222.out 4).trans rfl
                have hcz127_5 : wc.cell? ⟨gb222, 5, none⟩ = some (.string (⟨#[]⟩ : ByteArray)) := (ze BK222.out 5).trans rfl
                have hfz127_0 := za BK222.out 0
                have hfz127_1 := za BK222.out 1
                have hfz127_2 := za BK222.out 2
                have hfz127_3 := za BK222.out 3
                have hfz127_4 := za BK222.out 4
                have hfz127_5 := za BK222.out 5
                have hnb128 := NB217_0.out
                have hnc128 := NB0_217.out
                have hcz129_0 : wc.cell? ⟨gb217, 0, none⟩ = some (.string (⟨#[]⟩ : ByteArray)) := (ze BK217.out 0).trans rfl
                have hcz129_1 : wc.cell? ⟨gb217, 1, none⟩ = some (.string (⟨#[]⟩ : ByteArray)) := (ze BK217.out 1).trans rfl
                have hcz129_2 : wc.cell? ⟨gb217, 2, none⟩ = some (.string (⟨#[]⟩ : ByteArray)) := (ze BK217.out 2).trans rfl
                have hcz129_3 : wc.cell? ⟨gb217, 3, none⟩ = some (.string (⟨#[]⟩ : ByteArray)) := (ze BK217.out 3).trans rfl
                have hcz129_4 : wc.cell? ⟨gb217, 4, none⟩ = some (.slice none 0 0) := (ze BK217.out 4).trans rfl
                have hcz129_5 : wc.cell? ⟨gb217, 5, none⟩ = some (.string (⟨#[]⟩ : ByteArray)) := (ze BK217.out 5).trans rfl
                have hfz129_0 := za BK217.out 0
                have hfz129_1 := za BK217.out 1
                have hfz129_2 := za BK217.out 2
                have hfz129_3 := za BK217.out 3
                have hfz129_4 := za BK217.out 4
                have hfz129_5 := za BK217.out 5
                obtain ⟨Ao130, co130, eo130⟩ := yi HO_223004.out
                subst eo130
                go_wp2
                repeat (go_quiet (fail); try go_wp2)
                refine bodyPost_ret (results_cell_row rfl _ _ gb217 24 #[.string t218, .string t233, .string (rdOf ByteArray.empty t223 (ji14)), .string x223003_36, .slice Ao130 x223004_44.length co130, .string (⟨#[]⟩ : ByteArray)] (0, 0) _ rfl (by (with_reducible repeat (first | refine zg ?_ _ | refine zi ?_ | refine zh ?_ _)); refine zy (cs := #[.string t218, .string t233, .string (rdOf ByteArray.empty t223 (ji14)), .string x223003_36, .slice Ao130 x223004_44.length co130, .string (⟨#[]⟩ : ByteArray)]) ?_ 5 _ rfl; (with_reducible repeat (first | refine zg ?_ _ | refine zi ?_ | refine zh ?_ _)); refine zy (cs := #[.string t218, .string t233, .string (rdOf ByteArray.empty t223 (ji14)), .string x223003_36, .slice none 0 0, .string (⟨#[]⟩ : ByteArray)]) ?_ 4 _ rfl; (with_reducible repeat (first | refine zg ?_ _ | refine zi ?_ | refine zh ?_ _)); refine zy (cs := #[.string t218, .string t233, .string (rdOf ByteArray.empty t223 (ji14)), .string (⟨#[]⟩ : ByteArray), .slice none 0 0, .string (⟨#[]⟩ : ByteArray)]) ?_ 3 _ rfl; (with_reducible repeat (first | refine zg ?_ _ | refine zi ?_ | refine zh ?_ _)); refine zy (cs := #[.string t218, .string t233, .string (⟨#[]⟩ : ByteArray), .string (⟨#[]⟩ : ByteArray), .slice none 0 0, .string (⟨#[]⟩ : ByteArray)]) ?_ 2 _ rfl; (with_reducible repeat (first | refine zg ?_ _ | refine zi ?_ | refine zh ?_ _)); refine zy (cs := #[.string t218, .string (⟨#[]⟩ : ByteArray), .string (⟨#[]⟩ : ByteArray), .string (⟨#[]⟩ : ByteArray), .slice none 0 0, .string (⟨#[]⟩ : ByteArray)]) ?_ 1 _ rfl; (with_reducible repeat (first | refine zg ?_ _ | refine zi ?_ | refine zh ?_ _)); refine zy (cs := #[.string (⟨#[]⟩ : ByteArray), .string (⟨#[]⟩ : ByteArray), .string (⟨#[]⟩ : ByteArray), .string (⟨#[]⟩ : ByteArray), .slice none 0 0, .string (⟨#[]⟩ : ByteArray)]) ?_ 0 _ rfl; (with_reducible repeat (first | refine zg ?_ _ | refine zi ?_ | refine zh ?_ _)); exact BK217.out) Tryd.underlying24 rfl (by kernel_rfl)) rfl ?_
                exact ⟨_, by first | rfl | (simp [yl, ym] <;> rfl) | (simp only [← hji14]; first | rfl | (simp [yl, ym] <;> rfl)) | (simp [*, yl, ym] <;> rfl), by (with_reducible repeat (first | apply zC | apply zB | apply zD)); exact Kd.R_mono (Kd.R_far (p := ⟨gb217, 5, none⟩) (Kd.R_far (p := ⟨gb217, 4, none⟩) (Kd.R_far (p := ⟨gb217, 3, none⟩) (Kd.R_far (p := ⟨gb217, 2, none⟩) (Kd.R_far (p := ⟨gb217, 1, none⟩) (Kd.R_far (p := ⟨gb217, 0, none⟩) (Kd.R_types HO_223004.out BK217.out (by decide)) (fun _ hk => hk.2) (.string t218)) (fun _ hk => hk.2) (.string t233)) (fun _ hk => hk.2) (.string (rdOf ByteArray.empty t223 (ji14)))) (fun _ hk => hk.2) (.string x223003_36)) (fun _ hk => hk.2) (.slice Ao130 x223004_44.length co130)) (fun _ hk => hk.2) (.string (⟨#[]⟩ : ByteArray))) (fun _ hk => trivial), by repeat (with_reducible first | exact HI0.out | apply zn | apply zo | apply zp | apply zq | apply zr | apply zt | refine IsS69.far ?_ NB0_217.out _ | refine IsS69.far ?_ NB0_222.out _), by repeat (with_reducible first | exact HB.out | apply zd | apply zb | apply zc | refine zf ?_ (IsS69.ge HI0.out) | refine zf ?_ GE217.out | refine zf ?_ GE222.out), by repeat (with_reducible first | exact HK.out | apply zm | apply zU | apply zV | apply zW | refine keep_far ?_ GW217.out _ | refine keep_far ?_ GW222.out _)⟩
              ·rw [if_neg c113] at H
               exact absurd H (by simp)
    ·rw [if_neg c18] at H
     exact absurd H (by simp)
   ·rw [if_neg c16] at H
    exact absurd H (by simp)
  ·rw [if_neg c15] at H
   exact absurd H (by simp)
end Go.Proofs.YtmnfjbmhlabdaaaDoor.Pr
