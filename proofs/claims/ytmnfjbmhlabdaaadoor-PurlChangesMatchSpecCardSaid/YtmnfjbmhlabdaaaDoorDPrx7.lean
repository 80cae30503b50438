-- Written by a program of the session (wip/pr.py) out of the translation; Lean checks it.
import Derived.Test.YtmnfjbmhlabdaaaDoorDXa
import Derived.Test.YtmnfjbmhlabdaaaDoorDXb
import Derived.Test.YtmnfjbmhlabdaaaDoorDPrx0
import Derived.Test.YtmnfjbmhlabdaaaDoorDPrx1
import Derived.Test.YtmnfjbmhlabdaaaDoorDPrx4
import Derived.Test.YtmnfjbmhlabdaaaDoorDPrx6
namespace Go.Proofs.YtmnfjbmhlabdaaaDoor.Pr
open Go.RowKit Go.Proofs.YtmnfjbmhlabdaaaDoorW.PrintWords Go.Proofs.YtmnfjbmhlabdaaaDoorW.PrintLast Go.Proofs.YtmnfjbmhlabdaaaDoorW.PrintMore
attribute [local go_sem] max2_int min2_int max_two min_two max_three min_three max_four min_four
set_option linter.unusedVariables false
set_option linter.unusedSimpArgs false
def pr_parts.l0 : Nat → List ByteArray → ByteArray → Int → Int → Option (List ByteArray × ByteArray × Int × Int)
 | 0, _, _, _, _ => none
 | k + 1, x3, x1000, x1001, x1002 => if x1002 < 0 then ((pr_peek.f x1000 x1001 x1002).bind fun bt193 => (if bt193.1 = 47 then (none) else (some (x3, bt193.2.1, bt193.2.2.1, bt193.2.2.2)))) else (none)
def pr_parts.f (k : Nat) (s0_0 : ByteArray) (s0_1 : Int) (s0_2 : Int) : Option (List ByteArray × ByteArray × Int × Int) := (pr_part.f k s0_0 s0_1 s0_2).bind fun bt186 => (pr_parts.l0 k (([bt186.1] : List ByteArray)) bt186.2.1 bt186.2.2.1 bt186.2.2.2)
theorem pr_parts.mono_l : ∀ k, (∀ y0 y1 y2 y3, LeO (pr_parts.l0 k y0 y1 y2 y3) (pr_parts.l0 (k + 1) y0 y1 y2 y3))
 | 0 => fun _ _ _ _ r h => by simp [pr_parts.l0] at h
 | k + 1 => by
  have ih0 := pr_parts.mono_l k
  ·intro y0 y1 y2 y3
   unfold pr_parts.l0
   repeat' first
   | (with_reducible exact ya _)
   | (with_reducible exact yb _)
   | (with_reducible refine zZ ?_ ?_)
   | (with_reducible refine zY ?_ (fun _ => ?_))
   | exact ih0 _ _ _ _
   | exact pr_part.mono _ _ _ _
   | exact yb _
   | refine zZ ?_ ?_
   | refine zY ?_ (fun _ => ?_)
theorem pr_parts.mono : ∀ a0 a1 a2 k, LeO (pr_parts.f k a0 a1 a2) (pr_parts.f (k + 1) a0 a1 a2) := by
 intro a0 a1 a2 k
 have ih0 := pr_parts.mono_l k
 unfold pr_parts.f
 repeat' first
   | (with_reducible exact ya _)
   | (with_reducible exact yb _)
   | (with_reducible refine zZ ?_ ?_)
   | (with_reducible refine zY ?_ (fun _ => ?_))
   | exact ih0 _ _ _ _
   | exact pr_part.mono _ _ _ _
   | exact yb _
   | refine zZ ?_ ?_
   | refine zY ?_ (fun _ => ?_)
set_option maxHeartbeats 8000000 in
set_option maxRecDepth 100000 in
theorem pr_parts.calls (k : Nat) (g : Nat) (s0_0 : ByteArray) (s0_1 : Int) (s0_2 : Int) (r1 : List ByteArray) (r2 : ByteArray) (r3 : Int) (r4 : Int) (w0 w : World) (hI : IsS69 w0 w g s0_0 s0_1 s0_2) (hB : Below w0.heap.size w0 w) (h : pr_parts.f k s0_0 s0_1 s0_2 = some (r1, r2, r3, r4)) :
  Calls Tryd.prog 93 #[.pointer (some ⟨g, 0, none⟩)] w fun e w' => ∃ v0_ : Value, e = .returned (v0_) ∧ Kd.R Kd.string 9 w' w.heap.size (fun _ => True) v0_ r1 ∧ IsS69 w0 w' g r2 r3 r4 ∧ Below w0.heap.size w0 w' ∧ KeepBut w w' g none := by
 have HI0 := Aq.mk hI
 have HK := Aq.mk (KeepBut.refl w g none)
 have HL := Aq.mk hB.size
 clear hI
 have HW0 := Aq.mk hB.size
 have HB := Aq.mk hB
 clear hB
 have H : ((pr_part.f k s0_0 s0_1 s0_2).bind fun bt186 => (pr_parts.l0 k (([bt186.1] : List ByteArray)) bt186.2.1 bt186.2.2.1 bt186.2.2.2)) = some (r1, r2, r3, r4) := h
 clear h
 replace H := zu.mp H
 obtain ⟨⟨t186, t187, t188, t189⟩, A20, H⟩ := H
 replace H : (pr_parts.l0 k (([t186] : List ByteArray)) t187 t188 t189) = some (r1, r2, r3, r4) := H
 have A2 := Aq.mk A20
 clear A20
 obtain ⟨y190, hy190⟩ : ∃ y_ : List ByteArray, y_ = (([t186] : List ByteArray)) := ⟨_, rfl⟩
 replace H : (pr_parts.l0 k y190 t187 t188 t189) = some (r1, r2, r3, r4) := by first | (rw [hy190]; with_reducible exact H) | (have H2_ := (Option.bind_some _ _).symm.trans H; rw [hy190]; with_reducible exact H2_) | (have H2_ := (Option.bind_some _ _).symm.trans H; with_reducible exact H2_) | with_reducible exact H | (rw [hy190]; exact H) | exact H
 have Ny190 := Aq.mk hy190
 clear hy190
 have H' := Aq.mk H
 clear H
 go_enter Tryd.func93, Tryd.ntmps93
 go_wp2_with (first | ((with_reducible refine gate_callee (f := 95) rfl ?_); refine goesL_ (some 5) rfl rfl Tryd.func95 (by kernel_rfl) rfl #[.pointer (some ⟨g, 0, none⟩)] rfl (by (try simp only [zP, zQ, zR]); first | done | rfl | (simp only [zS, zT]; rfl)) ?_; (with_reducible refine (pr_part.calls k g s0_0 s0_1 s0_2 t186 t187 t188 t189 w0 _ ?side1 ?side2 A2.out).mono ?_); (case side1 => repeat (with_reducible first | exact HI0.out | apply zn | apply zo | apply zp | apply zq | apply zr | apply zt)); (case side2 => repeat (with_reducible first | exact HB.out | apply zd | apply zb | apply zc | refine zf ?_ (IsS69.ge HI0.out))); rintro e w3 ⟨rfl, hi, hb, hk⟩; refine ⟨_, rfl, ?_⟩; have n0_ := Aq.mk (KeepBut.trans (by repeat (with_reducible first | exact HK.out | apply zm | apply zU | apply zV | apply zW)) hk (.inl rfl)); have n1_ := Aq.mk (hb); have n2_ := Aq.mk (hi); clear HK; clear HB; clear HI0; have HK := n0_; have HB := n1_; have HI0 := n2_; clear n0_ n1_ n2_; (try clear hb); (try clear hb2); (try clear hk); (try clear hi)) | ((with_reducible refine gate_dst (N := 6) rfl ?_); refine Kd.R_lit Kd.string _ 9 ?hg (N := 6) ?hd (xs := ([t186] : List ByteArray)) (inner := [.string t186]) (ok := fun _ => True) (okp := fun _ => True) ?hr ?hp (fun _ hk => hk) trivial (Below.refl _ _) (Nat.le_refl _) (by simp) ?_; (case hd => rfl); (case hg => rfl); (case hr => first | (go_simp; done) | (go_simp; rfl)); (case hp => exact (Reps.one (show Kd.M Kd.string _ _ _ t186 [.string t186] from rfl) (Reps.none _ _))); intro v191 w4 ho5 hb hg_ hnew_; clear hg_ hnew_; (first | rw [← Ny190.out] at ho5 | (simp only [Int.reduceToNat] at ho5; rw [← Ny190.out] at ho5)); have n0_ := Aq.mk (zX ho5 (keep_size (w := w) (g := g) (row := none) (by repeat (with_reducible first | exact HK.out | apply zm | apply zU | apply zV | apply zW)))); have n1_ := Aq.mk (IsS69.below (by repeat (with_reducible first | exact HI0.out | apply zn | apply zo | apply zp | apply zq | apply zr | apply zt)) hb); have n2_ := Aq.mk (KeepBut.trans (by repeat (with_reducible first | exact HK.out | apply zm | apply zU | apply zV | apply zW)) (KeepBut.of_below hb g none) (.inl rfl)); have n3_ := Aq.mk (zv (by repeat (with_reducible first | exact HB.out | apply zd | apply zb | apply zc | refine zf ?_ (IsS69.ge HI0.out))) hb); clear HI0; clear HK; clear HB; have HO192 := n0_; have HI0 := n1_; have HK := n2_; have HB := n3_; clear n0_ n1_ n2_ n3_; clear hb ho5))
 go_loopg [3] k (fun kq v3 w' => ∃ (x3_1 : List ByteArray) (x1000_1 : ByteArray) (x1001_1 : Int) (x1002_1 : Int), Aq (pr_parts.l0 kq x3_1 x1000_1 x1001_1 x1002_1 = some (r1, r2, r3, r4)) ∧ Aq (kq ≤ k) ∧ Aq (Kd.R Kd.string 9 w' w.heap.size (fun _ => True) v3 x3_1) ∧ Aq (IsS69 w0 w' g x1000_1 x1001_1 x1002_1) ∧ Aq (KeepBut w w' g none) ∧ Aq (Below w0.heap.size w0 w'))
 case atStart => exact ⟨(y190), (t187), (t188), (t189), H', ⟨Nat.le_refl _⟩, ⟨by (with_reducible repeat (first | apply zC | apply zB | apply zD)); exact HO192.out⟩, ⟨by repeat (with_reducible first | exact HI0.out | apply zn | apply zo | apply zp | apply zq | apply zr | apply zt)⟩, ⟨by repeat (with_reducible first | exact HK.out | apply zm | apply zU | apply zV | apply zW)⟩, ⟨by repeat (with_reducible first | exact HB.out | apply zd | apply zb | apply zc | refine zf ?_ (IsS69.ge HI0.out))⟩⟩
 case round =>
  clear H'
  try clear p2
  obtain ⟨x3_1, x1000_1, x1001_1, x1002_1, HA, HK1, HO_3, HI0, HK, HB⟩ := hrel
  cases gk with
  | zero => exact absurd HA.out (by simp [pr_parts.l0])
  | succ k1 =>
   have H := HA.out
   clear HA
   simp only [pr_parts.l0] at H
   by_cases c6 : x1002_1 < 0
   ·rw [if_pos c6] at H
    have c6b0 : decide (x1002_1 < 0) = true := zk c6
    clear c6
    replace H := zu.mp H
    obtain ⟨⟨t193, t194, t195, t196⟩, A70, H⟩ := H
    replace H : (if t193 = 47 then (none) else (some (x3_1, t194, t195, t196))) = some (r1, r2, r3, r4) := H
    have A7 := Aq.mk A70
    clear A70
    by_cases c8 : t193 = 47
    ·rw [if_pos c8] at H
     exact absurd H (by simp)
    ·rw [if_neg c8] at H
     have c8b0 : (t193 == 47) = false := ye.mpr c8
     have c8b1 : (t193 != 47) = true := yd.mpr c8
     simp only [zH, zI] at H
     obtain ⟨rfl, rfl, rfl, rfl⟩ := H
     obtain ⟨HGz16, hgz16⟩ := HI0.out
     have hcz16_0 := cellS69_0 HGz16
     have hcz16_1 := cellS69_1 HGz16
     have hcz16_2 := cellS69_2 HGz16
     have hfz16_0 := za HGz16 0
     have hfz16_1 := za HGz16 1
     have hfz16_2 := za HGz16 2
     clear HGz16 hgz16
     go_wp2_with (first | (go_at_call 94; (with_reducible refine (pr_peek.calls g x1000_1 x1001_1 x1002_1 t193 t194 t195 t196 w0 _ ?side1 ?side2 A7.out).mono ?_); (case side1 => repeat (with_reducible first | exact HI0.out | apply zn | apply zo | apply zp | apply zq | apply zr | apply zt)); (case side2 => repeat (with_reducible first | exact HB.out | apply zd | apply zb | apply zc | refine zf ?_ (IsS69.ge HI0.out))); rintro e w17 ⟨rfl, hi, hb, hk⟩; have n0_ := Aq.mk (Kd.R_mono (Kd.R_keep (IsS69.apart (show IsS69 w0 _ g x1000_1 x1001_1 x1002_1 from by repeat (with_reducible first | exact HI0.out | apply zn | apply zo | apply zp | apply zq | apply zr | apply zt)) (by (with_reducible repeat (first | apply zC | apply zB | apply zD)); exact HO_3.out) (by decide)) hk (fun _ h => h.2)) (fun _ h => h.1)); have n1_ := Aq.mk (KeepBut.trans (by repeat (with_reducible first | exact HK.out | apply zm | apply zU | apply zV | apply zW)) hk (.inl rfl)); have n2_ := Aq.mk (hb); have n3_ := Aq.mk (hi); clear HO_3; clear HK; clear HB; clear HI0; have HO_3 := n0_; have HK := n1_; have HB := n2_; have HI0 := n3_; clear n0_ n1_ n2_ n3_; (try clear hb); (try clear hb2); (try clear hk); (try clear hi)))
     go_ret
     exact ⟨_, by first | rfl | (simp [yl, ym] <;> rfl) | (simp [*, yl, ym] <;> rfl), by (with_reducible repeat (first | apply zC | apply zB | apply zD)); exact HO_3.out, by repeat (with_reducible first | exact HI0.out | apply zn | apply zo | apply zp | apply zq | apply zr | apply zt), by repeat (with_reducible first | exact HB.out | apply zd | apply zb | apply zc | refine zf ?_ (IsS69.ge HI0.out)), by repeat (with_reducible first | exact HK.out | apply zm | apply zU | apply zV | apply zW)⟩
   ·rw [if_neg c6] at H
    exact absurd H (by simp)
mutual
def pr_qualifier.j1 : Nat → Int → ByteArray → Int → Int → Option (ByteArray × ByteArray × ByteArray × Int × Int)
 | 0, _, _, _, _ => none
 | k + 1, x3, x1000, x1001, x1002 => if 0 ≤ x3 then (if x3 ≤ x1001 then (if x1001 ≤ (x1000.size : Int) then (if (x1000.extract (x3 : Int).toNat (x1001 : Int).toNat).toList = ([] : List UInt8) then (pr_qualifier.j2 k (x1000.extract (x3 : Int).toNat (x1001 : Int).toNat) true x1000 x1001 x1002) else ((pr_peek.f x1000 x1001 x1002).bind fun bt206 => (pr_qualifier.j2 k (x1000.extract (x3 : Int).toNat (x1001 : Int).toNat) (bt206.1 != 61) bt206.2.1 bt206.2.2.1 bt206.2.2.2))) else (none)) else (none)) else (none)
def pr_qualifier.j2 : Nat → ByteArray → Bool → ByteArray → Int → Int → Option (ByteArray × ByteArray × ByteArray × Int × Int)
 | 0, _, _, _, _, _ => none
 | k + 1, x4, x60, x1000, x1001, x1002 => if x60 = true then ((pr_fail.f x1000 x1001 x1002 x1001).bind fun bt210 => (some ((⟨#[]⟩ : ByteArray), (⟨#[]⟩ : ByteArray), bt210.1, bt210.2.1, bt210.2.2))) else ((pr_part.f k x1000 (wrap64 (x1001 + 1)) x1002).bind fun bt213 => (some (x4, bt213.1, bt213.2.1, bt213.2.2.1, bt213.2.2.2)))
def pr_qualifier.l0 : Nat → Int → ByteArray → Int → Int → Option (ByteArray × ByteArray × ByteArray × Int × Int)
 | 0, _, _, _, _ => none
 | k + 1, x3, x1000, x1001, x1002 => if x1001 < (x1000.size : Int) then (if 0 ≤ x1001 then ((purl_nameByte.f (bt x1000 x1001) (x1001 == x3)).bind fun t205 => (if t205 = true then (pr_qualifier.l0 k x3 x1000 (wrap64 (x1001 + 1)) x1002) else (pr_qualifier.j1 k x3 x1000 x1001 x1002))) else (none)) else (pr_qualifier.j1 k x3 x1000 x1001 x1002)
end
def pr_qualifier.f (k : Nat) (s0_0 : ByteArray) (s0_1 : Int) (s0_2 : Int) : Option (ByteArray × ByteArray × ByteArray × Int × Int) := pr_qualifier.l0 k s0_1 s0_0 s0_1 s0_2
theorem pr_qualifier.mono_l : ∀ k, (∀ y0 y1 y2 y3, LeO (pr_qualifier.j1 k y0 y1 y2 y3) (pr_qualifier.j1 (k + 1) y0 y1 y2 y3)) ∧ (∀ y0 y1 y2 y3 y4, LeO (pr_qualifier.j2 k y0 y1 y2 y3 y4) (pr_qualifier.j2 (k + 1) y0 y1 y2 y3 y4)) ∧ (∀ y0 y1 y2 y3, LeO (pr_qualifier.l0 k y0 y1 y2 y3) (pr_qualifier.l0 (k + 1) y0 y1 y2 y3))
 | 0 => ⟨fun _ _ _ _ r h => by simp [pr_qualifier.j1] at h, fun _ _ _ _ _ r h => by simp [pr_qualifier.j2] at h, fun _ _ _ _ r h => by simp [pr_qualifier.l0] at h⟩
 | k + 1 => by
  obtain ⟨ih0, ih1, ih2⟩ := pr_qualifier.mono_l k
  refine ⟨?_, ?_, ?_⟩
  ·intro y0 y1 y2 y3
   unfold pr_qualifier.j1
   repeat' first
   | (with_reducible exact ya _)
   | (with_reducible exact yb _)
   | (with_reducible refine zZ ?_ ?_)
   | (with_reducible refine zY ?_ (fun _ => ?_))
   | exact ih0 _ _ _ _
   | exact ih1 _ _ _ _ _
   | exact ih2 _ _ _ _
   | exact pr_part.mono _ _ _ _
   | exact yb _
   | refine zZ ?_ ?_
   | refine zY ?_ (fun _ => ?_)
  ·intro y0 y1 y2 y3 y4
   unfold pr_qualifier.j2
   repeat' first
   | (with_reducible exact ya _)
   | (with_reducible exact yb _)
   | (with_reducible refine zZ ?_ ?_)
   | (with_reducible refine zY ?_ (fun _ => ?_))
   | exact ih0 _ _ _ _
   | exact ih1 _ _ _ _ _
   | exact ih2 _ _ _ _
   | exact pr_part.mono _ _ _ _
   | exact yb _
   | refine zZ ?_ ?_
   | refine zY ?_ (fun _ => ?_)
  ·intro y0 y1 y2 y3
   unfold pr_qualifier.l0
   repeat' first
   | (with_reducible exact ya _)
   | (with_reducible exact yb _)
   | (with_reducible refine zZ ?_ ?_)
   | (with_reducible refine zY ?_ (fun _ => ?_))
   | exact ih0 _ _ _ _
   | exact ih1 _ _ _ _ _
   | exact ih2 _ _ _ _
   | exact pr_part.mono _ _ _ _
   | exact yb _
   | refine zZ ?_ ?_
   | refine zY ?_ (fun _ => ?_)
theorem pr_qualifier.mono : ∀ a0 a1 a2 k, LeO (pr_qualifier.f k a0 a1 a2) (pr_qualifier.f (k + 1) a0 a1 a2) := by
 intro a0 a1 a2 k
 obtain ⟨ih0, ih1, ih2⟩ := pr_qualifier.mono_l k
 unfold pr_qualifier.f
 repeat' first
   | (with_reducible exact ya _)
   | (with_reducible exact yb _)
   | (with_reducible refine zZ ?_ ?_)
   | (with_reducible refine zY ?_ (fun _ => ?_))
   | exact ih0 _ _ _ _
   | exact ih1 _ _ _ _ _
   | exact ih2 _ _ _ _
   | exact pr_part.mono _ _ _ _
   | exact yb _
   | refine zZ ?_ ?_
   | refine zY ?_ (fun _ => ?_)
end Go.Proofs.YtmnfjbmhlabdaaaDoor.Pr
