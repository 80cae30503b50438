-- Written by a program of the session (wip/pr.py) out of the translation; Lean checks it.
import Derived.Test.YtmnfjbmhlabdaaaDoorDXa
import Derived.Test.YtmnfjbmhlabdaaaDoorDXb
import Derived.Test.YtmnfjbmhlabdaaaDoorDPrx0
import Derived.Test.YtmnfjbmhlabdaaaDoorDPrx1
import Derived.Test.YtmnfjbmhlabdaaaDoorDPrx4
import Derived.Test.YtmnfjbmhlabdaaaDoorDPrx6
namespace Go.Proofs.YtmnfjbmhlabdaaaDoor.Pr
open Go.RowKit Go.Proofs.YtmnfjbmhlabdaaaDoorW.PrintWords Go.Proofs.YtmnfjbmhlabdaaaDoorW.PrintLast Go.Proofs.YtmnfjbmhlabdaaaDoorW.PrintMore
attribute [local go_sem] max2_int min2_int max_two min_two max_three min_three max_four min_four   -- for this text's walks alone
set_option linter.unusedVariables false
set_option linter.unusedSimpArgs false
/-! ### purl_reader_parts: function 93 -/
def purl_reader_parts.l0 : Nat → List ByteArray → ByteArray → Int → Int → Option (List ByteArray × ByteArray × Int × Int)
 | 0, _, _, _, _ => none
 | k + 1, x3, x1000, x1001, x1002 => if x1002 < 0 then ((purl_reader_peek.f x1000 x1001 x1002).bind fun bt193 => (if bt193.1 = 47 then ((purl_reader_part.f k bt193.2.1 (wrap64 (bt193.2.2.1 + 1)) bt193.2.2.2).bind fun bt197 => (if x3.length < 8796093022208 then (purl_reader_parts.l0 k (x3 ++ [bt197.1]) bt197.2.1 bt197.2.2.1 bt197.2.2.2) else (none))) else (some (x3, bt193.2.1, bt193.2.2.1, bt193.2.2.2)))) else (some (x3, x1000, x1001, x1002))
def purl_reader_parts.f (k : Nat) (s0_0 : ByteArray) (s0_1 : Int) (s0_2 : Int) : Option (List ByteArray × ByteArray × Int × Int) := (purl_reader_part.f k s0_0 s0_1 s0_2).bind fun bt186 => (purl_reader_parts.l0 k (([bt186.1] : List ByteArray)) bt186.2.1 bt186.2.2.1 bt186.2.2.2)
theorem purl_reader_parts.mono_l : ∀ k, (∀ y0 y1 y2 y3, LeO (purl_reader_parts.l0 k y0 y1 y2 y3) (purl_reader_parts.l0 (k + 1) y0 y1 y2 y3))
 | 0 => fun _ _ _ _ r h => by simp [purl_reader_parts.l0] at h
 | k + 1 => by
  have ih0 := purl_reader_parts.mono_l k
  ·intro y0 y1 y2 y3
   unfold purl_reader_parts.l0
   repeat' first
   | (with_reducible exact ih0 _ _ _ _)
   | (with_reducible exact purl_reader_part.mono _ _ _ _)
   | (with_reducible exact LeO.refl _)
   | (with_reducible exact LeO.none _)
   | (with_reducible refine LeO.ite ?_ ?_)
   | (with_reducible refine LeO.bind ?_ (fun _ => ?_))
   | exact ih0 _ _ _ _
   | exact purl_reader_part.mono _ _ _ _
   | exact LeO.none _
   | refine LeO.ite ?_ ?_
   | refine LeO.bind ?_ (fun _ => ?_)
theorem purl_reader_parts.mono : ∀ a0 a1 a2 k, LeO (purl_reader_parts.f k a0 a1 a2) (purl_reader_parts.f (k + 1) a0 a1 a2) := by
 intro a0 a1 a2 k
 have ih0 := purl_reader_parts.mono_l k
 unfold purl_reader_parts.f
 repeat' first
   | (with_reducible exact ih0 _ _ _ _)
   | (with_reducible exact purl_reader_part.mono _ _ _ _)
   | (with_reducible exact LeO.refl _)
   | (with_reducible exact LeO.none _)
   | (with_reducible refine LeO.ite ?_ ?_)
   | (with_reducible refine LeO.bind ?_ (fun _ => ?_))
   | exact ih0 _ _ _ _
   | exact purl_reader_part.mono _ _ _ _
   | exact LeO.none _
   | refine LeO.ite ?_ ?_
   | refine LeO.bind ?_ (fun _ => ?_)
set_option maxHeartbeats 8000000 in
set_option maxRecDepth 100000 in
theorem purl_reader_parts.calls (k : Nat) (g : Nat) (s0_0 : ByteArray) (s0_1 : Int) (s0_2 : Int) (r1 : List ByteArray) (r2 : ByteArray) (r3 : Int) (r4 : Int) (w0 w : World) (hI : IsS69 w0 w g s0_0 s0_1 s0_2) (hB : Below w0.heap.size w0 w) (h : purl_reader_parts.f k s0_0 s0_1 s0_2 = some (r1, r2, r3, r4)) :
  Calls Tryd.prog 93 #[.pointer (some ⟨g, 0, none⟩)] w fun e w' => ∃ v0_ : Value, e = .returned (v0_) ∧ Kd.R Kd.string 9 w' w.heap.size (fun _ => True) v0_ r1 ∧ IsS69 w0 w' g r2 r3 r4 ∧ Below w0.heap.size w0 w' ∧ KeepBut w w' g none := by
 have HI0 := Aside0.mk hI
 have HK := Aside0.mk (KeepBut.refl w g none)
 have HL := Aside0.mk hB.size
 clear hI
 have HW0 := Aside0.mk hB.size
 have HB := Aside0.mk hB
 clear hB
 have H : ((purl_reader_part.f k s0_0 s0_1 s0_2).bind fun bt186 => (purl_reader_parts.l0 k (([bt186.1] : List ByteArray)) bt186.2.1 bt186.2.2.1 bt186.2.2.2)) = some (r1, r2, r3, r4) := h
 clear h
 replace H := zu.mp H
 obtain ⟨⟨t186, t187, t188, t189⟩, A20, H⟩ := H
 replace H : (purl_reader_parts.l0 k (([t186] : List ByteArray)) t187 t188 t189) = some (r1, r2, r3, r4) := H
 have A2 := Aside0.mk A20
 clear A20
 obtain ⟨y190, hy190⟩ : ∃ y_ : List ByteArray, y_ = (([t186] : List ByteArray)) := ⟨_, rfl⟩
 replace H : (purl_reader_parts.l0 k y190 t187 t188 t189) = some (r1, r2, r3, r4) := by first | (rw [hy190]; with_reducible exact H) | (have H2_ := (Option.bind_some _ _).symm.trans H; rw [hy190]; with_reducible exact H2_) | (have H2_ := (Option.bind_some _ _).symm.trans H; with_reducible exact H2_) | with_reducible exact H | (rw [hy190]; exact H) | exact H
 have Ny190 := Aside0.mk hy190
 clear hy190
 have H' := Aside0.mk H
 clear H
 go_enter Tryd.func93, Tryd.ntmps93
 go_wp2_with (first | ((with_reducible refine gate_callee (f := 95) rfl ?_); refine goesL_ (some 5) rfl rfl Tryd.func95 (by kernel_rfl) rfl #[.pointer (some ⟨g, 0, none⟩)] rfl (by (try simp only [List.map_toArray, List.map_cons, List.map_nil]); first | done | rfl | (simp only [List.length_drop, List.length_take]; rfl)) ?_; (with_reducible refine (purl_reader_part.calls k g s0_0 s0_1 s0_2 t186 t187 t188 t189 w0 _ ?side1 ?side2 A2.out).mono ?_); (case side1 => repeat (first | (with_reducible first | exact HI0.out | apply zn | apply zo | apply zp | apply zq | apply zr | apply zt) | exact HI0.out)); (case side2 => repeat (first | (with_reducible first | exact HB.out | apply zd | apply zb | apply zc | refine zf ?_ (IsS69.ge HI0.out)) | exact HB.out)); rintro e w3 ⟨rfl, hi, hb, hk⟩; refine ⟨_, rfl, ?_⟩; have n0_ := Aside0.mk (KeepBut.trans (by repeat (first | (with_reducible first | exact HK.out | apply zm | apply keep_drewN | apply keep_drew | apply keep_alloc) | exact HK.out)) hk (.inl rfl)); have n1_ := Aside0.mk (hb); have n2_ := Aside0.mk (hi); clear HK; clear HB; clear HI0; have HK := n0_; have HB := n1_; have HI0 := n2_; clear n0_ n1_ n2_; (try clear hb); (try clear hb2); (try clear hk); (try clear hi)) | ((with_reducible refine gate_dst (N := 6) rfl ?_); refine Kd.R_lit Kd.string _ 9 ?hg (N := 6) ?hd (xs := ([t186] : List ByteArray)) (inner := [.string t186]) (ok := fun _ => True) (okp := fun _ => True) ?hr ?hp (fun _ hk => hk) trivial (Below.refl _ _) (Nat.le_refl _) (by simp) ?_; (case hd => rfl); (case hg => rfl); (case hr => first | (go_simp; done) | (go_simp; rfl)); (case hp => exact (Reps.one (show Kd.M Kd.string _ _ _ t186 [.string t186] from rfl) (Reps.none _ _))); intro v191 w4 ho5 hb hg_ hnew_; clear hg_ hnew_; (first | rw [← Ny190.out] at ho5 | (simp only [Int.reduceToNat] at ho5; rw [← Ny190.out] at ho5)); have n0_ := Aside0.mk (Kd.R_lower ho5 (keep_size (w := w) (g := g) (row := none) (by repeat (first | (with_reducible first | exact HK.out | apply zm | apply keep_drewN | apply keep_drew | apply keep_alloc) | exact HK.out)))); have n1_ := Aside0.mk (IsS69.below (by repeat (first | (with_reducible first | exact HI0.out | apply zn | apply zo | apply zp | apply zq | apply zr | apply zt) | exact HI0.out)) hb); have n2_ := Aside0.mk (KeepBut.trans (by repeat (first | (with_reducible first | exact HK.out | apply zm | apply keep_drewN | apply keep_drew | apply keep_alloc) | exact HK.out)) (KeepBut.of_below hb g none) (.inl rfl)); have n3_ := Aside0.mk (zv (by repeat (first | (with_reducible first | exact HB.out | apply zd | apply zb | apply zc | refine zf ?_ (IsS69.ge HI0.out)) | exact HB.out)) hb); clear HI0; clear HK; clear HB; have HO192 := n0_; have HI0 := n1_; have HK := n2_; have HB := n3_; clear n0_ n1_ n2_ n3_; clear hb ho5))
 go_loopg [3] k (fun kq v3 w' => ∃ (x3_1 : List ByteArray) (x1000_1 : ByteArray) (x1001_1 : Int) (x1002_1 : Int), Aside0 (purl_reader_parts.l0 kq x3_1 x1000_1 x1001_1 x1002_1 = some (r1, r2, r3, r4)) ∧ Aside0 (kq ≤ k) ∧ Aside0 (Kd.R Kd.string 9 w' w.heap.size (fun _ => True) v3 x3_1) ∧ Aside0 (IsS69 w0 w' g x1000_1 x1001_1 x1002_1) ∧ Aside0 (KeepBut w w' g none) ∧ Aside0 (Below w0.heap.size w0 w'))
 case atStart => exact ⟨(y190), (t187), (t188), (t189), H', ⟨Nat.le_refl _⟩, ⟨by (with_reducible repeat (first | apply zC | apply zB | apply zD)); exact HO192.out⟩, ⟨by repeat (first | (with_reducible first | exact HI0.out | apply zn | apply zo | apply zp | apply zq | apply zr | apply zt) | exact HI0.out)⟩, ⟨by repeat (first | (with_reducible first | exact HK.out | apply zm | apply keep_drewN | apply keep_drew | apply keep_alloc) | exact HK.out)⟩, ⟨by repeat (first | (with_reducible first | exact HB.out | apply zd | apply zb | apply zc | refine zf ?_ (IsS69.ge HI0.out)) | exact HB.out)⟩⟩
 case round =>
  clear H'
  try clear p2
  obtain ⟨x3_1, x1000_1, x1001_1, x1002_1, HA, HK1, HO_3, HI0, HK, HB⟩ := hrel
  cases gk with
  | zero => exact absurd HA.out (by simp [purl_reader_parts.l0])
  | succ k1 =>
   have H := HA.out
   clear HA
   simp only [purl_reader_parts.l0] at H
   by_cases c6 : x1002_1 < 0
   ·rw [if_pos c6] at H
    have c6b0 : decide (x1002_1 < 0) = true := zk c6
    clear c6
    replace H := zu.mp H
    obtain ⟨⟨t193, t194, t195, t196⟩, A70, H⟩ := H
    replace H : (if t193 = 47 then ((purl_reader_part.f k1 t194 (wrap64 (t195 + 1)) t196).bind fun bt197 => (if x3_1.length < 8796093022208 then (purl_reader_parts.l0 k1 (x3_1 ++ [bt197.1]) bt197.2.1 bt197.2.2.1 bt197.2.2.2) else (none))) else (some (x3_1, t194, t195, t196))) = some (r1, r2, r3, r4) := H
    have A7 := Aside0.mk A70
    clear A70
    by_cases c8 : t193 = 47
    ·rw [if_pos c8] at H
     have c8b0 : (t193 == 47) = true := beq_iff_eq.mpr c8
     have c8b1 : (t193 != 47) = false := bne_eq_false_iff_eq.mpr c8
     clear c8
     replace H := zu.mp H
     obtain ⟨⟨t197, t198, t199, t200⟩, A90, H⟩ := H
     replace H : (if x3_1.length < 8796093022208 then (purl_reader_parts.l0 k1 (x3_1 ++ [t197]) t198 t199 t200) else (none)) = some (r1, r2, r3, r4) := H
     have A9 := Aside0.mk A90
     clear A90
     by_cases c10 : x3_1.length < 8796093022208
     ·rw [if_pos c10] at H
      have LMc10 := Aside0.mk c10
      clear c10
      obtain ⟨y201, hy201⟩ : ∃ y_ : List ByteArray, y_ = (x3_1 ++ [t197]) := ⟨_, rfl⟩
      replace H : (purl_reader_parts.l0 k1 y201 t198 t199 t200) = some (r1, r2, r3, r4) := by first | (rw [hy201]; with_reducible exact H) | (have H2_ := (Option.bind_some _ _).symm.trans H; rw [hy201]; with_reducible exact H2_) | (have H2_ := (Option.bind_some _ _).symm.trans H; with_reducible exact H2_) | with_reducible exact H | (rw [hy201]; exact H) | exact H
      have Ny201 := Aside0.mk hy201
      clear hy201
      have H' := Aside0.mk H
      clear H
      obtain ⟨HGz11, hgz11⟩ := HI0.out
      have hcz11_0 := cellS69_0 HGz11
      have hcz11_1 := cellS69_1 HGz11
      have hcz11_2 := cellS69_2 HGz11
      have hfz11_0 := za HGz11 0
      have hfz11_1 := za HGz11 1
      have hfz11_2 := za HGz11 2
      clear HGz11 hgz11
      go_wp2_with (first | (go_at_call 94; (with_reducible refine (purl_reader_peek.calls g x1000_1 x1001_1 x1002_1 t193 t194 t195 t196 w0 _ ?side1 ?side2 A7.out).mono ?_); (case side1 => repeat (first | (with_reducible first | exact HI0.out | apply zn | apply zo | apply zp | apply zq | apply zr | apply zt) | exact HI0.out)); (case side2 => repeat (first | (with_reducible first | exact HB.out | apply zd | apply zb | apply zc | refine zf ?_ (IsS69.ge HI0.out)) | exact HB.out)); rintro e w12 ⟨rfl, hi, hb, hk⟩; have n0_ := Aside0.mk (Kd.R_mono (Kd.R_keep (IsS69.apart (show IsS69 w0 _ g x1000_1 x1001_1 x1002_1 from by repeat (first | (with_reducible first | exact HI0.out | apply zn | apply zo | apply zp | apply zq | apply zr | apply zt) | exact HI0.out)) (by (with_reducible repeat (first | apply zC | apply zB | apply zD)); exact HO_3.out) (by decide)) hk (fun _ h => h.2)) (fun _ h => h.1)); have n1_ := Aside0.mk (KeepBut.trans (by repeat (first | (with_reducible first | exact HK.out | apply zm | apply keep_drewN | apply keep_drew | apply keep_alloc) | exact HK.out)) hk (.inl rfl)); have n2_ := Aside0.mk (hb); have n3_ := Aside0.mk (hi); clear HO_3; clear HK; clear HB; clear HI0; have HO_3 := n0_; have HK := n1_; have HB := n2_; have HI0 := n3_; clear n0_ n1_ n2_ n3_; (try clear hb); (try clear hb2); (try clear hk); (try clear hi); obtain ⟨HGz13, hgz13⟩ := HI0.out; have hcz13_0 := cellS69_0 HGz13; have hcz13_1 := cellS69_1 HGz13; have hcz13_2 := cellS69_2 HGz13; have hfz13_0 := za HGz13 0; have hfz13_1 := za HGz13 1; have hfz13_2 := za HGz13 2; clear HGz13 hgz13) | ((with_reducible refine gate_callee (f := 95) rfl ?_); refine goesL_ (some 26) rfl rfl Tryd.func95 (by kernel_rfl) rfl #[.pointer (some ⟨g, 0, none⟩)] rfl (by (try simp only [List.map_toArray, List.map_cons, List.map_nil]); first | done | rfl | (simp only [List.length_drop, List.length_take]; rfl)) ?_; (with_reducible refine (purl_reader_part.calls k1 g t194 (wrap64 (t195 + 1)) t196 t197 t198 t199 t200 w0 _ ?side1 ?side2 A9.out).mono ?_); (case side1 => repeat (first | (with_reducible first | exact HI0.out | apply zn | apply zo | apply zp | apply zq | apply zr | apply zt) | exact HI0.out)); (case side2 => repeat (first | (with_reducible first | exact HB.out | apply zd | apply zb | apply zc | refine zf ?_ (IsS69.ge HI0.out)) | exact HB.out)); rintro e w14 ⟨rfl, hi, hb, hk⟩; refine ⟨_, rfl, ?_⟩; have n0_ := Aside0.mk (Kd.R_mono (Kd.R_keep (IsS69.apart (show IsS69 w0 _ g t194 (wrap64 (t195 + 1)) t196 from by repeat (first | (with_reducible first | exact HI0.out | apply zn | apply zo | apply zp | apply zq | apply zr | apply zt) | exact HI0.out)) (by (with_reducible repeat (first | apply zC | apply zB | apply zD)); exact (Kd.R_mono (Kd.R_far (p := ⟨g, 1, none⟩) (IsS69.apart HI0.out HO_3.out (by decide)) (fun _ hk => hk.2) (.int .i64 (wrap64 (t195 + 1)))) (fun _ h_ => h_.1))) (by decide)) hk (fun _ h => h.2)) (fun _ h => h.1)); have n1_ := Aside0.mk (KeepBut.trans (by repeat (first | (with_reducible first | exact HK.out | apply zm | apply keep_drewN | apply keep_drew | apply keep_alloc) | exact HK.out)) hk (.inl rfl)); have n2_ := Aside0.mk (hb); have n3_ := Aside0.mk (hi); clear HO_3; clear HK; clear HB; clear HI0; have HO_3 := n0_; have HK := n1_; have HB := n2_; have HI0 := n3_; clear n0_ n1_ n2_ n3_; (try clear hb); (try clear hb2); (try clear hk); (try clear hi)) | ((with_reducible refine gate_builtin (b := .append) (xs := #[.tmp 24, .tmp 27]) rfl ?_); at_builtin; refine Kd.R_append Kd.string w.heap.size rfl (.tmp 24) (.tmp 27) 41 9 (.string ⟨#[]⟩) 16 rfl Tryd.underlying41 info9 rfl (by decide) (by omega) u3 x3_1 t197 [.string t197] (fun _ => True) (fun _ => False) rfl rfl ?aP (fun _ hk => hk.elim) ?aF ?aO (Below.refl _ _) ?aS ?aL ?_; (case aP => exact rfl); (case aF => exact (fun _ _ => trivial)); (case aO => exact (by (with_reducible repeat (first | apply zC | apply zB | apply zD)); exact HO_3.out)); (case aS => exact (keep_size (w := w) (g := g) (row := none) (by repeat (first | (with_reducible first | exact HK.out | apply zm | apply keep_drewN | apply keep_drew | apply keep_alloc) | exact HK.out)))); (case aL => have := LMc10.out; omega); intro v202 w15 ho hb hg hat; rw [← Ny201.out] at ho; have n0_ := Aside0.mk (IsS69.grown (by repeat (first | (with_reducible first | exact HI0.out | apply zn | apply zo | apply zp | apply zq | apply zr | apply zt) | exact HI0.out)) hg (IsS69.own_ne HI0.out HO_3.out (by decide))); have n1_ := Aside0.mk (below_weaken (by repeat (first | (with_reducible first | exact HB.out | apply zd | apply zb | apply zc | refine zf ?_ (IsS69.ge HI0.out)) | exact HB.out)) HL.out hb); have n2_ := Aside0.mk (KeepBut.trans (by repeat (first | (with_reducible first | exact HK.out | apply zm | apply keep_drewN | apply keep_drew | apply keep_alloc) | exact HK.out)) (KeepBut.of_grown hg g) (Kd.R_base2 HO_3.out)); have n3_ := Aside0.mk (ho); clear HI0; clear HB; clear HK; clear HO_3; have HI0 := n0_; have HB := n1_; have HK := n2_; have HO203 := n3_; clear n0_ n1_ n2_ n3_; clear ho hb hg hat))
      go_roundg k1
      case measure => have := HK1.out; omega
      case rel => exact ⟨(y201), (t198), (t199), (t200), H', ⟨by have := HK1.out; omega⟩, ⟨by (with_reducible repeat (first | apply zC | apply zB | apply zD)); exact HO203.out⟩, ⟨by repeat (first | (with_reducible first | exact HI0.out | apply zn | apply zo | apply zp | apply zq | apply zr | apply zt) | exact HI0.out)⟩, ⟨by repeat (first | (with_reducible first | exact HK.out | apply zm | apply keep_drewN | apply keep_drew | apply keep_alloc) | exact HK.out)⟩, ⟨by repeat (first | (with_reducible first | exact HB.out | apply zd | apply zb | apply zc | refine zf ?_ (IsS69.ge HI0.out)) | exact HB.out)⟩⟩
     ·rw [if_neg c10] at H
      exact absurd H (by simp)
    ·rw [if_neg c8] at H
     have c8b0 : (t193 == 47) = false := beq_eq_false_iff_ne.mpr c8
     have c8b1 : (t193 != 47) = true := bne_iff_ne.mpr c8
     simp only [Option.some.injEq, Prod.mk.injEq] at H
     obtain ⟨rfl, rfl, rfl, rfl⟩ := H
     obtain ⟨HGz16, hgz16⟩ := HI0.out
     have hcz16_0 := cellS69_0 HGz16
     have hcz16_1 := cellS69_1 HGz16
     have hcz16_2 := cellS69_2 HGz16
     have hfz16_0 := za HGz16 0
     have hfz16_1 := za HGz16 1
     have hfz16_2 := za HGz16 2
     clear HGz16 hgz16
     go_wp2_with (first | (go_at_call 94; (with_reducible refine (purl_reader_peek.calls g x1000_1 x1001_1 x1002_1 t193 t194 t195 t196 w0 _ ?side1 ?side2 A7.out).mono ?_); (case side1 => repeat (first | (with_reducible first | exact HI0.out | apply zn | apply zo | apply zp | apply zq | apply zr | apply zt) | exact HI0.out)); (case side2 => repeat (first | (with_reducible first | exact HB.out | apply zd | apply zb | apply zc | refine zf ?_ (IsS69.ge HI0.out)) | exact HB.out)); rintro e w17 ⟨rfl, hi, hb, hk⟩; have n0_ := Aside0.mk (Kd.R_mono (Kd.R_keep (IsS69.apart (show IsS69 w0 _ g x1000_1 x1001_1 x1002_1 from by repeat (first | (with_reducible first | exact HI0.out | apply zn | apply zo | apply zp | apply zq | apply zr | apply zt) | exact HI0.out)) (by (with_reducible repeat (first | apply zC | apply zB | apply zD)); exact HO_3.out) (by decide)) hk (fun _ h => h.2)) (fun _ h => h.1)); have n1_ := Aside0.mk (KeepBut.trans (by repeat (first | (with_reducible first | exact HK.out | apply zm | apply keep_drewN | apply keep_drew | apply keep_alloc) | exact HK.out)) hk (.inl rfl)); have n2_ := Aside0.mk (hb); have n3_ := Aside0.mk (hi); clear HO_3; clear HK; clear HB; clear HI0; have HO_3 := n0_; have HK := n1_; have HB := n2_; have HI0 := n3_; clear n0_ n1_ n2_ n3_; (try clear hb); (try clear hb2); (try clear hk); (try clear hi)))
     go_ret
     exact ⟨_, by first | rfl | (simp [errW_none, errW_some] <;> rfl) | (simp [*, errW_none, errW_some] <;> rfl), by (with_reducible repeat (first | apply zC | apply zB | apply zD)); exact HO_3.out, by repeat (first | (with_reducible first | exact HI0.out | apply zn | apply zo | apply zp | apply zq | apply zr | apply zt) | exact HI0.out), by repeat (first | (with_reducible first | exact HB.out | apply zd | apply zb | apply zc | refine zf ?_ (IsS69.ge HI0.out)) | exact HB.out), by repeat (first | (with_reducible first | exact HK.out | apply zm | apply keep_drewN | apply keep_drew | apply keep_alloc) | exact HK.out)⟩
   ·rw [if_neg c6] at H
    have c6b0 : decide (x1002_1 < 0) = false := zl c6
    clear c6
    simp only [Option.some.injEq, Prod.mk.injEq] at H
    obtain ⟨rfl, rfl, rfl, rfl⟩ := H
    obtain ⟨HGz18, hgz18⟩ := HI0.out
    have hcz18_0 := cellS69_0 HGz18
    have hcz18_1 := cellS69_1 HGz18
    have hcz18_2 := cellS69_2 HGz18
    have hfz18_0 := za HGz18 0
    have hfz18_1 := za HGz18 1
    have hfz18_2 := za HGz18 2
    clear HGz18 hgz18
    go_wp2
    go_ret
    exact ⟨_, by first | rfl | (simp [errW_none, errW_some] <;> rfl) | (simp [*, errW_none, errW_some] <;> rfl), by (with_reducible repeat (first | apply zC | apply zB | apply zD)); exact HO_3.out, by repeat (first | (with_reducible first | exact HI0.out | apply zn | apply zo | apply zp | apply zq | apply zr | apply zt) | exact HI0.out), by repeat (first | (with_reducible first | exact HB.out | apply zd | apply zb | apply zc | refine zf ?_ (IsS69.ge HI0.out)) | exact HB.out), by repeat (first | (with_reducible first | exact HK.out | apply zm | apply keep_drewN | apply keep_drew | apply keep_alloc) | exact HK.out)⟩
/-! ### purl_reader_qualifier: function 96 -/
mutual
def purl_reader_qualifier.j1 : Nat → Int → ByteArray → Int → Int → Option (ByteArray × ByteArray × ByteArray × Int × Int)
 | 0, _, _, _, _ => none
 | k + 1, x3, x1000, x1001, x1002 => if 0 ≤ x3 then (if x3 ≤ x1001 then (if x1001 ≤ (x1000.size : Int) then (if (x1000.extract (x3 : Int).toNat (x1001 : Int).toNat).toList = ([] : List UInt8) then (purl_reader_qualifier.j2 k (x1000.extract (x3 : Int).toNat (x1001 : Int).toNat) true x1000 x1001 x1002) else ((purl_reader_peek.f x1000 x1001 x1002).bind fun bt206 => (purl_reader_qualifier.j2 k (x1000.extract (x3 : Int).toNat (x1001 : Int).toNat) (bt206.1 != 61) bt206.2.1 bt206.2.2.1 bt206.2.2.2))) else (none)) else (none)) else (none)
def purl_reader_qualifier.j2 : Nat → ByteArray → Bool → ByteArray → Int → Int → Option (ByteArray × ByteArray × ByteArray × Int × Int)
 | 0, _, _, _, _, _ => none
 | k + 1, x4, x60, x1000, x1001, x1002 => if x60 = true then ((purl_reader_fail.f x1000 x1001 x1002 x1001).bind fun bt210 => (some ((⟨#[]⟩ : ByteArray), (⟨#[]⟩ : ByteArray), bt210.1, bt210.2.1, bt210.2.2))) else ((purl_reader_part.f k x1000 (wrap64 (x1001 + 1)) x1002).bind fun bt213 => (some (x4, bt213.1, bt213.2.1, bt213.2.2.1, bt213.2.2.2)))
def purl_reader_qualifier.l0 : Nat → Int → ByteArray → Int → Int → Option (ByteArray × ByteArray × ByteArray × Int × Int)
 | 0, _, _, _, _ => none
 | k + 1, x3, x1000, x1001, x1002 => if x1001 < (x1000.size : Int) then (if 0 ≤ x1001 then ((purl_nameByte.f (bt x1000 x1001) (x1001 == x3)).bind fun t205 => (if t205 = true then (purl_reader_qualifier.l0 k x3 x1000 (wrap64 (x1001 + 1)) x1002) else (purl_reader_qualifier.j1 k x3 x1000 x1001 x1002))) else (none)) else (purl_reader_qualifier.j1 k x3 x1000 x1001 x1002)
end
def purl_reader_qualifier.f (k : Nat) (s0_0 : ByteArray) (s0_1 : Int) (s0_2 : Int) : Option (ByteArray × ByteArray × ByteArray × Int × Int) := purl_reader_qualifier.l0 k s0_1 s0_0 s0_1 s0_2
theorem purl_reader_qualifier.mono_l : ∀ k, (∀ y0 y1 y2 y3, LeO (purl_reader_qualifier.j1 k y0 y1 y2 y3) (purl_reader_qualifier.j1 (k + 1) y0 y1 y2 y3)) ∧ (∀ y0 y1 y2 y3 y4, LeO (purl_reader_qualifier.j2 k y0 y1 y2 y3 y4) (purl_reader_qualifier.j2 (k + 1) y0 y1 y2 y3 y4)) ∧ (∀ y0 y1 y2 y3, LeO (purl_reader_qualifier.l0 k y0 y1 y2 y3) (purl_reader_qualifier.l0 (k + 1) y0 y1 y2 y3))
 | 0 => ⟨fun _ _ _ _ r h => by simp [purl_reader_qualifier.j1] at h, fun _ _ _ _ _ r h => by simp [purl_reader_qualifier.j2] at h, fun _ _ _ _ r h => by simp [purl_reader_qualifier.l0] at h⟩
 | k + 1 => by
  obtain ⟨ih0, ih1, ih2⟩ := purl_reader_qualifier.mono_l k
  refine ⟨?_, ?_, ?_⟩
  ·intro y0 y1 y2 y3
   unfold purl_reader_qualifier.j1
   repeat' first
   | (with_reducible exact ih0 _ _ _ _)
   | (with_reducible exact ih1 _ _ _ _ _)
   | (with_reducible exact ih2 _ _ _ _)
   | (with_reducible exact purl_reader_part.mono _ _ _ _)
   | (with_reducible exact LeO.refl _)
   | (with_reducible exact LeO.none _)
   | (with_reducible refine LeO.ite ?_ ?_)
   | (with_reducible refine LeO.bind ?_ (fun _ => ?_))
   | exact ih0 _ _ _ _
   | exact ih1 _ _ _ _ _
   | exact ih2 _ _ _ _
   | exact purl_reader_part.mono _ _ _ _
   | exact LeO.none _
   | refine LeO.ite ?_ ?_
   | refine LeO.bind ?_ (fun _ => ?_)
  ·intro y0 y1 y2 y3 y4
   unfold purl_reader_qualifier.j2
   repeat' first
   | (with_reducible exact ih0 _ _ _ _)
   | (with_reducible exact ih1 _ _ _ _ _)
   | (with_reducible exact ih2 _ _ _ _)
   | (with_reducible exact purl_reader_part.mono _ _ _ _)
   | (with_reducible exact LeO.refl _)
   | (with_reducible exact LeO.none _)
   | (with_reducible refine LeO.ite ?_ ?_)
   | (with_reducible refine LeO.bind ?_ (fun _ => ?_))
   | exact ih0 _ _ _ _
   | exact ih1 _ _ _ _ _
   | exact ih2 _ _ _ _
   | exact purl_reader_part.mono _ _ _ _
   | exact LeO.none _
   | refine LeO.ite ?_ ?_
   | refine LeO.bind ?_ (fun _ => ?_)
  ·intro y0 y1 y2 y3
   unfold purl_reader_qualifier.l0
   repeat' first
   | (with_reducible exact ih0 _ _ _ _)
   | (with_reducible exact ih1 _ _ _ _ _)
   | (with_reducible exact ih2 _ _ _ _)
   | (with_reducible exact purl_reader_part.mono _ _ _ _)
   | (with_reducible exact LeO.refl _)
   | (with_reducible exact LeO.none _)
   | (with_reducible refine LeO.ite ?_ ?_)
   | (with_reducible refine LeO.bind ?_ (fun _ => ?_))
   | exact ih0 _ _ _ _
   | exact ih1 _ _ _ _ _
   | exact ih2 _ _ _ _
   | exact purl_reader_part.mono _ _ _ _
   | exact LeO.none _
   | refine LeO.ite ?_ ?_
   | refine LeO.bind ?_ (fun _ => ?_)
theorem purl_reader_qualifier.mono : ∀ a0 a1 a2 k, LeO (purl_reader_qualifier.f k a0 a1 a2) (purl_reader_qualifier.f (k + 1) a0 a1 a2) := by
 intro a0 a1 a2 k
 obtain ⟨ih0, ih1, ih2⟩ := purl_reader_qualifier.mono_l k
 unfold purl_reader_qualifier.f
 repeat' first
   | (with_reducible exact ih0 _ _ _ _)
   | (with_reducible exact ih1 _ _ _ _ _)
   | (with_reducible exact ih2 _ _ _ _)
   | (with_reducible exact purl_reader_part.mono _ _ _ _)
   | (with_reducible exact LeO.refl _)
   | (with_reducible exact LeO.none _)
   | (with_reducible refine LeO.ite ?_ ?_)
   | (with_reducible refine LeO.bind ?_ (fun _ => ?_))
   | exact ih0 _ _ _ _
   | exact ih1 _ _ _ _ _
   | exact ih2 _ _ _ _
   | exact purl_reader_part.mono _ _ _ _
   | exact LeO.none _
   | refine LeO.ite ?_ ?_
   | refine LeO.bind ?_ (fun _ => ?_)
end Go.Proofs.YtmnfjbmhlabdaaaDoor.Pr
