-- Written by a program of the session (wip/pr.py) out of the translation; Lean checks it.
import Derived.Test.YtmnfjbmhlabdaaaDoorDXa
import Derived.Test.YtmnfjbmhlabdaaaDoorDEo
import Derived.Test.YtmnfjbmhlabdaaaDoorDPrx0
import Derived.Test.YtmnfjbmhlabdaaaDoorDPrx10
namespace Go.Proofs.YtmnfjbmhlabdaaaDoor.Pr
open Go.RowKit Go.Proofs.YtmnfjbmhlabdaaaDoorW.PrintWords Go.Proofs.YtmnfjbmhlabdaaaDoorW.PrintLast Go.Proofs.YtmnfjbmhlabdaaaDoorW.PrintMore
attribute [local go_sem] max2_int min2_int max_two min_two max_three min_three max_four min_four
set_option linter.unusedVariables false
set_option linter.unusedSimpArgs false
def l2_told.f (k : Nat)  : Option (Bool) := (purl_Read.f k (⟨#[80, 75, 71, 58, 83, 116, 97, 103, 101, 100, 47, 77, 121, 95, 95, 84, 111, 111, 108, 46, 88, 64, 49, 46, 48]⟩ : ByteArray)).bind fun bt174 => ((purl_Print.f k bt174.1 bt174.2.1 bt174.2.2.1 bt174.2.2.2.1 bt174.2.2.2.2.1 bt174.2.2.2.2.2.1).bind fun bt185 => (if bt174.2.2.2.2.2.2.1 = 0 then (if bt174.2.2.2.2.2.2.2 = 0 then (if bt185.2 = 0 then (some (bt185.1.toList == ([112, 107, 103, 58, 115, 116, 97, 103, 101, 100, 47, 109, 121, 45, 116, 111, 111, 108, 45, 120, 64, 49, 46, 48] : List UInt8))) else (none)) else (none)) else (none)))
theorem l2_told.mono : ∀ k, LeO (l2_told.f k ) (l2_told.f (k + 1) ) := by
 intro  k
 unfold l2_told.f
 repeat' first
   | (with_reducible exact ya _)
   | (with_reducible exact yb _)
   | (with_reducible refine zZ ?_ ?_)
   | (with_reducible refine zY ?_ (fun _ => ?_))
   | exact purl_Print.mono _ _ _ _ _ _ _
   | exact purl_Read.mono _ _
   | exact yb _
   | refine zZ ?_ ?_
   | refine zY ?_ (fun _ => ?_)
set_option maxHeartbeats 8000000 in
set_option maxRecDepth 100000 in
theorem l2_told.calls (k : Nat)  (r : Bool) (w : World) (h : l2_told.f k  = some r) :
  Calls Tryd.prog 13 #[] w fun e w' => e = .returned (.bool r) ∧ Below w.heap.size w w' := by
 have hu24 := Tryd.underlying24
 have HB := Aq.mk (Below.refl w.heap.size w)
 have H : ((purl_Read.f k (⟨#[80, 75, 71, 58, 83, 116, 97, 103, 101, 100, 47, 77, 121, 95, 95, 84, 111, 111, 108, 46, 88, 64, 49, 46, 48]⟩ : ByteArray)).bind fun bt174 => ((purl_Print.f k bt174.1 bt174.2.1 bt174.2.2.1 bt174.2.2.2.1 bt174.2.2.2.2.1 bt174.2.2.2.2.2.1).bind fun bt185 => (if bt174.2.2.2.2.2.2.1 = 0 then (if bt174.2.2.2.2.2.2.2 = 0 then (if bt185.2 = 0 then (some (bt185.1.toList == ([112, 107, 103, 58, 115, 116, 97, 103, 101, 100, 47, 109, 121, 45, 116, 111, 111, 108, 45, 120, 64, 49, 46, 48] : List UInt8))) else (none)) else (none)) else (none)))) = some r := h
 clear h
 replace H := zu.mp H
 obtain ⟨⟨t174, t175, t176, t177, t178, t181, t182, t183⟩, A10, H⟩ := H
 replace H : ((purl_Print.f k t174 t175 t176 t177 t178 t181).bind fun bt185 => (if t182 = 0 then (if t183 = 0 then (if bt185.2 = 0 then (some (bt185.1.toList == ([112, 107, 103, 58, 115, 116, 97, 103, 101, 100, 47, 109, 121, 45, 116, 111, 111, 108, 45, 120, 64, 49, 46, 48] : List UInt8))) else (none)) else (none)) else (none))) = some r := H
 have A1 := Aq.mk A10
 clear A10
 replace H := zu.mp H
 obtain ⟨⟨t185, t186⟩, A20, H⟩ := H
 replace H : (if t182 = 0 then (if t183 = 0 then (if t186 = 0 then (some (t185.toList == ([112, 107, 103, 58, 115, 116, 97, 103, 101, 100, 47, 109, 121, 45, 116, 111, 111, 108, 45, 120, 64, 49, 46, 48] : List UInt8))) else (none)) else (none)) else (none)) = some r := H
 have A2 := Aq.mk A20
 clear A20
 by_cases c3 : t182 = 0
 ·rw [if_pos c3] at H
  have c3b0 : (t182 == 0) = true := yc.mpr c3
  have c3b1 : (t182 != 0) = false := yf.mpr c3
  clear c3
  by_cases c4 : t183 = 0
  ·rw [if_pos c4] at H
   have c4b0 : (t183 == 0) = true := yc.mpr c4
   have c4b1 : (t183 != 0) = false := yf.mpr c4
   clear c4
   by_cases c5 : t186 = 0
   ·rw [if_pos c5] at H
    have c5b0 : (t186 == 0) = true := yc.mpr c5
    have c5b1 : (t186 != 0) = false := yf.mpr c5
    clear c5
    obtain rfl := yg H
    simp only [zH, zI] at H
    obtain ⟨rfl⟩ := H
    go_enter Tryd.func13, Tryd.ntmps13
    go_wp2_with (first | ((with_reducible refine gate_callee (f := 11) rfl ?_); refine goesL_ (some 7) rfl rfl Tryd.func11 (by kernel_rfl) rfl #[.string (⟨#[80, 75, 71, 58, 83, 116, 97, 103, 101, 100, 47, 77, 121, 95, 95, 84, 111, 111, 108, 46, 88, 64, 49, 46, 48]⟩ : ByteArray)] rfl (by (try simp only [zP, zQ, zR]); first | done | rfl | (simp only [zS, zT]; rfl)) ?_; (with_reducible refine (purl_Read.calls k (⟨#[80, 75, 71, 58, 83, 116, 97, 103, 101, 100, 47, 77, 121, 95, 95, 84, 111, 111, 108, 46, 88, 64, 49, 46, 48]⟩ : ByteArray) t174 t175 t176 t177 t178 t181 t182 t183 _ A1.out).mono ?_); rintro e w6 ⟨v179, rfl, ho0, hb⟩; refine ⟨_, rfl, ?_⟩; have n0_ := Aq.mk (zX ho0 (zz (by repeat (with_reducible first | exact HB.out | apply zd | apply zb | apply zc)))); have n1_ := Aq.mk (zv (by repeat (with_reducible first | exact HB.out | apply zd | apply zb | apply zc)) hb); clear HB; have HO180 := n0_; have HB := n1_; clear n0_ n1_; (try clear hb); (try clear hb2); (try clear hk); (try clear hi); (try clear ho0)) | ((with_reducible refine gate_dst (N := 1) rfl ?_); refine box_event ?hg (N := 1) ?hd (cs := #[.string (⟨#[]⟩ : ByteArray), .string (⟨#[]⟩ : ByteArray), .string (⟨#[]⟩ : ByteArray), .string (⟨#[]⟩ : ByteArray), .slice none 0 0, .string (⟨#[]⟩ : ByteArray)]) (t := 24) ?hr ?_; (case hd => rfl); (case hg => rfl); (case hr => first | (go_simp; done) | (go_simp; rfl)); intro gb184 hg w7 hbox hb; have n0_ := Aq.mk (yj (by (with_reducible repeat (first | apply zC | apply zB | apply zD)); exact HO180.out) hb); have n1_ := Aq.mk (zv (by repeat (with_reducible first | exact HB.out | apply zd | apply zb | apply zc)) hb); have n2_ := Aq.mk (hbox); have n3_ := Aq.mk ((by rw [hg]; exact (zz (by repeat (with_reducible first | exact HB.out | apply zd | apply zb | apply zc))) : w.heap.size ≤ gb184)); have n4_ := Aq.mk ((by rw [hg]; exact (zz (by repeat (with_reducible first | exact HB.out | apply zd | apply zb | apply zc))) : w.heap.size ≤ gb184)); clear HO180; clear HB; have HO180 := n0_; have HB := n1_; have BK184 := n2_; have GW184 := n3_; have GE184 := n4_; clear n0_ n1_ n2_ n3_ n4_; clear hb hbox hg; have hcz8_0 : w7.cell? ⟨gb184, 0, none⟩ = some (.string (⟨#[]⟩ : ByteArray)) := (ze BK184.out 0).trans rfl; have hcz8_1 : w7.cell? ⟨gb184, 1, none⟩ = some (.string (⟨#[]⟩ : ByteArray)) := (ze BK184.out 1).trans rfl; have hcz8_2 : w7.cell? ⟨gb184, 2, none⟩ = some (.string (⟨#[]⟩ : ByteArray)) := (ze BK184.out 2).trans rfl; have hcz8_3 : w7.cell? ⟨gb184, 3, none⟩ = some (.string (⟨#[]⟩ : ByteArray)) := (ze BK184.out 3).trans rfl; have hcz8_4 : w7.cell? ⟨gb184, 4, none⟩ = some (.slice none 0 0) := (ze BK184.out 4).trans rfl; have hcz8_5 : w7.cell? ⟨gb184, 5, none⟩ = some (.string (⟨#[]⟩ : ByteArray)) := (ze BK184.out 5).trans rfl; have hfz8_0 := za BK184.out 0; have hfz8_1 := za BK184.out 1; have hfz8_2 := za BK184.out 2; have hfz8_3 := za BK184.out 3; have hfz8_4 := za BK184.out 4; have hfz8_5 := za BK184.out 5; obtain ⟨Ao9, co9, eo9⟩ := yi HO180.out; subst eo9) | ((with_reducible refine gate_callee (f := 14) rfl ?_); refine goesL_ (some 13) rfl rfl Tryd.func14 (by kernel_rfl) rfl #[.agg #[.string t174, .string t175, .string t176, .string t177, .slice Ao9 t178.length co9, .string t181]] rfl (by (try simp only [zP, zQ, zR]); first | done | rfl | (simp only [zS, zT]; rfl)) ?_; (with_reducible refine (purl_Print.calls k t174 t175 t176 t177 _ _ t178 t181 t185 t186 _ ?side1 ?side2 A2.out).mono ?_); (case side1 => refine (Kd.R_reads' (e := 64) (base := w.heap.size) (ok := fun k_ => True) (n := t178.length) (c := co9) ?_).2.2; exact (by (with_reducible repeat (first | apply zC | apply zB | apply zD)); exact (Kd.R_mono (Kd.R_far (p := ⟨gb184, 5, none⟩) (Kd.R_far (p := ⟨gb184, 4, none⟩) (Kd.R_far (p := ⟨gb184, 3, none⟩) (Kd.R_far (p := ⟨gb184, 2, none⟩) (Kd.R_far (p := ⟨gb184, 1, none⟩) (Kd.R_far (p := ⟨gb184, 0, none⟩) (Kd.R_types HO180.out BK184.out (by decide)) (fun _ hk => hk.2) (.string t174)) (fun _ hk => hk.2) (.string t175)) (fun _ hk => hk.2) (.string t176)) (fun _ hk => hk.2) (.string t177)) (fun _ hk => hk.2) (.slice Ao9 t178.length co9)) (fun _ hk => hk.2) (.string t181)) (fun _ h_ => h_.1)))); (case side2 => exact (Kd.R_reads' HO180.out).2.1); rintro e w10 ⟨rfl, hb⟩; refine ⟨_, rfl, ?_⟩; have n0_ := Aq.mk (yj (by (with_reducible repeat (first | apply zC | apply zB | apply zD)); exact (Kd.R_mono (Kd.R_far (p := ⟨gb184, 5, none⟩) (Kd.R_far (p := ⟨gb184, 4, none⟩) (Kd.R_far (p := ⟨gb184, 3, none⟩) (Kd.R_far (p := ⟨gb184, 2, none⟩) (Kd.R_far (p := ⟨gb184, 1, none⟩) (Kd.R_far (p := ⟨gb184, 0, none⟩) (Kd.R_types HO180.out BK184.out (by decide)) (fun _ hk => hk.2) (.string t174)) (fun _ hk => hk.2) (.string t175)) (fun _ hk => hk.2) (.string t176)) (fun _ hk => hk.2) (.string t177)) (fun _ hk => hk.2) (.slice Ao9 t178.length co9)) (fun _ hk => hk.2) (.string t181)) (fun _ h_ => h_.1))) hb); have n1_ := Aq.mk (zw (g := gb184) (o := .cells #[.string t174, .string t175, .string t176, .string t177, .slice Ao9 t178.length co9, .string t181] 24 (0, 0)) (by (with_reducible repeat (first | refine zg ?_ _ | refine zi ?_ | refine zh ?_ _)); refine zy (cs := #[.string t174, .string t175, .string t176, .string t177, .slice Ao9 t178.length co9, .string (⟨#[]⟩ : ByteArray)]) ?_ 5 _ rfl; (with_reducible repeat (first | refine zg ?_ _ | refine zi ?_ | refine zh ?_ _)); refine zy (cs := #[.string t174, .string t175, .string t176, .string t177, .slice none 0 0, .string (⟨#[]⟩ : ByteArray)]) ?_ 4 _ rfl; (with_reducible repeat (first | refine zg ?_ _ | refine zi ?_ | refine zh ?_ _)); refine zy (cs := #[.string t174, .string t175, .string t176, .string (⟨#[]⟩ : ByteArray), .slice none 0 0, .string (⟨#[]⟩ : ByteArray)]) ?_ 3 _ rfl; (with_reducible repeat (first | refine zg ?_ _ | refine zi ?_ | refine zh ?_ _)); refine zy (cs := #[.string t174, .string t175, .string (⟨#[]⟩ : ByteArray), .string (⟨#[]⟩ : ByteArray), .slice none 0 0, .string (⟨#[]⟩ : ByteArray)]) ?_ 2 _ rfl; (with_reducible repeat (first | refine zg ?_ _ | refine zi ?_ | refine zh ?_ _)); refine zy (cs := #[.string t174, .string (⟨#[]⟩ : ByteArray), .string (⟨#[]⟩ : ByteArray), .string (⟨#[]⟩ : ByteArray), .slice none 0 0, .string (⟨#[]⟩ : ByteArray)]) ?_ 1 _ rfl; (with_reducible repeat (first | refine zg ?_ _ | refine zi ?_ | refine zh ?_ _)); refine zy (cs := #[.string (⟨#[]⟩ : ByteArray), .string (⟨#[]⟩ : ByteArray), .string (⟨#[]⟩ : ByteArray), .string (⟨#[]⟩ : ByteArray), .slice none 0 0, .string (⟨#[]⟩ : ByteArray)]) ?_ 0 _ rfl; (with_reducible repeat (first | refine zg ?_ _ | refine zi ?_ | refine zh ?_ _)); exact BK184.out) hb); have n2_ := Aq.mk (zv (by repeat (with_reducible first | exact HB.out | apply zd | apply zb | apply zc | refine zf ?_ GE184.out)) hb); clear HO180; clear BK184; clear HB; have HO180 := n0_; have BK184 := n1_; have HB := n2_; clear n0_ n1_ n2_; (try clear hb); (try clear hb2); (try clear hk); (try clear hi)))
    go_ret
    exact ⟨by first | rfl | (simp [yl, ym] <;> rfl) | (simp [*, yl, ym] <;> rfl), by repeat (with_reducible first | exact HB.out | apply zd | apply zb | apply zc | refine zf ?_ GE184.out)⟩
   ·rw [if_neg c5] at H
    exact absurd H (by simp)
  ·rw [if_neg c4] at H
   exact absurd H (by simp)
 ·rw [if_neg c3] at H
  exact absurd H (by simp)
end Go.Proofs.YtmnfjbmhlabdaaaDoor.Pr
