-- Written by a program of the session (wip/pr.py) out of the translation; Lean checks it.
import Derived.Test.YtmnfjbmhlabdaaaDoorDXa
import Derived.Test.YtmnfjbmhlabdaaaDoorDEf
import Derived.Test.YtmnfjbmhlabdaaaDoorDPk0
import Derived.Test.YtmnfjbmhlabdaaaDoorDPk8
import Derived.Test.YtmnfjbmhlabdaaaDoorDPl0
import Derived.Test.YtmnfjbmhlabdaaaDoorDPl6
import Derived.Test.YtmnfjbmhlabdaaaDoorDPl7
import Derived.Test.YtmnfjbmhlabdaaaDoorDPl8
import Derived.Test.YtmnfjbmhlabdaaaDoorDPl9
import Derived.Test.YtmnfjbmhlabdaaaDoorDPrx0
namespace Go.Proofs.YtmnfjbmhlabdaaaDoor.Pr
open Go.RowKit Go.Proofs.YtmnfjbmhlabdaaaDoorW.PrintWords Go.Proofs.YtmnfjbmhlabdaaaDoorW.PrintLast Go.Proofs.YtmnfjbmhlabdaaaDoorW.PrintMore
attribute [local go_sem] max2_int min2_int max_two min_two max_three min_three max_four min_four   -- for this text's walks alone
set_option linter.unusedVariables false
set_option linter.unusedSimpArgs false
def provenderlaw2_PurlDigestsMatchSpec.f (k : Nat) (a0 : ByteArray) (l1 : List (S108)) (l2 : List (S108)) : Option (Bool) := (provenderref2_Agree.f k l1 l2).bind fun bt214 => ((purl_Agree.f k l1 l2).bind fun bt216 => ((purl_Agree.f k l2 l1).bind fun bt218 => ((provenderref2_Sum64.f k a0).bind fun t220 => ((purl_Sum64.f a0).bind fun t221 => (if t220.toList = t221.toList then ((provenderref2_CheckDigests.f k l1).bind fun t222 => ((purl_CheckDigests.f k l1).bind fun t223 => (if t222 = t223 then (if bt216.1 = bt214.1 then (if bt216.2 = bt214.2 then (if bt216.2 = 0 then (if bt218.1 = bt216.1 then (if bt218.2 = 0 then ((provenderlaw2_told.f k).bind fun t224 => (some t224)) else (some false)) else (some false)) else ((provenderlaw2_told.f k).bind fun t225 => (some t225))) else (some false)) else (some false)) else (some false)))) else (some false))))))
set_option maxHeartbeats 8000000 in
set_option maxRecDepth 100000 in
theorem provenderlaw2_PurlDigestsMatchSpec.calls (k : Nat) (a0 : ByteArray) (A1 : Option Addr) (c1 : Nat) (l1 : List (S108)) (A2 : Option Addr) (c2 : Nat) (l2 : List (S108)) (r : Bool) (w : World) (hL : LaidW w) (hr1 : Kd.C k108 w A1 l1.length l1) (hc1 : l1.length ≤ c1) (hr2 : Kd.C k108 w A2 l2.length l2) (hc2 : l2.length ≤ c2) (h : provenderlaw2_PurlDigestsMatchSpec.f k a0 l1 l2 = some r) (hrt : Aside0 (r = true)) :
  Calls Tryd.prog 9 #[.string a0, .slice A1 l1.length c1, .slice A2 l2.length c2] w fun e w' => e = .returned (.bool r) ∧ Below w.heap.size w w' := by
 have HLd := Aside0.mk hL
 clear hL
 have HR1 := Aside0.mk hr1
 have HC1 := Aside0.mk hc1
 clear hr1 hc1
 have HR2 := Aside0.mk hr2
 have HC2 := Aside0.mk hc2
 clear hr2 hc2
 have HB := Aside0.mk (Below.refl w.heap.size w)
 have H : ((provenderref2_Agree.f k l1 l2).bind fun bt214 => ((purl_Agree.f k l1 l2).bind fun bt216 => ((purl_Agree.f k l2 l1).bind fun bt218 => ((provenderref2_Sum64.f k a0).bind fun t220 => ((purl_Sum64.f a0).bind fun t221 => (if t220.toList = t221.toList then ((provenderref2_CheckDigests.f k l1).bind fun t222 => ((purl_CheckDigests.f k l1).bind fun t223 => (if t222 = t223 then (if bt216.1 = bt214.1 then (if bt216.2 = bt214.2 then (if bt216.2 = 0 then (if bt218.1 = bt216.1 then (if bt218.2 = 0 then ((provenderlaw2_told.f k).bind fun t224 => (some t224)) else (some false)) else (some false)) else ((provenderlaw2_told.f k).bind fun t225 => (some t225))) else (some false)) else (some false)) else (some false)))) else (some false))))))) = some r := h
 clear h
 replace H := zu.mp H
 obtain ⟨⟨t214, t215⟩, A40, H⟩ := H
 replace H : ((purl_Agree.f k l1 l2).bind fun bt216 => ((purl_Agree.f k l2 l1).bind fun bt218 => ((provenderref2_Sum64.f k a0).bind fun t220 => ((purl_Sum64.f a0).bind fun t221 => (if t220.toList = t221.toList then ((provenderref2_CheckDigests.f k l1).bind fun t222 => ((purl_CheckDigests.f k l1).bind fun t223 => (if t222 = t223 then (if bt216.1 = t214 then (if bt216.2 = t215 then (if bt216.2 = 0 then (if bt218.1 = bt216.1 then (if bt218.2 = 0 then ((provenderlaw2_told.f k).bind fun t224 => (some t224)) else (some false)) else (some false)) else ((provenderlaw2_told.f k).bind fun t225 => (some t225))) else (some false)) else (some false)) else (some false)))) else (some false)))))) = some r := H
 have A4 := Aside0.mk A40
 clear A40
 replace H := zu.mp H
 obtain ⟨⟨t216, t217⟩, A50, H⟩ := H
 replace H : ((purl_Agree.f k l2 l1).bind fun bt218 => ((provenderref2_Sum64.f k a0).bind fun t220 => ((purl_Sum64.f a0).bind fun t221 => (if t220.toList = t221.toList then ((provenderref2_CheckDigests.f k l1).bind fun t222 => ((purl_CheckDigests.f k l1).bind fun t223 => (if t222 = t223 then (if t216 = t214 then (if t217 = t215 then (if t217 = 0 then (if bt218.1 = t216 then (if bt218.2 = 0 then ((provenderlaw2_told.f k).bind fun t224 => (some t224)) else (some false)) else (some false)) else ((provenderlaw2_told.f k).bind fun t225 => (some t225))) else (some false)) else (some false)) else (some false)))) else (some false))))) = some r := H
 have A5 := Aside0.mk A50
 clear A50
 replace H := zu.mp H
 obtain ⟨⟨t218, t219⟩, A60, H⟩ := H
 replace H : ((provenderref2_Sum64.f k a0).bind fun t220 => ((purl_Sum64.f a0).bind fun t221 => (if t220.toList = t221.toList then ((provenderref2_CheckDigests.f k l1).bind fun t222 => ((purl_CheckDigests.f k l1).bind fun t223 => (if t222 = t223 then (if t216 = t214 then (if t217 = t215 then (if t217 = 0 then (if t218 = t216 then (if t219 = 0 then ((provenderlaw2_told.f k).bind fun t224 => (some t224)) else (some false)) else (some false)) else ((provenderlaw2_told.f k).bind fun t225 => (some t225))) else (some false)) else (some false)) else (some false)))) else (some false)))) = some r := H
 have A6 := Aside0.mk A60
 clear A60
 replace H := zu.mp H
 obtain ⟨t220, A70, H⟩ := H
 replace H : ((purl_Sum64.f a0).bind fun t221 => (if t220.toList = t221.toList then ((provenderref2_CheckDigests.f k l1).bind fun t222 => ((purl_CheckDigests.f k l1).bind fun t223 => (if t222 = t223 then (if t216 = t214 then (if t217 = t215 then (if t217 = 0 then (if t218 = t216 then (if t219 = 0 then ((provenderlaw2_told.f k).bind fun t224 => (some t224)) else (some false)) else (some false)) else ((provenderlaw2_told.f k).bind fun t225 => (some t225))) else (some false)) else (some false)) else (some false)))) else (some false))) = some r := H
 have A7 := Aside0.mk A70
 clear A70
 replace H := zu.mp H
 obtain ⟨t221, A80, H⟩ := H
 replace H : (if t220.toList = t221.toList then ((provenderref2_CheckDigests.f k l1).bind fun t222 => ((purl_CheckDigests.f k l1).bind fun t223 => (if t222 = t223 then (if t216 = t214 then (if t217 = t215 then (if t217 = 0 then (if t218 = t216 then (if t219 = 0 then ((provenderlaw2_told.f k).bind fun t224 => (some t224)) else (some false)) else (some false)) else ((provenderlaw2_told.f k).bind fun t225 => (some t225))) else (some false)) else (some false)) else (some false)))) else (some false)) = some r := H
 have A8 := Aside0.mk A80
 clear A80
 by_cases c9 : t220.toList = t221.toList
 ·rw [if_pos c9] at H
  have c9b0 : (t220.toList == t221.toList) = true := beq_iff_eq.mpr c9
  have c9b1 : (t220.toList != t221.toList) = false := bne_eq_false_iff_eq.mpr c9
  clear c9
  replace H := zu.mp H
  obtain ⟨t222, A100, H⟩ := H
  replace H : ((purl_CheckDigests.f k l1).bind fun t223 => (if t222 = t223 then (if t216 = t214 then (if t217 = t215 then (if t217 = 0 then (if t218 = t216 then (if t219 = 0 then ((provenderlaw2_told.f k).bind fun t224 => (some t224)) else (some false)) else (some false)) else ((provenderlaw2_told.f k).bind fun t225 => (some t225))) else (some false)) else (some false)) else (some false))) = some r := H
  have A10 := Aside0.mk A100
  clear A100
  replace H := zu.mp H
  obtain ⟨t223, A110, H⟩ := H
  replace H : (if t222 = t223 then (if t216 = t214 then (if t217 = t215 then (if t217 = 0 then (if t218 = t216 then (if t219 = 0 then ((provenderlaw2_told.f k).bind fun t224 => (some t224)) else (some false)) else (some false)) else ((provenderlaw2_told.f k).bind fun t225 => (some t225))) else (some false)) else (some false)) else (some false)) = some r := H
  have A11 := Aside0.mk A110
  clear A110
  by_cases c12 : t222 = t223
  ·rw [if_pos c12] at H
   have c12b0 : (t222 == t223) = true := beq_iff_eq.mpr c12
   have c12b1 : (t222 != t223) = false := bne_eq_false_iff_eq.mpr c12
   clear c12
   by_cases c13 : t216 = t214
   ·rw [if_pos c13] at H
    have c13b0 : (t216 == t214) = true := beq_iff_eq.mpr c13
    have c13b1 : (t216 != t214) = false := bne_eq_false_iff_eq.mpr c13
    clear c13
    by_cases c14 : t217 = t215
    ·rw [if_pos c14] at H
     have c14b0 : (t217 == t215) = true := beq_iff_eq.mpr c14
     have c14b1 : (t217 != t215) = false := bne_eq_false_iff_eq.mpr c14
     clear c14
     by_cases c15 : t217 = 0
     ·rw [if_pos c15] at H
      have c15b0 : (t217 == 0) = true := beq_iff_eq.mpr c15
      have c15b1 : (t217 != 0) = false := bne_eq_false_iff_eq.mpr c15
      clear c15
      by_cases c16 : t218 = t216
      ·rw [if_pos c16] at H
       have c16b0 : (t218 == t216) = true := beq_iff_eq.mpr c16
       have c16b1 : (t218 != t216) = false := bne_eq_false_iff_eq.mpr c16
       clear c16
       by_cases c17 : t219 = 0
       ·rw [if_pos c17] at H
        have c17b0 : (t219 == 0) = true := beq_iff_eq.mpr c17
        have c17b1 : (t219 != 0) = false := bne_eq_false_iff_eq.mpr c17
        clear c17
        replace H := zu.mp H
        obtain ⟨t224, A180, H⟩ := H
        replace H : (some t224) = some r := H
        have A18 := Aside0.mk A180
        clear A180
        obtain rfl := Option.some.inj H
        simp only [Option.some.injEq, Prod.mk.injEq] at H
        obtain ⟨rfl⟩ := H
        go_enter Tryd.func9, Tryd.ntmps9
        go_wp2_with (first | ((with_reducible refine gate_callee (f := 32) rfl ?_); refine goesL_ (some 16) rfl rfl Tryd.func32 (by kernel_rfl) rfl #[.slice A1 l1.length c1, .slice A2 l2.length c2] rfl (by (try simp only [List.map_toArray, List.map_cons, List.map_nil]); first | done | rfl | (simp only [List.length_drop, List.length_take]; rfl)) ?_; (with_reducible refine (provenderref2_Agree.calls k (fun k_ => k_ < w.heap.size) _ _ l1 (fun k_ => k_ < w.heap.size) _ _ l2 t214 t215 _ ?side1 ?side2 A4.out).mono ?_); (case side1 => exact Kd.V_mk HC1.out (Kd.F_below (Kd.C_F k108_heap HR1.out) (by repeat (first | (with_reducible first | exact HB.out | apply zd | apply zb | apply zc) | exact HB.out)))); (case side2 => exact Kd.V_mk HC2.out (Kd.F_below (Kd.C_F k108_heap HR2.out) (by repeat (first | (with_reducible first | exact HB.out | apply zd | apply zb | apply zc) | exact HB.out)))); rintro e w19 ⟨rfl, hb⟩; refine ⟨_, rfl, ?_⟩; have n0_ := Aside0.mk (zv (by repeat (first | (with_reducible first | exact HB.out | apply zd | apply zb | apply zc) | exact HB.out)) hb); clear HB; have HB := n0_; clear n0_; (try clear hb); (try clear hb2); (try clear hk); (try clear hi)) | ((with_reducible refine gate_callee (f := 33) rfl ?_); refine goesL_ (some 22) rfl rfl Tryd.func33 (by kernel_rfl) rfl #[.slice A1 l1.length c1, .slice A2 l2.length c2] rfl (by (try simp only [List.map_toArray, List.map_cons, List.map_nil]); first | done | rfl | (simp only [List.length_drop, List.length_take]; rfl)) ?_; (with_reducible refine (purl_Agree.calls k _ _ l1 _ _ l2 t216 t217 _ ?side1 ?side2 ?side3 ?side4 A5.out).mono ?_); (case side1 => repeat (first | exact (Kd.C_below HR1.out HB.out) | (with_reducible refine zF ?_ _) | (with_reducible refine zE ?_ _) | (with_reducible refine zG ?_))); (case side2 => exact HC1.out); (case side3 => repeat (first | exact (Kd.C_below HR2.out HB.out) | (with_reducible refine zF ?_ _) | (with_reducible refine zE ?_ _) | (with_reducible refine zG ?_))); (case side4 => exact HC2.out); rintro e w20 ⟨rfl, hb⟩; refine ⟨_, rfl, ?_⟩; have n0_ := Aside0.mk (zv (by repeat (first | (with_reducible first | exact HB.out | apply zd | apply zb | apply zc) | exact HB.out)) hb); clear HB; have HB := n0_; clear n0_; (try clear hb); (try clear hb2); (try clear hk); (try clear hi)) | ((with_reducible refine gate_callee (f := 33) rfl ?_); refine goesL_ (some 28) rfl rfl Tryd.func33 (by kernel_rfl) rfl #[.slice A2 l2.length c2, .slice A1 l1.length c1] rfl (by (try simp only [List.map_toArray, List.map_cons, List.map_nil]); first | done | rfl | (simp only [List.length_drop, List.length_take]; rfl)) ?_; (with_reducible refine (purl_Agree.calls k _ _ l2 _ _ l1 t218 t219 _ ?side1 ?side2 ?side3 ?side4 A6.out).mono ?_); (case side1 => repeat (first | exact (Kd.C_below HR2.out HB.out) | (with_reducible refine zF ?_ _) | (with_reducible refine zE ?_ _) | (with_reducible refine zG ?_))); (case side2 => exact HC2.out); (case side3 => repeat (first | exact (Kd.C_below HR1.out HB.out) | (with_reducible refine zF ?_ _) | (with_reducible refine zE ?_ _) | (with_reducible refine zG ?_))); (case side4 => exact HC1.out); rintro e w21 ⟨rfl, hb⟩; refine ⟨_, rfl, ?_⟩; have n0_ := Aside0.mk (zv (by repeat (first | (with_reducible first | exact HB.out | apply zd | apply zb | apply zc) | exact HB.out)) hb); clear HB; have HB := n0_; clear n0_; (try clear hb); (try clear hb2); (try clear hk); (try clear hi)) | ((with_reducible refine gate_callee (f := 34) rfl ?_); refine goesL_ (some 32) rfl rfl Tryd.func34 (by kernel_rfl) rfl #[.string a0] rfl (by (try simp only [List.map_toArray, List.map_cons, List.map_nil]); first | done | rfl | (simp only [List.length_drop, List.length_take]; rfl)) ?_; (with_reducible refine (provenderref2_Sum64.calls k a0 t220 _ A7.out).mono ?_); rintro e w22 ⟨rfl, hb⟩; refine ⟨_, rfl, ?_⟩; have n0_ := Aside0.mk (zv (by repeat (first | (with_reducible first | exact HB.out | apply zd | apply zb | apply zc) | exact HB.out)) hb); clear HB; have HB := n0_; clear n0_; (try clear hb); (try clear hb2); (try clear hk); (try clear hi)) | ((with_reducible refine gate_callee (f := 35) rfl ?_); refine goesL_ (some 34) rfl rfl Tryd.func35 (by kernel_rfl) rfl #[.string a0] rfl (by (try simp only [List.map_toArray, List.map_cons, List.map_nil]); first | done | rfl | (simp only [List.length_drop, List.length_take]; rfl)) ?_; (with_reducible refine (purl_Sum64.calls a0 t221 _ (HLd.out.below (by repeat (first | (with_reducible first | exact HB.out | apply zd | apply zb | apply zc) | exact HB.out))) A8.out).mono ?_); rintro e w23 ⟨rfl, hb⟩; refine ⟨_, rfl, ?_⟩; have n0_ := Aside0.mk (zv (by repeat (first | (with_reducible first | exact HB.out | apply zd | apply zb | apply zc) | exact HB.out)) hb); clear HB; have HB := n0_; clear n0_; (try clear hb); (try clear hb2); (try clear hk); (try clear hi)) | (go_at_call 36; (with_reducible refine (provenderref2_CheckDigests.calls k _ _ l1 t222 _ ?side1 ?side2 A10.out).mono ?_); (case side1 => repeat (first | exact (Kd.C_below HR1.out HB.out) | (with_reducible refine zF ?_ _) | (with_reducible refine zE ?_ _) | (with_reducible refine zG ?_))); (case side2 => exact HC1.out); rintro e w24 ⟨rfl, hb⟩; have n0_ := Aside0.mk (zv (by repeat (first | (with_reducible first | exact HB.out | apply zd | apply zb | apply zc) | exact HB.out)) hb); clear HB; have HB := n0_; clear n0_; (try clear hb); (try clear hb2); (try clear hk); (try clear hi)) | (go_at_call 37; (with_reducible refine (purl_CheckDigests.calls k _ _ l1 t223 _ ?side1 ?side2 A11.out).mono ?_); (case side1 => repeat (first | exact (Kd.C_below HR1.out HB.out) | (with_reducible refine zF ?_ _) | (with_reducible refine zE ?_ _) | (with_reducible refine zG ?_))); (case side2 => exact HC1.out); rintro e w25 ⟨rfl, hb⟩; have n0_ := Aside0.mk (zv (by repeat (first | (with_reducible first | exact HB.out | apply zd | apply zb | apply zc) | exact HB.out)) hb); clear HB; have HB := n0_; clear n0_; (try clear hb); (try clear hb2); (try clear hk); (try clear hi)) | (go_at_call 13; (with_reducible refine (provenderlaw2_told.calls k  t224 _ A18.out).mono ?_); rintro e w26 ⟨rfl, hb⟩; have n0_ := Aside0.mk (zv (by repeat (first | (with_reducible first | exact HB.out | apply zd | apply zb | apply zc) | exact HB.out)) hb); clear HB; have HB := n0_; clear n0_; (try clear hb); (try clear hb2); (try clear hk); (try clear hi)))
        go_ret
        exact ⟨by first | rfl | (simp [errW_none, errW_some] <;> rfl) | (simp [*, errW_none, errW_some] <;> rfl), by repeat (first | (with_reducible first | exact HB.out | apply zd | apply zb | apply zc) | exact HB.out)⟩
       ·rw [if_neg c17] at H
        have c17b0 : (t219 == 0) = false := beq_eq_false_iff_ne.mpr c17
        have c17b1 : (t219 != 0) = true := bne_iff_ne.mpr c17
        obtain rfl := Option.some.inj H
        exact absurd hrt.out (by decide)
      ·rw [if_neg c16] at H
       have c16b0 : (t218 == t216) = false := beq_eq_false_iff_ne.mpr c16
       have c16b1 : (t218 != t216) = true := bne_iff_ne.mpr c16
       obtain rfl := Option.some.inj H
       exact absurd hrt.out (by decide)
     ·rw [if_neg c15] at H
      have c15b0 : (t217 == 0) = false := beq_eq_false_iff_ne.mpr c15
      have c15b1 : (t217 != 0) = true := bne_iff_ne.mpr c15
      replace H := zu.mp H
      obtain ⟨t225, A270, H⟩ := H
      replace H : (some t225) = some r := H
      have A27 := Aside0.mk A270
      clear A270
      obtain rfl := Option.some.inj H
      simp only [Option.some.injEq, Prod.mk.injEq] at H
      obtain ⟨rfl⟩ := H
      go_enter Tryd.func9, Tryd.ntmps9
      go_wp2_with (first | ((with_reducible refine gate_callee (f := 32) rfl ?_); refine goesL_ (some 16) rfl rfl Tryd.func32 (by kernel_rfl) rfl #[.slice A1 l1.length c1, .slice A2 l2.length c2] rfl (by (try simp only [List.map_toArray, List.map_cons, List.map_nil]); first | done | rfl | (simp only [List.length_drop, List.length_take]; rfl)) ?_; (with_reducible refine (provenderref2_Agree.calls k (fun k_ => k_ < w.heap.size) _ _ l1 (fun k_ => k_ < w.heap.size) _ _ l2 t214 t215 _ ?side1 ?side2 A4.out).mono ?_); (case side1 => exact Kd.V_mk HC1.out (Kd.F_below (Kd.C_F k108_heap HR1.out) (by repeat (first | (with_reducible first | exact HB.out | apply zd | apply zb | apply zc) | exact HB.out)))); (case side2 => exact Kd.V_mk HC2.out (Kd.F_below (Kd.C_F k108_heap HR2.out) (by repeat (first | (with_reducible first | exact HB.out | apply zd | apply zb | apply zc) | exact HB.out)))); rintro e w28 ⟨rfl, hb⟩; refine ⟨_, rfl, ?_⟩; have n0_ := Aside0.mk (zv (by repeat (first | (with_reducible first | exact HB.out | apply zd | apply zb | apply zc) | exact HB.out)) hb); clear HB; have HB := n0_; clear n0_; (try clear hb); (try clear hb2); (try clear hk); (try clear hi)) | ((with_reducible refine gate_callee (f := 33) rfl ?_); refine goesL_ (some 22) rfl rfl Tryd.func33 (by kernel_rfl) rfl #[.slice A1 l1.length c1, .slice A2 l2.length c2] rfl (by (try simp only [List.map_toArray, List.map_cons, List.map_nil]); first | done | rfl | (simp only [List.length_drop, List.length_take]; rfl)) ?_; (with_reducible refine (purl_Agree.calls k _ _ l1 _ _ l2 t216 t217 _ ?side1 ?side2 ?side3 ?side4 A5.out).mono ?_); (case side1 => repeat (first | exact (Kd.C_below HR1.out HB.out) | (with_reducible refine zF ?_ _) | (with_reducible refine zE ?_ _) | (with_reducible refine zG ?_))); (case side2 => exact HC1.out); (case side3 => repeat (first | exact (Kd.C_below HR2.out HB.out) | (with_reducible refine zF ?_ _) | (with_reducible refine zE ?_ _) | (with_reducible refine zG ?_))); (case side4 => exact HC2.out); rintro e w29 ⟨rfl, hb⟩; refine ⟨_, rfl, ?_⟩; have n0_ := Aside0.mk (zv (by repeat (first | (with_reducible first | exact HB.out | apply zd | apply zb | apply zc) | exact HB.out)) hb); clear HB; have HB := n0_; clear n0_; (try clear hb); (try clear hb2); (try clear hk); (try clear hi)) | ((with_reducible refine gate_callee (f := 33) rfl ?_); refine goesL_ (some 28) rfl rfl Tryd.func33 (by kernel_rfl) rfl #[.slice A2 l2.length c2, .slice A1 l1.length c1] rfl (by (try simp only [List.map_toArray, List.map_cons, List.map_nil]); first | done | rfl | (simp only [List.length_drop, List.length_take]; rfl)) ?_; (with_reducible refine (purl_Agree.calls k _ _ l2 _ _ l1 t218 t219 _ ?side1 ?side2 ?side3 ?side4 A6.out).mono ?_); (case side1 => repeat (first | exact (Kd.C_below HR2.out HB.out) | (with_reducible refine zF ?_ _) | (with_reducible refine zE ?_ _) | (with_reducible refine zG ?_))); (case side2 => exact HC2.out); (case side3 => repeat (first | exact (Kd.C_below HR1.out HB.out) | (with_reducible refine zF ?_ _) | (with_reducible refine zE ?_ _) | (with_reducible refine zG ?_))); (case side4 => exact HC1.out); rintro e w30 ⟨rfl, hb⟩; refine ⟨_, rfl, ?_⟩; have n0_ := Aside0.mk (zv (by repeat (first | (with_reducible first | exact HB.out | apply zd | apply zb | apply zc) | exact HB.out)) hb); clear HB; have HB := n0_; clear n0_; (try clear hb); (try clear hb2); (try clear hk); (try clear hi)) | ((with_reducible refine gate_callee (f := 34) rfl ?_); refine goesL_ (some 32) rfl rfl Tryd.func34 (by kernel_rfl) rfl #[.string a0] rfl (by (try simp only [List.map_toArray, List.map_cons, List.map_nil]); first | done | rfl | (simp only [List.length_drop, List.length_take]; rfl)) ?_; (with_reducible refine (provenderref2_Sum64.calls k a0 t220 _ A7.out).mono ?_); rintro e w31 ⟨rfl, hb⟩; refine ⟨_, rfl, ?_⟩; have n0_ := Aside0.mk (zv (by repeat (first | (with_reducible first | exact HB.out | apply zd | apply zb | apply zc) | exact HB.out)) hb); clear HB; have HB := n0_; clear n0_; (try clear hb); (try clear hb2); (try clear hk); (try clear hi)) | ((with_reducible refine gate_callee (f := 35) rfl ?_); refine goesL_ (some 34) rfl rfl Tryd.func35 (by kernel_rfl) rfl #[.string a0] rfl (by (try simp only [List.map_toArray, List.map_cons, List.map_nil]); first | done | rfl | (simp only [List.length_drop, List.length_take]; rfl)) ?_; (with_reducible refine (purl_Sum64.calls a0 t221 _ (HLd.out.below (by repeat (first | (with_reducible first | exact HB.out | apply zd | apply zb | apply zc) | exact HB.out))) A8.out).mono ?_); rintro e w32 ⟨rfl, hb⟩; refine ⟨_, rfl, ?_⟩; have n0_ := Aside0.mk (zv (by repeat (first | (with_reducible first | exact HB.out | apply zd | apply zb | apply zc) | exact HB.out)) hb); clear HB; have HB := n0_; clear n0_; (try clear hb); (try clear hb2); (try clear hk); (try clear hi)) | (go_at_call 36; (with_reducible refine (provenderref2_CheckDigests.calls k _ _ l1 t222 _ ?side1 ?side2 A10.out).mono ?_); (case side1 => repeat (first | exact (Kd.C_below HR1.out HB.out) | (with_reducible refine zF ?_ _) | (with_reducible refine zE ?_ _) | (with_reducible refine zG ?_))); (case side2 => exact HC1.out); rintro e w33 ⟨rfl, hb⟩; have n0_ := Aside0.mk (zv (by repeat (first | (with_reducible first | exact HB.out | apply zd | apply zb | apply zc) | exact HB.out)) hb); clear HB; have HB := n0_; clear n0_; (try clear hb); (try clear hb2); (try clear hk); (try clear hi)) | (go_at_call 37; (with_reducible refine (purl_CheckDigests.calls k _ _ l1 t223 _ ?side1 ?side2 A11.out).mono ?_); (case side1 => repeat (first | exact (Kd.C_below HR1.out HB.out) | (with_reducible refine zF ?_ _) | (with_reducible refine zE ?_ _) | (with_reducible refine zG ?_))); (case side2 => exact HC1.out); rintro e w34 ⟨rfl, hb⟩; have n0_ := Aside0.mk (zv (by repeat (first | (with_reducible first | exact HB.out | apply zd | apply zb | apply zc) | exact HB.out)) hb); clear HB; have HB := n0_; clear n0_; (try clear hb); (try clear hb2); (try clear hk); (try clear hi)) | (go_at_call 13; (with_reducible refine (provenderlaw2_told.calls k  t225 _ A27.out).mono ?_); rintro e w35 ⟨rfl, hb⟩; have n0_ := Aside0.mk (zv (by repeat (first | (with_reducible first | exact HB.out | apply zd | apply zb | apply zc) | exact HB.out)) hb); clear HB; have HB := n0_; clear n0_; (try clear hb); (try clear hb2); (try clear hk); (try clear hi)))
      go_ret
      exact ⟨by first | rfl | (simp [errW_none, errW_some] <;> rfl) | (simp [*, errW_none, errW_some] <;> rfl), by repeat (first | (with_reducible first | exact HB.out | apply zd | apply zb | apply zc) | exact HB.out)⟩
    ·rw [if_neg c14] at H
     have c14b0 : (t217 == t215) = false := beq_eq_false_iff_ne.mpr c14
     have c14b1 : (t217 != t215) = true := bne_iff_ne.mpr c14
     obtain rfl := Option.some.inj H
     exact absurd hrt.out (by decide)
   ·rw [if_neg c13] at H
    have c13b0 : (t216 == t214) = false := beq_eq_false_iff_ne.mpr c13
    have c13b1 : (t216 != t214) = true := bne_iff_ne.mpr c13
    obtain rfl := Option.some.inj H
    exact absurd hrt.out (by decide)
  ·rw [if_neg c12] at H
   have c12b0 : (t222 == t223) = false := beq_eq_false_iff_ne.mpr c12
   have c12b1 : (t222 != t223) = true := bne_iff_ne.mpr c12
   obtain rfl := Option.some.inj H
   exact absurd hrt.out (by decide)
 ·rw [if_neg c9] at H
  have c9b0 : (t220.toList == t221.toList) = false := beq_eq_false_iff_ne.mpr c9
  have c9b1 : (t220.toList != t221.toList) = true := bne_iff_ne.mpr c9
  obtain rfl := Option.some.inj H
  exact absurd hrt.out (by decide)
end Go.Proofs.YtmnfjbmhlabdaaaDoor.Pr
