-- Written by a program of the session (wip/pr.py) out of the translation; Lean checks it.
import Derived.Test.YtdmmglihkdkeaaaDoorTPrx0
import Derived.Test.YtdmmglihkdkeaaaDoorTPrx10
import Derived.Test.YtdmmglihkdkeaaaDoorTPrx24
import Derived.Test.YtdmmglihkdkeaaaDoorTPrx25
import Derived.Test.YtdmmglihkdkeaaaDoorTPrx26
import Derived.Test.YtdmmglihkdkeaaaDoorTPrx27
import Derived.Test.YtdmmglihkdkeaaaDoorTPrx28
namespace Go.Proofs.YtdmmglihkdkeaaaDoor.Pr
open Go.RowKit Go.Proofs.YtdmmglihkdkeaaaDoorW.PrintWords Go.Proofs.YtdmmglihkdkeaaaDoorW.PrintLast Go.Proofs.YtdmmglihkdkeaaaDoorW.PrintMore
attribute [local go_sem] max2_int min2_int max_two min_two max_three min_three max_four min_four   -- for this text's walks alone
set_option linter.unusedVariables false
set_option linter.unusedSimpArgs false
/-! ### provenderlaw8_AttestRootsMatchSpec: function 7 -/
def provenderlaw8_AttestRootsMatchSpec.f (k : Nat) (a0 : ByteArray) (l1 : List ByteArray) (a2 : Int) (a3 : Int) (a4 : Int) : Option (Bool) := (provenderref8_Leaf.f k a0).bind fun bt495 => ((attest_Leaf.f a0).bind fun bt497 => ((provenderref8_Root.f k l1).bind fun bt499 => ((attest_Root.f k l1).bind fun bt501 => ((provenderref8_Include.f k l1 a2 a4).bind fun bt503 => ((attest_Include.f k l1 a2 a4).bind fun bt507 => ((provenderref8_Consist.f k l1 a3 a4).bind fun bt511 => ((attest_Consist.f k l1 a3 a4).bind fun bt515 => (if bt497.1.toList = bt495.1.toList then (if bt497.2 = bt495.2 then (if bt501.1.toList = bt499.1.toList then (if bt501.2 = bt499.2 then ((slices_Equal_string_string.f k bt507.1 bt503.1).bind fun t519 => (if t519 = true then (if bt507.2 = bt503.2 then ((slices_Equal_string_string.f k bt515.1 bt511.1).bind fun t520 => (if t520 = true then (if bt515.2 = bt511.2 then ((provenderlaw8_told.f k).bind fun t521 => (some t521)) else (some false)) else (some false))) else (some false)) else (some false))) else (some false)) else (some false)) else (some false)) else (some false)))))))))
set_option maxHeartbeats 8000000 in
set_option maxRecDepth 100000 in
theorem provenderlaw8_AttestRootsMatchSpec.calls (k : Nat) (a0 : ByteArray) (A1 : Option Addr) (c1 : Nat) (l1 : List ByteArray) (a2 : Int) (a3 : Int) (a4 : Int) (r : Bool) (w : World) (hL : LaidW w) (hr1 : Kd.C Kd.string w A1 l1.length l1) (hc1 : l1.length ≤ c1) (h : provenderlaw8_AttestRootsMatchSpec.f k a0 l1 a2 a3 a4 = some r) (hrt : Aside0 (r = true)) :
    Calls Tryd.prog 7 #[.string a0, .slice A1 l1.length c1, .int .i64 a2, .int .i64 a3, .int .i64 a4] w fun e w' => e = .returned (.bool r) ∧ Below w.heap.size w w' := by
  have HLd := Aside0.mk hL
  clear hL
  have HR1 := Aside0.mk hr1
  have HC1 := Aside0.mk hc1
  clear hr1 hc1
  have HB := Aside0.mk (Below.refl w.heap.size w)
  have H : ((provenderref8_Leaf.f k a0).bind fun bt495 => ((attest_Leaf.f a0).bind fun bt497 => ((provenderref8_Root.f k l1).bind fun bt499 => ((attest_Root.f k l1).bind fun bt501 => ((provenderref8_Include.f k l1 a2 a4).bind fun bt503 => ((attest_Include.f k l1 a2 a4).bind fun bt507 => ((provenderref8_Consist.f k l1 a3 a4).bind fun bt511 => ((attest_Consist.f k l1 a3 a4).bind fun bt515 => (if bt497.1.toList = bt495.1.toList then (if bt497.2 = bt495.2 then (if bt501.1.toList = bt499.1.toList then (if bt501.2 = bt499.2 then ((slices_Equal_string_string.f k bt507.1 bt503.1).bind fun t519 => (if t519 = true then (if bt507.2 = bt503.2 then ((slices_Equal_string_string.f k bt515.1 bt511.1).bind fun t520 => (if t520 = true then (if bt515.2 = bt511.2 then ((provenderlaw8_told.f k).bind fun t521 => (some t521)) else (some false)) else (some false))) else (some false)) else (some false))) else (some false)) else (some false)) else (some false)) else (some false)))))))))) = some r := h
  clear h
  replace H := Option.bind_eq_some_iff.mp H
  obtain ⟨⟨t495, t496⟩, A60, H⟩ := H
  replace H : ((attest_Leaf.f a0).bind fun bt497 => ((provenderref8_Root.f k l1).bind fun bt499 => ((attest_Root.f k l1).bind fun bt501 => ((provenderref8_Include.f k l1 a2 a4).bind fun bt503 => ((attest_Include.f k l1 a2 a4).bind fun bt507 => ((provenderref8_Consist.f k l1 a3 a4).bind fun bt511 => ((attest_Consist.f k l1 a3 a4).bind fun bt515 => (if bt497.1.toList = t495.toList then (if bt497.2 = t496 then (if bt501.1.toList = bt499.1.toList then (if bt501.2 = bt499.2 then ((slices_Equal_string_string.f k bt507.1 bt503.1).bind fun t519 => (if t519 = true then (if bt507.2 = bt503.2 then ((slices_Equal_string_string.f k bt515.1 bt511.1).bind fun t520 => (if t520 = true then (if bt515.2 = bt511.2 then ((provenderlaw8_told.f k).bind fun t521 => (some t521)) else (some false)) else (some false))) else (some false)) else (some false))) else (some false)) else (some false)) else (some false)) else (some false))))))))) = some r := H
  have A6 := Aside0.mk A60
  clear A60
  replace H := Option.bind_eq_some_iff.mp H
  obtain ⟨⟨t497, t498⟩, A70, H⟩ := H
  replace H : ((provenderref8_Root.f k l1).bind fun bt499 => ((attest_Root.f k l1).bind fun bt501 => ((provenderref8_Include.f k l1 a2 a4).bind fun bt503 => ((attest_Include.f k l1 a2 a4).bind fun bt507 => ((provenderref8_Consist.f k l1 a3 a4).bind fun bt511 => ((attest_Consist.f k l1 a3 a4).bind fun bt515 => (if t497.toList = t495.toList then (if t498 = t496 then (if bt501.1.toList = bt499.1.toList then (if bt501.2 = bt499.2 then ((slices_Equal_string_string.f k bt507.1 bt503.1).bind fun t519 => (if t519 = true then (if bt507.2 = bt503.2 then ((slices_Equal_string_string.f k bt515.1 bt511.1).bind fun t520 => (if t520 = true then (if bt515.2 = bt511.2 then ((provenderlaw8_told.f k).bind fun t521 => (some t521)) else (some false)) else (some false))) else (some false)) else (some false))) else (some false)) else (some false)) else (some false)) else (some false)))))))) = some r := H
  have A7 := Aside0.mk A70
  clear A70
  replace H := Option.bind_eq_some_iff.mp H
  obtain ⟨⟨t499, t500⟩, A80, H⟩ := H
  replace H : ((attest_Root.f k l1).bind fun bt501 => ((provenderref8_Include.f k l1 a2 a4).bind fun bt503 => ((attest_Include.f k l1 a2 a4).bind fun bt507 => ((provenderref8_Consist.f k l1 a3 a4).bind fun bt511 => ((attest_Consist.f k l1 a3 a4).bind fun bt515 => (if t497.toList = t495.toList then (if t498 = t496 then (if bt501.1.toList = t499.toList then (if bt501.2 = t500 then ((slices_Equal_string_string.f k bt507.1 bt503.1).bind fun t519 => (if t519 = true then (if bt507.2 = bt503.2 then ((slices_Equal_string_string.f k bt515.1 bt511.1).bind fun t520 => (if t520 = true then (if bt515.2 = bt511.2 then ((provenderlaw8_told.f k).bind fun t521 => (some t521)) else (some false)) else (some false))) else (some false)) else (some false))) else (some false)) else (some false)) else (some false)) else (some false))))))) = some r := H
  have A8 := Aside0.mk A80
  clear A80
  replace H := Option.bind_eq_some_iff.mp H
  obtain ⟨⟨t501, t502⟩, A90, H⟩ := H
  replace H : ((provenderref8_Include.f k l1 a2 a4).bind fun bt503 => ((attest_Include.f k l1 a2 a4).bind fun bt507 => ((provenderref8_Consist.f k l1 a3 a4).bind fun bt511 => ((attest_Consist.f k l1 a3 a4).bind fun bt515 => (if t497.toList = t495.toList then (if t498 = t496 then (if t501.toList = t499.toList then (if t502 = t500 then ((slices_Equal_string_string.f k bt507.1 bt503.1).bind fun t519 => (if t519 = true then (if bt507.2 = bt503.2 then ((slices_Equal_string_string.f k bt515.1 bt511.1).bind fun t520 => (if t520 = true then (if bt515.2 = bt511.2 then ((provenderlaw8_told.f k).bind fun t521 => (some t521)) else (some false)) else (some false))) else (some false)) else (some false))) else (some false)) else (some false)) else (some false)) else (some false)))))) = some r := H
  have A9 := Aside0.mk A90
  clear A90
  replace H := Option.bind_eq_some_iff.mp H
  obtain ⟨⟨t503, t504⟩, A100, H⟩ := H
  replace H : ((attest_Include.f k l1 a2 a4).bind fun bt507 => ((provenderref8_Consist.f k l1 a3 a4).bind fun bt511 => ((attest_Consist.f k l1 a3 a4).bind fun bt515 => (if t497.toList = t495.toList then (if t498 = t496 then (if t501.toList = t499.toList then (if t502 = t500 then ((slices_Equal_string_string.f k bt507.1 t503).bind fun t519 => (if t519 = true then (if bt507.2 = t504 then ((slices_Equal_string_string.f k bt515.1 bt511.1).bind fun t520 => (if t520 = true then (if bt515.2 = bt511.2 then ((provenderlaw8_told.f k).bind fun t521 => (some t521)) else (some false)) else (some false))) else (some false)) else (some false))) else (some false)) else (some false)) else (some false)) else (some false))))) = some r := H
  have A10 := Aside0.mk A100
  clear A100
  replace H := Option.bind_eq_some_iff.mp H
  obtain ⟨⟨t507, t508⟩, A110, H⟩ := H
  replace H : ((provenderref8_Consist.f k l1 a3 a4).bind fun bt511 => ((attest_Consist.f k l1 a3 a4).bind fun bt515 => (if t497.toList = t495.toList then (if t498 = t496 then (if t501.toList = t499.toList then (if t502 = t500 then ((slices_Equal_string_string.f k t507 t503).bind fun t519 => (if t519 = true then (if t508 = t504 then ((slices_Equal_string_string.f k bt515.1 bt511.1).bind fun t520 => (if t520 = true then (if bt515.2 = bt511.2 then ((provenderlaw8_told.f k).bind fun t521 => (some t521)) else (some false)) else (some false))) else (some false)) else (some false))) else (some false)) else (some false)) else (some false)) else (some false)))) = some r := H
  have A11 := Aside0.mk A110
  clear A110
  replace H := Option.bind_eq_some_iff.mp H
  obtain ⟨⟨t511, t512⟩, A120, H⟩ := H
  replace H : ((attest_Consist.f k l1 a3 a4).bind fun bt515 => (if t497.toList = t495.toList then (if t498 = t496 then (if t501.toList = t499.toList then (if t502 = t500 then ((slices_Equal_string_string.f k t507 t503).bind fun t519 => (if t519 = true then (if t508 = t504 then ((slices_Equal_string_string.f k bt515.1 t511).bind fun t520 => (if t520 = true then (if bt515.2 = t512 then ((provenderlaw8_told.f k).bind fun t521 => (some t521)) else (some false)) else (some false))) else (some false)) else (some false))) else (some false)) else (some false)) else (some false)) else (some false))) = some r := H
  have A12 := Aside0.mk A120
  clear A120
  replace H := Option.bind_eq_some_iff.mp H
  obtain ⟨⟨t515, t516⟩, A130, H⟩ := H
  replace H : (if t497.toList = t495.toList then (if t498 = t496 then (if t501.toList = t499.toList then (if t502 = t500 then ((slices_Equal_string_string.f k t507 t503).bind fun t519 => (if t519 = true then (if t508 = t504 then ((slices_Equal_string_string.f k t515 t511).bind fun t520 => (if t520 = true then (if t516 = t512 then ((provenderlaw8_told.f k).bind fun t521 => (some t521)) else (some false)) else (some false))) else (some false)) else (some false))) else (some false)) else (some false)) else (some false)) else (some false)) = some r := H
  have A13 := Aside0.mk A130
  clear A130
  by_cases c14 : t497.toList = t495.toList
  · rw [if_pos c14] at H
    have c14b0 : (t497.toList == t495.toList) = true := beq_iff_eq.mpr c14
    have c14b1 : (t497.toList != t495.toList) = false := bne_eq_false_iff_eq.mpr c14
    clear c14
    by_cases c15 : t498 = t496
    · rw [if_pos c15] at H
      have c15b0 : (t498 == t496) = true := beq_iff_eq.mpr c15
      have c15b1 : (t498 != t496) = false := bne_eq_false_iff_eq.mpr c15
      clear c15
      by_cases c16 : t501.toList = t499.toList
      · rw [if_pos c16] at H
        have c16b0 : (t501.toList == t499.toList) = true := beq_iff_eq.mpr c16
        have c16b1 : (t501.toList != t499.toList) = false := bne_eq_false_iff_eq.mpr c16
        clear c16
        by_cases c17 : t502 = t500
        · rw [if_pos c17] at H
          have c17b0 : (t502 == t500) = true := beq_iff_eq.mpr c17
          have c17b1 : (t502 != t500) = false := bne_eq_false_iff_eq.mpr c17
          clear c17
          replace H := Option.bind_eq_some_iff.mp H
          obtain ⟨t519, A180, H⟩ := H
          replace H : (if t519 = true then (if t508 = t504 then ((slices_Equal_string_string.f k t515 t511).bind fun t520 => (if t520 = true then (if t516 = t512 then ((provenderlaw8_told.f k).bind fun t521 => (some t521)) else (some false)) else (some false))) else (some false)) else (some false)) = some r := H
          have A18 := Aside0.mk A180
          clear A180
          by_cases c19 : t519 = true
          · subst c19
            have H1 : (if t508 = t504 then ((slices_Equal_string_string.f k t515 t511).bind fun t520 => (if t520 = true then (if t516 = t512 then ((provenderlaw8_told.f k).bind fun t521 => (some t521)) else (some false)) else (some false))) else (some false)) = some r := by rw [if_pos rfl] at H; exact H
            clear H
            have H := H1
            clear H1
            by_cases c20 : t508 = t504
            · rw [if_pos c20] at H
              have c20b0 : (t508 == t504) = true := beq_iff_eq.mpr c20
              have c20b1 : (t508 != t504) = false := bne_eq_false_iff_eq.mpr c20
              clear c20
              replace H := Option.bind_eq_some_iff.mp H
              obtain ⟨t520, A210, H⟩ := H
              replace H : (if t520 = true then (if t516 = t512 then ((provenderlaw8_told.f k).bind fun t521 => (some t521)) else (some false)) else (some false)) = some r := H
              have A21 := Aside0.mk A210
              clear A210
              by_cases c22 : t520 = true
              · subst c22
                have H1 : (if t516 = t512 then ((provenderlaw8_told.f k).bind fun t521 => (some t521)) else (some false)) = some r := by rw [if_pos rfl] at H; exact H
                clear H
                have H := H1
                clear H1
                by_cases c23 : t516 = t512
                · rw [if_pos c23] at H
                  have c23b0 : (t516 == t512) = true := beq_iff_eq.mpr c23
                  have c23b1 : (t516 != t512) = false := bne_eq_false_iff_eq.mpr c23
                  clear c23
                  replace H := Option.bind_eq_some_iff.mp H
                  obtain ⟨t521, A240, H⟩ := H
                  replace H : (some t521) = some r := H
                  have A24 := Aside0.mk A240
                  clear A240
                  obtain rfl := Option.some.inj H
                  simp only [Option.some.injEq, Prod.mk.injEq] at H
                  obtain ⟨rfl⟩ := H
                  go_enter Tryd.func7, Tryd.ntmps7
                  go_wp2_with (first | ((with_reducible refine gate_callee (f := 27) rfl ?_); refine goesL_ (some 29) rfl rfl Tryd.func27 (by kernel_rfl) rfl #[.string a0] rfl (by (try simp only [List.map_toArray, List.map_cons, List.map_nil]); first | done | rfl | (simp only [List.length_drop, List.length_take]; rfl)) ?_; (with_reducible refine (provenderref8_Leaf.calls k a0 t495 t496 _ A6.out).mono ?_); rintro e w25 ⟨rfl, hb⟩; refine ⟨_, rfl, ?_⟩; have n0_ := Aside0.mk (below_step (by repeat (first | (with_reducible first | exact HB.out | apply below_alloc | apply pw_below_drewN | apply below_drew1) | exact HB.out)) hb); clear HB; have HB := n0_; clear n0_; (try clear hb); (try clear hb2); (try clear hk); (try clear hi)) | ((with_reducible refine gate_callee (f := 28) rfl ?_); refine goesL_ (some 34) rfl rfl Tryd.func28 (by kernel_rfl) rfl #[.string a0] rfl (by (try simp only [List.map_toArray, List.map_cons, List.map_nil]); first | done | rfl | (simp only [List.length_drop, List.length_take]; rfl)) ?_; (with_reducible refine (attest_Leaf.calls a0 t497 t498 _ (HLd.out.below (by repeat (first | (with_reducible first | exact HB.out | apply below_alloc | apply pw_below_drewN | apply below_drew1) | exact HB.out))) A7.out).mono ?_); rintro e w26 ⟨rfl, hb⟩; refine ⟨_, rfl, ?_⟩; have n0_ := Aside0.mk (below_step (by repeat (first | (with_reducible first | exact HB.out | apply below_alloc | apply pw_below_drewN | apply below_drew1) | exact HB.out)) hb); clear HB; have HB := n0_; clear n0_; (try clear hb); (try clear hb2); (try clear hk); (try clear hi)) | ((with_reducible refine gate_callee (f := 29) rfl ?_); refine goesL_ (some 39) rfl rfl Tryd.func29 (by kernel_rfl) rfl #[.slice A1 l1.length c1] rfl (by (try simp only [List.map_toArray, List.map_cons, List.map_nil]); first | done | rfl | (simp only [List.length_drop, List.length_take]; rfl)) ?_; (with_reducible refine (provenderref8_Root.calls k _ _ l1 t499 t500 _ ?side1 ?side2 A8.out).mono ?_); (case side1 => repeat (first | exact (Kd.C_below HR1.out HB.out) | (with_reducible refine Kd.C_alloc ?_ _) | (with_reducible refine Kd.C_drewN ?_ _) | (with_reducible refine Kd.C_drew ?_))); (case side2 => exact HC1.out); rintro e w27 ⟨rfl, hb⟩; refine ⟨_, rfl, ?_⟩; have n0_ := Aside0.mk (below_step (by repeat (first | (with_reducible first | exact HB.out | apply below_alloc | apply pw_below_drewN | apply below_drew1) | exact HB.out)) hb); clear HB; have HB := n0_; clear n0_; (try clear hb); (try clear hb2); (try clear hk); (try clear hi)) | ((with_reducible refine gate_callee (f := 30) rfl ?_); refine goesL_ (some 44) rfl rfl Tryd.func30 (by kernel_rfl) rfl #[.slice A1 l1.length c1] rfl (by (try simp only [List.map_toArray, List.map_cons, List.map_nil]); first | done | rfl | (simp only [List.length_drop, List.length_take]; rfl)) ?_; (with_reducible refine (attest_Root.calls k _ _ l1 t501 t502 _ (HLd.out.below (by repeat (first | (with_reducible first | exact HB.out | apply below_alloc | apply pw_below_drewN | apply below_drew1) | exact HB.out))) ?side1 ?side2 A9.out).mono ?_); (case side1 => repeat (first | exact (Kd.C_below HR1.out HB.out) | (with_reducible refine Kd.C_alloc ?_ _) | (with_reducible refine Kd.C_drewN ?_ _) | (with_reducible refine Kd.C_drew ?_))); (case side2 => exact HC1.out); rintro e w28 ⟨rfl, hb⟩; refine ⟨_, rfl, ?_⟩; have n0_ := Aside0.mk (below_step (by repeat (first | (with_reducible first | exact HB.out | apply below_alloc | apply pw_below_drewN | apply below_drew1) | exact HB.out)) hb); clear HB; have HB := n0_; clear n0_; (try clear hb); (try clear hb2); (try clear hk); (try clear hi)) | ((with_reducible refine gate_callee (f := 31) rfl ?_); refine goesL_ (some 51) rfl rfl Tryd.func31 (by kernel_rfl) rfl #[.slice A1 l1.length c1, .int .i64 a2, .int .i64 a4] rfl (by (try simp only [List.map_toArray, List.map_cons, List.map_nil]); first | done | rfl | (simp only [List.length_drop, List.length_take]; rfl)) ?_; (with_reducible refine (provenderref8_Include.calls k _ _ l1 a2 a4 t503 t504 _ ?side1 ?side2 A10.out).mono ?_); (case side1 => repeat (first | exact (Kd.C_below HR1.out HB.out) | (with_reducible refine Kd.C_alloc ?_ _) | (with_reducible refine Kd.C_drewN ?_ _) | (with_reducible refine Kd.C_drew ?_))); (case side2 => exact HC1.out); rintro e w29 ⟨v505, rfl, ho0, hb⟩; refine ⟨_, rfl, ?_⟩; have n0_ := Aside0.mk (Kd.R_lower ho0 (below_size (by repeat (first | (with_reducible first | exact HB.out | apply below_alloc | apply pw_below_drewN | apply below_drew1) | exact HB.out)))); have n1_ := Aside0.mk (below_step (by repeat (first | (with_reducible first | exact HB.out | apply below_alloc | apply pw_below_drewN | apply below_drew1) | exact HB.out)) hb); clear HB; have HO506 := n0_; have HB := n1_; clear n0_ n1_; (try clear hb); (try clear hb2); (try clear hk); (try clear hi); (try clear ho0)) | ((with_reducible refine gate_callee (f := 32) rfl ?_); refine goesL_ (some 58) rfl rfl Tryd.func32 (by kernel_rfl) rfl #[.slice A1 l1.length c1, .int .i64 a2, .int .i64 a4] rfl (by (try simp only [List.map_toArray, List.map_cons, List.map_nil]); first | done | rfl | (simp only [List.length_drop, List.length_take]; rfl)) ?_; (with_reducible refine (attest_Include.calls k _ _ l1 a2 a4 t507 t508 _ (HLd.out.below (by repeat (first | (with_reducible first | exact HB.out | apply below_alloc | apply pw_below_drewN | apply below_drew1) | exact HB.out))) ?side1 ?side2 A11.out).mono ?_); (case side1 => repeat (first | exact (Kd.C_below HR1.out HB.out) | (with_reducible refine Kd.C_alloc ?_ _) | (with_reducible refine Kd.C_drewN ?_ _) | (with_reducible refine Kd.C_drew ?_))); (case side2 => exact HC1.out); rintro e w30 ⟨v509, rfl, ho0, hb⟩; refine ⟨_, rfl, ?_⟩; have n0_ := Aside0.mk (Kd.R_elder' (by (with_reducible repeat (first | apply Kd.R_alloc | apply Kd.R_drewN | apply Kd.R_drew)); exact HO506.out) (Kd.R_base ho0) hb); have n1_ := Aside0.mk (Kd.R_lower (Kd.R_new' ho0 (Kd.R_lt (by (with_reducible repeat (first | apply Kd.R_alloc | apply Kd.R_drewN | apply Kd.R_drew)); exact HO506.out))) (below_size (by repeat (first | (with_reducible first | exact HB.out | apply below_alloc | apply pw_below_drewN | apply below_drew1) | exact HB.out)))); have n2_ := Aside0.mk (below_step (by repeat (first | (with_reducible first | exact HB.out | apply below_alloc | apply pw_below_drewN | apply below_drew1) | exact HB.out)) hb); clear HO506; clear HB; have HO506 := n0_; have HO510 := n1_; have HB := n2_; clear n0_ n1_ n2_; (try clear hb); (try clear hb2); (try clear hk); (try clear hi); (try clear ho0)) | ((with_reducible refine gate_callee (f := 33) rfl ?_); refine goesL_ (some 65) rfl rfl Tryd.func33 (by kernel_rfl) rfl #[.slice A1 l1.length c1, .int .i64 a3, .int .i64 a4] rfl (by (try simp only [List.map_toArray, List.map_cons, List.map_nil]); first | done | rfl | (simp only [List.length_drop, List.length_take]; rfl)) ?_; (with_reducible refine (provenderref8_Consist.calls k _ _ l1 a3 a4 t511 t512 _ ?side1 ?side2 A12.out).mono ?_); (case side1 => repeat (first | exact (Kd.C_below HR1.out HB.out) | (with_reducible refine Kd.C_alloc ?_ _) | (with_reducible refine Kd.C_drewN ?_ _) | (with_reducible refine Kd.C_drew ?_))); (case side2 => exact HC1.out); rintro e w31 ⟨v513, rfl, ho0, hb⟩; refine ⟨_, rfl, ?_⟩; have n0_ := Aside0.mk (Kd.R_elder' (by (with_reducible repeat (first | apply Kd.R_alloc | apply Kd.R_drewN | apply Kd.R_drew)); exact HO506.out) (Kd.R_base ho0) hb); have n1_ := Aside0.mk (Kd.R_elder' (by (with_reducible repeat (first | apply Kd.R_alloc | apply Kd.R_drewN | apply Kd.R_drew)); exact HO510.out) (Kd.R_base ho0) hb); have n2_ := Aside0.mk (Kd.R_lower (Kd.R_new' (Kd.R_new' ho0 (Kd.R_lt (by (with_reducible repeat (first | apply Kd.R_alloc | apply Kd.R_drewN | apply Kd.R_drew)); exact HO506.out))) (Kd.R_lt (by (with_reducible repeat (first | apply Kd.R_alloc | apply Kd.R_drewN | apply Kd.R_drew)); exact HO510.out))) (below_size (by repeat (first | (with_reducible first | exact HB.out | apply below_alloc | apply pw_below_drewN | apply below_drew1) | exact HB.out)))); have n3_ := Aside0.mk (below_step (by repeat (first | (with_reducible first | exact HB.out | apply below_alloc | apply pw_below_drewN | apply below_drew1) | exact HB.out)) hb); clear HO506; clear HO510; clear HB; have HO506 := n0_; have HO510 := n1_; have HO514 := n2_; have HB := n3_; clear n0_ n1_ n2_ n3_; (try clear hb); (try clear hb2); (try clear hk); (try clear hi); (try clear ho0)) | ((with_reducible refine gate_callee (f := 34) rfl ?_); refine goesL_ (some 72) rfl rfl Tryd.func34 (by kernel_rfl) rfl #[.slice A1 l1.length c1, .int .i64 a3, .int .i64 a4] rfl (by (try simp only [List.map_toArray, List.map_cons, List.map_nil]); first | done | rfl | (simp only [List.length_drop, List.length_take]; rfl)) ?_; (with_reducible refine (attest_Consist.calls k _ _ l1 a3 a4 t515 t516 _ (HLd.out.below (by repeat (first | (with_reducible first | exact HB.out | apply below_alloc | apply pw_below_drewN | apply below_drew1) | exact HB.out))) ?side1 ?side2 A13.out).mono ?_); (case side1 => repeat (first | exact (Kd.C_below HR1.out HB.out) | (with_reducible refine Kd.C_alloc ?_ _) | (with_reducible refine Kd.C_drewN ?_ _) | (with_reducible refine Kd.C_drew ?_))); (case side2 => exact HC1.out); rintro e w32 ⟨v517, rfl, ho0, hb⟩; refine ⟨_, rfl, ?_⟩; have n0_ := Aside0.mk (Kd.R_elder' (by (with_reducible repeat (first | apply Kd.R_alloc | apply Kd.R_drewN | apply Kd.R_drew)); exact HO506.out) (Kd.R_base ho0) hb); have n1_ := Aside0.mk (Kd.R_elder' (by (with_reducible repeat (first | apply Kd.R_alloc | apply Kd.R_drewN | apply Kd.R_drew)); exact HO510.out) (Kd.R_base ho0) hb); have n2_ := Aside0.mk (Kd.R_elder' (by (with_reducible repeat (first | apply Kd.R_alloc | apply Kd.R_drewN | apply Kd.R_drew)); exact HO514.out) (Kd.R_base ho0) hb); have n3_ := Aside0.mk (Kd.R_lower (Kd.R_new' (Kd.R_new' (Kd.R_new' ho0 (Kd.R_lt (by (with_reducible repeat (first | apply Kd.R_alloc | apply Kd.R_drewN | apply Kd.R_drew)); exact HO506.out))) (Kd.R_lt (by (with_reducible repeat (first | apply Kd.R_alloc | apply Kd.R_drewN | apply Kd.R_drew)); exact HO510.out))) (Kd.R_lt (by (with_reducible repeat (first | apply Kd.R_alloc | apply Kd.R_drewN | apply Kd.R_drew)); exact HO514.out))) (below_size (by repeat (first | (with_reducible first | exact HB.out | apply below_alloc | apply pw_below_drewN | apply below_drew1) | exact HB.out)))); have n4_ := Aside0.mk (below_step (by repeat (first | (with_reducible first | exact HB.out | apply below_alloc | apply pw_below_drewN | apply below_drew1) | exact HB.out)) hb); clear HO506; clear HO510; clear HO514; clear HB; have HO506 := n0_; have HO510 := n1_; have HO514 := n2_; have HO518 := n3_; have HB := n4_; clear n0_ n1_ n2_ n3_ n4_; (try clear hb); (try clear hb2); (try clear hk); (try clear hi); (try clear ho0); obtain ⟨Ao33, co33, eo33⟩ := Kd.R_slice HO510.out; subst eo33; obtain ⟨Ao34, co34, eo34⟩ := Kd.R_slice HO506.out; subst eo34) | (go_at_call 35; (with_reducible refine (slices_Equal_string_string.calls k _ _ t507 _ _ t503 true _ ?side1 ?side2 ?side3 ?side4 A18.out).mono ?_); (case side1 => repeat (first | exact (Kd.R_reads' HO510.out).2.2 | (with_reducible refine Kd.C_alloc ?_ _) | (with_reducible refine Kd.C_drewN ?_ _) | (with_reducible refine Kd.C_drew ?_))); (case side2 => exact (Kd.R_reads' HO510.out).2.1); (case side3 => repeat (first | exact (Kd.R_reads' HO506.out).2.2 | (with_reducible refine Kd.C_alloc ?_ _) | (with_reducible refine Kd.C_drewN ?_ _) | (with_reducible refine Kd.C_drew ?_))); (case side4 => exact (Kd.R_reads' HO506.out).2.1); rintro e w' ⟨rfl, ⟨nd, rfl⟩⟩; obtain ⟨Ao35, co35, eo35⟩ := Kd.R_slice HO518.out; subst eo35; obtain ⟨Ao36, co36, eo36⟩ := Kd.R_slice HO514.out; subst eo36) | (go_at_call 35; (with_reducible refine (slices_Equal_string_string.calls k _ _ t515 _ _ t511 true _ ?side1 ?side2 ?side3 ?side4 A21.out).mono ?_); (case side1 => repeat (first | exact (Kd.R_reads' HO518.out).2.2 | (with_reducible refine Kd.C_alloc ?_ _) | (with_reducible refine Kd.C_drewN ?_ _) | (with_reducible refine Kd.C_drew ?_))); (case side2 => exact (Kd.R_reads' HO518.out).2.1); (case side3 => repeat (first | exact (Kd.R_reads' HO514.out).2.2 | (with_reducible refine Kd.C_alloc ?_ _) | (with_reducible refine Kd.C_drewN ?_ _) | (with_reducible refine Kd.C_drew ?_))); (case side4 => exact (Kd.R_reads' HO514.out).2.1); rintro e w' ⟨rfl, ⟨nd, rfl⟩⟩) | (go_at_call 18; (with_reducible refine (provenderlaw8_told.calls k  t521 _ (HLd.out.below (by repeat (first | (with_reducible first | exact HB.out | apply below_alloc | apply pw_below_drewN | apply below_drew1) | exact HB.out))) A24.out).mono ?_); rintro e w37 ⟨rfl, hb⟩; have n0_ := Aside0.mk (Kd.R_below (by (with_reducible repeat (first | apply Kd.R_alloc | apply Kd.R_drewN | apply Kd.R_drew)); exact HO506.out) hb); have n1_ := Aside0.mk (Kd.R_below (by (with_reducible repeat (first | apply Kd.R_alloc | apply Kd.R_drewN | apply Kd.R_drew)); exact HO510.out) hb); have n2_ := Aside0.mk (Kd.R_below (by (with_reducible repeat (first | apply Kd.R_alloc | apply Kd.R_drewN | apply Kd.R_drew)); exact HO514.out) hb); have n3_ := Aside0.mk (Kd.R_below (by (with_reducible repeat (first | apply Kd.R_alloc | apply Kd.R_drewN | apply Kd.R_drew)); exact HO518.out) hb); have n4_ := Aside0.mk (below_step (by repeat (first | (with_reducible first | exact HB.out | apply below_alloc | apply pw_below_drewN | apply below_drew1) | exact HB.out)) hb); clear HO506; clear HO510; clear HO514; clear HO518; clear HB; have HO506 := n0_; have HO510 := n1_; have HO514 := n2_; have HO518 := n3_; have HB := n4_; clear n0_ n1_ n2_ n3_ n4_; (try clear hb); (try clear hb2); (try clear hk); (try clear hi)))
                  go_ret
                  exact ⟨by first | rfl | (simp [errW_none, errW_some] <;> rfl) | (simp [*, errW_none, errW_some] <;> rfl), by repeat (first | (with_reducible first | exact HB.out | apply below_alloc | apply pw_below_drewN | apply below_drew1) | exact HB.out)⟩
                · rw [if_neg c23] at H
                  have c23b0 : (t516 == t512) = false := beq_eq_false_iff_ne.mpr c23
                  have c23b1 : (t516 != t512) = true := bne_iff_ne.mpr c23
                  obtain rfl := Option.some.inj H
                  exact absurd hrt.out (by decide)
              · replace c22 := Bool.eq_false_iff.mpr c22
                subst c22
                have H1 : (some false) = some r := by rw [if_neg (show ¬ (false = true) by decide)] at H; exact H
                clear H
                have H := H1
                clear H1
                obtain rfl := Option.some.inj H
                exact absurd hrt.out (by decide)
            · rw [if_neg c20] at H
              have c20b0 : (t508 == t504) = false := beq_eq_false_iff_ne.mpr c20
              have c20b1 : (t508 != t504) = true := bne_iff_ne.mpr c20
              obtain rfl := Option.some.inj H
              exact absurd hrt.out (by decide)
          · replace c19 := Bool.eq_false_iff.mpr c19
            subst c19
            have H1 : (some false) = some r := by rw [if_neg (show ¬ (false = true) by decide)] at H; exact H
            clear H
            have H := H1
            clear H1
            obtain rfl := Option.some.inj H
            exact absurd hrt.out (by decide)
        · rw [if_neg c17] at H
          have c17b0 : (t502 == t500) = false := beq_eq_false_iff_ne.mpr c17
          have c17b1 : (t502 != t500) = true := bne_iff_ne.mpr c17
          obtain rfl := Option.some.inj H
          exact absurd hrt.out (by decide)
      · rw [if_neg c16] at H
        have c16b0 : (t501.toList == t499.toList) = false := beq_eq_false_iff_ne.mpr c16
        have c16b1 : (t501.toList != t499.toList) = true := bne_iff_ne.mpr c16
        obtain rfl := Option.some.inj H
        exact absurd hrt.out (by decide)
    · rw [if_neg c15] at H
      have c15b0 : (t498 == t496) = false := beq_eq_false_iff_ne.mpr c15
      have c15b1 : (t498 != t496) = true := bne_iff_ne.mpr c15
      obtain rfl := Option.some.inj H
      exact absurd hrt.out (by decide)
  · rw [if_neg c14] at H
    have c14b0 : (t497.toList == t495.toList) = false := beq_eq_false_iff_ne.mpr c14
    have c14b1 : (t497.toList != t495.toList) = true := bne_iff_ne.mpr c14
    obtain rfl := Option.some.inj H
    exact absurd hrt.out (by decide)
end Go.Proofs.YtdmmglihkdkeaaaDoor.Pr
