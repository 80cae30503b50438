-- Written by a program of the session (wip/pr.py) out of the translation; Lean checks it.
import Derived.Test.YtdmmglihkdkeaaaDoorQPrx0
import Derived.Test.YtdmmglihkdkeaaaDoorQPrx10
import Derived.Test.YtdmmglihkdkeaaaDoorQPrx19
import Derived.Test.YtdmmglihkdkeaaaDoorQPrx20
import Derived.Test.YtdmmglihkdkeaaaDoorQPrx21
import Derived.Test.YtdmmglihkdkeaaaDoorQPrx22
namespace Go.Proofs.YtdmmglihkdkeaaaDoor.Pr
open Go.RowKit Go.Proofs.YtdmmglihkdkeaaaDoorW.PrintWords Go.Proofs.YtdmmglihkdkeaaaDoorW.PrintLast Go.Proofs.YtdmmglihkdkeaaaDoorW.PrintMore
attribute [local go_sem] max2_int min2_int max_two min_two max_three min_three max_four min_four   -- for this text's walks alone
set_option linter.unusedVariables false
set_option linter.unusedSimpArgs false
/-! ### provenderlaw8_AttestProofsMatchSpec: function 6 -/
def provenderlaw8_AttestProofsMatchSpec.f (k : Nat) (a0 : ByteArray) (a1 : ByteArray) (a2 : ByteArray) (a3 : Int) (a4 : Int) (a5 : Int) (l6 : List ByteArray) : Option (Bool) := (provenderref8_Included.f k a0 a1 a3 a5 l6).bind fun bt355 => ((attest_Included.f k a0 a1 a3 a5 l6).bind fun bt357 => ((provenderref8_Consistent.f k a2 a0 a4 a5 l6).bind fun bt359 => ((attest_Consistent.f k a2 a0 a4 a5 l6).bind fun bt361 => (if (bt357.1 == bt355.1) = true then (if bt357.2 = bt355.2 then (if (bt361.1 == bt359.1) = true then (if bt361.2 = bt359.2 then ((provenderlaw8_told.f k).bind fun t363 => (some t363)) else (some false)) else (some false)) else (some false)) else (some false)))))
set_option maxHeartbeats 8000000 in
set_option maxRecDepth 100000 in
theorem provenderlaw8_AttestProofsMatchSpec.calls (k : Nat) (a0 : ByteArray) (a1 : ByteArray) (a2 : ByteArray) (a3 : Int) (a4 : Int) (a5 : Int) (A6 : Option Addr) (c6 : Nat) (l6 : List ByteArray) (r : Bool) (w : World) (hL : LaidW w) (hr6 : Kd.C Kd.string w A6 l6.length l6) (hc6 : l6.length ≤ c6) (h : provenderlaw8_AttestProofsMatchSpec.f k a0 a1 a2 a3 a4 a5 l6 = some r) (hrt : Aside0 (r = true)) :
    Calls Tryd.prog 6 #[.string a0, .string a1, .string a2, .int .i64 a3, .int .i64 a4, .int .i64 a5, .slice A6 l6.length c6] w fun e w' => e = .returned (.bool r) ∧ Below w.heap.size w w' := by
  have HLd := Aside0.mk hL
  clear hL
  have HR6 := Aside0.mk hr6
  have HC6 := Aside0.mk hc6
  clear hr6 hc6
  have HB := Aside0.mk (Below.refl w.heap.size w)
  have H : ((provenderref8_Included.f k a0 a1 a3 a5 l6).bind fun bt355 => ((attest_Included.f k a0 a1 a3 a5 l6).bind fun bt357 => ((provenderref8_Consistent.f k a2 a0 a4 a5 l6).bind fun bt359 => ((attest_Consistent.f k a2 a0 a4 a5 l6).bind fun bt361 => (if (bt357.1 == bt355.1) = true then (if bt357.2 = bt355.2 then (if (bt361.1 == bt359.1) = true then (if bt361.2 = bt359.2 then ((provenderlaw8_told.f k).bind fun t363 => (some t363)) else (some false)) else (some false)) else (some false)) else (some false)))))) = some r := h
  clear h
  replace H := Option.bind_eq_some_iff.mp H
  obtain ⟨⟨t355, t356⟩, A80, H⟩ := H
  replace H : ((attest_Included.f k a0 a1 a3 a5 l6).bind fun bt357 => ((provenderref8_Consistent.f k a2 a0 a4 a5 l6).bind fun bt359 => ((attest_Consistent.f k a2 a0 a4 a5 l6).bind fun bt361 => (if (bt357.1 == t355) = true then (if bt357.2 = t356 then (if (bt361.1 == bt359.1) = true then (if bt361.2 = bt359.2 then ((provenderlaw8_told.f k).bind fun t363 => (some t363)) else (some false)) else (some false)) else (some false)) else (some false))))) = some r := H
  have A8 := Aside0.mk A80
  clear A80
  replace H := Option.bind_eq_some_iff.mp H
  obtain ⟨⟨t357, t358⟩, A90, H⟩ := H
  replace H : ((provenderref8_Consistent.f k a2 a0 a4 a5 l6).bind fun bt359 => ((attest_Consistent.f k a2 a0 a4 a5 l6).bind fun bt361 => (if (t357 == t355) = true then (if t358 = t356 then (if (bt361.1 == bt359.1) = true then (if bt361.2 = bt359.2 then ((provenderlaw8_told.f k).bind fun t363 => (some t363)) else (some false)) else (some false)) else (some false)) else (some false)))) = some r := H
  have A9 := Aside0.mk A90
  clear A90
  replace H := Option.bind_eq_some_iff.mp H
  obtain ⟨⟨t359, t360⟩, A100, H⟩ := H
  replace H : ((attest_Consistent.f k a2 a0 a4 a5 l6).bind fun bt361 => (if (t357 == t355) = true then (if t358 = t356 then (if (bt361.1 == t359) = true then (if bt361.2 = t360 then ((provenderlaw8_told.f k).bind fun t363 => (some t363)) else (some false)) else (some false)) else (some false)) else (some false))) = some r := H
  have A10 := Aside0.mk A100
  clear A100
  replace H := Option.bind_eq_some_iff.mp H
  obtain ⟨⟨t361, t362⟩, A110, H⟩ := H
  replace H : (if (t357 == t355) = true then (if t358 = t356 then (if (t361 == t359) = true then (if t362 = t360 then ((provenderlaw8_told.f k).bind fun t363 => (some t363)) else (some false)) else (some false)) else (some false)) else (some false)) = some r := H
  have A11 := Aside0.mk A110
  clear A110
  by_cases c12 : (t357 == t355) = true
  · rw [if_pos c12] at H
    have c12b0 : (t357 == t355) = true := c12
    (try (have c12b1 : decide (t357 = t355) = true := by simpa using c12))
    (try (have c12b2 : (t357 == t355) = true := by simpa using c12))
    clear c12
    by_cases c13 : t358 = t356
    · rw [if_pos c13] at H
      have c13b0 : (t358 == t356) = true := beq_iff_eq.mpr c13
      have c13b1 : (t358 != t356) = false := bne_eq_false_iff_eq.mpr c13
      clear c13
      by_cases c14 : (t361 == t359) = true
      · rw [if_pos c14] at H
        have c14b0 : (t361 == t359) = true := c14
        (try (have c14b1 : decide (t361 = t359) = true := by simpa using c14))
        (try (have c14b2 : (t361 == t359) = true := by simpa using c14))
        clear c14
        by_cases c15 : t362 = t360
        · rw [if_pos c15] at H
          have c15b0 : (t362 == t360) = true := beq_iff_eq.mpr c15
          have c15b1 : (t362 != t360) = false := bne_eq_false_iff_eq.mpr c15
          clear c15
          replace H := Option.bind_eq_some_iff.mp H
          obtain ⟨t363, A160, H⟩ := H
          replace H : (some t363) = some r := H
          have A16 := Aside0.mk A160
          clear A160
          obtain rfl := Option.some.inj H
          simp only [Option.some.injEq, Prod.mk.injEq] at H
          obtain ⟨rfl⟩ := H
          go_enter Tryd.func6, Tryd.ntmps6
          go_wp2_with (first | ((with_reducible refine gate_callee (f := 23) rfl ?_); refine goesL_ (some 29) rfl rfl Tryd.func23 (by kernel_rfl) rfl #[.string a0, .string a1, .int .i64 a3, .int .i64 a5, .slice A6 l6.length c6] rfl (by (try simp only [List.map_toArray, List.map_cons, List.map_nil]); first | done | rfl | (simp only [List.length_drop, List.length_take]; rfl)) ?_; (with_reducible refine (provenderref8_Included.calls k a0 a1 a3 a5 _ _ l6 t355 t356 _ ?side1 ?side2 A8.out).mono ?_); (case side1 => repeat (first | exact HR6.out | (with_reducible refine Kd.C_alloc ?_ _) | (with_reducible refine Kd.C_drewN ?_ _) | (with_reducible refine Kd.C_drew ?_))); (case side2 => exact HC6.out); rintro e w17 ⟨rfl, hb⟩; refine ⟨_, rfl, ?_⟩; have n0_ := Aside0.mk (below_step (by repeat (first | (with_reducible first | exact HB.out | apply below_alloc | apply pw_below_drewN | apply below_drew1) | exact HB.out)) hb); clear HB; have HB := n0_; clear n0_; (try clear hb); (try clear hb2); (try clear hk); (try clear hi)) | ((with_reducible refine gate_callee (f := 24) rfl ?_); refine goesL_ (some 38) rfl rfl Tryd.func24 (by kernel_rfl) rfl #[.string a0, .string a1, .int .i64 a3, .int .i64 a5, .slice A6 l6.length c6] rfl (by (try simp only [List.map_toArray, List.map_cons, List.map_nil]); first | done | rfl | (simp only [List.length_drop, List.length_take]; rfl)) ?_; (with_reducible refine (attest_Included.calls k a0 a1 a3 a5 _ _ l6 t357 t358 _ (HLd.out.below (by repeat (first | (with_reducible first | exact HB.out | apply below_alloc | apply pw_below_drewN | apply below_drew1) | exact HB.out))) ?side1 ?side2 A9.out).mono ?_); (case side1 => repeat (first | exact (Kd.C_below HR6.out HB.out) | (with_reducible refine Kd.C_alloc ?_ _) | (with_reducible refine Kd.C_drewN ?_ _) | (with_reducible refine Kd.C_drew ?_))); (case side2 => exact HC6.out); rintro e w18 ⟨rfl, hb⟩; refine ⟨_, rfl, ?_⟩; have n0_ := Aside0.mk (below_step (by repeat (first | (with_reducible first | exact HB.out | apply below_alloc | apply pw_below_drewN | apply below_drew1) | exact HB.out)) hb); clear HB; have HB := n0_; clear n0_; (try clear hb); (try clear hb2); (try clear hk); (try clear hi)) | ((with_reducible refine gate_callee (f := 25) rfl ?_); refine goesL_ (some 47) rfl rfl Tryd.func25 (by kernel_rfl) rfl #[.string a2, .string a0, .int .i64 a4, .int .i64 a5, .slice A6 l6.length c6] rfl (by (try simp only [List.map_toArray, List.map_cons, List.map_nil]); first | done | rfl | (simp only [List.length_drop, List.length_take]; rfl)) ?_; (with_reducible refine (provenderref8_Consistent.calls k a2 a0 a4 a5 _ _ l6 t359 t360 _ ?side1 ?side2 A10.out).mono ?_); (case side1 => repeat (first | exact (Kd.C_below HR6.out HB.out) | (with_reducible refine Kd.C_alloc ?_ _) | (with_reducible refine Kd.C_drewN ?_ _) | (with_reducible refine Kd.C_drew ?_))); (case side2 => exact HC6.out); rintro e w19 ⟨rfl, hb⟩; refine ⟨_, rfl, ?_⟩; have n0_ := Aside0.mk (below_step (by repeat (first | (with_reducible first | exact HB.out | apply below_alloc | apply pw_below_drewN | apply below_drew1) | exact HB.out)) hb); clear HB; have HB := n0_; clear n0_; (try clear hb); (try clear hb2); (try clear hk); (try clear hi)) | ((with_reducible refine gate_callee (f := 26) rfl ?_); refine goesL_ (some 56) rfl rfl Tryd.func26 (by kernel_rfl) rfl #[.string a2, .string a0, .int .i64 a4, .int .i64 a5, .slice A6 l6.length c6] rfl (by (try simp only [List.map_toArray, List.map_cons, List.map_nil]); first | done | rfl | (simp only [List.length_drop, List.length_take]; rfl)) ?_; (with_reducible refine (attest_Consistent.calls k a2 a0 a4 a5 _ _ l6 t361 t362 _ (HLd.out.below (by repeat (first | (with_reducible first | exact HB.out | apply below_alloc | apply pw_below_drewN | apply below_drew1) | exact HB.out))) ?side1 ?side2 A11.out).mono ?_); (case side1 => repeat (first | exact (Kd.C_below HR6.out HB.out) | (with_reducible refine Kd.C_alloc ?_ _) | (with_reducible refine Kd.C_drewN ?_ _) | (with_reducible refine Kd.C_drew ?_))); (case side2 => exact HC6.out); rintro e w20 ⟨rfl, hb⟩; refine ⟨_, rfl, ?_⟩; have n0_ := Aside0.mk (below_step (by repeat (first | (with_reducible first | exact HB.out | apply below_alloc | apply pw_below_drewN | apply below_drew1) | exact HB.out)) hb); clear HB; have HB := n0_; clear n0_; (try clear hb); (try clear hb2); (try clear hk); (try clear hi)) | (go_at_call 18; (with_reducible refine (provenderlaw8_told.calls k  t363 _ (HLd.out.below (by repeat (first | (with_reducible first | exact HB.out | apply below_alloc | apply pw_below_drewN | apply below_drew1) | exact HB.out))) A16.out).mono ?_); rintro e w21 ⟨rfl, hb⟩; have n0_ := Aside0.mk (below_step (by repeat (first | (with_reducible first | exact HB.out | apply below_alloc | apply pw_below_drewN | apply below_drew1) | exact HB.out)) hb); clear HB; have HB := n0_; clear n0_; (try clear hb); (try clear hb2); (try clear hk); (try clear hi)))
          go_ret
          exact ⟨by first | rfl | (simp [errW_none, errW_some] <;> rfl) | (simp [*, errW_none, errW_some] <;> rfl), by repeat (first | (with_reducible first | exact HB.out | apply below_alloc | apply pw_below_drewN | apply below_drew1) | exact HB.out)⟩
        · rw [if_neg c15] at H
          have c15b0 : (t362 == t360) = false := beq_eq_false_iff_ne.mpr c15
          have c15b1 : (t362 != t360) = true := bne_iff_ne.mpr c15
          obtain rfl := Option.some.inj H
          exact absurd hrt.out (by decide)
      · rw [if_neg c14] at H
        have c14b0 : (t361 == t359) = false := by simpa using c14
        (try (have c14b1 : decide (t361 = t359) = false := by simpa using c14))
        (try (have c14b2 : (t361 == t359) = false := by simpa using c14))
        (try (have c14b3 : ¬ (t361 = t359) := by simpa using c14))
        clear c14
        obtain rfl := Option.some.inj H
        exact absurd hrt.out (by decide)
    · rw [if_neg c13] at H
      have c13b0 : (t358 == t356) = false := beq_eq_false_iff_ne.mpr c13
      have c13b1 : (t358 != t356) = true := bne_iff_ne.mpr c13
      obtain rfl := Option.some.inj H
      exact absurd hrt.out (by decide)
  · rw [if_neg c12] at H
    have c12b0 : (t357 == t355) = false := by simpa using c12
    (try (have c12b1 : decide (t357 = t355) = false := by simpa using c12))
    (try (have c12b2 : (t357 == t355) = false := by simpa using c12))
    (try (have c12b3 : ¬ (t357 = t355) := by simpa using c12))
    clear c12
    obtain rfl := Option.some.inj H
    exact absurd hrt.out (by decide)
end Go.Proofs.YtdmmglihkdkeaaaDoor.Pr
