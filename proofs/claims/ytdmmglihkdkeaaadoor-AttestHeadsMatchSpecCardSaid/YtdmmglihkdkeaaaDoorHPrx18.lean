-- Written by a program of the session (wip/pr.py) out of the translation; Lean checks it.
import Derived.Test.YtdmmglihkdkeaaaDoorHPrx0
import Derived.Test.YtdmmglihkdkeaaaDoorHPrx3
import Derived.Test.YtdmmglihkdkeaaaDoorHPrx10
import Derived.Test.YtdmmglihkdkeaaaDoorHPrx14
import Derived.Test.YtdmmglihkdkeaaaDoorHPrx16
import Derived.Test.YtdmmglihkdkeaaaDoorHPrx17
namespace Go.Proofs.YtdmmglihkdkeaaaDoor.Pr
open Go.RowKit Go.Proofs.YtdmmglihkdkeaaaDoorW.PrintWords Go.Proofs.YtdmmglihkdkeaaaDoorW.PrintLast Go.Proofs.YtdmmglihkdkeaaaDoorW.PrintMore
attribute [local go_sem] max2_int min2_int max_two min_two max_three min_three max_four min_four   -- for this text's walks alone
set_option linter.unusedVariables false
set_option linter.unusedSimpArgs false
attribute [local go_sem high] eqA37
/-! ### provenderlaw8_AttestHeadsMatchSpec: function 5 -/
def provenderlaw8_AttestHeadsMatchSpec.j0 : Nat → Int → Bool → ByteArray → ByteArray → ByteArray → Int → ByteArray → ByteArray → ByteArray → Option (Bool)
  | 0, _, _, _, _, _, _, _, _, _ => none
  | k + 1, x12, x62, x245000, x245001, x245002, x258000, x258001, x258002, x258003 => if x62 = true then (some false) else (if x12 = 0 then ((attest_HeadSigned.f k x245000 x245001 x245002 x258000 x258001 x258002 x258003).bind fun bt262 => (if bt262.1 = true then (if bt262.2 = 0 then ((provenderlaw8_told.f k).bind fun t264 => (some t264)) else (some false)) else (some false))) else ((provenderlaw8_told.f k).bind fun t265 => (some t265)))
def provenderlaw8_AttestHeadsMatchSpec.f (k : Nat) (a0_0 : ByteArray) (a0_1 : ByteArray) (a0_2 : ByteArray) (a1 : Int) (a2 : ByteArray) (a3_0 : Int) (a3_1 : ByteArray) (a3_2 : ByteArray) (a3_3 : ByteArray) : Option (Bool) := (provenderref8_SignHead.f k a0_0 a0_1 a0_2 a1 a2).bind fun bt246 => ((attest_SignHead.f k a0_0 a0_1 a0_2 a1 a2).bind fun bt252 => ((provenderref8_HeadSigned.f k a0_0 a0_1 a0_2 a3_0 a3_1 a3_2 a3_3).bind fun bt258 => ((attest_HeadSigned.f k a0_0 a0_1 a0_2 a3_0 a3_1 a3_2 a3_3).bind fun bt260 => (if (!(bt252.1 == bt246.1) || (!(bt252.2.1.toList == bt246.2.1.toList) || ((!(bt252.2.2.1.toList == bt246.2.2.1.toList) || (!(bt252.2.2.2.1.toList == bt246.2.2.2.1.toList)))))) = true then (provenderlaw8_AttestHeadsMatchSpec.j0 k bt252.2.2.2.2 true a0_0 a0_1 a0_2 bt252.1 bt252.2.1 bt252.2.2.1 bt252.2.2.2.1) else (if bt252.2.2.2.2 = bt246.2.2.2.2 then (if (bt260.1 != bt258.1) = true then (provenderlaw8_AttestHeadsMatchSpec.j0 k bt252.2.2.2.2 true a0_0 a0_1 a0_2 bt252.1 bt252.2.1 bt252.2.2.1 bt252.2.2.2.1) else (provenderlaw8_AttestHeadsMatchSpec.j0 k bt252.2.2.2.2 (bt260.2 != bt258.2) a0_0 a0_1 a0_2 bt252.1 bt252.2.1 bt252.2.2.1 bt252.2.2.2.1)) else (provenderlaw8_AttestHeadsMatchSpec.j0 k bt252.2.2.2.2 true a0_0 a0_1 a0_2 bt252.1 bt252.2.1 bt252.2.2.1 bt252.2.2.2.1))))))
set_option maxHeartbeats 8000000 in
set_option maxRecDepth 100000 in
theorem provenderlaw8_AttestHeadsMatchSpec.calls (k : Nat) (a0_0 : ByteArray) (a0_1 : ByteArray) (a0_2 : ByteArray) (a1 : Int) (a2 : ByteArray) (a3_0 : Int) (a3_1 : ByteArray) (a3_2 : ByteArray) (a3_3 : ByteArray) (r : Bool) (w : World) (hL : LaidW w) (h : provenderlaw8_AttestHeadsMatchSpec.f k a0_0 a0_1 a0_2 a1 a2 a3_0 a3_1 a3_2 a3_3 = some r) (hrt : Aside0 (r = true)) :
    Calls Tryd.prog 5 #[.agg #[.string a0_0, .string a0_1, .string a0_2], .int .i64 a1, .string a2, .agg #[.int .i64 a3_0, .string a3_1, .string a3_2, .string a3_3]] w fun e w' => e = .returned (.bool r) ∧ Below w.heap.size w w' := by
  have HLd := Aside0.mk hL
  clear hL
  have hu23 := Tryd.underlying23
  have hu37 := Tryd.underlying37
  have HB := Aside0.mk (Below.refl w.heap.size w)
  have H : ((provenderref8_SignHead.f k a0_0 a0_1 a0_2 a1 a2).bind fun bt246 => ((attest_SignHead.f k a0_0 a0_1 a0_2 a1 a2).bind fun bt252 => ((provenderref8_HeadSigned.f k a0_0 a0_1 a0_2 a3_0 a3_1 a3_2 a3_3).bind fun bt258 => ((attest_HeadSigned.f k a0_0 a0_1 a0_2 a3_0 a3_1 a3_2 a3_3).bind fun bt260 => (if (!(bt252.1 == bt246.1) || (!(bt252.2.1.toList == bt246.2.1.toList) || ((!(bt252.2.2.1.toList == bt246.2.2.1.toList) || (!(bt252.2.2.2.1.toList == bt246.2.2.2.1.toList)))))) = true then (provenderlaw8_AttestHeadsMatchSpec.j0 k bt252.2.2.2.2 true a0_0 a0_1 a0_2 bt252.1 bt252.2.1 bt252.2.2.1 bt252.2.2.2.1) else (if bt252.2.2.2.2 = bt246.2.2.2.2 then (if (bt260.1 != bt258.1) = true then (provenderlaw8_AttestHeadsMatchSpec.j0 k bt252.2.2.2.2 true a0_0 a0_1 a0_2 bt252.1 bt252.2.1 bt252.2.2.1 bt252.2.2.2.1) else (provenderlaw8_AttestHeadsMatchSpec.j0 k bt252.2.2.2.2 (bt260.2 != bt258.2) a0_0 a0_1 a0_2 bt252.1 bt252.2.1 bt252.2.2.1 bt252.2.2.2.1)) else (provenderlaw8_AttestHeadsMatchSpec.j0 k bt252.2.2.2.2 true a0_0 a0_1 a0_2 bt252.1 bt252.2.1 bt252.2.2.1 bt252.2.2.2.1))))))) = some r := h
  clear h
  replace H := Option.bind_eq_some_iff.mp H
  obtain ⟨⟨t246, t247, t248, t249, t250⟩, A50, H⟩ := H
  replace H : ((attest_SignHead.f k a0_0 a0_1 a0_2 a1 a2).bind fun bt252 => ((provenderref8_HeadSigned.f k a0_0 a0_1 a0_2 a3_0 a3_1 a3_2 a3_3).bind fun bt258 => ((attest_HeadSigned.f k a0_0 a0_1 a0_2 a3_0 a3_1 a3_2 a3_3).bind fun bt260 => (if (!(bt252.1 == t246) || (!(bt252.2.1.toList == t247.toList) || ((!(bt252.2.2.1.toList == t248.toList) || (!(bt252.2.2.2.1.toList == t249.toList)))))) = true then (provenderlaw8_AttestHeadsMatchSpec.j0 k bt252.2.2.2.2 true a0_0 a0_1 a0_2 bt252.1 bt252.2.1 bt252.2.2.1 bt252.2.2.2.1) else (if bt252.2.2.2.2 = t250 then (if (bt260.1 != bt258.1) = true then (provenderlaw8_AttestHeadsMatchSpec.j0 k bt252.2.2.2.2 true a0_0 a0_1 a0_2 bt252.1 bt252.2.1 bt252.2.2.1 bt252.2.2.2.1) else (provenderlaw8_AttestHeadsMatchSpec.j0 k bt252.2.2.2.2 (bt260.2 != bt258.2) a0_0 a0_1 a0_2 bt252.1 bt252.2.1 bt252.2.2.1 bt252.2.2.2.1)) else (provenderlaw8_AttestHeadsMatchSpec.j0 k bt252.2.2.2.2 true a0_0 a0_1 a0_2 bt252.1 bt252.2.1 bt252.2.2.1 bt252.2.2.2.1)))))) = some r := H
  have A5 := Aside0.mk A50
  clear A50
  replace H := Option.bind_eq_some_iff.mp H
  obtain ⟨⟨t252, t253, t254, t255, t256⟩, A60, H⟩ := H
  replace H : ((provenderref8_HeadSigned.f k a0_0 a0_1 a0_2 a3_0 a3_1 a3_2 a3_3).bind fun bt258 => ((attest_HeadSigned.f k a0_0 a0_1 a0_2 a3_0 a3_1 a3_2 a3_3).bind fun bt260 => (if (!(t252 == t246) || (!(t253.toList == t247.toList) || ((!(t254.toList == t248.toList) || (!(t255.toList == t249.toList)))))) = true then (provenderlaw8_AttestHeadsMatchSpec.j0 k t256 true a0_0 a0_1 a0_2 t252 t253 t254 t255) else (if t256 = t250 then (if (bt260.1 != bt258.1) = true then (provenderlaw8_AttestHeadsMatchSpec.j0 k t256 true a0_0 a0_1 a0_2 t252 t253 t254 t255) else (provenderlaw8_AttestHeadsMatchSpec.j0 k t256 (bt260.2 != bt258.2) a0_0 a0_1 a0_2 t252 t253 t254 t255)) else (provenderlaw8_AttestHeadsMatchSpec.j0 k t256 true a0_0 a0_1 a0_2 t252 t253 t254 t255))))) = some r := H
  have A6 := Aside0.mk A60
  clear A60
  replace H := Option.bind_eq_some_iff.mp H
  obtain ⟨⟨t258, t259⟩, A70, H⟩ := H
  replace H : ((attest_HeadSigned.f k a0_0 a0_1 a0_2 a3_0 a3_1 a3_2 a3_3).bind fun bt260 => (if (!(t252 == t246) || (!(t253.toList == t247.toList) || ((!(t254.toList == t248.toList) || (!(t255.toList == t249.toList)))))) = true then (provenderlaw8_AttestHeadsMatchSpec.j0 k t256 true a0_0 a0_1 a0_2 t252 t253 t254 t255) else (if t256 = t250 then (if (bt260.1 != t258) = true then (provenderlaw8_AttestHeadsMatchSpec.j0 k t256 true a0_0 a0_1 a0_2 t252 t253 t254 t255) else (provenderlaw8_AttestHeadsMatchSpec.j0 k t256 (bt260.2 != t259) a0_0 a0_1 a0_2 t252 t253 t254 t255)) else (provenderlaw8_AttestHeadsMatchSpec.j0 k t256 true a0_0 a0_1 a0_2 t252 t253 t254 t255)))) = some r := H
  have A7 := Aside0.mk A70
  clear A70
  replace H := Option.bind_eq_some_iff.mp H
  obtain ⟨⟨t260, t261⟩, A80, H⟩ := H
  replace H : (if (!(t252 == t246) || (!(t253.toList == t247.toList) || ((!(t254.toList == t248.toList) || (!(t255.toList == t249.toList)))))) = true then (provenderlaw8_AttestHeadsMatchSpec.j0 k t256 true a0_0 a0_1 a0_2 t252 t253 t254 t255) else (if t256 = t250 then (if (t260 != t258) = true then (provenderlaw8_AttestHeadsMatchSpec.j0 k t256 true a0_0 a0_1 a0_2 t252 t253 t254 t255) else (provenderlaw8_AttestHeadsMatchSpec.j0 k t256 (t261 != t259) a0_0 a0_1 a0_2 t252 t253 t254 t255)) else (provenderlaw8_AttestHeadsMatchSpec.j0 k t256 true a0_0 a0_1 a0_2 t252 t253 t254 t255))) = some r := H
  have A8 := Aside0.mk A80
  clear A80
  have HC9 := Aside0.mk H
  clear H
  go_enter Tryd.func5, Tryd.ntmps5
  go_upto_region 5 with (first | ((with_reducible refine gate_dst (N := 4) rfl ?_); refine box_event ?hg (N := 4) ?hd (cs := #[.string a0_0, .string a0_1, .string a0_2]) (t := 23) ?hr ?_; (case hd => rfl); (case hg => rfl); (case hr => first | (go_simp; done) | (go_simp; rfl)); intro gb244 hg w10 hbox hb; have n0_ := Aside0.mk (below_step (by repeat (first | (with_reducible first | exact HB.out | apply below_alloc | apply pw_below_drewN | apply below_drew1) | exact HB.out)) hb); have n1_ := Aside0.mk (hbox); have n2_ := Aside0.mk ((by rw [hg]; exact (below_size (by repeat (first | (with_reducible first | exact HB.out | apply below_alloc | apply pw_below_drewN | apply below_drew1) | exact HB.out))) : w.heap.size ≤ gb244)); have n3_ := Aside0.mk ((by rw [hg]; exact (below_size (by repeat (first | (with_reducible first | exact HB.out | apply below_alloc | apply pw_below_drewN | apply below_drew1) | exact HB.out))) : w.heap.size ≤ gb244)); clear HB; have HB := n0_; have BK244 := n1_; have GW244 := n2_; have GE244 := n3_; clear n0_ n1_ n2_ n3_; clear hb hbox hg) | ((with_reducible refine gate_dst (N := 7) rfl ?_); refine box_event ?hg (N := 7) ?hd (cs := #[.int .i64 a3_0, .string a3_1, .string a3_2, .string a3_3]) (t := 37) ?hr ?_; (case hd => rfl); (case hg => rfl); (case hr => first | (go_simp; done) | (go_simp; rfl)); intro gb245 hg w11 hbox hb; have n0_ := Aside0.mk (blk_below (g := gb244) (o := .cells #[.string a0_0, .string a0_1, .string a0_2] 23 (0, 0)) (by (with_reducible repeat (first | refine blk_drewN ?_ _ | refine blk_drew ?_ | refine blk_alloc ?_ _)); exact BK244.out) hb); have n1_ := Aside0.mk (below_step (by repeat (first | (with_reducible first | exact HB.out | apply below_alloc | apply pw_below_drewN | apply below_drew1 | refine below_set ?_ GE244.out) | exact HB.out)) hb); have n2_ := Aside0.mk (hbox); have n3_ := Aside0.mk ((by rw [hg]; exact (below_size (by repeat (first | (with_reducible first | exact HB.out | apply below_alloc | apply pw_below_drewN | apply below_drew1 | refine below_set ?_ GE244.out) | exact HB.out))) : w.heap.size ≤ gb245)); have n4_ := Aside0.mk ((by rw [hg]; exact (below_size (by repeat (first | (with_reducible first | exact HB.out | apply below_alloc | apply pw_below_drewN | apply below_drew1 | refine below_set ?_ GE244.out) | exact HB.out))) : w.heap.size ≤ gb245)); have n5_ := Aside0.mk ((by rw [hg]; exact Nat.ne_of_lt (blk_lt (g := gb244) (o := .cells #[.string a0_0, .string a0_1, .string a0_2] 23 (0, 0)) (by (with_reducible repeat (first | refine blk_drewN ?_ _ | refine blk_drew ?_ | refine blk_alloc ?_ _)); exact BK244.out)) : gb244 ≠ gb245)); have n6_ := Aside0.mk ((by rw [hg]; exact Nat.ne_of_gt (blk_lt (g := gb244) (o := .cells #[.string a0_0, .string a0_1, .string a0_2] 23 (0, 0)) (by (with_reducible repeat (first | refine blk_drewN ?_ _ | refine blk_drew ?_ | refine blk_alloc ?_ _)); exact BK244.out)) : gb245 ≠ gb244)); clear BK244; clear HB; have BK244 := n0_; have HB := n1_; have BK245 := n2_; have GW245 := n3_; have GE245 := n4_; have NB244_245 := n5_; have NB245_244 := n6_; clear n0_ n1_ n2_ n3_ n4_ n5_ n6_; clear hb hbox hg; have hnb12 := NB244_245.out; have hnc12 := NB245_244.out; have hcz13_0 : w11.cell? ⟨gb244, 0, none⟩ = some (.string a0_0) := (blk_cell BK244.out 0).trans rfl; have hcz13_1 : w11.cell? ⟨gb244, 1, none⟩ = some (.string a0_1) := (blk_cell BK244.out 1).trans rfl; have hcz13_2 : w11.cell? ⟨gb244, 2, none⟩ = some (.string a0_2) := (blk_cell BK244.out 2).trans rfl; have hfz13_0 := blk_frozen BK244.out 0; have hfz13_1 := blk_frozen BK244.out 1; have hfz13_2 := blk_frozen BK244.out 2) | ((with_reducible refine gate_callee (f := 19) rfl ?_); refine goesL_ (some 23) rfl rfl Tryd.func19 (by kernel_rfl) rfl #[.agg #[.string a0_0, .string a0_1, .string a0_2], .int .i64 a1, .string a2] rfl (by (try simp only [List.map_toArray, List.map_cons, List.map_nil]); first | done | rfl | (simp only [List.length_drop, List.length_take]; rfl)) ?_; (with_reducible refine (provenderref8_SignHead.calls k a0_0 a0_1 a0_2 a1 a2 t246 t247 t248 t249 t250 _ (HLd.out.below (by repeat (first | (with_reducible first | exact HB.out | apply below_alloc | apply pw_below_drewN | apply below_drew1 | refine below_set ?_ GE244.out | refine below_set ?_ GE245.out) | exact HB.out))) A5.out).mono ?_); rintro e w14 ⟨rfl, hb⟩; refine ⟨_, rfl, ?_⟩; have n0_ := Aside0.mk (blk_below (g := gb244) (o := .cells #[.string a0_0, .string a0_1, .string a0_2] 23 (0, 0)) (by (with_reducible repeat (first | refine blk_drewN ?_ _ | refine blk_drew ?_ | refine blk_alloc ?_ _)); exact BK244.out) hb); have n1_ := Aside0.mk (blk_below (g := gb245) (o := .cells #[.int .i64 a3_0, .string a3_1, .string a3_2, .string a3_3] 37 (0, 0)) (by (with_reducible repeat (first | refine blk_drewN ?_ _ | refine blk_drew ?_ | refine blk_alloc ?_ _)); exact BK245.out) hb); have n2_ := Aside0.mk (below_step (by repeat (first | (with_reducible first | exact HB.out | apply below_alloc | apply pw_below_drewN | apply below_drew1 | refine below_set ?_ GE244.out | refine below_set ?_ GE245.out) | exact HB.out)) hb); clear BK244; clear BK245; clear HB; have BK244 := n0_; have BK245 := n1_; have HB := n2_; clear n0_ n1_ n2_; (try clear hb); (try clear hb2); (try clear hk); (try clear hi)) | ((with_reducible refine gate_dst (N := 9) rfl ?_); refine box_event ?hg (N := 9) ?hd (cs := #[.int .i64 0, .string (⟨#[]⟩ : ByteArray), .string (⟨#[]⟩ : ByteArray), .string (⟨#[]⟩ : ByteArray)]) (t := 37) ?hr ?_; (case hd => rfl); (case hg => rfl); (case hr => first | (go_simp; done) | (go_simp; rfl)); intro gb251 hg w15 hbox hb; have n0_ := Aside0.mk (blk_below (g := gb244) (o := .cells #[.string a0_0, .string a0_1, .string a0_2] 23 (0, 0)) (by (with_reducible repeat (first | refine blk_drewN ?_ _ | refine blk_drew ?_ | refine blk_alloc ?_ _)); exact BK244.out) hb); have n1_ := Aside0.mk (blk_below (g := gb245) (o := .cells #[.int .i64 a3_0, .string a3_1, .string a3_2, .string a3_3] 37 (0, 0)) (by (with_reducible repeat (first | refine blk_drewN ?_ _ | refine blk_drew ?_ | refine blk_alloc ?_ _)); exact BK245.out) hb); have n2_ := Aside0.mk (below_step (by repeat (first | (with_reducible first | exact HB.out | apply below_alloc | apply pw_below_drewN | apply below_drew1 | refine below_set ?_ GE244.out | refine below_set ?_ GE245.out) | exact HB.out)) hb); have n3_ := Aside0.mk (hbox); have n4_ := Aside0.mk ((by rw [hg]; exact (below_size (by repeat (first | (with_reducible first | exact HB.out | apply below_alloc | apply pw_below_drewN | apply below_drew1 | refine below_set ?_ GE244.out | refine below_set ?_ GE245.out) | exact HB.out))) : w.heap.size ≤ gb251)); have n5_ := Aside0.mk ((by rw [hg]; exact (below_size (by repeat (first | (with_reducible first | exact HB.out | apply below_alloc | apply pw_below_drewN | apply below_drew1 | refine below_set ?_ GE244.out | refine below_set ?_ GE245.out) | exact HB.out))) : w.heap.size ≤ gb251)); have n6_ := Aside0.mk ((by rw [hg]; exact Nat.ne_of_lt (blk_lt (g := gb244) (o := .cells #[.string a0_0, .string a0_1, .string a0_2] 23 (0, 0)) (by (with_reducible repeat (first | refine blk_drewN ?_ _ | refine blk_drew ?_ | refine blk_alloc ?_ _)); exact BK244.out)) : gb244 ≠ gb251)); have n7_ := Aside0.mk ((by rw [hg]; exact Nat.ne_of_gt (blk_lt (g := gb244) (o := .cells #[.string a0_0, .string a0_1, .string a0_2] 23 (0, 0)) (by (with_reducible repeat (first | refine blk_drewN ?_ _ | refine blk_drew ?_ | refine blk_alloc ?_ _)); exact BK244.out)) : gb251 ≠ gb244)); have n8_ := Aside0.mk ((by rw [hg]; exact Nat.ne_of_lt (blk_lt (g := gb245) (o := .cells #[.int .i64 a3_0, .string a3_1, .string a3_2, .string a3_3] 37 (0, 0)) (by (with_reducible repeat (first | refine blk_drewN ?_ _ | refine blk_drew ?_ | refine blk_alloc ?_ _)); exact BK245.out)) : gb245 ≠ gb251)); have n9_ := Aside0.mk ((by rw [hg]; exact Nat.ne_of_gt (blk_lt (g := gb245) (o := .cells #[.int .i64 a3_0, .string a3_1, .string a3_2, .string a3_3] 37 (0, 0)) (by (with_reducible repeat (first | refine blk_drewN ?_ _ | refine blk_drew ?_ | refine blk_alloc ?_ _)); exact BK245.out)) : gb251 ≠ gb245)); clear BK244; clear BK245; clear HB; have BK244 := n0_; have BK245 := n1_; have HB := n2_; have BK251 := n3_; have GW251 := n4_; have GE251 := n5_; have NB244_251 := n6_; have NB251_244 := n7_; have NB245_251 := n8_; have NB251_245 := n9_; clear n0_ n1_ n2_ n3_ n4_ n5_ n6_ n7_ n8_ n9_; clear hb hbox hg; have hnb16 := NB251_244.out; have hnc16 := NB244_251.out; have hnb17 := NB251_245.out; have hnc17 := NB245_251.out; have hcz18_0 : w15.cell? ⟨gb251, 0, none⟩ = some (.int .i64 0) := (blk_cell BK251.out 0).trans rfl; have hcz18_1 : w15.cell? ⟨gb251, 1, none⟩ = some (.string (⟨#[]⟩ : ByteArray)) := (blk_cell BK251.out 1).trans rfl; have hcz18_2 : w15.cell? ⟨gb251, 2, none⟩ = some (.string (⟨#[]⟩ : ByteArray)) := (blk_cell BK251.out 2).trans rfl; have hcz18_3 : w15.cell? ⟨gb251, 3, none⟩ = some (.string (⟨#[]⟩ : ByteArray)) := (blk_cell BK251.out 3).trans rfl; have hfz18_0 := blk_frozen BK251.out 0; have hfz18_1 := blk_frozen BK251.out 1; have hfz18_2 := blk_frozen BK251.out 2; have hfz18_3 := blk_frozen BK251.out 3; have hcz19_0 : w15.cell? ⟨gb244, 0, none⟩ = some (.string a0_0) := (blk_cell BK244.out 0).trans rfl; have hcz19_1 : w15.cell? ⟨gb244, 1, none⟩ = some (.string a0_1) := (blk_cell BK244.out 1).trans rfl; have hcz19_2 : w15.cell? ⟨gb244, 2, none⟩ = some (.string a0_2) := (blk_cell BK244.out 2).trans rfl; have hfz19_0 := blk_frozen BK244.out 0; have hfz19_1 := blk_frozen BK244.out 1; have hfz19_2 := blk_frozen BK244.out 2) | ((with_reducible refine gate_callee (f := 20) rfl ?_); refine goesL_ (some 30) rfl rfl Tryd.func20 (by kernel_rfl) rfl #[.agg #[.string a0_0, .string a0_1, .string a0_2], .int .i64 a1, .string a2] rfl (by (try simp only [List.map_toArray, List.map_cons, List.map_nil]); first | done | rfl | (simp only [List.length_drop, List.length_take]; rfl)) ?_; (with_reducible refine (attest_SignHead.calls k a0_0 a0_1 a0_2 a1 a2 t252 t253 t254 t255 t256 _ (HLd.out.below (by repeat (first | (with_reducible first | exact HB.out | apply below_alloc | apply pw_below_drewN | apply below_drew1 | refine below_set ?_ GE244.out | refine below_set ?_ GE245.out | refine below_set ?_ GE251.out) | exact HB.out))) A6.out).mono ?_); rintro e w20 ⟨rfl, hb⟩; refine ⟨_, rfl, ?_⟩; have n0_ := Aside0.mk (blk_below (g := gb244) (o := .cells #[.string a0_0, .string a0_1, .string a0_2] 23 (0, 0)) (by (with_reducible repeat (first | refine blk_drewN ?_ _ | refine blk_drew ?_ | refine blk_alloc ?_ _)); refine blk_far ?_ NB244_251.out _; (with_reducible repeat (first | refine blk_drewN ?_ _ | refine blk_drew ?_ | refine blk_alloc ?_ _)); refine blk_far ?_ NB244_251.out _; (with_reducible repeat (first | refine blk_drewN ?_ _ | refine blk_drew ?_ | refine blk_alloc ?_ _)); refine blk_far ?_ NB244_251.out _; (with_reducible repeat (first | refine blk_drewN ?_ _ | refine blk_drew ?_ | refine blk_alloc ?_ _)); refine blk_far ?_ NB244_251.out _; (with_reducible repeat (first | refine blk_drewN ?_ _ | refine blk_drew ?_ | refine blk_alloc ?_ _)); exact BK244.out) hb); have n1_ := Aside0.mk (blk_below (g := gb245) (o := .cells #[.int .i64 a3_0, .string a3_1, .string a3_2, .string a3_3] 37 (0, 0)) (by (with_reducible repeat (first | refine blk_drewN ?_ _ | refine blk_drew ?_ | refine blk_alloc ?_ _)); refine blk_far ?_ NB245_251.out _; (with_reducible repeat (first | refine blk_drewN ?_ _ | refine blk_drew ?_ | refine blk_alloc ?_ _)); refine blk_far ?_ NB245_251.out _; (with_reducible repeat (first | refine blk_drewN ?_ _ | refine blk_drew ?_ | refine blk_alloc ?_ _)); refine blk_far ?_ NB245_251.out _; (with_reducible repeat (first | refine blk_drewN ?_ _ | refine blk_drew ?_ | refine blk_alloc ?_ _)); refine blk_far ?_ NB245_251.out _; (with_reducible repeat (first | refine blk_drewN ?_ _ | refine blk_drew ?_ | refine blk_alloc ?_ _)); exact BK245.out) hb); have n2_ := Aside0.mk (blk_below (g := gb251) (o := .cells #[.int .i64 t246, .string t247, .string t248, .string t249] 37 (0, 0)) (by (with_reducible repeat (first | refine blk_drewN ?_ _ | refine blk_drew ?_ | refine blk_alloc ?_ _)); refine blk_put (cs := #[.int .i64 t246, .string t247, .string t248, .string (⟨#[]⟩ : ByteArray)]) ?_ 3 _ rfl; (with_reducible repeat (first | refine blk_drewN ?_ _ | refine blk_drew ?_ | refine blk_alloc ?_ _)); refine blk_put (cs := #[.int .i64 t246, .string t247, .string (⟨#[]⟩ : ByteArray), .string (⟨#[]⟩ : ByteArray)]) ?_ 2 _ rfl; (with_reducible repeat (first | refine blk_drewN ?_ _ | refine blk_drew ?_ | refine blk_alloc ?_ _)); refine blk_put (cs := #[.int .i64 t246, .string (⟨#[]⟩ : ByteArray), .string (⟨#[]⟩ : ByteArray), .string (⟨#[]⟩ : ByteArray)]) ?_ 1 _ rfl; (with_reducible repeat (first | refine blk_drewN ?_ _ | refine blk_drew ?_ | refine blk_alloc ?_ _)); refine blk_put (cs := #[.int .i64 0, .string (⟨#[]⟩ : ByteArray), .string (⟨#[]⟩ : ByteArray), .string (⟨#[]⟩ : ByteArray)]) ?_ 0 _ rfl; (with_reducible repeat (first | refine blk_drewN ?_ _ | refine blk_drew ?_ | refine blk_alloc ?_ _)); exact BK251.out) hb); have n3_ := Aside0.mk (below_step (by repeat (first | (with_reducible first | exact HB.out | apply below_alloc | apply pw_below_drewN | apply below_drew1 | refine below_set ?_ GE244.out | refine below_set ?_ GE245.out | refine below_set ?_ GE251.out) | exact HB.out)) hb); clear BK244; clear BK245; clear BK251; clear HB; have BK244 := n0_; have BK245 := n1_; have BK251 := n2_; have HB := n3_; clear n0_ n1_ n2_ n3_; (try clear hb); (try clear hb2); (try clear hk); (try clear hi)) | ((with_reducible refine gate_dst (N := 11) rfl ?_); refine box_event ?hg (N := 11) ?hd (cs := #[.int .i64 0, .string (⟨#[]⟩ : ByteArray), .string (⟨#[]⟩ : ByteArray), .string (⟨#[]⟩ : ByteArray)]) (t := 37) ?hr ?_; (case hd => rfl); (case hg => rfl); (case hr => first | (go_simp; done) | (go_simp; rfl)); intro gb257 hg w21 hbox hb; have n0_ := Aside0.mk (blk_below (g := gb244) (o := .cells #[.string a0_0, .string a0_1, .string a0_2] 23 (0, 0)) (by (with_reducible repeat (first | refine blk_drewN ?_ _ | refine blk_drew ?_ | refine blk_alloc ?_ _)); exact BK244.out) hb); have n1_ := Aside0.mk (blk_below (g := gb245) (o := .cells #[.int .i64 a3_0, .string a3_1, .string a3_2, .string a3_3] 37 (0, 0)) (by (with_reducible repeat (first | refine blk_drewN ?_ _ | refine blk_drew ?_ | refine blk_alloc ?_ _)); exact BK245.out) hb); have n2_ := Aside0.mk (blk_below (g := gb251) (o := .cells #[.int .i64 t246, .string t247, .string t248, .string t249] 37 (0, 0)) (by (with_reducible repeat (first | refine blk_drewN ?_ _ | refine blk_drew ?_ | refine blk_alloc ?_ _)); exact BK251.out) hb); have n3_ := Aside0.mk (below_step (by repeat (first | (with_reducible first | exact HB.out | apply below_alloc | apply pw_below_drewN | apply below_drew1 | refine below_set ?_ GE244.out | refine below_set ?_ GE245.out | refine below_set ?_ GE251.out) | exact HB.out)) hb); have n4_ := Aside0.mk (hbox); have n5_ := Aside0.mk ((by rw [hg]; exact (below_size (by repeat (first | (with_reducible first | exact HB.out | apply below_alloc | apply pw_below_drewN | apply below_drew1 | refine below_set ?_ GE244.out | refine below_set ?_ GE245.out | refine below_set ?_ GE251.out) | exact HB.out))) : w.heap.size ≤ gb257)); have n6_ := Aside0.mk ((by rw [hg]; exact (below_size (by repeat (first | (with_reducible first | exact HB.out | apply below_alloc | apply pw_below_drewN | apply below_drew1 | refine below_set ?_ GE244.out | refine below_set ?_ GE245.out | refine below_set ?_ GE251.out) | exact HB.out))) : w.heap.size ≤ gb257)); have n7_ := Aside0.mk ((by rw [hg]; exact Nat.ne_of_lt (blk_lt (g := gb244) (o := .cells #[.string a0_0, .string a0_1, .string a0_2] 23 (0, 0)) (by (with_reducible repeat (first | refine blk_drewN ?_ _ | refine blk_drew ?_ | refine blk_alloc ?_ _)); exact BK244.out)) : gb244 ≠ gb257)); have n8_ := Aside0.mk ((by rw [hg]; exact Nat.ne_of_gt (blk_lt (g := gb244) (o := .cells #[.string a0_0, .string a0_1, .string a0_2] 23 (0, 0)) (by (with_reducible repeat (first | refine blk_drewN ?_ _ | refine blk_drew ?_ | refine blk_alloc ?_ _)); exact BK244.out)) : gb257 ≠ gb244)); have n9_ := Aside0.mk ((by rw [hg]; exact Nat.ne_of_lt (blk_lt (g := gb245) (o := .cells #[.int .i64 a3_0, .string a3_1, .string a3_2, .string a3_3] 37 (0, 0)) (by (with_reducible repeat (first | refine blk_drewN ?_ _ | refine blk_drew ?_ | refine blk_alloc ?_ _)); exact BK245.out)) : gb245 ≠ gb257)); have n10_ := Aside0.mk ((by rw [hg]; exact Nat.ne_of_gt (blk_lt (g := gb245) (o := .cells #[.int .i64 a3_0, .string a3_1, .string a3_2, .string a3_3] 37 (0, 0)) (by (with_reducible repeat (first | refine blk_drewN ?_ _ | refine blk_drew ?_ | refine blk_alloc ?_ _)); exact BK245.out)) : gb257 ≠ gb245)); have n11_ := Aside0.mk ((by rw [hg]; exact Nat.ne_of_lt (blk_lt (g := gb251) (o := .cells #[.int .i64 t246, .string t247, .string t248, .string t249] 37 (0, 0)) (by (with_reducible repeat (first | refine blk_drewN ?_ _ | refine blk_drew ?_ | refine blk_alloc ?_ _)); exact BK251.out)) : gb251 ≠ gb257)); have n12_ := Aside0.mk ((by rw [hg]; exact Nat.ne_of_gt (blk_lt (g := gb251) (o := .cells #[.int .i64 t246, .string t247, .string t248, .string t249] 37 (0, 0)) (by (with_reducible repeat (first | refine blk_drewN ?_ _ | refine blk_drew ?_ | refine blk_alloc ?_ _)); exact BK251.out)) : gb257 ≠ gb251)); clear BK244; clear BK245; clear BK251; clear HB; have BK244 := n0_; have BK245 := n1_; have BK251 := n2_; have HB := n3_; have BK257 := n4_; have GW257 := n5_; have GE257 := n6_; have NB244_257 := n7_; have NB257_244 := n8_; have NB245_257 := n9_; have NB257_245 := n10_; have NB251_257 := n11_; have NB257_251 := n12_; clear n0_ n1_ n2_ n3_ n4_ n5_ n6_ n7_ n8_ n9_ n10_ n11_ n12_; clear hb hbox hg; have hnb22 := NB257_244.out; have hnc22 := NB244_257.out; have hnb23 := NB257_245.out; have hnc23 := NB245_257.out; have hnb24 := NB257_251.out; have hnc24 := NB251_257.out; have hcz25_0 : w21.cell? ⟨gb257, 0, none⟩ = some (.int .i64 0) := (blk_cell BK257.out 0).trans rfl; have hcz25_1 : w21.cell? ⟨gb257, 1, none⟩ = some (.string (⟨#[]⟩ : ByteArray)) := (blk_cell BK257.out 1).trans rfl; have hcz25_2 : w21.cell? ⟨gb257, 2, none⟩ = some (.string (⟨#[]⟩ : ByteArray)) := (blk_cell BK257.out 2).trans rfl; have hcz25_3 : w21.cell? ⟨gb257, 3, none⟩ = some (.string (⟨#[]⟩ : ByteArray)) := (blk_cell BK257.out 3).trans rfl; have hfz25_0 := blk_frozen BK257.out 0; have hfz25_1 := blk_frozen BK257.out 1; have hfz25_2 := blk_frozen BK257.out 2; have hfz25_3 := blk_frozen BK257.out 3; have hcz26_0 : w21.cell? ⟨gb244, 0, none⟩ = some (.string a0_0) := (blk_cell BK244.out 0).trans rfl; have hcz26_1 : w21.cell? ⟨gb244, 1, none⟩ = some (.string a0_1) := (blk_cell BK244.out 1).trans rfl; have hcz26_2 : w21.cell? ⟨gb244, 2, none⟩ = some (.string a0_2) := (blk_cell BK244.out 2).trans rfl; have hfz26_0 := blk_frozen BK244.out 0; have hfz26_1 := blk_frozen BK244.out 1; have hfz26_2 := blk_frozen BK244.out 2; have hcz27_0 : w21.cell? ⟨gb245, 0, none⟩ = some (.int .i64 a3_0) := (blk_cell BK245.out 0).trans rfl; have hcz27_1 : w21.cell? ⟨gb245, 1, none⟩ = some (.string a3_1) := (blk_cell BK245.out 1).trans rfl; have hcz27_2 : w21.cell? ⟨gb245, 2, none⟩ = some (.string a3_2) := (blk_cell BK245.out 2).trans rfl; have hcz27_3 : w21.cell? ⟨gb245, 3, none⟩ = some (.string a3_3) := (blk_cell BK245.out 3).trans rfl; have hfz27_0 := blk_frozen BK245.out 0; have hfz27_1 := blk_frozen BK245.out 1; have hfz27_2 := blk_frozen BK245.out 2; have hfz27_3 := blk_frozen BK245.out 3) | ((with_reducible refine gate_callee (f := 21) rfl ?_); refine goesL_ (some 36) rfl rfl Tryd.func21 (by kernel_rfl) rfl #[.agg #[.string a0_0, .string a0_1, .string a0_2], .agg #[.int .i64 a3_0, .string a3_1, .string a3_2, .string a3_3]] rfl (by (try simp only [List.map_toArray, List.map_cons, List.map_nil]); first | done | rfl | (simp only [List.length_drop, List.length_take]; rfl)) ?_; (with_reducible refine (provenderref8_HeadSigned.calls k a0_0 a0_1 a0_2 a3_0 a3_1 a3_2 a3_3 t258 t259 _ (HLd.out.below (by repeat (first | (with_reducible first | exact HB.out | apply below_alloc | apply pw_below_drewN | apply below_drew1 | refine below_set ?_ GE244.out | refine below_set ?_ GE245.out | refine below_set ?_ GE251.out | refine below_set ?_ GE257.out) | exact HB.out))) A7.out).mono ?_); rintro e w28 ⟨rfl, hb⟩; refine ⟨_, rfl, ?_⟩; have n0_ := Aside0.mk (blk_below (g := gb244) (o := .cells #[.string a0_0, .string a0_1, .string a0_2] 23 (0, 0)) (by (with_reducible repeat (first | refine blk_drewN ?_ _ | refine blk_drew ?_ | refine blk_alloc ?_ _)); refine blk_far ?_ NB244_257.out _; (with_reducible repeat (first | refine blk_drewN ?_ _ | refine blk_drew ?_ | refine blk_alloc ?_ _)); refine blk_far ?_ NB244_257.out _; (with_reducible repeat (first | refine blk_drewN ?_ _ | refine blk_drew ?_ | refine blk_alloc ?_ _)); refine blk_far ?_ NB244_257.out _; (with_reducible repeat (first | refine blk_drewN ?_ _ | refine blk_drew ?_ | refine blk_alloc ?_ _)); refine blk_far ?_ NB244_257.out _; (with_reducible repeat (first | refine blk_drewN ?_ _ | refine blk_drew ?_ | refine blk_alloc ?_ _)); exact BK244.out) hb); have n1_ := Aside0.mk (blk_below (g := gb245) (o := .cells #[.int .i64 a3_0, .string a3_1, .string a3_2, .string a3_3] 37 (0, 0)) (by (with_reducible repeat (first | refine blk_drewN ?_ _ | refine blk_drew ?_ | refine blk_alloc ?_ _)); refine blk_far ?_ NB245_257.out _; (with_reducible repeat (first | refine blk_drewN ?_ _ | refine blk_drew ?_ | refine blk_alloc ?_ _)); refine blk_far ?_ NB245_257.out _; (with_reducible repeat (first | refine blk_drewN ?_ _ | refine blk_drew ?_ | refine blk_alloc ?_ _)); refine blk_far ?_ NB245_257.out _; (with_reducible repeat (first | refine blk_drewN ?_ _ | refine blk_drew ?_ | refine blk_alloc ?_ _)); refine blk_far ?_ NB245_257.out _; (with_reducible repeat (first | refine blk_drewN ?_ _ | refine blk_drew ?_ | refine blk_alloc ?_ _)); exact BK245.out) hb); have n2_ := Aside0.mk (blk_below (g := gb251) (o := .cells #[.int .i64 t246, .string t247, .string t248, .string t249] 37 (0, 0)) (by (with_reducible repeat (first | refine blk_drewN ?_ _ | refine blk_drew ?_ | refine blk_alloc ?_ _)); refine blk_far ?_ NB251_257.out _; (with_reducible repeat (first | refine blk_drewN ?_ _ | refine blk_drew ?_ | refine blk_alloc ?_ _)); refine blk_far ?_ NB251_257.out _; (with_reducible repeat (first | refine blk_drewN ?_ _ | refine blk_drew ?_ | refine blk_alloc ?_ _)); refine blk_far ?_ NB251_257.out _; (with_reducible repeat (first | refine blk_drewN ?_ _ | refine blk_drew ?_ | refine blk_alloc ?_ _)); refine blk_far ?_ NB251_257.out _; (with_reducible repeat (first | refine blk_drewN ?_ _ | refine blk_drew ?_ | refine blk_alloc ?_ _)); exact BK251.out) hb); have n3_ := Aside0.mk (blk_below (g := gb257) (o := .cells #[.int .i64 t252, .string t253, .string t254, .string t255] 37 (0, 0)) (by (with_reducible repeat (first | refine blk_drewN ?_ _ | refine blk_drew ?_ | refine blk_alloc ?_ _)); refine blk_put (cs := #[.int .i64 t252, .string t253, .string t254, .string (⟨#[]⟩ : ByteArray)]) ?_ 3 _ rfl; (with_reducible repeat (first | refine blk_drewN ?_ _ | refine blk_drew ?_ | refine blk_alloc ?_ _)); refine blk_put (cs := #[.int .i64 t252, .string t253, .string (⟨#[]⟩ : ByteArray), .string (⟨#[]⟩ : ByteArray)]) ?_ 2 _ rfl; (with_reducible repeat (first | refine blk_drewN ?_ _ | refine blk_drew ?_ | refine blk_alloc ?_ _)); refine blk_put (cs := #[.int .i64 t252, .string (⟨#[]⟩ : ByteArray), .string (⟨#[]⟩ : ByteArray), .string (⟨#[]⟩ : ByteArray)]) ?_ 1 _ rfl; (with_reducible repeat (first | refine blk_drewN ?_ _ | refine blk_drew ?_ | refine blk_alloc ?_ _)); refine blk_put (cs := #[.int .i64 0, .string (⟨#[]⟩ : ByteArray), .string (⟨#[]⟩ : ByteArray), .string (⟨#[]⟩ : ByteArray)]) ?_ 0 _ rfl; (with_reducible repeat (first | refine blk_drewN ?_ _ | refine blk_drew ?_ | refine blk_alloc ?_ _)); exact BK257.out) hb); have n4_ := Aside0.mk (below_step (by repeat (first | (with_reducible first | exact HB.out | apply below_alloc | apply pw_below_drewN | apply below_drew1 | refine below_set ?_ GE244.out | refine below_set ?_ GE245.out | refine below_set ?_ GE251.out | refine below_set ?_ GE257.out) | exact HB.out)) hb); clear BK244; clear BK245; clear BK251; clear BK257; clear HB; have BK244 := n0_; have BK245 := n1_; have BK251 := n2_; have BK257 := n3_; have HB := n4_; clear n0_ n1_ n2_ n3_ n4_; (try clear hb); (try clear hb2); (try clear hk); (try clear hi); have hcz29_0 : w28.cell? ⟨gb244, 0, none⟩ = some (.string a0_0) := (blk_cell BK244.out 0).trans rfl; have hcz29_1 : w28.cell? ⟨gb244, 1, none⟩ = some (.string a0_1) := (blk_cell BK244.out 1).trans rfl; have hcz29_2 : w28.cell? ⟨gb244, 2, none⟩ = some (.string a0_2) := (blk_cell BK244.out 2).trans rfl; have hfz29_0 := blk_frozen BK244.out 0; have hfz29_1 := blk_frozen BK244.out 1; have hfz29_2 := blk_frozen BK244.out 2; have hcz30_0 : w28.cell? ⟨gb245, 0, none⟩ = some (.int .i64 a3_0) := (blk_cell BK245.out 0).trans rfl; have hcz30_1 : w28.cell? ⟨gb245, 1, none⟩ = some (.string a3_1) := (blk_cell BK245.out 1).trans rfl; have hcz30_2 : w28.cell? ⟨gb245, 2, none⟩ = some (.string a3_2) := (blk_cell BK245.out 2).trans rfl; have hcz30_3 : w28.cell? ⟨gb245, 3, none⟩ = some (.string a3_3) := (blk_cell BK245.out 3).trans rfl; have hfz30_0 := blk_frozen BK245.out 0; have hfz30_1 := blk_frozen BK245.out 1; have hfz30_2 := blk_frozen BK245.out 2; have hfz30_3 := blk_frozen BK245.out 3) | ((with_reducible refine gate_callee (f := 22) rfl ?_); refine goesL_ (some 42) rfl rfl Tryd.func22 (by kernel_rfl) rfl #[.agg #[.string a0_0, .string a0_1, .string a0_2], .agg #[.int .i64 a3_0, .string a3_1, .string a3_2, .string a3_3]] rfl (by (try simp only [List.map_toArray, List.map_cons, List.map_nil]); first | done | rfl | (simp only [List.length_drop, List.length_take]; rfl)) ?_; (with_reducible refine (attest_HeadSigned.calls k a0_0 a0_1 a0_2 a3_0 a3_1 a3_2 a3_3 t260 t261 _ (HLd.out.below (by repeat (first | (with_reducible first | exact HB.out | apply below_alloc | apply pw_below_drewN | apply below_drew1 | refine below_set ?_ GE244.out | refine below_set ?_ GE245.out | refine below_set ?_ GE251.out | refine below_set ?_ GE257.out) | exact HB.out))) A8.out).mono ?_); rintro e w31 ⟨rfl, hb⟩; refine ⟨_, rfl, ?_⟩; have n0_ := Aside0.mk (blk_below (g := gb244) (o := .cells #[.string a0_0, .string a0_1, .string a0_2] 23 (0, 0)) (by (with_reducible repeat (first | refine blk_drewN ?_ _ | refine blk_drew ?_ | refine blk_alloc ?_ _)); exact BK244.out) hb); have n1_ := Aside0.mk (blk_below (g := gb245) (o := .cells #[.int .i64 a3_0, .string a3_1, .string a3_2, .string a3_3] 37 (0, 0)) (by (with_reducible repeat (first | refine blk_drewN ?_ _ | refine blk_drew ?_ | refine blk_alloc ?_ _)); exact BK245.out) hb); have n2_ := Aside0.mk (blk_below (g := gb251) (o := .cells #[.int .i64 t246, .string t247, .string t248, .string t249] 37 (0, 0)) (by (with_reducible repeat (first | refine blk_drewN ?_ _ | refine blk_drew ?_ | refine blk_alloc ?_ _)); exact BK251.out) hb); have n3_ := Aside0.mk (blk_below (g := gb257) (o := .cells #[.int .i64 t252, .string t253, .string t254, .string t255] 37 (0, 0)) (by (with_reducible repeat (first | refine blk_drewN ?_ _ | refine blk_drew ?_ | refine blk_alloc ?_ _)); exact BK257.out) hb); have n4_ := Aside0.mk (below_step (by repeat (first | (with_reducible first | exact HB.out | apply below_alloc | apply pw_below_drewN | apply below_drew1 | refine below_set ?_ GE244.out | refine below_set ?_ GE245.out | refine below_set ?_ GE251.out | refine below_set ?_ GE257.out) | exact HB.out)) hb); clear BK244; clear BK245; clear BK251; clear BK257; clear HB; have BK244 := n0_; have BK245 := n1_; have BK251 := n2_; have BK257 := n3_; have HB := n4_; clear n0_ n1_ n2_ n3_ n4_; (try clear hb); (try clear hb2); (try clear hk); (try clear hi)))
  (try simp only [Act.put, List.setIfInBounds_toArray, List.set_cons_zero, List.set_cons_succ])
  go_cut [62] (fun v62 wc => ∃ (kq : Nat) (x62_8 : Bool), v62 = .bool x62_8 ∧ Aside0 (provenderlaw8_AttestHeadsMatchSpec.j0 kq t256 x62_8 a0_0 a0_1 a0_2 t252 t253 t254 t255 = some r) ∧ Aside0 (kq ≤ k) ∧ Aside0 (wc.heap[gb244]? = some (.cells #[.string a0_0, .string a0_1, .string a0_2] 23 (0, 0))) ∧ Aside0 (wc.heap[gb245]? = some (.cells #[.int .i64 a3_0, .string a3_1, .string a3_2, .string a3_3] 37 (0, 0))) ∧ Aside0 (wc.heap[gb251]? = some (.cells #[.int .i64 t246, .string t247, .string t248, .string t249] 37 (0, 0))) ∧ Aside0 (wc.heap[gb257]? = some (.cells #[.int .i64 t252, .string t253, .string t254, .string t255] 37 (0, 0))) ∧ Aside0 (Below w.heap.size w wc))
  case first =>
    have H := HC9.out
    clear HC9
    by_cases c32 : (!(t252 == t246) || (!(t253.toList == t247.toList) || ((!(t254.toList == t248.toList) || (!(t255.toList == t249.toList)))))) = true
    · rw [if_pos c32] at H
      have c32b0 : (!(t252 == t246) || (!(t253.toList == t247.toList) || ((!(t254.toList == t248.toList) || (!(t255.toList == t249.toList)))))) = true := c32
      clear c32
      (first | rw [c32b0] | (simp only [i64_w, i32_w]; rw [c32b0]) | skip)
      have H' := Aside0.mk H
      clear H
      have hnb33 := NB257_244.out
      have hnc33 := NB244_257.out
      have hnb34 := NB257_245.out
      have hnc34 := NB245_257.out
      have hnb35 := NB257_251.out
      have hnc35 := NB251_257.out
      have hcz36_0 : w31.cell? ⟨gb257, 0, none⟩ = some (.int .i64 t252) := (blk_cell BK257.out 0).trans rfl
      have hcz36_1 : w31.cell? ⟨gb257, 1, none⟩ = some (.string t253) := (blk_cell BK257.out 1).trans rfl
      have hcz36_2 : w31.cell? ⟨gb257, 2, none⟩ = some (.string t254) := (blk_cell BK257.out 2).trans rfl
      have hcz36_3 : w31.cell? ⟨gb257, 3, none⟩ = some (.string t255) := (blk_cell BK257.out 3).trans rfl
      have hfz36_0 := blk_frozen BK257.out 0
      have hfz36_1 := blk_frozen BK257.out 1
      have hfz36_2 := blk_frozen BK257.out 2
      have hfz36_3 := blk_frozen BK257.out 3
      have hnb37 := NB251_244.out
      have hnc37 := NB244_251.out
      have hnb38 := NB251_245.out
      have hnc38 := NB245_251.out
      have hcz39_0 : w31.cell? ⟨gb251, 0, none⟩ = some (.int .i64 t246) := (blk_cell BK251.out 0).trans rfl
      have hcz39_1 : w31.cell? ⟨gb251, 1, none⟩ = some (.string t247) := (blk_cell BK251.out 1).trans rfl
      have hcz39_2 : w31.cell? ⟨gb251, 2, none⟩ = some (.string t248) := (blk_cell BK251.out 2).trans rfl
      have hcz39_3 : w31.cell? ⟨gb251, 3, none⟩ = some (.string t249) := (blk_cell BK251.out 3).trans rfl
      have hfz39_0 := blk_frozen BK251.out 0
      have hfz39_1 := blk_frozen BK251.out 1
      have hfz39_2 := blk_frozen BK251.out 2
      have hfz39_3 := blk_frozen BK251.out 3
      go_wp2
      go_meet
      case rel => exact ⟨_, (true), (by first | rfl | (simp; done) | (simp [*]; done)), H', ⟨by first | omega | exact Nat.le_refl _⟩, ⟨by (with_reducible repeat (first | refine blk_drewN ?_ _ | refine blk_drew ?_ | refine blk_alloc ?_ _)); exact BK244.out⟩, ⟨by (with_reducible repeat (first | refine blk_drewN ?_ _ | refine blk_drew ?_ | refine blk_alloc ?_ _)); exact BK245.out⟩, ⟨by (with_reducible repeat (first | refine blk_drewN ?_ _ | refine blk_drew ?_ | refine blk_alloc ?_ _)); exact BK251.out⟩, ⟨by (with_reducible repeat (first | refine blk_drewN ?_ _ | refine blk_drew ?_ | refine blk_alloc ?_ _)); exact BK257.out⟩, ⟨by repeat (first | (with_reducible first | exact HB.out | apply below_alloc | apply pw_below_drewN | apply below_drew1 | refine below_set ?_ GE244.out | refine below_set ?_ GE245.out | refine below_set ?_ GE251.out | refine below_set ?_ GE257.out) | exact HB.out)⟩⟩
    · rw [if_neg c32] at H
      have c32b0 : (!(t252 == t246) || (!(t253.toList == t247.toList) || ((!(t254.toList == t248.toList) || (!(t255.toList == t249.toList)))))) = false := by simpa using c32
      clear c32
      (first | rw [c32b0] | (simp only [i64_w, i32_w]; rw [c32b0]) | skip)
      by_cases c40 : t256 = t250
      · rw [if_pos c40] at H
        have c40b0 : (t256 == t250) = true := beq_iff_eq.mpr c40
        have c40b1 : (t256 != t250) = false := bne_eq_false_iff_eq.mpr c40
        clear c40
        by_cases c41 : (t260 != t258) = true
        · rw [if_pos c41] at H
          have c41b0 : (t260 != t258) = true := c41
          (try (have c41b1 : decide (t260 = t258) = false := by simpa using c41))
          (try (have c41b2 : (t260 == t258) = false := by simpa using c41))
          (try (have c41b3 : ¬ (t260 = t258) := by simpa using c41))
          clear c41
          have H' := Aside0.mk H
          clear H
          have hnb42 := NB257_244.out
          have hnc42 := NB244_257.out
          have hnb43 := NB257_245.out
          have hnc43 := NB245_257.out
          have hnb44 := NB257_251.out
          have hnc44 := NB251_257.out
          have hcz45_0 : w31.cell? ⟨gb257, 0, none⟩ = some (.int .i64 t252) := (blk_cell BK257.out 0).trans rfl
          have hcz45_1 : w31.cell? ⟨gb257, 1, none⟩ = some (.string t253) := (blk_cell BK257.out 1).trans rfl
          have hcz45_2 : w31.cell? ⟨gb257, 2, none⟩ = some (.string t254) := (blk_cell BK257.out 2).trans rfl
          have hcz45_3 : w31.cell? ⟨gb257, 3, none⟩ = some (.string t255) := (blk_cell BK257.out 3).trans rfl
          have hfz45_0 := blk_frozen BK257.out 0
          have hfz45_1 := blk_frozen BK257.out 1
          have hfz45_2 := blk_frozen BK257.out 2
          have hfz45_3 := blk_frozen BK257.out 3
          have hnb46 := NB251_244.out
          have hnc46 := NB244_251.out
          have hnb47 := NB251_245.out
          have hnc47 := NB245_251.out
          have hcz48_0 : w31.cell? ⟨gb251, 0, none⟩ = some (.int .i64 t246) := (blk_cell BK251.out 0).trans rfl
          have hcz48_1 : w31.cell? ⟨gb251, 1, none⟩ = some (.string t247) := (blk_cell BK251.out 1).trans rfl
          have hcz48_2 : w31.cell? ⟨gb251, 2, none⟩ = some (.string t248) := (blk_cell BK251.out 2).trans rfl
          have hcz48_3 : w31.cell? ⟨gb251, 3, none⟩ = some (.string t249) := (blk_cell BK251.out 3).trans rfl
          have hfz48_0 := blk_frozen BK251.out 0
          have hfz48_1 := blk_frozen BK251.out 1
          have hfz48_2 := blk_frozen BK251.out 2
          have hfz48_3 := blk_frozen BK251.out 3
          go_wp2
          go_meet
          case rel => exact ⟨_, (true), (by first | rfl | (simp; done) | (simp [*]; done)), H', ⟨by first | omega | exact Nat.le_refl _⟩, ⟨by (with_reducible repeat (first | refine blk_drewN ?_ _ | refine blk_drew ?_ | refine blk_alloc ?_ _)); exact BK244.out⟩, ⟨by (with_reducible repeat (first | refine blk_drewN ?_ _ | refine blk_drew ?_ | refine blk_alloc ?_ _)); exact BK245.out⟩, ⟨by (with_reducible repeat (first | refine blk_drewN ?_ _ | refine blk_drew ?_ | refine blk_alloc ?_ _)); exact BK251.out⟩, ⟨by (with_reducible repeat (first | refine blk_drewN ?_ _ | refine blk_drew ?_ | refine blk_alloc ?_ _)); exact BK257.out⟩, ⟨by repeat (first | (with_reducible first | exact HB.out | apply below_alloc | apply pw_below_drewN | apply below_drew1 | refine below_set ?_ GE244.out | refine below_set ?_ GE245.out | refine below_set ?_ GE251.out | refine below_set ?_ GE257.out) | exact HB.out)⟩⟩
        · rw [if_neg c41] at H
          have c41b0 : (t260 != t258) = false := by simpa using c41
          (try (have c41b1 : decide (t260 = t258) = true := by simpa using c41))
          (try (have c41b2 : (t260 == t258) = true := by simpa using c41))
          clear c41
          have H' := Aside0.mk H
          clear H
          have hnb49 := NB257_244.out
          have hnc49 := NB244_257.out
          have hnb50 := NB257_245.out
          have hnc50 := NB245_257.out
          have hnb51 := NB257_251.out
          have hnc51 := NB251_257.out
          have hcz52_0 : w31.cell? ⟨gb257, 0, none⟩ = some (.int .i64 t252) := (blk_cell BK257.out 0).trans rfl
          have hcz52_1 : w31.cell? ⟨gb257, 1, none⟩ = some (.string t253) := (blk_cell BK257.out 1).trans rfl
          have hcz52_2 : w31.cell? ⟨gb257, 2, none⟩ = some (.string t254) := (blk_cell BK257.out 2).trans rfl
          have hcz52_3 : w31.cell? ⟨gb257, 3, none⟩ = some (.string t255) := (blk_cell BK257.out 3).trans rfl
          have hfz52_0 := blk_frozen BK257.out 0
          have hfz52_1 := blk_frozen BK257.out 1
          have hfz52_2 := blk_frozen BK257.out 2
          have hfz52_3 := blk_frozen BK257.out 3
          have hnb53 := NB251_244.out
          have hnc53 := NB244_251.out
          have hnb54 := NB251_245.out
          have hnc54 := NB245_251.out
          have hcz55_0 : w31.cell? ⟨gb251, 0, none⟩ = some (.int .i64 t246) := (blk_cell BK251.out 0).trans rfl
          have hcz55_1 : w31.cell? ⟨gb251, 1, none⟩ = some (.string t247) := (blk_cell BK251.out 1).trans rfl
          have hcz55_2 : w31.cell? ⟨gb251, 2, none⟩ = some (.string t248) := (blk_cell BK251.out 2).trans rfl
          have hcz55_3 : w31.cell? ⟨gb251, 3, none⟩ = some (.string t249) := (blk_cell BK251.out 3).trans rfl
          have hfz55_0 := blk_frozen BK251.out 0
          have hfz55_1 := blk_frozen BK251.out 1
          have hfz55_2 := blk_frozen BK251.out 2
          have hfz55_3 := blk_frozen BK251.out 3
          go_wp2
          go_meet
          case rel => exact ⟨_, ((t261 != t259)), (by first | rfl | (simp; done) | (simp [*]; done)), H', ⟨by first | omega | exact Nat.le_refl _⟩, ⟨by (with_reducible repeat (first | refine blk_drewN ?_ _ | refine blk_drew ?_ | refine blk_alloc ?_ _)); exact BK244.out⟩, ⟨by (with_reducible repeat (first | refine blk_drewN ?_ _ | refine blk_drew ?_ | refine blk_alloc ?_ _)); exact BK245.out⟩, ⟨by (with_reducible repeat (first | refine blk_drewN ?_ _ | refine blk_drew ?_ | refine blk_alloc ?_ _)); exact BK251.out⟩, ⟨by (with_reducible repeat (first | refine blk_drewN ?_ _ | refine blk_drew ?_ | refine blk_alloc ?_ _)); exact BK257.out⟩, ⟨by repeat (first | (with_reducible first | exact HB.out | apply below_alloc | apply pw_below_drewN | apply below_drew1 | refine below_set ?_ GE244.out | refine below_set ?_ GE245.out | refine below_set ?_ GE251.out | refine below_set ?_ GE257.out) | exact HB.out)⟩⟩
      · rw [if_neg c40] at H
        have c40b0 : (t256 == t250) = false := beq_eq_false_iff_ne.mpr c40
        have c40b1 : (t256 != t250) = true := bne_iff_ne.mpr c40
        have H' := Aside0.mk H
        clear H
        have hnb56 := NB257_244.out
        have hnc56 := NB244_257.out
        have hnb57 := NB257_245.out
        have hnc57 := NB245_257.out
        have hnb58 := NB257_251.out
        have hnc58 := NB251_257.out
        have hcz59_0 : w31.cell? ⟨gb257, 0, none⟩ = some (.int .i64 t252) := (blk_cell BK257.out 0).trans rfl
        have hcz59_1 : w31.cell? ⟨gb257, 1, none⟩ = some (.string t253) := (blk_cell BK257.out 1).trans rfl
        have hcz59_2 : w31.cell? ⟨gb257, 2, none⟩ = some (.string t254) := (blk_cell BK257.out 2).trans rfl
        have hcz59_3 : w31.cell? ⟨gb257, 3, none⟩ = some (.string t255) := (blk_cell BK257.out 3).trans rfl
        have hfz59_0 := blk_frozen BK257.out 0
        have hfz59_1 := blk_frozen BK257.out 1
        have hfz59_2 := blk_frozen BK257.out 2
        have hfz59_3 := blk_frozen BK257.out 3
        have hnb60 := NB251_244.out
        have hnc60 := NB244_251.out
        have hnb61 := NB251_245.out
        have hnc61 := NB245_251.out
        have hcz62_0 : w31.cell? ⟨gb251, 0, none⟩ = some (.int .i64 t246) := (blk_cell BK251.out 0).trans rfl
        have hcz62_1 : w31.cell? ⟨gb251, 1, none⟩ = some (.string t247) := (blk_cell BK251.out 1).trans rfl
        have hcz62_2 : w31.cell? ⟨gb251, 2, none⟩ = some (.string t248) := (blk_cell BK251.out 2).trans rfl
        have hcz62_3 : w31.cell? ⟨gb251, 3, none⟩ = some (.string t249) := (blk_cell BK251.out 3).trans rfl
        have hfz62_0 := blk_frozen BK251.out 0
        have hfz62_1 := blk_frozen BK251.out 1
        have hfz62_2 := blk_frozen BK251.out 2
        have hfz62_3 := blk_frozen BK251.out 3
        go_wp2
        go_meet
        case rel => exact ⟨_, (true), (by first | rfl | (simp; done) | (simp [*]; done)), H', ⟨by first | omega | exact Nat.le_refl _⟩, ⟨by (with_reducible repeat (first | refine blk_drewN ?_ _ | refine blk_drew ?_ | refine blk_alloc ?_ _)); exact BK244.out⟩, ⟨by (with_reducible repeat (first | refine blk_drewN ?_ _ | refine blk_drew ?_ | refine blk_alloc ?_ _)); exact BK245.out⟩, ⟨by (with_reducible repeat (first | refine blk_drewN ?_ _ | refine blk_drew ?_ | refine blk_alloc ?_ _)); exact BK251.out⟩, ⟨by (with_reducible repeat (first | refine blk_drewN ?_ _ | refine blk_drew ?_ | refine blk_alloc ?_ _)); exact BK257.out⟩, ⟨by repeat (first | (with_reducible first | exact HB.out | apply below_alloc | apply pw_below_drewN | apply below_drew1 | refine below_set ?_ GE244.out | refine below_set ?_ GE245.out | refine below_set ?_ GE251.out | refine below_set ?_ GE257.out) | exact HB.out)⟩⟩
  case rest =>
    clear HC9
    try clear c1
    try clear c2
    try clear p2
    try clear c3
    try clear c4
    try clear c5
    try clear c6
    try clear c12
    try clear c16
    try clear c17
    try clear c19
    try clear c20
    try clear c21
    try clear c22
    try clear c23
    try clear c24
    try clear c32
    try clear c32b0
    try clear c33
    try clear c34
    try clear c35
    try clear c37
    try clear c38
    try clear c40
    try clear c40b0
    try clear c40b1
    try clear c41
    try clear c41b0
    try clear c41b1
    try clear c41b2
    try clear c42
    try clear c43
    try clear c44
    try clear c46
    try clear c47
    try clear c49
    try clear c50
    try clear c51
    try clear c53
    try clear c54
    try clear c56
    try clear c57
    try clear c58
    try clear c60
    try clear c61
    try clear hcz13_0
    try clear hcz13_1
    try clear hcz13_2
    try clear hcz18_0
    try clear hcz18_1
    try clear hcz18_2
    try clear hcz18_3
    try clear hcz19_0
    try clear hcz19_1
    try clear hcz19_2
    try clear hcz25_0
    try clear hcz25_1
    try clear hcz25_2
    try clear hcz25_3
    try clear hcz26_0
    try clear hcz26_1
    try clear hcz26_2
    try clear hcz27_0
    try clear hcz27_1
    try clear hcz27_2
    try clear hcz27_3
    try clear hcz29_0
    try clear hcz29_1
    try clear hcz29_2
    try clear hcz30_0
    try clear hcz30_1
    try clear hcz30_2
    try clear hcz30_3
    try clear hcz36_0
    try clear hcz36_1
    try clear hcz36_2
    try clear hcz36_3
    try clear hcz39_0
    try clear hcz39_1
    try clear hcz39_2
    try clear hcz39_3
    try clear hcz45_0
    try clear hcz45_1
    try clear hcz45_2
    try clear hcz45_3
    try clear hcz48_0
    try clear hcz48_1
    try clear hcz48_2
    try clear hcz48_3
    try clear hcz52_0
    try clear hcz52_1
    try clear hcz52_2
    try clear hcz52_3
    try clear hcz55_0
    try clear hcz55_1
    try clear hcz55_2
    try clear hcz55_3
    try clear hcz59_0
    try clear hcz59_1
    try clear hcz59_2
    try clear hcz59_3
    try clear hcz62_0
    try clear hcz62_1
    try clear hcz62_2
    try clear hcz62_3
    try clear hfz13_0
    try clear hfz13_1
    try clear hfz13_2
    try clear hfz18_0
    try clear hfz18_1
    try clear hfz18_2
    try clear hfz18_3
    try clear hfz19_0
    try clear hfz19_1
    try clear hfz19_2
    try clear hfz25_0
    try clear hfz25_1
    try clear hfz25_2
    try clear hfz25_3
    try clear hfz26_0
    try clear hfz26_1
    try clear hfz26_2
    try clear hfz27_0
    try clear hfz27_1
    try clear hfz27_2
    try clear hfz27_3
    try clear hfz29_0
    try clear hfz29_1
    try clear hfz29_2
    try clear hfz30_0
    try clear hfz30_1
    try clear hfz30_2
    try clear hfz30_3
    try clear hfz36_0
    try clear hfz36_1
    try clear hfz36_2
    try clear hfz36_3
    try clear hfz39_0
    try clear hfz39_1
    try clear hfz39_2
    try clear hfz39_3
    try clear hfz45_0
    try clear hfz45_1
    try clear hfz45_2
    try clear hfz45_3
    try clear hfz48_0
    try clear hfz48_1
    try clear hfz48_2
    try clear hfz48_3
    try clear hfz52_0
    try clear hfz52_1
    try clear hfz52_2
    try clear hfz52_3
    try clear hfz55_0
    try clear hfz55_1
    try clear hfz55_2
    try clear hfz55_3
    try clear hfz59_0
    try clear hfz59_1
    try clear hfz59_2
    try clear hfz59_3
    try clear hfz62_0
    try clear hfz62_1
    try clear hfz62_2
    try clear hfz62_3
    obtain ⟨kq, x62_8, rfl, HA, HJ8, BK244, BK245, BK251, BK257, HB⟩ := hcut
    cases kq with
    | zero => exact absurd HA.out (by simp [provenderlaw8_AttestHeadsMatchSpec.j0])
    | succ kj8 =>
      have H := HA.out
      clear HA
      simp only [provenderlaw8_AttestHeadsMatchSpec.j0] at H
      by_cases c63 : x62_8 = true
      · subst c63
        have H1 : (some false) = some r := by rw [if_pos rfl] at H; exact H
        clear H
        have H := H1
        clear H1
        obtain rfl := Option.some.inj H
        exact absurd hrt.out (by decide)
      · replace c63 := Bool.eq_false_iff.mpr c63
        subst c63
        have H1 : (if t256 = 0 then ((attest_HeadSigned.f kj8 a0_0 a0_1 a0_2 t252 t253 t254 t255).bind fun bt262 => (if bt262.1 = true then (if bt262.2 = 0 then ((provenderlaw8_told.f kj8).bind fun t264 => (some t264)) else (some false)) else (some false))) else ((provenderlaw8_told.f kj8).bind fun t265 => (some t265))) = some r := by rw [if_neg (show ¬ (false = true) by decide)] at H; exact H
        clear H
        have H := H1
        clear H1
        by_cases c64 : t256 = 0
        · rw [if_pos c64] at H
          have c64b0 : (t256 == 0) = true := beq_iff_eq.mpr c64
          have c64b1 : (t256 != 0) = false := bne_eq_false_iff_eq.mpr c64
          clear c64
          replace H := Option.bind_eq_some_iff.mp H
          obtain ⟨⟨t262, t263⟩, A650, H⟩ := H
          replace H : (if t262 = true then (if t263 = 0 then ((provenderlaw8_told.f kj8).bind fun t264 => (some t264)) else (some false)) else (some false)) = some r := H
          have A65 := Aside0.mk A650
          clear A650
          by_cases c66 : t262 = true
          · subst c66
            have H1 : (if t263 = 0 then ((provenderlaw8_told.f kj8).bind fun t264 => (some t264)) else (some false)) = some r := by rw [if_pos rfl] at H; exact H
            clear H
            have H := H1
            clear H1
            by_cases c67 : t263 = 0
            · rw [if_pos c67] at H
              have c67b0 : (t263 == 0) = true := beq_iff_eq.mpr c67
              have c67b1 : (t263 != 0) = false := bne_eq_false_iff_eq.mpr c67
              clear c67
              replace H := Option.bind_eq_some_iff.mp H
              obtain ⟨t264, A680, H⟩ := H
              replace H : (some t264) = some r := H
              have A68 := Aside0.mk A680
              clear A680
              obtain rfl := Option.some.inj H
              simp only [Option.some.injEq, Prod.mk.injEq] at H
              obtain ⟨rfl⟩ := H
              have hnb69 := NB244_245.out
              have hnc69 := NB245_244.out
              have hnb70 := NB244_251.out
              have hnc70 := NB251_244.out
              have hnb71 := NB244_257.out
              have hnc71 := NB257_244.out
              have hcz72_0 : wc.cell? ⟨gb244, 0, none⟩ = some (.string a0_0) := (blk_cell BK244.out 0).trans rfl
              have hcz72_1 : wc.cell? ⟨gb244, 1, none⟩ = some (.string a0_1) := (blk_cell BK244.out 1).trans rfl
              have hcz72_2 : wc.cell? ⟨gb244, 2, none⟩ = some (.string a0_2) := (blk_cell BK244.out 2).trans rfl
              have hfz72_0 := blk_frozen BK244.out 0
              have hfz72_1 := blk_frozen BK244.out 1
              have hfz72_2 := blk_frozen BK244.out 2
              have hnb73 := NB257_245.out
              have hnc73 := NB245_257.out
              have hnb74 := NB257_251.out
              have hnc74 := NB251_257.out
              have hcz75_0 : wc.cell? ⟨gb257, 0, none⟩ = some (.int .i64 t252) := (blk_cell BK257.out 0).trans rfl
              have hcz75_1 : wc.cell? ⟨gb257, 1, none⟩ = some (.string t253) := (blk_cell BK257.out 1).trans rfl
              have hcz75_2 : wc.cell? ⟨gb257, 2, none⟩ = some (.string t254) := (blk_cell BK257.out 2).trans rfl
              have hcz75_3 : wc.cell? ⟨gb257, 3, none⟩ = some (.string t255) := (blk_cell BK257.out 3).trans rfl
              have hfz75_0 := blk_frozen BK257.out 0
              have hfz75_1 := blk_frozen BK257.out 1
              have hfz75_2 := blk_frozen BK257.out 2
              have hfz75_3 := blk_frozen BK257.out 3
              go_wp2_with (first | ((with_reducible refine gate_callee (f := 22) rfl ?_); refine goesL_ (some 68) rfl rfl Tryd.func22 (by kernel_rfl) rfl #[.agg #[.string a0_0, .string a0_1, .string a0_2], .agg #[.int .i64 t252, .string t253, .string t254, .string t255]] rfl (by (try simp only [List.map_toArray, List.map_cons, List.map_nil]); first | done | rfl | (simp only [List.length_drop, List.length_take]; rfl)) ?_; (with_reducible refine (attest_HeadSigned.calls kj8 a0_0 a0_1 a0_2 t252 t253 t254 t255 true t263 _ (HLd.out.below (by repeat (first | (with_reducible first | exact HB.out | apply below_alloc | apply pw_below_drewN | apply below_drew1 | refine below_set ?_ GE244.out | refine below_set ?_ GE245.out | refine below_set ?_ GE251.out | refine below_set ?_ GE257.out) | exact HB.out))) A65.out).mono ?_); rintro e w76 ⟨rfl, hb⟩; refine ⟨_, rfl, ?_⟩; have n0_ := Aside0.mk (blk_below (g := gb244) (o := .cells #[.string a0_0, .string a0_1, .string a0_2] 23 (0, 0)) (by (with_reducible repeat (first | refine blk_drewN ?_ _ | refine blk_drew ?_ | refine blk_alloc ?_ _)); exact BK244.out) hb); have n1_ := Aside0.mk (blk_below (g := gb245) (o := .cells #[.int .i64 a3_0, .string a3_1, .string a3_2, .string a3_3] 37 (0, 0)) (by (with_reducible repeat (first | refine blk_drewN ?_ _ | refine blk_drew ?_ | refine blk_alloc ?_ _)); exact BK245.out) hb); have n2_ := Aside0.mk (blk_below (g := gb251) (o := .cells #[.int .i64 t246, .string t247, .string t248, .string t249] 37 (0, 0)) (by (with_reducible repeat (first | refine blk_drewN ?_ _ | refine blk_drew ?_ | refine blk_alloc ?_ _)); exact BK251.out) hb); have n3_ := Aside0.mk (blk_below (g := gb257) (o := .cells #[.int .i64 t252, .string t253, .string t254, .string t255] 37 (0, 0)) (by (with_reducible repeat (first | refine blk_drewN ?_ _ | refine blk_drew ?_ | refine blk_alloc ?_ _)); exact BK257.out) hb); have n4_ := Aside0.mk (below_step (by repeat (first | (with_reducible first | exact HB.out | apply below_alloc | apply pw_below_drewN | apply below_drew1 | refine below_set ?_ GE244.out | refine below_set ?_ GE245.out | refine below_set ?_ GE251.out | refine below_set ?_ GE257.out) | exact HB.out)) hb); clear BK244; clear BK245; clear BK251; clear BK257; clear HB; have BK244 := n0_; have BK245 := n1_; have BK251 := n2_; have BK257 := n3_; have HB := n4_; clear n0_ n1_ n2_ n3_ n4_; (try clear hb); (try clear hb2); (try clear hk); (try clear hi)) | ((with_reducible refine gate_callee (f := 18) rfl ?_); refine goesL_ (some 77) rfl rfl Tryd.func18 (by kernel_rfl) rfl #[] rfl (by (try simp only [List.map_toArray, List.map_cons, List.map_nil]); first | done | rfl | (simp only [List.length_drop, List.length_take]; rfl)) ?_; (with_reducible refine (provenderlaw8_told.calls kj8  t264 _ (HLd.out.below (by repeat (first | (with_reducible first | exact HB.out | apply below_alloc | apply pw_below_drewN | apply below_drew1 | refine below_set ?_ GE244.out | refine below_set ?_ GE245.out | refine below_set ?_ GE251.out | refine below_set ?_ GE257.out) | exact HB.out))) A68.out).mono ?_); rintro e w77 ⟨rfl, hb⟩; refine ⟨_, rfl, ?_⟩; have n0_ := Aside0.mk (blk_below (g := gb244) (o := .cells #[.string a0_0, .string a0_1, .string a0_2] 23 (0, 0)) (by (with_reducible repeat (first | refine blk_drewN ?_ _ | refine blk_drew ?_ | refine blk_alloc ?_ _)); exact BK244.out) hb); have n1_ := Aside0.mk (blk_below (g := gb245) (o := .cells #[.int .i64 a3_0, .string a3_1, .string a3_2, .string a3_3] 37 (0, 0)) (by (with_reducible repeat (first | refine blk_drewN ?_ _ | refine blk_drew ?_ | refine blk_alloc ?_ _)); exact BK245.out) hb); have n2_ := Aside0.mk (blk_below (g := gb251) (o := .cells #[.int .i64 t246, .string t247, .string t248, .string t249] 37 (0, 0)) (by (with_reducible repeat (first | refine blk_drewN ?_ _ | refine blk_drew ?_ | refine blk_alloc ?_ _)); exact BK251.out) hb); have n3_ := Aside0.mk (blk_below (g := gb257) (o := .cells #[.int .i64 t252, .string t253, .string t254, .string t255] 37 (0, 0)) (by (with_reducible repeat (first | refine blk_drewN ?_ _ | refine blk_drew ?_ | refine blk_alloc ?_ _)); exact BK257.out) hb); have n4_ := Aside0.mk (below_step (by repeat (first | (with_reducible first | exact HB.out | apply below_alloc | apply pw_below_drewN | apply below_drew1 | refine below_set ?_ GE244.out | refine below_set ?_ GE245.out | refine below_set ?_ GE251.out | refine below_set ?_ GE257.out) | exact HB.out)) hb); clear BK244; clear BK245; clear BK251; clear BK257; clear HB; have BK244 := n0_; have BK245 := n1_; have BK251 := n2_; have BK257 := n3_; have HB := n4_; clear n0_ n1_ n2_ n3_ n4_; (try clear hb); (try clear hb2); (try clear hk); (try clear hi)))
              go_ret
              exact ⟨by first | rfl | (simp [errW_none, errW_some] <;> rfl) | (simp [*, errW_none, errW_some] <;> rfl), by repeat (first | (with_reducible first | exact HB.out | apply below_alloc | apply pw_below_drewN | apply below_drew1 | refine below_set ?_ GE244.out | refine below_set ?_ GE245.out | refine below_set ?_ GE251.out | refine below_set ?_ GE257.out) | exact HB.out)⟩
            · rw [if_neg c67] at H
              have c67b0 : (t263 == 0) = false := beq_eq_false_iff_ne.mpr c67
              have c67b1 : (t263 != 0) = true := bne_iff_ne.mpr c67
              obtain rfl := Option.some.inj H
              exact absurd hrt.out (by decide)
          · replace c66 := Bool.eq_false_iff.mpr c66
            subst c66
            have H1 : (some false) = some r := by rw [if_neg (show ¬ (false = true) by decide)] at H; exact H
            clear H
            have H := H1
            clear H1
            obtain rfl := Option.some.inj H
            exact absurd hrt.out (by decide)
        · rw [if_neg c64] at H
          have c64b0 : (t256 == 0) = false := beq_eq_false_iff_ne.mpr c64
          have c64b1 : (t256 != 0) = true := bne_iff_ne.mpr c64
          replace H := Option.bind_eq_some_iff.mp H
          obtain ⟨t265, A780, H⟩ := H
          replace H : (some t265) = some r := H
          have A78 := Aside0.mk A780
          clear A780
          obtain rfl := Option.some.inj H
          simp only [Option.some.injEq, Prod.mk.injEq] at H
          obtain ⟨rfl⟩ := H
          go_wp2_with (first | ((with_reducible refine gate_callee (f := 18) rfl ?_); refine goesL_ (some 77) rfl rfl Tryd.func18 (by kernel_rfl) rfl #[] rfl (by (try simp only [List.map_toArray, List.map_cons, List.map_nil]); first | done | rfl | (simp only [List.length_drop, List.length_take]; rfl)) ?_; (with_reducible refine (provenderlaw8_told.calls kj8  t265 _ (HLd.out.below (by repeat (first | (with_reducible first | exact HB.out | apply below_alloc | apply pw_below_drewN | apply below_drew1 | refine below_set ?_ GE244.out | refine below_set ?_ GE245.out | refine below_set ?_ GE251.out | refine below_set ?_ GE257.out) | exact HB.out))) A78.out).mono ?_); rintro e w79 ⟨rfl, hb⟩; refine ⟨_, rfl, ?_⟩; have n0_ := Aside0.mk (blk_below (g := gb244) (o := .cells #[.string a0_0, .string a0_1, .string a0_2] 23 (0, 0)) (by (with_reducible repeat (first | refine blk_drewN ?_ _ | refine blk_drew ?_ | refine blk_alloc ?_ _)); exact BK244.out) hb); have n1_ := Aside0.mk (blk_below (g := gb245) (o := .cells #[.int .i64 a3_0, .string a3_1, .string a3_2, .string a3_3] 37 (0, 0)) (by (with_reducible repeat (first | refine blk_drewN ?_ _ | refine blk_drew ?_ | refine blk_alloc ?_ _)); exact BK245.out) hb); have n2_ := Aside0.mk (blk_below (g := gb251) (o := .cells #[.int .i64 t246, .string t247, .string t248, .string t249] 37 (0, 0)) (by (with_reducible repeat (first | refine blk_drewN ?_ _ | refine blk_drew ?_ | refine blk_alloc ?_ _)); exact BK251.out) hb); have n3_ := Aside0.mk (blk_below (g := gb257) (o := .cells #[.int .i64 t252, .string t253, .string t254, .string t255] 37 (0, 0)) (by (with_reducible repeat (first | refine blk_drewN ?_ _ | refine blk_drew ?_ | refine blk_alloc ?_ _)); exact BK257.out) hb); have n4_ := Aside0.mk (below_step (by repeat (first | (with_reducible first | exact HB.out | apply below_alloc | apply pw_below_drewN | apply below_drew1 | refine below_set ?_ GE244.out | refine below_set ?_ GE245.out | refine below_set ?_ GE251.out | refine below_set ?_ GE257.out) | exact HB.out)) hb); clear BK244; clear BK245; clear BK251; clear BK257; clear HB; have BK244 := n0_; have BK245 := n1_; have BK251 := n2_; have BK257 := n3_; have HB := n4_; clear n0_ n1_ n2_ n3_ n4_; (try clear hb); (try clear hb2); (try clear hk); (try clear hi)))
          go_ret
          exact ⟨by first | rfl | (simp [errW_none, errW_some] <;> rfl) | (simp [*, errW_none, errW_some] <;> rfl), by repeat (first | (with_reducible first | exact HB.out | apply below_alloc | apply pw_below_drewN | apply below_drew1 | refine below_set ?_ GE244.out | refine below_set ?_ GE245.out | refine below_set ?_ GE251.out | refine below_set ?_ GE257.out) | exact HB.out)⟩
end Go.Proofs.YtdmmglihkdkeaaaDoor.Pr
