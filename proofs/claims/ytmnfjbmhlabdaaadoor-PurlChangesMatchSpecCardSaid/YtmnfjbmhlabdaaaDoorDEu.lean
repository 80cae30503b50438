/- The reference's Check answers what its Lean function says. Conditions: none beyond its calls' own. -/
import Derived.Test.YtmnfjbmhlabdaaaDoorDXa
import Derived.Test.YtmnfjbmhlabdaaaDoorDPrx0
import Derived.Test.YtmnfjbmhlabdaaaDoorDPrx11
import Derived.Test.YtmnfjbmhlabdaaaDoorDEc
import Derived.Test.YtmnfjbmhlabdaaaDoorDEn
import Derived.Test.YtmnfjbmhlabdaaaDoorDEx
import Derived.Test.YtmnfjbmhlabdaaaDoorDEy
import Derived.Test.YtmnfjbmhlabdaaaDoorDEh
import Derived.Test.YtmnfjbmhlabdaaaDoorDGt
import Derived.Deep.RegionWith
import Derived.Deep.Cut
import Derived.Deep.LoopGhost
namespace Go.Proofs.YtmnfjbmhlabdaaaDoor.Pr
open Go.RowKit Go.Proofs.YtmnfjbmhlabdaaaDoorW.PrintWords Go.Proofs.YtmnfjbmhlabdaaaDoorW.PrintLast Go.Proofs.YtmnfjbmhlabdaaaDoorW.PrintMore
attribute [local go_sem] max2_int min2_int max_two min_two max_three min_three max_four min_four leq_not
set_option linter.unusedVariables false
def ckL0 (k : Nat) (l : List S64) : Nat → Nat → Option Bool
 | 0, _ => some false
 | d + 1, i => (r2_long.f k [(rd_T64 l i).f0, (rd_T64 l i).f1]).bind fun b => if b = true then some true else ckL0 k l d (i + 1)
def ckL1 (k : Nat) (l : List S64) : Nat → Nat → Option Int
 | 0, _ => some 0
 | d + 1, i => (r2_isQualifier.f k (rd_T64 l i).f0).bind fun b => if b = true then (if (rd_T64 l i).f1.toList = [] then some 2 else if 0 < i then (if Op.bytesLess (rd_T64 l ((i - 1 : Nat) : Int)).f0.toList (rd_T64 l i).f0.toList = true then ckL1 k l d (i + 1) else some 10) else ckL1 k l d (i + 1)) else some 8
def ckL2 (k : Nat) (l : List S64) : Nat → Nat → Bool → Option Bool
 | 0, _, ok => some ok
 | d + 1, i, ok => (if ok = true then r2_clean.f k (rd_T64 l i).f1 else some false).bind fun c => ckL2 k l d (i + 1) c
def ck5 (k : Nat) (l : List S64) (c4 : Bool) : Option Int := (ckL2 k l l.length 0 c4).bind fun ok => if ok = true then some 0 else some 8
def ck4 (k : Nat) (a1 a2 a3 : ByteArray) (l : List S64) (a5 : ByteArray) : Option Int := (r2_badSegments.f k a5 true).bind fun b => if b = true then some 2 else (r2_clean.f k a1).bind fun c1 => (if c1 = true then r2_clean.f k a2 else some false).bind fun c2 => (if c2 = true then r2_clean.f k a3 else some false).bind fun c3 => (if c3 = true then r2_clean.f k a5 else some false).bind fun c4 => ck5 k l c4
def ck3 (k : Nat) (a1 a2 a3 : ByteArray) (l : List S64) (a5 : ByteArray) : Option Int := (ckL1 k l l.length 0).bind fun e => if e = 0 then ck4 k a1 a2 a3 l a5 else some e
def ck2 (k : Nat) (a1 a2 a3 : ByteArray) (l : List S64) (a5 : ByteArray) : Option Int := (if a2.toList = [] then some true else lib_Contains.f a2 ⟨#[47]⟩).bind fun b => if b = true then some 8 else ck3 k a1 a2 a3 l a5
def ck1 (k : Nat) (a1 a2 a3 : ByteArray) (l : List S64) (a5 : ByteArray) (sp : Int) : Option Int := (if (a1.toList = [] ∧ sp = 3) ∨ (a1.toList ≠ [] ∧ sp = 1) then some true else r2_badSegments.f k a1 false).bind fun b => if b = true then some 2 else ck2 k a1 a2 a3 l a5
def ck0 (k : Nat) (a1 a2 a3 : ByteArray) (l : List S64) (a5 : ByteArray) (sp : Int) : Option Int := (ckL0 k l l.length 0).bind fun b => if b = true then some 3 else ck1 k a1 a2 a3 l a5 sp
def r2_Check.f (k : Nat) (a0_0 a0_1 a0_2 a0_3 : ByteArray) (l0_4 : List S64) (a0_5 : ByteArray) : Option Int := (r2_Rule.f k a0_0).bind fun t => if t.2.2.2.2.2 = 0 then (r2_long.f k [a0_1, a0_2, a0_3, a0_5]).bind fun lg => if lg = true then some 3 else if (l0_4.length : Int) > 10 then some 3 else ck0 k a0_1 a0_2 a0_3 l0_4 a0_5 t.2.1 else some t.2.2.2.2.2
structure Ck (w : World) (g1 g3 : Nat) (P Q : Array Value) (W : World) : Prop where
 b1 : W.heap[g1]? = some (.cells P 24 (0, 0))
 b3 : W.heap[g3]? = some (.cells Q 37 (0, 0))
 hb : Below w.heap.size w W
section
variable {w : World} {g1 g3 : Nat} {P Q : Array Value} {W W' : World}
theorem Ck.below (h : Ck w g1 g3 P Q W) (k : Below W.heap.size W W') : Ck w g1 g3 P Q W' := ⟨zw h.b1 k, zw h.b3 k, zv h.hb k⟩
theorem Ck.drew (h : Ck w g1 g3 P Q W) : Ck w g1 g3 P Q W.drew := ⟨h.b1, h.b3, zc h.hb⟩
theorem Ck.drewN (h : Ck w g1 g3 P Q W) (m : Nat) : Ck w g1 g3 P Q (W.drewN m) := ⟨h.b1, h.b3, zb h.hb m⟩
theorem Ck.alloc (h : Ck w g1 g3 P Q W) (o : Obj) : Ck w g1 g3 P Q (W.alloc o) := h.below (zd (Below.refl _ _) o)
end
set_option maxHeartbeats 8000000 in
set_option maxRecDepth 100000 in
theorem r2_Check.calls (k : Nat) (a0_0 : ByteArray) (a0_1 : ByteArray) (a0_2 : ByteArray) (a0_3 : ByteArray) (A0_4 : Option Addr) (c0_4 : Nat) (l0_4 : List (S64)) (a0_5 : ByteArray) (r : Int) (w : World) (hr0_4 : Kd.C k64 w A0_4 l0_4.length l0_4) (hc0_4 : l0_4.length ≤ c0_4) (h : r2_Check.f k a0_0 a0_1 a0_2 a0_3 l0_4 a0_5 = some r) :
  Calls Tryd.prog 25 #[.agg #[.string a0_0, .string a0_1, .string a0_2, .string a0_3, .slice A0_4 l0_4.length c0_4, .string a0_5]] w fun e w' => e = .returned (.int .i64 r) ∧ Below w.heap.size w w' := by
 have hu24 := Tryd.underlying24
 have hu37 := Tryd.underlying37
 have hu64 := Tryd.underlying64
 have hmax := Kd.C_max hr0_4
 have HMAX := Aq.mk hmax
 have HR0 := Aq.mk hr0_4
 clear hr0_4 hc0_4 hmax
 have HB := Aq.mk (Below.refl w.heap.size w)
 unfold r2_Check.f at h
 obtain ⟨⟨t1, t2, t3, t4, t5, t6⟩, AR0, h⟩ := zu.mp h
 replace h : (if t6 = 0 then (r2_long.f k [a0_1, a0_2, a0_3, a0_5]).bind (fun lg => if lg = true then some 3 else if (l0_4.length : Int) > 10 then some 3 else ck0 k a0_1 a0_2 a0_3 l0_4 a0_5 t2) else some t6) = some r := h
 have AR := Aq.mk AR0
 have H := Aq.mk h
 clear AR0 h
 go_enter Tryd.func25, Tryd.ntmps25
 go_upto_region 2 with (first | ((with_reducible refine gate_dst (N := 1) rfl ?_); refine box_event ?hg (N := 1) ?hd (cs := #[.string a0_0, .string a0_1, .string a0_2, .string a0_3, .slice A0_4 l0_4.length c0_4, .string a0_5]) (t := 24) ?hr ?_; (case hd => rfl); (case hg => rfl); (case hr => first | (go_simp; done) | (go_simp; rfl)); intro g1 hg w1 hbox hb; have B1 := Aq.mk hbox; have n1_ := Aq.mk (zv (by repeat (with_reducible first | exact HB.out | apply zd | apply zb | apply zc)) hb); clear HB; have HB := n1_; clear n1_ hb hbox hg; have hc1_0 : w1.cell? ⟨g1, 0, none⟩ = some (.string a0_0) := (ze B1.out 0).trans rfl) | ((with_reducible refine gate_callee (f := 16) rfl ?_); refine goesL_ (some 15) rfl rfl Tryd.func16 (by kernel_rfl) rfl #[.string a0_0] rfl (by (try simp only [zP, zQ, zR]); first | done | rfl) ?_; (with_reducible refine (r2_Rule.calls k a0_0 t1 t2 t3 t4 t5 t6 _ AR.out).mono ?_); rintro e w3 ⟨rfl, hb⟩; refine ⟨_, rfl, ?_⟩; have n0_ := Aq.mk (zw B1.out hb); have n1_ := Aq.mk (zv (by repeat (with_reducible first | exact HB.out | apply zd | apply zb | apply zc)) hb); clear HB B1; have B1 := n0_; have HB := n1_; clear n0_ n1_ hb) | ((with_reducible refine gate_dst (N := 3) rfl ?_); refine box_event ?hg (N := 3) ?hd (cs := #[.string (⟨#[]⟩ : ByteArray), .int .i64 0, .bool false, .bool false, .int .i64 0]) (t := 37) ?hr ?_; (case hd => rfl); (case hg => rfl); (case hr => first | (go_simp; done) | (go_simp; rfl)); intro g3 hg w4 hbox hb; have B3 := Aq.mk hbox; have L3 := Aq.mk (show w.heap.size ≤ g3 by rw [hg]; exact zz (by repeat (with_reducible first | exact HB.out | apply zd | apply zb | apply zc))); have N13 := Aq.mk (show g1 ≠ g3 by rw [hg]; exact Nat.ne_of_lt (zA B1.out)); have n0_ := Aq.mk (zw B1.out hb); have n1_ := Aq.mk (zv (by repeat (with_reducible first | exact HB.out | apply zd | apply zb | apply zc)) hb); clear HB B1; have B1 := n0_; have HB := n1_; clear n0_ n1_ hb hbox hg; have hc3_0 : w4.cell? ⟨g3, 0, none⟩ = some (.string (⟨#[]⟩ : ByteArray)) := (ze B3.out 0).trans rfl; have hf3_0 := za B3.out 0; have hc3_1 : w4.cell? ⟨g3, 1, none⟩ = some (.int .i64 0) := (ze B3.out 1).trans rfl; have hf3_1 := za B3.out 1; have hc3_2 : w4.cell? ⟨g3, 2, none⟩ = some (.bool false) := (ze B3.out 2).trans rfl; have hf3_2 := za B3.out 2; have hc3_3 : w4.cell? ⟨g3, 3, none⟩ = some (.bool false) := (ze B3.out 3).trans rfl; have hf3_3 := za B3.out 3; have hc3_4 : w4.cell? ⟨g3, 4, none⟩ = some (.int .i64 0) := (ze B3.out 4).trans rfl; have hf3_4 := za B3.out 4))
 refine wp_gen (R := Ck w g1 g3 #[.string a0_0, .string a0_1, .string a0_2, .string a0_3, .slice A0_4 l0_4.length c0_4, .string a0_5] #[.string t1, .int .i64 t2, .bool t3, .bool t4, .int .i64 t5]) ⟨by refine zx ?_ N13.out _; refine zx ?_ N13.out _; refine zx ?_ N13.out _; refine zx ?_ N13.out _; refine zx ?_ N13.out _; exact B1.out, by refine zy (cs := #[.string t1, .int .i64 t2, .bool t3, .bool t4, .int .i64 0]) ?_ 4 _ rfl; refine zy (cs := #[.string t1, .int .i64 t2, .bool t3, .bool false, .int .i64 0]) ?_ 3 _ rfl; refine zy (cs := #[.string t1, .int .i64 t2, .bool false, .bool false, .int .i64 0]) ?_ 2 _ rfl; refine zy (cs := #[.string t1, .int .i64 0, .bool false, .bool false, .int .i64 0]) ?_ 1 _ rfl; refine zy (cs := #[.string (⟨#[]⟩ : ByteArray), .int .i64 0, .bool false, .bool false, .int .i64 0]) ?_ 0 _ rfl; exact B3.out, by repeat (with_reducible first | exact HB.out | refine zf ?_ L3.out)⟩ (fun w5 C0 => ?_)
 clear B1 B3 HB hc1_0 hc3_0 hc3_1 hc3_2 hc3_3 hc3_4 hf3_0 hf3_1 hf3_2 hf3_3 hf3_4 L3 N13
 have h := H.out
 clear H
 by_cases h6 : t6 = 0
 case neg =>
  rw [if_neg h6] at h
  obtain rfl := yg h
  have h6b0 : (t6 == 0) = false := ye.mpr h6
  have h6b1 : (t6 != 0) = true := yd.mpr h6
  clear h
  go_wp2
  go_ret
  exact ⟨rfl, Ck.hb (g1 := g1) (g3 := g3) (P := #[.string a0_0, .string a0_1, .string a0_2, .string a0_3, .slice A0_4 l0_4.length c0_4, .string a0_5]) (Q := #[.string t1, .int .i64 t2, .bool t3, .bool t4, .int .i64 t5]) (by repeat (with_reducible first | exact C0.out | apply Ck.drewN | apply Ck.drew | apply Ck.alloc))⟩
 rw [if_pos h6] at h
 subst h6
 obtain ⟨lg, AL0, h⟩ := zu.mp h
 have H := Aq.mk h
 obtain ⟨y, hy⟩ : ∃ y : List ByteArray, y = [a0_1, a0_2, a0_3, a0_5] := ⟨_, rfl⟩
 rw [← hy] at AL0
 have ALo := Aq.mk AL0
 have NY := Aq.mk hy
 clear AL0 h hy
 go_upto_region 4 with (fail)
 refine wp_gen (R := Ck w g1 g3 #[.string a0_0, .string a0_1, .string a0_2, .string a0_3, .slice A0_4 l0_4.length c0_4, .string a0_5] #[.string t1, .int .i64 t2, .bool t3, .bool t4, .int .i64 t5]) (by repeat (with_reducible first | exact C0.out | apply Ck.drewN | apply Ck.drew | apply Ck.alloc)) (fun w6 C0 => ?_)
 have h := H.out
 clear H
 have hp1 : w6.cell? ⟨g1, 1, none⟩ = some (.string a0_1) := (ze C0.out.b1 1).trans rfl; have hp2 : w6.cell? ⟨g1, 2, none⟩ = some (.string a0_2) := (ze C0.out.b1 2).trans rfl; have hp3 : w6.cell? ⟨g1, 3, none⟩ = some (.string a0_3) := (ze C0.out.b1 3).trans rfl; have hp4 : w6.cell? ⟨g1, 4, none⟩ = some (.slice A0_4 l0_4.length c0_4) := (ze C0.out.b1 4).trans rfl; have hp5 : w6.cell? ⟨g1, 5, none⟩ = some (.string a0_5) := (ze C0.out.b1 5).trans rfl
 cases lg with
 | true =>
  obtain rfl : (3 : Int) = r := yg h
  clear h
  go_wp2_with (first | ((with_reducible refine gate_dst (N := 29) rfl ?_); refine Kd.R_lit Kd.string _ 9 ?hg (N := 29) ?hd (xs := ([a0_1, a0_2, a0_3, a0_5] : List ByteArray)) (inner := [.string a0_1, .string a0_2, .string a0_3, .string a0_5]) (ok := fun _ => True) (okp := fun _ => True) ?hr ?hp (fun _ hk => hk) trivial (Below.refl _ _) (Nat.le_refl _) (by simp) ?_; (case hd => rfl); (case hg => rfl); (case hr => first | (go_simp; done) | (go_simp; rfl)); (case hp => exact (Reps.one (show Kd.M Kd.string _ _ _ a0_1 [.string a0_1] from rfl) (Reps.one (show Kd.M Kd.string _ _ _ a0_2 [.string a0_2] from rfl) (Reps.one (show Kd.M Kd.string _ _ _ a0_3 [.string a0_3] from rfl) (Reps.one (show Kd.M Kd.string _ _ _ a0_5 [.string a0_5] from rfl) (Reps.none _ _)))))); intro vL w7 ho hb hg_ hnew_; clear hg_ hnew_; rw [← NY.out] at ho; obtain ⟨AL, cL, eL⟩ := yi ho; subst eL; have HL := Aq.mk ho; clear ho; have n0_ : Aq (Ck w g1 g3 #[.string a0_0, .string a0_1, .string a0_2, .string a0_3, .slice A0_4 l0_4.length c0_4, .string a0_5] #[.string t1, .int .i64 t2, .bool t3, .bool t4, .int .i64 t5] w7) := ⟨Ck.below (by repeat (with_reducible first | exact C0.out | apply Ck.drewN | apply Ck.drew | apply Ck.alloc)) hb⟩; clear C0 hb; have C0 := n0_; clear n0_; have hp4 : w7.cell? ⟨g1, 4, none⟩ = some (.slice A0_4 l0_4.length c0_4) := (ze C0.out.b1 4).trans rfl) | (go_at_call 61; (with_reducible refine (r2_long.calls k _ _ y true _ ?side1 ?side2 ALo.out).mono ?_); (case side1 => repeat (first | exact (Kd.R_reads' HL.out).2.2 | (with_reducible refine zF ?_ _) | (with_reducible refine zE ?_ _) | (with_reducible refine zG ?_))); (case side2 => exact (Kd.R_reads' HL.out).2.1); rintro e w' ⟨rfl, ⟨nd, rfl⟩⟩))
  go_ret
  exact ⟨rfl, Ck.hb (g1 := g1) (g3 := g3) (P := #[.string a0_0, .string a0_1, .string a0_2, .string a0_3, .slice A0_4 l0_4.length c0_4, .string a0_5]) (Q := #[.string t1, .int .i64 t2, .bool t3, .bool t4, .int .i64 t5]) (by repeat (with_reducible first | exact C0.out | apply Ck.drewN | apply Ck.drew | apply Ck.alloc))⟩
 | false =>
  replace h : (if (l0_4.length : Int) > 10 then some 3 else ck0 k a0_1 a0_2 a0_3 l0_4 a0_5 t2) = some r := h
  by_cases h10 : (l0_4.length : Int) > 10
  case pos =>
   rw [if_pos h10] at h
   obtain rfl : (3 : Int) = r := yg h
   have h10b : decide (10 < (l0_4.length : Int)) = true := zk h10
   clear h h10
   go_wp2_with (first | ((with_reducible refine gate_dst (N := 29) rfl ?_); refine Kd.R_lit Kd.string _ 9 ?hg (N := 29) ?hd (xs := ([a0_1, a0_2, a0_3, a0_5] : List ByteArray)) (inner := [.string a0_1, .string a0_2, .string a0_3, .string a0_5]) (ok := fun _ => True) (okp := fun _ => True) ?hr ?hp (fun _ hk => hk) trivial (Below.refl _ _) (Nat.le_refl _) (by simp) ?_; (case hd => rfl); (case hg => rfl); (case hr => first | (go_simp; done) | (go_simp; rfl)); (case hp => exact (Reps.one (show Kd.M Kd.string _ _ _ a0_1 [.string a0_1] from rfl) (Reps.one (show Kd.M Kd.string _ _ _ a0_2 [.string a0_2] from rfl) (Reps.one (show Kd.M Kd.string _ _ _ a0_3 [.string a0_3] from rfl) (Reps.one (show Kd.M Kd.string _ _ _ a0_5 [.string a0_5] from rfl) (Reps.none _ _)))))); intro vL w7 ho hb hg_ hnew_; clear hg_ hnew_; rw [← NY.out] at ho; obtain ⟨AL, cL, eL⟩ := yi ho; subst eL; have HL := Aq.mk ho; clear ho; have n0_ : Aq (Ck w g1 g3 #[.string a0_0, .string a0_1, .string a0_2, .string a0_3, .slice A0_4 l0_4.length c0_4, .string a0_5] #[.string t1, .int .i64 t2, .bool t3, .bool t4, .int .i64 t5] w7) := ⟨Ck.below (by repeat (with_reducible first | exact C0.out | apply Ck.drewN | apply Ck.drew | apply Ck.alloc)) hb⟩; clear C0 hb; have C0 := n0_; clear n0_; have hp4 : w7.cell? ⟨g1, 4, none⟩ = some (.slice A0_4 l0_4.length c0_4) := (ze C0.out.b1 4).trans rfl) | (go_at_call 61; (with_reducible refine (r2_long.calls k _ _ y false _ ?side1 ?side2 ALo.out).mono ?_); (case side1 => repeat (first | exact (Kd.R_reads' HL.out).2.2 | (with_reducible refine zF ?_ _) | (with_reducible refine zE ?_ _) | (with_reducible refine zG ?_))); (case side2 => exact (Kd.R_reads' HL.out).2.1); rintro e w' ⟨rfl, ⟨nd, rfl⟩⟩))
   go_ret
   exact ⟨rfl, Ck.hb (g1 := g1) (g3 := g3) (P := #[.string a0_0, .string a0_1, .string a0_2, .string a0_3, .slice A0_4 l0_4.length c0_4, .string a0_5]) (Q := #[.string t1, .int .i64 t2, .bool t3, .bool t4, .int .i64 t5]) (by repeat (with_reducible first | exact C0.out | apply Ck.drewN | apply Ck.drew | apply Ck.alloc))⟩
  rw [if_neg h10] at h
  have h10b : decide (10 < (l0_4.length : Int)) = false := zl h10
  clear h10
  unfold ck0 at h
  obtain ⟨b0, AL0, h⟩ := zu.mp h
  have H := Aq.mk h
  have HL0 := Aq.mk AL0
  clear h AL0
  go_upto_region 6 with (first | ((with_reducible refine gate_dst (N := 29) rfl ?_); refine Kd.R_lit Kd.string _ 9 ?hg (N := 29) ?hd (xs := ([a0_1, a0_2, a0_3, a0_5] : List ByteArray)) (inner := [.string a0_1, .string a0_2, .string a0_3, .string a0_5]) (ok := fun _ => True) (okp := fun _ => True) ?hr ?hp (fun _ hk => hk) trivial (Below.refl _ _) (Nat.le_refl _) (by simp) ?_; (case hd => rfl); (case hg => rfl); (case hr => first | (go_simp; done) | (go_simp; rfl)); (case hp => exact (Reps.one (show Kd.M Kd.string _ _ _ a0_1 [.string a0_1] from rfl) (Reps.one (show Kd.M Kd.string _ _ _ a0_2 [.string a0_2] from rfl) (Reps.one (show Kd.M Kd.string _ _ _ a0_3 [.string a0_3] from rfl) (Reps.one (show Kd.M Kd.string _ _ _ a0_5 [.string a0_5] from rfl) (Reps.none _ _)))))); intro vL w7 ho hb hg_ hnew_; clear hg_ hnew_; rw [← NY.out] at ho; obtain ⟨AL, cL, eL⟩ := yi ho; subst eL; have HL := Aq.mk ho; clear ho; have n0_ : Aq (Ck w g1 g3 #[.string a0_0, .string a0_1, .string a0_2, .string a0_3, .slice A0_4 l0_4.length c0_4, .string a0_5] #[.string t1, .int .i64 t2, .bool t3, .bool t4, .int .i64 t5] w7) := ⟨Ck.below (by repeat (with_reducible first | exact C0.out | apply Ck.drewN | apply Ck.drew | apply Ck.alloc)) hb⟩; clear C0 hb; have C0 := n0_; clear n0_; have hp4 : w7.cell? ⟨g1, 4, none⟩ = some (.slice A0_4 l0_4.length c0_4) := (ze C0.out.b1 4).trans rfl) | (go_at_call 61; (with_reducible refine (r2_long.calls k _ _ y false _ ?side1 ?side2 ALo.out).mono ?_); (case side1 => repeat (first | exact (Kd.R_reads' HL.out).2.2 | (with_reducible refine zF ?_ _) | (with_reducible refine zE ?_ _) | (with_reducible refine zG ?_))); (case side2 => exact (Kd.R_reads' HL.out).2.1); rintro e w' ⟨rfl, ⟨nd, rfl⟩⟩))
  refine wp_gen (R := Ck w g1 g3 #[.string a0_0, .string a0_1, .string a0_2, .string a0_3, .slice A0_4 l0_4.length c0_4, .string a0_5] #[.string t1, .int .i64 t2, .bool t3, .bool t4, .int .i64 t5]) (by repeat (with_reducible first | exact C0.out | apply Ck.drewN | apply Ck.drew | apply Ck.alloc)) (fun w8 C0 => ?_)
  clear HL h10b
  have hp4 : w8.cell? ⟨g1, 4, none⟩ = some (.slice A0_4 l0_4.length c0_4) := (ze C0.out.b1 4).trans rfl
  go_wp2
  go_loopg [40] l0_4.length (fun n v40 wr => ∃ i : Nat, v40 = .int .i64 i ∧ Aq (i + n = l0_4.length) ∧ Aq (ckL0 k l0_4 n i = some b0) ∧ Aq (Ck w g1 g3 #[.string a0_0, .string a0_1, .string a0_2, .string a0_3, .slice A0_4 l0_4.length c0_4, .string a0_5] #[.string t1, .int .i64 t2, .bool t3, .bool t4, .int .i64 t5] wr))
  case atStart => exact ⟨0, rfl, ⟨by omega⟩, HL0, ⟨(by repeat (with_reducible first | exact C0.out | apply Ck.drewN | apply Ck.drew | apply Ck.alloc))⟩⟩
  case round =>
   obtain ⟨i, rfl, hi, hl, C1⟩ := hrel
   clear C0 HL0 hp4
   have C0 := C1
   clear C1
   rcases Nat.lt_or_ge i l0_4.length with hlt | hge
   ·have hl' : ckL0 k l0_4 (gk - 1 + 1) i = some b0 := by rw [Nat.sub_add_cancel (by have := hi.out; omega)]; exact hl.out
    obtain ⟨lb, AB0, hl2⟩ := zu.mp hl'
    have HL2 := Aq.mk hl2
    obtain ⟨y2, hy2⟩ : ∃ y : List ByteArray, y = [(rd_T64 l0_4 i).f0, (rd_T64 l0_4 i).f1] := ⟨_, rfl⟩
    rw [← hy2] at AB0
    have AB := Aq.mk AB0
    have NY2 := Aq.mk hy2
    clear hl' hl2 hl AB0 hy2
    have HRi := Kd.C_below HR0.out C0.out.hb
    obtain ⟨ad, ea, hx0, hx1⟩ := at_T64 HRi (i : Int) (by omega) (by omega)
    cases ea
    rw [Int.toNat_natCast] at hx0 hx1
    have pi := eq_true (show (0 : Int) ≤ (i : Int) by omega)
    have qi := eq_true (show (i : Int) < (l0_4.length : Int) by omega)
    clear HRi
    have HLT := Aq.mk hlt
    clear hlt
    have hlen : decide ((i : Int) < (l0_4.length : Int)) = true := zk (by have := HLT.out; omega)
    go_upto_region 9 with (first | ((with_reducible refine gate_dst (N := 6) rfl ?_); refine box_event ?hg (N := 6) ?hd (cs := #[.string (⟨#[]⟩ : ByteArray), .string (⟨#[]⟩ : ByteArray)]) (t := 64) ?hr ?_; (case hd => rfl); (case hg => rfl); (case hr => first | (go_simp; done) | (go_simp; rfl)); intro g6 hg w9 hbox hb; have B6 := Aq.mk hbox; have L6 := Aq.mk (show w.heap.size ≤ g6 by rw [hg]; exact zz (Ck.hb (g1 := g1) (g3 := g3) (P := #[.string a0_0, .string a0_1, .string a0_2, .string a0_3, .slice (some ad) l0_4.length c0_4, .string a0_5]) (Q := #[.string t1, .int .i64 t2, .bool t3, .bool t4, .int .i64 t5]) (by repeat (with_reducible first | exact C0.out | apply Ck.drewN | apply Ck.drew | apply Ck.alloc)))); have N16 := Aq.mk (show g1 ≠ g6 by rw [hg]; exact Nat.ne_of_lt (zA C0.out.b1)); have N36 := Aq.mk (show g3 ≠ g6 by rw [hg]; exact Nat.ne_of_lt (zA C0.out.b3)); have n0_ : Aq (Ck w g1 g3 #[.string a0_0, .string a0_1, .string a0_2, .string a0_3, .slice (some ad) l0_4.length c0_4, .string a0_5] #[.string t1, .int .i64 t2, .bool t3, .bool t4, .int .i64 t5] w9) := ⟨Ck.below (by repeat (with_reducible first | exact C0.out | apply Ck.drewN | apply Ck.drew | apply Ck.alloc)) hb⟩; clear C0 hb; have C0 := n0_; clear n0_; clear hbox hg; have hc6_0 : w9.cell? ⟨g6, 0, none⟩ = some (.string (⟨#[]⟩ : ByteArray)) := (ze B6.out 0).trans rfl; have hf6_0 := za B6.out 0; have hc6_1 : w9.cell? ⟨g6, 1, none⟩ = some (.string (⟨#[]⟩ : ByteArray)) := (ze B6.out 1).trans rfl; have hf6_1 := za B6.out 1))
    refine wp_gen (R := fun W => Ck w g1 g3 #[.string a0_0, .string a0_1, .string a0_2, .string a0_3, .slice (some ad) l0_4.length c0_4, .string a0_5] #[.string t1, .int .i64 t2, .bool t3, .bool t4, .int .i64 t5] W ∧ W.heap[g6]? = some (.cells #[.string (rd_T64 l0_4 i).f0, .string (rd_T64 l0_4 i).f1] 64 (0, 0))) ⟨⟨by refine zx ?_ N16.out _; refine zx ?_ N16.out _; exact C0.out.b1, by refine zx ?_ N36.out _; refine zx ?_ N36.out _; exact C0.out.b3, by repeat (with_reducible first | exact C0.out.hb | refine zf ?_ L6.out)⟩, by refine zy (cs := #[.string (rd_T64 l0_4 i).f0, .string (⟨#[]⟩ : ByteArray)]) ?_ 1 _ rfl; refine zy (cs := #[.string (⟨#[]⟩ : ByteArray), .string (⟨#[]⟩ : ByteArray)]) ?_ 0 _ rfl; exact B6.out⟩ (fun wA CX => ?_)
    have C0 := Aq.mk CX.out.1
    have BX := Aq.mk CX.out.2
    clear CX B6 L6 N16 N36 hx0 hx1 hc6_0 hc6_1 hf6_0 hf6_1
    have hy0 : wA.cell? ⟨g6, 0, none⟩ = some (.string (rd_T64 l0_4 i).f0) := (ze BX.out 0).trans rfl
    have hy1 : wA.cell? ⟨g6, 1, none⟩ = some (.string (rd_T64 l0_4 i).f1) := (ze BX.out 1).trans rfl
    have hl2 := HL2.out
    clear HL2
    cases lb with
    | true =>
     obtain rfl : true = b0 := yg hl2
     obtain rfl : (3 : Int) = r := yg H.out
     clear hl2
     go_wp2_with (first | ((with_reducible refine gate_dst (N := 48) rfl ?_); refine Kd.R_lit Kd.string _ 9 ?hg (N := 48) ?hd (xs := ([(rd_T64 l0_4 i).f0, (rd_T64 l0_4 i).f1] : List ByteArray)) (inner := [.string ((rd_T64 l0_4 i).f0), .string ((rd_T64 l0_4 i).f1)]) (ok := fun _ => True) (okp := fun _ => True) ?hr ?hp (fun _ hk => hk) trivial (Below.refl _ _) (Nat.le_refl _) (by simp) ?_; (case hd => rfl); (case hg => rfl); (case hr => first | (go_simp; done) | (go_simp; rfl)); (case hp => exact (Reps.one (show Kd.M Kd.string _ _ _ (rd_T64 l0_4 i).f0 [.string (rd_T64 l0_4 i).f0] from rfl) (Reps.one (show Kd.M Kd.string _ _ _ (rd_T64 l0_4 i).f1 [.string (rd_T64 l0_4 i).f1] from rfl) (Reps.none _ _)))); intro vL wB ho hb hg_ hnew_; clear hg_ hnew_; rw [← NY2.out] at ho; obtain ⟨AL, cL, eL⟩ := yi ho; subst eL; have HL := Aq.mk ho; clear ho; have n0_ : Aq (Ck w g1 g3 #[.string a0_0, .string a0_1, .string a0_2, .string a0_3, .slice (some ad) l0_4.length c0_4, .string a0_5] #[.string t1, .int .i64 t2, .bool t3, .bool t4, .int .i64 t5] wB) := ⟨Ck.below (by repeat (with_reducible first | exact C0.out | apply Ck.drewN | apply Ck.drew | apply Ck.alloc)) hb⟩; clear C0 hb; have C0 := n0_; clear n0_) | (go_at_call 61; (with_reducible refine (r2_long.calls k _ _ y2 true _ ?side1 ?side2 AB.out).mono ?_); (case side1 => repeat (first | exact (Kd.R_reads' HL.out).2.2 | (with_reducible refine zF ?_ _) | (with_reducible refine zE ?_ _) | (with_reducible refine zG ?_))); (case side2 => exact (Kd.R_reads' HL.out).2.1); rintro e w' ⟨rfl, ⟨nd, rfl⟩⟩))
     go_ret
     exact ⟨rfl, Ck.hb (g1 := g1) (g3 := g3) (P := #[.string a0_0, .string a0_1, .string a0_2, .string a0_3, .slice (some ad) l0_4.length c0_4, .string a0_5]) (Q := #[.string t1, .int .i64 t2, .bool t3, .bool t4, .int .i64 t5]) (by repeat (with_reducible first | exact C0.out | apply Ck.drewN | apply Ck.drew | apply Ck.alloc))⟩
    | false =>
     have HL2 := Aq.mk (show ckL0 k l0_4 (gk - 1) (i + 1) = some b0 from hl2)
     clear hl2
     have hws := wrap_succ i (by have := HMAX.out; have := HLT.out; omega)
     go_wp2_with (first | ((with_reducible refine gate_dst (N := 48) rfl ?_); refine Kd.R_lit Kd.string _ 9 ?hg (N := 48) ?hd (xs := ([(rd_T64 l0_4 i).f0, (rd_T64 l0_4 i).f1] : List ByteArray)) (inner := [.string ((rd_T64 l0_4 i).f0), .string ((rd_T64 l0_4 i).f1)]) (ok := fun _ => True) (okp := fun _ => True) ?hr ?hp (fun _ hk => hk) trivial (Below.refl _ _) (Nat.le_refl _) (by simp) ?_; (case hd => rfl); (case hg => rfl); (case hr => first | (go_simp; done) | (go_simp; rfl)); (case hp => exact (Reps.one (show Kd.M Kd.string _ _ _ (rd_T64 l0_4 i).f0 [.string (rd_T64 l0_4 i).f0] from rfl) (Reps.one (show Kd.M Kd.string _ _ _ (rd_T64 l0_4 i).f1 [.string (rd_T64 l0_4 i).f1] from rfl) (Reps.none _ _)))); intro vL wB ho hb hg_ hnew_; clear hg_ hnew_; rw [← NY2.out] at ho; obtain ⟨AL, cL, eL⟩ := yi ho; subst eL; have HL := Aq.mk ho; clear ho; have n0_ : Aq (Ck w g1 g3 #[.string a0_0, .string a0_1, .string a0_2, .string a0_3, .slice (some ad) l0_4.length c0_4, .string a0_5] #[.string t1, .int .i64 t2, .bool t3, .bool t4, .int .i64 t5] wB) := ⟨Ck.below (by repeat (with_reducible first | exact C0.out | apply Ck.drewN | apply Ck.drew | apply Ck.alloc)) hb⟩; clear C0 hb; have C0 := n0_; clear n0_) | (go_at_call 61; (with_reducible refine (r2_long.calls k _ _ y2 false _ ?side1 ?side2 AB.out).mono ?_); (case side1 => repeat (first | exact (Kd.R_reads' HL.out).2.2 | (with_reducible refine zF ?_ _) | (with_reducible refine zE ?_ _) | (with_reducible refine zG ?_))); (case side2 => exact (Kd.R_reads' HL.out).2.1); rintro e w' ⟨rfl, ⟨nd, rfl⟩⟩))
     rw [hws]
     go_roundg (gk - 1)
     case measure => have := hi.out; have := HLT.out; omega
     case rel => exact ⟨i + 1, rfl, ⟨by have := hi.out; have := HLT.out; omega⟩, HL2, ⟨(by repeat (with_reducible first | exact C0.out | apply Ck.drewN | apply Ck.drew | apply Ck.alloc))⟩⟩
   ·have hl2 := hl.out
    have hii := hi.out
    obtain rfl : i = l0_4.length := by omega
    obtain rfl : gk = 0 := by omega
    obtain rfl : false = b0 := yg hl2
    have H1 := Aq.mk (show ck1 k a0_1 a0_2 a0_3 l0_4 a0_5 t2 = some r from H.out)
    clear hl2 hl H hi hii hge
    have hlen : decide ((l0_4.length : Int) < (l0_4.length : Int)) = false := zl (by omega)
    go_upto_region 12 with (fail)
    refine wp_gen (R := Ck w g1 g3 #[.string a0_0, .string a0_1, .string a0_2, .string a0_3, .slice A0_4 l0_4.length c0_4, .string a0_5] #[.string t1, .int .i64 t2, .bool t3, .bool t4, .int .i64 t5]) (by repeat (with_reducible first | exact C0.out | apply Ck.drewN | apply Ck.drew | apply Ck.alloc)) (fun w10 C0 => ?_)
    clear hlen
    have h := H1.out
    clear H1
    unfold ck1 at h
    obtain ⟨sb, AS0, h⟩ := zu.mp h
    have AS := Aq.mk AS0
    have HS := Aq.mk h
    clear AS0 h
    have hp1 : w10.cell? ⟨g1, 1, none⟩ = some (.string a0_1) := (ze C0.out.b1 1).trans rfl
    have hq1 : w10.cell? ⟨g3, 1, none⟩ = some (.int .i64 t2) := (ze C0.out.b3 1).trans rfl
    go_cut [73] (fun v73 wc => v73 = .bool sb ∧ Aq (Ck w g1 g3 #[.string a0_0, .string a0_1, .string a0_2, .string a0_3, .slice A0_4 l0_4.length c0_4, .string a0_5] #[.string t1, .int .i64 t2, .bool t3, .bool t4, .int .i64 t5] wc))
    case first =>
     have h := AS.out
     clear AS
     by_cases ha : a0_1.toList = []
     ·by_cases hs : t2 = 3
      ·rw [if_pos (Or.inl ⟨ha, hs⟩)] at h
       obtain rfl : true = sb := yg h
       have hab0 : (a0_1.toList == ([] : List UInt8)) = true := yc.mpr ha
       have hab1 : (a0_1.toList != ([] : List UInt8)) = false := yf.mpr ha
       have hab2 : (!a0_1.toList.isEmpty) = false := by rw [List.isEmpty_iff.2 ha]; rfl
       have hab3 : a0_1.toList.isEmpty = true := List.isEmpty_iff.2 ha
       subst hs
       clear h ha
       go_wp2
       go_meet
       case rel => exact ⟨rfl, ⟨(by repeat (with_reducible first | exact C0.out | apply Ck.drewN | apply Ck.drew | apply Ck.alloc))⟩⟩
      ·rw [if_neg (fun e => e.elim (fun e => hs e.2) (fun e => e.1 ha))] at h
       have AB := Aq.mk h
       have hab0 : (a0_1.toList == ([] : List UInt8)) = true := yc.mpr ha
       have hab1 : (a0_1.toList != ([] : List UInt8)) = false := yf.mpr ha
       have hab2 : (!a0_1.toList.isEmpty) = false := by rw [List.isEmpty_iff.2 ha]; rfl
       have hab3 : a0_1.toList.isEmpty = true := List.isEmpty_iff.2 ha
       have hsb0 : (t2 == 3) = false := ye.mpr hs
       have hsb1 : (t2 != 3) = true := yd.mpr hs
       clear h ha hs
       go_wp2_with (first | (go_at_call 62; (with_reducible refine (r2_badSegments.calls k a0_1 false sb _ AB.out).mono ?_); rintro e w11 ⟨rfl, hb⟩; have n0_ : Aq (Ck w g1 g3 #[.string a0_0, .string a0_1, .string a0_2, .string a0_3, .slice A0_4 l0_4.length c0_4, .string a0_5] #[.string t1, .int .i64 t2, .bool t3, .bool t4, .int .i64 t5] w11) := ⟨Ck.below (by repeat (with_reducible first | exact C0.out | apply Ck.drewN | apply Ck.drew | apply Ck.alloc)) hb⟩; clear C0 hb; have C0 := n0_; clear n0_))
       go_meet
       case rel => exact ⟨rfl, ⟨(by repeat (with_reducible first | exact C0.out | apply Ck.drewN | apply Ck.drew | apply Ck.alloc))⟩⟩
     ·by_cases hs : t2 = 1
      ·rw [if_pos (Or.inr ⟨ha, hs⟩)] at h
       obtain rfl : true = sb := yg h
       have hab0 : (a0_1.toList == ([] : List UInt8)) = false := ye.mpr ha
       have hab1 : (a0_1.toList != ([] : List UInt8)) = true := yd.mpr ha
       have hab3 : a0_1.toList.isEmpty = false := by cases h_ : a0_1.toList with | nil => exact absurd h_ ha | cons _ _ => rfl
       have hab2 : (!a0_1.toList.isEmpty) = true := by rw [hab3]; rfl
       subst hs
       clear h ha
       go_wp2
       go_meet
       case rel => exact ⟨rfl, ⟨(by repeat (with_reducible first | exact C0.out | apply Ck.drewN | apply Ck.drew | apply Ck.alloc))⟩⟩
      ·rw [if_neg (fun e => e.elim (fun e => ha e.1) (fun e => hs e.2))] at h
       have AB := Aq.mk h
       have hab0 : (a0_1.toList == ([] : List UInt8)) = false := ye.mpr ha
       have hab1 : (a0_1.toList != ([] : List UInt8)) = true := yd.mpr ha
       have hab3 : a0_1.toList.isEmpty = false := by cases h_ : a0_1.toList with | nil => exact absurd h_ ha | cons _ _ => rfl
       have hab2 : (!a0_1.toList.isEmpty) = true := by rw [hab3]; rfl
       have hsb0 : (t2 == 1) = false := ye.mpr hs
       have hsb1 : (t2 != 1) = true := yd.mpr hs
       clear h ha hs
       go_wp2_with (first | (go_at_call 62; (with_reducible refine (r2_badSegments.calls k a0_1 false sb _ AB.out).mono ?_); rintro e w11 ⟨rfl, hb⟩; have n0_ : Aq (Ck w g1 g3 #[.string a0_0, .string a0_1, .string a0_2, .string a0_3, .slice A0_4 l0_4.length c0_4, .string a0_5] #[.string t1, .int .i64 t2, .bool t3, .bool t4, .int .i64 t5] w11) := ⟨Ck.below (by repeat (with_reducible first | exact C0.out | apply Ck.drewN | apply Ck.drew | apply Ck.alloc)) hb⟩; clear C0 hb; have C0 := n0_; clear n0_))
       go_meet
       case rel => exact ⟨rfl, ⟨(by repeat (with_reducible first | exact C0.out | apply Ck.drewN | apply Ck.drew | apply Ck.alloc))⟩⟩
    obtain ⟨rfl, C1⟩ := hcut
    clear C0 hp1 hq1 AS
    have C0 := C1
    clear C1
    have h := HS.out
    clear HS
    cases sb with
    | true =>
     obtain rfl : (2 : Int) = r := yg h
     clear h
     go_wp2
     go_ret
     exact ⟨rfl, Ck.hb (g1 := g1) (g3 := g3) (P := #[.string a0_0, .string a0_1, .string a0_2, .string a0_3, .slice A0_4 l0_4.length c0_4, .string a0_5]) (Q := #[.string t1, .int .i64 t2, .bool t3, .bool t4, .int .i64 t5]) (by repeat (with_reducible first | exact C0.out | apply Ck.drewN | apply Ck.drew | apply Ck.alloc))⟩
    | false =>
     replace h : ck2 k a0_1 a0_2 a0_3 l0_4 a0_5 = some r := h
     unfold ck2 at h
     obtain ⟨nb, AN0, h⟩ := zu.mp h
     have AN := Aq.mk AN0
     have HN := Aq.mk h
     clear AN0 h
     go_upto_region 14 with (fail)
     refine wp_gen (R := Ck w g1 g3 #[.string a0_0, .string a0_1, .string a0_2, .string a0_3, .slice A0_4 l0_4.length c0_4, .string a0_5] #[.string t1, .int .i64 t2, .bool t3, .bool t4, .int .i64 t5]) (by repeat (with_reducible first | exact C0.out | apply Ck.drewN | apply Ck.drew | apply Ck.alloc)) (fun w12 C0 => ?_)
     have hp2 : w12.cell? ⟨g1, 2, none⟩ = some (.string a0_2) := (ze C0.out.b1 2).trans rfl
     go_cut [81] (fun v81 wc => v81 = .bool nb ∧ Aq (Ck w g1 g3 #[.string a0_0, .string a0_1, .string a0_2, .string a0_3, .slice A0_4 l0_4.length c0_4, .string a0_5] #[.string t1, .int .i64 t2, .bool t3, .bool t4, .int .i64 t5] wc))
     case first =>
      have h := AN.out
      clear AN
      by_cases ha : a0_2.toList = []
      ·rw [if_pos ha] at h
       obtain rfl : true = nb := yg h
       have hab0 : (a0_2.toList == ([] : List UInt8)) = true := yc.mpr ha
       have hab1 : (a0_2.toList != ([] : List UInt8)) = false := yf.mpr ha
       have hab2 : (!a0_2.toList.isEmpty) = false := by rw [List.isEmpty_iff.2 ha]; rfl
       have hab3 : a0_2.toList.isEmpty = true := List.isEmpty_iff.2 ha
       clear h ha
       go_wp2
       go_meet
       case rel => exact ⟨rfl, ⟨(by repeat (with_reducible first | exact C0.out | apply Ck.drewN | apply Ck.drew | apply Ck.alloc))⟩⟩
      ·rw [if_neg ha] at h
       have AB := Aq.mk h
       have hab0 : (a0_2.toList == ([] : List UInt8)) = false := ye.mpr ha
       have hab1 : (a0_2.toList != ([] : List UInt8)) = true := yd.mpr ha
       have hab3 : a0_2.toList.isEmpty = false := by cases h_ : a0_2.toList with | nil => exact absurd h_ ha | cons _ _ => rfl
       have hab2 : (!a0_2.toList.isEmpty) = true := by rw [hab3]; rfl
       clear h ha
       go_wp2_with (first | (go_at_call 63; (with_reducible refine (lib_Contains.calls a0_2 (⟨#[47]⟩ : ByteArray) nb _ AB.out).mono ?_); rintro e w' ⟨rfl, ⟨nd, rfl⟩⟩))
       go_meet
       case rel => exact ⟨rfl, ⟨(by repeat (with_reducible first | exact C0.out | apply Ck.drewN | apply Ck.drew | apply Ck.alloc))⟩⟩
     obtain ⟨rfl, C1⟩ := hcut
     clear C0 hp2 AN
     have C0 := C1
     clear C1
     have h := HN.out
     clear HN
     cases nb with
     | true =>
      obtain rfl : (8 : Int) = r := yg h
      clear h
      go_wp2
      go_ret
      exact ⟨rfl, Ck.hb (g1 := g1) (g3 := g3) (P := #[.string a0_0, .string a0_1, .string a0_2, .string a0_3, .slice A0_4 l0_4.length c0_4, .string a0_5]) (Q := #[.string t1, .int .i64 t2, .bool t3, .bool t4, .int .i64 t5]) (by repeat (with_reducible first | exact C0.out | apply Ck.drewN | apply Ck.drew | apply Ck.alloc))⟩
     | false =>
      replace h : ck3 k a0_1 a0_2 a0_3 l0_4 a0_5 = some r := h
      unfold ck3 at h
      obtain ⟨e1, AE0, h⟩ := zu.mp h
      have HL1 := Aq.mk AE0
      have HE := Aq.mk h
      clear AE0 h
      go_upto_region 16 with (fail)
      refine wp_gen (R := Ck w g1 g3 #[.string a0_0, .string a0_1, .string a0_2, .string a0_3, .slice A0_4 l0_4.length c0_4, .string a0_5] #[.string t1, .int .i64 t2, .bool t3, .bool t4, .int .i64 t5]) (by repeat (with_reducible first | exact C0.out | apply Ck.drewN | apply Ck.drew | apply Ck.alloc)) (fun w13 C0 => ?_)
      have hp4 : w13.cell? ⟨g1, 4, none⟩ = some (.slice A0_4 l0_4.length c0_4) := (ze C0.out.b1 4).trans rfl
      go_wp2
      go_loopg [85] l0_4.length (fun n v85 wr => ∃ i : Nat, v85 = .int .i64 i ∧ Aq (i + n = l0_4.length) ∧ Aq (ckL1 k l0_4 n i = some e1) ∧ Aq (Ck w g1 g3 #[.string a0_0, .string a0_1, .string a0_2, .string a0_3, .slice A0_4 l0_4.length c0_4, .string a0_5] #[.string t1, .int .i64 t2, .bool t3, .bool t4, .int .i64 t5] wr))
      case atStart => exact ⟨0, rfl, ⟨by omega⟩, HL1, ⟨(by repeat (with_reducible first | exact C0.out | apply Ck.drewN | apply Ck.drew | apply Ck.alloc))⟩⟩
      case round =>
       obtain ⟨i, rfl, hi, hl, C1⟩ := hrel
       clear C0 HL1 hp4
       have C0 := C1
       clear C1
       rcases Nat.lt_or_ge i l0_4.length with hlt | hge
       ·have hl' : ckL1 k l0_4 (gk - 1 + 1) i = some e1 := by rw [Nat.sub_add_cancel (by have := hi.out; omega)]; exact hl.out
        obtain ⟨qb, AQ0, hl2⟩ := zu.mp hl'
        have HL2 := Aq.mk hl2
        have AQ := Aq.mk AQ0
        clear hl' hl2 hl AQ0
        have HRi := Kd.C_below HR0.out C0.out.hb
        obtain ⟨ad, ea, hx0, hx1⟩ := at_T64 HRi (i : Int) (by omega) (by omega)
        cases ea
        rw [Int.toNat_natCast] at hx0 hx1
        have pi := eq_true (show (0 : Int) ≤ (i : Int) by omega)
        have qi := eq_true (show (i : Int) < (l0_4.length : Int) by omega)
        clear HRi
        have HLT := Aq.mk hlt
        clear hlt
        have hlen : decide ((i : Int) < (l0_4.length : Int)) = true := zk (by have := HLT.out; omega)
        go_upto_region 19 with (first | ((with_reducible refine gate_dst (N := 8) rfl ?_); refine box_event ?hg (N := 8) ?hd (cs := #[.string (⟨#[]⟩ : ByteArray), .string (⟨#[]⟩ : ByteArray)]) (t := 64) ?hr ?_; (case hd => rfl); (case hg => rfl); (case hr => first | (go_simp; done) | (go_simp; rfl)); intro g8 hg w14 hbox hb; have B6 := Aq.mk hbox; have L6 := Aq.mk (show w.heap.size ≤ g8 by rw [hg]; exact zz (Ck.hb (g1 := g1) (g3 := g3) (P := #[.string a0_0, .string a0_1, .string a0_2, .string a0_3, .slice (some ad) l0_4.length c0_4, .string a0_5]) (Q := #[.string t1, .int .i64 t2, .bool t3, .bool t4, .int .i64 t5]) (by repeat (with_reducible first | exact C0.out | apply Ck.drewN | apply Ck.drew | apply Ck.alloc)))); have N16 := Aq.mk (show g1 ≠ g8 by rw [hg]; exact Nat.ne_of_lt (zA C0.out.b1)); have N36 := Aq.mk (show g3 ≠ g8 by rw [hg]; exact Nat.ne_of_lt (zA C0.out.b3)); have n0_ : Aq (Ck w g1 g3 #[.string a0_0, .string a0_1, .string a0_2, .string a0_3, .slice (some ad) l0_4.length c0_4, .string a0_5] #[.string t1, .int .i64 t2, .bool t3, .bool t4, .int .i64 t5] w14) := ⟨Ck.below (by repeat (with_reducible first | exact C0.out | apply Ck.drewN | apply Ck.drew | apply Ck.alloc)) hb⟩; clear C0 hb; have C0 := n0_; clear n0_; clear hbox hg; have hc6_0 : w14.cell? ⟨g8, 0, none⟩ = some (.string (⟨#[]⟩ : ByteArray)) := (ze B6.out 0).trans rfl; have hf6_0 := za B6.out 0; have hc6_1 : w14.cell? ⟨g8, 1, none⟩ = some (.string (⟨#[]⟩ : ByteArray)) := (ze B6.out 1).trans rfl; have hf6_1 := za B6.out 1))
        refine wp_gen (R := fun W => Ck w g1 g3 #[.string a0_0, .string a0_1, .string a0_2, .string a0_3, .slice (some ad) l0_4.length c0_4, .string a0_5] #[.string t1, .int .i64 t2, .bool t3, .bool t4, .int .i64 t5] W ∧ W.heap[g8]? = some (.cells #[.string (rd_T64 l0_4 i).f0, .string (rd_T64 l0_4 i).f1] 64 (0, 0))) ⟨⟨by refine zx ?_ N16.out _; refine zx ?_ N16.out _; exact C0.out.b1, by refine zx ?_ N36.out _; refine zx ?_ N36.out _; exact C0.out.b3, by repeat (with_reducible first | exact C0.out.hb | refine zf ?_ L6.out)⟩, by refine zy (cs := #[.string (rd_T64 l0_4 i).f0, .string (⟨#[]⟩ : ByteArray)]) ?_ 1 _ rfl; refine zy (cs := #[.string (⟨#[]⟩ : ByteArray), .string (⟨#[]⟩ : ByteArray)]) ?_ 0 _ rfl; exact B6.out⟩ (fun wB CX => ?_)
        have C0 := Aq.mk CX.out.1
        have BX := Aq.mk CX.out.2
        clear CX B6 L6 N16 N36 hx0 hx1 hc6_0 hc6_1 hf6_0 hf6_1
        have hy0 : wB.cell? ⟨g8, 0, none⟩ = some (.string (rd_T64 l0_4 i).f0) := (ze BX.out 0).trans rfl
        have hy1 : wB.cell? ⟨g8, 1, none⟩ = some (.string (rd_T64 l0_4 i).f1) := (ze BX.out 1).trans rfl
        have hp4 : wB.cell? ⟨g1, 4, none⟩ = some (.slice (some ad) l0_4.length c0_4) := (ze C0.out.b1 4).trans rfl
        have hl2 := HL2.out
        clear HL2
        have hws := wrap_succ i (by have := HMAX.out; have := HLT.out; omega)
        cases qb with
        | false =>
         obtain rfl : (8 : Int) = e1 := yg hl2
         obtain rfl : (8 : Int) = r := yg HE.out
         clear hl2
         go_wp2_with (first | (go_at_call 64; (with_reducible refine (r2_isQualifier.calls k (rd_T64 l0_4 i).f0 false _ AQ.out).mono ?_); rintro e w' ⟨rfl, ⟨nd, rfl⟩⟩))
         go_ret
         exact ⟨rfl, Ck.hb (g1 := g1) (g3 := g3) (P := #[.string a0_0, .string a0_1, .string a0_2, .string a0_3, .slice (some ad) l0_4.length c0_4, .string a0_5]) (Q := #[.string t1, .int .i64 t2, .bool t3, .bool t4, .int .i64 t5]) (by repeat (with_reducible first | exact C0.out | apply Ck.drewN | apply Ck.drew | apply Ck.alloc))⟩
        | true =>
         replace hl2 : (if (rd_T64 l0_4 i).f1.toList = [] then some 2 else if 0 < i then (if Op.bytesLess (rd_T64 l0_4 ((i - 1 : Nat) : Int)).f0.toList (rd_T64 l0_4 i).f0.toList = true then ckL1 k l0_4 (gk - 1) (i + 1) else some 10) else ckL1 k l0_4 (gk - 1) (i + 1)) = some e1 := hl2
         by_cases hf : (rd_T64 l0_4 i).f1.toList = []
         ·rw [if_pos hf] at hl2
          obtain rfl : (2 : Int) = e1 := yg hl2
          obtain rfl : (2 : Int) = r := yg HE.out
          have hfb0 : ((rd_T64 l0_4 i).f1.toList == ([] : List UInt8)) = true := yc.mpr hf
          have hfb1 : ((rd_T64 l0_4 i).f1.toList != ([] : List UInt8)) = false := yf.mpr hf
          have hfb2 : (!(rd_T64 l0_4 i).f1.toList.isEmpty) = false := by rw [List.isEmpty_iff.2 hf]; rfl
          have hfb3 : (rd_T64 l0_4 i).f1.toList.isEmpty = true := List.isEmpty_iff.2 hf
          clear hl2 hf
          go_wp2_with (first | (go_at_call 64; (with_reducible refine (r2_isQualifier.calls k (rd_T64 l0_4 i).f0 true _ AQ.out).mono ?_); rintro e w' ⟨rfl, ⟨nd, rfl⟩⟩))
          go_ret
          exact ⟨rfl, Ck.hb (g1 := g1) (g3 := g3) (P := #[.string a0_0, .string a0_1, .string a0_2, .string a0_3, .slice (some ad) l0_4.length c0_4, .string a0_5]) (Q := #[.string t1, .int .i64 t2, .bool t3, .bool t4, .int .i64 t5]) (by repeat (with_reducible first | exact C0.out | apply Ck.drewN | apply Ck.drew | apply Ck.alloc))⟩
         ·rw [if_neg hf] at hl2
          have hfb0 : ((rd_T64 l0_4 i).f1.toList == ([] : List UInt8)) = false := ye.mpr hf
          have hfb1 : ((rd_T64 l0_4 i).f1.toList != ([] : List UInt8)) = true := yd.mpr hf
          have hfb3 : (rd_T64 l0_4 i).f1.toList.isEmpty = false := by cases h_ : (rd_T64 l0_4 i).f1.toList with | nil => exact absurd h_ hf | cons _ _ => rfl
          have hfb2 : (!(rd_T64 l0_4 i).f1.toList.isEmpty) = true := by rw [hfb3]; rfl
          clear hf
          by_cases h0 : 0 < i
          ·rw [if_pos h0] at hl2
           obtain ⟨j, hj⟩ : ∃ j : Nat, j = i - 1 := ⟨_, rfl⟩
           rw [← hj] at hl2
           have hwp : wrap64 ((i : Int) - 1) = (j : Int) := by unfold wrap64; have := HLT.out; have := HMAX.out; omega
           have hwq : IntKind.i64.wrap ((i : Int) - 1) = (j : Int) := (i64_w _).trans hwp
           have h0b : decide (0 < (i : Int)) = true := zk (by omega)
           have h0n : decide (0 < i) = true := zk (by omega)
           have qn := eq_true (show j < l0_4.length by have := HLT.out; omega)
           have HRj := Kd.C_below HR0.out C0.out.hb
           obtain ⟨ad2, ea2, hz0, hz1⟩ := at_T64 HRj (j : Int) (by omega) (by have := HLT.out; omega)
           cases ea2
           rw [Int.toNat_natCast] at hz0 hz1
           have pj := eq_true (show (0 : Int) ≤ (j : Int) by omega)
           have qj := eq_true (show (j : Int) < (l0_4.length : Int) by have := HLT.out; omega)
           clear HRj hj h0
           by_cases hb : Op.bytesLess (rd_T64 l0_4 (j : Int)).f0.toList (rd_T64 l0_4 i).f0.toList = true
           ·rw [if_pos hb] at hl2
            have HL2 := Aq.mk hl2
            clear hl2
            go_wp2_with (first | (go_at_call 64; (with_reducible refine (r2_isQualifier.calls k (rd_T64 l0_4 i).f0 true _ AQ.out).mono ?_); rintro e w' ⟨rfl, ⟨nd, rfl⟩⟩))
            repeat (go_quiet (fail); try go_wp2)
            rw [hws]
            go_roundg (gk - 1)
            case measure => have := hi.out; have := HLT.out; omega
            case rel => exact ⟨i + 1, rfl, ⟨by have := hi.out; have := HLT.out; omega⟩, HL2, ⟨(by repeat (with_reducible first | exact C0.out | apply Ck.drewN | apply Ck.drew | apply Ck.alloc))⟩⟩
           ·rw [if_neg hb] at hl2
            obtain rfl : (10 : Int) = e1 := yg hl2
            obtain rfl : (10 : Int) = r := yg HE.out
            have hb' : Op.bytesLess (rd_T64 l0_4 (j : Int)).f0.toList (rd_T64 l0_4 i).f0.toList = false := by simpa using hb
            clear hl2 hb
            go_wp2_with (first | (go_at_call 64; (with_reducible refine (r2_isQualifier.calls k (rd_T64 l0_4 i).f0 true _ AQ.out).mono ?_); rintro e w' ⟨rfl, ⟨nd, rfl⟩⟩))
            repeat (go_quiet (fail); try go_wp2)
            go_ret
            exact ⟨rfl, Ck.hb (g1 := g1) (g3 := g3) (P := #[.string a0_0, .string a0_1, .string a0_2, .string a0_3, .slice (some ad) l0_4.length c0_4, .string a0_5]) (Q := #[.string t1, .int .i64 t2, .bool t3, .bool t4, .int .i64 t5]) (by repeat (with_reducible first | exact C0.out | apply Ck.drewN | apply Ck.drew | apply Ck.alloc))⟩
          ·rw [if_neg h0] at hl2
           have HL2 := Aq.mk hl2
           have h0b : decide (0 < (i : Int)) = false := zl (by omega)
           have h0n : decide (0 < i) = false := zl (by omega)
           clear hl2 h0
           go_wp2_with (first | (go_at_call 64; (with_reducible refine (r2_isQualifier.calls k (rd_T64 l0_4 i).f0 true _ AQ.out).mono ?_); rintro e w' ⟨rfl, ⟨nd, rfl⟩⟩))
           repeat (go_quiet (fail); try go_wp2)
           rw [hws]
           go_roundg (gk - 1)
           case measure => have := hi.out; have := HLT.out; omega
           case rel => exact ⟨i + 1, rfl, ⟨by have := hi.out; have := HLT.out; omega⟩, HL2, ⟨(by repeat (with_reducible first | exact C0.out | apply Ck.drewN | apply Ck.drew | apply Ck.alloc))⟩⟩
       ·have hl2 := hl.out
        have hii := hi.out
        obtain rfl : i = l0_4.length := by omega
        obtain rfl : gk = 0 := by omega
        obtain rfl : (0 : Int) = e1 := yg hl2
        have h : ck4 k a0_1 a0_2 a0_3 l0_4 a0_5 = some r := HE.out
        clear hl2 hl HE hi hii hge
        unfold ck4 at h
        obtain ⟨vb, AV0, h⟩ := zu.mp h
        have AV := Aq.mk AV0
        have H4 := Aq.mk h
        clear AV0 h
        have hlen : decide ((l0_4.length : Int) < (l0_4.length : Int)) = false := zl (by omega)
        go_upto_region 26 with (fail)
        refine wp_gen (R := Ck w g1 g3 #[.string a0_0, .string a0_1, .string a0_2, .string a0_3, .slice A0_4 l0_4.length c0_4, .string a0_5] #[.string t1, .int .i64 t2, .bool t3, .bool t4, .int .i64 t5]) (by repeat (with_reducible first | exact C0.out | apply Ck.drewN | apply Ck.drew | apply Ck.alloc)) (fun w15 C0 => ?_)
        clear hlen
        have hp5 : w15.cell? ⟨g1, 5, none⟩ = some (.string a0_5) := (ze C0.out.b1 5).trans rfl
        have h := H4.out
        clear H4
        cases vb with
        | true =>
         obtain rfl : (2 : Int) = r := yg h
         clear h
         go_wp2_with (first | (go_at_call 62; (with_reducible refine (r2_badSegments.calls k a0_5 true true _ AV.out).mono ?_); rintro e w16 ⟨rfl, hb⟩; have n0_ : Aq (Ck w g1 g3 #[.string a0_0, .string a0_1, .string a0_2, .string a0_3, .slice A0_4 l0_4.length c0_4, .string a0_5] #[.string t1, .int .i64 t2, .bool t3, .bool t4, .int .i64 t5] w16) := ⟨Ck.below (by repeat (with_reducible first | exact C0.out | apply Ck.drewN | apply Ck.drew | apply Ck.alloc)) hb⟩; clear C0 hb; have C0 := n0_; clear n0_))
         go_ret
         exact ⟨rfl, Ck.hb (g1 := g1) (g3 := g3) (P := #[.string a0_0, .string a0_1, .string a0_2, .string a0_3, .slice A0_4 l0_4.length c0_4, .string a0_5]) (Q := #[.string t1, .int .i64 t2, .bool t3, .bool t4, .int .i64 t5]) (by repeat (with_reducible first | exact C0.out | apply Ck.drewN | apply Ck.drew | apply Ck.alloc))⟩
        | false =>
         obtain ⟨c1, A10, h⟩ := zu.mp (show (r2_clean.f k a0_1).bind (fun c1 => (if c1 = true then r2_clean.f k a0_2 else some false).bind fun c2 => (if c2 = true then r2_clean.f k a0_3 else some false).bind fun c3 => (if c3 = true then r2_clean.f k a0_5 else some false).bind fun c4 => ck5 k l0_4 c4) = some r from h)
         obtain ⟨c2, A20, h⟩ := zu.mp h
         obtain ⟨c3, A30, h⟩ := zu.mp h
         obtain ⟨c4, A40, h⟩ := zu.mp h
         have A1 := Aq.mk A10
         have A2 := Aq.mk A20
         have A3 := Aq.mk A30
         have A4 := Aq.mk A40
         have H5 := Aq.mk h
         clear A10 A20 A30 A40 h
         go_upto_region 28 with (first | (go_at_call 62; (with_reducible refine (r2_badSegments.calls k a0_5 true false _ AV.out).mono ?_); rintro e w16 ⟨rfl, hb⟩; have n0_ : Aq (Ck w g1 g3 #[.string a0_0, .string a0_1, .string a0_2, .string a0_3, .slice A0_4 l0_4.length c0_4, .string a0_5] #[.string t1, .int .i64 t2, .bool t3, .bool t4, .int .i64 t5] w16) := ⟨Ck.below (by repeat (with_reducible first | exact C0.out | apply Ck.drewN | apply Ck.drew | apply Ck.alloc)) hb⟩; clear C0 hb; have C0 := n0_; clear n0_))
         refine wp_gen (R := Ck w g1 g3 #[.string a0_0, .string a0_1, .string a0_2, .string a0_3, .slice A0_4 l0_4.length c0_4, .string a0_5] #[.string t1, .int .i64 t2, .bool t3, .bool t4, .int .i64 t5]) (by repeat (with_reducible first | exact C0.out | apply Ck.drewN | apply Ck.drew | apply Ck.alloc)) (fun w17 C0 => ?_)
         have hp1 : w17.cell? ⟨g1, 1, none⟩ = some (.string a0_1) := (ze C0.out.b1 1).trans rfl; have hp2 : w17.cell? ⟨g1, 2, none⟩ = some (.string a0_2) := (ze C0.out.b1 2).trans rfl; have hp3 : w17.cell? ⟨g1, 3, none⟩ = some (.string a0_3) := (ze C0.out.b1 3).trans rfl; have hp5 : w17.cell? ⟨g1, 5, none⟩ = some (.string a0_5) := (ze C0.out.b1 5).trans rfl
         go_cut [9] (fun v9 wc => v9 = .bool c4 ∧ Aq (Ck w g1 g3 #[.string a0_0, .string a0_1, .string a0_2, .string a0_3, .slice A0_4 l0_4.length c0_4, .string a0_5] #[.string t1, .int .i64 t2, .bool t3, .bool t4, .int .i64 t5] wc))
         case first =>
          cases c1 with
          | false =>
           obtain rfl : false = c2 := yg A2.out
           obtain rfl : false = c3 := yg A3.out
           obtain rfl : false = c4 := yg A4.out
           go_wp2_with (first | (go_at_call 65; (with_reducible refine (r2_clean.calls k a0_1 false _ A1.out).mono ?_); rintro e w' ⟨rfl, ⟨nd, rfl⟩⟩))
           go_meet
           case rel => exact ⟨rfl, ⟨(by repeat (with_reducible first | exact C0.out | apply Ck.drewN | apply Ck.drew | apply Ck.alloc))⟩⟩
          | true =>
           have B2 := Aq.mk (show r2_clean.f k a0_2 = some c2 from A2.out)
           cases c2 with
           | false =>
            obtain rfl : false = c3 := yg A3.out
            obtain rfl : false = c4 := yg A4.out
            go_wp2_with (first | (go_at_call 65; (with_reducible refine (r2_clean.calls k a0_1 true _ A1.out).mono ?_); rintro e w' ⟨rfl, ⟨nd, rfl⟩⟩) | (go_at_call 65; (with_reducible refine (r2_clean.calls k a0_2 false _ B2.out).mono ?_); rintro e w' ⟨rfl, ⟨nd, rfl⟩⟩))
            go_meet
            case rel => exact ⟨rfl, ⟨(by repeat (with_reducible first | exact C0.out | apply Ck.drewN | apply Ck.drew | apply Ck.alloc))⟩⟩
           | true =>
            have B3 := Aq.mk (show r2_clean.f k a0_3 = some c3 from A3.out)
            cases c3 with
            | false =>
             obtain rfl : false = c4 := yg A4.out
             go_wp2_with (first | (go_at_call 65; (with_reducible refine (r2_clean.calls k a0_1 true _ A1.out).mono ?_); rintro e w' ⟨rfl, ⟨nd, rfl⟩⟩) | (go_at_call 65; (with_reducible refine (r2_clean.calls k a0_2 true _ B2.out).mono ?_); rintro e w' ⟨rfl, ⟨nd, rfl⟩⟩) | (go_at_call 65; (with_reducible refine (r2_clean.calls k a0_3 false _ B3.out).mono ?_); rintro e w' ⟨rfl, ⟨nd, rfl⟩⟩))
             go_meet
             case rel => exact ⟨rfl, ⟨(by repeat (with_reducible first | exact C0.out | apply Ck.drewN | apply Ck.drew | apply Ck.alloc))⟩⟩
            | true =>
             have B4 := Aq.mk (show r2_clean.f k a0_5 = some c4 from A4.out)
             go_wp2_with (first | (go_at_call 65; (with_reducible refine (r2_clean.calls k a0_1 true _ A1.out).mono ?_); rintro e w' ⟨rfl, ⟨nd, rfl⟩⟩) | (go_at_call 65; (with_reducible refine (r2_clean.calls k a0_2 true _ B2.out).mono ?_); rintro e w' ⟨rfl, ⟨nd, rfl⟩⟩) | (go_at_call 65; (with_reducible refine (r2_clean.calls k a0_3 true _ B3.out).mono ?_); rintro e w' ⟨rfl, ⟨nd, rfl⟩⟩) | (go_at_call 65; (with_reducible refine (r2_clean.calls k a0_5 c4 _ B4.out).mono ?_); rintro e w' ⟨rfl, ⟨nd, rfl⟩⟩))
             go_meet
             case rel => exact ⟨rfl, ⟨(by repeat (with_reducible first | exact C0.out | apply Ck.drewN | apply Ck.drew | apply Ck.alloc))⟩⟩
         obtain ⟨rfl, C1⟩ := hcut
         clear C0 hp1 hp2 hp3 hp5 A1 A2 A3 A4
         have C0 := C1
         clear C1
         have h := H5.out
         clear H5
         unfold ck5 at h
         obtain ⟨ok, AK0, h⟩ := zu.mp h
         have HL3 := Aq.mk AK0
         have HK := Aq.mk h
         clear AK0 h
         go_upto_region 29 with (fail)
         refine wp_gen (R := Ck w g1 g3 #[.string a0_0, .string a0_1, .string a0_2, .string a0_3, .slice A0_4 l0_4.length c0_4, .string a0_5] #[.string t1, .int .i64 t2, .bool t3, .bool t4, .int .i64 t5]) (by repeat (with_reducible first | exact C0.out | apply Ck.drewN | apply Ck.drew | apply Ck.alloc)) (fun w18 C0 => ?_)
         have hp4 : w18.cell? ⟨g1, 4, none⟩ = some (.slice A0_4 l0_4.length c0_4) := (ze C0.out.b1 4).trans rfl
         go_wp2
         go_loopg [9, 139] l0_4.length (fun n v9 v139 wr => ∃ (i : Nat) (c : Bool), v9 = .bool c ∧ v139 = .int .i64 i ∧ Aq (i + n = l0_4.length) ∧ Aq (ckL2 k l0_4 n i c = some ok) ∧ Aq (Ck w g1 g3 #[.string a0_0, .string a0_1, .string a0_2, .string a0_3, .slice A0_4 l0_4.length c0_4, .string a0_5] #[.string t1, .int .i64 t2, .bool t3, .bool t4, .int .i64 t5] wr))
         case atStart => exact ⟨0, c4, rfl, rfl, ⟨by omega⟩, HL3, ⟨(by repeat (with_reducible first | exact C0.out | apply Ck.drewN | apply Ck.drew | apply Ck.alloc))⟩⟩
         case round =>
          obtain ⟨i, c, rfl, rfl, hi, hl, C1⟩ := hrel
          clear C0 HL3 hp4
          have C0 := C1
          clear C1
          rcases Nat.lt_or_ge i l0_4.length with hlt | hge
          ·have hl' : ckL2 k l0_4 (gk - 1 + 1) i c = some ok := by rw [Nat.sub_add_cancel (by have := hi.out; omega)]; exact hl.out
           obtain ⟨c2, AC0, hl2⟩ := zu.mp hl'
           have HL2 := Aq.mk hl2
           have AC := Aq.mk AC0
           clear hl' hl2 hl AC0
           have HRi := Kd.C_below HR0.out C0.out.hb
           obtain ⟨ad, ea, hx0, hx1⟩ := at_T64 HRi (i : Int) (by omega) (by omega)
           cases ea
           rw [Int.toNat_natCast] at hx0 hx1
           have pi := eq_true (show (0 : Int) ≤ (i : Int) by omega)
           have qi := eq_true (show (i : Int) < (l0_4.length : Int) by omega)
           clear HRi
           have HLT := Aq.mk hlt
           clear hlt
           have hlen : decide ((i : Int) < (l0_4.length : Int)) = true := zk (by have := HLT.out; omega)
           go_upto_region 32 with (first | ((with_reducible refine gate_dst (N := 11) rfl ?_); refine box_event ?hg (N := 11) ?hd (cs := #[.string (⟨#[]⟩ : ByteArray), .string (⟨#[]⟩ : ByteArray)]) (t := 64) ?hr ?_; (case hd => rfl); (case hg => rfl); (case hr => first | (go_simp; done) | (go_simp; rfl)); intro g9 hg w19 hbox hb; have B6 := Aq.mk hbox; have L6 := Aq.mk (show w.heap.size ≤ g9 by rw [hg]; exact zz (Ck.hb (g1 := g1) (g3 := g3) (P := #[.string a0_0, .string a0_1, .string a0_2, .string a0_3, .slice (some ad) l0_4.length c0_4, .string a0_5]) (Q := #[.string t1, .int .i64 t2, .bool t3, .bool t4, .int .i64 t5]) (by repeat (with_reducible first | exact C0.out | apply Ck.drewN | apply Ck.drew | apply Ck.alloc)))); have N16 := Aq.mk (show g1 ≠ g9 by rw [hg]; exact Nat.ne_of_lt (zA C0.out.b1)); have N36 := Aq.mk (show g3 ≠ g9 by rw [hg]; exact Nat.ne_of_lt (zA C0.out.b3)); have n0_ : Aq (Ck w g1 g3 #[.string a0_0, .string a0_1, .string a0_2, .string a0_3, .slice (some ad) l0_4.length c0_4, .string a0_5] #[.string t1, .int .i64 t2, .bool t3, .bool t4, .int .i64 t5] w19) := ⟨Ck.below (by repeat (with_reducible first | exact C0.out | apply Ck.drewN | apply Ck.drew | apply Ck.alloc)) hb⟩; clear C0 hb; have C0 := n0_; clear n0_; clear hbox hg; have hc6_0 : w19.cell? ⟨g9, 0, none⟩ = some (.string (⟨#[]⟩ : ByteArray)) := (ze B6.out 0).trans rfl; have hf6_0 := za B6.out 0; have hc6_1 : w19.cell? ⟨g9, 1, none⟩ = some (.string (⟨#[]⟩ : ByteArray)) := (ze B6.out 1).trans rfl; have hf6_1 := za B6.out 1))
           refine wp_gen (R := fun W => Ck w g1 g3 #[.string a0_0, .string a0_1, .string a0_2, .string a0_3, .slice (some ad) l0_4.length c0_4, .string a0_5] #[.string t1, .int .i64 t2, .bool t3, .bool t4, .int .i64 t5] W ∧ W.heap[g9]? = some (.cells #[.string (rd_T64 l0_4 i).f0, .string (rd_T64 l0_4 i).f1] 64 (0, 0))) ⟨⟨by refine zx ?_ N16.out _; refine zx ?_ N16.out _; exact C0.out.b1, by refine zx ?_ N36.out _; refine zx ?_ N36.out _; exact C0.out.b3, by repeat (with_reducible first | exact C0.out.hb | refine zf ?_ L6.out)⟩, by refine zy (cs := #[.string (rd_T64 l0_4 i).f0, .string (⟨#[]⟩ : ByteArray)]) ?_ 1 _ rfl; refine zy (cs := #[.string (⟨#[]⟩ : ByteArray), .string (⟨#[]⟩ : ByteArray)]) ?_ 0 _ rfl; exact B6.out⟩ (fun wC CX => ?_)
           have C0 := Aq.mk CX.out.1
           have BX := Aq.mk CX.out.2
           clear CX B6 L6 N16 N36 hx0 hx1 hc6_0 hc6_1 hf6_0 hf6_1
           have hy1 : wC.cell? ⟨g9, 1, none⟩ = some (.string (rd_T64 l0_4 i).f1) := (ze BX.out 1).trans rfl
           have hws := wrap_succ i (by have := HMAX.out; have := HLT.out; omega)
           cases c with
           | false =>
            obtain rfl : false = c2 := yg AC.out
            go_wp2
            rw [hws]
            go_roundg (gk - 1)
            case measure => have := hi.out; have := HLT.out; omega
            case rel => exact ⟨i + 1, false, rfl, rfl, ⟨by have := hi.out; have := HLT.out; omega⟩, HL2, ⟨(by repeat (with_reducible first | exact C0.out | apply Ck.drewN | apply Ck.drew | apply Ck.alloc))⟩⟩
           | true =>
            have AC := Aq.mk (show r2_clean.f k (rd_T64 l0_4 i).f1 = some c2 from AC.out)
            go_wp2_with (first | (go_at_call 65; (with_reducible refine (r2_clean.calls k (rd_T64 l0_4 i).f1 c2 _ AC.out).mono ?_); rintro e w' ⟨rfl, ⟨nd, rfl⟩⟩))
            rw [hws]
            go_roundg (gk - 1)
            case measure => have := hi.out; have := HLT.out; omega
            case rel => exact ⟨i + 1, c2, rfl, rfl, ⟨by have := hi.out; have := HLT.out; omega⟩, HL2, ⟨(by repeat (with_reducible first | exact C0.out | apply Ck.drewN | apply Ck.drew | apply Ck.alloc))⟩⟩
          ·have hl2 := hl.out
           have hii := hi.out
           obtain rfl : i = l0_4.length := by omega
           obtain rfl : gk = 0 := by omega
           obtain rfl : c = ok := yg hl2
           have h := HK.out
           clear hl2 hl HK hi hii hge
           have hlen : decide ((l0_4.length : Int) < (l0_4.length : Int)) = false := zl (by omega)
           cases c with
           | true =>
            obtain rfl : (0 : Int) = r := yg h
            clear h
            go_wp2
            go_ret
            exact ⟨rfl, Ck.hb (g1 := g1) (g3 := g3) (P := #[.string a0_0, .string a0_1, .string a0_2, .string a0_3, .slice A0_4 l0_4.length c0_4, .string a0_5]) (Q := #[.string t1, .int .i64 t2, .bool t3, .bool t4, .int .i64 t5]) (by repeat (with_reducible first | exact C0.out | apply Ck.drewN | apply Ck.drew | apply Ck.alloc))⟩
           | false =>
            obtain rfl : (8 : Int) = r := yg h
            clear h
            go_wp2
            go_ret
            exact ⟨rfl, Ck.hb (g1 := g1) (g3 := g3) (P := #[.string a0_0, .string a0_1, .string a0_2, .string a0_3, .slice A0_4 l0_4.length c0_4, .string a0_5]) (Q := #[.string t1, .int .i64 t2, .bool t3, .bool t4, .int .i64 t5]) (by repeat (with_reducible first | exact C0.out | apply Ck.drewN | apply Ck.drew | apply Ck.alloc))⟩
end Go.Proofs.YtmnfjbmhlabdaaaDoor.Pr
