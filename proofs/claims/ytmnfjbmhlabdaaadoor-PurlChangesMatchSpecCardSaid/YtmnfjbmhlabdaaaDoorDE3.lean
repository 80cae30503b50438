/- purl.Qualified answers the name with a qualifier that has another value. Conditions: those of Check, canonical and Canonical; the qualifiers are in order. -/
import Derived.Test.YtmnfjbmhlabdaaaDoorDXa
import Derived.Test.YtmnfjbmhlabdaaaDoorDE2
import Derived.Test.YtmnfjbmhlabdaaaDoorDEm
import Derived.Test.YtmnfjbmhlabdaaaDoorDEn
import Derived.Test.YtmnfjbmhlabdaaaDoorDE0
import Derived.Test.YtmnfjbmhlabdaaaDoorDE5
import Derived.Test.YtmnfjbmhlabdaaaDoorDEo
import Derived.Test.YtmnfjbmhlabdaaaDoorDEp
import Derived.Test.YtmnfjbmhlabdaaaDoorDEu
import Derived.Test.YtmnfjbmhlabdaaaDoorDPrx0
import Derived.Test.YtmnfjbmhlabdaaaDoorDPrx3
import Derived.Deep.Cut
namespace Go.Proofs.YtmnfjbmhlabdaaaDoor.Pr
open Go.RowKit Go.Proofs.YtmnfjbmhlabdaaaDoorW.PrintWords Go.Proofs.YtmnfjbmhlabdaaaDoorW.PrintLast Go.Proofs.YtmnfjbmhlabdaaaDoorW.PrintMore
set_option linter.unusedSimpArgs false
set_option linter.unusedVariables false
instance (l : List S64) : Decidable (Srt l) := by unfold Srt; exact inferInstance
def purl_Qualified.f (k : Nat) (a0_0 : ByteArray) (a0_1 : ByteArray) (a0_2 : ByteArray) (a0_3 : ByteArray) (l0_4 : List (S64)) (a0_5 : ByteArray) (a1 : ByteArray) (a2 : ByteArray) : Option (ByteArray × ByteArray × ByteArray × ByteArray × (List (S64)) × ByteArray × Int) :=
 (purl_Check.f k a0_0 a0_1 a0_2 a0_3 l0_4 a0_5).bind fun t => if t = 0 then ((purl_canonical.f a0_0 a0_1 a0_2 a0_3 l0_4 a0_5).bind fun q => if Srt q.2.2.2.2.1 ∧ q.2.2.2.2.1.length ≤ 1000 then purl_Canonical.f k q.1 q.2.1 q.2.2.1 q.2.2.2.1 (setQ a1 a2 q.2.2.2.2.1) q.2.2.2.2.2 else none) else some ((⟨#[]⟩ : ByteArray), (⟨#[]⟩ : ByteArray), (⟨#[]⟩ : ByteArray), (⟨#[]⟩ : ByteArray), ([] : List (S64)), (⟨#[]⟩ : ByteArray), t)
theorem bs_op {B : Nat} {ok : Nat → Prop} (A : Option Addr) (n c : Nat) (l : List S64) (nm : ByteArray) (w : World) (HO : Kd.R k64 64 w B ok (.slice A n c) l) (hs : Srt l) (hbig : l.length ≤ 1000) :
  Calls Tryd.prog 72 #[.slice A n c, .string nm, .func (.func 73) #[] #[]] w fun e w' => e = .returned (.tuple #[.int .i64 (lowQ nm l : Nat), .bool (hasQ nm l)]) ∧ Below w.heap.size w w' := by
 have hn := (Kd.R_reads' HO).1
 have hC := (Kd.R_reads' HO).2.2
 rcases row_of_R HO with ⟨_, e, e2, _⟩ | ⟨g, rest, rfl, hg, hcl, e, hlc, hcm, hB, _⟩
 ·subst e
  subst e2
  exact bs_none A c nm w
 ·rw [hn]
  refine bs_pairs g c l nm w (zA hg) hbig hs (fun j hj => ?_)
  obtain ⟨ad, ea, h0, h1⟩ := at_T64 hC (j : Int) (by omega) (by omega)
  cases ea
  rw [Int.toNat_natCast, Addr.add_lit, Nat.zero_add] at h0 h1
  exact ⟨h0, h1⟩
set_option maxHeartbeats 8000000 in
set_option maxRecDepth 100000 in
theorem purl_Qualified.calls (k : Nat) (a0_0 : ByteArray) (a0_1 : ByteArray) (a0_2 : ByteArray) (a0_3 : ByteArray) (A0_4 : Option Addr) (c0_4 : Nat) (l0_4 : List (S64)) (a0_5 : ByteArray) (a1 : ByteArray) (a2 : ByteArray) (r1 : ByteArray) (r2 : ByteArray) (r3 : ByteArray) (r4 : ByteArray) (r5 : List (S64)) (r6 : ByteArray) (r7 : Int) (w : World) (hr0_4 : Kd.C k64 w A0_4 l0_4.length l0_4) (hc0_4 : l0_4.length ≤ c0_4) (h : purl_Qualified.f k a0_0 a0_1 a0_2 a0_3 l0_4 a0_5 a1 a2 = some (r1, r2, r3, r4, r5, r6, r7)) :
  Calls Tryd.prog 30 #[.agg #[.string a0_0, .string a0_1, .string a0_2, .string a0_3, .slice A0_4 l0_4.length c0_4, .string a0_5], .string a1, .string a2] w fun e w' => ∃ v4_ : Value, e = .returned (.tuple #[.agg #[.string r1, .string r2, .string r3, .string r4, v4_, .string r6], .int .i64 r7]) ∧ Kd.R k64 64 w' w.heap.size (fun _ => True) v4_ r5 ∧ Below w.heap.size w w' := by
 have hu24 := Tryd.underlying24
 have hu64 := Tryd.underlying64
 have HR0 := Aq.mk hr0_4
 have HC0 := Aq.mk hc0_4
 clear hr0_4 hc0_4
 have HB := Aq.mk (Below.refl w.heap.size w)
 unfold purl_Qualified.f at h
 replace h := zu.mp h
 obtain ⟨t, A10, h⟩ := h
 have A1 := Aq.mk A10
 have H := Aq.mk h
 clear A10 h
 go_enter Tryd.func30, Tryd.ntmps30
 go_upto_region 1 with (first | ((with_reducible refine gate_dst (N := 3) rfl ?_); refine box_event ?hg (N := 3) ?hd (cs := #[.string a0_0, .string a0_1, .string a0_2, .string a0_3, .slice A0_4 l0_4.length c0_4, .string a0_5]) (t := 24) ?hr ?_; (case hd => rfl); (case hg => rfl); (case hr => first | (go_simp; done) | (go_simp; rfl)); intro g1 hg w1 hbox hb; have B1 := Aq.mk hbox; have L1 := Aq.mk (show w.heap.size ≤ g1 by rw [hg]; exact zz (by repeat (with_reducible first | exact HB.out | apply zd | apply zb | apply zc))); have n1_ := Aq.mk (zv (by repeat (with_reducible first | exact HB.out | apply zd | apply zb | apply zc)) hb); clear HB; have HB := n1_; clear n1_ hb hbox hg) | ((with_reducible refine gate_dst (N := 6) rfl ?_); refine box_event ?hg (N := 6) ?hd (cs := #[.string (⟨#[]⟩ : ByteArray), .string (⟨#[]⟩ : ByteArray), .string (⟨#[]⟩ : ByteArray), .string (⟨#[]⟩ : ByteArray), .slice none 0 0, .string (⟨#[]⟩ : ByteArray)]) (t := 24) ?hr ?_; (case hd => rfl); (case hg => rfl); (case hr => first | (go_simp; done) | (go_simp; rfl)); intro g2 hg w2 hbox hb; have B2 := Aq.mk hbox; have L2 := Aq.mk (show w.heap.size ≤ g2 by rw [hg]; exact zz (by repeat (with_reducible first | exact HB.out | apply zd | apply zb | apply zc))); have N12 := Aq.mk (show g1 ≠ g2 by rw [hg]; exact Nat.ne_of_lt (zA B1.out)); have n0_ := Aq.mk (zw B1.out hb); have n1_ := Aq.mk (zv (by repeat (with_reducible first | exact HB.out | apply zd | apply zb | apply zc)) hb); clear HB B1; have B1 := n0_; have HB := n1_; clear n0_ n1_ hb hbox hg))
 refine wp_gen (R := Qf w g1 g2 (.string a0_0) (.string a0_1) (.string a0_2) (.string a0_3) (.slice A0_4 l0_4.length c0_4) (.string a0_5)) ⟨B1.out, B2.out, HB.out, L1.out, L2.out, N12.out⟩ (fun w3 C0 => ?_)
 clear B1 B2 HB L1 L2 N12
 have hp0 := C0.out.c0
 have hp1 := C0.out.c1
 have hp2 := C0.out.c2
 have hp3 := C0.out.c3
 have hp4 := C0.out.c4
 have hp5 := C0.out.c5
 go_upto_region 2 with (go_at_call 26; (with_reducible refine (purl_Check.calls k a0_0 a0_1 a0_2 a0_3 A0_4 c0_4 l0_4 a0_5 t _ (Kd.C_below HR0.out C0.out.hb) HC0.out A1.out).mono ?_); rintro e w4 ⟨rfl, hb⟩; have n0_ : Aq (Qf w g1 g2 (.string a0_0) (.string a0_1) (.string a0_2) (.string a0_3) (.slice A0_4 l0_4.length c0_4) (.string a0_5) w4) := ⟨Qf.below C0.out hb⟩; clear C0 hb; have C0 := n0_; clear n0_)
 clear hp0 hp1 hp2 hp3 hp4 hp5
 have h := H.out
 clear H
 by_cases c3 : t = 0
 case neg =>
  rw [if_neg c3] at h
  have c3b0 : (t == 0) = false := ye.mpr c3
  have c3b1 : (t != 0) = true := yd.mpr c3
  simp only [zH, zI] at h
  obtain ⟨rfl, rfl, rfl, rfl, rfl, rfl, rfl⟩ := h
  have hz0 : w4.cell? ⟨g2, 0, none⟩ = some (.string (⟨#[]⟩ : ByteArray)) := C0.out.z 0 _ rfl
  have hfz0 := za C0.out.b2 0
  have hz1 : w4.cell? ⟨g2, 1, none⟩ = some (.string (⟨#[]⟩ : ByteArray)) := C0.out.z 1 _ rfl
  have hfz1 := za C0.out.b2 1
  have hz2 : w4.cell? ⟨g2, 2, none⟩ = some (.string (⟨#[]⟩ : ByteArray)) := C0.out.z 2 _ rfl
  have hfz2 := za C0.out.b2 2
  have hz3 : w4.cell? ⟨g2, 3, none⟩ = some (.string (⟨#[]⟩ : ByteArray)) := C0.out.z 3 _ rfl
  have hfz3 := za C0.out.b2 3
  have hz4 : w4.cell? ⟨g2, 4, none⟩ = some (.slice none 0 0) := C0.out.z 4 _ rfl
  have hfz4 := za C0.out.b2 4
  have hz5 : w4.cell? ⟨g2, 5, none⟩ = some (.string (⟨#[]⟩ : ByteArray)) := C0.out.z 5 _ rfl
  have hfz5 := za C0.out.b2 5
  go_wp2
  refine bodyPost_ret (results_ct rfl _ _ g2 24 zero24 (0, 0) _ rfl (st6_at C0.out.b2) Tryd.underlying24 rfl (by kernel_rfl)) rfl ?_
  exact ⟨_, rfl, Kd.R_nil _ _ _ _ _, st6_below C0.out.hb C0.out.l2⟩
 case pos =>
 rw [if_pos c3] at h
 have c3b0 : (t == 0) = true := yc.mpr c3
 have c3b1 : (t != 0) = false := yf.mpr c3
 clear c3
 replace h := zu.mp h
 obtain ⟨⟨q0, q1, q2, q3, l1, q5⟩, A40, h⟩ := h
 have A4 := Aq.mk A40
 clear A40
 replace h : (if Srt l1 ∧ l1.length ≤ 1000 then purl_Canonical.f k q0 q1 q2 q3 (setQ a1 a2 l1) q5 else none) = some (r1, r2, r3, r4, r5, r6, r7) := h
 by_cases hs : Srt l1 ∧ l1.length ≤ 1000
 case neg => rw [if_neg hs] at h; cases h
 rw [if_pos hs] at h
 have HS := Aq.mk hs
 have H := Aq.mk h
 clear h hs
 go_upto_region 4 with (fail)
 have hp0 := C0.out.c0
 have hp1 := C0.out.c1
 have hp2 := C0.out.c2
 have hp3 := C0.out.c3
 have hp4 := C0.out.c4
 have hp5 := C0.out.c5
 have hf0 := za C0.out.b1 0
 have hf1 := za C0.out.b1 1
 have hf2 := za C0.out.b1 2
 have hf3 := za C0.out.b1 3
 have hf4 := za C0.out.b1 4
 have hf5 := za C0.out.b1 5
 obtain ⟨B, hB⟩ : ∃ B, B = w4.heap.size := ⟨_, rfl⟩
 have HG1 := Aq.mk (show g1 < B by rw [hB]; exact zA C0.out.b1)
 have HG2 := Aq.mk (show g2 < B by rw [hB]; exact zA C0.out.b2)
 have HBw := Aq.mk (show w.heap.size ≤ B by rw [hB]; exact zz C0.out.hb)
 go_upto_region 5 with (go_at_call 50; (with_reducible refine (purl_canonical.calls a0_0 a0_1 a0_2 a0_3 A0_4 c0_4 l0_4 a0_5 q0 q1 q2 q3 l1 q5 _ (Kd.C_below HR0.out C0.out.hb) HC0.out A4.out).mono ?_); rintro e w5 ⟨v4, rfl, ho, hb⟩; obtain ⟨A, c, rfl, hlc, _⟩ := Kd.R_reads ho; rw [← hB] at ho; have HSB := Aq.mk (show B ≤ w5.heap.size by rw [hB]; exact hb.size); have HO := Aq.mk ho; have HLC := Aq.mk hlc; have n0_ : Aq (Qf w g1 g2 (.string a0_0) (.string a0_1) (.string a0_2) (.string a0_3) (.slice A0_4 l0_4.length c0_4) (.string a0_5) w5) := ⟨Qf.below C0.out hb⟩; clear C0 hb ho hlc; have C0 := n0_; clear n0_; clear hp0 hp1 hp2 hp3 hp4 hp5 hf0 hf1 hf2 hf3 hf4 hf5; have hp0 := C0.out.c0; have hp1 := C0.out.c1; have hp2 := C0.out.c2; have hp3 := C0.out.c3; have hp4 := C0.out.c4; have hp5 := C0.out.c5; have hf0 := za C0.out.b1 0; have hf1 := za C0.out.b1 1; have hf2 := za C0.out.b1 2; have hf3 := za C0.out.b1 3; have hf4 := za C0.out.b1 4; have hf5 := za C0.out.b1 5)
 clear hp0 hp1 hp2 hp3 hp4 hp5 hf0 hf1 hf2 hf3 hf4 hf5
 refine wp_gen (R := fun W => Qf w g1 g2 (.string q0) (.string q1) (.string q2) (.string q3) (.slice A l1.length c) (.string q5) W ∧ Kd.R k64 64 W B (fun _ => True) (.slice A l1.length c) l1 ∧ B ≤ W.heap.size) ⟨C0.out.put _ _ _ _ _ _, Kd.R_mono (Kd.R_move (w1 := st6 w5 g1 (.string q0) (.string q1) (.string q2) (.string q3) (.slice A l1.length c) (.string q5)) (Kd.R_bound HO.out) (fun k hk => st6_far (by have := hk.2.1; have := HG1.out; omega))) (fun _ _ => trivial), by have := st6_size (W := w5) (g := g1) (y0 := .string q0) (y1 := .string q1) (y2 := .string q2) (y3 := .string q3) (y4 := .slice A l1.length c) (y5 := .string q5); have h2 := HSB.out; show B ≤ (st6 w5 g1 (.string q0) (.string q1) (.string q2) (.string q3) (.slice A l1.length c) (.string q5)).heap.size; omega⟩ (fun w6 CC => ?_)
 clear C0 HO HSB
 have C0 := Aq.mk CC.out.1
 have HO := Aq.mk CC.out.2.1
 have HSB := Aq.mk CC.out.2.2
 clear CC
 have hp4 := C0.out.c4
 obtain ⟨i, hi⟩ : ∃ i, i = lowQ a1 l1 := ⟨_, rfl⟩
 obtain ⟨there, hth⟩ : ∃ b, b = hasQ a1 l1 := ⟨_, rfl⟩
 have HI := Aq.mk hi
 have HT := Aq.mk hth
 clear hi hth
 go_upto_region 6 with (go_at_call 72; (with_reducible refine (bs_op A l1.length c l1 a1 _ HO.out HS.out.1 HS.out.2).mono ?_); rintro e w7 ⟨rfl, hb⟩; rw [← HI.out, ← HT.out]; have n0_ : Aq (Qf w g1 g2 (.string q0) (.string q1) (.string q2) (.string q3) (.slice A l1.length c) (.string q5) w7) := ⟨Qf.below C0.out hb⟩; have n1_ : Aq (Kd.R k64 64 w7 B (fun _ => True) (.slice A l1.length c) l1) := ⟨yj HO.out hb⟩; have n2_ : Aq (B ≤ w7.heap.size) := ⟨Nat.le_trans HSB.out hb.size⟩; clear C0 HO HSB hb hp4; have C0 := n0_; have HO := n1_; have HSB := n2_; clear n0_ n1_ n2_)
 have hp4 := C0.out.c4
 have hf4 := za C0.out.b1 4
 have hi1 := lowQ_le a1 l1
 rw [← HI.out] at hi1
 have hi2 : i ≤ 1000 := Nat.le_trans hi1 HS.out.2
 cases there with
 | false =>
  by_cases hv : a2.toList = []
  ·have e1 : (a2.toList == ([] : List UInt8)) = true := yc.mpr hv
   have e2 : a2.toList.isEmpty = true := List.isEmpty_iff.mpr hv
   have E : setQ a1 a2 l1 = l1 := by unfold setQ; rw [← HT.out, if_neg (by decide), if_pos hv]
   have H2 := H.out
   rw [E] at H2
   have H2 := Aq.mk H2
   clear hv H E
   go_upto_region 12 with (fail)
   refine wp_gen (R := fun W => Qf w g1 g2 (.string q0) (.string q1) (.string q2) (.string q3) (.slice A l1.length c) (.string q5) W ∧ Kd.C k64 W A (l1).length (l1) ∧ (l1).length ≤ c) ⟨C0.out, (Kd.R_reads' HO.out).2.2, (Kd.R_reads' HO.out).2.1⟩ (fun w8 CC => ?_)
   clear C0 HO HSB
   have C1 := Aq.mk CC.out.1
   have D1 := Aq.mk CC.out.2.1
   have E1 := Aq.mk CC.out.2.2
   clear CC
   have hp0 := C1.out.c0; have hp1 := C1.out.c1; have hp2 := C1.out.c2; have hp3 := C1.out.c3; have hp4 := C1.out.c4; have hp5 := C1.out.c5; skip
   have HG3 := Aq.mk (zA C1.out.b2)
   have HW8 := Aq.mk (zz C1.out.hb)
   have CAN := purl_Canonical.calls k q0 q1 q2 q3 A c (l1) q5 r1 r2 r3 r4 r5 r6 r7 w8 D1.out E1.out H2.out
   skip
   have CAN := Aq.mk CAN
   go_wp2_with (go_at_call 21; (with_reducible refine CAN.out.mono ?_); rintro e w9 ⟨v9, rfl, ho, hb⟩; obtain ⟨A9, c9, rfl, hl9, _⟩ := Kd.R_reads ho; have HO9 := Aq.mk ho; have n0_ : Aq (Qf w g1 g2 (.string q0) (.string q1) (.string q2) (.string q3) (.slice A l1.length c) (.string q5) w9) := ⟨Qf.below C1.out hb⟩; clear C1 hb ho hl9 hp0 hp1 hp2 hp3 hp4 hp5; have C1 := n0_; clear n0_; have hz0 : w9.cell? ⟨g2, 0, none⟩ = some (.string (⟨#[]⟩ : ByteArray)) := C1.out.z 0 _ rfl; have hfz0 := za C1.out.b2 0; have hz1 : w9.cell? ⟨g2, 1, none⟩ = some (.string (⟨#[]⟩ : ByteArray)) := C1.out.z 1 _ rfl; have hfz1 := za C1.out.b2 1; have hz2 : w9.cell? ⟨g2, 2, none⟩ = some (.string (⟨#[]⟩ : ByteArray)) := C1.out.z 2 _ rfl; have hfz2 := za C1.out.b2 2; have hz3 : w9.cell? ⟨g2, 3, none⟩ = some (.string (⟨#[]⟩ : ByteArray)) := C1.out.z 3 _ rfl; have hfz3 := za C1.out.b2 3; have hz4 : w9.cell? ⟨g2, 4, none⟩ = some (.slice none 0 0) := C1.out.z 4 _ rfl; have hfz4 := za C1.out.b2 4; have hz5 : w9.cell? ⟨g2, 5, none⟩ = some (.string (⟨#[]⟩ : ByteArray)) := C1.out.z 5 _ rfl; have hfz5 := za C1.out.b2 5; skip)
   refine bodyPost_ret (results_ct rfl _ _ g2 24 #[.string r1, .string r2, .string r3, .string r4, .slice A9 r5.length c9, .string r6] (0, 0) _ rfl (st6_at C1.out.b2) Tryd.underlying24 rfl (by kernel_rfl)) rfl ?_
   exact ⟨_, rfl, zX (Kd.R_mono (Kd.R_move (w1 := st6 w9 g2 (.string r1) (.string r2) (.string r3) (.string r4) (.slice A9 r5.length c9) (.string r6)) (Kd.R_bound HO9.out) (fun k hk => st6_far (by have := hk.2.1; have := HG3.out; omega))) (fun _ _ => trivial)) HW8.out, st6_below C1.out.hb C1.out.l2⟩
  ·have e1 : (a2.toList == ([] : List UInt8)) = false := ye.mpr hv
   have e2 : a2.toList.isEmpty = false := by cases hh : a2.toList with | nil => exact absurd hh hv | cons x r => rfl
   obtain ⟨L2, hL2⟩ : ∃ L2, L2 = l1.take i ++ (⟨a1, a2⟩ : S64) :: l1.drop i := ⟨_, rfl⟩
   have E : setQ a1 a2 l1 = L2 := by unfold setQ; rw [← HT.out, if_neg (by decide), if_neg hv, ← HI.out, hL2]
   have H2 := H.out
   rw [E] at H2
   have H2 := Aq.mk H2
   have HL2 := Aq.mk hL2
   clear hv H E hL2
   have hlt7 := zA C0.out.b1
   have INS := ins_op B w7 A l1.length c i w7.heap.size l1 ⟨a1, a2⟩ (w7.alloc (.cells #[.string a1, .string a2] 64)) (zC HO.out _) ((Below.refl B w7).alloc HSB.out _) (Nat.le_trans HSB.out (zz (zd (Below.refl _ _) _))) HS.out.2 hi1 (blk_new w7 _) (fun ad e => by have h1 := Kd.R_lt HO.out ad.block (by rw [e]; rfl); omega)
   rw [← HL2.out] at INS
   have INS := Aq.mk INS
   clear hlt7
   go_upto_region 12 with (first | ((with_reducible refine gate_dst (N := 60) rfl ?_); refine Kd.event_run (v := .slice (some ⟨w7.heap.size, 0, none⟩) 1 1) (w1 := w7.alloc (.cells #[.string a1, .string a2] 64)) rfl ?hr ?_; (case hr => first | (go_simp; done) | (go_simp; rfl))) | (go_at_call 75; (with_reducible refine INS.out.mono ?_); rintro e w8 ⟨A2, c2, rfl, lo⟩; have LO := Aq.mk lo; clear lo; have n0_ : Aq (Qf w g1 g2 (.string q0) (.string q1) (.string q2) (.string q3) (.slice A l1.length c) (.string q5) w8) := ⟨Qf.under C0.out HG1.out HG2.out HBw.out LO.out.hb⟩; clear C0 hp4 hf4; have C0 := n0_; clear n0_; have hp4 := C0.out.c4; have hf4 := za C0.out.b1 4))
   refine wp_gen (R := fun W => Qf w g1 g2 (.string q0) (.string q1) (.string q2) (.string q3) (.slice A2 L2.length c2) (.string q5) W ∧ Kd.C k64 W A2 (L2).length (L2) ∧ (L2).length ≤ c2) ⟨C0.out.set4 _, C_far LO.out.hc (fun ad e h => by have h1 := LO.out.ha ad e; have := HG1.out; omega), LO.out.hl⟩ (fun wB CC => ?_)
   clear C0 HO HSB
   have C1 := Aq.mk CC.out.1
   have D1 := Aq.mk CC.out.2.1
   have E1 := Aq.mk CC.out.2.2
   clear CC
   have hp0 := C1.out.c0; have hp1 := C1.out.c1; have hp2 := C1.out.c2; have hp3 := C1.out.c3; have hp4 := C1.out.c4; have hp5 := C1.out.c5; skip
   have HG3 := Aq.mk (zA C1.out.b2)
   have HW8 := Aq.mk (zz C1.out.hb)
   have CAN := purl_Canonical.calls k q0 q1 q2 q3 A2 c2 (L2) q5 r1 r2 r3 r4 r5 r6 r7 wB D1.out E1.out H2.out
   skip
   have CAN := Aq.mk CAN
   go_wp2_with (go_at_call 21; (with_reducible refine CAN.out.mono ?_); rintro e w9 ⟨v9, rfl, ho, hb⟩; obtain ⟨A9, c9, rfl, hl9, _⟩ := Kd.R_reads ho; have HO9 := Aq.mk ho; have n0_ : Aq (Qf w g1 g2 (.string q0) (.string q1) (.string q2) (.string q3) (.slice A2 L2.length c2) (.string q5) w9) := ⟨Qf.below C1.out hb⟩; clear C1 hb ho hl9 hp0 hp1 hp2 hp3 hp4 hp5; have C1 := n0_; clear n0_; have hz0 : w9.cell? ⟨g2, 0, none⟩ = some (.string (⟨#[]⟩ : ByteArray)) := C1.out.z 0 _ rfl; have hfz0 := za C1.out.b2 0; have hz1 : w9.cell? ⟨g2, 1, none⟩ = some (.string (⟨#[]⟩ : ByteArray)) := C1.out.z 1 _ rfl; have hfz1 := za C1.out.b2 1; have hz2 : w9.cell? ⟨g2, 2, none⟩ = some (.string (⟨#[]⟩ : ByteArray)) := C1.out.z 2 _ rfl; have hfz2 := za C1.out.b2 2; have hz3 : w9.cell? ⟨g2, 3, none⟩ = some (.string (⟨#[]⟩ : ByteArray)) := C1.out.z 3 _ rfl; have hfz3 := za C1.out.b2 3; have hz4 : w9.cell? ⟨g2, 4, none⟩ = some (.slice none 0 0) := C1.out.z 4 _ rfl; have hfz4 := za C1.out.b2 4; have hz5 : w9.cell? ⟨g2, 5, none⟩ = some (.string (⟨#[]⟩ : ByteArray)) := C1.out.z 5 _ rfl; have hfz5 := za C1.out.b2 5; skip)
   refine bodyPost_ret (results_ct rfl _ _ g2 24 #[.string r1, .string r2, .string r3, .string r4, .slice A9 r5.length c9, .string r6] (0, 0) _ rfl (st6_at C1.out.b2) Tryd.underlying24 rfl (by kernel_rfl)) rfl ?_
   exact ⟨_, rfl, zX (Kd.R_mono (Kd.R_move (w1 := st6 w9 g2 (.string r1) (.string r2) (.string r3) (.string r4) (.slice A9 r5.length c9) (.string r6)) (Kd.R_bound HO9.out) (fun k hk => st6_far (by have := hk.2.1; have := HG3.out; omega))) (fun _ _ => trivial)) HW8.out, st6_below C1.out.hb C1.out.l2⟩
 | true =>
  have hin : i < l1.length := by have := HT.out; unfold hasQ at this; have h2 := (zj this.symm).1; rw [← HI.out] at h2; exact h2
  by_cases hv : a2.toList = []
  ·have e1 : (a2.toList == ([] : List UInt8)) = true := yc.mpr hv
   have e2 : a2.toList.isEmpty = true := List.isEmpty_iff.mpr hv
   obtain ⟨L2, hL2⟩ : ∃ L2, L2 = l1.take i ++ l1.drop (i + 1) := ⟨_, rfl⟩
   have E : setQ a1 a2 l1 = L2 := by unfold setQ; rw [← HT.out, if_pos rfl, if_pos hv, ← HI.out, hL2]
   have H2 := H.out
   rw [E] at H2
   have H2 := Aq.mk H2
   have HL2 := Aq.mk hL2
   clear hv H E hL2
   have DEL := del_op B w7 A l1.length c i (i + 1) l1 w7 HO.out (Below.refl B w7) HSB.out hin rfl
   rw [← HL2.out] at DEL
   have DEL := Aq.mk DEL
   clear hin
   have hws : wrap64 ((i : Int) + 1) = ((i + 1 : Nat) : Int) := by unfold wrap64; omega
   go_upto_region 12 with (go_at_call 74; refine calls_of_args (args' := #[.slice A l1.length c, .int .i64 i, .int .i64 ((i + 1 : Nat) : Int)]) (by first | rfl | (rw [hws]; rfl) | (simp; done)) ?_; (with_reducible refine DEL.out.mono ?_); rintro e w8 ⟨rfl, lo⟩; have LO := Aq.mk lo; clear lo; have n0_ : Aq (Qf w g1 g2 (.string q0) (.string q1) (.string q2) (.string q3) (.slice A l1.length c) (.string q5) w8) := ⟨Qf.under C0.out HG1.out HG2.out HBw.out LO.out.hb⟩; clear C0 hp4 hf4; have C0 := n0_; clear n0_; have hp4 := C0.out.c4; have hf4 := za C0.out.b1 4)
   refine wp_gen (R := fun W => Qf w g1 g2 (.string q0) (.string q1) (.string q2) (.string q3) (.slice A L2.length c) (.string q5) W ∧ Kd.C k64 W A (L2).length (L2) ∧ (L2).length ≤ c) ⟨C0.out.set4 _, C_far LO.out.hc (fun ad e h => by have h1 := LO.out.ha ad e; have := HG1.out; omega), LO.out.hl⟩ (fun wB CC => ?_)
   clear C0 HO HSB
   have C1 := Aq.mk CC.out.1
   have D1 := Aq.mk CC.out.2.1
   have E1 := Aq.mk CC.out.2.2
   clear CC
   have hp0 := C1.out.c0; have hp1 := C1.out.c1; have hp2 := C1.out.c2; have hp3 := C1.out.c3; have hp4 := C1.out.c4; have hp5 := C1.out.c5; skip
   have HG3 := Aq.mk (zA C1.out.b2)
   have HW8 := Aq.mk (zz C1.out.hb)
   have CAN := purl_Canonical.calls k q0 q1 q2 q3 A c (L2) q5 r1 r2 r3 r4 r5 r6 r7 wB D1.out E1.out H2.out
   skip
   have CAN := Aq.mk CAN
   go_wp2_with (go_at_call 21; (with_reducible refine CAN.out.mono ?_); rintro e w9 ⟨v9, rfl, ho, hb⟩; obtain ⟨A9, c9, rfl, hl9, _⟩ := Kd.R_reads ho; have HO9 := Aq.mk ho; have n0_ : Aq (Qf w g1 g2 (.string q0) (.string q1) (.string q2) (.string q3) (.slice A L2.length c) (.string q5) w9) := ⟨Qf.below C1.out hb⟩; clear C1 hb ho hl9 hp0 hp1 hp2 hp3 hp4 hp5; have C1 := n0_; clear n0_; have hz0 : w9.cell? ⟨g2, 0, none⟩ = some (.string (⟨#[]⟩ : ByteArray)) := C1.out.z 0 _ rfl; have hfz0 := za C1.out.b2 0; have hz1 : w9.cell? ⟨g2, 1, none⟩ = some (.string (⟨#[]⟩ : ByteArray)) := C1.out.z 1 _ rfl; have hfz1 := za C1.out.b2 1; have hz2 : w9.cell? ⟨g2, 2, none⟩ = some (.string (⟨#[]⟩ : ByteArray)) := C1.out.z 2 _ rfl; have hfz2 := za C1.out.b2 2; have hz3 : w9.cell? ⟨g2, 3, none⟩ = some (.string (⟨#[]⟩ : ByteArray)) := C1.out.z 3 _ rfl; have hfz3 := za C1.out.b2 3; have hz4 : w9.cell? ⟨g2, 4, none⟩ = some (.slice none 0 0) := C1.out.z 4 _ rfl; have hfz4 := za C1.out.b2 4; have hz5 : w9.cell? ⟨g2, 5, none⟩ = some (.string (⟨#[]⟩ : ByteArray)) := C1.out.z 5 _ rfl; have hfz5 := za C1.out.b2 5; skip)
   refine bodyPost_ret (results_ct rfl _ _ g2 24 #[.string r1, .string r2, .string r3, .string r4, .slice A9 r5.length c9, .string r6] (0, 0) _ rfl (st6_at C1.out.b2) Tryd.underlying24 rfl (by kernel_rfl)) rfl ?_
   exact ⟨_, rfl, zX (Kd.R_mono (Kd.R_move (w1 := st6 w9 g2 (.string r1) (.string r2) (.string r3) (.string r4) (.slice A9 r5.length c9) (.string r6)) (Kd.R_bound HO9.out) (fun k hk => st6_far (by have := hk.2.1; have := HG3.out; omega))) (fun _ _ => trivial)) HW8.out, st6_below C1.out.hb C1.out.l2⟩
  ·have e1 : (a2.toList == ([] : List UInt8)) = false := ye.mpr hv
   have e2 : a2.toList.isEmpty = false := by cases hh : a2.toList with | nil => exact absurd hh hv | cons x r => rfl
   obtain ⟨L2, hL2⟩ : ∃ L2, L2 = l1.set i ⟨(rd_T64 l1 (i : Int)).f0, a2⟩ := ⟨_, rfl⟩
   have E : setQ a1 a2 l1 = L2 := by unfold setQ; rw [← HT.out, if_pos rfl, if_neg hv, ← HI.out, hL2]
   have H2 := H.out
   rw [E] at H2
   have H2 := Aq.mk H2
   have HLL := Aq.mk (show L2.length = l1.length by rw [hL2]; exact List.length_set)
   have HL2 := Aq.mk hL2
   clear hv H E hL2
   have hC := (Kd.R_reads' HO.out).2.2
   rcases row_of_R HO.out with ⟨_, e, _⟩ | ⟨g, rest, eA, hg, _, _, _, _, hBg, _⟩
   ·rw [e] at hin; exact absurd hin (Nat.not_lt_zero _)
   subst eA
   obtain ⟨ad, ea, _, hx1⟩ := at_T64 hC (i : Int) (by omega) (by omega)
   cases ea
   rw [Int.toNat_natCast, Addr.add_lit, Nat.zero_add] at hx1
   have hfx := za hg (i * 2 + 1)
   have pi := eq_true (show (0 : Int) ≤ (i : Int) by omega)
   have qi := eq_true (show (i : Int) < (l1.length : Int) by omega)
   have LO := set_op (v := a2) HO.out (Below.refl B w7) HSB.out hin
   rw [← HL2.out] at LO
   have LO := Aq.mk LO
   have HGG := Aq.mk hBg
   clear hC hg hBg hin
   go_upto_region 12 with (fail)
   refine wp_gen (R := fun W => Qf w g1 g2 (.string q0) (.string q1) (.string q2) (.string q3) (.slice (some ⟨g, 0, none⟩) l1.length c) (.string q5) W ∧ Kd.C k64 W (some ⟨g, 0, none⟩) (L2).length (L2) ∧ (L2).length ≤ c) ⟨Qf.under C0.out HG1.out HG2.out HBw.out LO.out.hb, LO.out.hc, LO.out.hl⟩ (fun wB CC => ?_)
   clear C0 HO HSB
   have C1 := Aq.mk CC.out.1
   have D1 := Aq.mk CC.out.2.1
   have E1 := Aq.mk CC.out.2.2
   clear CC
   have hp0 := C1.out.c0; have hp1 := C1.out.c1; have hp2 := C1.out.c2; have hp3 := C1.out.c3; have hp4 := C1.out.c4; have hp5 := C1.out.c5; skip
   have HG3 := Aq.mk (zA C1.out.b2)
   have HW8 := Aq.mk (zz C1.out.hb)
   have CAN := purl_Canonical.calls k q0 q1 q2 q3 (some ⟨g, 0, none⟩) c (L2) q5 r1 r2 r3 r4 r5 r6 r7 wB D1.out E1.out H2.out
   rw [HLL.out] at CAN
   have CAN := Aq.mk CAN
   go_wp2_with (go_at_call 21; (with_reducible refine CAN.out.mono ?_); rintro e w9 ⟨v9, rfl, ho, hb⟩; obtain ⟨A9, c9, rfl, hl9, _⟩ := Kd.R_reads ho; have HO9 := Aq.mk ho; have n0_ : Aq (Qf w g1 g2 (.string q0) (.string q1) (.string q2) (.string q3) (.slice (some ⟨g, 0, none⟩) l1.length c) (.string q5) w9) := ⟨Qf.below C1.out hb⟩; clear C1 hb ho hl9 hp0 hp1 hp2 hp3 hp4 hp5; have C1 := n0_; clear n0_; have hz0 : w9.cell? ⟨g2, 0, none⟩ = some (.string (⟨#[]⟩ : ByteArray)) := C1.out.z 0 _ rfl; have hfz0 := za C1.out.b2 0; have hz1 : w9.cell? ⟨g2, 1, none⟩ = some (.string (⟨#[]⟩ : ByteArray)) := C1.out.z 1 _ rfl; have hfz1 := za C1.out.b2 1; have hz2 : w9.cell? ⟨g2, 2, none⟩ = some (.string (⟨#[]⟩ : ByteArray)) := C1.out.z 2 _ rfl; have hfz2 := za C1.out.b2 2; have hz3 : w9.cell? ⟨g2, 3, none⟩ = some (.string (⟨#[]⟩ : ByteArray)) := C1.out.z 3 _ rfl; have hfz3 := za C1.out.b2 3; have hz4 : w9.cell? ⟨g2, 4, none⟩ = some (.slice none 0 0) := C1.out.z 4 _ rfl; have hfz4 := za C1.out.b2 4; have hz5 : w9.cell? ⟨g2, 5, none⟩ = some (.string (⟨#[]⟩ : ByteArray)) := C1.out.z 5 _ rfl; have hfz5 := za C1.out.b2 5; skip)
   refine bodyPost_ret (results_ct rfl _ _ g2 24 #[.string r1, .string r2, .string r3, .string r4, .slice A9 r5.length c9, .string r6] (0, 0) _ rfl (st6_at C1.out.b2) Tryd.underlying24 rfl (by kernel_rfl)) rfl ?_
   exact ⟨_, rfl, zX (Kd.R_mono (Kd.R_move (w1 := st6 w9 g2 (.string r1) (.string r2) (.string r3) (.string r4) (.slice A9 r5.length c9) (.string r6)) (Kd.R_bound HO9.out) (fun k hk => st6_far (by have := hk.2.1; have := HG3.out; omega))) (fun _ _ => trivial)) HW8.out, st6_below C1.out.hb C1.out.l2⟩
end Go.Proofs.YtmnfjbmhlabdaaaDoor.Pr
