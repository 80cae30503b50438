/- With of both sides: the name with another version. Conditions: those of Check and Canonical. -/
import Derived.Test.YtmnfjbmhlabdaaaDoorDXa
import Derived.Test.YtmnfjbmhlabdaaaDoorDE3
import Derived.Test.YtmnfjbmhlabdaaaDoorDEu
namespace Go.Proofs.YtmnfjbmhlabdaaaDoor.Pr
open Go.RowKit Go.Proofs.YtmnfjbmhlabdaaaDoorW.PrintWords Go.Proofs.YtmnfjbmhlabdaaaDoorW.PrintLast Go.Proofs.YtmnfjbmhlabdaaaDoorW.PrintMore
set_option linter.unusedSimpArgs false
set_option linter.unusedVariables false
def purl_With.f (k : Nat) (a0_0 : ByteArray) (a0_1 : ByteArray) (a0_2 : ByteArray) (a0_3 : ByteArray) (l0_4 : List (S64)) (a0_5 : ByteArray) (a1 : ByteArray) : Option (ByteArray × ByteArray × ByteArray × ByteArray × (List (S64)) × ByteArray × Int) :=
 (purl_Check.f k a0_0 a0_1 a0_2 a0_3 l0_4 a0_5).bind fun t => if t = 0 then purl_Canonical.f k a0_0 a0_1 a0_2 a1 l0_4 a0_5 else some ((⟨#[]⟩ : ByteArray), (⟨#[]⟩ : ByteArray), (⟨#[]⟩ : ByteArray), (⟨#[]⟩ : ByteArray), ([] : List (S64)), (⟨#[]⟩ : ByteArray), t)
set_option maxHeartbeats 8000000 in
set_option maxRecDepth 100000 in
theorem purl_With.calls (k : Nat) (a0_0 : ByteArray) (a0_1 : ByteArray) (a0_2 : ByteArray) (a0_3 : ByteArray) (A0_4 : Option Addr) (c0_4 : Nat) (l0_4 : List (S64)) (a0_5 : ByteArray) (a1 : ByteArray) (r1 : ByteArray) (r2 : ByteArray) (r3 : ByteArray) (r4 : ByteArray) (r5 : List (S64)) (r6 : ByteArray) (r7 : Int) (w : World) (hr0_4 : Kd.C k64 w A0_4 l0_4.length l0_4) (hc0_4 : l0_4.length ≤ c0_4) (h : purl_With.f k a0_0 a0_1 a0_2 a0_3 l0_4 a0_5 a1 = some (r1, r2, r3, r4, r5, r6, r7)) :
  Calls Tryd.prog 28 #[.agg #[.string a0_0, .string a0_1, .string a0_2, .string a0_3, .slice A0_4 l0_4.length c0_4, .string a0_5], .string a1] w fun e w' => ∃ v4_ : Value, e = .returned (.tuple #[.agg #[.string r1, .string r2, .string r3, .string r4, v4_, .string r6], .int .i64 r7]) ∧ Kd.R k64 64 w' w.heap.size (fun _ => True) v4_ r5 ∧ Below w.heap.size w w' := by
 have hu24 := Tryd.underlying24
 have HR0 := Aq.mk hr0_4
 have HC0 := Aq.mk hc0_4
 clear hr0_4 hc0_4
 have HB := Aq.mk (Below.refl w.heap.size w)
 unfold purl_With.f at h
 replace h := zu.mp h
 obtain ⟨t, A10, h⟩ := h
 have A1 := Aq.mk A10
 have H := Aq.mk h
 clear A10 h
 go_enter Tryd.func28, Tryd.ntmps28
 go_upto_region 1 with (first | ((with_reducible refine gate_dst (N := 2) rfl ?_); refine box_event ?hg (N := 2) ?hd (cs := #[.string a0_0, .string a0_1, .string a0_2, .string a0_3, .slice A0_4 l0_4.length c0_4, .string a0_5]) (t := 24) ?hr ?_; (case hd => rfl); (case hg => rfl); (case hr => first | (go_simp; done) | (go_simp; rfl)); intro g1 hg w1 hbox hb; have B1 := Aq.mk hbox; have L1 := Aq.mk (show w.heap.size ≤ g1 by rw [hg]; exact zz (by repeat (with_reducible first | exact HB.out | apply zd | apply zb | apply zc))); have n1_ := Aq.mk (zv (by repeat (with_reducible first | exact HB.out | apply zd | apply zb | apply zc)) hb); clear HB; have HB := n1_; clear n1_ hb hbox hg) | ((with_reducible refine gate_dst (N := 4) rfl ?_); refine box_event ?hg (N := 4) ?hd (cs := #[.string (⟨#[]⟩ : ByteArray), .string (⟨#[]⟩ : ByteArray), .string (⟨#[]⟩ : ByteArray), .string (⟨#[]⟩ : ByteArray), .slice none 0 0, .string (⟨#[]⟩ : ByteArray)]) (t := 24) ?hr ?_; (case hd => rfl); (case hg => rfl); (case hr => first | (go_simp; done) | (go_simp; rfl)); intro g2 hg w2 hbox hb; have B2 := Aq.mk hbox; have L2 := Aq.mk (show w.heap.size ≤ g2 by rw [hg]; exact zz (by repeat (with_reducible first | exact HB.out | apply zd | apply zb | apply zc))); have N12 := Aq.mk (show g1 ≠ g2 by rw [hg]; exact Nat.ne_of_lt (zA B1.out)); have n0_ := Aq.mk (zw B1.out hb); have n1_ := Aq.mk (zv (by repeat (with_reducible first | exact HB.out | apply zd | apply zb | apply zc)) hb); clear HB B1; have HB := n1_; have B1 := n0_; clear n0_; clear n1_ hb hbox hg))
 refine wp_gen (R := Qf w g1 g2 (.string a0_0) (.string a0_1) (.string a0_2) (.string a0_3) (.slice A0_4 l0_4.length c0_4) (.string a0_5)) ⟨B1.out, B2.out, HB.out, L1.out, L2.out, N12.out⟩ (fun w3 C0 => ?_)
 clear B1 B2 HB L1 L2 N12
 have hp0 := C0.out.c0
 have hp1 := C0.out.c1
 have hp2 := C0.out.c2
 have hp3 := C0.out.c3
 have hp4 := C0.out.c4
 have hp5 := C0.out.c5
 go_upto_region 2 with (go_at_call 26; (with_reducible refine (purl_Check.calls k a0_0 a0_1 a0_2 a0_3 A0_4 c0_4 l0_4 a0_5 t _ (Kd.C_below HR0.out C0.out.hb) HC0.out A1.out).mono ?_); rintro e w4 ⟨rfl, hb⟩; have n0_ : Aq (Qf w g1 g2 (.string a0_0) (.string a0_1) (.string a0_2) (.string a0_3) (.slice A0_4 l0_4.length c0_4) (.string a0_5) w4) := ⟨Qf.below C0.out hb⟩; clear C0 hb; have C0 := n0_; clear n0_)
 clear hp0 hp1 hp2 hp3 hp4 hp5
 have h := H.out
 clear H
 by_cases c3 : t = 0
 case neg =>
  rw [if_neg c3] at h
  have c3b0 : (t == 0) = false := ye.mpr c3
  have c3b1 : (t != 0) = true := yd.mpr c3
  simp only [zH, zI] at h
  obtain ⟨rfl, rfl, rfl, rfl, rfl, rfl, rfl⟩ := h
  have hz0 : w4.cell? ⟨g2, 0, none⟩ = some (.string (⟨#[]⟩ : ByteArray)) := C0.out.z 0 _ rfl
  have hfz0 := za C0.out.b2 0
  have hz1 : w4.cell? ⟨g2, 1, none⟩ = some (.string (⟨#[]⟩ : ByteArray)) := C0.out.z 1 _ rfl
  have hfz1 := za C0.out.b2 1
  have hz2 : w4.cell? ⟨g2, 2, none⟩ = some (.string (⟨#[]⟩ : ByteArray)) := C0.out.z 2 _ rfl
  have hfz2 := za C0.out.b2 2
  have hz3 : w4.cell? ⟨g2, 3, none⟩ = some (.string (⟨#[]⟩ : ByteArray)) := C0.out.z 3 _ rfl
  have hfz3 := za C0.out.b2 3
  have hz4 : w4.cell? ⟨g2, 4, none⟩ = some (.slice none 0 0) := C0.out.z 4 _ rfl
  have hfz4 := za C0.out.b2 4
  have hz5 : w4.cell? ⟨g2, 5, none⟩ = some (.string (⟨#[]⟩ : ByteArray)) := C0.out.z 5 _ rfl
  have hfz5 := za C0.out.b2 5
  go_wp2
  refine bodyPost_ret (results_ct rfl _ _ g2 24 zero24 (0, 0) _ rfl (st6_at C0.out.b2) Tryd.underlying24 rfl (by kernel_rfl)) rfl ?_
  exact ⟨_, rfl, Kd.R_nil _ _ _ _ _, st6_below C0.out.hb C0.out.l2⟩
 case pos =>
 rw [if_pos c3] at h
 have c3b0 : (t == 0) = true := yc.mpr c3
 have c3b1 : (t != 0) = false := yf.mpr c3
 clear c3
 have H := Aq.mk h
 clear h
 have hp3 := C0.out.c3
 have hf3 := za C0.out.b1 3
 go_upto_region 5 with (fail)
 refine wp_gen (R := Qf w g1 g2 (.string a0_0) (.string a0_1) (.string a0_2) (.string a1) (.slice A0_4 l0_4.length c0_4) (.string a0_5)) ⟨zy C0.out.b1 3 _ rfl, zx C0.out.b2 C0.out.n12.symm _, zf C0.out.hb C0.out.l1, C0.out.l1, C0.out.l2, C0.out.n12⟩ (fun w8 C1 => ?_)
 clear C0 hp3 hf3
 have hp0 := C1.out.c0
 have hp1 := C1.out.c1
 have hp2 := C1.out.c2
 have hp3 := C1.out.c3
 have hp4 := C1.out.c4
 have hp5 := C1.out.c5
 have HG3 := Aq.mk (zA C1.out.b2)
 have HW8 := Aq.mk (zz C1.out.hb)
 have CAN := Aq.mk (purl_Canonical.calls k a0_0 a0_1 a0_2 a1 A0_4 c0_4 l0_4 a0_5 r1 r2 r3 r4 r5 r6 r7 w8 (Kd.C_below HR0.out C1.out.hb) HC0.out H.out)
 go_wp2_with (go_at_call 21; (with_reducible refine CAN.out.mono ?_); rintro e w9 ⟨v9, rfl, ho, hb⟩; obtain ⟨A9, c9, rfl, hl9, _⟩ := Kd.R_reads ho; have HO9 := Aq.mk ho; have n0_ : Aq (Qf w g1 g2 (.string a0_0) (.string a0_1) (.string a0_2) (.string a1) (.slice A0_4 l0_4.length c0_4) (.string a0_5) w9) := ⟨Qf.below C1.out hb⟩; clear C1 hb ho hl9 hp0 hp1 hp2 hp3 hp4 hp5; have C1 := n0_; clear n0_; have hz0 : w9.cell? ⟨g2, 0, none⟩ = some (.string (⟨#[]⟩ : ByteArray)) := C1.out.z 0 _ rfl; have hfz0 := za C1.out.b2 0; have hz1 : w9.cell? ⟨g2, 1, none⟩ = some (.string (⟨#[]⟩ : ByteArray)) := C1.out.z 1 _ rfl; have hfz1 := za C1.out.b2 1; have hz2 : w9.cell? ⟨g2, 2, none⟩ = some (.string (⟨#[]⟩ : ByteArray)) := C1.out.z 2 _ rfl; have hfz2 := za C1.out.b2 2; have hz3 : w9.cell? ⟨g2, 3, none⟩ = some (.string (⟨#[]⟩ : ByteArray)) := C1.out.z 3 _ rfl; have hfz3 := za C1.out.b2 3; have hz4 : w9.cell? ⟨g2, 4, none⟩ = some (.slice none 0 0) := C1.out.z 4 _ rfl; have hfz4 := za C1.out.b2 4; have hz5 : w9.cell? ⟨g2, 5, none⟩ = some (.string (⟨#[]⟩ : ByteArray)) := C1.out.z 5 _ rfl; have hfz5 := za C1.out.b2 5; skip)
 refine bodyPost_ret (results_ct rfl _ _ g2 24 #[.string r1, .string r2, .string r3, .string r4, .slice A9 r5.length c9, .string r6] (0, 0) _ rfl (st6_at C1.out.b2) Tryd.underlying24 rfl (by kernel_rfl)) rfl ?_
 exact ⟨_, rfl, zX (Kd.R_mono (Kd.R_move (w1 := st6 w9 g2 (.string r1) (.string r2) (.string r3) (.string r4) (.slice A9 r5.length c9) (.string r6)) (Kd.R_bound HO9.out) (fun k hk => st6_far (by have := hk.2.1; have := HG3.out; omega))) (fun _ _ => trivial)) HW8.out, st6_below C1.out.hb C1.out.l2⟩
def r2_With.f (k : Nat) (a0_0 : ByteArray) (a0_1 : ByteArray) (a0_2 : ByteArray) (a0_3 : ByteArray) (l0_4 : List (S64)) (a0_5 : ByteArray) (a1 : ByteArray) : Option (ByteArray × ByteArray × ByteArray × ByteArray × (List (S64)) × ByteArray × Int) :=
 (r2_Check.f k a0_0 a0_1 a0_2 a0_3 l0_4 a0_5).bind fun t => if t = 0 then r2_Canonical.f k a0_0 a0_1 a0_2 a1 l0_4 a0_5 else some ((⟨#[]⟩ : ByteArray), (⟨#[]⟩ : ByteArray), (⟨#[]⟩ : ByteArray), (⟨#[]⟩ : ByteArray), ([] : List (S64)), (⟨#[]⟩ : ByteArray), t)
set_option maxHeartbeats 8000000 in
set_option maxRecDepth 100000 in
theorem r2_With.calls (k : Nat) (a0_0 : ByteArray) (a0_1 : ByteArray) (a0_2 : ByteArray) (a0_3 : ByteArray) (A0_4 : Option Addr) (c0_4 : Nat) (l0_4 : List (S64)) (a0_5 : ByteArray) (a1 : ByteArray) (r1 : ByteArray) (r2 : ByteArray) (r3 : ByteArray) (r4 : ByteArray) (r5 : List (S64)) (r6 : ByteArray) (r7 : Int) (w : World) (hr0_4 : Kd.C k64 w A0_4 l0_4.length l0_4) (hc0_4 : l0_4.length ≤ c0_4) (h : r2_With.f k a0_0 a0_1 a0_2 a0_3 l0_4 a0_5 a1 = some (r1, r2, r3, r4, r5, r6, r7)) :
  Calls Tryd.prog 27 #[.agg #[.string a0_0, .string a0_1, .string a0_2, .string a0_3, .slice A0_4 l0_4.length c0_4, .string a0_5], .string a1] w fun e w' => ∃ v4_ : Value, e = .returned (.tuple #[.agg #[.string r1, .string r2, .string r3, .string r4, v4_, .string r6], .int .i64 r7]) ∧ Kd.R k64 64 w' w.heap.size (fun _ => True) v4_ r5 ∧ Below w.heap.size w w' := by
 have hu24 := Tryd.underlying24
 have HR0 := Aq.mk hr0_4
 have HC0 := Aq.mk hc0_4
 clear hr0_4 hc0_4
 have HB := Aq.mk (Below.refl w.heap.size w)
 unfold r2_With.f at h
 replace h := zu.mp h
 obtain ⟨t, A10, h⟩ := h
 have A1 := Aq.mk A10
 have H := Aq.mk h
 clear A10 h
 go_enter Tryd.func27, Tryd.ntmps27
 go_upto_region 1 with (first | ((with_reducible refine gate_dst (N := 2) rfl ?_); refine box_event ?hg (N := 2) ?hd (cs := #[.string a0_0, .string a0_1, .string a0_2, .string a0_3, .slice A0_4 l0_4.length c0_4, .string a0_5]) (t := 24) ?hr ?_; (case hd => rfl); (case hg => rfl); (case hr => first | (go_simp; done) | (go_simp; rfl)); intro g1 hg w1 hbox hb; have B1 := Aq.mk hbox; have L1 := Aq.mk (show w.heap.size ≤ g1 by rw [hg]; exact zz (by repeat (with_reducible first | exact HB.out | apply zd | apply zb | apply zc))); have n1_ := Aq.mk (zv (by repeat (with_reducible first | exact HB.out | apply zd | apply zb | apply zc)) hb); clear HB; have HB := n1_; clear n1_ hb hbox hg) | ((with_reducible refine gate_dst (N := 4) rfl ?_); refine box_event ?hg (N := 4) ?hd (cs := #[.string (⟨#[]⟩ : ByteArray), .string (⟨#[]⟩ : ByteArray), .string (⟨#[]⟩ : ByteArray), .string (⟨#[]⟩ : ByteArray), .slice none 0 0, .string (⟨#[]⟩ : ByteArray)]) (t := 24) ?hr ?_; (case hd => rfl); (case hg => rfl); (case hr => first | (go_simp; done) | (go_simp; rfl)); intro g2 hg w2 hbox hb; have B2 := Aq.mk hbox; have L2 := Aq.mk (show w.heap.size ≤ g2 by rw [hg]; exact zz (by repeat (with_reducible first | exact HB.out | apply zd | apply zb | apply zc))); have N12 := Aq.mk (show g1 ≠ g2 by rw [hg]; exact Nat.ne_of_lt (zA B1.out)); have n0_ := Aq.mk (zw B1.out hb); have n1_ := Aq.mk (zv (by repeat (with_reducible first | exact HB.out | apply zd | apply zb | apply zc)) hb); clear HB B1; have HB := n1_; have B1 := n0_; clear n0_; clear n1_ hb hbox hg))
 refine wp_gen (R := Qf w g1 g2 (.string a0_0) (.string a0_1) (.string a0_2) (.string a0_3) (.slice A0_4 l0_4.length c0_4) (.string a0_5)) ⟨B1.out, B2.out, HB.out, L1.out, L2.out, N12.out⟩ (fun w3 C0 => ?_)
 clear B1 B2 HB L1 L2 N12
 have hp0 := C0.out.c0
 have hp1 := C0.out.c1
 have hp2 := C0.out.c2
 have hp3 := C0.out.c3
 have hp4 := C0.out.c4
 have hp5 := C0.out.c5
 go_upto_region 2 with (go_at_call 25; (with_reducible refine (r2_Check.calls k a0_0 a0_1 a0_2 a0_3 A0_4 c0_4 l0_4 a0_5 t _ (Kd.C_below HR0.out C0.out.hb) HC0.out A1.out).mono ?_); rintro e w4 ⟨rfl, hb⟩; have n0_ : Aq (Qf w g1 g2 (.string a0_0) (.string a0_1) (.string a0_2) (.string a0_3) (.slice A0_4 l0_4.length c0_4) (.string a0_5) w4) := ⟨Qf.below C0.out hb⟩; clear C0 hb; have C0 := n0_; clear n0_)
 clear hp0 hp1 hp2 hp3 hp4 hp5
 have h := H.out
 clear H
 by_cases c3 : t = 0
 case neg =>
  rw [if_neg c3] at h
  have c3b0 : (t == 0) = false := ye.mpr c3
  have c3b1 : (t != 0) = true := yd.mpr c3
  simp only [zH, zI] at h
  obtain ⟨rfl, rfl, rfl, rfl, rfl, rfl, rfl⟩ := h
  have hz0 : w4.cell? ⟨g2, 0, none⟩ = some (.string (⟨#[]⟩ : ByteArray)) := C0.out.z 0 _ rfl
  have hfz0 := za C0.out.b2 0
  have hz1 : w4.cell? ⟨g2, 1, none⟩ = some (.string (⟨#[]⟩ : ByteArray)) := C0.out.z 1 _ rfl
  have hfz1 := za C0.out.b2 1
  have hz2 : w4.cell? ⟨g2, 2, none⟩ = some (.string (⟨#[]⟩ : ByteArray)) := C0.out.z 2 _ rfl
  have hfz2 := za C0.out.b2 2
  have hz3 : w4.cell? ⟨g2, 3, none⟩ = some (.string (⟨#[]⟩ : ByteArray)) := C0.out.z 3 _ rfl
  have hfz3 := za C0.out.b2 3
  have hz4 : w4.cell? ⟨g2, 4, none⟩ = some (.slice none 0 0) := C0.out.z 4 _ rfl
  have hfz4 := za C0.out.b2 4
  have hz5 : w4.cell? ⟨g2, 5, none⟩ = some (.string (⟨#[]⟩ : ByteArray)) := C0.out.z 5 _ rfl
  have hfz5 := za C0.out.b2 5
  go_wp2
  refine bodyPost_ret (results_ct rfl _ _ g2 24 zero24 (0, 0) _ rfl (st6_at C0.out.b2) Tryd.underlying24 rfl (by kernel_rfl)) rfl ?_
  exact ⟨_, rfl, Kd.R_nil _ _ _ _ _, st6_below C0.out.hb C0.out.l2⟩
 case pos =>
 rw [if_pos c3] at h
 have c3b0 : (t == 0) = true := yc.mpr c3
 have c3b1 : (t != 0) = false := yf.mpr c3
 clear c3
 have H := Aq.mk h
 clear h
 have hp3 := C0.out.c3
 have hf3 := za C0.out.b1 3
 go_upto_region 5 with (fail)
 refine wp_gen (R := Qf w g1 g2 (.string a0_0) (.string a0_1) (.string a0_2) (.string a1) (.slice A0_4 l0_4.length c0_4) (.string a0_5)) ⟨zy C0.out.b1 3 _ rfl, zx C0.out.b2 C0.out.n12.symm _, zf C0.out.hb C0.out.l1, C0.out.l1, C0.out.l2, C0.out.n12⟩ (fun w8 C1 => ?_)
 clear C0 hp3 hf3
 have hp0 := C1.out.c0
 have hp1 := C1.out.c1
 have hp2 := C1.out.c2
 have hp3 := C1.out.c3
 have hp4 := C1.out.c4
 have hp5 := C1.out.c5
 have HG3 := Aq.mk (zA C1.out.b2)
 have HW8 := Aq.mk (zz C1.out.hb)
 have CAN := Aq.mk (r2_Canonical.calls k a0_0 a0_1 a0_2 a1 A0_4 c0_4 l0_4 a0_5 r1 r2 r3 r4 r5 r6 r7 w8 (Kd.C_below HR0.out C1.out.hb) HC0.out H.out)
 go_wp2_with (go_at_call 15; (with_reducible refine CAN.out.mono ?_); rintro e w9 ⟨v9, rfl, ho, hb⟩; obtain ⟨A9, c9, rfl, hl9, _⟩ := Kd.R_reads ho; have HO9 := Aq.mk ho; have n0_ : Aq (Qf w g1 g2 (.string a0_0) (.string a0_1) (.string a0_2) (.string a1) (.slice A0_4 l0_4.length c0_4) (.string a0_5) w9) := ⟨Qf.below C1.out hb⟩; clear C1 hb ho hl9 hp0 hp1 hp2 hp3 hp4 hp5; have C1 := n0_; clear n0_; have hz0 : w9.cell? ⟨g2, 0, none⟩ = some (.string (⟨#[]⟩ : ByteArray)) := C1.out.z 0 _ rfl; have hfz0 := za C1.out.b2 0; have hz1 : w9.cell? ⟨g2, 1, none⟩ = some (.string (⟨#[]⟩ : ByteArray)) := C1.out.z 1 _ rfl; have hfz1 := za C1.out.b2 1; have hz2 : w9.cell? ⟨g2, 2, none⟩ = some (.string (⟨#[]⟩ : ByteArray)) := C1.out.z 2 _ rfl; have hfz2 := za C1.out.b2 2; have hz3 : w9.cell? ⟨g2, 3, none⟩ = some (.string (⟨#[]⟩ : ByteArray)) := C1.out.z 3 _ rfl; have hfz3 := za C1.out.b2 3; have hz4 : w9.cell? ⟨g2, 4, none⟩ = some (.slice none 0 0) := C1.out.z 4 _ rfl; have hfz4 := za C1.out.b2 4; have hz5 : w9.cell? ⟨g2, 5, none⟩ = some (.string (⟨#[]⟩ : ByteArray)) := C1.out.z 5 _ rfl; have hfz5 := za C1.out.b2 5; skip)
 refine bodyPost_ret (results_ct rfl _ _ g2 24 #[.string r1, .string r2, .string r3, .string r4, .slice A9 r5.length c9, .string r6] (0, 0) _ rfl (st6_at C1.out.b2) Tryd.underlying24 rfl (by kernel_rfl)) rfl ?_
 exact ⟨_, rfl, zX (Kd.R_mono (Kd.R_move (w1 := st6 w9 g2 (.string r1) (.string r2) (.string r3) (.string r4) (.slice A9 r5.length c9) (.string r6)) (Kd.R_bound HO9.out) (fun k hk => st6_far (by have := hk.2.1; have := HG3.out; omega))) (fun _ _ => trivial)) HW8.out, st6_below C1.out.hb C1.out.l2⟩
end Go.Proofs.YtmnfjbmhlabdaaaDoor.Pr
