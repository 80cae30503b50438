/- purl.Read of a short text that is right and has no qualifiers answers the canonical name. Conditions: those. -/
import Derived.Test.YtmnfjbmhlabdaaaDoorDXa
import Derived.Test.YtmnfjbmhlabdaaaDoorDPrx0
import Derived.Test.YtmnfjbmhlabdaaaDoorDPrx3
import Derived.Test.YtmnfjbmhlabdaaaDoorDPrx8
import Derived.Test.YtmnfjbmhlabdaaaDoorDEn
import Derived.Test.YtmnfjbmhlabdaaaDoorDEs
import Derived.Deep.RegionWith
import Derived.Deep.Cut
namespace Go.Proofs.YtmnfjbmhlabdaaaDoor.Pr
open Go.RowKit Go.Proofs.YtmnfjbmhlabdaaaDoorW.PrintWords Go.Proofs.YtmnfjbmhlabdaaaDoorW.PrintLast Go.Proofs.YtmnfjbmhlabdaaaDoorW.PrintMore
def purl_Read.f (k : Nat) (a0 : ByteArray) : Option (ByteArray × ByteArray × ByteArray × ByteArray × (List (S64)) × ByteArray × Int × Int) :=
 if a0.size ≤ 3000 then (pr_name.f k a0 0 (-1)).bind fun t => (if t.2.2.2.2.2.2.2.2 < 0 then (if t.2.2.2.2.1.isEmpty then (purl_Check.f k t.1 t.2.1 t.2.2.1 t.2.2.2.1 [] t.2.2.2.2.2.1).bind (fun e => if e = 0 then (purl_canonical.f t.1 t.2.1 t.2.2.1 t.2.2.2.1 [] t.2.2.2.2.2.1).bind (fun c => some (c.1, c.2.1, c.2.2.1, c.2.2.2.1, c.2.2.2.2.1, c.2.2.2.2.2, 0, 0)) else none) else none) else none) else none
theorem purl_Read.mono : ∀ a0 k, LeO (purl_Read.f k a0) (purl_Read.f (k + 1) a0) := by
 intro a0 k
 unfold purl_Read.f
 repeat' first
 | exact pr_name.mono _ _ _ _
 | exact purl_Check.mono _ _ _ _ _ _ _
 | exact ya _
 | exact yb _
 | refine zZ ?_ ?_
 | refine zY ?_ (fun _ => ?_)
structure Rn (w : World) (g1 g3 gp : Nat) (p q : Array Value) (W : World) : Prop where
 b1 : W.heap[g1]? = some (.cells #[.string (⟨#[]⟩ : ByteArray), .string (⟨#[]⟩ : ByteArray), .string (⟨#[]⟩ : ByteArray), .string (⟨#[]⟩ : ByteArray), .slice none 0 0, .string (⟨#[]⟩ : ByteArray)] 24 (0, 0))
 b3 : W.heap[g3]? = some (.cells q 69 (0, 0))
 bp : W.heap[gp]? = some (.cells p 24 (0, 0))
 hb : Below w.heap.size w W
 l1 : w.heap.size ≤ g1
section
variable {w : World} {g1 g3 gp : Nat} {p q : Array Value} {W W' : World}
theorem Rn.below (h : Rn w g1 g3 gp p q W) (k : Below W.heap.size W W') : Rn w g1 g3 gp p q W' :=
 ⟨zw h.b1 k, zw h.b3 k, zw h.bp k, zv h.hb k, h.l1⟩
theorem Rn.drew (h : Rn w g1 g3 gp p q W) : Rn w g1 g3 gp p q W.drew := ⟨h.b1, h.b3, h.bp, zc h.hb, h.l1⟩
theorem Rn.drewN (h : Rn w g1 g3 gp p q W) (m : Nat) : Rn w g1 g3 gp p q (W.drewN m) := ⟨h.b1, h.b3, h.bp, zb h.hb m, h.l1⟩
theorem Rn.c1 (h : Rn w g1 g3 gp p q W) : W.cell? ⟨g1, 0, none⟩ = some (.string (⟨#[]⟩ : ByteArray)) := (ze h.b1 0).trans rfl
end
set_option maxHeartbeats 4000000 in
set_option maxRecDepth 100000 in
theorem purl_Read.calls (k : Nat) (a0 : ByteArray) (r1 : ByteArray) (r2 : ByteArray) (r3 : ByteArray) (r4 : ByteArray) (r5 : List (S64)) (r6 : ByteArray) (r7 : Int) (r8 : Int) (w : World) (h : purl_Read.f k a0 = some (r1, r2, r3, r4, r5, r6, r7, r8)) :
  Calls Tryd.prog 11 #[.string a0] w fun e w' => ∃ v4_ : Value, e = .returned (.tuple #[.agg #[.string r1, .string r2, .string r3, .string r4, v4_, .string r6], .int .i64 r7, .int .i64 r8]) ∧ Kd.R k64 64 w' w.heap.size (fun _ => True) v4_ r5 ∧ Below w.heap.size w w' := by
 have hu24 := Tryd.underlying24
 have hu69 := Tryd.underlying69
 have HB := Aq.mk (Below.refl w.heap.size w)
 unfold purl_Read.f at h
 by_cases hsz : a0.size ≤ 3000
 case neg => rw [if_neg hsz] at h; cases h
 rw [if_pos hsz] at h
 replace h := zu.mp h
 obtain ⟨⟨n1, n2, n3, n4, n5, n6, s1, s2, bad⟩, A10, h⟩ := h
 replace h : (if bad < 0 then (if n5.isEmpty then (purl_Check.f k n1 n2 n3 n4 [] n6).bind (fun e => if e = 0 then (purl_canonical.f n1 n2 n3 n4 [] n6).bind (fun c => some (c.1, c.2.1, c.2.2.1, c.2.2.2.1, c.2.2.2.2.1, c.2.2.2.2.2, 0, 0)) else none) else none) else none) = some (r1, r2, r3, r4, r5, r6, r7, r8) := h
 by_cases hbad : bad < 0
 case neg => rw [if_neg hbad] at h; cases h
 rw [if_pos hbad] at h
 by_cases hn5 : n5.isEmpty = true
 case neg => rw [if_neg hn5] at h; cases h
 rw [if_pos hn5] at h
 obtain rfl := List.isEmpty_iff.mp hn5
 clear hn5
 replace h := zu.mp h
 obtain ⟨e0, A20, h⟩ := h
 by_cases he0 : e0 = 0
 case neg => simp only [he0, if_false] at h; cases h
 subst he0
 replace h : (purl_canonical.f n1 n2 n3 n4 [] n6).bind (fun c => some (c.1, c.2.1, c.2.2.1, c.2.2.2.1, c.2.2.2.2.1, c.2.2.2.2.2, 0, 0)) = some (r1, r2, r3, r4, r5, r6, r7, r8) := h
 replace h := zu.mp h
 obtain ⟨⟨c1, c2, c3, c4, c5, c6⟩, A30, h⟩ := h
 simp only [zH, zI] at h
 obtain ⟨rfl, rfl, rfl, rfl, rfl, rfl, rfl, rfl⟩ := h
 have A1 := Aq.mk A10
 have A2 := Aq.mk A20
 have A3 := Aq.mk A30
 clear A10 A20 A30
 have hszb : decide (3000 < (a0.size : Int)) = false := zl (by omega)
 have hbadb : decide (0 ≤ bad) = false := zl (by omega)
 clear hsz hbad
 go_enter Tryd.func11, Tryd.ntmps11
 go_upto_region 5 with (first | ((with_reducible refine gate_dst (N := 2) rfl ?_); refine box_event ?hg (N := 2) ?hd (cs := #[.string (⟨#[]⟩ : ByteArray), .string (⟨#[]⟩ : ByteArray), .string (⟨#[]⟩ : ByteArray), .string (⟨#[]⟩ : ByteArray), .slice none 0 0, .string (⟨#[]⟩ : ByteArray)]) (t := 24) ?hr ?_; (case hd => rfl); (case hg => rfl); (case hr => first | (go_simp; done) | (go_simp; rfl)); intro g1 hg w1 hbox hb; have B1 := Aq.mk hbox; have L1 := Aq.mk (show w.heap.size ≤ g1 by rw [hg]; exact zz (by repeat (with_reducible first | exact HB.out | apply zd | apply zb | apply zc))); have n1_ := Aq.mk (zv (by repeat (with_reducible first | exact HB.out | apply zd | apply zb | apply zc)) hb); clear HB; have HB := n1_; clear n1_ hb hbox hg) | ((with_reducible refine gate_dst (N := 15) rfl ?_); refine box_event ?hg (N := 15) ?hd (cs := #[.string a0, .int .i64 0, .int .i64 (-1)]) (t := 69) ?hr ?_; (case hd => rfl); (case hg => rfl); (case hr => first | (go_simp; done) | (go_simp; rfl)); intro g3 hg w3 hbox hb; have B3 := Aq.mk hbox; have L3 := Aq.mk (show w.heap.size ≤ g3 by rw [hg]; exact zz (by repeat (with_reducible first | exact HB.out | apply zd | apply zb | apply zc))); have N13 := Aq.mk (show g1 ≠ g3 by rw [hg]; exact Nat.ne_of_lt (zA B1.out)); have n0_ := Aq.mk (zw B1.out hb); have n1_ := Aq.mk (zv (by repeat (with_reducible first | exact HB.out | apply zd | apply zb | apply zc)) hb); clear HB B1; have B1 := n0_; have HB := n1_; clear n0_ n1_ hb hbox hg) | (go_at_call 46; refine (pr_name.calls k g3 a0 0 (-1) n1 n2 n3 n4 [] n6 s1 s2 bad w _ ⟨B3.out, L3.out⟩ HB.out A1.out).mono ?_; rintro e w4 ⟨v4, rfl, hR, hI, hb, hk⟩; obtain ⟨Av, cv, ev⟩ := yi hR; simp only [List.length_nil] at ev; subst ev; have n1_ := Aq.mk (hk.blk B1.out N13.out (by simp)); have n3_ := Aq.mk hI.1; have n2_ := Aq.mk hb; clear B1 B3 HB hR hI hb hk; have B1 := n1_; have B3 := n3_; have HB := n2_; clear n1_ n2_ n3_) | ((with_reducible refine gate_dst (N := 6) rfl ?_); refine box_event ?hg (N := 6) ?hd (cs := #[.string (⟨#[]⟩ : ByteArray), .string (⟨#[]⟩ : ByteArray), .string (⟨#[]⟩ : ByteArray), .string (⟨#[]⟩ : ByteArray), .slice none 0 0, .string (⟨#[]⟩ : ByteArray)]) (t := 24) ?hr ?_; (case hd => rfl); (case hg => rfl); (case hr => first | (go_simp; done) | (go_simp; rfl)); intro gp hg w5 hbox hb; have BP := Aq.mk hbox; have LP := Aq.mk (show w.heap.size ≤ gp by rw [hg]; exact zz (by repeat (with_reducible first | exact HB.out | apply zd | apply zb | apply zc))); have N1P := Aq.mk (show g1 ≠ gp by rw [hg]; exact Nat.ne_of_lt (zA B1.out)); have N3P := Aq.mk (show g3 ≠ gp by rw [hg]; exact Nat.ne_of_lt (zA B3.out)); have n0_ := Aq.mk (zw B1.out hb); have n3_ := Aq.mk (zw B3.out hb); have n1_ := Aq.mk (zv (by repeat (with_reducible first | exact HB.out | apply zd | apply zb | apply zc)) hb); clear HB B1 B3; have B1 := n0_; have B3 := n3_; have HB := n1_; clear n0_ n1_ n3_ hb hbox hg; have hc6_0 : w5.cell? ⟨gp, 0, none⟩ = some (.string (⟨#[]⟩ : ByteArray)) := (ze BP.out 0).trans rfl; have hf6_0 := za BP.out 0; have hc6_1 : w5.cell? ⟨gp, 1, none⟩ = some (.string (⟨#[]⟩ : ByteArray)) := (ze BP.out 1).trans rfl; have hf6_1 := za BP.out 1; have hc6_2 : w5.cell? ⟨gp, 2, none⟩ = some (.string (⟨#[]⟩ : ByteArray)) := (ze BP.out 2).trans rfl; have hf6_2 := za BP.out 2; have hc6_3 : w5.cell? ⟨gp, 3, none⟩ = some (.string (⟨#[]⟩ : ByteArray)) := (ze BP.out 3).trans rfl; have hf6_3 := za BP.out 3; have hc6_4 : w5.cell? ⟨gp, 4, none⟩ = some (.slice none 0 0) := (ze BP.out 4).trans rfl; have hf6_4 := za BP.out 4; have hc6_5 : w5.cell? ⟨gp, 5, none⟩ = some (.string (⟨#[]⟩ : ByteArray)) := (ze BP.out 5).trans rfl; have hf6_5 := za BP.out 5))
 refine wp_gen (R := Rn w g1 g3 gp #[.string n1, .string n2, .string n3, .string n4, .slice Av 0 cv, .string n6] #[.string s1, .int .i64 s2, .int .i64 bad]) ⟨by refine zx ?_ N1P.out _; refine zx ?_ N1P.out _; refine zx ?_ N1P.out _; refine zx ?_ N1P.out _; refine zx ?_ N1P.out _; refine zx ?_ N1P.out _; exact B1.out, by refine zx ?_ N3P.out _; refine zx ?_ N3P.out _; refine zx ?_ N3P.out _; refine zx ?_ N3P.out _; refine zx ?_ N3P.out _; refine zx ?_ N3P.out _; exact B3.out, by refine zy (cs := #[.string n1, .string n2, .string n3, .string n4, .slice Av 0 cv, .string (⟨#[]⟩ : ByteArray)]) ?_ 5 _ rfl; refine zy (cs := #[.string n1, .string n2, .string n3, .string n4, .slice none 0 0, .string (⟨#[]⟩ : ByteArray)]) ?_ 4 _ rfl; refine zy (cs := #[.string n1, .string n2, .string n3, .string (⟨#[]⟩ : ByteArray), .slice none 0 0, .string (⟨#[]⟩ : ByteArray)]) ?_ 3 _ rfl; refine zy (cs := #[.string n1, .string n2, .string (⟨#[]⟩ : ByteArray), .string (⟨#[]⟩ : ByteArray), .slice none 0 0, .string (⟨#[]⟩ : ByteArray)]) ?_ 2 _ rfl; refine zy (cs := #[.string n1, .string (⟨#[]⟩ : ByteArray), .string (⟨#[]⟩ : ByteArray), .string (⟨#[]⟩ : ByteArray), .slice none 0 0, .string (⟨#[]⟩ : ByteArray)]) ?_ 1 _ rfl; refine zy (cs := #[.string (⟨#[]⟩ : ByteArray), .string (⟨#[]⟩ : ByteArray), .string (⟨#[]⟩ : ByteArray), .string (⟨#[]⟩ : ByteArray), .slice none 0 0, .string (⟨#[]⟩ : ByteArray)]) ?_ 0 _ rfl; exact BP.out, by repeat (with_reducible first | exact HB.out | refine zf ?_ LP.out), L1.out⟩ (fun w6 C0 => ?_)
 clear B1 B3 BP HB hc6_0 hc6_1 hc6_2 hc6_3 hc6_4 hc6_5 hf6_0 hf6_1 hf6_2 hf6_3 hf6_4 hf6_5
 have hq2 : w6.cell? ⟨g3, 2, none⟩ = some (.int .i64 bad) := (ze C0.out.b3 2).trans rfl
 have hp4 : w6.cell? ⟨gp, 4, none⟩ = some (.slice Av 0 cv) := (ze C0.out.bp 4).trans rfl
 go_upto_region 8 with (first | (go_at_call 47; refine (sort_none Av cv _ _).mono ?_; rintro e w7 ⟨rfl, hb⟩; have n0_ : Aq (Rn w g1 g3 gp #[.string n1, .string n2, .string n3, .string n4, .slice Av 0 cv, .string n6] #[.string s1, .int .i64 s2, .int .i64 bad] w7) := ⟨Rn.below (by repeat (with_reducible first | exact C0.out | apply Rn.drewN | apply Rn.drew)) hb⟩; clear C0 hb; have C0 := n0_; clear n0_))
 refine wp_gen (R := Rn w g1 g3 gp #[.string n1, .string n2, .string n3, .string n4, .slice Av 0 cv, .string n6] #[.string s1, .int .i64 s2, .int .i64 bad]) (by repeat (with_reducible first | exact C0.out | apply Rn.drewN | apply Rn.drew)) (fun w7 C0 => ?_)
 have hp4 : w7.cell? ⟨gp, 4, none⟩ = some (.slice Av 0 cv) := (ze C0.out.bp 4).trans rfl
 go_wp2
 go_loopg [7] 0 (fun n i wr => i = .int .i64 1 ∧ Aq (Rn w g1 g3 gp #[.string n1, .string n2, .string n3, .string n4, .slice Av 0 cv, .string n6] #[.string s1, .int .i64 s2, .int .i64 bad] wr))
 case atStart => exact ⟨rfl, ⟨(by repeat (with_reducible first | exact C0.out | apply Rn.drewN | apply Rn.drew))⟩⟩
 case round =>
  obtain ⟨rfl, hr⟩ := hrel
  clear C0 hp4
  have C0 := hr
  clear hr
  have hp0 : wr.cell? ⟨gp, 0, none⟩ = some (.string n1) := (ze C0.out.bp 0).trans rfl
  have hp1 : wr.cell? ⟨gp, 1, none⟩ = some (.string n2) := (ze C0.out.bp 1).trans rfl
  have hp2 : wr.cell? ⟨gp, 2, none⟩ = some (.string n3) := (ze C0.out.bp 2).trans rfl
  have hp3 : wr.cell? ⟨gp, 3, none⟩ = some (.string n4) := (ze C0.out.bp 3).trans rfl
  have hp4 : wr.cell? ⟨gp, 4, none⟩ = some (.slice Av 0 cv) := (ze C0.out.bp 4).trans rfl
  have hp5 : wr.cell? ⟨gp, 5, none⟩ = some (.string n6) := (ze C0.out.bp 5).trans rfl
  go_wp2_with (first | (go_at_call 26; refine (purl_Check.calls k n1 n2 n3 n4 Av cv [] n6 0 _ ⟨rfl, by simp, fun h => absurd h (Nat.lt_irrefl 0)⟩ (Nat.zero_le _) A2.out).mono ?_; rintro e w8 ⟨rfl, hb⟩; have n0_ : Aq (Rn w g1 g3 gp #[.string n1, .string n2, .string n3, .string n4, .slice Av 0 cv, .string n6] #[.string s1, .int .i64 s2, .int .i64 bad] w8) := ⟨Rn.below (by repeat (with_reducible first | exact C0.out | apply Rn.drewN | apply Rn.drew)) hb⟩; clear C0 hb; have C0 := n0_; clear n0_; have hp0 : w8.cell? ⟨gp, 0, none⟩ = some (.string n1) := (ze C0.out.bp 0).trans rfl; have hp1 : w8.cell? ⟨gp, 1, none⟩ = some (.string n2) := (ze C0.out.bp 1).trans rfl; have hp2 : w8.cell? ⟨gp, 2, none⟩ = some (.string n3) := (ze C0.out.bp 2).trans rfl; have hp3 : w8.cell? ⟨gp, 3, none⟩ = some (.string n4) := (ze C0.out.bp 3).trans rfl; have hp4 : w8.cell? ⟨gp, 4, none⟩ = some (.slice Av 0 cv) := (ze C0.out.bp 4).trans rfl; have hp5 : w8.cell? ⟨gp, 5, none⟩ = some (.string n6) := (ze C0.out.bp 5).trans rfl) | (go_at_call 50; refine (purl_canonical.calls n1 n2 n3 n4 Av cv [] n6 c1 c2 c3 c4 c5 c6 _ ⟨rfl, by simp, fun h => absurd h (Nat.lt_irrefl 0)⟩ (Nat.zero_le _) A3.out).mono ?_; rintro e w9 ⟨v5, rfl, hR, hb⟩; have n0_ : Aq (Rn w g1 g3 gp #[.string n1, .string n2, .string n3, .string n4, .slice Av 0 cv, .string n6] #[.string s1, .int .i64 s2, .int .i64 bad] w9) := ⟨Rn.below (by repeat (with_reducible first | exact C0.out | apply Rn.drewN | apply Rn.drew)) hb⟩; obtain ⟨Aw, cw, ev⟩ := yi hR; subst ev; have HR := Aq.mk (zX hR (zz C0.out.hb)); clear C0 hb hR; have C0 := n0_; clear n0_; have hz0 : w9.cell? ⟨g1, 0, none⟩ = some (.string (⟨#[]⟩ : ByteArray)) := (ze C0.out.b1 0).trans rfl; have hfz0 := za C0.out.b1 0; have hz1 : w9.cell? ⟨g1, 1, none⟩ = some (.string (⟨#[]⟩ : ByteArray)) := (ze C0.out.b1 1).trans rfl; have hfz1 := za C0.out.b1 1; have hz2 : w9.cell? ⟨g1, 2, none⟩ = some (.string (⟨#[]⟩ : ByteArray)) := (ze C0.out.b1 2).trans rfl; have hfz2 := za C0.out.b1 2; have hz3 : w9.cell? ⟨g1, 3, none⟩ = some (.string (⟨#[]⟩ : ByteArray)) := (ze C0.out.b1 3).trans rfl; have hfz3 := za C0.out.b1 3; have hz4 : w9.cell? ⟨g1, 4, none⟩ = some (.slice none 0 0) := (ze C0.out.b1 4).trans rfl; have hfz4 := za C0.out.b1 4; have hz5 : w9.cell? ⟨g1, 5, none⟩ = some (.string (⟨#[]⟩ : ByteArray)) := (ze C0.out.b1 5).trans rfl; have hfz5 := za C0.out.b1 5))
  refine bodyPost_ret (results_ctt rfl _ _ g1 24 #[.string c1, .string c2, .string c3, .string c4, .slice Aw c5.length cw, .string c6] (0, 0) _ rfl (by refine zy (cs := #[.string c1, .string c2, .string c3, .string c4, .slice Aw c5.length cw, .string (⟨#[]⟩ : ByteArray)]) ?_ 5 _ rfl; refine zy (cs := #[.string c1, .string c2, .string c3, .string c4, .slice none 0 0, .string (⟨#[]⟩ : ByteArray)]) ?_ 4 _ rfl; refine zy (cs := #[.string c1, .string c2, .string c3, .string (⟨#[]⟩ : ByteArray), .slice none 0 0, .string (⟨#[]⟩ : ByteArray)]) ?_ 3 _ rfl; refine zy (cs := #[.string c1, .string c2, .string (⟨#[]⟩ : ByteArray), .string (⟨#[]⟩ : ByteArray), .slice none 0 0, .string (⟨#[]⟩ : ByteArray)]) ?_ 2 _ rfl; refine zy (cs := #[.string c1, .string (⟨#[]⟩ : ByteArray), .string (⟨#[]⟩ : ByteArray), .string (⟨#[]⟩ : ByteArray), .slice none 0 0, .string (⟨#[]⟩ : ByteArray)]) ?_ 1 _ rfl; refine zy (cs := #[.string (⟨#[]⟩ : ByteArray), .string (⟨#[]⟩ : ByteArray), .string (⟨#[]⟩ : ByteArray), .string (⟨#[]⟩ : ByteArray), .slice none 0 0, .string (⟨#[]⟩ : ByteArray)]) ?_ 0 _ rfl; exact C0.out.b1) Tryd.underlying24 rfl (by kernel_rfl)) rfl ?_
  exact ⟨_, rfl, Kd.R_mono (ok := fun k => True ∧ k ≠ g1) (by repeat (with_reducible first | exact Kd.R_types HR.out C0.out.b1 (by decide) | refine Kd.R_far ?_ (fun _ hk => hk.2) _)) (fun _ _ => trivial), by repeat (with_reducible first | exact C0.out.hb | refine zf ?_ C0.out.l1)⟩
end Go.Proofs.YtmnfjbmhlabdaaaDoor.Pr
