/- purl.canonical answers the name as it is written best. Conditions: fewer than 4398046511104 qualifiers; small's and dashed's own. -/
import Derived.Test.YtmnfjbmhlabdaaaDoorDXa
import Derived.Test.YtmnfjbmhlabdaaaDoorDPrx0
import Derived.Test.YtmnfjbmhlabdaaaDoorDEb
import Derived.Test.YtmnfjbmhlabdaaaDoorDEd
import Derived.Test.YtmnfjbmhlabdaaaDoorDEq
import Derived.Test.YtmnfjbmhlabdaaaDoorDEi
import Derived.Deep.RegionWith
import Derived.Deep.Cut
namespace Go.Proofs.YtmnfjbmhlabdaaaDoor.Pr
open Go.RowKit Go.Proofs.YtmnfjbmhlabdaaaDoorW.PrintWords Go.Proofs.YtmnfjbmhlabdaaaDoorW.PrintLast Go.Proofs.YtmnfjbmhlabdaaaDoorW.PrintMore
def purl_canonical.f (a0_0 : ByteArray) (a0_1 : ByteArray) (a0_2 : ByteArray) (a0_3 : ByteArray) (l0_4 : List (S64)) (a0_5 : ByteArray) : Option (ByteArray × ByteArray × ByteArray × ByteArray × (List (S64)) × ByteArray) :=
 if l0_4.length < 4398046511104 then ((purl_Rule.f a0_0).bind fun bt274 => (if bt274.2.2.1 = true then ((purl_small.f a0_1).bind fun t281 => ((purl_small.f a0_2).bind fun t282 => some (t281, t282))) else some (a0_1, a0_2)).bind fun q => (if bt274.2.2.2.1 = true then purl_dashed.f q.2 else some q.2).bind fun z => some (a0_0, q.1, z, a0_3, l0_4, a0_5)) else none
structure Cn (w : World) (g1 g2 g3 : Nat) (x0 x1 x2 x3 x4 x5 : Value) (q : Array Value) (W : World) : Prop where
 b1 : W.heap[g1]? = some (.cells #[x0, x1, x2, x3, x4, x5] 24 (0, 0))
 b2 : W.heap[g2]? = some (.cells #[.string (⟨#[]⟩ : ByteArray), .string (⟨#[]⟩ : ByteArray), .string (⟨#[]⟩ : ByteArray), .string (⟨#[]⟩ : ByteArray), .slice none 0 0, .string (⟨#[]⟩ : ByteArray)] 24 (0, 0))
 b3 : W.heap[g3]? = some (.cells q 37 (0, 0))
 hb : Below w.heap.size w W
 l1 : w.heap.size ≤ g1
 l2 : w.heap.size ≤ g2
 n12 : g1 ≠ g2
 n13 : g1 ≠ g3
section
variable {w : World} {g1 g2 g3 : Nat} {x0 x1 x2 x3 x4 x5 : Value} {q : Array Value} {W W' : World}
theorem Cn.below (h : Cn w g1 g2 g3 x0 x1 x2 x3 x4 x5 q W) (k : Below W.heap.size W W') : Cn w g1 g2 g3 x0 x1 x2 x3 x4 x5 q W' :=
 ⟨zw h.b1 k, zw h.b2 k, zw h.b3 k, zv h.hb k, h.l1, h.l2, h.n12, h.n13⟩
theorem Cn.drew (h : Cn w g1 g2 g3 x0 x1 x2 x3 x4 x5 q W) : Cn w g1 g2 g3 x0 x1 x2 x3 x4 x5 q W.drew := ⟨h.b1, h.b2, h.b3, zc h.hb, h.l1, h.l2, h.n12, h.n13⟩
theorem Cn.set1 (h : Cn w g1 g2 g3 x0 x1 x2 x3 x4 x5 q W) (v : Value) : Cn w g1 g2 g3 x0 v x2 x3 x4 x5 q (W.setCell ⟨g1, 1, none⟩ v) :=
 ⟨zy h.b1 1 _ rfl, zx h.b2 h.n12.symm _, zx h.b3 h.n13.symm _, zf h.hb h.l1, h.l1, h.l2, h.n12, h.n13⟩
theorem Cn.set2 (h : Cn w g1 g2 g3 x0 x1 x2 x3 x4 x5 q W) (v : Value) : Cn w g1 g2 g3 x0 x1 v x3 x4 x5 q (W.setCell ⟨g1, 2, none⟩ v) :=
 ⟨zy h.b1 2 _ rfl, zx h.b2 h.n12.symm _, zx h.b3 h.n13.symm _, zf h.hb h.l1, h.l1, h.l2, h.n12, h.n13⟩
theorem Cn.set4 (h : Cn w g1 g2 g3 x0 x1 x2 x3 x4 x5 q W) (v : Value) : Cn w g1 g2 g3 x0 x1 x2 x3 v x5 q (W.setCell ⟨g1, 4, none⟩ v) :=
 ⟨zy h.b1 4 _ rfl, zx h.b2 h.n12.symm _, zx h.b3 h.n13.symm _, zf h.hb h.l1, h.l1, h.l2, h.n12, h.n13⟩
theorem Cn.grown (h : Cn w g1 g2 g3 x0 x1 x2 x3 x4 x5 q W) (k : W.grownBy W' none) (hb : Below w.heap.size w W') : Cn w g1 g2 g3 x0 x1 x2 x3 x4 x5 q W' :=
 ⟨yk h.b1 k (by simp), yk h.b2 k (by simp), yk h.b3 k (by simp), hb, h.l1, h.l2, h.n12, h.n13⟩
theorem Cn.c0 (h : Cn w g1 g2 g3 x0 x1 x2 x3 x4 x5 q W) : W.cell? ⟨g1, 0, none⟩ = some x0 := (ze h.b1 0).trans rfl
theorem Cn.c1 (h : Cn w g1 g2 g3 x0 x1 x2 x3 x4 x5 q W) : W.cell? ⟨g1, 1, none⟩ = some x1 := (ze h.b1 1).trans rfl
theorem Cn.c2 (h : Cn w g1 g2 g3 x0 x1 x2 x3 x4 x5 q W) : W.cell? ⟨g1, 2, none⟩ = some x2 := (ze h.b1 2).trans rfl
theorem Cn.c3 (h : Cn w g1 g2 g3 x0 x1 x2 x3 x4 x5 q W) : W.cell? ⟨g1, 3, none⟩ = some x3 := (ze h.b1 3).trans rfl
theorem Cn.c4 (h : Cn w g1 g2 g3 x0 x1 x2 x3 x4 x5 q W) : W.cell? ⟨g1, 4, none⟩ = some x4 := (ze h.b1 4).trans rfl
theorem Cn.c5 (h : Cn w g1 g2 g3 x0 x1 x2 x3 x4 x5 q W) : W.cell? ⟨g1, 5, none⟩ = some x5 := (ze h.b1 5).trans rfl
end
theorem wp_gen {P : Program} {c : Code} {Q : Exit → Act → World → Prop} {a : Act} {w : World} {R : World → Prop} (h : R w) (k : ∀ w', Aq (R w') → Code.wp P c Q a w') : Code.wp P c Q a w := k w ⟨h⟩
theorem k64_KM {W w' : World} {base : Nat} {ok : Nat → Prop} {x : S64} {cs : List Value} (h : k64.K W x cs) : k64.M w' base ok x cs := by
 obtain rfl := k64_open h
 exact k64_mkM w' base ok x
set_option maxHeartbeats 8000000 in
set_option maxRecDepth 100000 in
theorem purl_canonical.calls (a0_0 : ByteArray) (a0_1 : ByteArray) (a0_2 : ByteArray) (a0_3 : ByteArray) (A0_4 : Option Addr) (c0_4 : Nat) (l0_4 : List (S64)) (a0_5 : ByteArray) (r1 : ByteArray) (r2 : ByteArray) (r3 : ByteArray) (r4 : ByteArray) (r5 : List (S64)) (r6 : ByteArray) (w : World) (hr0_4 : Kd.C k64 w A0_4 l0_4.length l0_4) (hc0_4 : l0_4.length ≤ c0_4) (h : purl_canonical.f a0_0 a0_1 a0_2 a0_3 l0_4 a0_5 = some (r1, r2, r3, r4, r5, r6)) :
  Calls Tryd.prog 50 #[.agg #[.string a0_0, .string a0_1, .string a0_2, .string a0_3, .slice A0_4 l0_4.length c0_4, .string a0_5]] w fun e w' => ∃ v4_ : Value, e = .returned (.agg #[.string r1, .string r2, .string r3, .string r4, v4_, .string r6]) ∧ Kd.R k64 64 w' w.heap.size (fun _ => True) v4_ r5 ∧ Below w.heap.size w w' := by
 have hu24 := Tryd.underlying24
 have hu37 := Tryd.underlying37
 have HR0 := Aq.mk hr0_4
 have HC0 := Aq.mk hc0_4
 clear hr0_4 hc0_4
 have HB := Aq.mk (Below.refl w.heap.size w)
 unfold purl_canonical.f at h
 by_cases hlen : l0_4.length < 4398046511104
 case neg => rw [if_neg hlen] at h; cases h
 rw [if_pos hlen] at h
 have LM := Aq.mk hlen
 clear hlen
 replace h := zu.mp h
 obtain ⟨⟨t274, t275, t276, t277, t278, t279⟩, A20, h⟩ := h
 replace h : (if t276 = true then ((purl_small.f a0_1).bind fun t281 => ((purl_small.f a0_2).bind fun t282 => some (t281, t282))) else some (a0_1, a0_2)).bind (fun q => (if t277 = true then purl_dashed.f q.2 else some q.2).bind fun z => some (a0_0, q.1, z, a0_3, l0_4, a0_5)) = some (r1, r2, r3, r4, r5, r6) := h
 have A2 := Aq.mk A20
 clear A20
 replace h := zu.mp h
 obtain ⟨⟨y1, y2⟩, B10, h⟩ := h
 replace h : (if t277 = true then purl_dashed.f y2 else some y2).bind (fun z => some (a0_0, y1, z, a0_3, l0_4, a0_5)) = some (r1, r2, r3, r4, r5, r6) := h
 replace h := zu.mp h
 obtain ⟨z, B20, h⟩ := h
 simp only [zH, zI] at h
 obtain ⟨rfl, rfl, rfl, rfl, rfl, rfl⟩ := h
 have H1 := Aq.mk B10
 have H2 := Aq.mk B20
 clear B10 B20
 go_enter Tryd.func50, Tryd.ntmps50
 go_upto_region 2 with (first | ((with_reducible refine gate_dst (N := 1) rfl ?_); refine box_event ?hg (N := 1) ?hd (cs := #[.string a0_0, .string a0_1, .string a0_2, .string a0_3, .slice A0_4 l0_4.length c0_4, .string a0_5]) (t := 24) ?hr ?_; (case hd => rfl); (case hg => rfl); (case hr => first | (go_simp; done) | (go_simp; rfl)); intro g1 hg w1 hbox hb; have B1 := Aq.mk hbox; have L1 := Aq.mk (show w.heap.size ≤ g1 by rw [hg]; exact zz (by repeat (with_reducible first | exact HB.out | apply zd | apply zb | apply zc))); have n1_ := Aq.mk (zv (by repeat (with_reducible first | exact HB.out | apply zd | apply zb | apply zc)) hb); clear HB; have HB := n1_; clear n1_ hb hbox hg) | ((with_reducible refine gate_dst (N := 2) rfl ?_); refine box_event ?hg (N := 2) ?hd (cs := #[.string (⟨#[]⟩ : ByteArray), .string (⟨#[]⟩ : ByteArray), .string (⟨#[]⟩ : ByteArray), .string (⟨#[]⟩ : ByteArray), .slice none 0 0, .string (⟨#[]⟩ : ByteArray)]) (t := 24) ?hr ?_; (case hd => rfl); (case hg => rfl); (case hr => first | (go_simp; done) | (go_simp; rfl)); intro g2 hg w2 hbox hb; have B2 := Aq.mk hbox; have L2 := Aq.mk (show w.heap.size ≤ g2 by rw [hg]; exact zz (by repeat (with_reducible first | exact HB.out | apply zd | apply zb | apply zc))); have N12 := Aq.mk (show g1 ≠ g2 by rw [hg]; exact Nat.ne_of_lt (zA B1.out)); have n0_ := Aq.mk (zw B1.out hb); have n1_ := Aq.mk (zv (by repeat (with_reducible first | exact HB.out | apply zd | apply zb | apply zc)) hb); clear HB B1; have B1 := n0_; have HB := n1_; clear n0_ n1_ hb hbox hg; have hc1_0 : w2.cell? ⟨g1, 0, none⟩ = some (.string a0_0) := (ze B1.out 0).trans rfl; have hfz1_0 := za B1.out 0) | ((with_reducible refine gate_callee (f := 17) rfl ?_); refine goesL_ (some 8) rfl rfl Tryd.func17 (by kernel_rfl) rfl #[.string a0_0] rfl (by (try simp only [zP, zQ, zR]); first | done | rfl | (simp only [zS, zT]; rfl)) ?_; (with_reducible refine (purl_Rule.calls a0_0 t274 t275 t276 t277 t278 t279 _ A2.out).mono ?_); rintro e w3 ⟨rfl, hb⟩; refine ⟨_, rfl, ?_⟩; have n0_ := Aq.mk (zw B1.out hb); have n2_ := Aq.mk (zw B2.out hb); have n1_ := Aq.mk (zv (by repeat (with_reducible first | exact HB.out | apply zd | apply zb | apply zc)) hb); clear HB B1 B2; have B1 := n0_; have B2 := n2_; have HB := n1_; clear n0_ n1_ n2_ hb) | ((with_reducible refine gate_dst (N := 3) rfl ?_); refine box_event ?hg (N := 3) ?hd (cs := #[.string (⟨#[]⟩ : ByteArray), .int .i64 0, .bool false, .bool false, .int .i64 0]) (t := 37) ?hr ?_; (case hd => rfl); (case hg => rfl); (case hr => first | (go_simp; done) | (go_simp; rfl)); intro g3 hg w4 hbox hb; have B3 := Aq.mk hbox; have L3 := Aq.mk (show w.heap.size ≤ g3 by rw [hg]; exact zz (by repeat (with_reducible first | exact HB.out | apply zd | apply zb | apply zc))); have N13 := Aq.mk (show g1 ≠ g3 by rw [hg]; exact Nat.ne_of_lt (zA B1.out)); have N23 := Aq.mk (show g2 ≠ g3 by rw [hg]; exact Nat.ne_of_lt (zA B2.out)); have n0_ := Aq.mk (zw B1.out hb); have n2_ := Aq.mk (zw B2.out hb); have n1_ := Aq.mk (zv (by repeat (with_reducible first | exact HB.out | apply zd | apply zb | apply zc)) hb); clear HB B1 B2; have B1 := n0_; have B2 := n2_; have HB := n1_; clear n0_ n1_ n2_ hb hbox hg; have hc3_0 : w4.cell? ⟨g3, 0, none⟩ = some (.string (⟨#[]⟩ : ByteArray)) := (ze B3.out 0).trans rfl; have hf3_0 := za B3.out 0; have hc3_1 : w4.cell? ⟨g3, 1, none⟩ = some (.int .i64 0) := (ze B3.out 1).trans rfl; have hf3_1 := za B3.out 1; have hc3_2 : w4.cell? ⟨g3, 2, none⟩ = some (.bool false) := (ze B3.out 2).trans rfl; have hf3_2 := za B3.out 2; have hc3_3 : w4.cell? ⟨g3, 3, none⟩ = some (.bool false) := (ze B3.out 3).trans rfl; have hf3_3 := za B3.out 3; have hc3_4 : w4.cell? ⟨g3, 4, none⟩ = some (.int .i64 0) := (ze B3.out 4).trans rfl; have hf3_4 := za B3.out 4))
 refine wp_gen (R := Cn w g1 g2 g3 (.string a0_0) (.string a0_1) (.string a0_2) (.string a0_3) (.slice A0_4 l0_4.length c0_4) (.string a0_5) #[.string t274, .int .i64 t275, .bool t276, .bool t277, .int .i64 t278]) ⟨by refine zx ?_ N13.out _; refine zx ?_ N13.out _; refine zx ?_ N13.out _; refine zx ?_ N13.out _; refine zx ?_ N13.out _; exact B1.out, by refine zx ?_ N23.out _; refine zx ?_ N23.out _; refine zx ?_ N23.out _; refine zx ?_ N23.out _; refine zx ?_ N23.out _; exact B2.out, by refine zy (cs := #[.string t274, .int .i64 t275, .bool t276, .bool t277, .int .i64 0]) ?_ 4 _ rfl; refine zy (cs := #[.string t274, .int .i64 t275, .bool t276, .bool false, .int .i64 0]) ?_ 3 _ rfl; refine zy (cs := #[.string t274, .int .i64 t275, .bool false, .bool false, .int .i64 0]) ?_ 2 _ rfl; refine zy (cs := #[.string t274, .int .i64 0, .bool false, .bool false, .int .i64 0]) ?_ 1 _ rfl; refine zy (cs := #[.string (⟨#[]⟩ : ByteArray), .int .i64 0, .bool false, .bool false, .int .i64 0]) ?_ 0 _ rfl; exact B3.out, by repeat (with_reducible first | exact HB.out | refine zf ?_ L3.out), L1.out, L2.out, N12.out, N13.out⟩ (fun w5 C0 => ?_)
 clear B1 B2 B3 HB hc1_0 hfz1_0 hc3_0 hc3_1 hc3_2 hc3_3 hc3_4 hf3_0 hf3_1 hf3_2 hf3_3 hf3_4
 have hq2 : w5.cell? ⟨g3, 2, none⟩ = some (.bool t276) := (ze C0.out.b3 2).trans rfl
 cases t276 with
 | true =>
  have h1 : (purl_small.f a0_1).bind (fun t281 => (purl_small.f a0_2).bind fun t282 => some (t281, t282)) = some (y1, y2) := H1.out
  clear H1
  replace h1 := zu.mp h1
  obtain ⟨t281, A40, h1⟩ := h1
  replace h1 := zu.mp h1
  obtain ⟨t282, A50, h1⟩ := h1
  simp only [zH, zI] at h1
  obtain ⟨e1, e2⟩ := h1
  rw [e1] at A40
  rw [e2] at A50
  clear e1 e2
  have A4 := Aq.mk A40
  have A5 := Aq.mk A50
  clear A40 A50
  go_upto_region 3 with (fail)
  go_cut [] (fun wc => Aq (Cn w g1 g2 g3 (.string a0_0) (.string y1) (.string y2) (.string a0_3) (.slice A0_4 l0_4.length c0_4) (.string a0_5) #[.string t274, .int .i64 t275, .bool true, .bool t277, .int .i64 t278] wc))
  case first =>
   have hp1 := C0.out.c1
   have hp2 := C0.out.c2
   have hf1 := za C0.out.b1 1
   have hf2 := za C0.out.b1 2
   go_region_with (first | (go_at_call 100; (with_reducible refine (purl_small.calls a0_1 y1 _ A4.out).mono ?_); rintro e wA ⟨rfl, hb⟩; (first | (have n0_ : Aq (Cn w g1 g2 g3 (.string a0_0) (.string a0_1) (.string a0_2) (.string a0_3) (.slice A0_4 l0_4.length c0_4) (.string a0_5) #[.string t274, .int .i64 t275, .bool true, .bool t277, .int .i64 t278] wA) := ⟨Cn.below (by repeat (with_reducible first | exact C0.out | apply Cn.set1 | apply Cn.set2 | apply Cn.set4 | apply Cn.drew)) hb⟩)); clear C0 hb; have C0 := n0_; clear n0_; have hp1 := C0.out.c1; have hp2 := C0.out.c2; have hf1 := za C0.out.b1 1; have hf2 := za C0.out.b1 2) | (go_at_call 100; (with_reducible refine (purl_small.calls a0_2 y2 _ A5.out).mono ?_); rintro e wB ⟨rfl, hb⟩; (first | (have n0_ : Aq (Cn w g1 g2 g3 (.string a0_0) (.string a0_1) (.string a0_2) (.string a0_3) (.slice A0_4 l0_4.length c0_4) (.string a0_5) #[.string t274, .int .i64 t275, .bool true, .bool t277, .int .i64 t278] wB) := ⟨Cn.below (by repeat (with_reducible first | exact C0.out | apply Cn.set1 | apply Cn.set2 | apply Cn.set4 | apply Cn.drew)) hb⟩) | (have n0_ : Aq (Cn w g1 g2 g3 (.string a0_0) (.string y1) (.string a0_2) (.string a0_3) (.slice A0_4 l0_4.length c0_4) (.string a0_5) #[.string t274, .int .i64 t275, .bool true, .bool t277, .int .i64 t278] wB) := ⟨Cn.below (by repeat (with_reducible first | exact C0.out | apply Cn.set1 | apply Cn.set2 | apply Cn.set4 | apply Cn.drew)) hb⟩)); clear C0 hb; have C0 := n0_; clear n0_; have hp1 := C0.out.c1; have hp2 := C0.out.c2; have hf1 := za C0.out.b1 1; have hf2 := za C0.out.b1 2))
   all_goals (go_wp2; go_meet; (case rel => exact ⟨(by repeat (with_reducible first | exact C0.out | apply Cn.set1 | apply Cn.set2 | apply Cn.set4 | apply Cn.drew))⟩))
  have C0 := hcut
  clear hcut
  have hq3 := (ze C0.out.b3 3)
  simp only [List.getElem?_toArray, List.getElem?_cons_succ, List.getElem?_cons_zero] at hq3
  cases t277 with
  | true =>
   have A7 := Aq.mk (show purl_dashed.f y2 = some z from H2.out)
   have hp2 := C0.out.c2
   have hf2 := za C0.out.b1 2
   go_upto_region 6 with (first | ((with_reducible refine gate_callee (f := 101) rfl ?_); refine goesL_ (some 25) rfl rfl Tryd.func101 (by kernel_rfl) rfl #[.string y2] rfl (by (try simp only [zP, zQ, zR]); first | done | rfl) ?_; (with_reducible refine (purl_dashed.calls y2 z _ A7.out).mono ?_); rintro e wD ⟨rfl, hb⟩; refine ⟨_, rfl, ?_⟩; (first | (have n0_ : Aq (Cn w g1 g2 g3 (.string a0_0) (.string y1) (.string y2) (.string a0_3) (.slice A0_4 l0_4.length c0_4) (.string a0_5) #[.string t274, .int .i64 t275, .bool true, .bool true, .int .i64 t278] wD) := ⟨Cn.below (by repeat (with_reducible first | exact C0.out | apply Cn.set1 | apply Cn.set2 | apply Cn.set4 | apply Cn.drew)) hb⟩)); clear C0 hb; have C0 := n0_; clear n0_; have hp2 := C0.out.c2; have hf2 := za C0.out.b1 2))
   refine wp_gen (R := Cn w g1 g2 g3 (.string a0_0) (.string y1) (.string z) (.string a0_3) (.slice A0_4 l0_4.length c0_4) (.string a0_5) #[.string t274, .int .i64 t275, .bool true, .bool true, .int .i64 t278]) (by repeat (with_reducible first | exact C0.out | apply Cn.set1 | apply Cn.set2 | apply Cn.set4 | apply Cn.drew)) (fun w6 C0 => ?_)
   have hp4 := C0.out.c4
   have hf4 := za C0.out.b1 4
   go_upto_region 7 with (first | ((with_reducible refine gate_builtin (b := .append) (xs := #[.const (.slice none 0 0), .tmp 28]) rfl ?_); at_builtin; refine Kd.R_append_rows k64 (Rr := k64.K w6) (w0 := w) w.heap.size rfl (.const (.slice none 0 0)) (.tmp 28) 22 64 (.agg #[(.string ⟨#[]⟩), (.string ⟨#[]⟩)]) 32 rfl Tryd.underlying22 info64 rfl (by decide) (by omega) (.slice none 0 0) [] l0_4 A0_4 l0_4.length c0_4 (fun k => k ≠ g1 ∧ k ≠ g2) (fun _ => False) rfl ?qA ?qB ?qC ?qD ?qE ?qF ?qG ?qH ?qI ?_; (case qA => rfl); (case qB => exact Kd.R_nil _ _ _ _ _); (case qC => exact Kd.C_below HR0.out C0.out.hb); (case qD => exact fun _ _ hk => k64_KM hk); (case qE => exact fun _ hk => hk.elim); (case qF => exact fun k hk => ⟨by have := zA C0.out.b1; omega, by have := zA C0.out.b2; omega⟩); (case qG => exact C0.out.hb); (case qH => exact zz C0.out.hb); (case qI => have := LM.out; simp only [List.length_nil]; omega); intro v4 w7 ho hb hg hat; rw [List.nil_append] at ho; obtain ⟨Av, cv, ev⟩ := yi ho; subst ev; have HO := Aq.mk ho; have n0_ := Aq.mk (Cn.grown C0.out hg hb); clear C0 ho hb hg hat; have C0 := n0_; clear n0_; have hp4 := C0.out.c4; have hf4 := za C0.out.b1 4))
   refine wp_gen (R := fun W => Cn w g1 g2 g3 (.string a0_0) (.string y1) (.string z) (.string a0_3) (.slice Av l0_4.length cv) (.string a0_5) #[.string t274, .int .i64 t275, .bool true, .bool true, .int .i64 t278] W ∧ Kd.R k64 64 W w.heap.size (fun k => k ≠ g1 ∧ k ≠ g2) (.slice Av l0_4.length cv) l0_4) ⟨(by repeat (with_reducible first | exact C0.out | apply Cn.set1 | apply Cn.set2 | apply Cn.set4 | apply Cn.drew)), Kd.R_far (p := ⟨g1, 4, none⟩) HO.out (fun _ hk => hk.1) _⟩ (fun w8 C1 => ?_)
   have hp0 := C1.out.1.c0
   have hp1 := C1.out.1.c1
   have hp2 := C1.out.1.c2
   have hp3 := C1.out.1.c3
   have hp4 := C1.out.1.c4
   have hp5 := C1.out.1.c5
   have hz0 : w8.cell? ⟨g2, 0, none⟩ = some (.string (⟨#[]⟩ : ByteArray)) := (ze C1.out.1.b2 0).trans rfl
   have hfz0 := za C1.out.1.b2 0
   have hz1 : w8.cell? ⟨g2, 1, none⟩ = some (.string (⟨#[]⟩ : ByteArray)) := (ze C1.out.1.b2 1).trans rfl
   have hfz1 := za C1.out.1.b2 1
   have hz2 : w8.cell? ⟨g2, 2, none⟩ = some (.string (⟨#[]⟩ : ByteArray)) := (ze C1.out.1.b2 2).trans rfl
   have hfz2 := za C1.out.1.b2 2
   have hz3 : w8.cell? ⟨g2, 3, none⟩ = some (.string (⟨#[]⟩ : ByteArray)) := (ze C1.out.1.b2 3).trans rfl
   have hfz3 := za C1.out.1.b2 3
   have hz4 : w8.cell? ⟨g2, 4, none⟩ = some (.slice none 0 0) := (ze C1.out.1.b2 4).trans rfl
   have hfz4 := za C1.out.1.b2 4
   have hz5 : w8.cell? ⟨g2, 5, none⟩ = some (.string (⟨#[]⟩ : ByteArray)) := (ze C1.out.1.b2 5).trans rfl
   have hfz5 := za C1.out.1.b2 5
   have hnb := C1.out.1.n12
   have hnc := C1.out.1.n12.symm
   go_wp2
   refine bodyPost_ret (results_cell_row rfl _ _ g2 24 #[.string a0_0, .string y1, .string z, .string a0_3, .slice Av l0_4.length cv, .string a0_5] (0, 0) _ rfl (by refine zy (cs := #[.string a0_0, .string y1, .string z, .string a0_3, .slice Av l0_4.length cv, .string (⟨#[]⟩ : ByteArray)]) ?_ 5 _ rfl; refine zy (cs := #[.string a0_0, .string y1, .string z, .string a0_3, .slice none 0 0, .string (⟨#[]⟩ : ByteArray)]) ?_ 4 _ rfl; refine zy (cs := #[.string a0_0, .string y1, .string z, .string (⟨#[]⟩ : ByteArray), .slice none 0 0, .string (⟨#[]⟩ : ByteArray)]) ?_ 3 _ rfl; refine zy (cs := #[.string a0_0, .string y1, .string (⟨#[]⟩ : ByteArray), .string (⟨#[]⟩ : ByteArray), .slice none 0 0, .string (⟨#[]⟩ : ByteArray)]) ?_ 2 _ rfl; refine zy (cs := #[.string a0_0, .string (⟨#[]⟩ : ByteArray), .string (⟨#[]⟩ : ByteArray), .string (⟨#[]⟩ : ByteArray), .slice none 0 0, .string (⟨#[]⟩ : ByteArray)]) ?_ 1 _ rfl; refine zy (cs := #[.string (⟨#[]⟩ : ByteArray), .string (⟨#[]⟩ : ByteArray), .string (⟨#[]⟩ : ByteArray), .string (⟨#[]⟩ : ByteArray), .slice none 0 0, .string (⟨#[]⟩ : ByteArray)]) ?_ 0 _ rfl; exact C1.out.1.b2) Tryd.underlying24 rfl (by kernel_rfl)) rfl ?_
   exact ⟨_, rfl, Kd.R_mono (ok := fun k => k ≠ g1 ∧ k ≠ g2) (by repeat (with_reducible first | exact C1.out.2 | refine Kd.R_far ?_ (fun _ hk => hk.2) _)) (fun _ _ => trivial), by repeat (with_reducible first | exact C1.out.1.hb | refine zf ?_ C1.out.1.l2)⟩
  | false =>
   obtain rfl : y2 = z := yg H2.out
   go_upto_region 6 with (fail)
   refine wp_gen (R := Cn w g1 g2 g3 (.string a0_0) (.string y1) (.string y2) (.string a0_3) (.slice A0_4 l0_4.length c0_4) (.string a0_5) #[.string t274, .int .i64 t275, .bool true, .bool false, .int .i64 t278]) (by repeat (with_reducible first | exact C0.out | apply Cn.set1 | apply Cn.set2 | apply Cn.set4 | apply Cn.drew)) (fun w6 C0 => ?_)
   have hp4 := C0.out.c4
   have hf4 := za C0.out.b1 4
   go_upto_region 7 with (first | ((with_reducible refine gate_builtin (b := .append) (xs := #[.const (.slice none 0 0), .tmp 28]) rfl ?_); at_builtin; refine Kd.R_append_rows k64 (Rr := k64.K w6) (w0 := w) w.heap.size rfl (.const (.slice none 0 0)) (.tmp 28) 22 64 (.agg #[(.string ⟨#[]⟩), (.string ⟨#[]⟩)]) 32 rfl Tryd.underlying22 info64 rfl (by decide) (by omega) (.slice none 0 0) [] l0_4 A0_4 l0_4.length c0_4 (fun k => k ≠ g1 ∧ k ≠ g2) (fun _ => False) rfl ?qA ?qB ?qC ?qD ?qE ?qF ?qG ?qH ?qI ?_; (case qA => rfl); (case qB => exact Kd.R_nil _ _ _ _ _); (case qC => exact Kd.C_below HR0.out C0.out.hb); (case qD => exact fun _ _ hk => k64_KM hk); (case qE => exact fun _ hk => hk.elim); (case qF => exact fun k hk => ⟨by have := zA C0.out.b1; omega, by have := zA C0.out.b2; omega⟩); (case qG => exact C0.out.hb); (case qH => exact zz C0.out.hb); (case qI => have := LM.out; simp only [List.length_nil]; omega); intro v4 w7 ho hb hg hat; rw [List.nil_append] at ho; obtain ⟨Av, cv, ev⟩ := yi ho; subst ev; have HO := Aq.mk ho; have n0_ := Aq.mk (Cn.grown C0.out hg hb); clear C0 ho hb hg hat; have C0 := n0_; clear n0_; have hp4 := C0.out.c4; have hf4 := za C0.out.b1 4))
   refine wp_gen (R := fun W => Cn w g1 g2 g3 (.string a0_0) (.string y1) (.string y2) (.string a0_3) (.slice Av l0_4.length cv) (.string a0_5) #[.string t274, .int .i64 t275, .bool true, .bool false, .int .i64 t278] W ∧ Kd.R k64 64 W w.heap.size (fun k => k ≠ g1 ∧ k ≠ g2) (.slice Av l0_4.length cv) l0_4) ⟨(by repeat (with_reducible first | exact C0.out | apply Cn.set1 | apply Cn.set2 | apply Cn.set4 | apply Cn.drew)), Kd.R_far (p := ⟨g1, 4, none⟩) HO.out (fun _ hk => hk.1) _⟩ (fun w8 C1 => ?_)
   have hp0 := C1.out.1.c0
   have hp1 := C1.out.1.c1
   have hp2 := C1.out.1.c2
   have hp3 := C1.out.1.c3
   have hp4 := C1.out.1.c4
   have hp5 := C1.out.1.c5
   have hz0 : w8.cell? ⟨g2, 0, none⟩ = some (.string (⟨#[]⟩ : ByteArray)) := (ze C1.out.1.b2 0).trans rfl
   have hfz0 := za C1.out.1.b2 0
   have hz1 : w8.cell? ⟨g2, 1, none⟩ = some (.string (⟨#[]⟩ : ByteArray)) := (ze C1.out.1.b2 1).trans rfl
   have hfz1 := za C1.out.1.b2 1
   have hz2 : w8.cell? ⟨g2, 2, none⟩ = some (.string (⟨#[]⟩ : ByteArray)) := (ze C1.out.1.b2 2).trans rfl
   have hfz2 := za C1.out.1.b2 2
   have hz3 : w8.cell? ⟨g2, 3, none⟩ = some (.string (⟨#[]⟩ : ByteArray)) := (ze C1.out.1.b2 3).trans rfl
   have hfz3 := za C1.out.1.b2 3
   have hz4 : w8.cell? ⟨g2, 4, none⟩ = some (.slice none 0 0) := (ze C1.out.1.b2 4).trans rfl
   have hfz4 := za C1.out.1.b2 4
   have hz5 : w8.cell? ⟨g2, 5, none⟩ = some (.string (⟨#[]⟩ : ByteArray)) := (ze C1.out.1.b2 5).trans rfl
   have hfz5 := za C1.out.1.b2 5
   have hnb := C1.out.1.n12
   have hnc := C1.out.1.n12.symm
   go_wp2
   refine bodyPost_ret (results_cell_row rfl _ _ g2 24 #[.string a0_0, .string y1, .string y2, .string a0_3, .slice Av l0_4.length cv, .string a0_5] (0, 0) _ rfl (by refine zy (cs := #[.string a0_0, .string y1, .string y2, .string a0_3, .slice Av l0_4.length cv, .string (⟨#[]⟩ : ByteArray)]) ?_ 5 _ rfl; refine zy (cs := #[.string a0_0, .string y1, .string y2, .string a0_3, .slice none 0 0, .string (⟨#[]⟩ : ByteArray)]) ?_ 4 _ rfl; refine zy (cs := #[.string a0_0, .string y1, .string y2, .string (⟨#[]⟩ : ByteArray), .slice none 0 0, .string (⟨#[]⟩ : ByteArray)]) ?_ 3 _ rfl; refine zy (cs := #[.string a0_0, .string y1, .string (⟨#[]⟩ : ByteArray), .string (⟨#[]⟩ : ByteArray), .slice none 0 0, .string (⟨#[]⟩ : ByteArray)]) ?_ 2 _ rfl; refine zy (cs := #[.string a0_0, .string (⟨#[]⟩ : ByteArray), .string (⟨#[]⟩ : ByteArray), .string (⟨#[]⟩ : ByteArray), .slice none 0 0, .string (⟨#[]⟩ : ByteArray)]) ?_ 1 _ rfl; refine zy (cs := #[.string (⟨#[]⟩ : ByteArray), .string (⟨#[]⟩ : ByteArray), .string (⟨#[]⟩ : ByteArray), .string (⟨#[]⟩ : ByteArray), .slice none 0 0, .string (⟨#[]⟩ : ByteArray)]) ?_ 0 _ rfl; exact C1.out.1.b2) Tryd.underlying24 rfl (by kernel_rfl)) rfl ?_
   exact ⟨_, rfl, Kd.R_mono (ok := fun k => k ≠ g1 ∧ k ≠ g2) (by repeat (with_reducible first | exact C1.out.2 | refine Kd.R_far ?_ (fun _ hk => hk.2) _)) (fun _ _ => trivial), by repeat (with_reducible first | exact C1.out.1.hb | refine zf ?_ C1.out.1.l2)⟩
 | false =>
  have h1 : some (a0_1, a0_2) = some (y1, y2) := H1.out
  clear H1
  simp only [zH, zI] at h1
  obtain ⟨rfl, rfl⟩ := h1
  have hq3 := (ze C0.out.b3 3)
  simp only [List.getElem?_toArray, List.getElem?_cons_succ, List.getElem?_cons_zero] at hq3
  cases t277 with
  | true =>
   have A7 := Aq.mk (show purl_dashed.f a0_2 = some z from H2.out)
   have hp2 := C0.out.c2
   have hf2 := za C0.out.b1 2
   go_upto_region 6 with (first | ((with_reducible refine gate_callee (f := 101) rfl ?_); refine goesL_ (some 25) rfl rfl Tryd.func101 (by kernel_rfl) rfl #[.string a0_2] rfl (by (try simp only [zP, zQ, zR]); first | done | rfl) ?_; (with_reducible refine (purl_dashed.calls a0_2 z _ A7.out).mono ?_); rintro e wD ⟨rfl, hb⟩; refine ⟨_, rfl, ?_⟩; (first | (have n0_ : Aq (Cn w g1 g2 g3 (.string a0_0) (.string a0_1) (.string a0_2) (.string a0_3) (.slice A0_4 l0_4.length c0_4) (.string a0_5) #[.string t274, .int .i64 t275, .bool false, .bool true, .int .i64 t278] wD) := ⟨Cn.below (by repeat (with_reducible first | exact C0.out | apply Cn.set1 | apply Cn.set2 | apply Cn.set4 | apply Cn.drew)) hb⟩)); clear C0 hb; have C0 := n0_; clear n0_; have hp2 := C0.out.c2; have hf2 := za C0.out.b1 2))
   refine wp_gen (R := Cn w g1 g2 g3 (.string a0_0) (.string a0_1) (.string z) (.string a0_3) (.slice A0_4 l0_4.length c0_4) (.string a0_5) #[.string t274, .int .i64 t275, .bool false, .bool true, .int .i64 t278]) (by repeat (with_reducible first | exact C0.out | apply Cn.set1 | apply Cn.set2 | apply Cn.set4 | apply Cn.drew)) (fun w6 C0 => ?_)
   have hp4 := C0.out.c4
   have hf4 := za C0.out.b1 4
   go_upto_region 7 with (first | ((with_reducible refine gate_builtin (b := .append) (xs := #[.const (.slice none 0 0), .tmp 28]) rfl ?_); at_builtin; refine Kd.R_append_rows k64 (Rr := k64.K w6) (w0 := w) w.heap.size rfl (.const (.slice none 0 0)) (.tmp 28) 22 64 (.agg #[(.string ⟨#[]⟩), (.string ⟨#[]⟩)]) 32 rfl Tryd.underlying22 info64 rfl (by decide) (by omega) (.slice none 0 0) [] l0_4 A0_4 l0_4.length c0_4 (fun k => k ≠ g1 ∧ k ≠ g2) (fun _ => False) rfl ?qA ?qB ?qC ?qD ?qE ?qF ?qG ?qH ?qI ?_; (case qA => rfl); (case qB => exact Kd.R_nil _ _ _ _ _); (case qC => exact Kd.C_below HR0.out C0.out.hb); (case qD => exact fun _ _ hk => k64_KM hk); (case qE => exact fun _ hk => hk.elim); (case qF => exact fun k hk => ⟨by have := zA C0.out.b1; omega, by have := zA C0.out.b2; omega⟩); (case qG => exact C0.out.hb); (case qH => exact zz C0.out.hb); (case qI => have := LM.out; simp only [List.length_nil]; omega); intro v4 w7 ho hb hg hat; rw [List.nil_append] at ho; obtain ⟨Av, cv, ev⟩ := yi ho; subst ev; have HO := Aq.mk ho; have n0_ := Aq.mk (Cn.grown C0.out hg hb); clear C0 ho hb hg hat; have C0 := n0_; clear n0_; have hp4 := C0.out.c4; have hf4 := za C0.out.b1 4))
   refine wp_gen (R := fun W => Cn w g1 g2 g3 (.string a0_0) (.string a0_1) (.string z) (.string a0_3) (.slice Av l0_4.length cv) (.string a0_5) #[.string t274, .int .i64 t275, .bool false, .bool true, .int .i64 t278] W ∧ Kd.R k64 64 W w.heap.size (fun k => k ≠ g1 ∧ k ≠ g2) (.slice Av l0_4.length cv) l0_4) ⟨(by repeat (with_reducible first | exact C0.out | apply Cn.set1 | apply Cn.set2 | apply Cn.set4 | apply Cn.drew)), Kd.R_far (p := ⟨g1, 4, none⟩) HO.out (fun _ hk => hk.1) _⟩ (fun w8 C1 => ?_)
   have hp0 := C1.out.1.c0
   have hp1 := C1.out.1.c1
   have hp2 := C1.out.1.c2
   have hp3 := C1.out.1.c3
   have hp4 := C1.out.1.c4
   have hp5 := C1.out.1.c5
   have hz0 : w8.cell? ⟨g2, 0, none⟩ = some (.string (⟨#[]⟩ : ByteArray)) := (ze C1.out.1.b2 0).trans rfl
   have hfz0 := za C1.out.1.b2 0
   have hz1 : w8.cell? ⟨g2, 1, none⟩ = some (.string (⟨#[]⟩ : ByteArray)) := (ze C1.out.1.b2 1).trans rfl
   have hfz1 := za C1.out.1.b2 1
   have hz2 : w8.cell? ⟨g2, 2, none⟩ = some (.string (⟨#[]⟩ : ByteArray)) := (ze C1.out.1.b2 2).trans rfl
   have hfz2 := za C1.out.1.b2 2
   have hz3 : w8.cell? ⟨g2, 3, none⟩ = some (.string (⟨#[]⟩ : ByteArray)) := (ze C1.out.1.b2 3).trans rfl
   have hfz3 := za C1.out.1.b2 3
   have hz4 : w8.cell? ⟨g2, 4, none⟩ = some (.slice none 0 0) := (ze C1.out.1.b2 4).trans rfl
   have hfz4 := za C1.out.1.b2 4
   have hz5 : w8.cell? ⟨g2, 5, none⟩ = some (.string (⟨#[]⟩ : ByteArray)) := (ze C1.out.1.b2 5).trans rfl
   have hfz5 := za C1.out.1.b2 5
   have hnb := C1.out.1.n12
   have hnc := C1.out.1.n12.symm
   go_wp2
   refine bodyPost_ret (results_cell_row rfl _ _ g2 24 #[.string a0_0, .string a0_1, .string z, .string a0_3, .slice Av l0_4.length cv, .string a0_5] (0, 0) _ rfl (by refine zy (cs := #[.string a0_0, .string a0_1, .string z, .string a0_3, .slice Av l0_4.length cv, .string (⟨#[]⟩ : ByteArray)]) ?_ 5 _ rfl; refine zy (cs := #[.string a0_0, .string a0_1, .string z, .string a0_3, .slice none 0 0, .string (⟨#[]⟩ : ByteArray)]) ?_ 4 _ rfl; refine zy (cs := #[.string a0_0, .string a0_1, .string z, .string (⟨#[]⟩ : ByteArray), .slice none 0 0, .string (⟨#[]⟩ : ByteArray)]) ?_ 3 _ rfl; refine zy (cs := #[.string a0_0, .string a0_1, .string (⟨#[]⟩ : ByteArray), .string (⟨#[]⟩ : ByteArray), .slice none 0 0, .string (⟨#[]⟩ : ByteArray)]) ?_ 2 _ rfl; refine zy (cs := #[.string a0_0, .string (⟨#[]⟩ : ByteArray), .string (⟨#[]⟩ : ByteArray), .string (⟨#[]⟩ : ByteArray), .slice none 0 0, .string (⟨#[]⟩ : ByteArray)]) ?_ 1 _ rfl; refine zy (cs := #[.string (⟨#[]⟩ : ByteArray), .string (⟨#[]⟩ : ByteArray), .string (⟨#[]⟩ : ByteArray), .string (⟨#[]⟩ : ByteArray), .slice none 0 0, .string (⟨#[]⟩ : ByteArray)]) ?_ 0 _ rfl; exact C1.out.1.b2) Tryd.underlying24 rfl (by kernel_rfl)) rfl ?_
   exact ⟨_, rfl, Kd.R_mono (ok := fun k => k ≠ g1 ∧ k ≠ g2) (by repeat (with_reducible first | exact C1.out.2 | refine Kd.R_far ?_ (fun _ hk => hk.2) _)) (fun _ _ => trivial), by repeat (with_reducible first | exact C1.out.1.hb | refine zf ?_ C1.out.1.l2)⟩
  | false =>
   obtain rfl : a0_2 = z := yg H2.out
   go_upto_region 6 with (fail)
   refine wp_gen (R := Cn w g1 g2 g3 (.string a0_0) (.string a0_1) (.string a0_2) (.string a0_3) (.slice A0_4 l0_4.length c0_4) (.string a0_5) #[.string t274, .int .i64 t275, .bool false, .bool false, .int .i64 t278]) (by repeat (with_reducible first | exact C0.out | apply Cn.set1 | apply Cn.set2 | apply Cn.set4 | apply Cn.drew)) (fun w6 C0 => ?_)
   have hp4 := C0.out.c4
   have hf4 := za C0.out.b1 4
   go_upto_region 7 with (first | ((with_reducible refine gate_builtin (b := .append) (xs := #[.const (.slice none 0 0), .tmp 28]) rfl ?_); at_builtin; refine Kd.R_append_rows k64 (Rr := k64.K w6) (w0 := w) w.heap.size rfl (.const (.slice none 0 0)) (.tmp 28) 22 64 (.agg #[(.string ⟨#[]⟩), (.string ⟨#[]⟩)]) 32 rfl Tryd.underlying22 info64 rfl (by decide) (by omega) (.slice none 0 0) [] l0_4 A0_4 l0_4.length c0_4 (fun k => k ≠ g1 ∧ k ≠ g2) (fun _ => False) rfl ?qA ?qB ?qC ?qD ?qE ?qF ?qG ?qH ?qI ?_; (case qA => rfl); (case qB => exact Kd.R_nil _ _ _ _ _); (case qC => exact Kd.C_below HR0.out C0.out.hb); (case qD => exact fun _ _ hk => k64_KM hk); (case qE => exact fun _ hk => hk.elim); (case qF => exact fun k hk => ⟨by have := zA C0.out.b1; omega, by have := zA C0.out.b2; omega⟩); (case qG => exact C0.out.hb); (case qH => exact zz C0.out.hb); (case qI => have := LM.out; simp only [List.length_nil]; omega); intro v4 w7 ho hb hg hat; rw [List.nil_append] at ho; obtain ⟨Av, cv, ev⟩ := yi ho; subst ev; have HO := Aq.mk ho; have n0_ := Aq.mk (Cn.grown C0.out hg hb); clear C0 ho hb hg hat; have C0 := n0_; clear n0_; have hp4 := C0.out.c4; have hf4 := za C0.out.b1 4))
   refine wp_gen (R := fun W => Cn w g1 g2 g3 (.string a0_0) (.string a0_1) (.string a0_2) (.string a0_3) (.slice Av l0_4.length cv) (.string a0_5) #[.string t274, .int .i64 t275, .bool false, .bool false, .int .i64 t278] W ∧ Kd.R k64 64 W w.heap.size (fun k => k ≠ g1 ∧ k ≠ g2) (.slice Av l0_4.length cv) l0_4) ⟨(by repeat (with_reducible first | exact C0.out | apply Cn.set1 | apply Cn.set2 | apply Cn.set4 | apply Cn.drew)), Kd.R_far (p := ⟨g1, 4, none⟩) HO.out (fun _ hk => hk.1) _⟩ (fun w8 C1 => ?_)
   have hp0 := C1.out.1.c0
   have hp1 := C1.out.1.c1
   have hp2 := C1.out.1.c2
   have hp3 := C1.out.1.c3
   have hp4 := C1.out.1.c4
   have hp5 := C1.out.1.c5
   have hz0 : w8.cell? ⟨g2, 0, none⟩ = some (.string (⟨#[]⟩ : ByteArray)) := (ze C1.out.1.b2 0).trans rfl
   have hfz0 := za C1.out.1.b2 0
   have hz1 : w8.cell? ⟨g2, 1, none⟩ = some (.string (⟨#[]⟩ : ByteArray)) := (ze C1.out.1.b2 1).trans rfl
   have hfz1 := za C1.out.1.b2 1
   have hz2 : w8.cell? ⟨g2, 2, none⟩ = some (.string (⟨#[]⟩ : ByteArray)) := (ze C1.out.1.b2 2).trans rfl
   have hfz2 := za C1.out.1.b2 2
   have hz3 : w8.cell? ⟨g2, 3, none⟩ = some (.string (⟨#[]⟩ : ByteArray)) := (ze C1.out.1.b2 3).trans rfl
   have hfz3 := za C1.out.1.b2 3
   have hz4 : w8.cell? ⟨g2, 4, none⟩ = some (.slice none 0 0) := (ze C1.out.1.b2 4).trans rfl
   have hfz4 := za C1.out.1.b2 4
   have hz5 : w8.cell? ⟨g2, 5, none⟩ = some (.string (⟨#[]⟩ : ByteArray)) := (ze C1.out.1.b2 5).trans rfl
   have hfz5 := za C1.out.1.b2 5
   have hnb := C1.out.1.n12
   have hnc := C1.out.1.n12.symm
   go_wp2
   refine bodyPost_ret (results_cell_row rfl _ _ g2 24 #[.string a0_0, .string a0_1, .string a0_2, .string a0_3, .slice Av l0_4.length cv, .string a0_5] (0, 0) _ rfl (by refine zy (cs := #[.string a0_0, .string a0_1, .string a0_2, .string a0_3, .slice Av l0_4.length cv, .string (⟨#[]⟩ : ByteArray)]) ?_ 5 _ rfl; refine zy (cs := #[.string a0_0, .string a0_1, .string a0_2, .string a0_3, .slice none 0 0, .string (⟨#[]⟩ : ByteArray)]) ?_ 4 _ rfl; refine zy (cs := #[.string a0_0, .string a0_1, .string a0_2, .string (⟨#[]⟩ : ByteArray), .slice none 0 0, .string (⟨#[]⟩ : ByteArray)]) ?_ 3 _ rfl; refine zy (cs := #[.string a0_0, .string a0_1, .string (⟨#[]⟩ : ByteArray), .string (⟨#[]⟩ : ByteArray), .slice none 0 0, .string (⟨#[]⟩ : ByteArray)]) ?_ 2 _ rfl; refine zy (cs := #[.string a0_0, .string (⟨#[]⟩ : ByteArray), .string (⟨#[]⟩ : ByteArray), .string (⟨#[]⟩ : ByteArray), .slice none 0 0, .string (⟨#[]⟩ : ByteArray)]) ?_ 1 _ rfl; refine zy (cs := #[.string (⟨#[]⟩ : ByteArray), .string (⟨#[]⟩ : ByteArray), .string (⟨#[]⟩ : ByteArray), .string (⟨#[]⟩ : ByteArray), .slice none 0 0, .string (⟨#[]⟩ : ByteArray)]) ?_ 0 _ rfl; exact C1.out.1.b2) Tryd.underlying24 rfl (by kernel_rfl)) rfl ?_
   exact ⟨_, rfl, Kd.R_mono (ok := fun k => k ≠ g1 ∧ k ≠ g2) (by repeat (with_reducible first | exact C1.out.2 | refine Kd.R_far ?_ (fun _ hk => hk.2) _)) (fun _ _ => trivial), by repeat (with_reducible first | exact C1.out.1.hb | refine zf ?_ C1.out.1.l2)⟩
end Go.Proofs.YtmnfjbmhlabdaaaDoor.Pr
