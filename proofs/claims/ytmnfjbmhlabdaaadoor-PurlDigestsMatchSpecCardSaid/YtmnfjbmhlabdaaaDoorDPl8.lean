-- Written by a program of the session (wip/pr.py) out of the translation; Lean checks it.
import Derived.Test.YtmnfjbmhlabdaaaDoorDXa
import Derived.Test.YtmnfjbmhlabdaaaDoorDEh
import Derived.Test.YtmnfjbmhlabdaaaDoorDPk0
import Derived.Test.YtmnfjbmhlabdaaaDoorDPl7
import Derived.Test.YtmnfjbmhlabdaaaDoorDPrx0
namespace Go.Proofs.YtmnfjbmhlabdaaaDoor.Pr
open Go.RowKit Go.Proofs.YtmnfjbmhlabdaaaDoorW.PrintWords Go.Proofs.YtmnfjbmhlabdaaaDoorW.PrintLast Go.Proofs.YtmnfjbmhlabdaaaDoorW.PrintMore
attribute [local go_sem] max2_int min2_int max_two min_two max_three min_three max_four min_four leq_not   -- for this text's walks alone
set_option linter.unusedVariables false
set_option linter.unusedSimpArgs false
mutual
def purl_CheckDigests.l0 : Nat → List (S108) → List (S108) → Int → Int → Option (Int)
 | 0, _, _, _, _ => none
 | k + 1, x0, x9, x10, x11 => if x11 < x10 then (if 0 ≤ x11 then (if x11 < (x9.length : Int) then (if ((rd_T108 x9 x11).f0).toList = ([115, 117, 109, 54, 52] : List UInt8) then (purl_CheckDigests.j1 k x0 x11 16 x9 x10 x11 ((rd_T108 x9 x11).f0) ((rd_T108 x9 x11).f1)) else (purl_CheckDigests.j1 k x0 x11 64 x9 x10 x11 ((rd_T108 x9 x11).f0) ((rd_T108 x9 x11).f1))) else (none)) else (none)) else (some 0)
def purl_CheckDigests.j1 : Nat → List (S108) → Int → Int → List (S108) → Int → Int → ByteArray → ByteArray → Option (Int)
 | 0, _, _, _, _, _, _, _, _ => none
 | k + 1, x0, x3, x5, x9, x10, x11, x203000, x203001 => if x203000.toList = ([115, 104, 97, 50, 53, 54] : List UInt8) then (purl_CheckDigests.j2 k x0 x3 x5 x9 x10 x11 false x203000 x203001) else (purl_CheckDigests.j2 k x0 x3 x5 x9 x10 x11 (x203000.toList != ([115, 117, 109, 54, 52] : List UInt8)) x203000 x203001)
def purl_CheckDigests.j2 : Nat → List (S108) → Int → Int → List (S108) → Int → Int → Bool → ByteArray → ByteArray → Option (Int)
 | 0, _, _, _, _, _, _, _, _, _ => none
 | k + 1, x0, x3, x5, x9, x10, x11, x19, x203000, x203001 => if x19 = true then (some 7) else ((purl_isSum.f k x203001 x5).bind fun t203 => (if t203 = true then (if x3 > 0 then (if 0 ≤ (wrap64 (x3 - 1)) then (if (wrap64 (x3 - 1)) < (x0.length : Int) then (if ((Op.bytesLess (((rd_T108 x0 (wrap64 (x3 - 1))).f0).toList) x203000.toList) = true) then (purl_CheckDigests.l0 k x0 x9 x10 (wrap64 (x11 + 1))) else (some 10)) else (none)) else (none)) else (purl_CheckDigests.l0 k x0 x9 x10 (wrap64 (x11 + 1)))) else (some 2)))
end
def purl_CheckDigests.f (k : Nat) (l0 : List (S108)) : Option (Int) := if (l0.length : Int) > 4 then (some 3) else (purl_CheckDigests.l0 k l0 l0 (l0.length : Int) 0)
set_option maxHeartbeats 8000000 in
set_option maxRecDepth 100000 in
theorem purl_CheckDigests.calls (k : Nat) (A0 : Option Addr) (c0 : Nat) (l0 : List (S108)) (r : Int) (w : World) (hr0 : Kd.C k108 w A0 l0.length l0) (hc0 : l0.length ≤ c0) (h : purl_CheckDigests.f k l0 = some r) :
  Calls Tryd.prog 37 #[.slice A0 l0.length c0] w fun e w' => e = .returned (.int .i64 r) ∧ Below w.heap.size w w' := by
 have hu108 := Tryd.underlying108
 have HR0 := Aside0.mk hr0
 have HC0 := Aside0.mk hc0
 clear hr0 hc0
 have HB := Aside0.mk (Below.refl w.heap.size w)
 have H : (if (l0.length : Int) > 4 then (some 3) else (purl_CheckDigests.l0 k l0 l0 (l0.length : Int) 0)) = some r := h
 clear h
 by_cases c2 : (l0.length : Int) > 4
 ·rw [if_pos c2] at H
  have c2b0 : decide (4 < (l0.length : Int)) = true := zk c2
  have c2b1 : decide (4 < l0.length) = true := zk (by omega)
  clear c2
  obtain rfl := Option.some.inj H
  simp only [Option.some.injEq, Prod.mk.injEq] at H
  obtain ⟨rfl⟩ := H
  go_enter Tryd.func37, Tryd.ntmps37
  go_wp2
  repeat (go_quiet (fail); try go_wp2)
  go_ret
  exact ⟨by first | rfl | (simp [errW_none, errW_some] <;> rfl) | (simp [*, errW_none, errW_some] <;> rfl), by repeat (first | (with_reducible first | exact HB.out | apply zd | apply zb | apply zc) | exact HB.out)⟩
 ·rw [if_neg c2] at H
  have c2b0 : decide (4 < (l0.length : Int)) = false := zl c2
  have c2b1 : decide (4 < l0.length) = false := zl (by omega)
  clear c2
  have H' := Aside0.mk H
  clear H
  go_enter Tryd.func37, Tryd.ntmps37
  go_wp2
  repeat (go_quiet (fail); try go_wp2)
  go_loopg [11] k (fun kq v11 w' => ∃ (x11_1 : Int), v11 = .int .i64 x11_1 ∧ Aside0 (purl_CheckDigests.l0 kq l0 l0 (l0.length : Int) x11_1 = some r) ∧ Aside0 (kq ≤ k) ∧ Aside0 (Below w.heap.size w w'))
  case atStart => exact ⟨(0), (by first | rfl | (simp; done) | (simp [*]; done)), H', ⟨Nat.le_refl _⟩, ⟨by repeat (first | (with_reducible first | exact HB.out | apply zd | apply zb | apply zc) | exact HB.out)⟩⟩
  case round =>
   clear H'
   try clear c2
   try clear c2b0
   try clear c2b1
   try clear p2
   obtain ⟨x11_1, rfl, HA, HK1, HB⟩ := hrel
   cases gk with
   | zero => exact absurd HA.out (by simp [purl_CheckDigests.l0])
   | succ k1 =>
    have H := HA.out
    clear HA
    simp only [purl_CheckDigests.l0] at H
    by_cases c3 : x11_1 < (l0.length : Int)
    ·rw [if_pos c3] at H
     have c3b0 : decide (x11_1 < (l0.length : Int)) = true := zk c3
     clear c3
     by_cases c4 : 0 ≤ x11_1
     ·rw [if_pos c4] at H
      have c4b0 : decide (0 ≤ x11_1) = true := zk c4
      clear c4
      by_cases c5 : x11_1 < (l0.length : Int)
      ·rw [if_pos c5] at H
       have c5b0 : decide (x11_1 < (l0.length : Int)) = true := zk c5
       clear c5
       have HC6 := Aside0.mk H
       clear H
       have p201 : 0 ≤ (x11_1 : Int) := zj (by first | (with_reducible assumption) | assumption)
       have q201 : x11_1 < (l0.length : Int) := zj (by first | (with_reducible assumption) | assumption)
       obtain ⟨ad201, e201, hx201_0, hx201_1⟩ := at_T108 HR0.out x11_1 p201 q201
       cases e201
       replace hx201_0 := (HB.out.cell (World.block_lt_of_cell? w _ hx201_0)).trans hx201_0
       replace hx201_1 := (HB.out.cell (World.block_lt_of_cell? w _ hx201_1)).trans hx201_1
       replace p201 := eq_true p201
       replace q201 := eq_true q201
       go_upto_if 18 with (first | ((with_reducible refine gate_dst (N := 4) rfl ?_); refine box_event ?hg (N := 4) ?hd (cs := #[.string (⟨#[]⟩ : ByteArray), .string (⟨#[]⟩ : ByteArray)]) (t := 108) ?hr ?_; (case hd => rfl); (case hg => rfl); (case hr => first | (go_simp; done) | (go_simp; rfl)); intro gb202 hg w7 hbox hb; have n0_ := Aside0.mk (zv (by repeat (first | (with_reducible first | exact HB.out | apply zd | apply zb | apply zc) | exact HB.out)) hb); have n1_ := Aside0.mk (hbox); have n2_ := Aside0.mk ((by rw [hg]; exact (zz (by repeat (first | (with_reducible first | exact HB.out | apply zd | apply zb | apply zc) | exact HB.out))) : w.heap.size ≤ gb202)); have n3_ := Aside0.mk ((by rw [hg]; exact (zz (by repeat (first | (with_reducible first | exact HB.out | apply zd | apply zb | apply zc) | exact HB.out))) : w.heap.size ≤ gb202)); clear HB; have HB := n0_; have BK202 := n1_; have GW202 := n2_; have GE202 := n3_; clear n0_ n1_ n2_ n3_; clear hb hbox hg; have hcz8_0 : w7.cell? ⟨gb202, 0, none⟩ = some (.string (⟨#[]⟩ : ByteArray)) := (ze BK202.out 0).trans rfl; have hcz8_1 : w7.cell? ⟨gb202, 1, none⟩ = some (.string (⟨#[]⟩ : ByteArray)) := (ze BK202.out 1).trans rfl; have hfz8_0 := za BK202.out 0; have hfz8_1 := za BK202.out 1))
       repeat (go_quiet (first | ((with_reducible refine gate_dst (N := 4) rfl ?_); refine box_event ?hg (N := 4) ?hd (cs := #[.string (⟨#[]⟩ : ByteArray), .string (⟨#[]⟩ : ByteArray)]) (t := 108) ?hr ?_; (case hd => rfl); (case hg => rfl); (case hr => first | (go_simp; done) | (go_simp; rfl)); intro gb202 hg w7 hbox hb; have n0_ := Aside0.mk (zv (by repeat (first | (with_reducible first | exact HB.out | apply zd | apply zb | apply zc) | exact HB.out)) hb); have n1_ := Aside0.mk (hbox); have n2_ := Aside0.mk ((by rw [hg]; exact (zz (by repeat (first | (with_reducible first | exact HB.out | apply zd | apply zb | apply zc) | exact HB.out))) : w.heap.size ≤ gb202)); have n3_ := Aside0.mk ((by rw [hg]; exact (zz (by repeat (first | (with_reducible first | exact HB.out | apply zd | apply zb | apply zc) | exact HB.out))) : w.heap.size ≤ gb202)); clear HB; have HB := n0_; have BK202 := n1_; have GW202 := n2_; have GE202 := n3_; clear n0_ n1_ n2_ n3_; clear hb hbox hg; have hcz8_0 : w7.cell? ⟨gb202, 0, none⟩ = some (.string (⟨#[]⟩ : ByteArray)) := (ze BK202.out 0).trans rfl; have hcz8_1 : w7.cell? ⟨gb202, 1, none⟩ = some (.string (⟨#[]⟩ : ByteArray)) := (ze BK202.out 1).trans rfl; have hfz8_0 := za BK202.out 0; have hfz8_1 := za BK202.out 1)); go_upto_if 18 with (first | ((with_reducible refine gate_dst (N := 4) rfl ?_); refine box_event ?hg (N := 4) ?hd (cs := #[.string (⟨#[]⟩ : ByteArray), .string (⟨#[]⟩ : ByteArray)]) (t := 108) ?hr ?_; (case hd => rfl); (case hg => rfl); (case hr => first | (go_simp; done) | (go_simp; rfl)); intro gb202 hg w7 hbox hb; have n0_ := Aside0.mk (zv (by repeat (first | (with_reducible first | exact HB.out | apply zd | apply zb | apply zc) | exact HB.out)) hb); have n1_ := Aside0.mk (hbox); have n2_ := Aside0.mk ((by rw [hg]; exact (zz (by repeat (first | (with_reducible first | exact HB.out | apply zd | apply zb | apply zc) | exact HB.out))) : w.heap.size ≤ gb202)); have n3_ := Aside0.mk ((by rw [hg]; exact (zz (by repeat (first | (with_reducible first | exact HB.out | apply zd | apply zb | apply zc) | exact HB.out))) : w.heap.size ≤ gb202)); clear HB; have HB := n0_; have BK202 := n1_; have GW202 := n2_; have GE202 := n3_; clear n0_ n1_ n2_ n3_; clear hb hbox hg; have hcz8_0 : w7.cell? ⟨gb202, 0, none⟩ = some (.string (⟨#[]⟩ : ByteArray)) := (ze BK202.out 0).trans rfl; have hcz8_1 : w7.cell? ⟨gb202, 1, none⟩ = some (.string (⟨#[]⟩ : ByteArray)) := (ze BK202.out 1).trans rfl; have hfz8_0 := za BK202.out 0; have hfz8_1 := za BK202.out 1)))
       (try simp only [Act.put, List.setIfInBounds_toArray, List.set_cons_zero, List.set_cons_succ])
       go_cut [5] (fun v5 wc => ∃ (kq : Nat) (x5_5 : Int), v5 = .int .i64 x5_5 ∧ Aside0 (purl_CheckDigests.j1 kq l0 x11_1 x5_5 l0 (l0.length : Int) x11_1 ((rd_T108 l0 x11_1).f0) ((rd_T108 l0 x11_1).f1) = some r) ∧ Aside0 (kq ≤ k1) ∧ Aside0 (wc.heap[gb202]? = some (.cells #[.string ((rd_T108 l0 x11_1).f0), .string ((rd_T108 l0 x11_1).f1)] 108 (0, 0))) ∧ Aside0 (Below w.heap.size w wc))
       case first =>
        have H := HC6.out
        clear HC6
        by_cases c9 : ((rd_T108 l0 x11_1).f0).toList = ([115, 117, 109, 54, 52] : List UInt8)
        ·rw [if_pos c9] at H
         have c9b0 : (((rd_T108 l0 x11_1).f0).toList == ([115, 117, 109, 54, 52] : List UInt8)) = true := beq_iff_eq.mpr c9
         have c9b1 : (((rd_T108 l0 x11_1).f0).toList != ([115, 117, 109, 54, 52] : List UInt8)) = false := bne_eq_false_iff_eq.mpr c9
         clear c9
         (first | rw [c9b0] | (simp only [i64_w, i32_w]; rw [c9b0]) | skip)
         have H' := Aside0.mk H
         clear H
         go_wp2
         repeat (go_quiet (fail); try go_wp2)
         go_meet
         case rel => exact ⟨_, (16), (by first | rfl | (simp; done) | (simp [*]; done)), H', ⟨by have := HK1.out; first | omega | exact Nat.le_refl _⟩, ⟨by (with_reducible repeat (first | refine zg ?_ _ | refine zi ?_ | refine zh ?_ _)); refine zy (cs := #[.string ((rd_T108 l0 x11_1).f0), .string (⟨#[]⟩ : ByteArray)]) ?_ 1 _ rfl; (with_reducible repeat (first | refine zg ?_ _ | refine zi ?_ | refine zh ?_ _)); refine zy (cs := #[.string (⟨#[]⟩ : ByteArray), .string (⟨#[]⟩ : ByteArray)]) ?_ 0 _ rfl; (with_reducible repeat (first | refine zg ?_ _ | refine zi ?_ | refine zh ?_ _)); exact BK202.out⟩, ⟨by repeat (first | (with_reducible first | exact HB.out | apply zd | apply zb | apply zc | refine zf ?_ GE202.out) | exact HB.out)⟩⟩
        ·rw [if_neg c9] at H
         have c9b0 : (((rd_T108 l0 x11_1).f0).toList == ([115, 117, 109, 54, 52] : List UInt8)) = false := beq_eq_false_iff_ne.mpr c9
         have c9b1 : (((rd_T108 l0 x11_1).f0).toList != ([115, 117, 109, 54, 52] : List UInt8)) = true := bne_iff_ne.mpr c9
         (first | rw [c9b0] | (simp only [i64_w, i32_w]; rw [c9b0]) | skip)
         have H' := Aside0.mk H
         clear H
         go_wp2
         repeat (go_quiet (fail); try go_wp2)
         go_meet
         case rel => exact ⟨_, (64), (by first | rfl | (simp; done) | (simp [*]; done)), H', ⟨by have := HK1.out; first | omega | exact Nat.le_refl _⟩, ⟨by (with_reducible repeat (first | refine zg ?_ _ | refine zi ?_ | refine zh ?_ _)); refine zy (cs := #[.string ((rd_T108 l0 x11_1).f0), .string (⟨#[]⟩ : ByteArray)]) ?_ 1 _ rfl; (with_reducible repeat (first | refine zg ?_ _ | refine zi ?_ | refine zh ?_ _)); refine zy (cs := #[.string (⟨#[]⟩ : ByteArray), .string (⟨#[]⟩ : ByteArray)]) ?_ 0 _ rfl; (with_reducible repeat (first | refine zg ?_ _ | refine zi ?_ | refine zh ?_ _)); exact BK202.out⟩, ⟨by repeat (first | (with_reducible first | exact HB.out | apply zd | apply zb | apply zc | refine zf ?_ GE202.out) | exact HB.out)⟩⟩
       case rest =>
        clear HC6
        try clear c2
        try clear c2b0
        try clear c2b1
        try clear p2
        try clear q2
        try clear hx2
        try clear c3
        try clear c3b0
        try clear c4
        try clear c4b0
        try clear c5
        try clear c5b0
        try clear c9
        try clear c9b0
        try clear c9b1
        try clear hcz8_0
        try clear hcz8_1
        try clear hfz8_0
        try clear hfz8_1
        try clear hx201_0
        try clear hx201_1
        try clear p2
        try clear p201
        try clear q201
        obtain ⟨kq, x5_5, rfl, HA, HJ5, BK202, HB⟩ := hcut
        cases kq with
        | zero => exact absurd HA.out (by simp [purl_CheckDigests.j1])
        | succ kj5 =>
         have H := HA.out
         clear HA
         simp only [purl_CheckDigests.j1] at H
         have HC10 := Aside0.mk H
         clear H
         go_upto_region 9 with (fail)
         repeat (go_quiet (fail); go_upto_region 9 with (fail))
         go_cut [19] (fun v19 wc => ∃ (kq : Nat) (x19_9 : Bool), v19 = .bool x19_9 ∧ Aside0 (purl_CheckDigests.j2 kq l0 x11_1 x5_5 l0 (l0.length : Int) x11_1 x19_9 ((rd_T108 l0 x11_1).f0) ((rd_T108 l0 x11_1).f1) = some r) ∧ Aside0 (kq ≤ kj5) ∧ Aside0 (wc.heap[gb202]? = some (.cells #[.string ((rd_T108 l0 x11_1).f0), .string ((rd_T108 l0 x11_1).f1)] 108 (0, 0))) ∧ Aside0 (Below w.heap.size w wc))
         case first =>
          have H := HC10.out
          clear HC10
          by_cases c11 : ((rd_T108 l0 x11_1).f0).toList = ([115, 104, 97, 50, 53, 54] : List UInt8)
          ·rw [if_pos c11] at H
           have c11b0 : (((rd_T108 l0 x11_1).f0).toList == ([115, 104, 97, 50, 53, 54] : List UInt8)) = true := beq_iff_eq.mpr c11
           have c11b1 : (((rd_T108 l0 x11_1).f0).toList != ([115, 104, 97, 50, 53, 54] : List UInt8)) = false := bne_eq_false_iff_eq.mpr c11
           clear c11
           (first | rw [c11b0] | (simp only [i64_w, i32_w]; rw [c11b0]) | skip)
           have H' := Aside0.mk H
           clear H
           have hcz12_0 : wc.cell? ⟨gb202, 0, none⟩ = some (.string ((rd_T108 l0 x11_1).f0)) := (ze BK202.out 0).trans rfl
           have hcz12_1 : wc.cell? ⟨gb202, 1, none⟩ = some (.string ((rd_T108 l0 x11_1).f1)) := (ze BK202.out 1).trans rfl
           have hfz12_0 := za BK202.out 0
           have hfz12_1 := za BK202.out 1
           go_wp2
           repeat (go_quiet (fail); try go_wp2)
           go_meet
           case rel => exact ⟨_, (false), (by first | rfl | (simp; done) | (simp [*]; done)), H', ⟨by have := HK1.out; have := HJ5.out; first | omega | exact Nat.le_refl _⟩, ⟨by (with_reducible repeat (first | refine zg ?_ _ | refine zi ?_ | refine zh ?_ _)); exact BK202.out⟩, ⟨by repeat (first | (with_reducible first | exact HB.out | apply zd | apply zb | apply zc | refine zf ?_ GE202.out) | exact HB.out)⟩⟩
          ·rw [if_neg c11] at H
           have c11b0 : (((rd_T108 l0 x11_1).f0).toList == ([115, 104, 97, 50, 53, 54] : List UInt8)) = false := beq_eq_false_iff_ne.mpr c11
           have c11b1 : (((rd_T108 l0 x11_1).f0).toList != ([115, 104, 97, 50, 53, 54] : List UInt8)) = true := bne_iff_ne.mpr c11
           (first | rw [c11b0] | (simp only [i64_w, i32_w]; rw [c11b0]) | skip)
           have H' := Aside0.mk H
           clear H
           have hcz13_0 : wc.cell? ⟨gb202, 0, none⟩ = some (.string ((rd_T108 l0 x11_1).f0)) := (ze BK202.out 0).trans rfl
           have hcz13_1 : wc.cell? ⟨gb202, 1, none⟩ = some (.string ((rd_T108 l0 x11_1).f1)) := (ze BK202.out 1).trans rfl
           have hfz13_0 := za BK202.out 0
           have hfz13_1 := za BK202.out 1
           go_wp2
           repeat (go_quiet (fail); try go_wp2)
           go_meet
           case rel => exact ⟨_, ((((rd_T108 l0 x11_1).f0).toList != ([115, 117, 109, 54, 52] : List UInt8))), (by first | rfl | (simp; done) | (simp [*]; done)), H', ⟨by have := HK1.out; have := HJ5.out; first | omega | exact Nat.le_refl _⟩, ⟨by (with_reducible repeat (first | refine zg ?_ _ | refine zi ?_ | refine zh ?_ _)); exact BK202.out⟩, ⟨by repeat (first | (with_reducible first | exact HB.out | apply zd | apply zb | apply zc | refine zf ?_ GE202.out) | exact HB.out)⟩⟩
         case rest =>
          clear HC10
          try clear c1
          try clear c2
          try clear c2b0
          try clear c2b1
          try clear p2
          try clear q2
          try clear hx2
          try clear c3
          try clear c3b0
          try clear c4
          try clear c4b0
          try clear c5
          try clear c5b0
          try clear c9
          try clear c9b0
          try clear c9b1
          try clear c11
          try clear c11b0
          try clear c11b1
          try clear hcz12_0
          try clear hcz12_1
          try clear hcz13_0
          try clear hcz13_1
          try clear hcz8_0
          try clear hcz8_1
          try clear hfz12_0
          try clear hfz12_1
          try clear hfz13_0
          try clear hfz13_1
          try clear hfz8_0
          try clear hfz8_1
          try clear hx201_0
          try clear hx201_1
          try clear p2
          try clear p201
          try clear q2
          try clear q201
          obtain ⟨kq, x19_9, rfl, HA, HJ9, BK202, HB⟩ := hcut
          cases kq with
          | zero => exact absurd HA.out (by simp [purl_CheckDigests.j2])
          | succ kj9 =>
           have H := HA.out
           clear HA
           simp only [purl_CheckDigests.j2] at H
           by_cases c14 : x19_9 = true
           ·subst c14
            have H1 : (some 7) = some r := by rw [if_pos rfl] at H; exact H
            clear H
            have H := H1
            clear H1
            obtain rfl := Option.some.inj H
            simp only [Option.some.injEq, Prod.mk.injEq] at H
            obtain ⟨rfl⟩ := H
            go_wp2
            repeat (go_quiet (fail); try go_wp2)
            go_ret
            exact ⟨by first | rfl | (simp [errW_none, errW_some] <;> rfl) | (simp [*, errW_none, errW_some] <;> rfl), by repeat (first | (with_reducible first | exact HB.out | apply zd | apply zb | apply zc | refine zf ?_ GE202.out) | exact HB.out)⟩
           ·replace c14 := Bool.eq_false_iff.mpr c14
            subst c14
            have H1 : ((purl_isSum.f kj9 ((rd_T108 l0 x11_1).f1) x5_5).bind fun t203 => (if t203 = true then (if x11_1 > 0 then (if 0 ≤ (wrap64 (x11_1 - 1)) then (if (wrap64 (x11_1 - 1)) < (l0.length : Int) then (if ((Op.bytesLess (((rd_T108 l0 (wrap64 (x11_1 - 1))).f0).toList) ((rd_T108 l0 x11_1).f0).toList) = true) then (purl_CheckDigests.l0 kj9 l0 l0 (l0.length : Int) (wrap64 (x11_1 + 1))) else (some 10)) else (none)) else (none)) else (purl_CheckDigests.l0 kj9 l0 l0 (l0.length : Int) (wrap64 (x11_1 + 1)))) else (some 2))) = some r := by rw [if_neg (show ¬ (false = true) by decide)] at H; exact H
            clear H
            have H := H1
            clear H1
            replace H := zu.mp H
            obtain ⟨t203, A150, H⟩ := H
            replace H : (if t203 = true then (if x11_1 > 0 then (if 0 ≤ (wrap64 (x11_1 - 1)) then (if (wrap64 (x11_1 - 1)) < (l0.length : Int) then (if ((Op.bytesLess (((rd_T108 l0 (wrap64 (x11_1 - 1))).f0).toList) ((rd_T108 l0 x11_1).f0).toList) = true) then (purl_CheckDigests.l0 kj9 l0 l0 (l0.length : Int) (wrap64 (x11_1 + 1))) else (some 10)) else (none)) else (none)) else (purl_CheckDigests.l0 kj9 l0 l0 (l0.length : Int) (wrap64 (x11_1 + 1)))) else (some 2)) = some r := H
            have A15 := Aside0.mk A150
            clear A150
            by_cases c16 : t203 = true
            ·subst c16
             have H1 : (if x11_1 > 0 then (if 0 ≤ (wrap64 (x11_1 - 1)) then (if (wrap64 (x11_1 - 1)) < (l0.length : Int) then (if ((Op.bytesLess (((rd_T108 l0 (wrap64 (x11_1 - 1))).f0).toList) ((rd_T108 l0 x11_1).f0).toList) = true) then (purl_CheckDigests.l0 kj9 l0 l0 (l0.length : Int) (wrap64 (x11_1 + 1))) else (some 10)) else (none)) else (none)) else (purl_CheckDigests.l0 kj9 l0 l0 (l0.length : Int) (wrap64 (x11_1 + 1)))) = some r := by rw [if_pos rfl] at H; exact H
             clear H
             have H := H1
             clear H1
             by_cases c17 : x11_1 > 0
             ·rw [if_pos c17] at H
              have c17b0 : decide (0 < x11_1) = true := zk c17
              clear c17
              obtain ⟨ji18, hji18⟩ : ∃ j_ : Int, (wrap64 (x11_1 - 1)) = j_ := ⟨_, rfl⟩
              replace H : (if 0 ≤ (ji18) then (if (ji18) < (l0.length : Int) then (if ((Op.bytesLess (((rd_T108 l0 (ji18)).f0).toList) ((rd_T108 l0 x11_1).f0).toList) = true) then (purl_CheckDigests.l0 kj9 l0 l0 (l0.length : Int) (wrap64 (x11_1 + 1))) else (some 10)) else (none)) else (none)) = some r := by first | (rw [hji18] at H; exact H) | (simp only [hji18] at H ⊢; exact H)
              (try rw [hji18] at A15)
              have hji18w : (IntKind.i64.wrap (x11_1 - 1)) = ji18 := (i64_w _).trans hji18
              by_cases c19 : 0 ≤ (ji18)
              ·rw [if_pos c19] at H
               have c19b0 : decide (0 ≤ (ji18)) = true := zk c19
               clear c19
               by_cases c20 : (ji18) < (l0.length : Int)
               ·rw [if_pos c20] at H
                have c20b0 : decide ((ji18) < (l0.length : Int)) = true := zk c20
                clear c20
                by_cases c21 : ((Op.bytesLess (((rd_T108 l0 (ji18)).f0).toList) ((rd_T108 l0 x11_1).f0).toList) = true)
                ·rw [if_pos c21] at H
                 have c21b0 : (Op.bytesLess (((rd_T108 l0 (ji18)).f0).toList) ((rd_T108 l0 x11_1).f0).toList) = true := c21
                 clear c21
                 have H' := Aside0.mk H
                 clear H
                 have hcz22_0 : wc.cell? ⟨gb202, 0, none⟩ = some (.string ((rd_T108 l0 x11_1).f0)) := (ze BK202.out 0).trans rfl
                 have hcz22_1 : wc.cell? ⟨gb202, 1, none⟩ = some (.string ((rd_T108 l0 x11_1).f1)) := (ze BK202.out 1).trans rfl
                 have hfz22_0 := za BK202.out 0
                 have hfz22_1 := za BK202.out 1
                 go_wp2_with (first | (go_at_call 84; (with_reducible refine (purl_isSum.calls kj9 ((rd_T108 l0 x11_1).f1) x5_5 true _ A15.out).mono ?_); rintro e w' ⟨rfl, ⟨nd, rfl⟩⟩; (try first | exact ⟨rfl, _, World.drewN_drewN _ _ _⟩ | exact ⟨rfl, _, Eq.trans (World.drewN_drewN _ _ _) (congrArg (World.drewN _) (Nat.add_assoc _ _ _))⟩); have p204 : 0 ≤ ((ji18) : Int) := zj (by first | (with_reducible assumption) | assumption); have q204 : (ji18) < (l0.length : Int) := zj (by first | (with_reducible assumption) | assumption); obtain ⟨ad204, e204, hx204_0, hx204_1⟩ := at_T108 HR0.out (ji18) p204 q204; obtain rfl : ad201 = ad204 := (by injection e204); replace hx204_0 := (HB.out.cell (World.block_lt_of_cell? w _ hx204_0)).trans hx204_0; replace hx204_1 := (HB.out.cell (World.block_lt_of_cell? w _ hx204_1)).trans hx204_1; replace p204 := eq_true p204; replace q204 := eq_true q204))
                 repeat (go_quiet (first | (go_at_call 84; (with_reducible refine (purl_isSum.calls kj9 ((rd_T108 l0 x11_1).f1) x5_5 true _ A15.out).mono ?_); rintro e w' ⟨rfl, ⟨nd, rfl⟩⟩; (try first | exact ⟨rfl, _, World.drewN_drewN _ _ _⟩ | exact ⟨rfl, _, Eq.trans (World.drewN_drewN _ _ _) (congrArg (World.drewN _) (Nat.add_assoc _ _ _))⟩); have p204 : 0 ≤ ((ji18) : Int) := zj (by first | (with_reducible assumption) | assumption); have q204 : (ji18) < (l0.length : Int) := zj (by first | (with_reducible assumption) | assumption); obtain ⟨ad204, e204, hx204_0, hx204_1⟩ := at_T108 HR0.out (ji18) p204 q204; obtain rfl : ad201 = ad204 := (by injection e204); replace hx204_0 := (HB.out.cell (World.block_lt_of_cell? w _ hx204_0)).trans hx204_0; replace hx204_1 := (HB.out.cell (World.block_lt_of_cell? w _ hx204_1)).trans hx204_1; replace p204 := eq_true p204; replace q204 := eq_true q204)); try go_wp2_with (first | (go_at_call 84; (with_reducible refine (purl_isSum.calls kj9 ((rd_T108 l0 x11_1).f1) x5_5 true _ A15.out).mono ?_); rintro e w' ⟨rfl, ⟨nd, rfl⟩⟩; (try first | exact ⟨rfl, _, World.drewN_drewN _ _ _⟩ | exact ⟨rfl, _, Eq.trans (World.drewN_drewN _ _ _) (congrArg (World.drewN _) (Nat.add_assoc _ _ _))⟩); have p204 : 0 ≤ ((ji18) : Int) := zj (by first | (with_reducible assumption) | assumption); have q204 : (ji18) < (l0.length : Int) := zj (by first | (with_reducible assumption) | assumption); obtain ⟨ad204, e204, hx204_0, hx204_1⟩ := at_T108 HR0.out (ji18) p204 q204; obtain rfl : ad201 = ad204 := (by injection e204); replace hx204_0 := (HB.out.cell (World.block_lt_of_cell? w _ hx204_0)).trans hx204_0; replace hx204_1 := (HB.out.cell (World.block_lt_of_cell? w _ hx204_1)).trans hx204_1; replace p204 := eq_true p204; replace q204 := eq_true q204)))
                 go_roundg kj9
                 case measure => have := HK1.out; have := HJ5.out; have := HJ9.out; omega
                 case rel => exact ⟨(wrap64 (x11_1 + 1)), (by first | rfl | (simp; done) | (simp [*]; done)), H', ⟨by have := HK1.out; have := HJ5.out; have := HJ9.out; omega⟩, ⟨by repeat (first | (with_reducible first | exact HB.out | apply zd | apply zb | apply zc | refine zf ?_ GE202.out) | exact HB.out)⟩⟩
                ·rw [if_neg c21] at H
                 have c21b0 : (Op.bytesLess (((rd_T108 l0 (ji18)).f0).toList) ((rd_T108 l0 x11_1).f0).toList) = false := by simpa using c21
                 clear c21
                 obtain rfl := Option.some.inj H
                 simp only [Option.some.injEq, Prod.mk.injEq] at H
                 obtain ⟨rfl⟩ := H
                 have hcz23_0 : wc.cell? ⟨gb202, 0, none⟩ = some (.string ((rd_T108 l0 x11_1).f0)) := (ze BK202.out 0).trans rfl
                 have hcz23_1 : wc.cell? ⟨gb202, 1, none⟩ = some (.string ((rd_T108 l0 x11_1).f1)) := (ze BK202.out 1).trans rfl
                 have hfz23_0 := za BK202.out 0
                 have hfz23_1 := za BK202.out 1
                 go_wp2_with (first | (go_at_call 84; (with_reducible refine (purl_isSum.calls kj9 ((rd_T108 l0 x11_1).f1) x5_5 true _ A15.out).mono ?_); rintro e w' ⟨rfl, ⟨nd, rfl⟩⟩; (try first | exact ⟨rfl, _, World.drewN_drewN _ _ _⟩ | exact ⟨rfl, _, Eq.trans (World.drewN_drewN _ _ _) (congrArg (World.drewN _) (Nat.add_assoc _ _ _))⟩); have p204 : 0 ≤ ((ji18) : Int) := zj (by first | (with_reducible assumption) | assumption); have q204 : (ji18) < (l0.length : Int) := zj (by first | (with_reducible assumption) | assumption); obtain ⟨ad204, e204, hx204_0, hx204_1⟩ := at_T108 HR0.out (ji18) p204 q204; obtain rfl : ad201 = ad204 := (by injection e204); replace hx204_0 := (HB.out.cell (World.block_lt_of_cell? w _ hx204_0)).trans hx204_0; replace hx204_1 := (HB.out.cell (World.block_lt_of_cell? w _ hx204_1)).trans hx204_1; replace p204 := eq_true p204; replace q204 := eq_true q204))
                 repeat (go_quiet (first | (go_at_call 84; (with_reducible refine (purl_isSum.calls kj9 ((rd_T108 l0 x11_1).f1) x5_5 true _ A15.out).mono ?_); rintro e w' ⟨rfl, ⟨nd, rfl⟩⟩; (try first | exact ⟨rfl, _, World.drewN_drewN _ _ _⟩ | exact ⟨rfl, _, Eq.trans (World.drewN_drewN _ _ _) (congrArg (World.drewN _) (Nat.add_assoc _ _ _))⟩); have p204 : 0 ≤ ((ji18) : Int) := zj (by first | (with_reducible assumption) | assumption); have q204 : (ji18) < (l0.length : Int) := zj (by first | (with_reducible assumption) | assumption); obtain ⟨ad204, e204, hx204_0, hx204_1⟩ := at_T108 HR0.out (ji18) p204 q204; obtain rfl : ad201 = ad204 := (by injection e204); replace hx204_0 := (HB.out.cell (World.block_lt_of_cell? w _ hx204_0)).trans hx204_0; replace hx204_1 := (HB.out.cell (World.block_lt_of_cell? w _ hx204_1)).trans hx204_1; replace p204 := eq_true p204; replace q204 := eq_true q204)); try go_wp2_with (first | (go_at_call 84; (with_reducible refine (purl_isSum.calls kj9 ((rd_T108 l0 x11_1).f1) x5_5 true _ A15.out).mono ?_); rintro e w' ⟨rfl, ⟨nd, rfl⟩⟩; (try first | exact ⟨rfl, _, World.drewN_drewN _ _ _⟩ | exact ⟨rfl, _, Eq.trans (World.drewN_drewN _ _ _) (congrArg (World.drewN _) (Nat.add_assoc _ _ _))⟩); have p204 : 0 ≤ ((ji18) : Int) := zj (by first | (with_reducible assumption) | assumption); have q204 : (ji18) < (l0.length : Int) := zj (by first | (with_reducible assumption) | assumption); obtain ⟨ad204, e204, hx204_0, hx204_1⟩ := at_T108 HR0.out (ji18) p204 q204; obtain rfl : ad201 = ad204 := (by injection e204); replace hx204_0 := (HB.out.cell (World.block_lt_of_cell? w _ hx204_0)).trans hx204_0; replace hx204_1 := (HB.out.cell (World.block_lt_of_cell? w _ hx204_1)).trans hx204_1; replace p204 := eq_true p204; replace q204 := eq_true q204)))
                 go_ret
                 exact ⟨by first | rfl | (simp [errW_none, errW_some] <;> rfl) | (simp only [← hji18]; first | rfl | (simp [errW_none, errW_some] <;> rfl)) | (simp [*, errW_none, errW_some] <;> rfl), by repeat (first | (with_reducible first | exact HB.out | apply zd | apply zb | apply zc | refine zf ?_ GE202.out) | exact HB.out)⟩
               ·rw [if_neg c20] at H
                exact absurd H (by simp)
              ·rw [if_neg c19] at H
               exact absurd H (by simp)
             ·rw [if_neg c17] at H
              have c17b0 : decide (0 < x11_1) = false := zl c17
              clear c17
              have H' := Aside0.mk H
              clear H
              have hcz24_0 : wc.cell? ⟨gb202, 0, none⟩ = some (.string ((rd_T108 l0 x11_1).f0)) := (ze BK202.out 0).trans rfl
              have hcz24_1 : wc.cell? ⟨gb202, 1, none⟩ = some (.string ((rd_T108 l0 x11_1).f1)) := (ze BK202.out 1).trans rfl
              have hfz24_0 := za BK202.out 0
              have hfz24_1 := za BK202.out 1
              go_wp2_with (first | (go_at_call 84; (with_reducible refine (purl_isSum.calls kj9 ((rd_T108 l0 x11_1).f1) x5_5 true _ A15.out).mono ?_); rintro e w' ⟨rfl, ⟨nd, rfl⟩⟩; (try first | exact ⟨rfl, _, World.drewN_drewN _ _ _⟩ | exact ⟨rfl, _, Eq.trans (World.drewN_drewN _ _ _) (congrArg (World.drewN _) (Nat.add_assoc _ _ _))⟩)))
              repeat (go_quiet (first | (go_at_call 84; (with_reducible refine (purl_isSum.calls kj9 ((rd_T108 l0 x11_1).f1) x5_5 true _ A15.out).mono ?_); rintro e w' ⟨rfl, ⟨nd, rfl⟩⟩; (try first | exact ⟨rfl, _, World.drewN_drewN _ _ _⟩ | exact ⟨rfl, _, Eq.trans (World.drewN_drewN _ _ _) (congrArg (World.drewN _) (Nat.add_assoc _ _ _))⟩))); try go_wp2_with (first | (go_at_call 84; (with_reducible refine (purl_isSum.calls kj9 ((rd_T108 l0 x11_1).f1) x5_5 true _ A15.out).mono ?_); rintro e w' ⟨rfl, ⟨nd, rfl⟩⟩; (try first | exact ⟨rfl, _, World.drewN_drewN _ _ _⟩ | exact ⟨rfl, _, Eq.trans (World.drewN_drewN _ _ _) (congrArg (World.drewN _) (Nat.add_assoc _ _ _))⟩))))
              go_roundg kj9
              case measure => have := HK1.out; have := HJ5.out; have := HJ9.out; omega
              case rel => exact ⟨(wrap64 (x11_1 + 1)), (by first | rfl | (simp; done) | (simp [*]; done)), H', ⟨by have := HK1.out; have := HJ5.out; have := HJ9.out; omega⟩, ⟨by repeat (first | (with_reducible first | exact HB.out | apply zd | apply zb | apply zc | refine zf ?_ GE202.out) | exact HB.out)⟩⟩
            ·replace c16 := Bool.eq_false_iff.mpr c16
             subst c16
             have H1 : (some 2) = some r := by rw [if_neg (show ¬ (false = true) by decide)] at H; exact H
             clear H
             have H := H1
             clear H1
             obtain rfl := Option.some.inj H
             simp only [Option.some.injEq, Prod.mk.injEq] at H
             obtain ⟨rfl⟩ := H
             have hcz25_0 : wc.cell? ⟨gb202, 0, none⟩ = some (.string ((rd_T108 l0 x11_1).f0)) := (ze BK202.out 0).trans rfl
             have hcz25_1 : wc.cell? ⟨gb202, 1, none⟩ = some (.string ((rd_T108 l0 x11_1).f1)) := (ze BK202.out 1).trans rfl
             have hfz25_0 := za BK202.out 0
             have hfz25_1 := za BK202.out 1
             go_wp2_with (first | (go_at_call 84; (with_reducible refine (purl_isSum.calls kj9 ((rd_T108 l0 x11_1).f1) x5_5 false _ A15.out).mono ?_); rintro e w' ⟨rfl, ⟨nd, rfl⟩⟩; (try first | exact ⟨rfl, _, World.drewN_drewN _ _ _⟩ | exact ⟨rfl, _, Eq.trans (World.drewN_drewN _ _ _) (congrArg (World.drewN _) (Nat.add_assoc _ _ _))⟩)))
             repeat (go_quiet (first | (go_at_call 84; (with_reducible refine (purl_isSum.calls kj9 ((rd_T108 l0 x11_1).f1) x5_5 false _ A15.out).mono ?_); rintro e w' ⟨rfl, ⟨nd, rfl⟩⟩; (try first | exact ⟨rfl, _, World.drewN_drewN _ _ _⟩ | exact ⟨rfl, _, Eq.trans (World.drewN_drewN _ _ _) (congrArg (World.drewN _) (Nat.add_assoc _ _ _))⟩))); try go_wp2_with (first | (go_at_call 84; (with_reducible refine (purl_isSum.calls kj9 ((rd_T108 l0 x11_1).f1) x5_5 false _ A15.out).mono ?_); rintro e w' ⟨rfl, ⟨nd, rfl⟩⟩; (try first | exact ⟨rfl, _, World.drewN_drewN _ _ _⟩ | exact ⟨rfl, _, Eq.trans (World.drewN_drewN _ _ _) (congrArg (World.drewN _) (Nat.add_assoc _ _ _))⟩))))
             go_ret
             exact ⟨by first | rfl | (simp [errW_none, errW_some] <;> rfl) | (simp [*, errW_none, errW_some] <;> rfl), by repeat (first | (with_reducible first | exact HB.out | apply zd | apply zb | apply zc | refine zf ?_ GE202.out) | exact HB.out)⟩
      ·rw [if_neg c5] at H
       exact absurd H (by simp)
     ·rw [if_neg c4] at H
      exact absurd H (by simp)
    ·rw [if_neg c3] at H
     have c3b0 : decide (x11_1 < (l0.length : Int)) = false := zl c3
     clear c3
     obtain rfl := Option.some.inj H
     simp only [Option.some.injEq, Prod.mk.injEq] at H
     obtain ⟨rfl⟩ := H
     go_wp2
     repeat (go_quiet (fail); try go_wp2)
     go_ret
     exact ⟨by first | rfl | (simp [errW_none, errW_some] <;> rfl) | (simp [*, errW_none, errW_some] <;> rfl), by repeat (first | (with_reducible first | exact HB.out | apply zd | apply zb | apply zc) | exact HB.out)⟩
mutual
def purl_Agree.l0 : Nat → List (S108) → Int → List (S108) → Int → Int → Option (Int × Int)
 | 0, _, _, _, _, _ => none
 | k + 1, x1, x8, x23, x24, x25 => if x25 < x24 then (if 0 ≤ x25 then (if x25 < (x23.length : Int) then (purl_Agree.l1 k x1 x8 x23 x24 x25 x1 (x1.length : Int) 0 ((rd_T108 x23 x25).f0) ((rd_T108 x23 x25).f1)) else (none)) else (none)) else (some (x8, 0))
def purl_Agree.l1 : Nat → List (S108) → Int → List (S108) → Int → Int → List (S108) → Int → Int → ByteArray → ByteArray → Option (Int × Int)
 | 0, _, _, _, _, _, _, _, _, _, _ => none
 | k + 1, x1, x8, x23, x24, x25, x29, x30, x31, x209000, x209001 => if x31 < x30 then (if 0 ≤ x31 then (if x31 < (x29.length : Int) then (if x209000.toList = ((rd_T108 x29 x31).f0).toList then (if x209001.toList = ((rd_T108 x29 x31).f1).toList then (purl_Agree.l1 k x1 1 x23 x24 x25 x29 x30 (wrap64 (x31 + 1)) x209000 x209001) else (some ((-1), 0))) else (purl_Agree.l1 k x1 x8 x23 x24 x25 x29 x30 (wrap64 (x31 + 1)) x209000 x209001)) else (none)) else (none)) else (purl_Agree.l0 k x1 x8 x23 x24 (wrap64 (x25 + 1)))
end
def purl_Agree.f (k : Nat) (l0 : List (S108)) (l1 : List (S108)) : Option (Int × Int) := (purl_CheckDigests.f k l0).bind fun t205 => (if t205 = 0 then ((purl_CheckDigests.f k l1).bind fun t206 => (if t206 = 0 then (purl_Agree.l0 k l1 0 l0 (l0.length : Int) 0) else (some (0, t206)))) else (some (0, t205)))
set_option maxHeartbeats 8000000 in
set_option maxRecDepth 100000 in
theorem purl_Agree.calls (k : Nat) (A0 : Option Addr) (c0 : Nat) (l0 : List (S108)) (A1 : Option Addr) (c1 : Nat) (l1 : List (S108)) (r1 : Int) (r2 : Int) (w : World) (hr0 : Kd.C k108 w A0 l0.length l0) (hc0 : l0.length ≤ c0) (hr1 : Kd.C k108 w A1 l1.length l1) (hc1 : l1.length ≤ c1) (h : purl_Agree.f k l0 l1 = some (r1, r2)) :
  Calls Tryd.prog 33 #[.slice A0 l0.length c0, .slice A1 l1.length c1] w fun e w' => e = .returned (.tuple #[.int .i64 r1, .int .i64 r2]) ∧ Below w.heap.size w w' := by
 have hu108 := Tryd.underlying108
 have HR0 := Aside0.mk hr0
 have HC0 := Aside0.mk hc0
 clear hr0 hc0
 have HR1 := Aside0.mk hr1
 have HC1 := Aside0.mk hc1
 clear hr1 hc1
 have HB := Aside0.mk (Below.refl w.heap.size w)
 have H : ((purl_CheckDigests.f k l0).bind fun t205 => (if t205 = 0 then ((purl_CheckDigests.f k l1).bind fun t206 => (if t206 = 0 then (purl_Agree.l0 k l1 0 l0 (l0.length : Int) 0) else (some (0, t206)))) else (some (0, t205)))) = some (r1, r2) := h
 clear h
 replace H := zu.mp H
 obtain ⟨t205, A30, H⟩ := H
 replace H : (if t205 = 0 then ((purl_CheckDigests.f k l1).bind fun t206 => (if t206 = 0 then (purl_Agree.l0 k l1 0 l0 (l0.length : Int) 0) else (some (0, t206)))) else (some (0, t205))) = some (r1, r2) := H
 have A3 := Aside0.mk A30
 clear A30
 by_cases c4 : t205 = 0
 ·rw [if_pos c4] at H
  have c4b0 : (t205 == 0) = true := beq_iff_eq.mpr c4
  have c4b1 : (t205 != 0) = false := bne_eq_false_iff_eq.mpr c4
  clear c4
  replace H := zu.mp H
  obtain ⟨t206, A50, H⟩ := H
  replace H : (if t206 = 0 then (purl_Agree.l0 k l1 0 l0 (l0.length : Int) 0) else (some (0, t206))) = some (r1, r2) := H
  have A5 := Aside0.mk A50
  clear A50
  by_cases c6 : t206 = 0
  ·rw [if_pos c6] at H
   have c6b0 : (t206 == 0) = true := beq_iff_eq.mpr c6
   have c6b1 : (t206 != 0) = false := bne_eq_false_iff_eq.mpr c6
   clear c6
   have H' := Aside0.mk H
   clear H
   go_enter Tryd.func33, Tryd.ntmps33
   go_wp2_with (first | ((with_reducible refine gate_callee (f := 37) rfl ?_); refine goesL_ (some 14) rfl rfl Tryd.func37 (by kernel_rfl) rfl #[.slice A0 l0.length c0] rfl (by (try simp only [List.map_toArray, List.map_cons, List.map_nil]); first | done | rfl | (simp only [List.length_drop, List.length_take]; rfl)) ?_; (with_reducible refine (purl_CheckDigests.calls k _ _ l0 t205 _ ?side1 ?side2 A3.out).mono ?_); (case side1 => repeat (first | exact HR0.out | (with_reducible refine zF ?_ _) | (with_reducible refine zE ?_ _) | (with_reducible refine zG ?_))); (case side2 => exact HC0.out); rintro e w7 ⟨rfl, hb⟩; refine ⟨_, rfl, ?_⟩; have n0_ := Aside0.mk (zv (by repeat (first | (with_reducible first | exact HB.out | apply zd | apply zb | apply zc) | exact HB.out)) hb); clear HB; have HB := n0_; clear n0_; (try clear hb); (try clear hb2); (try clear hk); (try clear hi)) | ((with_reducible refine gate_callee (f := 37) rfl ?_); refine goesL_ (some 19) rfl rfl Tryd.func37 (by kernel_rfl) rfl #[.slice A1 l1.length c1] rfl (by (try simp only [List.map_toArray, List.map_cons, List.map_nil]); first | done | rfl | (simp only [List.length_drop, List.length_take]; rfl)) ?_; (with_reducible refine (purl_CheckDigests.calls k _ _ l1 t206 _ ?side1 ?side2 A5.out).mono ?_); (case side1 => repeat (first | exact (Kd.C_below HR1.out HB.out) | (with_reducible refine zF ?_ _) | (with_reducible refine zE ?_ _) | (with_reducible refine zG ?_))); (case side2 => exact HC1.out); rintro e w8 ⟨rfl, hb⟩; refine ⟨_, rfl, ?_⟩; have n0_ := Aside0.mk (zv (by repeat (first | (with_reducible first | exact HB.out | apply zd | apply zb | apply zc) | exact HB.out)) hb); clear HB; have HB := n0_; clear n0_; (try clear hb); (try clear hb2); (try clear hk); (try clear hi)))
   go_loopg [8, 25] k (fun kq v8 v25 w' => ∃ (x8_1 : Int) (x25_1 : Int), v8 = .int .i64 x8_1 ∧ v25 = .int .i64 x25_1 ∧ Aside0 (purl_Agree.l0 kq l1 x8_1 l0 (l0.length : Int) x25_1 = some (r1, r2)) ∧ Aside0 (kq ≤ k) ∧ Aside0 (Below w.heap.size w w'))
   case atStart => exact ⟨(0), (0), (by first | rfl | (simp; done) | (simp [*]; done)), (by first | rfl | (simp; done) | (simp [*]; done)), H', ⟨Nat.le_refl _⟩, ⟨by repeat (first | (with_reducible first | exact HB.out | apply zd | apply zb | apply zc) | exact HB.out)⟩⟩
   case round =>
    clear H'
    try clear c1
    try clear p2
    try clear c3
    try clear c4
    try clear c4b0
    try clear c4b1
    try clear c6
    try clear c6b0
    try clear c6b1
    obtain ⟨x8_1, x25_1, rfl, rfl, HA, HK1, HB⟩ := hrel
    cases gk with
    | zero => exact absurd HA.out (by simp [purl_Agree.l0])
    | succ k1 =>
     have H := HA.out
     clear HA
     simp only [purl_Agree.l0] at H
     by_cases c9 : x25_1 < (l0.length : Int)
     ·rw [if_pos c9] at H
      have c9b0 : decide (x25_1 < (l0.length : Int)) = true := zk c9
      clear c9
      by_cases c10 : 0 ≤ x25_1
      ·rw [if_pos c10] at H
       have c10b0 : decide (0 ≤ x25_1) = true := zk c10
       clear c10
       by_cases c11 : x25_1 < (l0.length : Int)
       ·rw [if_pos c11] at H
        have c11b0 : decide (x25_1 < (l0.length : Int)) = true := zk c11
        clear c11
        have H' := Aside0.mk H
        clear H
        have p207 : 0 ≤ (x25_1 : Int) := zj (by first | (with_reducible assumption) | assumption)
        have q207 : x25_1 < (l0.length : Int) := zj (by first | (with_reducible assumption) | assumption)
        obtain ⟨ad207, e207, hx207_0, hx207_1⟩ := at_T108 HR0.out x25_1 p207 q207
        cases e207
        replace hx207_0 := (HB.out.cell (World.block_lt_of_cell? w _ hx207_0)).trans hx207_0
        replace hx207_1 := (HB.out.cell (World.block_lt_of_cell? w _ hx207_1)).trans hx207_1
        replace p207 := eq_true p207
        replace q207 := eq_true q207
        go_wp2_with (first | ((with_reducible refine gate_dst (N := 10) rfl ?_); refine box_event ?hg (N := 10) ?hd (cs := #[.string (⟨#[]⟩ : ByteArray), .string (⟨#[]⟩ : ByteArray)]) (t := 108) ?hr ?_; (case hd => rfl); (case hg => rfl); (case hr => first | (go_simp; done) | (go_simp; rfl)); intro gb208 hg w12 hbox hb; have n0_ := Aside0.mk (zv (by repeat (first | (with_reducible first | exact HB.out | apply zd | apply zb | apply zc) | exact HB.out)) hb); have n1_ := Aside0.mk (hbox); have n2_ := Aside0.mk ((by rw [hg]; exact (zz (by repeat (first | (with_reducible first | exact HB.out | apply zd | apply zb | apply zc) | exact HB.out))) : w.heap.size ≤ gb208)); have n3_ := Aside0.mk ((by rw [hg]; exact (zz (by repeat (first | (with_reducible first | exact HB.out | apply zd | apply zb | apply zc) | exact HB.out))) : w.heap.size ≤ gb208)); clear HB; have HB := n0_; have BK208 := n1_; have GW208 := n2_; have GE208 := n3_; clear n0_ n1_ n2_ n3_; clear hb hbox hg; have hcz13_0 : w12.cell? ⟨gb208, 0, none⟩ = some (.string (⟨#[]⟩ : ByteArray)) := (ze BK208.out 0).trans rfl; have hcz13_1 : w12.cell? ⟨gb208, 1, none⟩ = some (.string (⟨#[]⟩ : ByteArray)) := (ze BK208.out 1).trans rfl; have hfz13_0 := za BK208.out 0; have hfz13_1 := za BK208.out 1))
        go_loopg [8, 31] k1 (fun kq v8 v31 w' => ∃ (x8_2 : Int) (x31_2 : Int), v8 = .int .i64 x8_2 ∧ v31 = .int .i64 x31_2 ∧ Aside0 (purl_Agree.l1 kq l1 x8_2 l0 (l0.length : Int) x25_1 l1 (l1.length : Int) x31_2 ((rd_T108 l0 x25_1).f0) ((rd_T108 l0 x25_1).f1) = some (r1, r2)) ∧ Aside0 (kq ≤ k1) ∧ Aside0 (w'.heap[gb208]? = some (.cells #[.string ((rd_T108 l0 x25_1).f0), .string ((rd_T108 l0 x25_1).f1)] 108 (0, 0))) ∧ Aside0 (Below w.heap.size w w'))
        case atStart => exact ⟨(x8_1), (0), (by first | rfl | (simp; done) | (simp [*]; done)), (by first | rfl | (simp; done) | (simp [*]; done)), H', ⟨Nat.le_refl _⟩, ⟨by (with_reducible repeat (first | refine zg ?_ _ | refine zi ?_ | refine zh ?_ _)); refine zy (cs := #[.string ((rd_T108 l0 x25_1).f0), .string (⟨#[]⟩ : ByteArray)]) ?_ 1 _ rfl; (with_reducible repeat (first | refine zg ?_ _ | refine zi ?_ | refine zh ?_ _)); refine zy (cs := #[.string (⟨#[]⟩ : ByteArray), .string (⟨#[]⟩ : ByteArray)]) ?_ 0 _ rfl; (with_reducible repeat (first | refine zg ?_ _ | refine zi ?_ | refine zh ?_ _)); exact BK208.out⟩, ⟨by repeat (first | (with_reducible first | exact HB.out | apply zd | apply zb | apply zc | refine zf ?_ GE208.out) | exact HB.out)⟩⟩
        case round =>
         clear H'
         try clear c1
         try clear p2
         try clear q2
         try clear hx2
         try clear c3
         try clear c4
         try clear c4b0
         try clear c4b1
         try clear c6
         try clear c6b0
         try clear c6b1
         try clear c9
         try clear c9b0
         try clear c10
         try clear c10b0
         try clear c11
         try clear c11b0
         try clear hcz13_0
         try clear hcz13_1
         try clear hfz13_0
         try clear hfz13_1
         try clear hx207_0
         try clear hx207_1
         try clear p2
         try clear p207
         try clear q207
         obtain ⟨x8_2, x31_2, rfl, rfl, HA, HK2, BK208, HB⟩ := hrel
         cases gk with
         | zero => exact absurd HA.out (by simp [purl_Agree.l1])
         | succ k2 =>
          have H := HA.out
          clear HA
          simp only [purl_Agree.l1] at H
          by_cases c14 : x31_2 < (l1.length : Int)
          ·rw [if_pos c14] at H
           have c14b0 : decide (x31_2 < (l1.length : Int)) = true := zk c14
           clear c14
           by_cases c15 : 0 ≤ x31_2
           ·rw [if_pos c15] at H
            have c15b0 : decide (0 ≤ x31_2) = true := zk c15
            clear c15
            by_cases c16 : x31_2 < (l1.length : Int)
            ·rw [if_pos c16] at H
             have c16b0 : decide (x31_2 < (l1.length : Int)) = true := zk c16
             clear c16
             by_cases c17 : ((rd_T108 l0 x25_1).f0).toList = ((rd_T108 l1 x31_2).f0).toList
             ·rw [if_pos c17] at H
              have c17b0 : (((rd_T108 l0 x25_1).f0).toList == ((rd_T108 l1 x31_2).f0).toList) = true := beq_iff_eq.mpr c17
              have c17b1 : (((rd_T108 l0 x25_1).f0).toList != ((rd_T108 l1 x31_2).f0).toList) = false := bne_eq_false_iff_eq.mpr c17
              clear c17
              by_cases c18 : ((rd_T108 l0 x25_1).f1).toList = ((rd_T108 l1 x31_2).f1).toList
              ·rw [if_pos c18] at H
               have c18b0 : (((rd_T108 l0 x25_1).f1).toList == ((rd_T108 l1 x31_2).f1).toList) = true := beq_iff_eq.mpr c18
               have c18b1 : (((rd_T108 l0 x25_1).f1).toList != ((rd_T108 l1 x31_2).f1).toList) = false := bne_eq_false_iff_eq.mpr c18
               clear c18
               have H' := Aside0.mk H
               clear H
               have p209 : 0 ≤ (x31_2 : Int) := zj (by first | (with_reducible assumption) | assumption)
               have q209 : x31_2 < (l1.length : Int) := zj (by first | (with_reducible assumption) | assumption)
               obtain ⟨ad209, e209, hx209_0, hx209_1⟩ := at_T108 HR1.out x31_2 p209 q209
               cases e209
               replace hx209_0 := (HB.out.cell (World.block_lt_of_cell? w _ hx209_0)).trans hx209_0
               replace hx209_1 := (HB.out.cell (World.block_lt_of_cell? w _ hx209_1)).trans hx209_1
               replace p209 := eq_true p209
               replace q209 := eq_true q209
               go_wp2_with (first | ((with_reducible refine gate_dst (N := 12) rfl ?_); refine box_event ?hg (N := 12) ?hd (cs := #[.string (⟨#[]⟩ : ByteArray), .string (⟨#[]⟩ : ByteArray)]) (t := 108) ?hr ?_; (case hd => rfl); (case hg => rfl); (case hr => first | (go_simp; done) | (go_simp; rfl)); intro gb210 hg w19 hbox hb; have n0_ := Aside0.mk (zw (g := gb208) (o := .cells #[.string ((rd_T108 l0 x25_1).f0), .string ((rd_T108 l0 x25_1).f1)] 108 (0, 0)) (by (with_reducible repeat (first | refine zg ?_ _ | refine zi ?_ | refine zh ?_ _)); exact BK208.out) hb); have n1_ := Aside0.mk (zv (by repeat (first | (with_reducible first | exact HB.out | apply zd | apply zb | apply zc | refine zf ?_ GE208.out) | exact HB.out)) hb); have n2_ := Aside0.mk (hbox); have n3_ := Aside0.mk ((by rw [hg]; exact (zz (by repeat (first | (with_reducible first | exact HB.out | apply zd | apply zb | apply zc | refine zf ?_ GE208.out) | exact HB.out))) : w.heap.size ≤ gb210)); have n4_ := Aside0.mk ((by rw [hg]; exact (zz (by repeat (first | (with_reducible first | exact HB.out | apply zd | apply zb | apply zc | refine zf ?_ GE208.out) | exact HB.out))) : w.heap.size ≤ gb210)); have n5_ := Aside0.mk ((by rw [hg]; exact Nat.ne_of_lt (zA (g := gb208) (o := .cells #[.string ((rd_T108 l0 x25_1).f0), .string ((rd_T108 l0 x25_1).f1)] 108 (0, 0)) (by (with_reducible repeat (first | refine zg ?_ _ | refine zi ?_ | refine zh ?_ _)); exact BK208.out)) : gb208 ≠ gb210)); have n6_ := Aside0.mk ((by rw [hg]; exact Nat.ne_of_gt (zA (g := gb208) (o := .cells #[.string ((rd_T108 l0 x25_1).f0), .string ((rd_T108 l0 x25_1).f1)] 108 (0, 0)) (by (with_reducible repeat (first | refine zg ?_ _ | refine zi ?_ | refine zh ?_ _)); exact BK208.out)) : gb210 ≠ gb208)); clear BK208; clear HB; have BK208 := n0_; have HB := n1_; have BK210 := n2_; have GW210 := n3_; have GE210 := n4_; have NB208_210 := n5_; have NB210_208 := n6_; clear n0_ n1_ n2_ n3_ n4_ n5_ n6_; clear hb hbox hg; have hnb20 := NB210_208.out; have hnc20 := NB208_210.out; have hcz21_0 : w19.cell? ⟨gb210, 0, none⟩ = some (.string (⟨#[]⟩ : ByteArray)) := (ze BK210.out 0).trans rfl; have hcz21_1 : w19.cell? ⟨gb210, 1, none⟩ = some (.string (⟨#[]⟩ : ByteArray)) := (ze BK210.out 1).trans rfl; have hfz21_0 := za BK210.out 0; have hfz21_1 := za BK210.out 1; have hcz22_0 : w19.cell? ⟨gb208, 0, none⟩ = some (.string ((rd_T108 l0 x25_1).f0)) := (ze BK208.out 0).trans rfl; have hcz22_1 : w19.cell? ⟨gb208, 1, none⟩ = some (.string ((rd_T108 l0 x25_1).f1)) := (ze BK208.out 1).trans rfl; have hfz22_0 := za BK208.out 0; have hfz22_1 := za BK208.out 1))
               go_roundg k2
               case measure => have := HK1.out; have := HK2.out; omega
               case rel => exact ⟨(1), (wrap64 (x31_2 + 1)), (by first | rfl | (simp; done) | (simp [*]; done)), (by first | rfl | (simp; done) | (simp [*]; done)), H', ⟨by have := HK1.out; have := HK2.out; omega⟩, ⟨by (with_reducible repeat (first | refine zg ?_ _ | refine zi ?_ | refine zh ?_ _)); refine zx ?_ NB208_210.out _; (with_reducible repeat (first | refine zg ?_ _ | refine zi ?_ | refine zh ?_ _)); refine zx ?_ NB208_210.out _; (with_reducible repeat (first | refine zg ?_ _ | refine zi ?_ | refine zh ?_ _)); exact BK208.out⟩, ⟨by repeat (first | (with_reducible first | exact HB.out | apply zd | apply zb | apply zc | refine zf ?_ GE208.out | refine zf ?_ GE210.out) | exact HB.out)⟩⟩
              ·rw [if_neg c18] at H
               have c18b0 : (((rd_T108 l0 x25_1).f1).toList == ((rd_T108 l1 x31_2).f1).toList) = false := beq_eq_false_iff_ne.mpr c18
               have c18b1 : (((rd_T108 l0 x25_1).f1).toList != ((rd_T108 l1 x31_2).f1).toList) = true := bne_iff_ne.mpr c18
               simp only [Option.some.injEq, Prod.mk.injEq] at H
               obtain ⟨rfl, rfl⟩ := H
               have p209 : 0 ≤ (x31_2 : Int) := zj (by first | (with_reducible assumption) | assumption)
               have q209 : x31_2 < (l1.length : Int) := zj (by first | (with_reducible assumption) | assumption)
               obtain ⟨ad209, e209, hx209_0, hx209_1⟩ := at_T108 HR1.out x31_2 p209 q209
               cases e209
               replace hx209_0 := (HB.out.cell (World.block_lt_of_cell? w _ hx209_0)).trans hx209_0
               replace hx209_1 := (HB.out.cell (World.block_lt_of_cell? w _ hx209_1)).trans hx209_1
               replace p209 := eq_true p209
               replace q209 := eq_true q209
               go_wp2_with (first | ((with_reducible refine gate_dst (N := 12) rfl ?_); refine box_event ?hg (N := 12) ?hd (cs := #[.string (⟨#[]⟩ : ByteArray), .string (⟨#[]⟩ : ByteArray)]) (t := 108) ?hr ?_; (case hd => rfl); (case hg => rfl); (case hr => first | (go_simp; done) | (go_simp; rfl)); intro gb210 hg w23 hbox hb; have n0_ := Aside0.mk (zw (g := gb208) (o := .cells #[.string ((rd_T108 l0 x25_1).f0), .string ((rd_T108 l0 x25_1).f1)] 108 (0, 0)) (by (with_reducible repeat (first | refine zg ?_ _ | refine zi ?_ | refine zh ?_ _)); exact BK208.out) hb); have n1_ := Aside0.mk (zv (by repeat (first | (with_reducible first | exact HB.out | apply zd | apply zb | apply zc | refine zf ?_ GE208.out) | exact HB.out)) hb); have n2_ := Aside0.mk (hbox); have n3_ := Aside0.mk ((by rw [hg]; exact (zz (by repeat (first | (with_reducible first | exact HB.out | apply zd | apply zb | apply zc | refine zf ?_ GE208.out) | exact HB.out))) : w.heap.size ≤ gb210)); have n4_ := Aside0.mk ((by rw [hg]; exact (zz (by repeat (first | (with_reducible first | exact HB.out | apply zd | apply zb | apply zc | refine zf ?_ GE208.out) | exact HB.out))) : w.heap.size ≤ gb210)); have n5_ := Aside0.mk ((by rw [hg]; exact Nat.ne_of_lt (zA (g := gb208) (o := .cells #[.string ((rd_T108 l0 x25_1).f0), .string ((rd_T108 l0 x25_1).f1)] 108 (0, 0)) (by (with_reducible repeat (first | refine zg ?_ _ | refine zi ?_ | refine zh ?_ _)); exact BK208.out)) : gb208 ≠ gb210)); have n6_ := Aside0.mk ((by rw [hg]; exact Nat.ne_of_gt (zA (g := gb208) (o := .cells #[.string ((rd_T108 l0 x25_1).f0), .string ((rd_T108 l0 x25_1).f1)] 108 (0, 0)) (by (with_reducible repeat (first | refine zg ?_ _ | refine zi ?_ | refine zh ?_ _)); exact BK208.out)) : gb210 ≠ gb208)); clear BK208; clear HB; have BK208 := n0_; have HB := n1_; have BK210 := n2_; have GW210 := n3_; have GE210 := n4_; have NB208_210 := n5_; have NB210_208 := n6_; clear n0_ n1_ n2_ n3_ n4_ n5_ n6_; clear hb hbox hg; have hnb24 := NB210_208.out; have hnc24 := NB208_210.out; have hcz25_0 : w23.cell? ⟨gb210, 0, none⟩ = some (.string (⟨#[]⟩ : ByteArray)) := (ze BK210.out 0).trans rfl; have hcz25_1 : w23.cell? ⟨gb210, 1, none⟩ = some (.string (⟨#[]⟩ : ByteArray)) := (ze BK210.out 1).trans rfl; have hfz25_0 := za BK210.out 0; have hfz25_1 := za BK210.out 1; have hcz26_0 : w23.cell? ⟨gb208, 0, none⟩ = some (.string ((rd_T108 l0 x25_1).f0)) := (ze BK208.out 0).trans rfl; have hcz26_1 : w23.cell? ⟨gb208, 1, none⟩ = some (.string ((rd_T108 l0 x25_1).f1)) := (ze BK208.out 1).trans rfl; have hfz26_0 := za BK208.out 0; have hfz26_1 := za BK208.out 1))
               go_ret2
               exact ⟨by first | rfl | (simp [errW_none, errW_some] <;> rfl) | (simp [*, errW_none, errW_some] <;> rfl), by repeat (first | (with_reducible first | exact HB.out | apply zd | apply zb | apply zc | refine zf ?_ GE208.out | refine zf ?_ GE210.out) | exact HB.out)⟩
             ·rw [if_neg c17] at H
              have c17b0 : (((rd_T108 l0 x25_1).f0).toList == ((rd_T108 l1 x31_2).f0).toList) = false := beq_eq_false_iff_ne.mpr c17
              have c17b1 : (((rd_T108 l0 x25_1).f0).toList != ((rd_T108 l1 x31_2).f0).toList) = true := bne_iff_ne.mpr c17
              have H' := Aside0.mk H
              clear H
              have p209 : 0 ≤ (x31_2 : Int) := zj (by first | (with_reducible assumption) | assumption)
              have q209 : x31_2 < (l1.length : Int) := zj (by first | (with_reducible assumption) | assumption)
              obtain ⟨ad209, e209, hx209_0, hx209_1⟩ := at_T108 HR1.out x31_2 p209 q209
              cases e209
              replace hx209_0 := (HB.out.cell (World.block_lt_of_cell? w _ hx209_0)).trans hx209_0
              replace hx209_1 := (HB.out.cell (World.block_lt_of_cell? w _ hx209_1)).trans hx209_1
              replace p209 := eq_true p209
              replace q209 := eq_true q209
              go_wp2_with (first | ((with_reducible refine gate_dst (N := 12) rfl ?_); refine box_event ?hg (N := 12) ?hd (cs := #[.string (⟨#[]⟩ : ByteArray), .string (⟨#[]⟩ : ByteArray)]) (t := 108) ?hr ?_; (case hd => rfl); (case hg => rfl); (case hr => first | (go_simp; done) | (go_simp; rfl)); intro gb210 hg w27 hbox hb; have n0_ := Aside0.mk (zw (g := gb208) (o := .cells #[.string ((rd_T108 l0 x25_1).f0), .string ((rd_T108 l0 x25_1).f1)] 108 (0, 0)) (by (with_reducible repeat (first | refine zg ?_ _ | refine zi ?_ | refine zh ?_ _)); exact BK208.out) hb); have n1_ := Aside0.mk (zv (by repeat (first | (with_reducible first | exact HB.out | apply zd | apply zb | apply zc | refine zf ?_ GE208.out) | exact HB.out)) hb); have n2_ := Aside0.mk (hbox); have n3_ := Aside0.mk ((by rw [hg]; exact (zz (by repeat (first | (with_reducible first | exact HB.out | apply zd | apply zb | apply zc | refine zf ?_ GE208.out) | exact HB.out))) : w.heap.size ≤ gb210)); have n4_ := Aside0.mk ((by rw [hg]; exact (zz (by repeat (first | (with_reducible first | exact HB.out | apply zd | apply zb | apply zc | refine zf ?_ GE208.out) | exact HB.out))) : w.heap.size ≤ gb210)); have n5_ := Aside0.mk ((by rw [hg]; exact Nat.ne_of_lt (zA (g := gb208) (o := .cells #[.string ((rd_T108 l0 x25_1).f0), .string ((rd_T108 l0 x25_1).f1)] 108 (0, 0)) (by (with_reducible repeat (first | refine zg ?_ _ | refine zi ?_ | refine zh ?_ _)); exact BK208.out)) : gb208 ≠ gb210)); have n6_ := Aside0.mk ((by rw [hg]; exact Nat.ne_of_gt (zA (g := gb208) (o := .cells #[.string ((rd_T108 l0 x25_1).f0), .string ((rd_T108 l0 x25_1).f1)] 108 (0, 0)) (by (with_reducible repeat (first | refine zg ?_ _ | refine zi ?_ | refine zh ?_ _)); exact BK208.out)) : gb210 ≠ gb208)); clear BK208; clear HB; have BK208 := n0_; have HB := n1_; have BK210 := n2_; have GW210 := n3_; have GE210 := n4_; have NB208_210 := n5_; have NB210_208 := n6_; clear n0_ n1_ n2_ n3_ n4_ n5_ n6_; clear hb hbox hg; have hnb28 := NB210_208.out; have hnc28 := NB208_210.out; have hcz29_0 : w27.cell? ⟨gb210, 0, none⟩ = some (.string (⟨#[]⟩ : ByteArray)) := (ze BK210.out 0).trans rfl; have hcz29_1 : w27.cell? ⟨gb210, 1, none⟩ = some (.string (⟨#[]⟩ : ByteArray)) := (ze BK210.out 1).trans rfl; have hfz29_0 := za BK210.out 0; have hfz29_1 := za BK210.out 1; have hcz30_0 : w27.cell? ⟨gb208, 0, none⟩ = some (.string ((rd_T108 l0 x25_1).f0)) := (ze BK208.out 0).trans rfl; have hcz30_1 : w27.cell? ⟨gb208, 1, none⟩ = some (.string ((rd_T108 l0 x25_1).f1)) := (ze BK208.out 1).trans rfl; have hfz30_0 := za BK208.out 0; have hfz30_1 := za BK208.out 1))
              go_roundg k2
              case measure => have := HK1.out; have := HK2.out; omega
              case rel => exact ⟨(x8_2), (wrap64 (x31_2 + 1)), (by first | rfl | (simp; done) | (simp [*]; done)), (by first | rfl | (simp; done) | (simp [*]; done)), H', ⟨by have := HK1.out; have := HK2.out; omega⟩, ⟨by (with_reducible repeat (first | refine zg ?_ _ | refine zi ?_ | refine zh ?_ _)); refine zx ?_ NB208_210.out _; (with_reducible repeat (first | refine zg ?_ _ | refine zi ?_ | refine zh ?_ _)); refine zx ?_ NB208_210.out _; (with_reducible repeat (first | refine zg ?_ _ | refine zi ?_ | refine zh ?_ _)); exact BK208.out⟩, ⟨by repeat (first | (with_reducible first | exact HB.out | apply zd | apply zb | apply zc | refine zf ?_ GE208.out | refine zf ?_ GE210.out) | exact HB.out)⟩⟩
            ·rw [if_neg c16] at H
             exact absurd H (by simp)
           ·rw [if_neg c15] at H
            exact absurd H (by simp)
          ·rw [if_neg c14] at H
           have c14b0 : decide (x31_2 < (l1.length : Int)) = false := zl c14
           clear c14
           have H' := Aside0.mk H
           clear H
           go_wp2
           go_roundg k2
           case measure => have := HK1.out; have := HK2.out; omega
           case rel => exact ⟨(x8_2), (wrap64 (x25_1 + 1)), (by first | rfl | (simp; done) | (simp [*]; done)), (by first | rfl | (simp; done) | (simp [*]; done)), H', ⟨by have := HK1.out; have := HK2.out; omega⟩, ⟨by repeat (first | (with_reducible first | exact HB.out | apply zd | apply zb | apply zc | refine zf ?_ GE208.out) | exact HB.out)⟩⟩
       ·rw [if_neg c11] at H
        exact absurd H (by simp)
      ·rw [if_neg c10] at H
       exact absurd H (by simp)
     ·rw [if_neg c9] at H
      have c9b0 : decide (x25_1 < (l0.length : Int)) = false := zl c9
      clear c9
      simp only [Option.some.injEq, Prod.mk.injEq] at H
      obtain ⟨rfl, rfl⟩ := H
      go_wp2
      go_ret2
      exact ⟨by first | rfl | (simp [errW_none, errW_some] <;> rfl) | (simp [*, errW_none, errW_some] <;> rfl), by repeat (first | (with_reducible first | exact HB.out | apply zd | apply zb | apply zc) | exact HB.out)⟩
  ·rw [if_neg c6] at H
   have c6b0 : (t206 == 0) = false := beq_eq_false_iff_ne.mpr c6
   have c6b1 : (t206 != 0) = true := bne_iff_ne.mpr c6
   simp only [Option.some.injEq, Prod.mk.injEq] at H
   obtain ⟨rfl, rfl⟩ := H
   go_enter Tryd.func33, Tryd.ntmps33
   go_wp2_with (first | ((with_reducible refine gate_callee (f := 37) rfl ?_); refine goesL_ (some 14) rfl rfl Tryd.func37 (by kernel_rfl) rfl #[.slice A0 l0.length c0] rfl (by (try simp only [List.map_toArray, List.map_cons, List.map_nil]); first | done | rfl | (simp only [List.length_drop, List.length_take]; rfl)) ?_; (with_reducible refine (purl_CheckDigests.calls k _ _ l0 t205 _ ?side1 ?side2 A3.out).mono ?_); (case side1 => repeat (first | exact HR0.out | (with_reducible refine zF ?_ _) | (with_reducible refine zE ?_ _) | (with_reducible refine zG ?_))); (case side2 => exact HC0.out); rintro e w31 ⟨rfl, hb⟩; refine ⟨_, rfl, ?_⟩; have n0_ := Aside0.mk (zv (by repeat (first | (with_reducible first | exact HB.out | apply zd | apply zb | apply zc) | exact HB.out)) hb); clear HB; have HB := n0_; clear n0_; (try clear hb); (try clear hb2); (try clear hk); (try clear hi)) | ((with_reducible refine gate_callee (f := 37) rfl ?_); refine goesL_ (some 19) rfl rfl Tryd.func37 (by kernel_rfl) rfl #[.slice A1 l1.length c1] rfl (by (try simp only [List.map_toArray, List.map_cons, List.map_nil]); first | done | rfl | (simp only [List.length_drop, List.length_take]; rfl)) ?_; (with_reducible refine (purl_CheckDigests.calls k _ _ l1 t206 _ ?side1 ?side2 A5.out).mono ?_); (case side1 => repeat (first | exact (Kd.C_below HR1.out HB.out) | (with_reducible refine zF ?_ _) | (with_reducible refine zE ?_ _) | (with_reducible refine zG ?_))); (case side2 => exact HC1.out); rintro e w32 ⟨rfl, hb⟩; refine ⟨_, rfl, ?_⟩; have n0_ := Aside0.mk (zv (by repeat (first | (with_reducible first | exact HB.out | apply zd | apply zb | apply zc) | exact HB.out)) hb); clear HB; have HB := n0_; clear n0_; (try clear hb); (try clear hb2); (try clear hk); (try clear hi)))
   go_ret2
   exact ⟨by first | rfl | (simp [errW_none, errW_some] <;> rfl) | (simp [*, errW_none, errW_some] <;> rfl), by repeat (first | (with_reducible first | exact HB.out | apply zd | apply zb | apply zc) | exact HB.out)⟩
 ·rw [if_neg c4] at H
  have c4b0 : (t205 == 0) = false := beq_eq_false_iff_ne.mpr c4
  have c4b1 : (t205 != 0) = true := bne_iff_ne.mpr c4
  simp only [Option.some.injEq, Prod.mk.injEq] at H
  obtain ⟨rfl, rfl⟩ := H
  go_enter Tryd.func33, Tryd.ntmps33
  go_wp2_with (first | ((with_reducible refine gate_callee (f := 37) rfl ?_); refine goesL_ (some 14) rfl rfl Tryd.func37 (by kernel_rfl) rfl #[.slice A0 l0.length c0] rfl (by (try simp only [List.map_toArray, List.map_cons, List.map_nil]); first | done | rfl | (simp only [List.length_drop, List.length_take]; rfl)) ?_; (with_reducible refine (purl_CheckDigests.calls k _ _ l0 t205 _ ?side1 ?side2 A3.out).mono ?_); (case side1 => repeat (first | exact HR0.out | (with_reducible refine zF ?_ _) | (with_reducible refine zE ?_ _) | (with_reducible refine zG ?_))); (case side2 => exact HC0.out); rintro e w33 ⟨rfl, hb⟩; refine ⟨_, rfl, ?_⟩; have n0_ := Aside0.mk (zv (by repeat (first | (with_reducible first | exact HB.out | apply zd | apply zb | apply zc) | exact HB.out)) hb); clear HB; have HB := n0_; clear n0_; (try clear hb); (try clear hb2); (try clear hk); (try clear hi)))
  go_ret2
  exact ⟨by first | rfl | (simp [errW_none, errW_some] <;> rfl) | (simp [*, errW_none, errW_some] <;> rfl), by repeat (first | (with_reducible first | exact HB.out | apply zd | apply zb | apply zc) | exact HB.out)⟩
end Go.Proofs.YtmnfjbmhlabdaaaDoor.Pr
