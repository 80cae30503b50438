-- Printed by wip/pr.py.
import Derived.Test.YtmnfjbmhlabdaaaDoorCXa
import Derived.Test.YtmnfjbmhlabdaaaDoorCPm8
import Derived.Test.YtmnfjbmhlabdaaaDoorCPrx0
namespace Go.Proofs.YtmnfjbmhlabdaaaDoor.Pr
open RowKit YtmnfjbmhlabdaaaDoorW.PrintWords YtmnfjbmhlabdaaaDoorW.PrintLast YtmnfjbmhlabdaaaDoorW.PrintMore
attribute [local go_sem] max2_int min2_int max_two min_two max_three min_three max_four min_four
set_option linter.unusedVariables false
set_option linter.unusedSimpArgs false
mutual
def r2_text.j0 : Nat → ByteArray → ByteArray → ByteArray → ByteArray → ByteArray → List (S64) → ByteArray → Option (ByteArray)
 | 0, _, _, _, _, _, _, _ => none
 | k + 1, x3, x237000, x237001, x237002, x237003, x237004, x237005 => (r2_escaped.f k x237002).bind fun t238 => (if x3.size + t238.size ≤ 9223372036854775807 then (if x237003.toList = ([] : List UInt8) then (r2_text.j1 k (x3 ++ t238) x237000 x237001 x237002 x237003 x237004 x237005) else ((r2_escaped.f k x237003).bind fun t239 => (if 1 + t239.size ≤ 9223372036854775807 then (if (x3 ++ t238).size + ((⟨#[64]⟩ : ByteArray) ++ t239).size ≤ 9223372036854775807 then (r2_text.j1 k ((x3 ++ t238) ++ ((⟨#[64]⟩ : ByteArray) ++ t239)) x237000 x237001 x237002 x237003 x237004 x237005) else (none)) else (none)))) else (none))
def r2_text.j1 : Nat → ByteArray → ByteArray → ByteArray → ByteArray → ByteArray → List (S64) → ByteArray → Option (ByteArray)
 | 0, _, _, _, _, _, _, _ => none
 | k + 1, x3, x237000, x237001, x237002, x237003, x237004, x237005 => r2_text.l0 k x3 x237004 (x237004.length : Int) 0 x237000 x237001 x237002 x237003 x237004 x237005
def r2_text.l0 : Nat → ByteArray → List (S64) → Int → Int → ByteArray → ByteArray → ByteArray → ByteArray → List (S64) → ByteArray → Option (ByteArray)
 | 0, _, _, _, _, _, _, _, _, _, _ => none
 | k + 1, x3, x34, x35, x36, x237000, x237001, x237002, x237003, x237004, x237005 => if x36 < x35 then (if 0 ≤ x36 then (if x36 < (x34.length : Int) then (if x36 = 0 then (if x3.size + 1 ≤ 9223372036854775807 then (if ((rd_T64 x34 x36).f0).size + 1 ≤ 9223372036854775807 then ((r2_escaped.f k ((rd_T64 x34 x36).f1)).bind fun t242 => (if (((rd_T64 x34 x36).f0) ++ (⟨#[61]⟩ : ByteArray)).size + t242.size ≤ 9223372036854775807 then (if (x3 ++ (⟨#[63]⟩ : ByteArray)).size + ((((rd_T64 x34 x36).f0) ++ (⟨#[61]⟩ : ByteArray)) ++ t242).size ≤ 9223372036854775807 then (r2_text.l0 k ((x3 ++ (⟨#[63]⟩ : ByteArray)) ++ ((((rd_T64 x34 x36).f0) ++ (⟨#[61]⟩ : ByteArray)) ++ t242)) x34 x35 (wrap64 (x36 + 1)) x237000 x237001 x237002 x237003 x237004 x237005) else (none)) else (none))) else (none)) else (none)) else (if x3.size + 1 ≤ 9223372036854775807 then (if ((rd_T64 x34 x36).f0).size + 1 ≤ 9223372036854775807 then ((r2_escaped.f k ((rd_T64 x34 x36).f1)).bind fun t243 => (if (((rd_T64 x34 x36).f0) ++ (⟨#[61]⟩ : ByteArray)).size + t243.size ≤ 9223372036854775807 then (if (x3 ++ (⟨#[38]⟩ : ByteArray)).size + ((((rd_T64 x34 x36).f0) ++ (⟨#[61]⟩ : ByteArray)) ++ t243).size ≤ 9223372036854775807 then (r2_text.l0 k ((x3 ++ (⟨#[38]⟩ : ByteArray)) ++ ((((rd_T64 x34 x36).f0) ++ (⟨#[61]⟩ : ByteArray)) ++ t243)) x34 x35 (wrap64 (x36 + 1)) x237000 x237001 x237002 x237003 x237004 x237005) else (none)) else (none))) else (none)) else (none))) else (none)) else (none)) else (if x237005.toList = ([] : List UInt8) then (some x3) else ((r2_escapedPath.f k x237005).bind fun t244 => (if 1 + t244.size ≤ 9223372036854775807 then (if x3.size + ((⟨#[35]⟩ : ByteArray) ++ t244).size ≤ 9223372036854775807 then (some (x3 ++ ((⟨#[35]⟩ : ByteArray) ++ t244))) else (none)) else (none))))
end
def r2_text.f (k : Nat) (a0_0 : ByteArray) (a0_1 : ByteArray) (a0_2 : ByteArray) (a0_3 : ByteArray) (l0_4 : List (S64)) (a0_5 : ByteArray) : Option (ByteArray) := if 4 + a0_0.size ≤ 9223372036854775807 then (if ((⟨#[112, 107, 103, 58]⟩ : ByteArray) ++ a0_0).size + 1 ≤ 9223372036854775807 then (if a0_1.toList = ([] : List UInt8) then (r2_text.j0 k (((⟨#[112, 107, 103, 58]⟩ : ByteArray) ++ a0_0) ++ (⟨#[47]⟩ : ByteArray)) a0_0 a0_1 a0_2 a0_3 l0_4 a0_5) else ((r2_escapedPath.f k a0_1).bind fun t237 => (if t237.size + 1 ≤ 9223372036854775807 then (if (((⟨#[112, 107, 103, 58]⟩ : ByteArray) ++ a0_0) ++ (⟨#[47]⟩ : ByteArray)).size + (t237 ++ (⟨#[47]⟩ : ByteArray)).size ≤ 9223372036854775807 then (r2_text.j0 k ((((⟨#[112, 107, 103, 58]⟩ : ByteArray) ++ a0_0) ++ (⟨#[47]⟩ : ByteArray)) ++ (t237 ++ (⟨#[47]⟩ : ByteArray))) a0_0 a0_1 a0_2 a0_3 l0_4 a0_5) else (none)) else (none)))) else (none)) else (none)
def r2_text.T13 : Bool × List (List Nat × List Nat) := (true, [([], []), ([], []), ([1], [1]), ([2], [2]), ([], []), ([4], [4]), ([5], [5]), ([3, 6], [3, 6]), ([0, 7], [0, 7]), ([8, 6, 0, 1, 2, 3, 4, 5, 6, 7, 8], [0, 8])])
def r2_text.B13 : List Nat := [0, 0, 2, 6, 0, 16, 48, 126, 255, 511]
theorem r2_text.tab13 : rtab .any (opsOf Tryd.f59 13) = r2_text.T13 := by kernel_rfl
theorem r2_text.bits13 : waitsOk r2_text.T13.2 r2_text.B13 = true := by kernel_rfl
set_option maxHeartbeats 8000000 in
set_option maxRecDepth 100000 in
theorem r2_text.calls (k : Nat) (a0_0 : ByteArray) (a0_1 : ByteArray) (a0_2 : ByteArray) (a0_3 : ByteArray) (A0_4 : Option Addr) (c0_4 : Nat) (l0_4 : List (S64)) (a0_5 : ByteArray) (r : ByteArray) (w : World) (hr0_4 : Kd.C k64 w A0_4 l0_4.length l0_4) (hc0_4 : l0_4.length ≤ c0_4) (h : r2_text.f k a0_0 a0_1 a0_2 a0_3 l0_4 a0_5 = some r) :
  Calls Tryd.prog 59 #[.agg #[.string a0_0, .string a0_1, .string a0_2, .string a0_3, .slice A0_4 l0_4.length c0_4, .string a0_5]] w fun e w' => e = .returned (.string r) ∧ Below w.heap.size w w' := by
 have hu24 := Tryd.underlying24
 have hu64 := Tryd.underlying64
 have HR0_4 := Aq.mk hr0_4
 have HC0_4 := Aq.mk hc0_4
 clear hr0_4 hc0_4
 have HB := Aq.mk (Below.refl w.heap.size w)
 have H : (if 4 + a0_0.size ≤ 9223372036854775807 then (if ((⟨#[112, 107, 103, 58]⟩ : ByteArray) ++ a0_0).size + 1 ≤ 9223372036854775807 then (if a0_1.toList = ([] : List UInt8) then (r2_text.j0 k (((⟨#[112, 107, 103, 58]⟩ : ByteArray) ++ a0_0) ++ (⟨#[47]⟩ : ByteArray)) a0_0 a0_1 a0_2 a0_3 l0_4 a0_5) else ((r2_escapedPath.f k a0_1).bind fun t237 => (if t237.size + 1 ≤ 9223372036854775807 then (if (((⟨#[112, 107, 103, 58]⟩ : ByteArray) ++ a0_0) ++ (⟨#[47]⟩ : ByteArray)).size + (t237 ++ (⟨#[47]⟩ : ByteArray)).size ≤ 9223372036854775807 then (r2_text.j0 k ((((⟨#[112, 107, 103, 58]⟩ : ByteArray) ++ a0_0) ++ (⟨#[47]⟩ : ByteArray)) ++ (t237 ++ (⟨#[47]⟩ : ByteArray))) a0_0 a0_1 a0_2 a0_3 l0_4 a0_5) else (none)) else (none)))) else (none)) else (none)) = some r := h
 clear h
 by_cases c2 : 4 + a0_0.size ≤ 9223372036854775807
 ·rw [if_pos c2] at H
  have c2b0 := eq_true c2
  have c2b1 : decide (4 + a0_0.size ≤ 9223372036854775807) = true := zk c2
  try have c2b2 : (9223372036854775807 < 4 + a0_0.size) = False := eq_false (Nat.not_lt.2 c2)
  by_cases c3 : ((⟨#[112, 107, 103, 58]⟩ : ByteArray) ++ a0_0).size + 1 ≤ 9223372036854775807
  ·rw [if_pos c3] at H
   have c3b0 := eq_true c3
   have c3b1 : decide (((⟨#[112, 107, 103, 58]⟩ : ByteArray) ++ a0_0).size + 1 ≤ 9223372036854775807) = true := zk c3
   try have c3b2 : (9223372036854775807 < ((⟨#[112, 107, 103, 58]⟩ : ByteArray) ++ a0_0).size + 1) = False := eq_false (Nat.not_lt.2 c3)
   try have c3b3 : (9223372036854775807 < 4 + a0_0.size + 1) = False := by have h_ := c3; simp only [ByteArray.size_append] at h_; exact eq_false (Nat.not_lt.2 h_)
   try have c3b4 : (4 + a0_0.size + 1 ≤ 9223372036854775807) = True := by have h_ := c3; simp only [ByteArray.size_append] at h_; exact eq_true h_
   have HC4 := Aq.mk H
   clear H
   go_enter Tryd.func59, Tryd.ntmps59
   go_upto_if 12 with (first | ((with_reducible refine gate_dst (N := 1) rfl ?_); refine box_event ?hg (N := 1) ?hd (cs := #[.string a0_0, .string a0_1, .string a0_2, .string a0_3, .slice A0_4 l0_4.length c0_4, .string a0_5]) (t := 24) ?hr ?_; (case hd => rfl); (case hg => rfl); (case hr => first | (go_simp; done) | (go_simp; rfl)); intro gb236 hg w5 hbox hb; have n0_ := Aq.mk (zv (by repeat (with_reducible first | exact HB.out | apply zd | apply zb | apply zc)) hb); have n1_ := Aq.mk (hbox); have n2_ := Aq.mk ((by rw [hg]; exact (zz (by repeat (with_reducible first | exact HB.out | apply zd | apply zb | apply zc))) : w.heap.size ≤ gb236)); have n3_ := Aq.mk ((by rw [hg]; exact (zz (by repeat (with_reducible first | exact HB.out | apply zd | apply zb | apply zc))) : w.heap.size ≤ gb236)); clear HB; have HB := n0_; have BK236 := n1_; have GW236 := n2_; have GE236 := n3_; clear n0_ n1_ n2_ n3_; clear hb hbox hg; have hcz6_0 : w5.cell? ⟨gb236, 0, none⟩ = some (.string a0_0) := (ze BK236.out 0).trans rfl; have hcz6_1 : w5.cell? ⟨gb236, 1, none⟩ = some (.string a0_1) := (ze BK236.out 1).trans rfl; have hcz6_2 : w5.cell? ⟨gb236, 2, none⟩ = some (.string a0_2) := (ze BK236.out 2).trans rfl; have hcz6_3 : w5.cell? ⟨gb236, 3, none⟩ = some (.string a0_3) := (ze BK236.out 3).trans rfl; have hcz6_4 : w5.cell? ⟨gb236, 4, none⟩ = some (.slice A0_4 l0_4.length c0_4) := (ze BK236.out 4).trans rfl; have hcz6_5 : w5.cell? ⟨gb236, 5, none⟩ = some (.string a0_5) := (ze BK236.out 5).trans rfl; have hfz6_0 := za BK236.out 0; have hfz6_1 := za BK236.out 1; have hfz6_2 := za BK236.out 2; have hfz6_3 := za BK236.out 3; have hfz6_4 := za BK236.out 4; have hfz6_5 := za BK236.out 5))
   (try simp only [Act.put, zJ, zK, zL])
   go_cut [3] (fun v3 wc => ∃ (kq : Nat) (x3_3 : ByteArray), v3 = .string x3_3 ∧ Aq (r2_text.j0 kq x3_3 a0_0 a0_1 a0_2 a0_3 l0_4 a0_5 = some r) ∧ Aq (kq ≤ k) ∧ Aq (wc.heap[gb236]? = some (.cells #[.string a0_0, .string a0_1, .string a0_2, .string a0_3, (.slice A0_4 l0_4.length c0_4), .string a0_5] 24 (0, 0))) ∧ Aq (Below w.heap.size w wc))
   case first =>
    have H := HC4.out
    clear HC4
    by_cases c7 : a0_1.toList = ([] : List UInt8)
    ·rw [if_pos c7] at H
     have c7b0 : (a0_1.toList == ([] : List UInt8)) = true := yc.mpr c7
     have c7b1 : (a0_1.toList != ([] : List UInt8)) = false := yf.mpr c7
     have c7bE : (!(a0_1).toList.isEmpty) = false := by rw [List.isEmpty_iff.2 c7]; rfl
     clear c7
     (first | rw [c7b0] | rw [c7bE] | (simp only [i64_w, i32_w]; rw [c7b0]) | skip)
     have H' := Aq.mk H
     clear H
     go_wp2
     go_meet
     case rel => exact ⟨_, (((⟨#[112, 107, 103, 58]⟩ : ByteArray) ++ a0_0) ++ (⟨#[47]⟩ : ByteArray)), (by first | rfl | (simp; done) | (simp [*]; done)), H', ⟨by first | omega | exact Nat.le_refl _⟩, ⟨by (with_reducible repeat (first | refine zg ?_ _ | refine zi ?_ | refine zh ?_ _)); exact BK236.out⟩, ⟨by repeat (with_reducible first | exact HB.out | apply zd | apply zb | apply zc | refine zf ?_ GE236.out)⟩⟩
    ·rw [if_neg c7] at H
     have c7b0 : (a0_1.toList == ([] : List UInt8)) = false := ye.mpr c7
     have c7b1 : (a0_1.toList != ([] : List UInt8)) = true := yd.mpr c7
     have c7bE : (!(a0_1).toList.isEmpty) = true := by
      cases h_ : (a0_1).toList with
      | nil => exact absurd h_ c7
      | cons _ _ => rfl
     (first | rw [c7b0] | rw [c7bE] | (simp only [i64_w, i32_w]; rw [c7b0]) | skip)
     replace H := zu.mp H
     obtain ⟨t237, A80, H⟩ := H
     replace H : (if t237.size + 1 ≤ 9223372036854775807 then (if (((⟨#[112, 107, 103, 58]⟩ : ByteArray) ++ a0_0) ++ (⟨#[47]⟩ : ByteArray)).size + (t237 ++ (⟨#[47]⟩ : ByteArray)).size ≤ 9223372036854775807 then (r2_text.j0 k ((((⟨#[112, 107, 103, 58]⟩ : ByteArray) ++ a0_0) ++ (⟨#[47]⟩ : ByteArray)) ++ (t237 ++ (⟨#[47]⟩ : ByteArray))) a0_0 a0_1 a0_2 a0_3 l0_4 a0_5) else (none)) else (none)) = some r := H
     have A8 := Aq.mk A80
     clear A80
     by_cases c9 : t237.size + 1 ≤ 9223372036854775807
     ·rw [if_pos c9] at H
      have c9b0 := eq_true c9
      have c9b1 : decide (t237.size + 1 ≤ 9223372036854775807) = true := zk c9
      try have c9b2 : (9223372036854775807 < t237.size + 1) = False := eq_false (Nat.not_lt.2 c9)
      by_cases c10 : (((⟨#[112, 107, 103, 58]⟩ : ByteArray) ++ a0_0) ++ (⟨#[47]⟩ : ByteArray)).size + (t237 ++ (⟨#[47]⟩ : ByteArray)).size ≤ 9223372036854775807
      ·rw [if_pos c10] at H
       have c10b0 := eq_true c10
       have c10b1 : decide ((((⟨#[112, 107, 103, 58]⟩ : ByteArray) ++ a0_0) ++ (⟨#[47]⟩ : ByteArray)).size + (t237 ++ (⟨#[47]⟩ : ByteArray)).size ≤ 9223372036854775807) = true := zk c10
       try have c10b2 : (9223372036854775807 < (((⟨#[112, 107, 103, 58]⟩ : ByteArray) ++ a0_0) ++ (⟨#[47]⟩ : ByteArray)).size + (t237 ++ (⟨#[47]⟩ : ByteArray)).size) = False := eq_false (Nat.not_lt.2 c10)
       try have c10b3 : (9223372036854775807 < 4 + a0_0.size + 1 + (t237.size + 1)) = False := by have h_ := c10; simp only [ByteArray.size_append] at h_; exact eq_false (Nat.not_lt.2 h_)
       try have c10b4 : (4 + a0_0.size + 1 + (t237.size + 1) ≤ 9223372036854775807) = True := by have h_ := c10; simp only [ByteArray.size_append] at h_; exact eq_true h_
       have H' := Aq.mk H
       clear H
       have hcz11_0 : w5.cell? ⟨gb236, 0, none⟩ = some (.string a0_0) := (ze BK236.out 0).trans rfl
       have hcz11_1 : w5.cell? ⟨gb236, 1, none⟩ = some (.string a0_1) := (ze BK236.out 1).trans rfl
       have hcz11_2 : w5.cell? ⟨gb236, 2, none⟩ = some (.string a0_2) := (ze BK236.out 2).trans rfl
       have hcz11_3 : w5.cell? ⟨gb236, 3, none⟩ = some (.string a0_3) := (ze BK236.out 3).trans rfl
       have hcz11_4 : w5.cell? ⟨gb236, 4, none⟩ = some (.slice A0_4 l0_4.length c0_4) := (ze BK236.out 4).trans rfl
       have hcz11_5 : w5.cell? ⟨gb236, 5, none⟩ = some (.string a0_5) := (ze BK236.out 5).trans rfl
       have hfz11_0 := za BK236.out 0
       have hfz11_1 := za BK236.out 1
       have hfz11_2 := za BK236.out 2
       have hfz11_3 := za BK236.out 3
       have hfz11_4 := za BK236.out 4
       have hfz11_5 := za BK236.out 5
       go_wp2_with (first | ((with_reducible refine gate_callee (f := 104) rfl ?_); refine goesL_ (some 16) rfl rfl Tryd.func104 (by kernel_rfl) rfl #[.string a0_1] rfl (by (try simp only [zP, zQ, zR]); first | done | rfl | (simp only [zS, zT]; rfl)) ?_; (with_reducible refine (r2_escapedPath.calls k a0_1 t237 _ A8.out).mono ?_); rintro e w12 ⟨rfl, hb⟩; refine ⟨_, rfl, ?_⟩; have n0_ := Aq.mk (zw (g := gb236) (o := .cells #[.string a0_0, .string a0_1, .string a0_2, .string a0_3, .slice A0_4 l0_4.length c0_4, .string a0_5] 24 (0, 0)) (by (with_reducible repeat (first | refine zg ?_ _ | refine zi ?_ | refine zh ?_ _)); exact BK236.out) hb); have n1_ := Aq.mk (zv (by repeat (with_reducible first | exact HB.out | apply zd | apply zb | apply zc | refine zf ?_ GE236.out)) hb); clear BK236; clear HB; have BK236 := n0_; have HB := n1_; clear n0_ n1_; (try clear hb); (try clear hb2); (try clear hk); (try clear hi)))
       go_meet
       case rel => exact ⟨_, ((((⟨#[112, 107, 103, 58]⟩ : ByteArray) ++ a0_0) ++ (⟨#[47]⟩ : ByteArray)) ++ (t237 ++ (⟨#[47]⟩ : ByteArray))), (by first | rfl | (simp; done) | (simp [*]; done)), H', ⟨by first | omega | exact Nat.le_refl _⟩, ⟨by (with_reducible repeat (first | refine zg ?_ _ | refine zi ?_ | refine zh ?_ _)); exact BK236.out⟩, ⟨by repeat (with_reducible first | exact HB.out | apply zd | apply zb | apply zc | refine zf ?_ GE236.out)⟩⟩
      ·rw [if_neg c10] at H
       exact absurd H (by simp)
     ·rw [if_neg c9] at H
      exact absurd H (by simp)
   case rest =>
    clear HC4
    try clear c1
    try clear c2
    try clear c2b0
    try clear c2b1
    try clear c2b2
    try clear p2
    try clear c3
    try clear c3b0
    try clear c3b1
    try clear c3b2
    try clear c5
    try clear c7
    try clear c7b0
    try clear c7b1
    try clear c9
    try clear c9b0
    try clear c9b1
    try clear c9b2
    try clear c10
    try clear c10b0
    try clear c10b1
    try clear c10b2
    try clear hcz11_0
    try clear hcz11_1
    try clear hcz11_2
    try clear hcz11_3
    try clear hcz11_4
    try clear hcz11_5
    try clear hcz6_0
    try clear hcz6_1
    try clear hcz6_2
    try clear hcz6_3
    try clear hcz6_4
    try clear hcz6_5
    try clear hfz11_0
    try clear hfz11_1
    try clear hfz11_2
    try clear hfz11_3
    try clear hfz11_4
    try clear hfz11_5
    try clear hfz6_0
    try clear hfz6_1
    try clear hfz6_2
    try clear hfz6_3
    try clear hfz6_4
    try clear hfz6_5
    obtain ⟨kq, x3_3, rfl, HA, HJ3, BK236, HB⟩ := hcut
    cases kq with
    | zero => exact absurd HA.out (by simp [r2_text.j0])
    | succ kj3 =>
     have H := HA.out
     clear HA
     simp only [r2_text.j0] at H
     replace H := zu.mp H
     obtain ⟨t238, A130, H⟩ := H
     replace H : (if x3_3.size + t238.size ≤ 9223372036854775807 then (if a0_3.toList = ([] : List UInt8) then (r2_text.j1 kj3 (x3_3 ++ t238) a0_0 a0_1 a0_2 a0_3 l0_4 a0_5) else ((r2_escaped.f kj3 a0_3).bind fun t239 => (if 1 + t239.size ≤ 9223372036854775807 then (if (x3_3 ++ t238).size + ((⟨#[64]⟩ : ByteArray) ++ t239).size ≤ 9223372036854775807 then (r2_text.j1 kj3 ((x3_3 ++ t238) ++ ((⟨#[64]⟩ : ByteArray) ++ t239)) a0_0 a0_1 a0_2 a0_3 l0_4 a0_5) else (none)) else (none)))) else (none)) = some r := H
     have A13 := Aq.mk A130
     clear A130
     by_cases c14 : x3_3.size + t238.size ≤ 9223372036854775807
     ·rw [if_pos c14] at H
      have c14b0 := eq_true c14
      have c14b1 : decide (x3_3.size + t238.size ≤ 9223372036854775807) = true := zk c14
      try have c14b2 : (9223372036854775807 < x3_3.size + t238.size) = False := eq_false (Nat.not_lt.2 c14)
      have HC15 := Aq.mk H
      clear H
      have hcz16_0 : wc.cell? ⟨gb236, 0, none⟩ = some (.string a0_0) := (ze BK236.out 0).trans rfl
      have hcz16_1 : wc.cell? ⟨gb236, 1, none⟩ = some (.string a0_1) := (ze BK236.out 1).trans rfl
      have hcz16_2 : wc.cell? ⟨gb236, 2, none⟩ = some (.string a0_2) := (ze BK236.out 2).trans rfl
      have hcz16_3 : wc.cell? ⟨gb236, 3, none⟩ = some (.string a0_3) := (ze BK236.out 3).trans rfl
      have hcz16_4 : wc.cell? ⟨gb236, 4, none⟩ = some (.slice A0_4 l0_4.length c0_4) := (ze BK236.out 4).trans rfl
      have hcz16_5 : wc.cell? ⟨gb236, 5, none⟩ = some (.string a0_5) := (ze BK236.out 5).trans rfl
      have hfz16_0 := za BK236.out 0
      have hfz16_1 := za BK236.out 1
      have hfz16_2 := za BK236.out 2
      have hfz16_3 := za BK236.out 3
      have hfz16_4 := za BK236.out 4
      have hfz16_5 := za BK236.out 5
      go_upto_if 26 with (first | ((with_reducible refine gate_callee (f := 105) rfl ?_); refine goesL_ (some 22) rfl rfl Tryd.func105 (by kernel_rfl) rfl #[.string a0_2] rfl (by (try simp only [zP, zQ, zR]); first | done | rfl | (simp only [zS, zT]; rfl)) ?_; (with_reducible refine (r2_escaped.calls kj3 a0_2 t238 _ A13.out).mono ?_); rintro e w17 ⟨rfl, hb⟩; refine ⟨_, rfl, ?_⟩; have n0_ := Aq.mk (zw (g := gb236) (o := .cells #[.string a0_0, .string a0_1, .string a0_2, .string a0_3, .slice A0_4 l0_4.length c0_4, .string a0_5] 24 (0, 0)) (by (with_reducible repeat (first | refine zg ?_ _ | refine zi ?_ | refine zh ?_ _)); exact BK236.out) hb); have n1_ := Aq.mk (zv (by repeat (with_reducible first | exact HB.out | apply zd | apply zb | apply zc | refine zf ?_ GE236.out)) hb); clear BK236; clear HB; have BK236 := n0_; have HB := n1_; clear n0_ n1_; (try clear hb); (try clear hb2); (try clear hk); (try clear hi); have hcz18_0 : w17.cell? ⟨gb236, 0, none⟩ = some (.string a0_0) := (ze BK236.out 0).trans rfl; have hcz18_1 : w17.cell? ⟨gb236, 1, none⟩ = some (.string a0_1) := (ze BK236.out 1).trans rfl; have hcz18_2 : w17.cell? ⟨gb236, 2, none⟩ = some (.string a0_2) := (ze BK236.out 2).trans rfl; have hcz18_3 : w17.cell? ⟨gb236, 3, none⟩ = some (.string a0_3) := (ze BK236.out 3).trans rfl; have hcz18_4 : w17.cell? ⟨gb236, 4, none⟩ = some (.slice A0_4 l0_4.length c0_4) := (ze BK236.out 4).trans rfl; have hcz18_5 : w17.cell? ⟨gb236, 5, none⟩ = some (.string a0_5) := (ze BK236.out 5).trans rfl; have hfz18_0 := za BK236.out 0; have hfz18_1 := za BK236.out 1; have hfz18_2 := za BK236.out 2; have hfz18_3 := za BK236.out 3; have hfz18_4 := za BK236.out 4; have hfz18_5 := za BK236.out 5))
      (try simp only [Act.put, zJ, zK, zL])
      go_cut [3] (fun v3 wc => ∃ (kq : Nat) (x3_14 : ByteArray), v3 = .string x3_14 ∧ Aq (r2_text.j1 kq x3_14 a0_0 a0_1 a0_2 a0_3 l0_4 a0_5 = some r) ∧ Aq (kq ≤ kj3) ∧ Aq (wc.heap[gb236]? = some (.cells #[.string a0_0, .string a0_1, .string a0_2, .string a0_3, (.slice A0_4 l0_4.length c0_4), .string a0_5] 24 (0, 0))) ∧ Aq (Below w.heap.size w wc))
      case first =>
       have H := HC15.out
       clear HC15
       by_cases c19 : a0_3.toList = ([] : List UInt8)
       ·rw [if_pos c19] at H
        have c19b0 : (a0_3.toList == ([] : List UInt8)) = true := yc.mpr c19
        have c19b1 : (a0_3.toList != ([] : List UInt8)) = false := yf.mpr c19
        have c19bE : (!(a0_3).toList.isEmpty) = false := by rw [List.isEmpty_iff.2 c19]; rfl
        clear c19
        (first | rw [c19b0] | rw [c19bE] | (simp only [i64_w, i32_w]; rw [c19b0]) | skip)
        have H' := Aq.mk H
        clear H
        go_wp2
        go_meet
        case rel => exact ⟨_, (x3_3 ++ t238), (by first | rfl | (simp; done) | (simp [*]; done)), H', ⟨by have := HJ3.out; first | omega | exact Nat.le_refl _⟩, ⟨by (with_reducible repeat (first | refine zg ?_ _ | refine zi ?_ | refine zh ?_ _)); exact BK236.out⟩, ⟨by repeat (with_reducible first | exact HB.out | apply zd | apply zb | apply zc | refine zf ?_ GE236.out)⟩⟩
       ·rw [if_neg c19] at H
        have c19b0 : (a0_3.toList == ([] : List UInt8)) = false := ye.mpr c19
        have c19b1 : (a0_3.toList != ([] : List UInt8)) = true := yd.mpr c19
        have c19bE : (!(a0_3).toList.isEmpty) = true := by
         cases h_ : (a0_3).toList with
         | nil => exact absurd h_ c19
         | cons _ _ => rfl
        (first | rw [c19b0] | rw [c19bE] | (simp only [i64_w, i32_w]; rw [c19b0]) | skip)
        replace H := zu.mp H
        obtain ⟨t239, A200, H⟩ := H
        replace H : (if 1 + t239.size ≤ 9223372036854775807 then (if (x3_3 ++ t238).size + ((⟨#[64]⟩ : ByteArray) ++ t239).size ≤ 9223372036854775807 then (r2_text.j1 kj3 ((x3_3 ++ t238) ++ ((⟨#[64]⟩ : ByteArray) ++ t239)) a0_0 a0_1 a0_2 a0_3 l0_4 a0_5) else (none)) else (none)) = some r := H
        have A20 := Aq.mk A200
        clear A200
        by_cases c21 : 1 + t239.size ≤ 9223372036854775807
        ·rw [if_pos c21] at H
         have c21b0 := eq_true c21
         have c21b1 : decide (1 + t239.size ≤ 9223372036854775807) = true := zk c21
         try have c21b2 : (9223372036854775807 < 1 + t239.size) = False := eq_false (Nat.not_lt.2 c21)
         by_cases c22 : (x3_3 ++ t238).size + ((⟨#[64]⟩ : ByteArray) ++ t239).size ≤ 9223372036854775807
         ·rw [if_pos c22] at H
          have c22b0 := eq_true c22
          have c22b1 : decide ((x3_3 ++ t238).size + ((⟨#[64]⟩ : ByteArray) ++ t239).size ≤ 9223372036854775807) = true := zk c22
          try have c22b2 : (9223372036854775807 < (x3_3 ++ t238).size + ((⟨#[64]⟩ : ByteArray) ++ t239).size) = False := eq_false (Nat.not_lt.2 c22)
          try have c22b3 : (9223372036854775807 < x3_3.size + t238.size + (1 + t239.size)) = False := by have h_ := c22; simp only [ByteArray.size_append] at h_; exact eq_false (Nat.not_lt.2 h_)
          try have c22b4 : (x3_3.size + t238.size + (1 + t239.size) ≤ 9223372036854775807) = True := by have h_ := c22; simp only [ByteArray.size_append] at h_; exact eq_true h_
          have H' := Aq.mk H
          clear H
          have hcz23_0 : w17.cell? ⟨gb236, 0, none⟩ = some (.string a0_0) := (ze BK236.out 0).trans rfl
          have hcz23_1 : w17.cell? ⟨gb236, 1, none⟩ = some (.string a0_1) := (ze BK236.out 1).trans rfl
          have hcz23_2 : w17.cell? ⟨gb236, 2, none⟩ = some (.string a0_2) := (ze BK236.out 2).trans rfl
          have hcz23_3 : w17.cell? ⟨gb236, 3, none⟩ = some (.string a0_3) := (ze BK236.out 3).trans rfl
          have hcz23_4 : w17.cell? ⟨gb236, 4, none⟩ = some (.slice A0_4 l0_4.length c0_4) := (ze BK236.out 4).trans rfl
          have hcz23_5 : w17.cell? ⟨gb236, 5, none⟩ = some (.string a0_5) := (ze BK236.out 5).trans rfl
          have hfz23_0 := za BK236.out 0
          have hfz23_1 := za BK236.out 1
          have hfz23_2 := za BK236.out 2
          have hfz23_3 := za BK236.out 3
          have hfz23_4 := za BK236.out 4
          have hfz23_5 := za BK236.out 5
          go_wp2_with (first | ((with_reducible refine gate_callee (f := 105) rfl ?_); refine goesL_ (some 30) rfl rfl Tryd.func105 (by kernel_rfl) rfl #[.string a0_3] rfl (by (try simp only [zP, zQ, zR]); first | done | rfl | (simp only [zS, zT]; rfl)) ?_; (with_reducible refine (r2_escaped.calls kj3 a0_3 t239 _ A20.out).mono ?_); rintro e w24 ⟨rfl, hb⟩; refine ⟨_, rfl, ?_⟩; have n0_ := Aq.mk (zw (g := gb236) (o := .cells #[.string a0_0, .string a0_1, .string a0_2, .string a0_3, .slice A0_4 l0_4.length c0_4, .string a0_5] 24 (0, 0)) (by (with_reducible repeat (first | refine zg ?_ _ | refine zi ?_ | refine zh ?_ _)); exact BK236.out) hb); have n1_ := Aq.mk (zv (by repeat (with_reducible first | exact HB.out | apply zd | apply zb | apply zc | refine zf ?_ GE236.out)) hb); clear BK236; clear HB; have BK236 := n0_; have HB := n1_; clear n0_ n1_; (try clear hb); (try clear hb2); (try clear hk); (try clear hi)))
          go_meet
          case rel => exact ⟨_, ((x3_3 ++ t238) ++ ((⟨#[64]⟩ : ByteArray) ++ t239)), (by first | rfl | (simp; done) | (simp [*]; done)), H', ⟨by have := HJ3.out; first | omega | exact Nat.le_refl _⟩, ⟨by (with_reducible repeat (first | refine zg ?_ _ | refine zi ?_ | refine zh ?_ _)); exact BK236.out⟩, ⟨by repeat (with_reducible first | exact HB.out | apply zd | apply zb | apply zc | refine zf ?_ GE236.out)⟩⟩
         ·rw [if_neg c22] at H
          exact absurd H (by simp)
        ·rw [if_neg c21] at H
         exact absurd H (by simp)
      case rest =>
       clear HC15
       try clear c1
       try clear c2
       try clear c2b0
       try clear c2b1
       try clear c2b2
       try clear p2
       try clear c3
       try clear c3b0
       try clear c3b1
       try clear c3b2
       try clear c5
       try clear c7
       try clear c7b0
       try clear c7b1
       try clear c9
       try clear c9b0
       try clear c9b1
       try clear c9b2
       try clear c10
       try clear c10b0
       try clear c10b1
       try clear c10b2
       try clear c14
       try clear c14b0
       try clear c14b1
       try clear c14b2
       try clear c19
       try clear c19b0
       try clear c19b1
       try clear c21
       try clear c21b0
       try clear c21b1
       try clear c21b2
       try clear c22
       try clear c22b0
       try clear c22b1
       try clear c22b2
       try clear hcz11_0
       try clear hcz11_1
       try clear hcz11_2
       try clear hcz11_3
       try clear hcz11_4
       try clear hcz11_5
       try clear hcz16_0
       try clear hcz16_1
       try clear hcz16_2
       try clear hcz16_3
       try clear hcz16_4
       try clear hcz16_5
       try clear hcz18_0
       try clear hcz18_1
       try clear hcz18_2
       try clear hcz18_3
       try clear hcz18_4
       try clear hcz18_5
       try clear hcz23_0
       try clear hcz23_1
       try clear hcz23_2
       try clear hcz23_3
       try clear hcz23_4
       try clear hcz23_5
       try clear hcz6_0
       try clear hcz6_1
       try clear hcz6_2
       try clear hcz6_3
       try clear hcz6_4
       try clear hcz6_5
       try clear hfz11_0
       try clear hfz11_1
       try clear hfz11_2
       try clear hfz11_3
       try clear hfz11_4
       try clear hfz11_5
       try clear hfz16_0
       try clear hfz16_1
       try clear hfz16_2
       try clear hfz16_3
       try clear hfz16_4
       try clear hfz16_5
       try clear hfz18_0
       try clear hfz18_1
       try clear hfz18_2
       try clear hfz18_3
       try clear hfz18_4
       try clear hfz18_5
       try clear hfz23_0
       try clear hfz23_1
       try clear hfz23_2
       try clear hfz23_3
       try clear hfz23_4
       try clear hfz23_5
       try clear hfz6_0
       try clear hfz6_1
       try clear hfz6_2
       try clear hfz6_3
       try clear hfz6_4
       try clear hfz6_5
       try clear p2
       obtain ⟨kq, x3_14, rfl, HA, HJ14, BK236, HB⟩ := hcut
       cases kq with
       | zero => exact absurd HA.out (by simp [r2_text.j1])
       | succ kj14 =>
        have H := HA.out
        clear HA
        simp only [r2_text.j1] at H
        have H' := Aq.mk H
        clear H
        have hcz25_0 : wc.cell? ⟨gb236, 0, none⟩ = some (.string a0_0) := (ze BK236.out 0).trans rfl
        have hcz25_1 : wc.cell? ⟨gb236, 1, none⟩ = some (.string a0_1) := (ze BK236.out 1).trans rfl
        have hcz25_2 : wc.cell? ⟨gb236, 2, none⟩ = some (.string a0_2) := (ze BK236.out 2).trans rfl
        have hcz25_3 : wc.cell? ⟨gb236, 3, none⟩ = some (.string a0_3) := (ze BK236.out 3).trans rfl
        have hcz25_4 : wc.cell? ⟨gb236, 4, none⟩ = some (.slice A0_4 l0_4.length c0_4) := (ze BK236.out 4).trans rfl
        have hcz25_5 : wc.cell? ⟨gb236, 5, none⟩ = some (.string a0_5) := (ze BK236.out 5).trans rfl
        have hfz25_0 := za BK236.out 0
        have hfz25_1 := za BK236.out 1
        have hfz25_2 := za BK236.out 2
        have hfz25_3 := za BK236.out 3
        have hfz25_4 := za BK236.out 4
        have hfz25_5 := za BK236.out 5
        go_wp2
        go_loopg [3, 36] kj14 (fun kq v3 v36 w' => ∃ (x3_3 : ByteArray) (x36_3 : Int), v3 = .string x3_3 ∧ v36 = .int .i64 x36_3 ∧ Aq (r2_text.l0 kq x3_3 l0_4 (l0_4.length : Int) x36_3 a0_0 a0_1 a0_2 a0_3 l0_4 a0_5 = some r) ∧ Aq (kq ≤ kj14) ∧ Aq (w'.heap[gb236]? = some (.cells #[.string a0_0, .string a0_1, .string a0_2, .string a0_3, (.slice A0_4 l0_4.length c0_4), .string a0_5] 24 (0, 0))) ∧ Aq (Below w.heap.size w w'))
        case atStart => exact ⟨(x3_14), (0), (by first | rfl | (simp; done) | (simp [*]; done)), (by first | rfl | (simp; done) | (simp [*]; done)), H', ⟨Nat.le_refl _⟩, ⟨by (with_reducible repeat (first | refine zg ?_ _ | refine zi ?_ | refine zh ?_ _)); exact BK236.out⟩, ⟨by repeat (with_reducible first | exact HB.out | apply zd | apply zb | apply zc | refine zf ?_ GE236.out)⟩⟩
        case round =>
         clear H'
         try clear c1
         try clear c2
         try clear c2b0
         try clear c2b1
         try clear c2b2
         try clear p2
         try clear c3
         try clear c3b0
         try clear c3b1
         try clear c3b2
         try clear c5
         try clear c7
         try clear c7b0
         try clear c7b1
         try clear c9
         try clear c9b0
         try clear c9b1
         try clear c9b2
         try clear c10
         try clear c10b0
         try clear c10b1
         try clear c10b2
         try clear c14
         try clear c14b0
         try clear c14b1
         try clear c14b2
         try clear c19
         try clear c19b0
         try clear c19b1
         try clear c21
         try clear c21b0
         try clear c21b1
         try clear c21b2
         try clear c22
         try clear c22b0
         try clear c22b1
         try clear c22b2
         try clear hcz11_0
         try clear hcz11_1
         try clear hcz11_2
         try clear hcz11_3
         try clear hcz11_4
         try clear hcz11_5
         try clear hcz16_0
         try clear hcz16_1
         try clear hcz16_2
         try clear hcz16_3
         try clear hcz16_4
         try clear hcz16_5
         try clear hcz18_0
         try clear hcz18_1
         try clear hcz18_2
         try clear hcz18_3
         try clear hcz18_4
         try clear hcz18_5
         try clear hcz23_0
         try clear hcz23_1
         try clear hcz23_2
         try clear hcz23_3
         try clear hcz23_4
         try clear hcz23_5
         try clear hcz25_0
         try clear hcz25_1
         try clear hcz25_2
         try clear hcz25_3
         try clear hcz25_4
         try clear hcz25_5
         try clear hcz6_0
         try clear hcz6_1
         try clear hcz6_2
         try clear hcz6_3
         try clear hcz6_4
         try clear hcz6_5
         try clear hfz11_0
         try clear hfz11_1
         try clear hfz11_2
         try clear hfz11_3
         try clear hfz11_4
         try clear hfz11_5
         try clear hfz16_0
         try clear hfz16_1
         try clear hfz16_2
         try clear hfz16_3
         try clear hfz16_4
         try clear hfz16_5
         try clear hfz18_0
         try clear hfz18_1
         try clear hfz18_2
         try clear hfz18_3
         try clear hfz18_4
         try clear hfz18_5
         try clear hfz23_0
         try clear hfz23_1
         try clear hfz23_2
         try clear hfz23_3
         try clear hfz23_4
         try clear hfz23_5
         try clear hfz25_0
         try clear hfz25_1
         try clear hfz25_2
         try clear hfz25_3
         try clear hfz25_4
         try clear hfz25_5
         try clear hfz6_0
         try clear hfz6_1
         try clear hfz6_2
         try clear hfz6_3
         try clear hfz6_4
         try clear hfz6_5
         try clear p2
         obtain ⟨x3_3, x36_3, rfl, rfl, HA, HK3, BK236, HB⟩ := hrel
         cases gk with
         | zero => exact absurd HA.out (by simp [r2_text.l0])
         | succ k3 =>
          have H := HA.out
          clear HA
          simp only [r2_text.l0] at H
          by_cases c26 : x36_3 < (l0_4.length : Int)
          ·rw [if_pos c26] at H
           have c26b0 : decide (x36_3 < (l0_4.length : Int)) = true := zk c26
           clear c26
           by_cases c27 : 0 ≤ x36_3
           ·rw [if_pos c27] at H
            have c27b0 : decide (0 ≤ x36_3) = true := zk c27
            clear c27
            by_cases c28 : x36_3 < (l0_4.length : Int)
            ·rw [if_pos c28] at H
             have c28b0 : decide (x36_3 < (l0_4.length : Int)) = true := zk c28
             clear c28
             by_cases c29 : x36_3 = 0
             ·rw [if_pos c29] at H
              have c29b0 : (x36_3 == 0) = true := yc.mpr c29
              have c29b1 : (x36_3 != 0) = false := yf.mpr c29
              clear c29
              by_cases c30 : x3_3.size + 1 ≤ 9223372036854775807
              ·rw [if_pos c30] at H
               have c30b0 := eq_true c30
               have c30b1 : decide (x3_3.size + 1 ≤ 9223372036854775807) = true := zk c30
               try have c30b2 : (9223372036854775807 < x3_3.size + 1) = False := eq_false (Nat.not_lt.2 c30)
               by_cases c31 : ((rd_T64 l0_4 x36_3).f0).size + 1 ≤ 9223372036854775807
               ·rw [if_pos c31] at H
                have c31b0 := eq_true c31
                have c31b1 : decide (((rd_T64 l0_4 x36_3).f0).size + 1 ≤ 9223372036854775807) = true := zk c31
                try have c31b2 : (9223372036854775807 < ((rd_T64 l0_4 x36_3).f0).size + 1) = False := eq_false (Nat.not_lt.2 c31)
                replace H := zu.mp H
                obtain ⟨t242, A320, H⟩ := H
                replace H : (if (((rd_T64 l0_4 x36_3).f0) ++ (⟨#[61]⟩ : ByteArray)).size + t242.size ≤ 9223372036854775807 then (if (x3_3 ++ (⟨#[63]⟩ : ByteArray)).size + ((((rd_T64 l0_4 x36_3).f0) ++ (⟨#[61]⟩ : ByteArray)) ++ t242).size ≤ 9223372036854775807 then (r2_text.l0 k3 ((x3_3 ++ (⟨#[63]⟩ : ByteArray)) ++ ((((rd_T64 l0_4 x36_3).f0) ++ (⟨#[61]⟩ : ByteArray)) ++ t242)) l0_4 (l0_4.length : Int) (wrap64 (x36_3 + 1)) a0_0 a0_1 a0_2 a0_3 l0_4 a0_5) else (none)) else (none)) = some r := H
                have A32 := Aq.mk A320
                clear A320
                by_cases c33 : (((rd_T64 l0_4 x36_3).f0) ++ (⟨#[61]⟩ : ByteArray)).size + t242.size ≤ 9223372036854775807
                ·rw [if_pos c33] at H
                 have c33b0 := eq_true c33
                 have c33b1 : decide ((((rd_T64 l0_4 x36_3).f0) ++ (⟨#[61]⟩ : ByteArray)).size + t242.size ≤ 9223372036854775807) = true := zk c33
                 try have c33b2 : (9223372036854775807 < (((rd_T64 l0_4 x36_3).f0) ++ (⟨#[61]⟩ : ByteArray)).size + t242.size) = False := eq_false (Nat.not_lt.2 c33)
                 try have c33b3 : (9223372036854775807 < ((rd_T64 l0_4 x36_3).f0).size + 1 + t242.size) = False := by have h_ := c33; simp only [ByteArray.size_append] at h_; exact eq_false (Nat.not_lt.2 h_)
                 try have c33b4 : (((rd_T64 l0_4 x36_3).f0).size + 1 + t242.size ≤ 9223372036854775807) = True := by have h_ := c33; simp only [ByteArray.size_append] at h_; exact eq_true h_
                 by_cases c34 : (x3_3 ++ (⟨#[63]⟩ : ByteArray)).size + ((((rd_T64 l0_4 x36_3).f0) ++ (⟨#[61]⟩ : ByteArray)) ++ t242).size ≤ 9223372036854775807
                 ·rw [if_pos c34] at H
                  have c34b0 := eq_true c34
                  have c34b1 : decide ((x3_3 ++ (⟨#[63]⟩ : ByteArray)).size + ((((rd_T64 l0_4 x36_3).f0) ++ (⟨#[61]⟩ : ByteArray)) ++ t242).size ≤ 9223372036854775807) = true := zk c34
                  try have c34b2 : (9223372036854775807 < (x3_3 ++ (⟨#[63]⟩ : ByteArray)).size + ((((rd_T64 l0_4 x36_3).f0) ++ (⟨#[61]⟩ : ByteArray)) ++ t242).size) = False := eq_false (Nat.not_lt.2 c34)
                  try have c34b3 : (9223372036854775807 < x3_3.size + 1 + (((rd_T64 l0_4 x36_3).f0).size + 1 + t242.size)) = False := by have h_ := c34; simp only [ByteArray.size_append] at h_; exact eq_false (Nat.not_lt.2 h_)
                  try have c34b4 : (x3_3.size + 1 + (((rd_T64 l0_4 x36_3).f0).size + 1 + t242.size) ≤ 9223372036854775807) = True := by have h_ := c34; simp only [ByteArray.size_append] at h_; exact eq_true h_
                  have H' := Aq.mk H
                  clear H
                  have p240 : 0 ≤ (x36_3 : Int) := zj (by assumption)
                  have q240 : x36_3 < (l0_4.length : Int) := zj (by assumption)
                  obtain ⟨ad240, e240, hx240_0, hx240_1⟩ := at_T64 HR0_4.out x36_3 p240 q240
                  cases e240
                  replace hx240_0 := (HB.out.cell (World.block_lt_of_cell? w _ hx240_0)).trans hx240_0
                  replace hx240_1 := (HB.out.cell (World.block_lt_of_cell? w _ hx240_1)).trans hx240_1
                  replace p240 := eq_true p240
                  replace q240 := eq_true q240
                  try go_wp2_with (first | ((with_reducible refine gate_dst (N := 5) rfl ?_); refine box_event ?hg (N := 5) ?hd (cs := #[.string (⟨#[]⟩ : ByteArray), .string (⟨#[]⟩ : ByteArray)]) (t := 64) ?hr ?_; (case hd => rfl); (case hg => rfl); (case hr => first | (go_simp; done) | (go_simp; rfl)); intro gb241 hg w35 hbox hb; have n0_ := Aq.mk (zw (g := gb236) (o := .cells #[.string a0_0, .string a0_1, .string a0_2, .string a0_3, .slice (some ad240) l0_4.length c0_4, .string a0_5] 24 (0, 0)) (by (with_reducible repeat (first | refine zg ?_ _ | refine zi ?_ | refine zh ?_ _)); exact BK236.out) hb); have n1_ := Aq.mk (zv (by repeat (with_reducible first | exact HB.out | apply zd | apply zb | apply zc | refine zf ?_ GE236.out)) hb); have n2_ := Aq.mk (hbox); have n3_ := Aq.mk ((by rw [hg]; exact (zz (by repeat (with_reducible first | exact HB.out | apply zd | apply zb | apply zc | refine zf ?_ GE236.out))) : w.heap.size ≤ gb241)); have n4_ := Aq.mk ((by rw [hg]; exact (zz (by repeat (with_reducible first | exact HB.out | apply zd | apply zb | apply zc | refine zf ?_ GE236.out))) : w.heap.size ≤ gb241)); have n5_ := Aq.mk ((by rw [hg]; exact Nat.ne_of_lt (zA (g := gb236) (o := .cells #[.string a0_0, .string a0_1, .string a0_2, .string a0_3, .slice (some ad240) l0_4.length c0_4, .string a0_5] 24 (0, 0)) (by (with_reducible repeat (first | refine zg ?_ _ | refine zi ?_ | refine zh ?_ _)); exact BK236.out)) : gb236 ≠ gb241)); have n6_ := Aq.mk ((by rw [hg]; exact Nat.ne_of_gt (zA (g := gb236) (o := .cells #[.string a0_0, .string a0_1, .string a0_2, .string a0_3, .slice (some ad240) l0_4.length c0_4, .string a0_5] 24 (0, 0)) (by (with_reducible repeat (first | refine zg ?_ _ | refine zi ?_ | refine zh ?_ _)); exact BK236.out)) : gb241 ≠ gb236)); clear BK236; clear HB; have BK236 := n0_; have HB := n1_; have BK241 := n2_; have GW241 := n3_; have GE241 := n4_; have NB236_241 := n5_; have NB241_236 := n6_; clear n0_ n1_ n2_ n3_ n4_ n5_ n6_; clear hb hbox hg; have hnb36 := NB241_236.out; have hnc36 := NB236_241.out; have hcz37_0 : w35.cell? ⟨gb241, 0, none⟩ = some (.string (⟨#[]⟩ : ByteArray)) := (ze BK241.out 0).trans rfl; have hcz37_1 : w35.cell? ⟨gb241, 1, none⟩ = some (.string (⟨#[]⟩ : ByteArray)) := (ze BK241.out 1).trans rfl; have hfz37_0 := za BK241.out 0; have hfz37_1 := za BK241.out 1))
                  have n0_ : Aq (((w35.setCell ⟨gb241, 0, none⟩ (.string ((rd_T64 l0_4 x36_3).f0))).setCell ⟨gb241, 1, none⟩ (.string ((rd_T64 l0_4 x36_3).f1))).heap[gb236]? = some (.cells #[.string a0_0, .string a0_1, .string a0_2, .string a0_3, .slice (some ad240) l0_4.length c0_4, .string a0_5] 24 (0, 0))) := ⟨by (with_reducible repeat (first | refine zg ?_ _ | refine zi ?_ | refine zh ?_ _)); refine zx ?_ NB236_241.out _; (with_reducible repeat (first | refine zg ?_ _ | refine zi ?_ | refine zh ?_ _)); refine zx ?_ NB236_241.out _; (with_reducible repeat (first | refine zg ?_ _ | refine zi ?_ | refine zh ?_ _)); exact BK236.out⟩
                  have n1_ : Aq (((w35.setCell ⟨gb241, 0, none⟩ (.string ((rd_T64 l0_4 x36_3).f0))).setCell ⟨gb241, 1, none⟩ (.string ((rd_T64 l0_4 x36_3).f1))).heap[gb241]? = some (.cells #[.string ((rd_T64 l0_4 x36_3).f0), .string ((rd_T64 l0_4 x36_3).f1)] 64 (0, 0))) := ⟨by (with_reducible repeat (first | refine zg ?_ _ | refine zi ?_ | refine zh ?_ _)); refine zy (cs := #[.string ((rd_T64 l0_4 x36_3).f0), .string (⟨#[]⟩ : ByteArray)]) ?_ 1 _ rfl; (with_reducible repeat (first | refine zg ?_ _ | refine zi ?_ | refine zh ?_ _)); refine zy (cs := #[.string (⟨#[]⟩ : ByteArray), .string (⟨#[]⟩ : ByteArray)]) ?_ 0 _ rfl; (with_reducible repeat (first | refine zg ?_ _ | refine zi ?_ | refine zh ?_ _)); exact BK241.out⟩
                  have n2_ : Aq (Below w.heap.size w ((w35.setCell ⟨gb241, 0, none⟩ (.string ((rd_T64 l0_4 x36_3).f0))).setCell ⟨gb241, 1, none⟩ (.string ((rd_T64 l0_4 x36_3).f1)))) := ⟨by repeat (with_reducible first | exact HB.out | apply zd | apply zb | apply zc | refine zf ?_ GE236.out | refine zf ?_ GE241.out)⟩
                  (try clear BK236)
                  (try clear BK241)
                  (try clear HB)
                  generalize ((w35.setCell ⟨gb241, 0, none⟩ (.string ((rd_T64 l0_4 x36_3).f0))).setCell ⟨gb241, 1, none⟩ (.string ((rd_T64 l0_4 x36_3).f1))) = w38 at n0_ n1_ n2_ ⊢
                  have BK236 := n0_
                  have BK241 := n1_
                  have HB := n2_
                  clear n0_ n1_ n2_
                  have n0_ := Aq.mk (zi BK236.out)
                  have n1_ := Aq.mk (zi BK241.out)
                  have n2_ := Aq.mk (zc HB.out)
                  clear BK236
                  clear BK241
                  clear HB
                  have BK236 := n0_
                  have BK241 := n1_
                  have HB := n2_
                  clear n0_ n1_ n2_
                  refine start_ (n := 10) (S := fun w' => w'.cell? ⟨gb241, 0, none⟩ = some (.string ((rd_T64 l0_4 x36_3).f0)) ∧ w'.cell? ⟨gb241, 1, none⟩ = some (.string ((rd_T64 l0_4 x36_3).f1))) (ds := []) #[false, false, false, false, false, false, false, false, false, false] (by kernel_rfl) rfl rfl ⟨(ze BK241.out 0).trans rfl, (ze BK241.out 1).trans rfl⟩ (fun hHeld => ?_); refine with_tabW r2_text.tab13 r2_text.bits13 (fun HT_ HW_ => ?_)
                  generalize w38.drew = w39 at BK236 BK241 HB hHeld ⊢
                  refine pure_ (i := 0) (N := some 47) (v := ?_) (a' := ?_) #[true, false, false, false, false, false, false, false, false, false] rfl rfl (any_of HT_.out (by kernel_rfl)) (fun _ _ _ h => h) (Or.inl ⟨by rfl, ?_⟩) ?_ ?_
                  rotate_left
                  ·intro w'
                   go_simp
                   with_reducible rfl
                  rotate_left
                  ·simp only [Act.put, zJ, zK, zL, i64_w, i32_w]
                   rfl
                  refine pure_ (i := 1) (N := some 48) (v := ?_) (a' := ?_) #[true, true, false, false, false, false, false, false, false, false] rfl rfl (any_of HT_.out (by kernel_rfl)) (fun _ _ _ h => h) (Or.inl ⟨by rfl, ?_⟩) ?_ ?_
                  rotate_left
                  ·intro w'
                   go_simp
                   with_reducible rfl
                  rotate_left
                  ·simp only [Act.put, zJ, zK, zL, i64_w, i32_w]
                   rfl
                  refine pure_ (i := 4) (N := some 51) (v := ?_) (a' := ?_) #[true, true, false, false, true, false, false, false, false, false] rfl rfl (any_of HT_.out (by kernel_rfl)) (fun _ _ _ h => h) (Or.inl ⟨by rfl, ?_⟩) ?_ ?_
                  rotate_left
                  ·intro w'
                   go_simp
                   with_reducible rfl
                  rotate_left
                  ·simp only [Act.put, zJ, zK, zL, i64_w, i32_w]
                   rfl
                  refine take_ (i := 2) (N := some 49) (v := ?_) (a' := ?_) #[true, true, true, false, true, false, false, false, false, false] rfl rfl (take_ofW HT_.out HW_.out (by kernel_rfl)) (fun _ _ _ h => h) (Or.inl ⟨by rfl, ?_⟩) hHeld ?_ ?_
                  rotate_left
                  ·rintro w' ⟨s0, s1⟩
                   go_simp
                   with_reducible rfl
                  rotate_left
                  ·simp only [Act.put, zJ, zK, zL, i64_w, i32_w]
                   rfl
                  refine pure_ (i := 3) (N := some 50) (v := ?_) (a' := ?_) #[true, true, true, true, true, false, false, false, false, false] rfl rfl (any_of HT_.out (by kernel_rfl)) (fun _ _ _ h => h) (Or.inl ⟨by rfl, ?_⟩) ?_ ?_
                  rotate_left
                  ·intro w'
                   go_simp
                   with_reducible rfl
                  rotate_left
                  ·simp only [Act.put, zJ, zK, zL, i64_w, i32_w]
                   rfl
                  refine take_ (i := 5) (N := some 52) (v := ?_) (a' := ?_) #[true, true, true, true, true, true, false, false, false, false] rfl rfl (take_ofW HT_.out HW_.out (by kernel_rfl)) (fun _ _ _ h => h) (Or.inl ⟨by rfl, ?_⟩) hHeld ?_ ?_
                  rotate_left
                  ·rintro w' ⟨s0, s1⟩
                   go_simp
                   with_reducible rfl
                  rotate_left
                  ·simp only [Act.put, zJ, zK, zL, i64_w, i32_w]
                   rfl
                  refine one_ (i := 6) (N := some 53) #[true, true, true, true, true, true, true, false, false, false] rfl rfl (one_of HT_.out (by kernel_rfl)) (by decide) (fun K hK => ?_)
                  refine goes_ Tryd.func105 (by kernel_rfl) rfl #[.string ((rd_T64 l0_4 x36_3).f1)] (by rfl) rfl rfl (by (try simp only [zP, zQ, zR]); first | done | rfl | (simp only [zS, zT]; rfl)) ?_
                  with_reducible refine (r2_escaped.calls k3 ((rd_T64 l0_4 x36_3).f1) t242 _ A32.out).mono ?_
                  rintro e w40 ⟨rfl, hb⟩
                  refine ⟨_, rfl, ?_⟩
                  have n0_ := Aq.mk (zw (g := gb236) (o := .cells #[.string a0_0, .string a0_1, .string a0_2, .string a0_3, .slice (some ad240) l0_4.length c0_4, .string a0_5] 24 (0, 0)) (by (with_reducible repeat (first | refine zg ?_ _ | refine zi ?_ | refine zh ?_ _)); exact BK236.out) hb)
                  have n1_ := Aq.mk (zw (g := gb241) (o := .cells #[.string ((rd_T64 l0_4 x36_3).f0), .string ((rd_T64 l0_4 x36_3).f1)] 64 (0, 0)) (by (with_reducible repeat (first | refine zg ?_ _ | refine zi ?_ | refine zh ?_ _)); exact BK241.out) hb)
                  have n2_ := Aq.mk (zv (by repeat (with_reducible first | exact HB.out | apply zd | apply zb | apply zc | refine zf ?_ GE236.out | refine zf ?_ GE241.out)) hb)
                  clear BK236
                  clear BK241
                  clear HB
                  have BK236 := n0_
                  have BK241 := n1_
                  have HB := n2_
                  clear n0_ n1_ n2_
                  (try clear hb)
                  (try clear hb2)
                  (try clear hk)
                  (try clear hi)
                  refine hK.out _ _ ⟨(ze BK241.out 0).trans rfl, (ze BK241.out 1).trans rfl⟩ (fun hHeld => ?_)
                  clear hK K
                  refine norm_ (a' := ?_) ?_ ?_
                  rotate_left
                  ·show Act.put _ (some 53) _ = _
                   simp only [Act.put, zJ, zK, zL, i64_w, i32_w]
                   rfl
                  refine pure_ (i := 7) (N := some 54) (v := ?_) (a' := ?_) #[true, true, true, true, true, true, true, true, false, false] rfl rfl (any_of HT_.out (by kernel_rfl)) (fun _ _ _ h => h) (Or.inl ⟨by rfl, ?_⟩) ?_ ?_
                  rotate_left
                  ·intro w'
                   go_simp
                   with_reducible rfl
                  rotate_left
                  ·simp only [Act.put, zJ, zK, zL, i64_w, i32_w]
                   rfl
                  refine pure_ (i := 8) (N := some 55) (v := ?_) (a' := ?_) #[true, true, true, true, true, true, true, true, true, false] rfl rfl (any_of HT_.out (by kernel_rfl)) (fun _ _ _ h => h) (Or.inl ⟨by rfl, ?_⟩) ?_ ?_
                  rotate_left
                  ·intro w'
                   go_simp
                   with_reducible rfl
                  rotate_left
                  ·simp only [Act.put, zJ, zK, zL, i64_w, i32_w]
                   rfl
                  refine pure_ (i := 9) (N := some 3) (v := ?_) (a' := ?_) #[true, true, true, true, true, true, true, true, true, true] rfl rfl (any_of HT_.out (by kernel_rfl)) (fun _ _ _ h => h) (Or.inl ⟨by rfl, ?_⟩) ?_ ?_
                  rotate_left
                  ·intro w'
                   go_simp
                   with_reducible rfl
                  rotate_left
                  ·simp only [Act.put, zJ, zK, zL, i64_w, i32_w]
                   rfl
                  refine done_ (done_of HT_.out (by kernel_rfl)) ?_
                  try go_wp2
                  go_roundg k3
                  case measure => have := HJ3.out; have := HJ14.out; have := HK3.out; omega
                  case rel => exact ⟨((x3_3 ++ (⟨#[63]⟩ : ByteArray)) ++ ((((rd_T64 l0_4 x36_3).f0) ++ (⟨#[61]⟩ : ByteArray)) ++ t242)), (wrap64 (x36_3 + 1)), (by first | rfl | (simp; done) | (simp [*]; done)), (by first | rfl | (simp; done) | (simp [*]; done)), H', ⟨by have := HJ3.out; have := HJ14.out; have := HK3.out; omega⟩, ⟨by (with_reducible repeat (first | refine zg ?_ _ | refine zi ?_ | refine zh ?_ _)); exact BK236.out⟩, ⟨by repeat (with_reducible first | exact HB.out | apply zd | apply zb | apply zc | refine zf ?_ GE236.out | refine zf ?_ GE241.out)⟩⟩
                 ·rw [if_neg c34] at H
                  exact absurd H (by simp)
                ·rw [if_neg c33] at H
                 exact absurd H (by simp)
               ·rw [if_neg c31] at H
                exact absurd H (by simp)
              ·rw [if_neg c30] at H
               exact absurd H (by simp)
             ·rw [if_neg c29] at H
              have c29b0 : (x36_3 == 0) = false := ye.mpr c29
              have c29b1 : (x36_3 != 0) = true := yd.mpr c29
              by_cases c41 : x3_3.size + 1 ≤ 9223372036854775807
              ·rw [if_pos c41] at H
               have c41b0 := eq_true c41
               have c41b1 : decide (x3_3.size + 1 ≤ 9223372036854775807) = true := zk c41
               try have c41b2 : (9223372036854775807 < x3_3.size + 1) = False := eq_false (Nat.not_lt.2 c41)
               by_cases c42 : ((rd_T64 l0_4 x36_3).f0).size + 1 ≤ 9223372036854775807
               ·rw [if_pos c42] at H
                have c42b0 := eq_true c42
                have c42b1 : decide (((rd_T64 l0_4 x36_3).f0).size + 1 ≤ 9223372036854775807) = true := zk c42
                try have c42b2 : (9223372036854775807 < ((rd_T64 l0_4 x36_3).f0).size + 1) = False := eq_false (Nat.not_lt.2 c42)
                replace H := zu.mp H
                obtain ⟨t243, A430, H⟩ := H
                replace H : (if (((rd_T64 l0_4 x36_3).f0) ++ (⟨#[61]⟩ : ByteArray)).size + t243.size ≤ 9223372036854775807 then (if (x3_3 ++ (⟨#[38]⟩ : ByteArray)).size + ((((rd_T64 l0_4 x36_3).f0) ++ (⟨#[61]⟩ : ByteArray)) ++ t243).size ≤ 9223372036854775807 then (r2_text.l0 k3 ((x3_3 ++ (⟨#[38]⟩ : ByteArray)) ++ ((((rd_T64 l0_4 x36_3).f0) ++ (⟨#[61]⟩ : ByteArray)) ++ t243)) l0_4 (l0_4.length : Int) (wrap64 (x36_3 + 1)) a0_0 a0_1 a0_2 a0_3 l0_4 a0_5) else (none)) else (none)) = some r := H
                have A43 := Aq.mk A430
                clear A430
                by_cases c44 : (((rd_T64 l0_4 x36_3).f0) ++ (⟨#[61]⟩ : ByteArray)).size + t243.size ≤ 9223372036854775807
                ·rw [if_pos c44] at H
                 have c44b0 := eq_true c44
                 have c44b1 : decide ((((rd_T64 l0_4 x36_3).f0) ++ (⟨#[61]⟩ : ByteArray)).size + t243.size ≤ 9223372036854775807) = true := zk c44
                 try have c44b2 : (9223372036854775807 < (((rd_T64 l0_4 x36_3).f0) ++ (⟨#[61]⟩ : ByteArray)).size + t243.size) = False := eq_false (Nat.not_lt.2 c44)
                 try have c44b3 : (9223372036854775807 < ((rd_T64 l0_4 x36_3).f0).size + 1 + t243.size) = False := by have h_ := c44; simp only [ByteArray.size_append] at h_; exact eq_false (Nat.not_lt.2 h_)
                 try have c44b4 : (((rd_T64 l0_4 x36_3).f0).size + 1 + t243.size ≤ 9223372036854775807) = True := by have h_ := c44; simp only [ByteArray.size_append] at h_; exact eq_true h_
                 by_cases c45 : (x3_3 ++ (⟨#[38]⟩ : ByteArray)).size + ((((rd_T64 l0_4 x36_3).f0) ++ (⟨#[61]⟩ : ByteArray)) ++ t243).size ≤ 9223372036854775807
                 ·rw [if_pos c45] at H
                  have c45b0 := eq_true c45
                  have c45b1 : decide ((x3_3 ++ (⟨#[38]⟩ : ByteArray)).size + ((((rd_T64 l0_4 x36_3).f0) ++ (⟨#[61]⟩ : ByteArray)) ++ t243).size ≤ 9223372036854775807) = true := zk c45
                  try have c45b2 : (9223372036854775807 < (x3_3 ++ (⟨#[38]⟩ : ByteArray)).size + ((((rd_T64 l0_4 x36_3).f0) ++ (⟨#[61]⟩ : ByteArray)) ++ t243).size) = False := eq_false (Nat.not_lt.2 c45)
                  try have c45b3 : (9223372036854775807 < x3_3.size + 1 + (((rd_T64 l0_4 x36_3).f0).size + 1 + t243.size)) = False := by have h_ := c45; simp only [ByteArray.size_append] at h_; exact eq_false (Nat.not_lt.2 h_)
                  try have c45b4 : (x3_3.size + 1 + (((rd_T64 l0_4 x36_3).f0).size + 1 + t243.size) ≤ 9223372036854775807) = True := by have h_ := c45; simp only [ByteArray.size_append] at h_; exact eq_true h_
                  have H' := Aq.mk H
                  clear H
                  have p240 : 0 ≤ (x36_3 : Int) := zj (by assumption)
                  have q240 : x36_3 < (l0_4.length : Int) := zj (by assumption)
                  obtain ⟨ad240, e240, hx240_0, hx240_1⟩ := at_T64 HR0_4.out x36_3 p240 q240
                  cases e240
                  replace hx240_0 := (HB.out.cell (World.block_lt_of_cell? w _ hx240_0)).trans hx240_0
                  replace hx240_1 := (HB.out.cell (World.block_lt_of_cell? w _ hx240_1)).trans hx240_1
                  replace p240 := eq_true p240
                  replace q240 := eq_true q240
                  try go_wp2_with (first | ((with_reducible refine gate_dst (N := 5) rfl ?_); refine box_event ?hg (N := 5) ?hd (cs := #[.string (⟨#[]⟩ : ByteArray), .string (⟨#[]⟩ : ByteArray)]) (t := 64) ?hr ?_; (case hd => rfl); (case hg => rfl); (case hr => first | (go_simp; done) | (go_simp; rfl)); intro gb241 hg w46 hbox hb; have n0_ := Aq.mk (zw (g := gb236) (o := .cells #[.string a0_0, .string a0_1, .string a0_2, .string a0_3, .slice (some ad240) l0_4.length c0_4, .string a0_5] 24 (0, 0)) (by (with_reducible repeat (first | refine zg ?_ _ | refine zi ?_ | refine zh ?_ _)); exact BK236.out) hb); have n1_ := Aq.mk (zv (by repeat (with_reducible first | exact HB.out | apply zd | apply zb | apply zc | refine zf ?_ GE236.out)) hb); have n2_ := Aq.mk (hbox); have n3_ := Aq.mk ((by rw [hg]; exact (zz (by repeat (with_reducible first | exact HB.out | apply zd | apply zb | apply zc | refine zf ?_ GE236.out))) : w.heap.size ≤ gb241)); have n4_ := Aq.mk ((by rw [hg]; exact (zz (by repeat (with_reducible first | exact HB.out | apply zd | apply zb | apply zc | refine zf ?_ GE236.out))) : w.heap.size ≤ gb241)); have n5_ := Aq.mk ((by rw [hg]; exact Nat.ne_of_lt (zA (g := gb236) (o := .cells #[.string a0_0, .string a0_1, .string a0_2, .string a0_3, .slice (some ad240) l0_4.length c0_4, .string a0_5] 24 (0, 0)) (by (with_reducible repeat (first | refine zg ?_ _ | refine zi ?_ | refine zh ?_ _)); exact BK236.out)) : gb236 ≠ gb241)); have n6_ := Aq.mk ((by rw [hg]; exact Nat.ne_of_gt (zA (g := gb236) (o := .cells #[.string a0_0, .string a0_1, .string a0_2, .string a0_3, .slice (some ad240) l0_4.length c0_4, .string a0_5] 24 (0, 0)) (by (with_reducible repeat (first | refine zg ?_ _ | refine zi ?_ | refine zh ?_ _)); exact BK236.out)) : gb241 ≠ gb236)); clear BK236; clear HB; have BK236 := n0_; have HB := n1_; have BK241 := n2_; have GW241 := n3_; have GE241 := n4_; have NB236_241 := n5_; have NB241_236 := n6_; clear n0_ n1_ n2_ n3_ n4_ n5_ n6_; clear hb hbox hg; have hnb47 := NB241_236.out; have hnc47 := NB236_241.out; have hcz48_0 : w46.cell? ⟨gb241, 0, none⟩ = some (.string (⟨#[]⟩ : ByteArray)) := (ze BK241.out 0).trans rfl; have hcz48_1 : w46.cell? ⟨gb241, 1, none⟩ = some (.string (⟨#[]⟩ : ByteArray)) := (ze BK241.out 1).trans rfl; have hfz48_0 := za BK241.out 0; have hfz48_1 := za BK241.out 1))
                  have n0_ : Aq (((w46.setCell ⟨gb241, 0, none⟩ (.string ((rd_T64 l0_4 x36_3).f0))).setCell ⟨gb241, 1, none⟩ (.string ((rd_T64 l0_4 x36_3).f1))).heap[gb236]? = some (.cells #[.string a0_0, .string a0_1, .string a0_2, .string a0_3, .slice (some ad240) l0_4.length c0_4, .string a0_5] 24 (0, 0))) := ⟨by (with_reducible repeat (first | refine zg ?_ _ | refine zi ?_ | refine zh ?_ _)); refine zx ?_ NB236_241.out _; (with_reducible repeat (first | refine zg ?_ _ | refine zi ?_ | refine zh ?_ _)); refine zx ?_ NB236_241.out _; (with_reducible repeat (first | refine zg ?_ _ | refine zi ?_ | refine zh ?_ _)); exact BK236.out⟩
                  have n1_ : Aq (((w46.setCell ⟨gb241, 0, none⟩ (.string ((rd_T64 l0_4 x36_3).f0))).setCell ⟨gb241, 1, none⟩ (.string ((rd_T64 l0_4 x36_3).f1))).heap[gb241]? = some (.cells #[.string ((rd_T64 l0_4 x36_3).f0), .string ((rd_T64 l0_4 x36_3).f1)] 64 (0, 0))) := ⟨by (with_reducible repeat (first | refine zg ?_ _ | refine zi ?_ | refine zh ?_ _)); refine zy (cs := #[.string ((rd_T64 l0_4 x36_3).f0), .string (⟨#[]⟩ : ByteArray)]) ?_ 1 _ rfl; (with_reducible repeat (first | refine zg ?_ _ | refine zi ?_ | refine zh ?_ _)); refine zy (cs := #[.string (⟨#[]⟩ : ByteArray), .string (⟨#[]⟩ : ByteArray)]) ?_ 0 _ rfl; (with_reducible repeat (first | refine zg ?_ _ | refine zi ?_ | refine zh ?_ _)); exact BK241.out⟩
                  have n2_ : Aq (Below w.heap.size w ((w46.setCell ⟨gb241, 0, none⟩ (.string ((rd_T64 l0_4 x36_3).f0))).setCell ⟨gb241, 1, none⟩ (.string ((rd_T64 l0_4 x36_3).f1)))) := ⟨by repeat (with_reducible first | exact HB.out | apply zd | apply zb | apply zc | refine zf ?_ GE236.out | refine zf ?_ GE241.out)⟩
                  (try clear BK236)
                  (try clear BK241)
                  (try clear HB)
                  generalize ((w46.setCell ⟨gb241, 0, none⟩ (.string ((rd_T64 l0_4 x36_3).f0))).setCell ⟨gb241, 1, none⟩ (.string ((rd_T64 l0_4 x36_3).f1))) = w49 at n0_ n1_ n2_ ⊢
                  have BK236 := n0_
                  have BK241 := n1_
                  have HB := n2_
                  clear n0_ n1_ n2_
                  have n0_ := Aq.mk (zi BK236.out)
                  have n1_ := Aq.mk (zi BK241.out)
                  have n2_ := Aq.mk (zc HB.out)
                  clear BK236
                  clear BK241
                  clear HB
                  have BK236 := n0_
                  have BK241 := n1_
                  have HB := n2_
                  clear n0_ n1_ n2_
                  refine start_ (n := 10) (S := fun w' => w'.cell? ⟨gb241, 0, none⟩ = some (.string ((rd_T64 l0_4 x36_3).f0)) ∧ w'.cell? ⟨gb241, 1, none⟩ = some (.string ((rd_T64 l0_4 x36_3).f1))) (ds := []) #[false, false, false, false, false, false, false, false, false, false] (by kernel_rfl) rfl rfl ⟨(ze BK241.out 0).trans rfl, (ze BK241.out 1).trans rfl⟩ (fun hHeld => ?_); refine with_tabW r2_text.tab13 r2_text.bits13 (fun HT_ HW_ => ?_)
                  generalize w49.drew = w50 at BK236 BK241 HB hHeld ⊢
                  refine pure_ (i := 0) (N := some 47) (v := ?_) (a' := ?_) #[true, false, false, false, false, false, false, false, false, false] rfl rfl (any_of HT_.out (by kernel_rfl)) (fun _ _ _ h => h) (Or.inl ⟨by rfl, ?_⟩) ?_ ?_
                  rotate_left
                  ·intro w'
                   go_simp
                   with_reducible rfl
                  rotate_left
                  ·simp only [Act.put, zJ, zK, zL, i64_w, i32_w]
                   rfl
                  refine pure_ (i := 1) (N := some 48) (v := ?_) (a' := ?_) #[true, true, false, false, false, false, false, false, false, false] rfl rfl (any_of HT_.out (by kernel_rfl)) (fun _ _ _ h => h) (Or.inl ⟨by rfl, ?_⟩) ?_ ?_
                  rotate_left
                  ·intro w'
                   go_simp
                   with_reducible rfl
                  rotate_left
                  ·simp only [Act.put, zJ, zK, zL, i64_w, i32_w]
                   rfl
                  refine pure_ (i := 4) (N := some 51) (v := ?_) (a' := ?_) #[true, true, false, false, true, false, false, false, false, false] rfl rfl (any_of HT_.out (by kernel_rfl)) (fun _ _ _ h => h) (Or.inl ⟨by rfl, ?_⟩) ?_ ?_
                  rotate_left
                  ·intro w'
                   go_simp
                   with_reducible rfl
                  rotate_left
                  ·simp only [Act.put, zJ, zK, zL, i64_w, i32_w]
                   rfl
                  refine take_ (i := 2) (N := some 49) (v := ?_) (a' := ?_) #[true, true, true, false, true, false, false, false, false, false] rfl rfl (take_ofW HT_.out HW_.out (by kernel_rfl)) (fun _ _ _ h => h) (Or.inl ⟨by rfl, ?_⟩) hHeld ?_ ?_
                  rotate_left
                  ·rintro w' ⟨s0, s1⟩
                   go_simp
                   with_reducible rfl
                  rotate_left
                  ·simp only [Act.put, zJ, zK, zL, i64_w, i32_w]
                   rfl
                  refine pure_ (i := 3) (N := some 50) (v := ?_) (a' := ?_) #[true, true, true, true, true, false, false, false, false, false] rfl rfl (any_of HT_.out (by kernel_rfl)) (fun _ _ _ h => h) (Or.inl ⟨by rfl, ?_⟩) ?_ ?_
                  rotate_left
                  ·intro w'
                   go_simp
                   with_reducible rfl
                  rotate_left
                  ·simp only [Act.put, zJ, zK, zL, i64_w, i32_w]
                   rfl
                  refine take_ (i := 5) (N := some 52) (v := ?_) (a' := ?_) #[true, true, true, true, true, true, false, false, false, false] rfl rfl (take_ofW HT_.out HW_.out (by kernel_rfl)) (fun _ _ _ h => h) (Or.inl ⟨by rfl, ?_⟩) hHeld ?_ ?_
                  rotate_left
                  ·rintro w' ⟨s0, s1⟩
                   go_simp
                   with_reducible rfl
                  rotate_left
                  ·simp only [Act.put, zJ, zK, zL, i64_w, i32_w]
                   rfl
                  refine one_ (i := 6) (N := some 53) #[true, true, true, true, true, true, true, false, false, false] rfl rfl (one_of HT_.out (by kernel_rfl)) (by decide) (fun K hK => ?_)
                  refine goes_ Tryd.func105 (by kernel_rfl) rfl #[.string ((rd_T64 l0_4 x36_3).f1)] (by rfl) rfl rfl (by (try simp only [zP, zQ, zR]); first | done | rfl | (simp only [zS, zT]; rfl)) ?_
                  with_reducible refine (r2_escaped.calls k3 ((rd_T64 l0_4 x36_3).f1) t243 _ A43.out).mono ?_
                  rintro e w51 ⟨rfl, hb⟩
                  refine ⟨_, rfl, ?_⟩
                  have n0_ := Aq.mk (zw (g := gb236) (o := .cells #[.string a0_0, .string a0_1, .string a0_2, .string a0_3, .slice (some ad240) l0_4.length c0_4, .string a0_5] 24 (0, 0)) (by (with_reducible repeat (first | refine zg ?_ _ | refine zi ?_ | refine zh ?_ _)); exact BK236.out) hb)
                  have n1_ := Aq.mk (zw (g := gb241) (o := .cells #[.string ((rd_T64 l0_4 x36_3).f0), .string ((rd_T64 l0_4 x36_3).f1)] 64 (0, 0)) (by (with_reducible repeat (first | refine zg ?_ _ | refine zi ?_ | refine zh ?_ _)); exact BK241.out) hb)
                  have n2_ := Aq.mk (zv (by repeat (with_reducible first | exact HB.out | apply zd | apply zb | apply zc | refine zf ?_ GE236.out | refine zf ?_ GE241.out)) hb)
                  clear BK236
                  clear BK241
                  clear HB
                  have BK236 := n0_
                  have BK241 := n1_
                  have HB := n2_
                  clear n0_ n1_ n2_
                  (try clear hb)
                  (try clear hb2)
                  (try clear hk)
                  (try clear hi)
                  refine hK.out _ _ ⟨(ze BK241.out 0).trans rfl, (ze BK241.out 1).trans rfl⟩ (fun hHeld => ?_)
                  clear hK K
                  refine norm_ (a' := ?_) ?_ ?_
                  rotate_left
                  ·show Act.put _ (some 53) _ = _
                   simp only [Act.put, zJ, zK, zL, i64_w, i32_w]
                   rfl
                  refine pure_ (i := 7) (N := some 54) (v := ?_) (a' := ?_) #[true, true, true, true, true, true, true, true, false, false] rfl rfl (any_of HT_.out (by kernel_rfl)) (fun _ _ _ h => h) (Or.inl ⟨by rfl, ?_⟩) ?_ ?_
                  rotate_left
                  ·intro w'
                   go_simp
                   with_reducible rfl
                  rotate_left
                  ·simp only [Act.put, zJ, zK, zL, i64_w, i32_w]
                   rfl
                  refine pure_ (i := 8) (N := some 55) (v := ?_) (a' := ?_) #[true, true, true, true, true, true, true, true, true, false] rfl rfl (any_of HT_.out (by kernel_rfl)) (fun _ _ _ h => h) (Or.inl ⟨by rfl, ?_⟩) ?_ ?_
                  rotate_left
                  ·intro w'
                   go_simp
                   with_reducible rfl
                  rotate_left
                  ·simp only [Act.put, zJ, zK, zL, i64_w, i32_w]
                   rfl
                  refine pure_ (i := 9) (N := some 3) (v := ?_) (a' := ?_) #[true, true, true, true, true, true, true, true, true, true] rfl rfl (any_of HT_.out (by kernel_rfl)) (fun _ _ _ h => h) (Or.inl ⟨by rfl, ?_⟩) ?_ ?_
                  rotate_left
                  ·intro w'
                   go_simp
                   with_reducible rfl
                  rotate_left
                  ·simp only [Act.put, zJ, zK, zL, i64_w, i32_w]
                   rfl
                  refine done_ (done_of HT_.out (by kernel_rfl)) ?_
                  try go_wp2
                  go_roundg k3
                  case measure => have := HJ3.out; have := HJ14.out; have := HK3.out; omega
                  case rel => exact ⟨((x3_3 ++ (⟨#[38]⟩ : ByteArray)) ++ ((((rd_T64 l0_4 x36_3).f0) ++ (⟨#[61]⟩ : ByteArray)) ++ t243)), (wrap64 (x36_3 + 1)), (by first | rfl | (simp; done) | (simp [*]; done)), (by first | rfl | (simp; done) | (simp [*]; done)), H', ⟨by have := HJ3.out; have := HJ14.out; have := HK3.out; omega⟩, ⟨by (with_reducible repeat (first | refine zg ?_ _ | refine zi ?_ | refine zh ?_ _)); exact BK236.out⟩, ⟨by repeat (with_reducible first | exact HB.out | apply zd | apply zb | apply zc | refine zf ?_ GE236.out | refine zf ?_ GE241.out)⟩⟩
                 ·rw [if_neg c45] at H
                  exact absurd H (by simp)
                ·rw [if_neg c44] at H
                 exact absurd H (by simp)
               ·rw [if_neg c42] at H
                exact absurd H (by simp)
              ·rw [if_neg c41] at H
               exact absurd H (by simp)
            ·rw [if_neg c28] at H
             exact absurd H (by simp)
           ·rw [if_neg c27] at H
            exact absurd H (by simp)
          ·rw [if_neg c26] at H
           have c26b0 : decide (x36_3 < (l0_4.length : Int)) = false := zl c26
           clear c26
           by_cases c52 : a0_5.toList = ([] : List UInt8)
           ·rw [if_pos c52] at H
            have c52b0 : (a0_5.toList == ([] : List UInt8)) = true := yc.mpr c52
            have c52b1 : (a0_5.toList != ([] : List UInt8)) = false := yf.mpr c52
            have c52bE : (!(a0_5).toList.isEmpty) = false := by rw [List.isEmpty_iff.2 c52]; rfl
            clear c52
            obtain rfl := yg H
            simp only [zH, zI] at H
            obtain ⟨rfl⟩ := H
            have hcz53_0 : wr.cell? ⟨gb236, 0, none⟩ = some (.string a0_0) := (ze BK236.out 0).trans rfl
            have hcz53_1 : wr.cell? ⟨gb236, 1, none⟩ = some (.string a0_1) := (ze BK236.out 1).trans rfl
            have hcz53_2 : wr.cell? ⟨gb236, 2, none⟩ = some (.string a0_2) := (ze BK236.out 2).trans rfl
            have hcz53_3 : wr.cell? ⟨gb236, 3, none⟩ = some (.string a0_3) := (ze BK236.out 3).trans rfl
            have hcz53_4 : wr.cell? ⟨gb236, 4, none⟩ = some (.slice A0_4 l0_4.length c0_4) := (ze BK236.out 4).trans rfl
            have hcz53_5 : wr.cell? ⟨gb236, 5, none⟩ = some (.string a0_5) := (ze BK236.out 5).trans rfl
            have hfz53_0 := za BK236.out 0
            have hfz53_1 := za BK236.out 1
            have hfz53_2 := za BK236.out 2
            have hfz53_3 := za BK236.out 3
            have hfz53_4 := za BK236.out 4
            have hfz53_5 := za BK236.out 5
            go_wp2
            go_ret
            exact ⟨by first | rfl | (simp [yl, ym] <;> rfl) | (simp [*, yl, ym] <;> rfl), by repeat (with_reducible first | exact HB.out | apply zd | apply zb | apply zc | refine zf ?_ GE236.out)⟩
           ·rw [if_neg c52] at H
            have c52b0 : (a0_5.toList == ([] : List UInt8)) = false := ye.mpr c52
            have c52b1 : (a0_5.toList != ([] : List UInt8)) = true := yd.mpr c52
            have c52bE : (!(a0_5).toList.isEmpty) = true := by
             cases h_ : (a0_5).toList with
             | nil => exact absurd h_ c52
             | cons _ _ => rfl
            replace H := zu.mp H
            obtain ⟨t244, A540, H⟩ := H
            replace H : (if 1 + t244.size ≤ 9223372036854775807 then (if x3_3.size + ((⟨#[35]⟩ : ByteArray) ++ t244).size ≤ 9223372036854775807 then (some (x3_3 ++ ((⟨#[35]⟩ : ByteArray) ++ t244))) else (none)) else (none)) = some r := H
            have A54 := Aq.mk A540
            clear A540
            by_cases c55 : 1 + t244.size ≤ 9223372036854775807
            ·rw [if_pos c55] at H
             have c55b0 := eq_true c55
             have c55b1 : decide (1 + t244.size ≤ 9223372036854775807) = true := zk c55
             try have c55b2 : (9223372036854775807 < 1 + t244.size) = False := eq_false (Nat.not_lt.2 c55)
             by_cases c56 : x3_3.size + ((⟨#[35]⟩ : ByteArray) ++ t244).size ≤ 9223372036854775807
             ·rw [if_pos c56] at H
              have c56b0 := eq_true c56
              have c56b1 : decide (x3_3.size + ((⟨#[35]⟩ : ByteArray) ++ t244).size ≤ 9223372036854775807) = true := zk c56
              try have c56b2 : (9223372036854775807 < x3_3.size + ((⟨#[35]⟩ : ByteArray) ++ t244).size) = False := eq_false (Nat.not_lt.2 c56)
              try have c56b3 : (9223372036854775807 < x3_3.size + (1 + t244.size)) = False := by have h_ := c56; simp only [ByteArray.size_append] at h_; exact eq_false (Nat.not_lt.2 h_)
              try have c56b4 : (x3_3.size + (1 + t244.size) ≤ 9223372036854775807) = True := by have h_ := c56; simp only [ByteArray.size_append] at h_; exact eq_true h_
              obtain rfl := yg H
              simp only [zH, zI] at H
              obtain ⟨rfl⟩ := H
              have hcz57_0 : wr.cell? ⟨gb236, 0, none⟩ = some (.string a0_0) := (ze BK236.out 0).trans rfl
              have hcz57_1 : wr.cell? ⟨gb236, 1, none⟩ = some (.string a0_1) := (ze BK236.out 1).trans rfl
              have hcz57_2 : wr.cell? ⟨gb236, 2, none⟩ = some (.string a0_2) := (ze BK236.out 2).trans rfl
              have hcz57_3 : wr.cell? ⟨gb236, 3, none⟩ = some (.string a0_3) := (ze BK236.out 3).trans rfl
              have hcz57_4 : wr.cell? ⟨gb236, 4, none⟩ = some (.slice A0_4 l0_4.length c0_4) := (ze BK236.out 4).trans rfl
              have hcz57_5 : wr.cell? ⟨gb236, 5, none⟩ = some (.string a0_5) := (ze BK236.out 5).trans rfl
              have hfz57_0 := za BK236.out 0
              have hfz57_1 := za BK236.out 1
              have hfz57_2 := za BK236.out 2
              have hfz57_3 := za BK236.out 3
              have hfz57_4 := za BK236.out 4
              have hfz57_5 := za BK236.out 5
              go_wp2_with (first | ((with_reducible refine gate_callee (f := 104) rfl ?_); refine goesL_ (some 63) rfl rfl Tryd.func104 (by kernel_rfl) rfl #[.string a0_5] rfl (by (try simp only [zP, zQ, zR]); first | done | rfl | (simp only [zS, zT]; rfl)) ?_; (with_reducible refine (r2_escapedPath.calls k3 a0_5 t244 _ A54.out).mono ?_); rintro e w58 ⟨rfl, hb⟩; refine ⟨_, rfl, ?_⟩; have n0_ := Aq.mk (zw (g := gb236) (o := .cells #[.string a0_0, .string a0_1, .string a0_2, .string a0_3, .slice A0_4 l0_4.length c0_4, .string a0_5] 24 (0, 0)) (by (with_reducible repeat (first | refine zg ?_ _ | refine zi ?_ | refine zh ?_ _)); exact BK236.out) hb); have n1_ := Aq.mk (zv (by repeat (with_reducible first | exact HB.out | apply zd | apply zb | apply zc | refine zf ?_ GE236.out)) hb); clear BK236; clear HB; have BK236 := n0_; have HB := n1_; clear n0_ n1_; (try clear hb); (try clear hb2); (try clear hk); (try clear hi)))
              go_ret
              exact ⟨by first | rfl | (simp [yl, ym] <;> rfl) | (simp [*, yl, ym] <;> rfl), by repeat (with_reducible first | exact HB.out | apply zd | apply zb | apply zc | refine zf ?_ GE236.out)⟩
             ·rw [if_neg c56] at H
              exact absurd H (by simp)
            ·rw [if_neg c55] at H
             exact absurd H (by simp)
     ·rw [if_neg c14] at H
      exact absurd H (by simp)
  ·rw [if_neg c3] at H
   exact absurd H (by simp)
 ·rw [if_neg c2] at H
  exact absurd H (by simp)
end Go.Proofs.YtmnfjbmhlabdaaaDoor.Pr
