-- Written by a program of the session (wip/pr.py) out of the translation; Lean checks it.
import Derived.Test.YtmnfjbmhlabdaaaDoorDXa
import Derived.Test.YtmnfjbmhlabdaaaDoorDPrx0
import Derived.Test.YtmnfjbmhlabdaaaDoorDPrx1
import Derived.Test.YtmnfjbmhlabdaaaDoorDEc
import Derived.Test.YtmnfjbmhlabdaaaDoorDEe
namespace Go.Proofs.YtmnfjbmhlabdaaaDoor.Pr
open Go.RowKit Go.Proofs.YtmnfjbmhlabdaaaDoorW.PrintWords Go.Proofs.YtmnfjbmhlabdaaaDoorW.PrintLast Go.Proofs.YtmnfjbmhlabdaaaDoorW.PrintMore
attribute [local go_sem] max2_int min2_int max_two min_two max_three min_three max_four min_four
set_option linter.unusedVariables false
set_option linter.unusedSimpArgs false
def purl_path.l0 : Nat → List ByteArray → List ByteArray → Int → Int → Option (ByteArray)
 | 0, _, _, _, _ => none
 | k + 1, x3, x7, x8, x9 => if x9 < x8 then (if 0 ≤ x9 then (if x9 < (x7.length : Int) then ((purl_escaped.f (rdOf ByteArray.empty x7 x9)).bind fun t301 => (if x3.length < 8796093022208 then (purl_path.l0 k (x3 ++ [t301]) x7 x8 (wrap64 (x9 + 1))) else (none))) else (none)) else (none)) else ((lib_Join.f x3 (⟨#[47]⟩ : ByteArray)).bind fun t305 => (some t305))
def purl_path.f (k : Nat) (a0 : ByteArray) : Option (ByteArray) := (purl_segments.f a0).bind fun t297 => (purl_path.l0 k ([] : List ByteArray) t297 (t297.length : Int) 0)
theorem purl_path.mono_l : ∀ k, (∀ y0 y1 y2 y3, LeO (purl_path.l0 k y0 y1 y2 y3) (purl_path.l0 (k + 1) y0 y1 y2 y3))
 | 0 => fun _ _ _ _ r h => by simp [purl_path.l0] at h
 | k + 1 => by
  have ih0 := purl_path.mono_l k
  ·intro y0 y1 y2 y3
   unfold purl_path.l0
   repeat' first
   | (with_reducible exact ya _)
   | (with_reducible exact yb _)
   | (with_reducible refine zZ ?_ ?_)
   | (with_reducible refine zY ?_ (fun _ => ?_))
   | exact ih0 _ _ _ _
   | exact yb _
   | refine zZ ?_ ?_
   | refine zY ?_ (fun _ => ?_)
theorem purl_path.mono : ∀ a0 k, LeO (purl_path.f k a0) (purl_path.f (k + 1) a0) := by
 intro a0 k
 have ih0 := purl_path.mono_l k
 unfold purl_path.f
 repeat' first
   | (with_reducible exact ya _)
   | (with_reducible exact yb _)
   | (with_reducible refine zZ ?_ ?_)
   | (with_reducible refine zY ?_ (fun _ => ?_))
   | exact ih0 _ _ _ _
   | exact yb _
   | refine zZ ?_ ?_
   | refine zY ?_ (fun _ => ?_)
set_option maxHeartbeats 8000000 in
set_option maxRecDepth 100000 in
theorem purl_path.calls (k : Nat) (a0 : ByteArray) (r : ByteArray) (w : World) (h : purl_path.f k a0 = some r) :
  Calls Tryd.prog 54 #[.string a0] w fun e w' => e = .returned (.string r) ∧ Below w.heap.size w w' := by
 have HB := Aq.mk (Below.refl w.heap.size w)
 have H : ((purl_segments.f a0).bind fun t297 => (purl_path.l0 k ([] : List ByteArray) t297 (t297.length : Int) 0)) = some r := h
 clear h
 replace H := zu.mp H
 obtain ⟨t297, A20, H⟩ := H
 replace H : (purl_path.l0 k ([] : List ByteArray) t297 (t297.length : Int) 0) = some r := H
 have A2 := Aq.mk A20
 clear A20
 have H' := Aq.mk H
 clear H
 go_enter Tryd.func54, Tryd.ntmps54
 go_wp2_with (first | ((with_reducible refine gate_callee (f := 68) rfl ?_); refine goesL_ (some 7) rfl rfl Tryd.func68 (by kernel_rfl) rfl #[.string a0] rfl (by (try simp only [zP, zQ, zR]); first | done | rfl | (simp only [zS, zT]; rfl)) ?_; (with_reducible refine (purl_segments.calls a0 t297 _ A2.out).mono ?_); rintro e w3 ⟨v298, rfl, ho0, hb⟩; refine ⟨_, rfl, ?_⟩; have n0_ := Aq.mk (zX ho0 (zz (by repeat (with_reducible first | exact HB.out | apply zd | apply zb | apply zc)))); have n1_ := Aq.mk (zv (by repeat (with_reducible first | exact HB.out | apply zd | apply zb | apply zc)) hb); clear HB; have HO299 := n0_; have HB := n1_; clear n0_ n1_; (try clear hb); (try clear hb2); (try clear hk); (try clear hi); (try clear ho0); obtain ⟨Ao4, co4, eo4⟩ := yi HO299.out; subst eo4))
 go_loopg [3, 9] k (fun kq v3 v9 w' => ∃ (x3_1 : List ByteArray) (x9_1 : Int), v9 = .int .i64 x9_1 ∧ Aq (purl_path.l0 kq x3_1 t297 (t297.length : Int) x9_1 = some r) ∧ Aq (kq ≤ k) ∧ Aq (Kd.R Kd.string 9 w' w.heap.size (fun k_ => some k_ ≠ ((.slice Ao4 t297.length co4) : Value).ownBlock) v3 x3_1) ∧ Aq (Kd.R Kd.string 9 w' w.heap.size (fun k_ => some k_ ≠ (v3 : Value).ownBlock) (.slice Ao4 t297.length co4) t297) ∧ Aq (Below w.heap.size w w'))
 case atStart => exact ⟨(([] : List ByteArray)), (0), (by first | rfl | (simp; done) | (simp [*]; done)), H', ⟨Nat.le_refl _⟩, ⟨by first | exact Kd.R_nil _ _ _ _ _ | exact Kd.N_nil _ _ _ _ _ | exact Kd.V_nil _ _ _ _ _ | exact Kd.Q_nil _ _ _ _ _ | exact Kd.S_nil _ _ _ _ _⟩, ⟨by (with_reducible repeat (first | apply zC | apply zB | apply zD)); exact Kd.R_mono HO299.out (fun _ hk => (by simp [Value.ownBlock]))⟩, ⟨by repeat (with_reducible first | exact HB.out | apply zd | apply zb | apply zc)⟩⟩
 case round =>
  clear H'
  try clear p2
  obtain ⟨x3_1, x9_1, rfl, HA, HK1, HO_3, HO_7, HB⟩ := hrel
  cases gk with
  | zero => exact absurd HA.out (by simp [purl_path.l0])
  | succ k1 =>
   have H := HA.out
   clear HA
   simp only [purl_path.l0] at H
   by_cases c5 : x9_1 < (t297.length : Int)
   ·rw [if_pos c5] at H
    have c5b0 : decide (x9_1 < (t297.length : Int)) = true := zk c5
    clear c5
    by_cases c6 : 0 ≤ x9_1
    ·rw [if_pos c6] at H
     have c6b0 : decide (0 ≤ x9_1) = true := zk c6
     clear c6
     by_cases c7 : x9_1 < (t297.length : Int)
     ·rw [if_pos c7] at H
      have c7b0 : decide (x9_1 < (t297.length : Int)) = true := zk c7
      clear c7
      replace H := zu.mp H
      obtain ⟨t301, A80, H⟩ := H
      replace H : (if x3_1.length < 8796093022208 then (purl_path.l0 k1 (x3_1 ++ [t301]) t297 (t297.length : Int) (wrap64 (x9_1 + 1))) else (none)) = some r := H
      have A8 := Aq.mk A80
      clear A80
      by_cases c9 : x3_1.length < 8796093022208
      ·rw [if_pos c9] at H
       have LMc9 := Aq.mk c9
       clear c9
       obtain ⟨y302, hy302⟩ : ∃ y_ : List ByteArray, y_ = (x3_1 ++ [t301]) := ⟨_, rfl⟩
       replace H : (purl_path.l0 k1 y302 t297 (t297.length : Int) (wrap64 (x9_1 + 1))) = some r := by first | (rw [hy302]; with_reducible exact H) | (have H2_ := (Option.bind_some _ _).symm.trans H; rw [hy302]; with_reducible exact H2_) | (have H2_ := (Option.bind_some _ _).symm.trans H; with_reducible exact H2_) | with_reducible exact H | (rw [hy302]; exact H) | exact H
       have Ny302 := Aq.mk hy302
       clear hy302
       have H' := Aq.mk H
       clear H
       have p300 : 0 ≤ (x9_1 : Int) := zj (by assumption)
       have q300 : x9_1 < (t297.length : Int) := zj (by assumption)
       obtain ⟨ad300, e300, hx300_0⟩ := Kd.at_string (Kd.R_reads' HO_7.out).2.2 x9_1 p300 q300
       cases e300
       replace p300 := eq_true p300
       replace q300 := eq_true q300
       go_wp2_with (first | ((with_reducible refine gate_callee (f := 53) rfl ?_); refine goesL_ (some 15) rfl rfl Tryd.func53 (by kernel_rfl) rfl #[.string (rdOf ByteArray.empty t297 x9_1)] rfl (by (try simp only [zP, zQ, zR]); first | done | rfl | (simp only [zS, zT]; rfl)) ?_; (with_reducible refine (purl_escaped.calls (rdOf ByteArray.empty t297 x9_1) t301 _ A8.out).mono ?_); rintro e w10 ⟨rfl, hb⟩; refine ⟨_, rfl, ?_⟩; have n0_ := Aq.mk (yj (by (with_reducible repeat (first | apply zC | apply zB | apply zD)); exact HO_3.out) hb); have n1_ := Aq.mk (yj (by (with_reducible repeat (first | apply zC | apply zB | apply zD)); exact HO_7.out) hb); have n2_ := Aq.mk (zv (by repeat (with_reducible first | exact HB.out | apply zd | apply zb | apply zc)) hb); clear HO_3; clear HO_7; clear HB; have HO_3 := n0_; have HO_7 := n1_; have HB := n2_; clear n0_ n1_ n2_; (try clear hb); (try clear hb2); (try clear hk); (try clear hi)) | ((with_reducible refine gate_builtin (b := .append) (xs := #[.tmp 13, .tmp 16]) rfl ?_); at_builtin; refine Kd.R_append Kd.string (w0 := w) w.heap.size rfl (.tmp 13) (.tmp 16) 41 9 (.string ⟨#[]⟩) 16 rfl Tryd.underlying41 info9 rfl (by decide) (by omega) u3 x3_1 t301 [.string t301] (fun k_ => some k_ ≠ (.slice (some ad300) t297.length co4 : Value).ownBlock) (fun _ => False) rfl rfl ?aP (fun _ hk => hk.elim) ?aF ?aO ?aB ?aS ?aL ?_; (case aP => exact rfl); (case aB => exact (by repeat (with_reducible first | exact HB.out | apply zd | apply zb | apply zc))); (case aF => exact (fun k_ hk => Kd.fresh' (Kd.R_lt (by (with_reducible repeat (first | apply zC | apply zB | apply zD)); exact HO_7.out)) k_ hk)); (case aO => exact (by (with_reducible repeat (first | apply zC | apply zB | apply zD)); exact HO_3.out)); (case aS => exact (zz (by repeat (with_reducible first | exact HB.out | apply zd | apply zb | apply zc)))); (case aL => have := LMc9.out; omega); intro v303 w11 ho hb hg hat; rw [← Ny302.out] at ho; have n0_ := Aq.mk (Kd.R_after (ok := (fun _ => True)) (by (with_reducible repeat (first | apply zC | apply zB | apply zD)); exact Kd.R_mono HO_7.out (fun _ hk => ⟨trivial, hk⟩)) hg hat); have n1_ := Aq.mk (hb); have n2_ := Aq.mk (ho); clear HO_7; clear HB; clear HO_3; have HO_7 := n0_; have HB := n1_; have HO304 := n2_; clear n0_ n1_ n2_; clear ho hb hg hat))
       go_roundg k1
       case measure => have := HK1.out; omega
       case rel => exact ⟨(y302), (wrap64 (x9_1 + 1)), (by first | rfl | (simp; done) | (simp [*]; done)), H', ⟨by have := HK1.out; omega⟩, ⟨by (with_reducible repeat (first | apply zC | apply zB | apply zD)); exact HO304.out⟩, ⟨by (with_reducible repeat (first | apply zC | apply zB | apply zD)); exact Kd.R_mono HO_7.out (fun _ hk => hk.2)⟩, ⟨by repeat (with_reducible first | exact HB.out | apply zd | apply zb | apply zc)⟩⟩
      ·rw [if_neg c9] at H
       exact absurd H (by simp)
     ·rw [if_neg c7] at H
      exact absurd H (by simp)
    ·rw [if_neg c6] at H
     exact absurd H (by simp)
   ·rw [if_neg c5] at H
    have c5b0 : decide (x9_1 < (t297.length : Int)) = false := zl c5
    clear c5
    replace H := zu.mp H
    obtain ⟨t305, A120, H⟩ := H
    replace H : (some t305) = some r := H
    have A12 := Aq.mk A120
    clear A120
    obtain rfl := yg H
    simp only [zH, zI] at H
    obtain ⟨rfl⟩ := H
    obtain ⟨Ao13, co13, eo13⟩ := yi HO_3.out
    subst eo13
    go_wp2_with (first | ((with_reducible refine gate_callee (f := 40) rfl ?_); refine goesL_ (some 20) rfl rfl Tryd.func40 (by kernel_rfl) rfl #[.slice Ao13 x3_1.length co13, .string (⟨#[47]⟩ : ByteArray)] rfl (by (try simp only [zP, zQ, zR]); first | done | rfl | (simp only [zS, zT]; rfl)) ?_; (with_reducible refine (lib_Join.calls _ _ x3_1 (⟨#[47]⟩ : ByteArray) t305 _ ?side1 ?side2 A12.out).mono ?_); (case side1 => repeat (first | exact (Kd.R_reads' HO_3.out).2.2 | (with_reducible refine zF ?_ _) | (with_reducible refine zE ?_ _) | (with_reducible refine zG ?_))); (case side2 => exact (Kd.R_reads' HO_3.out).2.1); rintro e w14 ⟨rfl, hb⟩; refine ⟨_, rfl, ?_⟩; have n0_ := Aq.mk (yj (by (with_reducible repeat (first | apply zC | apply zB | apply zD)); exact HO_3.out) hb); have n1_ := Aq.mk (yj (by (with_reducible repeat (first | apply zC | apply zB | apply zD)); exact HO_7.out) hb); have n2_ := Aq.mk (zv (by repeat (with_reducible first | exact HB.out | apply zd | apply zb | apply zc)) hb); clear HO_3; clear HO_7; clear HB; have HO_3 := n0_; have HO_7 := n1_; have HB := n2_; clear n0_ n1_ n2_; (try clear hb); (try clear hb2); (try clear hk); (try clear hi)))
    go_ret
    exact ⟨by first | rfl | (simp [yl, ym] <;> rfl) | (simp [*, yl, ym] <;> rfl), by repeat (with_reducible first | exact HB.out | apply zd | apply zb | apply zc)⟩
def purl_keyText.f (k : Nat) (a0_0 : ByteArray) (a0_1 : ByteArray) (a0_2 : ByteArray) (a0_3 : ByteArray) (l0_4 : List (S64)) (a0_5 : ByteArray) : Option (ByteArray) := if 4 + a0_0.size ≤ 9223372036854775807 then (if ((⟨#[112, 107, 103, 58]⟩ : ByteArray) ++ a0_0).size + 1 ≤ 9223372036854775807 then (if a0_1.toList = ([] : List UInt8) then ((purl_escaped.f a0_2).bind fun t307 => (if (((⟨#[112, 107, 103, 58]⟩ : ByteArray) ++ a0_0) ++ (⟨#[47]⟩ : ByteArray)).size + t307.size ≤ 9223372036854775807 then (some ((((⟨#[112, 107, 103, 58]⟩ : ByteArray) ++ a0_0) ++ (⟨#[47]⟩ : ByteArray)) ++ t307)) else (none))) else ((purl_path.f k a0_1).bind fun t308 => (if t308.size + 1 ≤ 9223372036854775807 then (if (((⟨#[112, 107, 103, 58]⟩ : ByteArray) ++ a0_0) ++ (⟨#[47]⟩ : ByteArray)).size + (t308 ++ (⟨#[47]⟩ : ByteArray)).size ≤ 9223372036854775807 then ((purl_escaped.f a0_2).bind fun t309 => (if ((((⟨#[112, 107, 103, 58]⟩ : ByteArray) ++ a0_0) ++ (⟨#[47]⟩ : ByteArray)) ++ (t308 ++ (⟨#[47]⟩ : ByteArray))).size + t309.size ≤ 9223372036854775807 then (some (((((⟨#[112, 107, 103, 58]⟩ : ByteArray) ++ a0_0) ++ (⟨#[47]⟩ : ByteArray)) ++ (t308 ++ (⟨#[47]⟩ : ByteArray))) ++ t309)) else (none))) else (none)) else (none)))) else (none)) else (none)
theorem purl_keyText.mono : ∀ a0 a1 a2 a3 a4 a5 k, LeO (purl_keyText.f k a0 a1 a2 a3 a4 a5) (purl_keyText.f (k + 1) a0 a1 a2 a3 a4 a5) := by
 intro a0 a1 a2 a3 a4 a5 k
 unfold purl_keyText.f
 repeat' first
   | (with_reducible exact ya _)
   | (with_reducible exact yb _)
   | (with_reducible refine zZ ?_ ?_)
   | (with_reducible refine zY ?_ (fun _ => ?_))
   | exact purl_path.mono _ _
   | exact yb _
   | refine zZ ?_ ?_
   | refine zY ?_ (fun _ => ?_)
set_option maxHeartbeats 8000000 in
set_option maxRecDepth 100000 in
theorem purl_keyText.calls (k : Nat) (a0_0 : ByteArray) (a0_1 : ByteArray) (a0_2 : ByteArray) (a0_3 : ByteArray) (A0_4 : Option Addr) (c0_4 : Nat) (l0_4 : List (S64)) (a0_5 : ByteArray) (r : ByteArray) (w : World) (hr0_4 : Kd.C k64 w A0_4 l0_4.length l0_4) (hc0_4 : l0_4.length ≤ c0_4) (h : purl_keyText.f k a0_0 a0_1 a0_2 a0_3 l0_4 a0_5 = some r) :
  Calls Tryd.prog 52 #[.agg #[.string a0_0, .string a0_1, .string a0_2, .string a0_3, .slice A0_4 l0_4.length c0_4, .string a0_5]] w fun e w' => e = .returned (.string r) ∧ Below w.heap.size w w' := by
 have hu24 := Tryd.underlying24
 have HR0_4 := Aq.mk hr0_4
 have HC0_4 := Aq.mk hc0_4
 clear hr0_4 hc0_4
 have HB := Aq.mk (Below.refl w.heap.size w)
 have H : (if 4 + a0_0.size ≤ 9223372036854775807 then (if ((⟨#[112, 107, 103, 58]⟩ : ByteArray) ++ a0_0).size + 1 ≤ 9223372036854775807 then (if a0_1.toList = ([] : List UInt8) then ((purl_escaped.f a0_2).bind fun t307 => (if (((⟨#[112, 107, 103, 58]⟩ : ByteArray) ++ a0_0) ++ (⟨#[47]⟩ : ByteArray)).size + t307.size ≤ 9223372036854775807 then (some ((((⟨#[112, 107, 103, 58]⟩ : ByteArray) ++ a0_0) ++ (⟨#[47]⟩ : ByteArray)) ++ t307)) else (none))) else ((purl_path.f k a0_1).bind fun t308 => (if t308.size + 1 ≤ 9223372036854775807 then (if (((⟨#[112, 107, 103, 58]⟩ : ByteArray) ++ a0_0) ++ (⟨#[47]⟩ : ByteArray)).size + (t308 ++ (⟨#[47]⟩ : ByteArray)).size ≤ 9223372036854775807 then ((purl_escaped.f a0_2).bind fun t309 => (if ((((⟨#[112, 107, 103, 58]⟩ : ByteArray) ++ a0_0) ++ (⟨#[47]⟩ : ByteArray)) ++ (t308 ++ (⟨#[47]⟩ : ByteArray))).size + t309.size ≤ 9223372036854775807 then (some (((((⟨#[112, 107, 103, 58]⟩ : ByteArray) ++ a0_0) ++ (⟨#[47]⟩ : ByteArray)) ++ (t308 ++ (⟨#[47]⟩ : ByteArray))) ++ t309)) else (none))) else (none)) else (none)))) else (none)) else (none)) = some r := h
 clear h
 by_cases c2 : 4 + a0_0.size ≤ 9223372036854775807
 ·rw [if_pos c2] at H
  have c2b0 := eq_true c2
  have c2b1 : decide (4 + a0_0.size ≤ 9223372036854775807) = true := zk c2
  try have c2b2 : (9223372036854775807 < 4 + a0_0.size) = False := eq_false (Nat.not_lt.2 c2)
  by_cases c3 : ((⟨#[112, 107, 103, 58]⟩ : ByteArray) ++ a0_0).size + 1 ≤ 9223372036854775807
  ·rw [if_pos c3] at H
   have c3b0 := eq_true c3
   have c3b1 : decide (((⟨#[112, 107, 103, 58]⟩ : ByteArray) ++ a0_0).size + 1 ≤ 9223372036854775807) = true := zk c3
   try have c3b2 : (9223372036854775807 < ((⟨#[112, 107, 103, 58]⟩ : ByteArray) ++ a0_0).size + 1) = False := eq_false (Nat.not_lt.2 c3)
   try have c3b3 : (9223372036854775807 < 4 + a0_0.size + 1) = False := by have h_ := c3; simp only [ByteArray.size_append] at h_; exact eq_false (Nat.not_lt.2 h_)
   try have c3b4 : (4 + a0_0.size + 1 ≤ 9223372036854775807) = True := by have h_ := c3; simp only [ByteArray.size_append] at h_; exact eq_true h_
   by_cases c4 : a0_1.toList = ([] : List UInt8)
   ·rw [if_pos c4] at H
    have c4b0 : (a0_1.toList == ([] : List UInt8)) = true := yc.mpr c4
    have c4b1 : (a0_1.toList != ([] : List UInt8)) = false := yf.mpr c4
    clear c4
    replace H := zu.mp H
    obtain ⟨t307, A50, H⟩ := H
    replace H : (if (((⟨#[112, 107, 103, 58]⟩ : ByteArray) ++ a0_0) ++ (⟨#[47]⟩ : ByteArray)).size + t307.size ≤ 9223372036854775807 then (some ((((⟨#[112, 107, 103, 58]⟩ : ByteArray) ++ a0_0) ++ (⟨#[47]⟩ : ByteArray)) ++ t307)) else (none)) = some r := H
    have A5 := Aq.mk A50
    clear A50
    by_cases c6 : (((⟨#[112, 107, 103, 58]⟩ : ByteArray) ++ a0_0) ++ (⟨#[47]⟩ : ByteArray)).size + t307.size ≤ 9223372036854775807
    ·rw [if_pos c6] at H
     have c6b0 := eq_true c6
     have c6b1 : decide ((((⟨#[112, 107, 103, 58]⟩ : ByteArray) ++ a0_0) ++ (⟨#[47]⟩ : ByteArray)).size + t307.size ≤ 9223372036854775807) = true := zk c6
     try have c6b2 : (9223372036854775807 < (((⟨#[112, 107, 103, 58]⟩ : ByteArray) ++ a0_0) ++ (⟨#[47]⟩ : ByteArray)).size + t307.size) = False := eq_false (Nat.not_lt.2 c6)
     try have c6b3 : (9223372036854775807 < 4 + a0_0.size + 1 + t307.size) = False := by have h_ := c6; simp only [ByteArray.size_append] at h_; exact eq_false (Nat.not_lt.2 h_)
     try have c6b4 : (4 + a0_0.size + 1 + t307.size ≤ 9223372036854775807) = True := by have h_ := c6; simp only [ByteArray.size_append] at h_; exact eq_true h_
     obtain rfl := yg H
     simp only [zH, zI] at H
     obtain ⟨rfl⟩ := H
     go_enter Tryd.func52, Tryd.ntmps52
     go_wp2_with (first | ((with_reducible refine gate_dst (N := 1) rfl ?_); refine box_event ?hg (N := 1) ?hd (cs := #[.string a0_0, .string a0_1, .string a0_2, .string a0_3, .slice A0_4 l0_4.length c0_4, .string a0_5]) (t := 24) ?hr ?_; (case hd => rfl); (case hg => rfl); (case hr => first | (go_simp; done) | (go_simp; rfl)); intro gb306 hg w7 hbox hb; have n0_ := Aq.mk (zv (by repeat (with_reducible first | exact HB.out | apply zd | apply zb | apply zc)) hb); have n1_ := Aq.mk (hbox); have n2_ := Aq.mk ((by rw [hg]; exact (zz (by repeat (with_reducible first | exact HB.out | apply zd | apply zb | apply zc))) : w.heap.size ≤ gb306)); have n3_ := Aq.mk ((by rw [hg]; exact (zz (by repeat (with_reducible first | exact HB.out | apply zd | apply zb | apply zc))) : w.heap.size ≤ gb306)); clear HB; have HB := n0_; have BK306 := n1_; have GW306 := n2_; have GE306 := n3_; clear n0_ n1_ n2_ n3_; clear hb hbox hg; have hcz8_0 : w7.cell? ⟨gb306, 0, none⟩ = some (.string a0_0) := (ze BK306.out 0).trans rfl; have hcz8_1 : w7.cell? ⟨gb306, 1, none⟩ = some (.string a0_1) := (ze BK306.out 1).trans rfl; have hcz8_2 : w7.cell? ⟨gb306, 2, none⟩ = some (.string a0_2) := (ze BK306.out 2).trans rfl; have hcz8_3 : w7.cell? ⟨gb306, 3, none⟩ = some (.string a0_3) := (ze BK306.out 3).trans rfl; have hcz8_4 : w7.cell? ⟨gb306, 4, none⟩ = some (.slice A0_4 l0_4.length c0_4) := (ze BK306.out 4).trans rfl; have hcz8_5 : w7.cell? ⟨gb306, 5, none⟩ = some (.string a0_5) := (ze BK306.out 5).trans rfl; have hfz8_0 := za BK306.out 0; have hfz8_1 := za BK306.out 1; have hfz8_2 := za BK306.out 2; have hfz8_3 := za BK306.out 3; have hfz8_4 := za BK306.out 4; have hfz8_5 := za BK306.out 5) | ((with_reducible refine gate_callee (f := 53) rfl ?_); refine goesL_ (some 20) rfl rfl Tryd.func53 (by kernel_rfl) rfl #[.string a0_2] rfl (by (try simp only [zP, zQ, zR]); first | done | rfl | (simp only [zS, zT]; rfl)) ?_; (with_reducible refine (purl_escaped.calls a0_2 t307 _ A5.out).mono ?_); rintro e w9 ⟨rfl, hb⟩; refine ⟨_, rfl, ?_⟩; have n0_ := Aq.mk (zw (g := gb306) (o := .cells #[.string a0_0, .string a0_1, .string a0_2, .string a0_3, .slice A0_4 l0_4.length c0_4, .string a0_5] 24 (0, 0)) (by (with_reducible repeat (first | refine zg ?_ _ | refine zi ?_ | refine zh ?_ _)); exact BK306.out) hb); have n1_ := Aq.mk (zv (by repeat (with_reducible first | exact HB.out | apply zd | apply zb | apply zc | refine zf ?_ GE306.out)) hb); clear BK306; clear HB; have BK306 := n0_; have HB := n1_; clear n0_ n1_; (try clear hb); (try clear hb2); (try clear hk); (try clear hi)))
     go_ret
     exact ⟨by first | rfl | (simp [yl, ym] <;> rfl) | (simp [*, yl, ym] <;> rfl), by repeat (with_reducible first | exact HB.out | apply zd | apply zb | apply zc | refine zf ?_ GE306.out)⟩
    ·rw [if_neg c6] at H
     exact absurd H (by simp)
   ·rw [if_neg c4] at H
    have c4b0 : (a0_1.toList == ([] : List UInt8)) = false := ye.mpr c4
    have c4b1 : (a0_1.toList != ([] : List UInt8)) = true := yd.mpr c4
    replace H := zu.mp H
    obtain ⟨t308, A100, H⟩ := H
    replace H : (if t308.size + 1 ≤ 9223372036854775807 then (if (((⟨#[112, 107, 103, 58]⟩ : ByteArray) ++ a0_0) ++ (⟨#[47]⟩ : ByteArray)).size + (t308 ++ (⟨#[47]⟩ : ByteArray)).size ≤ 9223372036854775807 then ((purl_escaped.f a0_2).bind fun t309 => (if ((((⟨#[112, 107, 103, 58]⟩ : ByteArray) ++ a0_0) ++ (⟨#[47]⟩ : ByteArray)) ++ (t308 ++ (⟨#[47]⟩ : ByteArray))).size + t309.size ≤ 9223372036854775807 then (some (((((⟨#[112, 107, 103, 58]⟩ : ByteArray) ++ a0_0) ++ (⟨#[47]⟩ : ByteArray)) ++ (t308 ++ (⟨#[47]⟩ : ByteArray))) ++ t309)) else (none))) else (none)) else (none)) = some r := H
    have A10 := Aq.mk A100
    clear A100
    by_cases c11 : t308.size + 1 ≤ 9223372036854775807
    ·rw [if_pos c11] at H
     have c11b0 := eq_true c11
     have c11b1 : decide (t308.size + 1 ≤ 9223372036854775807) = true := zk c11
     try have c11b2 : (9223372036854775807 < t308.size + 1) = False := eq_false (Nat.not_lt.2 c11)
     by_cases c12 : (((⟨#[112, 107, 103, 58]⟩ : ByteArray) ++ a0_0) ++ (⟨#[47]⟩ : ByteArray)).size + (t308 ++ (⟨#[47]⟩ : ByteArray)).size ≤ 9223372036854775807
     ·rw [if_pos c12] at H
      have c12b0 := eq_true c12
      have c12b1 : decide ((((⟨#[112, 107, 103, 58]⟩ : ByteArray) ++ a0_0) ++ (⟨#[47]⟩ : ByteArray)).size + (t308 ++ (⟨#[47]⟩ : ByteArray)).size ≤ 9223372036854775807) = true := zk c12
      try have c12b2 : (9223372036854775807 < (((⟨#[112, 107, 103, 58]⟩ : ByteArray) ++ a0_0) ++ (⟨#[47]⟩ : ByteArray)).size + (t308 ++ (⟨#[47]⟩ : ByteArray)).size) = False := eq_false (Nat.not_lt.2 c12)
      try have c12b3 : (9223372036854775807 < 4 + a0_0.size + 1 + (t308.size + 1)) = False := by have h_ := c12; simp only [ByteArray.size_append] at h_; exact eq_false (Nat.not_lt.2 h_)
      try have c12b4 : (4 + a0_0.size + 1 + (t308.size + 1) ≤ 9223372036854775807) = True := by have h_ := c12; simp only [ByteArray.size_append] at h_; exact eq_true h_
      replace H := zu.mp H
      obtain ⟨t309, A130, H⟩ := H
      replace H : (if ((((⟨#[112, 107, 103, 58]⟩ : ByteArray) ++ a0_0) ++ (⟨#[47]⟩ : ByteArray)) ++ (t308 ++ (⟨#[47]⟩ : ByteArray))).size + t309.size ≤ 9223372036854775807 then (some (((((⟨#[112, 107, 103, 58]⟩ : ByteArray) ++ a0_0) ++ (⟨#[47]⟩ : ByteArray)) ++ (t308 ++ (⟨#[47]⟩ : ByteArray))) ++ t309)) else (none)) = some r := H
      have A13 := Aq.mk A130
      clear A130
      by_cases c14 : ((((⟨#[112, 107, 103, 58]⟩ : ByteArray) ++ a0_0) ++ (⟨#[47]⟩ : ByteArray)) ++ (t308 ++ (⟨#[47]⟩ : ByteArray))).size + t309.size ≤ 9223372036854775807
      ·rw [if_pos c14] at H
       have c14b0 := eq_true c14
       have c14b1 : decide (((((⟨#[112, 107, 103, 58]⟩ : ByteArray) ++ a0_0) ++ (⟨#[47]⟩ : ByteArray)) ++ (t308 ++ (⟨#[47]⟩ : ByteArray))).size + t309.size ≤ 9223372036854775807) = true := zk c14
       try have c14b2 : (9223372036854775807 < ((((⟨#[112, 107, 103, 58]⟩ : ByteArray) ++ a0_0) ++ (⟨#[47]⟩ : ByteArray)) ++ (t308 ++ (⟨#[47]⟩ : ByteArray))).size + t309.size) = False := eq_false (Nat.not_lt.2 c14)
       try have c14b3 : (9223372036854775807 < 4 + a0_0.size + 1 + (t308.size + 1) + t309.size) = False := by have h_ := c14; simp only [ByteArray.size_append] at h_; exact eq_false (Nat.not_lt.2 h_)
       try have c14b4 : (4 + a0_0.size + 1 + (t308.size + 1) + t309.size ≤ 9223372036854775807) = True := by have h_ := c14; simp only [ByteArray.size_append] at h_; exact eq_true h_
       obtain rfl := yg H
       simp only [zH, zI] at H
       obtain ⟨rfl⟩ := H
       go_enter Tryd.func52, Tryd.ntmps52
       go_wp2_with (first | ((with_reducible refine gate_dst (N := 1) rfl ?_); refine box_event ?hg (N := 1) ?hd (cs := #[.string a0_0, .string a0_1, .string a0_2, .string a0_3, .slice A0_4 l0_4.length c0_4, .string a0_5]) (t := 24) ?hr ?_; (case hd => rfl); (case hg => rfl); (case hr => first | (go_simp; done) | (go_simp; rfl)); intro gb306 hg w15 hbox hb; have n0_ := Aq.mk (zv (by repeat (with_reducible first | exact HB.out | apply zd | apply zb | apply zc)) hb); have n1_ := Aq.mk (hbox); have n2_ := Aq.mk ((by rw [hg]; exact (zz (by repeat (with_reducible first | exact HB.out | apply zd | apply zb | apply zc))) : w.heap.size ≤ gb306)); have n3_ := Aq.mk ((by rw [hg]; exact (zz (by repeat (with_reducible first | exact HB.out | apply zd | apply zb | apply zc))) : w.heap.size ≤ gb306)); clear HB; have HB := n0_; have BK306 := n1_; have GW306 := n2_; have GE306 := n3_; clear n0_ n1_ n2_ n3_; clear hb hbox hg; have hcz16_0 : w15.cell? ⟨gb306, 0, none⟩ = some (.string a0_0) := (ze BK306.out 0).trans rfl; have hcz16_1 : w15.cell? ⟨gb306, 1, none⟩ = some (.string a0_1) := (ze BK306.out 1).trans rfl; have hcz16_2 : w15.cell? ⟨gb306, 2, none⟩ = some (.string a0_2) := (ze BK306.out 2).trans rfl; have hcz16_3 : w15.cell? ⟨gb306, 3, none⟩ = some (.string a0_3) := (ze BK306.out 3).trans rfl; have hcz16_4 : w15.cell? ⟨gb306, 4, none⟩ = some (.slice A0_4 l0_4.length c0_4) := (ze BK306.out 4).trans rfl; have hcz16_5 : w15.cell? ⟨gb306, 5, none⟩ = some (.string a0_5) := (ze BK306.out 5).trans rfl; have hfz16_0 := za BK306.out 0; have hfz16_1 := za BK306.out 1; have hfz16_2 := za BK306.out 2; have hfz16_3 := za BK306.out 3; have hfz16_4 := za BK306.out 4; have hfz16_5 := za BK306.out 5) | ((with_reducible refine gate_callee (f := 54) rfl ?_); refine goesL_ (some 14) rfl rfl Tryd.func54 (by kernel_rfl) rfl #[.string a0_1] rfl (by (try simp only [zP, zQ, zR]); first | done | rfl | (simp only [zS, zT]; rfl)) ?_; (with_reducible refine (purl_path.calls k a0_1 t308 _ A10.out).mono ?_); rintro e w17 ⟨rfl, hb⟩; refine ⟨_, rfl, ?_⟩; have n0_ := Aq.mk (zw (g := gb306) (o := .cells #[.string a0_0, .string a0_1, .string a0_2, .string a0_3, .slice A0_4 l0_4.length c0_4, .string a0_5] 24 (0, 0)) (by (with_reducible repeat (first | refine zg ?_ _ | refine zi ?_ | refine zh ?_ _)); exact BK306.out) hb); have n1_ := Aq.mk (zv (by repeat (with_reducible first | exact HB.out | apply zd | apply zb | apply zc | refine zf ?_ GE306.out)) hb); clear BK306; clear HB; have BK306 := n0_; have HB := n1_; clear n0_ n1_; (try clear hb); (try clear hb2); (try clear hk); (try clear hi); have hcz18_0 : w17.cell? ⟨gb306, 0, none⟩ = some (.string a0_0) := (ze BK306.out 0).trans rfl; have hcz18_1 : w17.cell? ⟨gb306, 1, none⟩ = some (.string a0_1) := (ze BK306.out 1).trans rfl; have hcz18_2 : w17.cell? ⟨gb306, 2, none⟩ = some (.string a0_2) := (ze BK306.out 2).trans rfl; have hcz18_3 : w17.cell? ⟨gb306, 3, none⟩ = some (.string a0_3) := (ze BK306.out 3).trans rfl; have hcz18_4 : w17.cell? ⟨gb306, 4, none⟩ = some (.slice A0_4 l0_4.length c0_4) := (ze BK306.out 4).trans rfl; have hcz18_5 : w17.cell? ⟨gb306, 5, none⟩ = some (.string a0_5) := (ze BK306.out 5).trans rfl; have hfz18_0 := za BK306.out 0; have hfz18_1 := za BK306.out 1; have hfz18_2 := za BK306.out 2; have hfz18_3 := za BK306.out 3; have hfz18_4 := za BK306.out 4; have hfz18_5 := za BK306.out 5) | ((with_reducible refine gate_callee (f := 53) rfl ?_); refine goesL_ (some 20) rfl rfl Tryd.func53 (by kernel_rfl) rfl #[.string a0_2] rfl (by (try simp only [zP, zQ, zR]); first | done | rfl | (simp only [zS, zT]; rfl)) ?_; (with_reducible refine (purl_escaped.calls a0_2 t309 _ A13.out).mono ?_); rintro e w19 ⟨rfl, hb⟩; refine ⟨_, rfl, ?_⟩; have n0_ := Aq.mk (zw (g := gb306) (o := .cells #[.string a0_0, .string a0_1, .string a0_2, .string a0_3, .slice A0_4 l0_4.length c0_4, .string a0_5] 24 (0, 0)) (by (with_reducible repeat (first | refine zg ?_ _ | refine zi ?_ | refine zh ?_ _)); exact BK306.out) hb); have n1_ := Aq.mk (zv (by repeat (with_reducible first | exact HB.out | apply zd | apply zb | apply zc | refine zf ?_ GE306.out)) hb); clear BK306; clear HB; have BK306 := n0_; have HB := n1_; clear n0_ n1_; (try clear hb); (try clear hb2); (try clear hk); (try clear hi)))
       go_ret
       exact ⟨by first | rfl | (simp [yl, ym] <;> rfl) | (simp [*, yl, ym] <;> rfl), by repeat (with_reducible first | exact HB.out | apply zd | apply zb | apply zc | refine zf ?_ GE306.out)⟩
      ·rw [if_neg c14] at H
       exact absurd H (by simp)
     ·rw [if_neg c12] at H
      exact absurd H (by simp)
    ·rw [if_neg c11] at H
     exact absurd H (by simp)
  ·rw [if_neg c3] at H
   exact absurd H (by simp)
 ·rw [if_neg c2] at H
  exact absurd H (by simp)
end Go.Proofs.YtmnfjbmhlabdaaaDoor.Pr
