-- Written by a program of the session (wip/pr.py) out of the translation; Lean checks it.
import Derived.Test.YtmnfjbmhlabdaaaDoorDXa
import Derived.Test.YtmnfjbmhlabdaaaDoorDXb
import Derived.Test.YtmnfjbmhlabdaaaDoorDPrx0
import Derived.Test.YtmnfjbmhlabdaaaDoorDPrx4
import Derived.Test.YtmnfjbmhlabdaaaDoorDEc
namespace Go.Proofs.YtmnfjbmhlabdaaaDoor.Pr
open Go.RowKit Go.Proofs.YtmnfjbmhlabdaaaDoorW.PrintWords Go.Proofs.YtmnfjbmhlabdaaaDoorW.PrintLast Go.Proofs.YtmnfjbmhlabdaaaDoorW.PrintMore
attribute [local go_sem] max2_int min2_int max_two min_two max_three min_three max_four min_four   -- for this text's walks alone
set_option linter.unusedVariables false
set_option linter.unusedSimpArgs false
/-! ### purl_hex: function 120 -/
mutual
def purl_hex.j0 : Nat → Int → Bool → Option (Int)
 | 0, _, _ => none
 | k + 1, x0, x3 => if x3 = true then (some ((x0 - 48) % 256)) else (if x0 ≥ 97 then (purl_hex.j1 k x0 (decide (x0 ≤ 102))) else (purl_hex.j1 k x0 false))
def purl_hex.j1 : Nat → Int → Bool → Option (Int)
 | 0, _, _ => none
 | k + 1, x0, x13 => if x13 = true then (some (((x0 - 97) % 256) + 10)) else (if x0 ≥ 65 then (if x0 ≤ 70 then (some (((x0 - 65) % 256) + 10)) else (some (-1))) else (some (-1)))
end
def purl_hex.f (k : Nat) (a0 : Int) : Option (Int) := if a0 ≥ 48 then (purl_hex.j0 k a0 (decide (a0 ≤ 57))) else (purl_hex.j0 k a0 false)
theorem purl_hex.mono_l : ∀ k, (∀ y0 y1, LeO (purl_hex.j0 k y0 y1) (purl_hex.j0 (k + 1) y0 y1)) ∧ (∀ y0 y1, LeO (purl_hex.j1 k y0 y1) (purl_hex.j1 (k + 1) y0 y1))
 | 0 => ⟨fun _ _ r h => by simp [purl_hex.j0] at h, fun _ _ r h => by simp [purl_hex.j1] at h⟩
 | k + 1 => by
  obtain ⟨ih0, ih1⟩ := purl_hex.mono_l k
  refine ⟨?_, ?_⟩
  ·intro y0 y1
   unfold purl_hex.j0
   repeat' first
   | (with_reducible exact ih0 _ _)
   | (with_reducible exact ih1 _ _)
   | (with_reducible exact LeO.refl _)
   | (with_reducible exact LeO.none _)
   | (with_reducible refine LeO.ite ?_ ?_)
   | (with_reducible refine LeO.bind ?_ (fun _ => ?_))
   | exact ih0 _ _
   | exact ih1 _ _
   | exact LeO.none _
   | refine LeO.ite ?_ ?_
   | refine LeO.bind ?_ (fun _ => ?_)
  ·intro y0 y1
   unfold purl_hex.j1
   repeat' first
   | (with_reducible exact ih0 _ _)
   | (with_reducible exact ih1 _ _)
   | (with_reducible exact LeO.refl _)
   | (with_reducible exact LeO.none _)
   | (with_reducible refine LeO.ite ?_ ?_)
   | (with_reducible refine LeO.bind ?_ (fun _ => ?_))
   | exact ih0 _ _
   | exact ih1 _ _
   | exact LeO.none _
   | refine LeO.ite ?_ ?_
   | refine LeO.bind ?_ (fun _ => ?_)
theorem purl_hex.mono : ∀ a0 k, LeO (purl_hex.f k a0) (purl_hex.f (k + 1) a0) := by
 intro a0 k
 obtain ⟨ih0, ih1⟩ := purl_hex.mono_l k
 unfold purl_hex.f
 repeat' first
   | (with_reducible exact ih0 _ _)
   | (with_reducible exact ih1 _ _)
   | (with_reducible exact LeO.refl _)
   | (with_reducible exact LeO.none _)
   | (with_reducible refine LeO.ite ?_ ?_)
   | (with_reducible refine LeO.bind ?_ (fun _ => ?_))
   | exact ih0 _ _
   | exact ih1 _ _
   | exact LeO.none _
   | refine LeO.ite ?_ ?_
   | refine LeO.bind ?_ (fun _ => ?_)
set_option maxHeartbeats 8000000 in
set_option maxRecDepth 100000 in
theorem purl_hex.calls (k : Nat) (a0 : Int) (r : Int) (w : World) (h : purl_hex.f k a0 = some r) :
  Calls Tryd.prog 120 #[.int .u8 a0] w fun e w' => e = .returned (.int .i64 r) ∧ Drawn0 w w' := by
 have H : (if a0 ≥ 48 then (purl_hex.j0 k a0 (decide (a0 ≤ 57))) else (purl_hex.j0 k a0 false)) = some r := h
 clear h
 have HC2 := Aside0.mk H
 clear H
 go_enter Tryd.func120, Tryd.ntmps120
 go_upto_region 1 with (fail)
 go_cut [3] (fun v3 wc => ∃ (kq : Nat) (x3_1 : Bool), v3 = .bool x3_1 ∧ Aside0 (purl_hex.j0 kq a0 x3_1 = some r) ∧ Aside0 (kq ≤ k) ∧ Drawn0 w wc)
 case first =>
  have H := HC2.out
  clear HC2
  by_cases c3 : a0 ≥ 48
  ·rw [if_pos c3] at H
   have c3b0 : decide (48 ≤ a0) = true := zk c3
   clear c3
   (first | rw [c3b0] | (simp only [i64_w, i32_w]; rw [c3b0]) | skip)
   have H' := Aside0.mk H
   clear H
   go_wp2
   go_meet
   case rel => exact ⟨_, (decide (a0 ≤ 57)), (by first | rfl | (simp; done) | (simp [*]; done)), H', ⟨by first | omega | exact Nat.le_refl _⟩, by repeat (first | exact Drawn0.refl _ | apply Drawn0.step)⟩
  ·rw [if_neg c3] at H
   have c3b0 : decide (48 ≤ a0) = false := zl c3
   clear c3
   (first | rw [c3b0] | (simp only [i64_w, i32_w]; rw [c3b0]) | skip)
   have H' := Aside0.mk H
   clear H
   go_wp2
   go_meet
   case rel => exact ⟨_, (false), (by first | rfl | (simp; done) | (simp [*]; done)), H', ⟨by first | omega | exact Nat.le_refl _⟩, by repeat (first | exact Drawn0.refl _ | apply Drawn0.step)⟩
 case rest =>
  clear HC2
  try clear c1
  try clear p2
  try clear c3
  try clear c3b0
  obtain ⟨kq, x3_1, rfl, HA, HJ1, ⟨mc1, rfl⟩⟩ := hcut
  cases kq with
  | zero => exact absurd HA.out (by simp [purl_hex.j0])
  | succ kj1 =>
   have H := HA.out
   clear HA
   simp only [purl_hex.j0] at H
   by_cases c4 : x3_1 = true
   ·subst c4
    have H1 : (some ((a0 - 48) % 256)) = some r := by rw [if_pos rfl] at H; exact H
    clear H
    have H := H1
    clear H1
    obtain rfl := Option.some.inj H
    simp only [Option.some.injEq, Prod.mk.injEq] at H
    obtain ⟨rfl⟩ := H
    go_wp2
    go_ret
    exact ⟨by first | rfl | (simp; done) | (simp [*]; done), by repeat (first | exact Drawn0.refl _ | apply Drawn0.step)⟩
   ·replace c4 := Bool.eq_false_iff.mpr c4
    subst c4
    have H1 : (if a0 ≥ 97 then (purl_hex.j1 kj1 a0 (decide (a0 ≤ 102))) else (purl_hex.j1 kj1 a0 false)) = some r := by rw [if_neg (show ¬ (false = true) by decide)] at H; exact H
    clear H
    have H := H1
    clear H1
    have HC5 := Aside0.mk H
    clear H
    go_upto_region 3 with (fail)
    go_cut [13] (fun v13 wc => ∃ (kq : Nat) (x13_4 : Bool), v13 = .bool x13_4 ∧ Aside0 (purl_hex.j1 kq a0 x13_4 = some r) ∧ Aside0 (kq ≤ kj1) ∧ Drawn0 w wc)
    case first =>
     have H := HC5.out
     clear HC5
     by_cases c6 : a0 ≥ 97
     ·rw [if_pos c6] at H
      have c6b0 : decide (97 ≤ a0) = true := zk c6
      clear c6
      (first | rw [c6b0] | (simp only [i64_w, i32_w]; rw [c6b0]) | skip)
      have H' := Aside0.mk H
      clear H
      go_wp2
      go_meet
      case rel => exact ⟨_, (decide (a0 ≤ 102)), (by first | rfl | (simp; done) | (simp [*]; done)), H', ⟨by have := HJ1.out; first | omega | exact Nat.le_refl _⟩, by repeat (first | exact Drawn0.refl _ | apply Drawn0.step)⟩
     ·rw [if_neg c6] at H
      have c6b0 : decide (97 ≤ a0) = false := zl c6
      clear c6
      (first | rw [c6b0] | (simp only [i64_w, i32_w]; rw [c6b0]) | skip)
      have H' := Aside0.mk H
      clear H
      go_wp2
      go_meet
      case rel => exact ⟨_, (false), (by first | rfl | (simp; done) | (simp [*]; done)), H', ⟨by have := HJ1.out; first | omega | exact Nat.le_refl _⟩, by repeat (first | exact Drawn0.refl _ | apply Drawn0.step)⟩
    case rest =>
     clear HC5
     try clear c1
     try clear p2
     try clear c3
     try clear c3b0
     try clear c4
     try clear c6
     try clear c6b0
     try clear p2
     obtain ⟨kq, x13_4, rfl, HA, HJ4, ⟨mc4, rfl⟩⟩ := hcut
     cases kq with
     | zero => exact absurd HA.out (by simp [purl_hex.j1])
     | succ kj4 =>
      have H := HA.out
      clear HA
      simp only [purl_hex.j1] at H
      by_cases c7 : x13_4 = true
      ·subst c7
       have H1 : (some (((a0 - 97) % 256) + 10)) = some r := by rw [if_pos rfl] at H; exact H
       clear H
       have H := H1
       clear H1
       obtain rfl := Option.some.inj H
       simp only [Option.some.injEq, Prod.mk.injEq] at H
       obtain ⟨rfl⟩ := H
       go_wp2
       go_ret
       exact ⟨by first | rfl | (simp; done) | (simp [*]; done), by repeat (first | exact Drawn0.refl _ | apply Drawn0.step)⟩
      ·replace c7 := Bool.eq_false_iff.mpr c7
       subst c7
       have H1 : (if a0 ≥ 65 then (if a0 ≤ 70 then (some (((a0 - 65) % 256) + 10)) else (some (-1))) else (some (-1))) = some r := by rw [if_neg (show ¬ (false = true) by decide)] at H; exact H
       clear H
       have H := H1
       clear H1
       by_cases c8 : a0 ≥ 65
       ·rw [if_pos c8] at H
        have c8b0 : decide (65 ≤ a0) = true := zk c8
        clear c8
        by_cases c9 : a0 ≤ 70
        ·rw [if_pos c9] at H
         have c9b0 : decide (a0 ≤ 70) = true := zk c9
         clear c9
         obtain rfl := Option.some.inj H
         simp only [Option.some.injEq, Prod.mk.injEq] at H
         obtain ⟨rfl⟩ := H
         go_wp2
         go_ret
         exact ⟨by first | rfl | (simp; done) | (simp [*]; done), by repeat (first | exact Drawn0.refl _ | apply Drawn0.step)⟩
        ·rw [if_neg c9] at H
         have c9b0 : decide (a0 ≤ 70) = false := zl c9
         clear c9
         obtain rfl := Option.some.inj H
         simp only [Option.some.injEq, Prod.mk.injEq] at H
         obtain ⟨rfl⟩ := H
         go_wp2
         go_ret
         exact ⟨by first | rfl | (simp; done) | (simp [*]; done), by repeat (first | exact Drawn0.refl _ | apply Drawn0.step)⟩
       ·rw [if_neg c8] at H
        have c8b0 : decide (65 ≤ a0) = false := zl c8
        clear c8
        obtain rfl := Option.some.inj H
        simp only [Option.some.injEq, Prod.mk.injEq] at H
        obtain ⟨rfl⟩ := H
        go_wp2
        go_ret
        exact ⟨by first | rfl | (simp; done) | (simp [*]; done), by repeat (first | exact Drawn0.refl _ | apply Drawn0.step)⟩
/-! ### purl_reader_octet: function 123 -/
def purl_reader_octet.l0 : Nat → Int → Int → ByteArray → Int → Int → Option (Int × Bool × ByteArray × Int × Int)
 | 0, _, _, _, _, _ => none
 | k + 1, x5, x6, x1000, x1001, x1002 => if x6 ≤ 2 then (if (wrap64 (x1001 + x6)) < (x1000.size : Int) then (if 0 ≤ (wrap64 (x1001 + x6)) then ((purl_hex.f k (bt x1000 (wrap64 (x1001 + x6)))).bind fun t165 => (if t165 < 0 then ((purl_reader_fail.f x1000 x1001 x1002 (wrap64 (x1001 + x6))).bind fun bt166 => (some (0, false, bt166.1, bt166.2.1, bt166.2.2))) else (purl_reader_octet.l0 k (wrap64 ((wrap64 (16 * x5)) + t165)) (wrap64 (x6 + 1)) x1000 x1001 x1002))) else (none)) else (if (-1) < 0 then ((purl_reader_fail.f x1000 x1001 x1002 (wrap64 (x1001 + x6))).bind fun bt169 => (some (0, false, bt169.1, bt169.2.1, bt169.2.2))) else (purl_reader_octet.l0 k (wrap64 ((wrap64 (16 * x5)) + (-1))) (wrap64 (x6 + 1)) x1000 x1001 x1002))) else (some ((x5) % 256, true, x1000, wrap64 (x1001 + 3), x1002))
def purl_reader_octet.f (k : Nat) (s0_0 : ByteArray) (s0_1 : Int) (s0_2 : Int) : Option (Int × Bool × ByteArray × Int × Int) := if s0_1 ≥ (s0_0.size : Int) then (some (0, false, s0_0, s0_1, s0_2)) else (if 0 ≤ s0_1 then (if s0_1 < (s0_0.size : Int) then (if (bt s0_0 s0_1) = 37 then (purl_reader_octet.l0 k 0 1 s0_0 s0_1 s0_2) else (if (bt s0_0 s0_1) < 33 then (some (0, false, s0_0, s0_1, s0_2)) else (if (bt s0_0 s0_1) > 126 then (some (0, false, s0_0, s0_1, s0_2)) else ((lib_IndexByte.f (⟨#[47, 64, 63, 35, 38, 61]⟩ : ByteArray) (bt s0_0 s0_1)).bind fun t164 => (if t164 ≥ 0 then (some (0, false, s0_0, s0_1, s0_2)) else (some (bt s0_0 s0_1, true, s0_0, wrap64 (s0_1 + 1), s0_2))))))) else (none)) else (none))
theorem purl_reader_octet.mono_l : ∀ k, (∀ y0 y1 y2 y3 y4, LeO (purl_reader_octet.l0 k y0 y1 y2 y3 y4) (purl_reader_octet.l0 (k + 1) y0 y1 y2 y3 y4))
 | 0 => fun _ _ _ _ _ r h => by simp [purl_reader_octet.l0] at h
 | k + 1 => by
  have ih0 := purl_reader_octet.mono_l k
  ·intro y0 y1 y2 y3 y4
   unfold purl_reader_octet.l0
   repeat' first
   | (with_reducible exact ih0 _ _ _ _ _)
   | (with_reducible exact purl_hex.mono _ _)
   | (with_reducible exact LeO.refl _)
   | (with_reducible exact LeO.none _)
   | (with_reducible refine LeO.ite ?_ ?_)
   | (with_reducible refine LeO.bind ?_ (fun _ => ?_))
   | exact ih0 _ _ _ _ _
   | exact purl_hex.mono _ _
   | exact LeO.none _
   | refine LeO.ite ?_ ?_
   | refine LeO.bind ?_ (fun _ => ?_)
theorem purl_reader_octet.mono : ∀ a0 a1 a2 k, LeO (purl_reader_octet.f k a0 a1 a2) (purl_reader_octet.f (k + 1) a0 a1 a2) := by
 intro a0 a1 a2 k
 have ih0 := purl_reader_octet.mono_l k
 unfold purl_reader_octet.f
 repeat' first
   | (with_reducible exact ih0 _ _ _ _ _)
   | (with_reducible exact purl_hex.mono _ _)
   | (with_reducible exact LeO.refl _)
   | (with_reducible exact LeO.none _)
   | (with_reducible refine LeO.ite ?_ ?_)
   | (with_reducible refine LeO.bind ?_ (fun _ => ?_))
   | exact ih0 _ _ _ _ _
   | exact purl_hex.mono _ _
   | exact LeO.none _
   | refine LeO.ite ?_ ?_
   | refine LeO.bind ?_ (fun _ => ?_)
set_option maxHeartbeats 8000000 in
set_option maxRecDepth 100000 in
theorem purl_reader_octet.calls (k : Nat) (g : Nat) (s0_0 : ByteArray) (s0_1 : Int) (s0_2 : Int) (r1 : Int) (r2 : Bool) (r3 : ByteArray) (r4 : Int) (r5 : Int) (w0 w : World) (hI : IsS69 w0 w g s0_0 s0_1 s0_2) (hB : Below w0.heap.size w0 w) (h : purl_reader_octet.f k s0_0 s0_1 s0_2 = some (r1, r2, r3, r4, r5)) :
  Calls Tryd.prog 123 #[.pointer (some ⟨g, 0, none⟩)] w fun e w' => e = .returned (.tuple #[.int .u8 r1, .bool r2]) ∧ IsS69 w0 w' g r3 r4 r5 ∧ Below w0.heap.size w0 w' ∧ KeepBut w w' g none := by
 have HI0 := Aside0.mk hI
 have HK := Aside0.mk (KeepBut.refl w g none)
 have HL := Aside0.mk hB.size
 clear hI
 have HW0 := Aside0.mk hB.size
 have HB := Aside0.mk hB
 clear hB
 have H : (if s0_1 ≥ (s0_0.size : Int) then (some (0, false, s0_0, s0_1, s0_2)) else (if 0 ≤ s0_1 then (if s0_1 < (s0_0.size : Int) then (if (bt s0_0 s0_1) = 37 then (purl_reader_octet.l0 k 0 1 s0_0 s0_1 s0_2) else (if (bt s0_0 s0_1) < 33 then (some (0, false, s0_0, s0_1, s0_2)) else (if (bt s0_0 s0_1) > 126 then (some (0, false, s0_0, s0_1, s0_2)) else ((lib_IndexByte.f (⟨#[47, 64, 63, 35, 38, 61]⟩ : ByteArray) (bt s0_0 s0_1)).bind fun t164 => (if t164 ≥ 0 then (some (0, false, s0_0, s0_1, s0_2)) else (some (bt s0_0 s0_1, true, s0_0, wrap64 (s0_1 + 1), s0_2))))))) else (none)) else (none))) = some (r1, r2, r3, r4, r5) := h
 clear h
 by_cases c2 : s0_1 ≥ (s0_0.size : Int)
 ·rw [if_pos c2] at H
  have c2b0 : decide ((s0_0.size : Int) ≤ s0_1) = true := zk c2
  clear c2
  simp only [Option.some.injEq, Prod.mk.injEq] at H
  obtain ⟨rfl, rfl, rfl, rfl, rfl⟩ := H
  obtain ⟨HGz3, hgz3⟩ := HI0.out
  have hcz3_0 := cellS69_0 HGz3
  have hcz3_1 := cellS69_1 HGz3
  have hcz3_2 := cellS69_2 HGz3
  have hfz3_0 := za HGz3 0
  have hfz3_1 := za HGz3 1
  have hfz3_2 := za HGz3 2
  clear HGz3 hgz3
  go_enter Tryd.func123, Tryd.ntmps123
  go_wp2
  repeat (go_quiet (fail); try go_wp2)
  go_ret2
  exact ⟨by first | rfl | (simp [errW_none, errW_some] <;> rfl) | (simp [*, errW_none, errW_some] <;> rfl), by repeat (first | (with_reducible first | exact HI0.out | apply zn | apply zo | apply zp | apply zq | apply zr | apply zt) | exact HI0.out), by repeat (first | (with_reducible first | exact HB.out | apply zd | apply zb | apply zc | refine zf ?_ (IsS69.ge HI0.out)) | exact HB.out), by repeat (first | (with_reducible first | exact HK.out | apply zm | apply keep_drewN | apply keep_drew | apply keep_alloc) | exact HK.out)⟩
 ·rw [if_neg c2] at H
  have c2b0 : decide ((s0_0.size : Int) ≤ s0_1) = false := zl c2
  clear c2
  by_cases c4 : 0 ≤ s0_1
  ·rw [if_pos c4] at H
   have c4b0 : decide (0 ≤ s0_1) = true := zk c4
   clear c4
   by_cases c5 : s0_1 < (s0_0.size : Int)
   ·rw [if_pos c5] at H
    have c5b0 : decide (s0_1 < (s0_0.size : Int)) = true := zk c5
    clear c5
    by_cases c7 : (bt s0_0 s0_1) = 37
    ·rw [if_pos c7] at H
     have c7b0 : ((bt s0_0 s0_1) == 37) = true := beq_iff_eq.mpr c7
     have c7b1 : ((bt s0_0 s0_1) != 37) = false := bne_eq_false_iff_eq.mpr c7
     clear c7
     have H' := Aside0.mk H
     clear H
     obtain ⟨HGz8, hgz8⟩ := HI0.out
     have hcz8_0 := cellS69_0 HGz8
     have hcz8_1 := cellS69_1 HGz8
     have hcz8_2 := cellS69_2 HGz8
     have hfz8_0 := za HGz8 0
     have hfz8_1 := za HGz8 1
     have hfz8_2 := za HGz8 2
     clear HGz8 hgz8
     have p6 : 0 ≤ (s0_1 : Int) := zj (by first | (with_reducible assumption) | assumption)
     have q6 : s0_1 < (s0_0.size : Int) := zj (by first | (with_reducible assumption) | assumption)
     have hx6 := bt_at s0_0 s0_1
     replace p6 := eq_true p6
     replace q6 := eq_true q6
     go_enter Tryd.func123, Tryd.ntmps123
     go_wp2
     repeat (go_quiet (fail); try go_wp2)
     go_loopg [5, 6] k (fun kq v5 v6 w' => ∃ (x5_1 : Int) (x6_1 : Int) (x1000_1 : ByteArray) (x1001_1 : Int) (x1002_1 : Int), v5 = .int .i64 x5_1 ∧ v6 = .int .i64 x6_1 ∧ Aside0 (purl_reader_octet.l0 kq x5_1 x6_1 x1000_1 x1001_1 x1002_1 = some (r1, r2, r3, r4, r5)) ∧ Aside0 (kq ≤ k) ∧ Aside0 (IsS69 w0 w' g x1000_1 x1001_1 x1002_1) ∧ Aside0 (KeepBut w w' g none) ∧ Aside0 (Below w0.heap.size w0 w'))
     case atStart => exact ⟨(0), (1), (s0_0), (s0_1), (s0_2), (by first | rfl | (simp; done) | (simp [*]; done)), (by first | rfl | (simp; done) | (simp [*]; done)), H', ⟨Nat.le_refl _⟩, ⟨by repeat (first | (with_reducible first | exact HI0.out | apply zn | apply zo | apply zp | apply zq | apply zr | apply zt) | exact HI0.out)⟩, ⟨by repeat (first | (with_reducible first | exact HK.out | apply zm | apply keep_drewN | apply keep_drew | apply keep_alloc) | exact HK.out)⟩, ⟨by repeat (first | (with_reducible first | exact HB.out | apply zd | apply zb | apply zc | refine zf ?_ (IsS69.ge HI0.out)) | exact HB.out)⟩⟩
     case round =>
      clear H'
      try clear c1
      try clear c2
      try clear c2b0
      try clear p2
      try clear c4
      try clear c4b0
      try clear c5
      try clear c5b0
      try clear p6
      try clear q6
      try clear hx6
      try clear c7
      try clear c7b0
      try clear c7b1
      try clear hcz3_0
      try clear hcz3_1
      try clear hcz3_2
      try clear hcz8_0
      try clear hcz8_1
      try clear hcz8_2
      try clear hfz3_0
      try clear hfz3_1
      try clear hfz3_2
      try clear hfz8_0
      try clear hfz8_1
      try clear hfz8_2
      try clear p6
      try clear q6
      obtain ⟨x5_1, x6_1, x1000_1, x1001_1, x1002_1, rfl, rfl, HA, HK1, HI0, HK, HB⟩ := hrel
      cases gk with
      | zero => exact absurd HA.out (by simp [purl_reader_octet.l0])
      | succ k1 =>
       have H := HA.out
       clear HA
       simp only [purl_reader_octet.l0] at H
       by_cases c9 : x6_1 ≤ 2
       ·rw [if_pos c9] at H
        have c9b0 : decide (x6_1 ≤ 2) = true := zk c9
        clear c9
        by_cases c10 : (wrap64 (x1001_1 + x6_1)) < (x1000_1.size : Int)
        ·rw [if_pos c10] at H
         have c10b0 : decide ((wrap64 (x1001_1 + x6_1)) < (x1000_1.size : Int)) = true := zk c10
         clear c10
         obtain ⟨ji11, hji11⟩ : ∃ j_ : Int, (wrap64 (x1001_1 + x6_1)) = j_ := ⟨_, rfl⟩
         replace H : (if 0 ≤ (ji11) then ((purl_hex.f k1 (bt x1000_1 (ji11))).bind fun t165 => (if t165 < 0 then ((purl_reader_fail.f x1000_1 x1001_1 x1002_1 (ji11)).bind fun bt166 => (some (0, false, bt166.1, bt166.2.1, bt166.2.2))) else (purl_reader_octet.l0 k1 (wrap64 ((wrap64 (16 * x5_1)) + t165)) (wrap64 (x6_1 + 1)) x1000_1 x1001_1 x1002_1))) else (none)) = some (r1, r2, r3, r4, r5) := by first | (rw [hji11] at H; exact H) | (simp only [hji11] at H ⊢; exact H)
         (try rw [hji11] at c10b0)
         have hji11w : (IntKind.i64.wrap (x1001_1 + x6_1)) = ji11 := (i64_w _).trans hji11
         by_cases c12 : 0 ≤ (ji11)
         ·rw [if_pos c12] at H
          have c12b0 : decide (0 ≤ (ji11)) = true := zk c12
          clear c12
          replace H := zu.mp H
          obtain ⟨t165, A140, H⟩ := H
          replace H : (if t165 < 0 then ((purl_reader_fail.f x1000_1 x1001_1 x1002_1 (ji11)).bind fun bt166 => (some (0, false, bt166.1, bt166.2.1, bt166.2.2))) else (purl_reader_octet.l0 k1 (wrap64 ((wrap64 (16 * x5_1)) + t165)) (wrap64 (x6_1 + 1)) x1000_1 x1001_1 x1002_1)) = some (r1, r2, r3, r4, r5) := H
          have A14 := Aside0.mk A140
          clear A140
          by_cases c15 : t165 < 0
          ·rw [if_pos c15] at H
           have c15b0 : decide (t165 < 0) = true := zk c15
           clear c15
           replace H := zu.mp H
           obtain ⟨⟨t166, t167, t168⟩, A160, H⟩ := H
           replace H : (some (0, false, t166, t167, t168)) = some (r1, r2, r3, r4, r5) := H
           have A16 := Aside0.mk A160
           clear A160
           simp only [Option.some.injEq, Prod.mk.injEq] at H
           obtain ⟨rfl, rfl, rfl, rfl, rfl⟩ := H
           obtain ⟨HGz17, hgz17⟩ := HI0.out
           have hcz17_0 := cellS69_0 HGz17
           have hcz17_1 := cellS69_1 HGz17
           have hcz17_2 := cellS69_2 HGz17
           have hfz17_0 := za HGz17 0
           have hfz17_1 := za HGz17 1
           have hfz17_2 := za HGz17 2
           clear HGz17 hgz17
           have p13 : 0 ≤ ((ji11) : Int) := zj (by first | (with_reducible assumption) | assumption)
           have q13 : (ji11) < (x1000_1.size : Int) := zj (by first | (with_reducible assumption) | assumption)
           have hx13 := bt_at x1000_1 (ji11)
           replace p13 := eq_true p13
           replace q13 := eq_true q13
           go_wp2_with (first | (go_at_call 120; (with_reducible refine (purl_hex.calls k1 (bt x1000_1 (ji11)) t165 _ A14.out).mono ?_); rintro e w' ⟨rfl, ⟨nd, rfl⟩⟩; (try first | exact ⟨rfl, _, World.drewN_drewN _ _ _⟩ | exact ⟨rfl, _, Eq.trans (World.drewN_drewN _ _ _) (congrArg (World.drewN _) (Nat.add_assoc _ _ _))⟩)) | (go_at_call 97; (with_reducible refine (purl_reader_fail.calls g x1000_1 x1001_1 x1002_1 ji11 t166 t167 t168 w0 _ ?side1 ?side2 A16.out).mono ?_); (case side1 => repeat (first | (with_reducible first | exact HI0.out | apply zn | apply zo | apply zp | apply zq | apply zr | apply zt) | exact HI0.out)); (case side2 => repeat (first | (with_reducible first | exact HB.out | apply zd | apply zb | apply zc | refine zf ?_ (IsS69.ge HI0.out)) | exact HB.out)); rintro e w18 ⟨rfl, hi, hb, hk⟩; have n0_ := Aside0.mk (KeepBut.trans (by repeat (first | (with_reducible first | exact HK.out | apply zm | apply keep_drewN | apply keep_drew | apply keep_alloc) | exact HK.out)) hk (.inl rfl)); have n1_ := Aside0.mk (hb); have n2_ := Aside0.mk (hi); clear HK; clear HB; clear HI0; have HK := n0_; have HB := n1_; have HI0 := n2_; clear n0_ n1_ n2_; (try clear hb); (try clear hb2); (try clear hk); (try clear hi)))
           repeat (go_quiet (first | (go_at_call 120; (with_reducible refine (purl_hex.calls k1 (bt x1000_1 (ji11)) t165 _ A14.out).mono ?_); rintro e w' ⟨rfl, ⟨nd, rfl⟩⟩; (try first | exact ⟨rfl, _, World.drewN_drewN _ _ _⟩ | exact ⟨rfl, _, Eq.trans (World.drewN_drewN _ _ _) (congrArg (World.drewN _) (Nat.add_assoc _ _ _))⟩)) | (go_at_call 97; (with_reducible refine (purl_reader_fail.calls g x1000_1 x1001_1 x1002_1 ji11 t166 t167 t168 w0 _ ?side1 ?side2 A16.out).mono ?_); (case side1 => repeat (first | (with_reducible first | exact HI0.out | apply zn | apply zo | apply zp | apply zq | apply zr | apply zt) | exact HI0.out)); (case side2 => repeat (first | (with_reducible first | exact HB.out | apply zd | apply zb | apply zc | refine zf ?_ (IsS69.ge HI0.out)) | exact HB.out)); rintro e w18 ⟨rfl, hi, hb, hk⟩; have n0_ := Aside0.mk (KeepBut.trans (by repeat (first | (with_reducible first | exact HK.out | apply zm | apply keep_drewN | apply keep_drew | apply keep_alloc) | exact HK.out)) hk (.inl rfl)); have n1_ := Aside0.mk (hb); have n2_ := Aside0.mk (hi); clear HK; clear HB; clear HI0; have HK := n0_; have HB := n1_; have HI0 := n2_; clear n0_ n1_ n2_; (try clear hb); (try clear hb2); (try clear hk); (try clear hi))); try go_wp2_with (first | (go_at_call 120; (with_reducible refine (purl_hex.calls k1 (bt x1000_1 (ji11)) t165 _ A14.out).mono ?_); rintro e w' ⟨rfl, ⟨nd, rfl⟩⟩; (try first | exact ⟨rfl, _, World.drewN_drewN _ _ _⟩ | exact ⟨rfl, _, Eq.trans (World.drewN_drewN _ _ _) (congrArg (World.drewN _) (Nat.add_assoc _ _ _))⟩)) | (go_at_call 97; (with_reducible refine (purl_reader_fail.calls g x1000_1 x1001_1 x1002_1 ji11 t166 t167 t168 w0 _ ?side1 ?side2 A16.out).mono ?_); (case side1 => repeat (first | (with_reducible first | exact HI0.out | apply zn | apply zo | apply zp | apply zq | apply zr | apply zt) | exact HI0.out)); (case side2 => repeat (first | (with_reducible first | exact HB.out | apply zd | apply zb | apply zc | refine zf ?_ (IsS69.ge HI0.out)) | exact HB.out)); rintro e w18 ⟨rfl, hi, hb, hk⟩; have n0_ := Aside0.mk (KeepBut.trans (by repeat (first | (with_reducible first | exact HK.out | apply zm | apply keep_drewN | apply keep_drew | apply keep_alloc) | exact HK.out)) hk (.inl rfl)); have n1_ := Aside0.mk (hb); have n2_ := Aside0.mk (hi); clear HK; clear HB; clear HI0; have HK := n0_; have HB := n1_; have HI0 := n2_; clear n0_ n1_ n2_; (try clear hb); (try clear hb2); (try clear hk); (try clear hi))))
           go_ret2
           exact ⟨by first | rfl | (simp [errW_none, errW_some] <;> rfl) | (simp only [← hji11]; first | rfl | (simp [errW_none, errW_some] <;> rfl)) | (simp [*, errW_none, errW_some] <;> rfl), by repeat (first | (with_reducible first | exact HI0.out | apply zn | apply zo | apply zp | apply zq | apply zr | apply zt) | exact HI0.out), by repeat (first | (with_reducible first | exact HB.out | apply zd | apply zb | apply zc | refine zf ?_ (IsS69.ge HI0.out)) | exact HB.out), by repeat (first | (with_reducible first | exact HK.out | apply zm | apply keep_drewN | apply keep_drew | apply keep_alloc) | exact HK.out)⟩
          ·rw [if_neg c15] at H
           have c15b0 : decide (t165 < 0) = false := zl c15
           clear c15
           have H' := Aside0.mk H
           clear H
           obtain ⟨HGz19, hgz19⟩ := HI0.out
           have hcz19_0 := cellS69_0 HGz19
           have hcz19_1 := cellS69_1 HGz19
           have hcz19_2 := cellS69_2 HGz19
           have hfz19_0 := za HGz19 0
           have hfz19_1 := za HGz19 1
           have hfz19_2 := za HGz19 2
           clear HGz19 hgz19
           have p13 : 0 ≤ ((ji11) : Int) := zj (by first | (with_reducible assumption) | assumption)
           have q13 : (ji11) < (x1000_1.size : Int) := zj (by first | (with_reducible assumption) | assumption)
           have hx13 := bt_at x1000_1 (ji11)
           replace p13 := eq_true p13
           replace q13 := eq_true q13
           go_wp2_with (first | (go_at_call 120; (with_reducible refine (purl_hex.calls k1 (bt x1000_1 (ji11)) t165 _ A14.out).mono ?_); rintro e w' ⟨rfl, ⟨nd, rfl⟩⟩; (try first | exact ⟨rfl, _, World.drewN_drewN _ _ _⟩ | exact ⟨rfl, _, Eq.trans (World.drewN_drewN _ _ _) (congrArg (World.drewN _) (Nat.add_assoc _ _ _))⟩)))
           repeat (go_quiet (first | (go_at_call 120; (with_reducible refine (purl_hex.calls k1 (bt x1000_1 (ji11)) t165 _ A14.out).mono ?_); rintro e w' ⟨rfl, ⟨nd, rfl⟩⟩; (try first | exact ⟨rfl, _, World.drewN_drewN _ _ _⟩ | exact ⟨rfl, _, Eq.trans (World.drewN_drewN _ _ _) (congrArg (World.drewN _) (Nat.add_assoc _ _ _))⟩))); try go_wp2_with (first | (go_at_call 120; (with_reducible refine (purl_hex.calls k1 (bt x1000_1 (ji11)) t165 _ A14.out).mono ?_); rintro e w' ⟨rfl, ⟨nd, rfl⟩⟩; (try first | exact ⟨rfl, _, World.drewN_drewN _ _ _⟩ | exact ⟨rfl, _, Eq.trans (World.drewN_drewN _ _ _) (congrArg (World.drewN _) (Nat.add_assoc _ _ _))⟩))))
           go_roundg k1
           case measure => have := HK1.out; omega
           case rel => exact ⟨(wrap64 ((wrap64 (16 * x5_1)) + t165)), (wrap64 (x6_1 + 1)), (x1000_1), (x1001_1), (x1002_1), (by first | rfl | (simp; done) | (simp [*]; done)), (by first | rfl | (simp; done) | (simp [*]; done)), H', ⟨by have := HK1.out; omega⟩, ⟨by repeat (first | (with_reducible first | exact HI0.out | apply zn | apply zo | apply zp | apply zq | apply zr | apply zt) | exact HI0.out)⟩, ⟨by repeat (first | (with_reducible first | exact HK.out | apply zm | apply keep_drewN | apply keep_drew | apply keep_alloc) | exact HK.out)⟩, ⟨by repeat (first | (with_reducible first | exact HB.out | apply zd | apply zb | apply zc | refine zf ?_ (IsS69.ge HI0.out)) | exact HB.out)⟩⟩
         ·rw [if_neg c12] at H
          exact absurd H (by simp)
        ·rw [if_neg c10] at H
         have c10b0 : decide ((wrap64 (x1001_1 + x6_1)) < (x1000_1.size : Int)) = false := zl c10
         clear c10
         by_cases c20 : (-1) < 0
         ·rw [if_pos c20] at H
          have c20b0 : decide ((-1) < 0) = true := zk c20
          clear c20
          replace H := zu.mp H
          obtain ⟨⟨t169, t170, t171⟩, A210, H⟩ := H
          replace H : (some (0, false, t169, t170, t171)) = some (r1, r2, r3, r4, r5) := H
          have A21 := Aside0.mk A210
          clear A210
          simp only [Option.some.injEq, Prod.mk.injEq] at H
          obtain ⟨rfl, rfl, rfl, rfl, rfl⟩ := H
          obtain ⟨HGz22, hgz22⟩ := HI0.out
          have hcz22_0 := cellS69_0 HGz22
          have hcz22_1 := cellS69_1 HGz22
          have hcz22_2 := cellS69_2 HGz22
          have hfz22_0 := za HGz22 0
          have hfz22_1 := za HGz22 1
          have hfz22_2 := za HGz22 2
          clear HGz22 hgz22
          go_wp2_with (first | (go_at_call 97; (with_reducible refine (purl_reader_fail.calls g x1000_1 x1001_1 x1002_1 (wrap64 (x1001_1 + x6_1)) t169 t170 t171 w0 _ ?side1 ?side2 A21.out).mono ?_); (case side1 => repeat (first | (with_reducible first | exact HI0.out | apply zn | apply zo | apply zp | apply zq | apply zr | apply zt) | exact HI0.out)); (case side2 => repeat (first | (with_reducible first | exact HB.out | apply zd | apply zb | apply zc | refine zf ?_ (IsS69.ge HI0.out)) | exact HB.out)); rintro e w23 ⟨rfl, hi, hb, hk⟩; have n0_ := Aside0.mk (KeepBut.trans (by repeat (first | (with_reducible first | exact HK.out | apply zm | apply keep_drewN | apply keep_drew | apply keep_alloc) | exact HK.out)) hk (.inl rfl)); have n1_ := Aside0.mk (hb); have n2_ := Aside0.mk (hi); clear HK; clear HB; clear HI0; have HK := n0_; have HB := n1_; have HI0 := n2_; clear n0_ n1_ n2_; (try clear hb); (try clear hb2); (try clear hk); (try clear hi)))
          repeat (go_quiet (first | (go_at_call 97; (with_reducible refine (purl_reader_fail.calls g x1000_1 x1001_1 x1002_1 (wrap64 (x1001_1 + x6_1)) t169 t170 t171 w0 _ ?side1 ?side2 A21.out).mono ?_); (case side1 => repeat (first | (with_reducible first | exact HI0.out | apply zn | apply zo | apply zp | apply zq | apply zr | apply zt) | exact HI0.out)); (case side2 => repeat (first | (with_reducible first | exact HB.out | apply zd | apply zb | apply zc | refine zf ?_ (IsS69.ge HI0.out)) | exact HB.out)); rintro e w23 ⟨rfl, hi, hb, hk⟩; have n0_ := Aside0.mk (KeepBut.trans (by repeat (first | (with_reducible first | exact HK.out | apply zm | apply keep_drewN | apply keep_drew | apply keep_alloc) | exact HK.out)) hk (.inl rfl)); have n1_ := Aside0.mk (hb); have n2_ := Aside0.mk (hi); clear HK; clear HB; clear HI0; have HK := n0_; have HB := n1_; have HI0 := n2_; clear n0_ n1_ n2_; (try clear hb); (try clear hb2); (try clear hk); (try clear hi))); try go_wp2_with (first | (go_at_call 97; (with_reducible refine (purl_reader_fail.calls g x1000_1 x1001_1 x1002_1 (wrap64 (x1001_1 + x6_1)) t169 t170 t171 w0 _ ?side1 ?side2 A21.out).mono ?_); (case side1 => repeat (first | (with_reducible first | exact HI0.out | apply zn | apply zo | apply zp | apply zq | apply zr | apply zt) | exact HI0.out)); (case side2 => repeat (first | (with_reducible first | exact HB.out | apply zd | apply zb | apply zc | refine zf ?_ (IsS69.ge HI0.out)) | exact HB.out)); rintro e w23 ⟨rfl, hi, hb, hk⟩; have n0_ := Aside0.mk (KeepBut.trans (by repeat (first | (with_reducible first | exact HK.out | apply zm | apply keep_drewN | apply keep_drew | apply keep_alloc) | exact HK.out)) hk (.inl rfl)); have n1_ := Aside0.mk (hb); have n2_ := Aside0.mk (hi); clear HK; clear HB; clear HI0; have HK := n0_; have HB := n1_; have HI0 := n2_; clear n0_ n1_ n2_; (try clear hb); (try clear hb2); (try clear hk); (try clear hi))))
          go_ret2
          exact ⟨by first | rfl | (simp [errW_none, errW_some] <;> rfl) | (simp [*, errW_none, errW_some] <;> rfl), by repeat (first | (with_reducible first | exact HI0.out | apply zn | apply zo | apply zp | apply zq | apply zr | apply zt) | exact HI0.out), by repeat (first | (with_reducible first | exact HB.out | apply zd | apply zb | apply zc | refine zf ?_ (IsS69.ge HI0.out)) | exact HB.out), by repeat (first | (with_reducible first | exact HK.out | apply zm | apply keep_drewN | apply keep_drew | apply keep_alloc) | exact HK.out)⟩
         ·exact absurd (by decide : (-1 : Int) < 0) c20
       ·rw [if_neg c9] at H
        have c9b0 : decide (x6_1 ≤ 2) = false := zl c9
        clear c9
        simp only [Option.some.injEq, Prod.mk.injEq] at H
        obtain ⟨rfl, rfl, rfl, rfl, rfl⟩ := H
        obtain ⟨HGz25, hgz25⟩ := HI0.out
        have hcz25_0 := cellS69_0 HGz25
        have hcz25_1 := cellS69_1 HGz25
        have hcz25_2 := cellS69_2 HGz25
        have hfz25_0 := za HGz25 0
        have hfz25_1 := za HGz25 1
        have hfz25_2 := za HGz25 2
        clear HGz25 hgz25
        go_wp2
        repeat (go_quiet (fail); try go_wp2)
        go_ret2
        exact ⟨by first | rfl | (simp [errW_none, errW_some] <;> rfl) | (simp [*, errW_none, errW_some] <;> rfl), by repeat (first | (with_reducible first | exact HI0.out | apply zn | apply zo | apply zp | apply zq | apply zr | apply zt) | exact HI0.out), by repeat (first | (with_reducible first | exact HB.out | apply zd | apply zb | apply zc | refine zf ?_ (IsS69.ge HI0.out)) | exact HB.out), by repeat (first | (with_reducible first | exact HK.out | apply zm | apply keep_drewN | apply keep_drew | apply keep_alloc) | exact HK.out)⟩
    ·rw [if_neg c7] at H
     have c7b0 : ((bt s0_0 s0_1) == 37) = false := beq_eq_false_iff_ne.mpr c7
     have c7b1 : ((bt s0_0 s0_1) != 37) = true := bne_iff_ne.mpr c7
     by_cases c26 : (bt s0_0 s0_1) < 33
     ·rw [if_pos c26] at H
      have c26b0 : decide ((bt s0_0 s0_1) < 33) = true := zk c26
      clear c26
      simp only [Option.some.injEq, Prod.mk.injEq] at H
      obtain ⟨rfl, rfl, rfl, rfl, rfl⟩ := H
      obtain ⟨HGz27, hgz27⟩ := HI0.out
      have hcz27_0 := cellS69_0 HGz27
      have hcz27_1 := cellS69_1 HGz27
      have hcz27_2 := cellS69_2 HGz27
      have hfz27_0 := za HGz27 0
      have hfz27_1 := za HGz27 1
      have hfz27_2 := za HGz27 2
      clear HGz27 hgz27
      have p6 : 0 ≤ (s0_1 : Int) := zj (by first | (with_reducible assumption) | assumption)
      have q6 : s0_1 < (s0_0.size : Int) := zj (by first | (with_reducible assumption) | assumption)
      have hx6 := bt_at s0_0 s0_1
      replace p6 := eq_true p6
      replace q6 := eq_true q6
      go_enter Tryd.func123, Tryd.ntmps123
      go_wp2
      repeat (go_quiet (fail); try go_wp2)
      go_ret2
      exact ⟨by first | rfl | (simp [errW_none, errW_some] <;> rfl) | (simp [*, errW_none, errW_some] <;> rfl), by repeat (first | (with_reducible first | exact HI0.out | apply zn | apply zo | apply zp | apply zq | apply zr | apply zt) | exact HI0.out), by repeat (first | (with_reducible first | exact HB.out | apply zd | apply zb | apply zc | refine zf ?_ (IsS69.ge HI0.out)) | exact HB.out), by repeat (first | (with_reducible first | exact HK.out | apply zm | apply keep_drewN | apply keep_drew | apply keep_alloc) | exact HK.out)⟩
     ·rw [if_neg c26] at H
      have c26b0 : decide ((bt s0_0 s0_1) < 33) = false := zl c26
      clear c26
      by_cases c28 : (bt s0_0 s0_1) > 126
      ·rw [if_pos c28] at H
       have c28b0 : decide (126 < (bt s0_0 s0_1)) = true := zk c28
       clear c28
       simp only [Option.some.injEq, Prod.mk.injEq] at H
       obtain ⟨rfl, rfl, rfl, rfl, rfl⟩ := H
       obtain ⟨HGz29, hgz29⟩ := HI0.out
       have hcz29_0 := cellS69_0 HGz29
       have hcz29_1 := cellS69_1 HGz29
       have hcz29_2 := cellS69_2 HGz29
       have hfz29_0 := za HGz29 0
       have hfz29_1 := za HGz29 1
       have hfz29_2 := za HGz29 2
       clear HGz29 hgz29
       have p6 : 0 ≤ (s0_1 : Int) := zj (by first | (with_reducible assumption) | assumption)
       have q6 : s0_1 < (s0_0.size : Int) := zj (by first | (with_reducible assumption) | assumption)
       have hx6 := bt_at s0_0 s0_1
       replace p6 := eq_true p6
       replace q6 := eq_true q6
       go_enter Tryd.func123, Tryd.ntmps123
       go_wp2
       repeat (go_quiet (fail); try go_wp2)
       go_ret2
       exact ⟨by first | rfl | (simp [errW_none, errW_some] <;> rfl) | (simp [*, errW_none, errW_some] <;> rfl), by repeat (first | (with_reducible first | exact HI0.out | apply zn | apply zo | apply zp | apply zq | apply zr | apply zt) | exact HI0.out), by repeat (first | (with_reducible first | exact HB.out | apply zd | apply zb | apply zc | refine zf ?_ (IsS69.ge HI0.out)) | exact HB.out), by repeat (first | (with_reducible first | exact HK.out | apply zm | apply keep_drewN | apply keep_drew | apply keep_alloc) | exact HK.out)⟩
      ·rw [if_neg c28] at H
       have c28b0 : decide (126 < (bt s0_0 s0_1)) = false := zl c28
       clear c28
       replace H := zu.mp H
       obtain ⟨t164, A300, H⟩ := H
       replace H : (if t164 ≥ 0 then (some (0, false, s0_0, s0_1, s0_2)) else (some (bt s0_0 s0_1, true, s0_0, wrap64 (s0_1 + 1), s0_2))) = some (r1, r2, r3, r4, r5) := H
       have A30 := Aside0.mk A300
       clear A300
       by_cases c31 : t164 ≥ 0
       ·rw [if_pos c31] at H
        have c31b0 : decide (0 ≤ t164) = true := zk c31
        clear c31
        simp only [Option.some.injEq, Prod.mk.injEq] at H
        obtain ⟨rfl, rfl, rfl, rfl, rfl⟩ := H
        obtain ⟨HGz32, hgz32⟩ := HI0.out
        have hcz32_0 := cellS69_0 HGz32
        have hcz32_1 := cellS69_1 HGz32
        have hcz32_2 := cellS69_2 HGz32
        have hfz32_0 := za HGz32 0
        have hfz32_1 := za HGz32 1
        have hfz32_2 := za HGz32 2
        clear HGz32 hgz32
        have p6 : 0 ≤ (s0_1 : Int) := zj (by first | (with_reducible assumption) | assumption)
        have q6 : s0_1 < (s0_0.size : Int) := zj (by first | (with_reducible assumption) | assumption)
        have hx6 := bt_at s0_0 s0_1
        replace p6 := eq_true p6
        replace q6 := eq_true q6
        go_enter Tryd.func123, Tryd.ntmps123
        go_wp2_with (first | (go_at_call 69; (with_reducible refine (lib_IndexByte.calls (⟨#[47, 64, 63, 35, 38, 61]⟩ : ByteArray) (bt s0_0 s0_1) t164 _ A30.out).mono ?_); rintro e w' ⟨rfl, ⟨nd, rfl⟩⟩; (try first | exact ⟨rfl, _, World.drewN_drewN _ _ _⟩ | exact ⟨rfl, _, Eq.trans (World.drewN_drewN _ _ _) (congrArg (World.drewN _) (Nat.add_assoc _ _ _))⟩)))
        repeat (go_quiet (first | (go_at_call 69; (with_reducible refine (lib_IndexByte.calls (⟨#[47, 64, 63, 35, 38, 61]⟩ : ByteArray) (bt s0_0 s0_1) t164 _ A30.out).mono ?_); rintro e w' ⟨rfl, ⟨nd, rfl⟩⟩; (try first | exact ⟨rfl, _, World.drewN_drewN _ _ _⟩ | exact ⟨rfl, _, Eq.trans (World.drewN_drewN _ _ _) (congrArg (World.drewN _) (Nat.add_assoc _ _ _))⟩))); try go_wp2_with (first | (go_at_call 69; (with_reducible refine (lib_IndexByte.calls (⟨#[47, 64, 63, 35, 38, 61]⟩ : ByteArray) (bt s0_0 s0_1) t164 _ A30.out).mono ?_); rintro e w' ⟨rfl, ⟨nd, rfl⟩⟩; (try first | exact ⟨rfl, _, World.drewN_drewN _ _ _⟩ | exact ⟨rfl, _, Eq.trans (World.drewN_drewN _ _ _) (congrArg (World.drewN _) (Nat.add_assoc _ _ _))⟩))))
        go_ret2
        exact ⟨by first | rfl | (simp [errW_none, errW_some] <;> rfl) | (simp [*, errW_none, errW_some] <;> rfl), by repeat (first | (with_reducible first | exact HI0.out | apply zn | apply zo | apply zp | apply zq | apply zr | apply zt) | exact HI0.out), by repeat (first | (with_reducible first | exact HB.out | apply zd | apply zb | apply zc | refine zf ?_ (IsS69.ge HI0.out)) | exact HB.out), by repeat (first | (with_reducible first | exact HK.out | apply zm | apply keep_drewN | apply keep_drew | apply keep_alloc) | exact HK.out)⟩
       ·rw [if_neg c31] at H
        have c31b0 : decide (0 ≤ t164) = false := zl c31
        clear c31
        simp only [Option.some.injEq, Prod.mk.injEq] at H
        obtain ⟨rfl, rfl, rfl, rfl, rfl⟩ := H
        obtain ⟨HGz33, hgz33⟩ := HI0.out
        have hcz33_0 := cellS69_0 HGz33
        have hcz33_1 := cellS69_1 HGz33
        have hcz33_2 := cellS69_2 HGz33
        have hfz33_0 := za HGz33 0
        have hfz33_1 := za HGz33 1
        have hfz33_2 := za HGz33 2
        clear HGz33 hgz33
        have p6 : 0 ≤ (s0_1 : Int) := zj (by first | (with_reducible assumption) | assumption)
        have q6 : s0_1 < (s0_0.size : Int) := zj (by first | (with_reducible assumption) | assumption)
        have hx6 := bt_at s0_0 s0_1
        replace p6 := eq_true p6
        replace q6 := eq_true q6
        go_enter Tryd.func123, Tryd.ntmps123
        go_wp2_with (first | (go_at_call 69; (with_reducible refine (lib_IndexByte.calls (⟨#[47, 64, 63, 35, 38, 61]⟩ : ByteArray) (bt s0_0 s0_1) t164 _ A30.out).mono ?_); rintro e w' ⟨rfl, ⟨nd, rfl⟩⟩; (try first | exact ⟨rfl, _, World.drewN_drewN _ _ _⟩ | exact ⟨rfl, _, Eq.trans (World.drewN_drewN _ _ _) (congrArg (World.drewN _) (Nat.add_assoc _ _ _))⟩)))
        repeat (go_quiet (first | (go_at_call 69; (with_reducible refine (lib_IndexByte.calls (⟨#[47, 64, 63, 35, 38, 61]⟩ : ByteArray) (bt s0_0 s0_1) t164 _ A30.out).mono ?_); rintro e w' ⟨rfl, ⟨nd, rfl⟩⟩; (try first | exact ⟨rfl, _, World.drewN_drewN _ _ _⟩ | exact ⟨rfl, _, Eq.trans (World.drewN_drewN _ _ _) (congrArg (World.drewN _) (Nat.add_assoc _ _ _))⟩))); try go_wp2_with (first | (go_at_call 69; (with_reducible refine (lib_IndexByte.calls (⟨#[47, 64, 63, 35, 38, 61]⟩ : ByteArray) (bt s0_0 s0_1) t164 _ A30.out).mono ?_); rintro e w' ⟨rfl, ⟨nd, rfl⟩⟩; (try first | exact ⟨rfl, _, World.drewN_drewN _ _ _⟩ | exact ⟨rfl, _, Eq.trans (World.drewN_drewN _ _ _) (congrArg (World.drewN _) (Nat.add_assoc _ _ _))⟩))))
        go_ret2
        exact ⟨by first | rfl | (simp [errW_none, errW_some] <;> rfl) | (simp [*, errW_none, errW_some] <;> rfl), by repeat (first | (with_reducible first | exact HI0.out | apply zn | apply zo | apply zp | apply zq | apply zr | apply zt) | exact HI0.out), by repeat (first | (with_reducible first | exact HB.out | apply zd | apply zb | apply zc | refine zf ?_ (IsS69.ge HI0.out)) | exact HB.out), by repeat (first | (with_reducible first | exact HK.out | apply zm | apply keep_drewN | apply keep_drew | apply keep_alloc) | exact HK.out)⟩
   ·rw [if_neg c5] at H
    exact absurd H (by simp)
  ·rw [if_neg c4] at H
   exact absurd H (by simp)
/-! ### purl_reader_part: function 95 -/
def purl_reader_part.l0 : Nat → List Int → ByteArray → Int → Int → Option (ByteArray × ByteArray × Int × Int)
 | 0, _, _, _, _ => none
 | k + 1, x3, x1000, x1001, x1002 => if x1002 < 0 then ((purl_reader_octet.f k x1000 x1001 x1002).bind fun bt172 => (if bt172.2.1 = true then (if x3.length < 140737488355328 then (purl_reader_part.l0 k (x3 ++ [bt172.1]) bt172.2.2.1 bt172.2.2.2.1 bt172.2.2.2.2) else (none)) else (if (x3.length : Int) = 0 then ((purl_reader_fail.f bt172.2.2.1 bt172.2.2.2.1 bt172.2.2.2.2 bt172.2.2.2.1).bind fun bt180 => (some (strOfNums x3, bt180.1, bt180.2.1, bt180.2.2))) else (some (strOfNums x3, bt172.2.2.1, bt172.2.2.2.1, bt172.2.2.2.2))))) else (if (x3.length : Int) = 0 then ((purl_reader_fail.f x1000 x1001 x1002 x1001).bind fun bt183 => (some (strOfNums x3, bt183.1, bt183.2.1, bt183.2.2))) else (some (strOfNums x3, x1000, x1001, x1002)))
def purl_reader_part.f (k : Nat) (s0_0 : ByteArray) (s0_1 : Int) (s0_2 : Int) : Option (ByteArray × ByteArray × Int × Int) := purl_reader_part.l0 k ([] : List Int) s0_0 s0_1 s0_2
theorem purl_reader_part.mono_l : ∀ k, (∀ y0 y1 y2 y3, LeO (purl_reader_part.l0 k y0 y1 y2 y3) (purl_reader_part.l0 (k + 1) y0 y1 y2 y3))
 | 0 => fun _ _ _ _ r h => by simp [purl_reader_part.l0] at h
 | k + 1 => by
  have ih0 := purl_reader_part.mono_l k
  ·intro y0 y1 y2 y3
   unfold purl_reader_part.l0
   repeat' first
   | (with_reducible exact ih0 _ _ _ _)
   | (with_reducible exact purl_reader_octet.mono _ _ _ _)
   | (with_reducible exact LeO.refl _)
   | (with_reducible exact LeO.none _)
   | (with_reducible refine LeO.ite ?_ ?_)
   | (with_reducible refine LeO.bind ?_ (fun _ => ?_))
   | exact ih0 _ _ _ _
   | exact purl_reader_octet.mono _ _ _ _
   | exact LeO.none _
   | refine LeO.ite ?_ ?_
   | refine LeO.bind ?_ (fun _ => ?_)
theorem purl_reader_part.mono : ∀ a0 a1 a2 k, LeO (purl_reader_part.f k a0 a1 a2) (purl_reader_part.f (k + 1) a0 a1 a2) := by
 intro a0 a1 a2 k
 have ih0 := purl_reader_part.mono_l k
 unfold purl_reader_part.f
 repeat' first
   | (with_reducible exact ih0 _ _ _ _)
   | (with_reducible exact purl_reader_octet.mono _ _ _ _)
   | (with_reducible exact LeO.refl _)
   | (with_reducible exact LeO.none _)
   | (with_reducible refine LeO.ite ?_ ?_)
   | (with_reducible refine LeO.bind ?_ (fun _ => ?_))
   | exact ih0 _ _ _ _
   | exact purl_reader_octet.mono _ _ _ _
   | exact LeO.none _
   | refine LeO.ite ?_ ?_
   | refine LeO.bind ?_ (fun _ => ?_)
set_option maxHeartbeats 8000000 in
set_option maxRecDepth 100000 in
theorem purl_reader_part.calls (k : Nat) (g : Nat) (s0_0 : ByteArray) (s0_1 : Int) (s0_2 : Int) (r1 : ByteArray) (r2 : ByteArray) (r3 : Int) (r4 : Int) (w0 w : World) (hI : IsS69 w0 w g s0_0 s0_1 s0_2) (hB : Below w0.heap.size w0 w) (h : purl_reader_part.f k s0_0 s0_1 s0_2 = some (r1, r2, r3, r4)) :
  Calls Tryd.prog 95 #[.pointer (some ⟨g, 0, none⟩)] w fun e w' => e = .returned (.string r1) ∧ IsS69 w0 w' g r2 r3 r4 ∧ Below w0.heap.size w0 w' ∧ KeepBut w w' g none := by
 have HI0 := Aside0.mk hI
 have HK := Aside0.mk (KeepBut.refl w g none)
 have HL := Aside0.mk hB.size
 clear hI
 have HW0 := Aside0.mk hB.size
 have HB := Aside0.mk hB
 clear hB
 have H : (purl_reader_part.l0 k ([] : List Int) s0_0 s0_1 s0_2) = some (r1, r2, r3, r4) := h
 clear h
 have H' := Aside0.mk H
 clear H
 go_enter Tryd.func95, Tryd.ntmps95
 go_wp2
 go_loopg [3] k (fun kq v3 w' => ∃ (x3_1 : List Int) (x1000_1 : ByteArray) (x1001_1 : Int) (x1002_1 : Int), Aside0 (purl_reader_part.l0 kq x3_1 x1000_1 x1001_1 x1002_1 = some (r1, r2, r3, r4)) ∧ Aside0 (kq ≤ k) ∧ Aside0 (Kd.R (Kd.int .u8) 5 w' w.heap.size (fun _ => True) v3 x3_1) ∧ Aside0 (IsS69 w0 w' g x1000_1 x1001_1 x1002_1) ∧ Aside0 (KeepBut w w' g none) ∧ Aside0 (Below w0.heap.size w0 w'))
 case atStart => exact ⟨(([] : List Int)), (s0_0), (s0_1), (s0_2), H', ⟨Nat.le_refl _⟩, ⟨by first | exact Kd.R_nil _ _ _ _ _ | exact Kd.N_nil _ _ _ _ _ | exact Kd.V_nil _ _ _ _ _ | exact Kd.Q_nil _ _ _ _ _ | exact Kd.S_nil _ _ _ _ _⟩, ⟨by repeat (first | (with_reducible first | exact HI0.out | apply zn | apply zo | apply zp | apply zq | apply zr | apply zt) | exact HI0.out)⟩, ⟨by repeat (first | (with_reducible first | exact HK.out | apply zm | apply keep_drewN | apply keep_drew | apply keep_alloc) | exact HK.out)⟩, ⟨by repeat (first | (with_reducible first | exact HB.out | apply zd | apply zb | apply zc | refine zf ?_ (IsS69.ge HI0.out)) | exact HB.out)⟩⟩
 case round =>
  clear H'
  obtain ⟨x3_1, x1000_1, x1001_1, x1002_1, HA, HK1, HO_3, HI0, HK, HB⟩ := hrel
  cases gk with
  | zero => exact absurd HA.out (by simp [purl_reader_part.l0])
  | succ k1 =>
   have H := HA.out
   clear HA
   simp only [purl_reader_part.l0] at H
   by_cases c2 : x1002_1 < 0
   ·rw [if_pos c2] at H
    have c2b0 : decide (x1002_1 < 0) = true := zk c2
    clear c2
    replace H := zu.mp H
    obtain ⟨⟨t172, t173, t174, t175, t176⟩, A30, H⟩ := H
    replace H : (if t173 = true then (if x3_1.length < 140737488355328 then (purl_reader_part.l0 k1 (x3_1 ++ [t172]) t174 t175 t176) else (none)) else (if (x3_1.length : Int) = 0 then ((purl_reader_fail.f t174 t175 t176 t175).bind fun bt180 => (some (strOfNums x3_1, bt180.1, bt180.2.1, bt180.2.2))) else (some (strOfNums x3_1, t174, t175, t176)))) = some (r1, r2, r3, r4) := H
    have A3 := Aside0.mk A30
    clear A30
    by_cases c4 : t173 = true
    ·subst c4
     have H1 : (if x3_1.length < 140737488355328 then (purl_reader_part.l0 k1 (x3_1 ++ [t172]) t174 t175 t176) else (none)) = some (r1, r2, r3, r4) := by rw [if_pos rfl] at H; exact H
     clear H
     have H := H1
     clear H1
     by_cases c5 : x3_1.length < 140737488355328
     ·rw [if_pos c5] at H
      have LMc5 := Aside0.mk c5
      clear c5
      obtain ⟨y177, hy177⟩ : ∃ y_ : List Int, y_ = (x3_1 ++ [t172]) := ⟨_, rfl⟩
      replace H : (purl_reader_part.l0 k1 y177 t174 t175 t176) = some (r1, r2, r3, r4) := by first | (rw [hy177]; with_reducible exact H) | (have H2_ := (Option.bind_some _ _).symm.trans H; rw [hy177]; with_reducible exact H2_) | (have H2_ := (Option.bind_some _ _).symm.trans H; with_reducible exact H2_) | with_reducible exact H | (rw [hy177]; exact H) | exact H
      have Ny177 := Aside0.mk hy177
      clear hy177
      have H' := Aside0.mk H
      clear H
      obtain ⟨HGz6, hgz6⟩ := HI0.out
      have hcz6_0 := cellS69_0 HGz6
      have hcz6_1 := cellS69_1 HGz6
      have hcz6_2 := cellS69_2 HGz6
      have hfz6_0 := za HGz6 0
      have hfz6_1 := za HGz6 1
      have hfz6_2 := za HGz6 2
      clear HGz6 hgz6
      go_wp2_with (first | ((with_reducible refine gate_callee (f := 123) rfl ?_); refine goesL_ (some 13) rfl rfl Tryd.func123 (by kernel_rfl) rfl #[.pointer (some ⟨g, 0, none⟩)] rfl (by (try simp only [List.map_toArray, List.map_cons, List.map_nil]); first | done | rfl | (simp only [List.length_drop, List.length_take]; rfl)) ?_; (with_reducible refine (purl_reader_octet.calls k1 g x1000_1 x1001_1 x1002_1 t172 true t174 t175 t176 w0 _ ?side1 ?side2 A3.out).mono ?_); (case side1 => repeat (first | (with_reducible first | exact HI0.out | apply zn | apply zo | apply zp | apply zq | apply zr | apply zt) | exact HI0.out)); (case side2 => repeat (first | (with_reducible first | exact HB.out | apply zd | apply zb | apply zc | refine zf ?_ (IsS69.ge HI0.out)) | exact HB.out)); rintro e w7 ⟨rfl, hi, hb, hk⟩; refine ⟨_, rfl, ?_⟩; have n0_ := Aside0.mk (Kd.R_mono (Kd.R_keep (IsS69.apart (show IsS69 w0 _ g x1000_1 x1001_1 x1002_1 from by repeat (first | (with_reducible first | exact HI0.out | apply zn | apply zo | apply zp | apply zq | apply zr | apply zt) | exact HI0.out)) (by (with_reducible repeat (first | apply zC | apply zB | apply zD)); exact HO_3.out) (by decide)) hk (fun _ h => h.2)) (fun _ h => h.1)); have n1_ := Aside0.mk (KeepBut.trans (by repeat (first | (with_reducible first | exact HK.out | apply zm | apply keep_drewN | apply keep_drew | apply keep_alloc) | exact HK.out)) hk (.inl rfl)); have n2_ := Aside0.mk (hb); have n3_ := Aside0.mk (hi); clear HO_3; clear HK; clear HB; clear HI0; have HO_3 := n0_; have HK := n1_; have HB := n2_; have HI0 := n3_; clear n0_ n1_ n2_ n3_; (try clear hb); (try clear hb2); (try clear hk); (try clear hi)) | ((with_reducible refine gate_builtin (b := .append) (xs := #[.tmp 18, .tmp 20]) rfl ?_); at_builtin; refine Kd.R_append (Kd.int .u8) w.heap.size rfl (.tmp 18) (.tmp 20) 110 5 (.int .u8 0) 1 rfl Tryd.underlying110 info5 rfl (by decide) (by omega) u3 x3_1 t172 [.int .u8 t172] (fun _ => True) (fun _ => False) rfl rfl ?aP (fun _ hk => hk.elim) ?aF ?aO (Below.refl _ _) ?aS ?aL ?_; (case aP => exact rfl); (case aF => exact (fun _ _ => trivial)); (case aO => exact (by (with_reducible repeat (first | apply zC | apply zB | apply zD)); exact HO_3.out)); (case aS => exact (keep_size (w := w) (g := g) (row := none) (by repeat (first | (with_reducible first | exact HK.out | apply zm | apply keep_drewN | apply keep_drew | apply keep_alloc) | exact HK.out)))); (case aL => have := LMc5.out; omega); intro v178 w8 ho hb hg hat; rw [← Ny177.out] at ho; have n0_ := Aside0.mk (IsS69.grown (by repeat (first | (with_reducible first | exact HI0.out | apply zn | apply zo | apply zp | apply zq | apply zr | apply zt) | exact HI0.out)) hg (IsS69.own_ne HI0.out HO_3.out (by decide))); have n1_ := Aside0.mk (below_weaken (by repeat (first | (with_reducible first | exact HB.out | apply zd | apply zb | apply zc | refine zf ?_ (IsS69.ge HI0.out)) | exact HB.out)) HL.out hb); have n2_ := Aside0.mk (KeepBut.trans (by repeat (first | (with_reducible first | exact HK.out | apply zm | apply keep_drewN | apply keep_drew | apply keep_alloc) | exact HK.out)) (KeepBut.of_grown hg g) (Kd.R_base2 HO_3.out)); have n3_ := Aside0.mk (ho); clear HI0; clear HB; clear HK; clear HO_3; have HI0 := n0_; have HB := n1_; have HK := n2_; have HO179 := n3_; clear n0_ n1_ n2_ n3_; clear ho hb hg hat))
      go_roundg k1
      case measure => have := HK1.out; omega
      case rel => exact ⟨(y177), (t174), (t175), (t176), H', ⟨by have := HK1.out; omega⟩, ⟨by (with_reducible repeat (first | apply zC | apply zB | apply zD)); exact HO179.out⟩, ⟨by repeat (first | (with_reducible first | exact HI0.out | apply zn | apply zo | apply zp | apply zq | apply zr | apply zt) | exact HI0.out)⟩, ⟨by repeat (first | (with_reducible first | exact HK.out | apply zm | apply keep_drewN | apply keep_drew | apply keep_alloc) | exact HK.out)⟩, ⟨by repeat (first | (with_reducible first | exact HB.out | apply zd | apply zb | apply zc | refine zf ?_ (IsS69.ge HI0.out)) | exact HB.out)⟩⟩
     ·rw [if_neg c5] at H
      exact absurd H (by simp)
    ·replace c4 := Bool.eq_false_iff.mpr c4
     subst c4
     have H1 : (if (x3_1.length : Int) = 0 then ((purl_reader_fail.f t174 t175 t176 t175).bind fun bt180 => (some (strOfNums x3_1, bt180.1, bt180.2.1, bt180.2.2))) else (some (strOfNums x3_1, t174, t175, t176))) = some (r1, r2, r3, r4) := by rw [if_neg (show ¬ (false = true) by decide)] at H; exact H
     clear H
     have H := H1
     clear H1
     by_cases c9 : (x3_1.length : Int) = 0
     ·rw [if_pos c9] at H
      have c9b0 : ((x3_1.length : Int) == 0) = true := beq_iff_eq.mpr c9
      have c9b1 : ((x3_1.length : Int) != 0) = false := bne_eq_false_iff_eq.mpr c9
      clear c9
      replace H := zu.mp H
      obtain ⟨⟨t180, t181, t182⟩, A100, H⟩ := H
      replace H : (some (strOfNums x3_1, t180, t181, t182)) = some (r1, r2, r3, r4) := H
      have A10 := Aside0.mk A100
      clear A100
      simp only [Option.some.injEq, Prod.mk.injEq] at H
      obtain ⟨rfl, rfl, rfl, rfl⟩ := H
      obtain ⟨HGz11, hgz11⟩ := HI0.out
      have hcz11_0 := cellS69_0 HGz11
      have hcz11_1 := cellS69_1 HGz11
      have hcz11_2 := cellS69_2 HGz11
      have hfz11_0 := za HGz11 0
      have hfz11_1 := za HGz11 1
      have hfz11_2 := za HGz11 2
      clear HGz11 hgz11
      go_wp2_with (first | ((with_reducible refine gate_callee (f := 123) rfl ?_); refine goesL_ (some 13) rfl rfl Tryd.func123 (by kernel_rfl) rfl #[.pointer (some ⟨g, 0, none⟩)] rfl (by (try simp only [List.map_toArray, List.map_cons, List.map_nil]); first | done | rfl | (simp only [List.length_drop, List.length_take]; rfl)) ?_; (with_reducible refine (purl_reader_octet.calls k1 g x1000_1 x1001_1 x1002_1 t172 false t174 t175 t176 w0 _ ?side1 ?side2 A3.out).mono ?_); (case side1 => repeat (first | (with_reducible first | exact HI0.out | apply zn | apply zo | apply zp | apply zq | apply zr | apply zt) | exact HI0.out)); (case side2 => repeat (first | (with_reducible first | exact HB.out | apply zd | apply zb | apply zc | refine zf ?_ (IsS69.ge HI0.out)) | exact HB.out)); rintro e w12 ⟨rfl, hi, hb, hk⟩; refine ⟨_, rfl, ?_⟩; have n0_ := Aside0.mk (Kd.R_mono (Kd.R_keep (IsS69.apart (show IsS69 w0 _ g x1000_1 x1001_1 x1002_1 from by repeat (first | (with_reducible first | exact HI0.out | apply zn | apply zo | apply zp | apply zq | apply zr | apply zt) | exact HI0.out)) (by (with_reducible repeat (first | apply zC | apply zB | apply zD)); exact HO_3.out) (by decide)) hk (fun _ h => h.2)) (fun _ h => h.1)); have n1_ := Aside0.mk (KeepBut.trans (by repeat (first | (with_reducible first | exact HK.out | apply zm | apply keep_drewN | apply keep_drew | apply keep_alloc) | exact HK.out)) hk (.inl rfl)); have n2_ := Aside0.mk (hb); have n3_ := Aside0.mk (hi); clear HO_3; clear HK; clear HB; clear HI0; have HO_3 := n0_; have HK := n1_; have HB := n2_; have HI0 := n3_; clear n0_ n1_ n2_ n3_; (try clear hb); (try clear hb2); (try clear hk); (try clear hi); obtain ⟨Ao13, co13, eo13⟩ := Kd.R_slice HO_3.out; subst eo13; obtain ⟨HGz14, hgz14⟩ := HI0.out; have hcz14_0 := cellS69_0 HGz14; have hcz14_1 := cellS69_1 HGz14; have hcz14_2 := cellS69_2 HGz14; have hfz14_0 := za HGz14 0; have hfz14_1 := za HGz14 1; have hfz14_2 := za HGz14 2; clear HGz14 hgz14) | ((with_reducible refine gate_callee (f := 97) rfl ?_); refine goesL_ (some 30) rfl rfl Tryd.func97 (by kernel_rfl) rfl #[.pointer (some ⟨g, 0, none⟩), .int .i64 t175] rfl (by (try simp only [List.map_toArray, List.map_cons, List.map_nil]); first | done | rfl | (simp only [List.length_drop, List.length_take]; rfl)) ?_; (with_reducible refine (purl_reader_fail.calls g t174 t175 t176 t175 t180 t181 t182 w0 _ ?side1 ?side2 A10.out).mono ?_); (case side1 => repeat (first | (with_reducible first | exact HI0.out | apply zn | apply zo | apply zp | apply zq | apply zr | apply zt) | exact HI0.out)); (case side2 => repeat (first | (with_reducible first | exact HB.out | apply zd | apply zb | apply zc | refine zf ?_ (IsS69.ge HI0.out)) | exact HB.out)); rintro e w15 ⟨rfl, hi, hb, hk⟩; refine ⟨_, rfl, ?_⟩; have n0_ := Aside0.mk (Kd.R_mono (Kd.R_keep (IsS69.apart (show IsS69 w0 _ g t174 t175 t176 from by repeat (first | (with_reducible first | exact HI0.out | apply zn | apply zo | apply zp | apply zq | apply zr | apply zt) | exact HI0.out)) (by (with_reducible repeat (first | apply zC | apply zB | apply zD)); exact HO_3.out) (by decide)) hk (fun _ h => h.2)) (fun _ h => h.1)); have n1_ := Aside0.mk (KeepBut.trans (by repeat (first | (with_reducible first | exact HK.out | apply zm | apply keep_drewN | apply keep_drew | apply keep_alloc) | exact HK.out)) hk (.inl rfl)); have n2_ := Aside0.mk (hb); have n3_ := Aside0.mk (hi); clear HO_3; clear HK; clear HB; clear HI0; have HO_3 := n0_; have HK := n1_; have HB := n2_; have HI0 := n3_; clear n0_ n1_ n2_ n3_; (try clear hb); (try clear hb2); (try clear hk); (try clear hi); have hcv16 := own_string (P := Tryd.prog) Tryd.underlying110 Tryd.underlying5 Tryd.underlying9 (Kd.own_of_R HO_3.out)))
      go_ret
      exact ⟨by first | rfl | (simp [errW_none, errW_some] <;> rfl) | (simp [*, errW_none, errW_some] <;> rfl), by repeat (first | (with_reducible first | exact HI0.out | apply zn | apply zo | apply zp | apply zq | apply zr | apply zt) | exact HI0.out), by repeat (first | (with_reducible first | exact HB.out | apply zd | apply zb | apply zc | refine zf ?_ (IsS69.ge HI0.out)) | exact HB.out), by repeat (first | (with_reducible first | exact HK.out | apply zm | apply keep_drewN | apply keep_drew | apply keep_alloc) | exact HK.out)⟩
     ·rw [if_neg c9] at H
      have c9b0 : ((x3_1.length : Int) == 0) = false := beq_eq_false_iff_ne.mpr c9
      have c9b1 : ((x3_1.length : Int) != 0) = true := bne_iff_ne.mpr c9
      have c9b2 : ¬ (x3_1 = []) := fun h_ => c9 (by rw [h_]; rfl)
      simp only [Option.some.injEq, Prod.mk.injEq] at H
      obtain ⟨rfl, rfl, rfl, rfl⟩ := H
      obtain ⟨HGz17, hgz17⟩ := HI0.out
      have hcz17_0 := cellS69_0 HGz17
      have hcz17_1 := cellS69_1 HGz17
      have hcz17_2 := cellS69_2 HGz17
      have hfz17_0 := za HGz17 0
      have hfz17_1 := za HGz17 1
      have hfz17_2 := za HGz17 2
      clear HGz17 hgz17
      go_wp2_with (first | ((with_reducible refine gate_callee (f := 123) rfl ?_); refine goesL_ (some 13) rfl rfl Tryd.func123 (by kernel_rfl) rfl #[.pointer (some ⟨g, 0, none⟩)] rfl (by (try simp only [List.map_toArray, List.map_cons, List.map_nil]); first | done | rfl | (simp only [List.length_drop, List.length_take]; rfl)) ?_; (with_reducible refine (purl_reader_octet.calls k1 g x1000_1 x1001_1 x1002_1 t172 false t174 t175 t176 w0 _ ?side1 ?side2 A3.out).mono ?_); (case side1 => repeat (first | (with_reducible first | exact HI0.out | apply zn | apply zo | apply zp | apply zq | apply zr | apply zt) | exact HI0.out)); (case side2 => repeat (first | (with_reducible first | exact HB.out | apply zd | apply zb | apply zc | refine zf ?_ (IsS69.ge HI0.out)) | exact HB.out)); rintro e w18 ⟨rfl, hi, hb, hk⟩; refine ⟨_, rfl, ?_⟩; have n0_ := Aside0.mk (Kd.R_mono (Kd.R_keep (IsS69.apart (show IsS69 w0 _ g x1000_1 x1001_1 x1002_1 from by repeat (first | (with_reducible first | exact HI0.out | apply zn | apply zo | apply zp | apply zq | apply zr | apply zt) | exact HI0.out)) (by (with_reducible repeat (first | apply zC | apply zB | apply zD)); exact HO_3.out) (by decide)) hk (fun _ h => h.2)) (fun _ h => h.1)); have n1_ := Aside0.mk (KeepBut.trans (by repeat (first | (with_reducible first | exact HK.out | apply zm | apply keep_drewN | apply keep_drew | apply keep_alloc) | exact HK.out)) hk (.inl rfl)); have n2_ := Aside0.mk (hb); have n3_ := Aside0.mk (hi); clear HO_3; clear HK; clear HB; clear HI0; have HO_3 := n0_; have HK := n1_; have HB := n2_; have HI0 := n3_; clear n0_ n1_ n2_ n3_; (try clear hb); (try clear hb2); (try clear hk); (try clear hi); obtain ⟨Ao19, co19, eo19⟩ := Kd.R_slice HO_3.out; subst eo19; have hcv20 := own_string (P := Tryd.prog) Tryd.underlying110 Tryd.underlying5 Tryd.underlying9 (Kd.own_of_R HO_3.out)))
      go_ret
      exact ⟨by first | rfl | (simp [errW_none, errW_some] <;> rfl) | (simp [*, errW_none, errW_some] <;> rfl), by repeat (first | (with_reducible first | exact HI0.out | apply zn | apply zo | apply zp | apply zq | apply zr | apply zt) | exact HI0.out), by repeat (first | (with_reducible first | exact HB.out | apply zd | apply zb | apply zc | refine zf ?_ (IsS69.ge HI0.out)) | exact HB.out), by repeat (first | (with_reducible first | exact HK.out | apply zm | apply keep_drewN | apply keep_drew | apply keep_alloc) | exact HK.out)⟩
   ·rw [if_neg c2] at H
    have c2b0 : decide (x1002_1 < 0) = false := zl c2
    clear c2
    by_cases c21 : (x3_1.length : Int) = 0
    ·rw [if_pos c21] at H
     have c21b0 : ((x3_1.length : Int) == 0) = true := beq_iff_eq.mpr c21
     have c21b1 : ((x3_1.length : Int) != 0) = false := bne_eq_false_iff_eq.mpr c21
     clear c21
     replace H := zu.mp H
     obtain ⟨⟨t183, t184, t185⟩, A220, H⟩ := H
     replace H : (some (strOfNums x3_1, t183, t184, t185)) = some (r1, r2, r3, r4) := H
     have A22 := Aside0.mk A220
     clear A220
     simp only [Option.some.injEq, Prod.mk.injEq] at H
     obtain ⟨rfl, rfl, rfl, rfl⟩ := H
     obtain ⟨HGz23, hgz23⟩ := HI0.out
     have hcz23_0 := cellS69_0 HGz23
     have hcz23_1 := cellS69_1 HGz23
     have hcz23_2 := cellS69_2 HGz23
     have hfz23_0 := za HGz23 0
     have hfz23_1 := za HGz23 1
     have hfz23_2 := za HGz23 2
     clear HGz23 hgz23
     obtain ⟨Ao24, co24, eo24⟩ := Kd.R_slice HO_3.out
     subst eo24
     go_wp2_with (first | ((with_reducible refine gate_callee (f := 97) rfl ?_); refine goesL_ (some 30) rfl rfl Tryd.func97 (by kernel_rfl) rfl #[.pointer (some ⟨g, 0, none⟩), .int .i64 x1001_1] rfl (by (try simp only [List.map_toArray, List.map_cons, List.map_nil]); first | done | rfl | (simp only [List.length_drop, List.length_take]; rfl)) ?_; (with_reducible refine (purl_reader_fail.calls g x1000_1 x1001_1 x1002_1 x1001_1 t183 t184 t185 w0 _ ?side1 ?side2 A22.out).mono ?_); (case side1 => repeat (first | (with_reducible first | exact HI0.out | apply zn | apply zo | apply zp | apply zq | apply zr | apply zt) | exact HI0.out)); (case side2 => repeat (first | (with_reducible first | exact HB.out | apply zd | apply zb | apply zc | refine zf ?_ (IsS69.ge HI0.out)) | exact HB.out)); rintro e w25 ⟨rfl, hi, hb, hk⟩; refine ⟨_, rfl, ?_⟩; have n0_ := Aside0.mk (Kd.R_mono (Kd.R_keep (IsS69.apart (show IsS69 w0 _ g x1000_1 x1001_1 x1002_1 from by repeat (first | (with_reducible first | exact HI0.out | apply zn | apply zo | apply zp | apply zq | apply zr | apply zt) | exact HI0.out)) (by (with_reducible repeat (first | apply zC | apply zB | apply zD)); exact HO_3.out) (by decide)) hk (fun _ h => h.2)) (fun _ h => h.1)); have n1_ := Aside0.mk (KeepBut.trans (by repeat (first | (with_reducible first | exact HK.out | apply zm | apply keep_drewN | apply keep_drew | apply keep_alloc) | exact HK.out)) hk (.inl rfl)); have n2_ := Aside0.mk (hb); have n3_ := Aside0.mk (hi); clear HO_3; clear HK; clear HB; clear HI0; have HO_3 := n0_; have HK := n1_; have HB := n2_; have HI0 := n3_; clear n0_ n1_ n2_ n3_; (try clear hb); (try clear hb2); (try clear hk); (try clear hi); have hcv26 := own_string (P := Tryd.prog) Tryd.underlying110 Tryd.underlying5 Tryd.underlying9 (Kd.own_of_R HO_3.out)))
     go_ret
     exact ⟨by first | rfl | (simp [errW_none, errW_some] <;> rfl) | (simp [*, errW_none, errW_some] <;> rfl), by repeat (first | (with_reducible first | exact HI0.out | apply zn | apply zo | apply zp | apply zq | apply zr | apply zt) | exact HI0.out), by repeat (first | (with_reducible first | exact HB.out | apply zd | apply zb | apply zc | refine zf ?_ (IsS69.ge HI0.out)) | exact HB.out), by repeat (first | (with_reducible first | exact HK.out | apply zm | apply keep_drewN | apply keep_drew | apply keep_alloc) | exact HK.out)⟩
    ·rw [if_neg c21] at H
     have c21b0 : ((x3_1.length : Int) == 0) = false := beq_eq_false_iff_ne.mpr c21
     have c21b1 : ((x3_1.length : Int) != 0) = true := bne_iff_ne.mpr c21
     have c21b2 : ¬ (x3_1 = []) := fun h_ => c21 (by rw [h_]; rfl)
     simp only [Option.some.injEq, Prod.mk.injEq] at H
     obtain ⟨rfl, rfl, rfl, rfl⟩ := H
     obtain ⟨HGz27, hgz27⟩ := HI0.out
     have hcz27_0 := cellS69_0 HGz27
     have hcz27_1 := cellS69_1 HGz27
     have hcz27_2 := cellS69_2 HGz27
     have hfz27_0 := za HGz27 0
     have hfz27_1 := za HGz27 1
     have hfz27_2 := za HGz27 2
     clear HGz27 hgz27
     obtain ⟨Ao28, co28, eo28⟩ := Kd.R_slice HO_3.out
     subst eo28
     have hcv29 := own_string (P := Tryd.prog) Tryd.underlying110 Tryd.underlying5 Tryd.underlying9 (Kd.own_of_R HO_3.out)
     go_wp2
     go_ret
     exact ⟨by first | rfl | (simp [errW_none, errW_some] <;> rfl) | (simp [*, errW_none, errW_some] <;> rfl), by repeat (first | (with_reducible first | exact HI0.out | apply zn | apply zo | apply zp | apply zq | apply zr | apply zt) | exact HI0.out), by repeat (first | (with_reducible first | exact HB.out | apply zd | apply zb | apply zc | refine zf ?_ (IsS69.ge HI0.out)) | exact HB.out), by repeat (first | (with_reducible first | exact HK.out | apply zm | apply keep_drewN | apply keep_drew | apply keep_alloc) | exact HK.out)⟩
end Go.Proofs.YtmnfjbmhlabdaaaDoor.Pr
