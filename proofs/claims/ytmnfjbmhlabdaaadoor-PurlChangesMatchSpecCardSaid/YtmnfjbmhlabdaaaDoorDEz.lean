-- Written by a program of the session (wip/pr.py) out of the translation; Lean checks it.
import Derived.Test.YtmnfjbmhlabdaaaDoorDXa
import Derived.Test.YtmnfjbmhlabdaaaDoorDEt
import Derived.Test.YtmnfjbmhlabdaaaDoorDPrx0
import Derived.Test.YtmnfjbmhlabdaaaDoorDPrx11
namespace Go.Proofs.YtmnfjbmhlabdaaaDoor.Pr
open Go.RowKit Go.Proofs.YtmnfjbmhlabdaaaDoorW.PrintWords Go.Proofs.YtmnfjbmhlabdaaaDoorW.PrintLast Go.Proofs.YtmnfjbmhlabdaaaDoorW.PrintMore
attribute [local go_sem] max2_int min2_int max_two min_two max_three min_three max_four min_four
set_option linter.unusedVariables false
set_option linter.unusedSimpArgs false
mutual
def r2_dashed.l0 : Nat → ByteArray → List Int → Int → Option (ByteArray)
 | 0, _, _, _ => none
 | k + 1, x0, x3, x4 => if x4 < (x0.size : Int) then (if 0 ≤ x4 then (if (bt x0 x4) = 45 then (r2_dashed.j1 k x0 x3 x4 (bt x0 x4) true) else (if (bt x0 x4) = 95 then (r2_dashed.j1 k x0 x3 x4 (bt x0 x4) true) else (r2_dashed.j1 k x0 x3 x4 (bt x0 x4) ((bt x0 x4) == 46)))) else (none)) else (some (strOfNums x3))
def r2_dashed.j1 : Nat → ByteArray → List Int → Int → Int → Bool → Option (ByteArray)
 | 0, _, _, _, _, _ => none
 | k + 1, x0, x3, x4, x5, x24 => if x24 = true then (if (x3.length : Int) = 0 then (if x3.length < 140737488355328 then (r2_dashed.l0 k x0 (x3 ++ [45]) (wrap64 (x4 + 1))) else (none)) else (if 0 ≤ (wrap64 ((x3.length : Int) - 1)) then (if (wrap64 ((x3.length : Int) - 1)) < (x3.length : Int) then (if (rd x3 (wrap64 ((x3.length : Int) - 1))) = 45 then (r2_dashed.l0 k x0 x3 (wrap64 (x4 + 1))) else (if x3.length < 140737488355328 then (r2_dashed.l0 k x0 (x3 ++ [45]) (wrap64 (x4 + 1))) else (none))) else (none)) else (none))) else (if x3.length < 140737488355328 then (r2_dashed.l0 k x0 (x3 ++ [x5]) (wrap64 (x4 + 1))) else (none))
end
def r2_dashed.f (k : Nat) (a0 : ByteArray) : Option (ByteArray) := r2_dashed.l0 k a0 ([] : List Int) 0
set_option maxHeartbeats 8000000 in
set_option maxRecDepth 100000 in
theorem r2_dashed.calls (k : Nat) (a0 : ByteArray) (r : ByteArray) (w : World) (h : r2_dashed.f k a0 = some r) :
  Calls Tryd.prog 91 #[.string a0] w fun e w' => e = .returned (.string r) ∧ Below w.heap.size w w' := by
 have HB := Aq.mk (Below.refl w.heap.size w)
 have H : (r2_dashed.l0 k a0 ([] : List Int) 0) = some r := h
 clear h
 have H' := Aq.mk H
 clear H
 go_enter Tryd.func91, Tryd.ntmps91
 go_wp2
 go_loopg [3, 4] k (fun kq v3 v4 w' => ∃ (x3_1 : List Int) (x4_1 : Int), v4 = .int .i64 x4_1 ∧ Aq (r2_dashed.l0 kq a0 x3_1 x4_1 = some r) ∧ Aq (kq ≤ k) ∧ Aq (Kd.R (Kd.int .u8) 5 w' w.heap.size (fun _ => True) v3 x3_1) ∧ Aq (Below w.heap.size w w'))
 case atStart => exact ⟨(([] : List Int)), (0), (by first | rfl | (simp; done) | (simp [*]; done)), H', ⟨Nat.le_refl _⟩, ⟨by first | exact Kd.R_nil _ _ _ _ _ | exact Kd.N_nil _ _ _ _ _ | exact Kd.V_nil _ _ _ _ _ | exact Kd.Q_nil _ _ _ _ _ | exact Kd.S_nil _ _ _ _ _⟩, ⟨by repeat (with_reducible first | exact HB.out | apply zd | apply zb | apply zc)⟩⟩
 case round =>
  clear H'
  obtain ⟨x3_1, x4_1, rfl, HA, HK1, HO_3, HB⟩ := hrel
  cases gk with
  | zero => exact absurd HA.out (by simp [r2_dashed.l0])
  | succ k1 =>
   have H := HA.out
   clear HA
   simp only [r2_dashed.l0] at H
   by_cases c2 : x4_1 < (a0.size : Int)
   ·rw [if_pos c2] at H
    have c2b0 : decide (x4_1 < (a0.size : Int)) = true := zk c2
    clear c2
    by_cases c3 : 0 ≤ x4_1
    ·rw [if_pos c3] at H
     have c3b0 : decide (0 ≤ x4_1) = true := zk c3
     clear c3
     have HC5 := Aq.mk H
     clear H
     have p4 : 0 ≤ (x4_1 : Int) := zj (by assumption)
     have q4 : x4_1 < (a0.size : Int) := zj (by assumption)
     have hx4 := bt_at a0 x4_1
     replace p4 := eq_true p4
     replace q4 := eq_true q4
     go_upto_region 6 with (fail)
     go_cut [24] (fun v24 wc => ∃ (kq : Nat) (x24_4 : Bool), v24 = .bool x24_4 ∧ Aq (r2_dashed.j1 kq a0 x3_1 x4_1 (bt a0 x4_1) x24_4 = some r) ∧ Aq (kq ≤ k1) ∧ Aq (Kd.R (Kd.int .u8) 5 wc w.heap.size (fun _ => True) u3 x3_1) ∧ Aq (Below w.heap.size w wc))
     case first =>
      have H := HC5.out
      clear HC5
      by_cases c6 : (bt a0 x4_1) = 45
      ·rw [if_pos c6] at H
       have c6b0 : ((bt a0 x4_1) == 45) = true := yc.mpr c6
       have c6b1 : ((bt a0 x4_1) != 45) = false := yf.mpr c6
       clear c6
       (first | rw [c6b0] | (simp only [i64_w, i32_w]; rw [c6b0]) | skip)
       have H' := Aq.mk H
       clear H
       go_wp2
       go_meet
       case rel => exact ⟨_, (true), (by first | rfl | (simp; done) | (simp [*]; done)), H', ⟨by have := HK1.out; first | omega | exact Nat.le_refl _⟩, ⟨by (with_reducible repeat (first | apply zC | apply zB | apply zD)); exact HO_3.out⟩, ⟨by repeat (with_reducible first | exact HB.out | apply zd | apply zb | apply zc)⟩⟩
      ·rw [if_neg c6] at H
       have c6b0 : ((bt a0 x4_1) == 45) = false := ye.mpr c6
       have c6b1 : ((bt a0 x4_1) != 45) = true := yd.mpr c6
       (first | rw [c6b0] | (simp only [i64_w, i32_w]; rw [c6b0]) | skip)
       by_cases c7 : (bt a0 x4_1) = 95
       ·rw [if_pos c7] at H
        have c7b0 : ((bt a0 x4_1) == 95) = true := yc.mpr c7
        have c7b1 : ((bt a0 x4_1) != 95) = false := yf.mpr c7
        clear c7
        have H' := Aq.mk H
        clear H
        go_wp2
        go_meet
        case rel => exact ⟨_, (true), (by first | rfl | (simp; done) | (simp [*]; done)), H', ⟨by have := HK1.out; first | omega | exact Nat.le_refl _⟩, ⟨by (with_reducible repeat (first | apply zC | apply zB | apply zD)); exact HO_3.out⟩, ⟨by repeat (with_reducible first | exact HB.out | apply zd | apply zb | apply zc)⟩⟩
       ·rw [if_neg c7] at H
        have c7b0 : ((bt a0 x4_1) == 95) = false := ye.mpr c7
        have c7b1 : ((bt a0 x4_1) != 95) = true := yd.mpr c7
        have H' := Aq.mk H
        clear H
        go_wp2
        go_meet
        case rel => exact ⟨_, (((bt a0 x4_1) == 46)), (by first | rfl | (simp; done) | (simp [*]; done)), H', ⟨by have := HK1.out; first | omega | exact Nat.le_refl _⟩, ⟨by (with_reducible repeat (first | apply zC | apply zB | apply zD)); exact HO_3.out⟩, ⟨by repeat (with_reducible first | exact HB.out | apply zd | apply zb | apply zc)⟩⟩
     case rest =>
      clear HC5
      try clear c2
      try clear c2b0
      try clear p2
      try clear c3
      try clear c3b0
      try clear p4
      try clear q4
      try clear hx4
      try clear c6
      try clear c6b0
      try clear c6b1
      try clear c7
      try clear c7b0
      try clear c7b1
      try clear p4
      try clear q4
      obtain ⟨kq, x24_4, rfl, HA, HJ4, HO_3, HB⟩ := hcut
      cases kq with
      | zero => exact absurd HA.out (by simp [r2_dashed.j1])
      | succ kj4 =>
       have H := HA.out
       clear HA
       simp only [r2_dashed.j1] at H
       by_cases c8 : x24_4 = true
       ·subst c8
        have H1 : (if (x3_1.length : Int) = 0 then (if x3_1.length < 140737488355328 then (r2_dashed.l0 kj4 a0 (x3_1 ++ [45]) (wrap64 (x4_1 + 1))) else (none)) else (if 0 ≤ (wrap64 ((x3_1.length : Int) - 1)) then (if (wrap64 ((x3_1.length : Int) - 1)) < (x3_1.length : Int) then (if (rd x3_1 (wrap64 ((x3_1.length : Int) - 1))) = 45 then (r2_dashed.l0 kj4 a0 x3_1 (wrap64 (x4_1 + 1))) else (if x3_1.length < 140737488355328 then (r2_dashed.l0 kj4 a0 (x3_1 ++ [45]) (wrap64 (x4_1 + 1))) else (none))) else (none)) else (none))) = some r := by rw [if_pos rfl] at H; exact H
        clear H
        have H := H1
        clear H1
        by_cases c9 : (x3_1.length : Int) = 0
        ·rw [if_pos c9] at H
         have c9b0 : ((x3_1.length : Int) == 0) = true := yc.mpr c9
         have c9b1 : ((x3_1.length : Int) != 0) = false := yf.mpr c9
         clear c9
         by_cases c10 : x3_1.length < 140737488355328
         ·rw [if_pos c10] at H
          have LMc10 := Aq.mk c10
          clear c10
          obtain ⟨y249, hy249⟩ : ∃ y_ : List Int, y_ = (x3_1 ++ [45]) := ⟨_, rfl⟩
          replace H : (r2_dashed.l0 kj4 a0 y249 (wrap64 (x4_1 + 1))) = some r := by first | (rw [hy249]; with_reducible exact H) | (have H2_ := (Option.bind_some _ _).symm.trans H; rw [hy249]; with_reducible exact H2_) | (have H2_ := (Option.bind_some _ _).symm.trans H; with_reducible exact H2_) | with_reducible exact H | (rw [hy249]; exact H) | exact H
          have Ny249 := Aq.mk hy249
          clear hy249
          have H' := Aq.mk H
          clear H
          obtain ⟨Ao11, co11, eo11⟩ := yi HO_3.out
          subst eo11
          go_wp2_with (first | ((with_reducible refine gate_builtin (b := .append) (xs := #[.tmp 37, .tmp 38]) rfl ?_); (try (refine gate_guard (by rfl) ?_; dsimp only)); at_builtin; refine Kd.R_append (Kd.int .u8) (w0 := w) w.heap.size rfl (.tmp 37) (.tmp 38) 110 5 (.int .u8 0) 1 rfl Tryd.underlying110 info5 rfl (by decide) (by omega) (.slice Ao11 x3_1.length co11) x3_1 45 [.int .u8 45] (fun _ => True) (fun _ => False) rfl rfl ?aP (fun _ hk => hk.elim) ?aF ?aO ?aB ?aS ?aL ?_; (case aP => exact rfl); (case aB => exact (by repeat (with_reducible first | exact HB.out | apply zd | apply zb | apply zc))); (case aF => exact (fun _ _ => trivial)); (case aO => exact (by (with_reducible repeat (first | apply zC | apply zB | apply zD)); exact HO_3.out)); (case aS => exact (zz (by repeat (with_reducible first | exact HB.out | apply zd | apply zb | apply zc)))); (case aL => have := LMc10.out; omega); intro v250 w12 ho hb hg hat; rw [← Ny249.out] at ho; have n0_ := Aq.mk (hb); have n1_ := Aq.mk (ho); clear HB; clear HO_3; have HB := n0_; have HO251 := n1_; clear n0_ n1_; clear ho hb hg hat))
          go_roundg kj4
          case measure => have := HK1.out; have := HJ4.out; omega
          case rel => exact ⟨(y249), (wrap64 (x4_1 + 1)), (by first | rfl | (simp; done) | (simp [*]; done)), H', ⟨by have := HK1.out; have := HJ4.out; omega⟩, ⟨by (with_reducible repeat (first | apply zC | apply zB | apply zD)); exact HO251.out⟩, ⟨by repeat (with_reducible first | exact HB.out | apply zd | apply zb | apply zc)⟩⟩
         ·rw [if_neg c10] at H
          exact absurd H (by simp)
        ·rw [if_neg c9] at H
         have c9b0 : ((x3_1.length : Int) == 0) = false := ye.mpr c9
         have c9b1 : ((x3_1.length : Int) != 0) = true := yd.mpr c9
         have c9b2 : ¬ (x3_1 = []) := fun h_ => c9 (by rw [h_]; rfl)
         obtain ⟨ji13, hji13⟩ : ∃ j_ : Int, (wrap64 ((x3_1.length : Int) - 1)) = j_ := ⟨_, rfl⟩
         replace H : (if 0 ≤ (ji13) then (if (ji13) < (x3_1.length : Int) then (if (rd x3_1 (ji13)) = 45 then (r2_dashed.l0 kj4 a0 x3_1 (wrap64 (x4_1 + 1))) else (if x3_1.length < 140737488355328 then (r2_dashed.l0 kj4 a0 (x3_1 ++ [45]) (wrap64 (x4_1 + 1))) else (none))) else (none)) else (none)) = some r := by first | (rw [hji13] at H; exact H) | (simp only [hji13] at H ⊢; exact H)
         have hji13w : (IntKind.i64.wrap ((x3_1.length : Int) - 1)) = ji13 := (i64_w _).trans hji13
         by_cases c14 : 0 ≤ (ji13)
         ·rw [if_pos c14] at H
          have c14b0 : decide (0 ≤ (ji13)) = true := zk c14
          clear c14
          by_cases c15 : (ji13) < (x3_1.length : Int)
          ·rw [if_pos c15] at H
           have c15b0 : decide ((ji13) < (x3_1.length : Int)) = true := zk c15
           clear c15
           by_cases c16 : (rd x3_1 (ji13)) = 45
           ·rw [if_pos c16] at H
            have c16b0 : ((rd x3_1 (ji13)) == 45) = true := yc.mpr c16
            have c16b1 : ((rd x3_1 (ji13)) != 45) = false := yf.mpr c16
            clear c16
            have H' := Aq.mk H
            clear H
            obtain ⟨Ao17, co17, eo17⟩ := yi HO_3.out
            subst eo17
            have p252 : 0 ≤ ((ji13) : Int) := zj (by assumption)
            have q252 : (ji13) < (x3_1.length : Int) := zj (by assumption)
            obtain ⟨ad252, e252, hx252_0⟩ := Kd.at_int (Kd.R_reads' HO_3.out).2.2 (ji13) p252 q252
            cases e252
            replace p252 := eq_true p252
            replace q252 := eq_true q252
            go_wp2
            go_roundg kj4
            case measure => have := HK1.out; have := HJ4.out; omega
            case rel => exact ⟨(x3_1), (wrap64 (x4_1 + 1)), (by first | rfl | (simp; done) | (simp [*]; done)), H', ⟨by have := HK1.out; have := HJ4.out; omega⟩, ⟨by (with_reducible repeat (first | apply zC | apply zB | apply zD)); exact HO_3.out⟩, ⟨by repeat (with_reducible first | exact HB.out | apply zd | apply zb | apply zc)⟩⟩
           ·rw [if_neg c16] at H
            have c16b0 : ((rd x3_1 (ji13)) == 45) = false := ye.mpr c16
            have c16b1 : ((rd x3_1 (ji13)) != 45) = true := yd.mpr c16
            by_cases c18 : x3_1.length < 140737488355328
            ·rw [if_pos c18] at H
             have LMc18 := Aq.mk c18
             clear c18
             obtain ⟨y253, hy253⟩ : ∃ y_ : List Int, y_ = (x3_1 ++ [45]) := ⟨_, rfl⟩
             replace H : (r2_dashed.l0 kj4 a0 y253 (wrap64 (x4_1 + 1))) = some r := by first | (rw [hy253]; with_reducible exact H) | (have H2_ := (Option.bind_some _ _).symm.trans H; rw [hy253]; with_reducible exact H2_) | (have H2_ := (Option.bind_some _ _).symm.trans H; with_reducible exact H2_) | with_reducible exact H | (rw [hy253]; exact H) | exact H
             have Ny253 := Aq.mk hy253
             clear hy253
             have H' := Aq.mk H
             clear H
             obtain ⟨Ao19, co19, eo19⟩ := yi HO_3.out
             subst eo19
             have p252 : 0 ≤ ((ji13) : Int) := zj (by assumption)
             have q252 : (ji13) < (x3_1.length : Int) := zj (by assumption)
             obtain ⟨ad252, e252, hx252_0⟩ := Kd.at_int (Kd.R_reads' HO_3.out).2.2 (ji13) p252 q252
             cases e252
             replace p252 := eq_true p252
             replace q252 := eq_true q252
             go_wp2_with (first | ((with_reducible refine gate_builtin (b := .append) (xs := #[.tmp 37, .tmp 38]) rfl ?_); (try (refine gate_guard (by rfl) ?_; dsimp only)); at_builtin; refine Kd.R_append (Kd.int .u8) (w0 := w) w.heap.size rfl (.tmp 37) (.tmp 38) 110 5 (.int .u8 0) 1 rfl Tryd.underlying110 info5 rfl (by decide) (by omega) (.slice (some ad252) x3_1.length co19) x3_1 45 [.int .u8 45] (fun _ => True) (fun _ => False) rfl rfl ?aP (fun _ hk => hk.elim) ?aF ?aO ?aB ?aS ?aL ?_; (case aP => exact rfl); (case aB => exact (by repeat (with_reducible first | exact HB.out | apply zd | apply zb | apply zc))); (case aF => exact (fun _ _ => trivial)); (case aO => exact (by (with_reducible repeat (first | apply zC | apply zB | apply zD)); exact HO_3.out)); (case aS => exact (zz (by repeat (with_reducible first | exact HB.out | apply zd | apply zb | apply zc)))); (case aL => have := LMc18.out; omega); intro v254 w20 ho hb hg hat; rw [← Ny253.out] at ho; have n0_ := Aq.mk (hb); have n1_ := Aq.mk (ho); clear HB; clear HO_3; have HB := n0_; have HO255 := n1_; clear n0_ n1_; clear ho hb hg hat))
             go_roundg kj4
             case measure => have := HK1.out; have := HJ4.out; omega
             case rel => exact ⟨(y253), (wrap64 (x4_1 + 1)), (by first | rfl | (simp; done) | (simp [*]; done)), H', ⟨by have := HK1.out; have := HJ4.out; omega⟩, ⟨by (with_reducible repeat (first | apply zC | apply zB | apply zD)); exact HO255.out⟩, ⟨by repeat (with_reducible first | exact HB.out | apply zd | apply zb | apply zc)⟩⟩
            ·rw [if_neg c18] at H
             exact absurd H (by simp)
          ·rw [if_neg c15] at H
           exact absurd H (by simp)
         ·rw [if_neg c14] at H
          exact absurd H (by simp)
       ·replace c8 := Bool.eq_false_iff.mpr c8
        subst c8
        have H1 : (if x3_1.length < 140737488355328 then (r2_dashed.l0 kj4 a0 (x3_1 ++ [(bt a0 x4_1)]) (wrap64 (x4_1 + 1))) else (none)) = some r := by rw [if_neg (show ¬ (false = true) by decide)] at H; exact H
        clear H
        have H := H1
        clear H1
        by_cases c21 : x3_1.length < 140737488355328
        ·rw [if_pos c21] at H
         have LMc21 := Aq.mk c21
         clear c21
         obtain ⟨y256, hy256⟩ : ∃ y_ : List Int, y_ = (x3_1 ++ [(bt a0 x4_1)]) := ⟨_, rfl⟩
         replace H : (r2_dashed.l0 kj4 a0 y256 (wrap64 (x4_1 + 1))) = some r := by first | (rw [hy256]; with_reducible exact H) | (have H2_ := (Option.bind_some _ _).symm.trans H; rw [hy256]; with_reducible exact H2_) | (have H2_ := (Option.bind_some _ _).symm.trans H; with_reducible exact H2_) | with_reducible exact H | (rw [hy256]; exact H) | exact H
         have Ny256 := Aq.mk hy256
         clear hy256
         have H' := Aq.mk H
         clear H
         go_wp2_with (first | ((with_reducible refine gate_builtin (b := .append) (xs := #[.tmp 40, .tmp 42]) rfl ?_); (try (refine gate_guard (by rfl) ?_; dsimp only)); at_builtin; refine Kd.R_append (Kd.int .u8) (w0 := w) w.heap.size rfl (.tmp 40) (.tmp 42) 110 5 (.int .u8 0) 1 rfl Tryd.underlying110 info5 rfl (by decide) (by omega) u3 x3_1 (bt a0 x4_1) [.int .u8 (bt a0 x4_1)] (fun _ => True) (fun _ => False) rfl rfl ?aP (fun _ hk => hk.elim) ?aF ?aO ?aB ?aS ?aL ?_; (case aP => exact rfl); (case aB => exact (by repeat (with_reducible first | exact HB.out | apply zd | apply zb | apply zc))); (case aF => exact (fun _ _ => trivial)); (case aO => exact (by (with_reducible repeat (first | apply zC | apply zB | apply zD)); exact HO_3.out)); (case aS => exact (zz (by repeat (with_reducible first | exact HB.out | apply zd | apply zb | apply zc)))); (case aL => have := LMc21.out; omega); intro v257 w22 ho hb hg hat; rw [← Ny256.out] at ho; have n0_ := Aq.mk (hb); have n1_ := Aq.mk (ho); clear HB; clear HO_3; have HB := n0_; have HO258 := n1_; clear n0_ n1_; clear ho hb hg hat))
         go_roundg kj4
         case measure => have := HK1.out; have := HJ4.out; omega
         case rel => exact ⟨(y256), (wrap64 (x4_1 + 1)), (by first | rfl | (simp; done) | (simp [*]; done)), H', ⟨by have := HK1.out; have := HJ4.out; omega⟩, ⟨by (with_reducible repeat (first | apply zC | apply zB | apply zD)); exact HO258.out⟩, ⟨by repeat (with_reducible first | exact HB.out | apply zd | apply zb | apply zc)⟩⟩
        ·rw [if_neg c21] at H
         exact absurd H (by simp)
    ·rw [if_neg c3] at H
     exact absurd H (by simp)
   ·rw [if_neg c2] at H
    have c2b0 : decide (x4_1 < (a0.size : Int)) = false := zl c2
    clear c2
    obtain rfl := yg H
    simp only [zH, zI] at H
    obtain ⟨rfl⟩ := H
    have hcv23 := own_string (P := Tryd.prog) Tryd.underlying110 Tryd.underlying5 Tryd.underlying9 (Kd.own_of_R HO_3.out)
    go_wp2
    go_ret
    exact ⟨by first | rfl | (simp [yl, ym] <;> rfl) | (simp [*, yl, ym] <;> rfl), by repeat (with_reducible first | exact HB.out | apply zd | apply zb | apply zc)⟩
end Go.Proofs.YtmnfjbmhlabdaaaDoor.Pr
