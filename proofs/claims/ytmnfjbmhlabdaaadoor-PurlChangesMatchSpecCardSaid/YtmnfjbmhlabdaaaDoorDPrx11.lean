-- Written by a program of the session (wip/pr.py) out of the translation; Lean checks it.
import Derived.Test.YtmnfjbmhlabdaaaDoorDXa
import Derived.Test.YtmnfjbmhlabdaaaDoorDPrx0
namespace Go.Proofs.YtmnfjbmhlabdaaaDoor.Pr
open Go.RowKit Go.Proofs.YtmnfjbmhlabdaaaDoorW.PrintWords Go.Proofs.YtmnfjbmhlabdaaaDoorW.PrintLast Go.Proofs.YtmnfjbmhlabdaaaDoorW.PrintMore
attribute [local go_sem] max2_int min2_int max_two min_two max_three min_three max_four min_four
set_option linter.unusedVariables false
set_option linter.unusedSimpArgs false
def r2_Kinds.f  : Option (List ByteArray) := some (([(⟨#[100, 111, 116, 116, 101, 100]⟩ : ByteArray), (⟨#[114, 101, 118, 105, 115, 101, 100]⟩ : ByteArray), (⟨#[115, 116, 97, 103, 101, 100]⟩ : ByteArray), (⟨#[113, 117, 97, 108, 105, 102, 105, 101, 100]⟩ : ByteArray), (⟨#[112, 108, 97, 105, 110]⟩ : ByteArray)] : List ByteArray))
set_option maxHeartbeats 8000000 in
set_option maxRecDepth 100000 in
theorem r2_Kinds.calls  (r : List ByteArray) (w : World) (h : r2_Kinds.f  = some r) :
  Calls Tryd.prog 20 #[] w fun e w' => ∃ v0_ : Value, e = .returned (v0_) ∧ Kd.R Kd.string 9 w' w.heap.size (fun _ => True) v0_ r ∧ Below w.heap.size w w' := by
 have HB := Aq.mk (Below.refl w.heap.size w)
 have H : (some (([(⟨#[100, 111, 116, 116, 101, 100]⟩ : ByteArray), (⟨#[114, 101, 118, 105, 115, 101, 100]⟩ : ByteArray), (⟨#[115, 116, 97, 103, 101, 100]⟩ : ByteArray), (⟨#[113, 117, 97, 108, 105, 102, 105, 101, 100]⟩ : ByteArray), (⟨#[112, 108, 97, 105, 110]⟩ : ByteArray)] : List ByteArray))) = some r := h
 clear h
 obtain ⟨y327, hy327⟩ : ∃ y_ : List ByteArray, y_ = (([(⟨#[100, 111, 116, 116, 101, 100]⟩ : ByteArray), (⟨#[114, 101, 118, 105, 115, 101, 100]⟩ : ByteArray), (⟨#[115, 116, 97, 103, 101, 100]⟩ : ByteArray), (⟨#[113, 117, 97, 108, 105, 102, 105, 101, 100]⟩ : ByteArray), (⟨#[112, 108, 97, 105, 110]⟩ : ByteArray)] : List ByteArray)) := ⟨_, rfl⟩
 replace H : (some y327) = some r := by first | (rw [hy327]; with_reducible exact H) | (have H2_ := (Option.bind_some _ _).symm.trans H; rw [hy327]; with_reducible exact H2_) | (have H2_ := (Option.bind_some _ _).symm.trans H; with_reducible exact H2_) | with_reducible exact H | (rw [hy327]; exact H) | exact H
 have Ny327 := Aq.mk hy327
 clear hy327
 obtain rfl := yg H
 simp only [zH, zI] at H
 obtain ⟨rfl⟩ := H
 go_enter Tryd.func20, Tryd.ntmps20
 go_wp2_with (first | ((with_reducible refine gate_dst (N := 1) rfl ?_); refine Kd.R_lit Kd.string _ 9 ?hg (N := 1) ?hd (xs := ([(⟨#[100, 111, 116, 116, 101, 100]⟩ : ByteArray), (⟨#[114, 101, 118, 105, 115, 101, 100]⟩ : ByteArray), (⟨#[115, 116, 97, 103, 101, 100]⟩ : ByteArray), (⟨#[113, 117, 97, 108, 105, 102, 105, 101, 100]⟩ : ByteArray), (⟨#[112, 108, 97, 105, 110]⟩ : ByteArray)] : List ByteArray)) (inner := [.string (⟨#[100, 111, 116, 116, 101, 100]⟩ : ByteArray), .string (⟨#[114, 101, 118, 105, 115, 101, 100]⟩ : ByteArray), .string (⟨#[115, 116, 97, 103, 101, 100]⟩ : ByteArray), .string (⟨#[113, 117, 97, 108, 105, 102, 105, 101, 100]⟩ : ByteArray), .string (⟨#[112, 108, 97, 105, 110]⟩ : ByteArray)]) (ok := fun _ => True) (okp := fun _ => True) ?hr ?hp (fun _ hk => hk) trivial (Below.refl _ _) (Nat.le_refl _) (by simp) ?_; (case hd => rfl); (case hg => rfl); (case hr => first | (go_simp; done) | (go_simp; rfl)); (case hp => exact (Reps.one (show Kd.M Kd.string _ _ _ (⟨#[100, 111, 116, 116, 101, 100]⟩ : ByteArray) [.string (⟨#[100, 111, 116, 116, 101, 100]⟩ : ByteArray)] from rfl) (Reps.one (show Kd.M Kd.string _ _ _ (⟨#[114, 101, 118, 105, 115, 101, 100]⟩ : ByteArray) [.string (⟨#[114, 101, 118, 105, 115, 101, 100]⟩ : ByteArray)] from rfl) (Reps.one (show Kd.M Kd.string _ _ _ (⟨#[115, 116, 97, 103, 101, 100]⟩ : ByteArray) [.string (⟨#[115, 116, 97, 103, 101, 100]⟩ : ByteArray)] from rfl) (Reps.one (show Kd.M Kd.string _ _ _ (⟨#[113, 117, 97, 108, 105, 102, 105, 101, 100]⟩ : ByteArray) [.string (⟨#[113, 117, 97, 108, 105, 102, 105, 101, 100]⟩ : ByteArray)] from rfl) (Reps.one (show Kd.M Kd.string _ _ _ (⟨#[112, 108, 97, 105, 110]⟩ : ByteArray) [.string (⟨#[112, 108, 97, 105, 110]⟩ : ByteArray)] from rfl) (Reps.none _ _))))))); intro v328 w1 ho2 hb hg_ hnew_; clear hg_ hnew_; (first | rw [← Ny327.out] at ho2 | (simp only [Int.reduceToNat] at ho2; rw [← Ny327.out] at ho2)); have n0_ := Aq.mk (zX ho2 (zz (by repeat (first | (with_reducible first | exact HB.out | apply zd | apply zb | apply zc) | exact HB.out)))); have n1_ := Aq.mk (zv (by repeat (first | (with_reducible first | exact HB.out | apply zd | apply zb | apply zc) | exact HB.out)) hb); clear HB; have HO329 := n0_; have HB := n1_; clear n0_ n1_; clear hb ho2))
 go_ret
 exact ⟨_, by first | rfl | (simp [yl, ym] <;> rfl) | (simp [*, yl, ym] <;> rfl), by (with_reducible repeat (first | apply zC | apply zB | apply zD)); exact HO329.out, by repeat (first | (with_reducible first | exact HB.out | apply zd | apply zb | apply zc) | exact HB.out)⟩
def r2_place.l0 : Nat → ByteArray → List ByteArray → Int → Int → Option (Int)
 | 0, _, _, _, _ => none
 | k + 1, x0, x5, x6, x7 => if x7 < x6 then (if 0 ≤ x7 then (if x7 < (x5.length : Int) then (if (rdOf ByteArray.empty x5 x7).toList = x0.toList then (some x7) else (r2_place.l0 k x0 x5 x6 (wrap64 (x7 + 1)))) else (none)) else (none)) else (some (-1))
def r2_place.f (k : Nat) (a0 : ByteArray) : Option (Int) := (r2_Kinds.f).bind fun t330 => (r2_place.l0 k a0 t330 (t330.length : Int) 0)
set_option maxHeartbeats 8000000 in
set_option maxRecDepth 100000 in
theorem r2_place.calls (k : Nat) (a0 : ByteArray) (r : Int) (w : World) (h : r2_place.f k a0 = some r) :
  Calls Tryd.prog 55 #[.string a0] w fun e w' => e = .returned (.int .i64 r) ∧ Below w.heap.size w w' := by
 have HB := Aq.mk (Below.refl w.heap.size w)
 have H : ((r2_Kinds.f).bind fun t330 => (r2_place.l0 k a0 t330 (t330.length : Int) 0)) = some r := h
 clear h
 replace H := zu.mp H
 obtain ⟨t330, A20, H⟩ := H
 replace H : (r2_place.l0 k a0 t330 (t330.length : Int) 0) = some r := H
 have A2 := Aq.mk A20
 clear A20
 have H' := Aq.mk H
 clear H
 go_enter Tryd.func55, Tryd.ntmps55
 go_wp2_with (first | ((with_reducible refine gate_callee (f := 20) rfl ?_); refine goesL_ (some 5) rfl rfl Tryd.func20 (by kernel_rfl) rfl #[] rfl (by (try simp only [zP, zQ, zR]); first | done | rfl | (simp only [zS, zT]; rfl)) ?_; (with_reducible refine (r2_Kinds.calls  t330 _ A2.out).mono ?_); rintro e w3 ⟨v331, rfl, ho0, hb⟩; refine ⟨_, rfl, ?_⟩; have n0_ := Aq.mk (zX ho0 (zz (by repeat (first | (with_reducible first | exact HB.out | apply zd | apply zb | apply zc) | exact HB.out)))); have n1_ := Aq.mk (zv (by repeat (first | (with_reducible first | exact HB.out | apply zd | apply zb | apply zc) | exact HB.out)) hb); clear HB; have HO332 := n0_; have HB := n1_; clear n0_ n1_; (try clear hb); (try clear hb2); (try clear hk); (try clear hi); (try clear ho0); obtain ⟨Ao4, co4, eo4⟩ := yi HO332.out; subst eo4))
 go_loopg [7] k (fun kq v7 w' => ∃ (x7_1 : Int), v7 = .int .i64 x7_1 ∧ Aq (r2_place.l0 kq a0 t330 (t330.length : Int) x7_1 = some r) ∧ Aq (kq ≤ k) ∧ Aq (Kd.R Kd.string 9 w' w.heap.size (fun _ => True) (.slice Ao4 t330.length co4) t330) ∧ Aq (Below w.heap.size w w'))
 case atStart => exact ⟨(0), (by first | rfl | (simp; done) | (simp [*]; done)), H', ⟨Nat.le_refl _⟩, ⟨by (with_reducible repeat (first | apply zC | apply zB | apply zD)); exact HO332.out⟩, ⟨by repeat (first | (with_reducible first | exact HB.out | apply zd | apply zb | apply zc) | exact HB.out)⟩⟩
 case round =>
  clear H'
  try clear c2
  try clear p2
  obtain ⟨x7_1, rfl, HA, HK1, HO_5, HB⟩ := hrel
  cases gk with
  | zero => exact absurd HA.out (by simp [r2_place.l0])
  | succ k1 =>
   have H := HA.out
   clear HA
   simp only [r2_place.l0] at H
   by_cases c5 : x7_1 < (t330.length : Int)
   ·rw [if_pos c5] at H
    have c5b0 : decide (x7_1 < (t330.length : Int)) = true := zk c5
    clear c5
    by_cases c6 : 0 ≤ x7_1
    ·rw [if_pos c6] at H
     have c6b0 : decide (0 ≤ x7_1) = true := zk c6
     clear c6
     by_cases c7 : x7_1 < (t330.length : Int)
     ·rw [if_pos c7] at H
      have c7b0 : decide (x7_1 < (t330.length : Int)) = true := zk c7
      clear c7
      by_cases c8 : (rdOf ByteArray.empty t330 x7_1).toList = a0.toList
      ·rw [if_pos c8] at H
       have c8b0 : ((rdOf ByteArray.empty t330 x7_1).toList == a0.toList) = true := yc.mpr c8
       have c8b1 : ((rdOf ByteArray.empty t330 x7_1).toList != a0.toList) = false := yf.mpr c8
       clear c8
       obtain rfl := yg H
       simp only [zH, zI] at H
       obtain ⟨rfl⟩ := H
       have p333 : 0 ≤ (x7_1 : Int) := zj (by first | (with_reducible assumption) | assumption)
       have q333 : x7_1 < (t330.length : Int) := zj (by first | (with_reducible assumption) | assumption)
       obtain ⟨ad333, e333, hx333_0⟩ := Kd.at_string (Kd.R_reads' HO_5.out).2.2 x7_1 p333 q333
       cases e333
       replace p333 := eq_true p333
       replace q333 := eq_true q333
       go_wp2
       go_ret
       exact ⟨by first | rfl | (simp [yl, ym] <;> rfl) | (simp [*, yl, ym] <;> rfl), by repeat (first | (with_reducible first | exact HB.out | apply zd | apply zb | apply zc) | exact HB.out)⟩
      ·rw [if_neg c8] at H
       have c8b0 : ((rdOf ByteArray.empty t330 x7_1).toList == a0.toList) = false := ye.mpr c8
       have c8b1 : ((rdOf ByteArray.empty t330 x7_1).toList != a0.toList) = true := yd.mpr c8
       have H' := Aq.mk H
       clear H
       have p333 : 0 ≤ (x7_1 : Int) := zj (by first | (with_reducible assumption) | assumption)
       have q333 : x7_1 < (t330.length : Int) := zj (by first | (with_reducible assumption) | assumption)
       obtain ⟨ad333, e333, hx333_0⟩ := Kd.at_string (Kd.R_reads' HO_5.out).2.2 x7_1 p333 q333
       cases e333
       replace p333 := eq_true p333
       replace q333 := eq_true q333
       go_wp2
       go_roundg k1
       case measure => have := HK1.out; omega
       case rel => exact ⟨(wrap64 (x7_1 + 1)), (by first | rfl | (simp; done) | (simp [*]; done)), H', ⟨by have := HK1.out; omega⟩, ⟨by (with_reducible repeat (first | apply zC | apply zB | apply zD)); exact HO_5.out⟩, ⟨by repeat (first | (with_reducible first | exact HB.out | apply zd | apply zb | apply zc) | exact HB.out)⟩⟩
     ·rw [if_neg c7] at H
      exact absurd H (by simp)
    ·rw [if_neg c6] at H
     exact absurd H (by simp)
   ·rw [if_neg c5] at H
    have c5b0 : decide (x7_1 < (t330.length : Int)) = false := zl c5
    clear c5
    obtain rfl := yg H
    simp only [zH, zI] at H
    obtain ⟨rfl⟩ := H
    go_wp2
    go_ret
    exact ⟨by first | rfl | (simp [yl, ym] <;> rfl) | (simp [*, yl, ym] <;> rfl), by repeat (first | (with_reducible first | exact HB.out | apply zd | apply zb | apply zc) | exact HB.out)⟩
def r2_rules.f  : Option ((List (S37))) := some (([(⟨(⟨#[100, 111, 116, 116, 101, 100]⟩ : ByteArray), 2, true, false, 1⟩ : S37), (⟨(⟨#[114, 101, 118, 105, 115, 101, 100]⟩ : ByteArray), 3, true, false, 2⟩ : S37), (⟨(⟨#[115, 116, 97, 103, 101, 100]⟩ : ByteArray), 1, true, true, 3⟩ : S37), (⟨(⟨#[113, 117, 97, 108, 105, 102, 105, 101, 100]⟩ : ByteArray), 3, false, false, 4⟩ : S37), (⟨(⟨#[112, 108, 97, 105, 110]⟩ : ByteArray), 2, false, false, 5⟩ : S37)] : List (S37)))
set_option maxHeartbeats 8000000 in
set_option maxRecDepth 100000 in
theorem r2_rules.calls  (r : List (S37)) (w : World) (h : r2_rules.f  = some r) :
  Calls Tryd.prog 56 #[] w fun e w' => ∃ v0_ : Value, e = .returned (v0_) ∧ Kd.R k37 37 w' w.heap.size (fun _ => True) v0_ r ∧ Below w.heap.size w w' := by
 have hu37 := Tryd.underlying37
 have HB := Aq.mk (Below.refl w.heap.size w)
 have H : (some (([(⟨(⟨#[100, 111, 116, 116, 101, 100]⟩ : ByteArray), 2, true, false, 1⟩ : S37), (⟨(⟨#[114, 101, 118, 105, 115, 101, 100]⟩ : ByteArray), 3, true, false, 2⟩ : S37), (⟨(⟨#[115, 116, 97, 103, 101, 100]⟩ : ByteArray), 1, true, true, 3⟩ : S37), (⟨(⟨#[113, 117, 97, 108, 105, 102, 105, 101, 100]⟩ : ByteArray), 3, false, false, 4⟩ : S37), (⟨(⟨#[112, 108, 97, 105, 110]⟩ : ByteArray), 2, false, false, 5⟩ : S37)] : List (S37)))) = some r := h
 clear h
 obtain ⟨y334, hy334⟩ : ∃ y_ : List (S37), y_ = (([(⟨(⟨#[100, 111, 116, 116, 101, 100]⟩ : ByteArray), 2, true, false, 1⟩ : S37), (⟨(⟨#[114, 101, 118, 105, 115, 101, 100]⟩ : ByteArray), 3, true, false, 2⟩ : S37), (⟨(⟨#[115, 116, 97, 103, 101, 100]⟩ : ByteArray), 1, true, true, 3⟩ : S37), (⟨(⟨#[113, 117, 97, 108, 105, 102, 105, 101, 100]⟩ : ByteArray), 3, false, false, 4⟩ : S37), (⟨(⟨#[112, 108, 97, 105, 110]⟩ : ByteArray), 2, false, false, 5⟩ : S37)] : List (S37))) := ⟨_, rfl⟩
 replace H : (some y334) = some r := by first | (rw [hy334]; with_reducible exact H) | (have H2_ := (Option.bind_some _ _).symm.trans H; rw [hy334]; with_reducible exact H2_) | (have H2_ := (Option.bind_some _ _).symm.trans H; with_reducible exact H2_) | with_reducible exact H | (rw [hy334]; exact H) | exact H
 have Ny334 := Aq.mk hy334
 clear hy334
 obtain rfl := yg H
 simp only [zH, zI] at H
 obtain ⟨rfl⟩ := H
 go_enter Tryd.func56, Tryd.ntmps56
 go_wp2_with (first | ((with_reducible refine gate_dst (N := 6) rfl ?_); refine Kd.R_lit k37 _ 37 ?hg (N := 6) ?hd (xs := ([(⟨(⟨#[100, 111, 116, 116, 101, 100]⟩ : ByteArray), 2, true, false, 1⟩ : S37), (⟨(⟨#[114, 101, 118, 105, 115, 101, 100]⟩ : ByteArray), 3, true, false, 2⟩ : S37), (⟨(⟨#[115, 116, 97, 103, 101, 100]⟩ : ByteArray), 1, true, true, 3⟩ : S37), (⟨(⟨#[113, 117, 97, 108, 105, 102, 105, 101, 100]⟩ : ByteArray), 3, false, false, 4⟩ : S37), (⟨(⟨#[112, 108, 97, 105, 110]⟩ : ByteArray), 2, false, false, 5⟩ : S37)] : List (S37))) (inner := [.string (⟨#[100, 111, 116, 116, 101, 100]⟩ : ByteArray), .int .i64 2, .bool true, .bool false, .int .i64 1, .string (⟨#[114, 101, 118, 105, 115, 101, 100]⟩ : ByteArray), .int .i64 3, .bool true, .bool false, .int .i64 2, .string (⟨#[115, 116, 97, 103, 101, 100]⟩ : ByteArray), .int .i64 1, .bool true, .bool true, .int .i64 3, .string (⟨#[113, 117, 97, 108, 105, 102, 105, 101, 100]⟩ : ByteArray), .int .i64 3, .bool false, .bool false, .int .i64 4, .string (⟨#[112, 108, 97, 105, 110]⟩ : ByteArray), .int .i64 2, .bool false, .bool false, .int .i64 5]) (ok := fun _ => True) (okp := fun _ => True) ?hr ?hp (fun _ hk => hk) trivial (Below.refl _ _) (Nat.le_refl _) (by simp) ?_; (case hd => rfl); (case hg => rfl); (case hr => first | (go_simp; done) | (go_simp; rfl)); (case hp => exact (Reps.c5 (show Kd.M k37 _ _ _ (⟨(⟨#[100, 111, 116, 116, 101, 100]⟩ : ByteArray), 2, true, false, 1⟩ : S37) [.string (⟨#[100, 111, 116, 116, 101, 100]⟩ : ByteArray), .int .i64 2, .bool true, .bool false, .int .i64 1] from (k37_mkM _ _ _ (⟨(⟨#[100, 111, 116, 116, 101, 100]⟩ : ByteArray), 2, true, false, 1⟩ : S37) )) (Reps.c5 (show Kd.M k37 _ _ _ (⟨(⟨#[114, 101, 118, 105, 115, 101, 100]⟩ : ByteArray), 3, true, false, 2⟩ : S37) [.string (⟨#[114, 101, 118, 105, 115, 101, 100]⟩ : ByteArray), .int .i64 3, .bool true, .bool false, .int .i64 2] from (k37_mkM _ _ _ (⟨(⟨#[114, 101, 118, 105, 115, 101, 100]⟩ : ByteArray), 3, true, false, 2⟩ : S37) )) (Reps.c5 (show Kd.M k37 _ _ _ (⟨(⟨#[115, 116, 97, 103, 101, 100]⟩ : ByteArray), 1, true, true, 3⟩ : S37) [.string (⟨#[115, 116, 97, 103, 101, 100]⟩ : ByteArray), .int .i64 1, .bool true, .bool true, .int .i64 3] from (k37_mkM _ _ _ (⟨(⟨#[115, 116, 97, 103, 101, 100]⟩ : ByteArray), 1, true, true, 3⟩ : S37) )) (Reps.c5 (show Kd.M k37 _ _ _ (⟨(⟨#[113, 117, 97, 108, 105, 102, 105, 101, 100]⟩ : ByteArray), 3, false, false, 4⟩ : S37) [.string (⟨#[113, 117, 97, 108, 105, 102, 105, 101, 100]⟩ : ByteArray), .int .i64 3, .bool false, .bool false, .int .i64 4] from (k37_mkM _ _ _ (⟨(⟨#[113, 117, 97, 108, 105, 102, 105, 101, 100]⟩ : ByteArray), 3, false, false, 4⟩ : S37) )) (Reps.c5 (show Kd.M k37 _ _ _ (⟨(⟨#[112, 108, 97, 105, 110]⟩ : ByteArray), 2, false, false, 5⟩ : S37) [.string (⟨#[112, 108, 97, 105, 110]⟩ : ByteArray), .int .i64 2, .bool false, .bool false, .int .i64 5] from (k37_mkM _ _ _ (⟨(⟨#[112, 108, 97, 105, 110]⟩ : ByteArray), 2, false, false, 5⟩ : S37) )) (Reps.none _ _))))))); intro v335 w1 ho2 hb hg_ hnew_; clear hg_ hnew_; (first | rw [← Ny334.out] at ho2 | (simp only [Int.reduceToNat] at ho2; rw [← Ny334.out] at ho2)); have n0_ := Aq.mk (zX ho2 (zz (by repeat (first | (with_reducible first | exact HB.out | apply zd | apply zb | apply zc) | exact HB.out)))); have n1_ := Aq.mk (zv (by repeat (first | (with_reducible first | exact HB.out | apply zd | apply zb | apply zc) | exact HB.out)) hb); clear HB; have HO336 := n0_; have HB := n1_; clear n0_ n1_; clear hb ho2))
 go_ret
 exact ⟨_, by first | rfl | (simp [yl, ym] <;> rfl) | (simp [*, yl, ym] <;> rfl), by (with_reducible repeat (first | apply zC | apply zB | apply zD)); exact HO336.out, by repeat (first | (with_reducible first | exact HB.out | apply zd | apply zb | apply zc) | exact HB.out)⟩
def r2_Rule.f (k : Nat) (a0 : ByteArray) : Option (ByteArray × Int × Bool × Bool × Int × Int) := (r2_place.f k a0).bind fun t338 => (if t338 ≥ 0 then ((r2_rules.f).bind fun t339 => (if 0 ≤ t338 then (if t338 < (t339.length : Int) then (some ((rd_T37 t339 t338).f0, (rd_T37 t339 t338).f1, (rd_T37 t339 t338).f2, (rd_T37 t339 t338).f3, (rd_T37 t339 t338).f4, 0)) else (none)) else (none))) else (some ((⟨#[]⟩ : ByteArray), 0, false, false, 0, 7)))
set_option maxHeartbeats 8000000 in
set_option maxRecDepth 100000 in
theorem r2_Rule.calls (k : Nat) (a0 : ByteArray) (r1 : ByteArray) (r2 : Int) (r3 : Bool) (r4 : Bool) (r5 : Int) (r6 : Int) (w : World) (h : r2_Rule.f k a0 = some (r1, r2, r3, r4, r5, r6)) :
  Calls Tryd.prog 16 #[.string a0] w fun e w' => e = .returned (.tuple #[.agg #[.string r1, .int .i64 r2, .bool r3, .bool r4, .int .i64 r5], .int .i64 r6]) ∧ Below w.heap.size w w' := by
 have hu37 := Tryd.underlying37
 have HB := Aq.mk (Below.refl w.heap.size w)
 have H : ((r2_place.f k a0).bind fun t338 => (if t338 ≥ 0 then ((r2_rules.f).bind fun t339 => (if 0 ≤ t338 then (if t338 < (t339.length : Int) then (some ((rd_T37 t339 t338).f0, (rd_T37 t339 t338).f1, (rd_T37 t339 t338).f2, (rd_T37 t339 t338).f3, (rd_T37 t339 t338).f4, 0)) else (none)) else (none))) else (some ((⟨#[]⟩ : ByteArray), 0, false, false, 0, 7)))) = some (r1, r2, r3, r4, r5, r6) := h
 clear h
 replace H := zu.mp H
 obtain ⟨t338, A20, H⟩ := H
 replace H : (if t338 ≥ 0 then ((r2_rules.f).bind fun t339 => (if 0 ≤ t338 then (if t338 < (t339.length : Int) then (some ((rd_T37 t339 t338).f0, (rd_T37 t339 t338).f1, (rd_T37 t339 t338).f2, (rd_T37 t339 t338).f3, (rd_T37 t339 t338).f4, 0)) else (none)) else (none))) else (some ((⟨#[]⟩ : ByteArray), 0, false, false, 0, 7))) = some (r1, r2, r3, r4, r5, r6) := H
 have A2 := Aq.mk A20
 clear A20
 by_cases c3 : t338 ≥ 0
 ·rw [if_pos c3] at H
  have c3b0 : decide (0 ≤ t338) = true := zk c3
  clear c3
  replace H := zu.mp H
  obtain ⟨t339, A40, H⟩ := H
  replace H : (if 0 ≤ t338 then (if t338 < (t339.length : Int) then (some ((rd_T37 t339 t338).f0, (rd_T37 t339 t338).f1, (rd_T37 t339 t338).f2, (rd_T37 t339 t338).f3, (rd_T37 t339 t338).f4, 0)) else (none)) else (none)) = some (r1, r2, r3, r4, r5, r6) := H
  have A4 := Aq.mk A40
  clear A40
  by_cases c5 : 0 ≤ t338
  ·rw [if_pos c5] at H
   have c5b0 : decide (0 ≤ t338) = true := zk c5
   clear c5
   by_cases c6 : t338 < (t339.length : Int)
   ·rw [if_pos c6] at H
    have c6b0 : decide (t338 < (t339.length : Int)) = true := zk c6
    clear c6
    simp only [zH, zI] at H
    obtain ⟨rfl, rfl, rfl, rfl, rfl, rfl⟩ := H
    go_enter Tryd.func16, Tryd.ntmps16
    go_wp2_with (first | ((with_reducible refine gate_dst (N := 2) rfl ?_); refine box_event ?hg (N := 2) ?hd (cs := #[.string (⟨#[]⟩ : ByteArray), .int .i64 0, .bool false, .bool false, .int .i64 0]) (t := 37) ?hr ?_; (case hd => rfl); (case hg => rfl); (case hr => first | (go_simp; done) | (go_simp; rfl)); intro gb337 hg w7 hbox hb; have n0_ := Aq.mk (zv (by repeat (first | (with_reducible first | exact HB.out | apply zd | apply zb | apply zc) | exact HB.out)) hb); have n1_ := Aq.mk (hbox); have n2_ := Aq.mk ((by rw [hg]; exact (zz (by repeat (first | (with_reducible first | exact HB.out | apply zd | apply zb | apply zc) | exact HB.out))) : w.heap.size ≤ gb337)); have n3_ := Aq.mk ((by rw [hg]; exact (zz (by repeat (first | (with_reducible first | exact HB.out | apply zd | apply zb | apply zc) | exact HB.out))) : w.heap.size ≤ gb337)); clear HB; have HB := n0_; have BK337 := n1_; have GW337 := n2_; have GE337 := n3_; clear n0_ n1_ n2_ n3_; clear hb hbox hg) | ((with_reducible refine gate_callee (f := 55) rfl ?_); refine goesL_ (some 6) rfl rfl Tryd.func55 (by kernel_rfl) rfl #[.string a0] rfl (by (try simp only [zP, zQ, zR]); first | done | rfl | (simp only [zS, zT]; rfl)) ?_; (with_reducible refine (r2_place.calls k a0 t338 _ A2.out).mono ?_); rintro e w8 ⟨rfl, hb⟩; refine ⟨_, rfl, ?_⟩; have n0_ := Aq.mk (zw (g := gb337) (o := .cells #[.string (⟨#[]⟩ : ByteArray), .int .i64 0, .bool false, .bool false, .int .i64 0] 37 (0, 0)) (by (with_reducible repeat (first | refine zg ?_ _ | refine zi ?_ | refine zh ?_ _)); exact BK337.out) hb); have n1_ := Aq.mk (zv (by repeat (first | (with_reducible first | exact HB.out | apply zd | apply zb | apply zc | refine zf ?_ GE337.out) | exact HB.out)) hb); clear BK337; clear HB; have BK337 := n0_; have HB := n1_; clear n0_ n1_; (try clear hb); (try clear hb2); (try clear hk); (try clear hi)) | ((with_reducible refine gate_callee (f := 56) rfl ?_); refine goesL_ (some 9) rfl rfl Tryd.func56 (by kernel_rfl) rfl #[] rfl (by (try simp only [zP, zQ, zR]); first | done | rfl | (simp only [zS, zT]; rfl)) ?_; (with_reducible refine (r2_rules.calls  t339 _ A4.out).mono ?_); rintro e w9 ⟨v340, rfl, ho0, hb⟩; refine ⟨_, rfl, ?_⟩; have n0_ := Aq.mk (zX (Kd.R_newB ho0 (g := gb337) (o := .cells #[.string (⟨#[]⟩ : ByteArray), .int .i64 0, .bool false, .bool false, .int .i64 0] 37 (0, 0)) (by (with_reducible repeat (first | refine zg ?_ _ | refine zi ?_ | refine zh ?_ _)); exact BK337.out)) (zz (by repeat (first | (with_reducible first | exact HB.out | apply zd | apply zb | apply zc | refine zf ?_ GE337.out) | exact HB.out)))); have n1_ := Aq.mk (zw (g := gb337) (o := .cells #[.string (⟨#[]⟩ : ByteArray), .int .i64 0, .bool false, .bool false, .int .i64 0] 37 (0, 0)) (by (with_reducible repeat (first | refine zg ?_ _ | refine zi ?_ | refine zh ?_ _)); exact BK337.out) hb); have n2_ := Aq.mk (zv (by repeat (first | (with_reducible first | exact HB.out | apply zd | apply zb | apply zc | refine zf ?_ GE337.out) | exact HB.out)) hb); clear BK337; clear HB; have HO341 := n0_; have BK337 := n1_; have HB := n2_; clear n0_ n1_ n2_; (try clear hb); (try clear hb2); (try clear hk); (try clear hi); (try clear ho0); obtain ⟨Ao10, co10, eo10⟩ := yi HO341.out; subst eo10; have p342 : 0 ≤ (t338 : Int) := zj (by first | (with_reducible assumption) | assumption); have q342 : t338 < (t339.length : Int) := zj (by first | (with_reducible assumption) | assumption); obtain ⟨ad342, e342, hx342_0, hx342_1, hx342_2, hx342_3, hx342_4⟩ := at_T37 (Kd.R_reads' HO341.out).2.2 t338 p342 q342; cases e342; replace p342 := eq_true p342; replace q342 := eq_true q342; have hcz11_0 : w9.cell? ⟨gb337, 0, none⟩ = some (.string (⟨#[]⟩ : ByteArray)) := (ze BK337.out 0).trans rfl; have hcz11_1 : w9.cell? ⟨gb337, 1, none⟩ = some (.int .i64 0) := (ze BK337.out 1).trans rfl; have hcz11_2 : w9.cell? ⟨gb337, 2, none⟩ = some (.bool false) := (ze BK337.out 2).trans rfl; have hcz11_3 : w9.cell? ⟨gb337, 3, none⟩ = some (.bool false) := (ze BK337.out 3).trans rfl; have hcz11_4 : w9.cell? ⟨gb337, 4, none⟩ = some (.int .i64 0) := (ze BK337.out 4).trans rfl; have hfz11_0 := za BK337.out 0; have hfz11_1 := za BK337.out 1; have hfz11_2 := za BK337.out 2; have hfz11_3 := za BK337.out 3; have hfz11_4 := za BK337.out 4))
    refine bodyPost_ret (results_ct rfl _ _ gb337 37 #[.string ((rd_T37 t339 t338).f0), .int .i64 ((rd_T37 t339 t338).f1), .bool ((rd_T37 t339 t338).f2), .bool ((rd_T37 t339 t338).f3), .int .i64 ((rd_T37 t339 t338).f4)] (0, 0) _ rfl (by (with_reducible repeat (first | refine zg ?_ _ | refine zi ?_ | refine zh ?_ _)); refine zy (cs := #[.string ((rd_T37 t339 t338).f0), .int .i64 ((rd_T37 t339 t338).f1), .bool ((rd_T37 t339 t338).f2), .bool ((rd_T37 t339 t338).f3), .int .i64 0]) ?_ 4 _ rfl; (with_reducible repeat (first | refine zg ?_ _ | refine zi ?_ | refine zh ?_ _)); refine zy (cs := #[.string ((rd_T37 t339 t338).f0), .int .i64 ((rd_T37 t339 t338).f1), .bool ((rd_T37 t339 t338).f2), .bool false, .int .i64 0]) ?_ 3 _ rfl; (with_reducible repeat (first | refine zg ?_ _ | refine zi ?_ | refine zh ?_ _)); refine zy (cs := #[.string ((rd_T37 t339 t338).f0), .int .i64 ((rd_T37 t339 t338).f1), .bool false, .bool false, .int .i64 0]) ?_ 2 _ rfl; (with_reducible repeat (first | refine zg ?_ _ | refine zi ?_ | refine zh ?_ _)); refine zy (cs := #[.string ((rd_T37 t339 t338).f0), .int .i64 0, .bool false, .bool false, .int .i64 0]) ?_ 1 _ rfl; (with_reducible repeat (first | refine zg ?_ _ | refine zi ?_ | refine zh ?_ _)); refine zy (cs := #[.string (⟨#[]⟩ : ByteArray), .int .i64 0, .bool false, .bool false, .int .i64 0]) ?_ 0 _ rfl; (with_reducible repeat (first | refine zg ?_ _ | refine zi ?_ | refine zh ?_ _)); exact BK337.out) Tryd.underlying37 rfl (by kernel_rfl)) rfl ?_
    exact ⟨by first | rfl | (simp [yl, ym] <;> rfl) | (simp [*, yl, ym] <;> rfl), by repeat (first | (with_reducible first | exact HB.out | apply zd | apply zb | apply zc | refine zf ?_ GE337.out) | exact HB.out)⟩
   ·rw [if_neg c6] at H
    exact absurd H (by simp)
  ·rw [if_neg c5] at H
   exact absurd H (by simp)
 ·rw [if_neg c3] at H
  have c3b0 : decide (0 ≤ t338) = false := zl c3
  clear c3
  simp only [zH, zI] at H
  obtain ⟨rfl, rfl, rfl, rfl, rfl, rfl⟩ := H
  go_enter Tryd.func16, Tryd.ntmps16
  go_wp2_with (first | ((with_reducible refine gate_dst (N := 2) rfl ?_); refine box_event ?hg (N := 2) ?hd (cs := #[.string (⟨#[]⟩ : ByteArray), .int .i64 0, .bool false, .bool false, .int .i64 0]) (t := 37) ?hr ?_; (case hd => rfl); (case hg => rfl); (case hr => first | (go_simp; done) | (go_simp; rfl)); intro gb337 hg w12 hbox hb; have n0_ := Aq.mk (zv (by repeat (first | (with_reducible first | exact HB.out | apply zd | apply zb | apply zc) | exact HB.out)) hb); have n1_ := Aq.mk (hbox); have n2_ := Aq.mk ((by rw [hg]; exact (zz (by repeat (first | (with_reducible first | exact HB.out | apply zd | apply zb | apply zc) | exact HB.out))) : w.heap.size ≤ gb337)); have n3_ := Aq.mk ((by rw [hg]; exact (zz (by repeat (first | (with_reducible first | exact HB.out | apply zd | apply zb | apply zc) | exact HB.out))) : w.heap.size ≤ gb337)); clear HB; have HB := n0_; have BK337 := n1_; have GW337 := n2_; have GE337 := n3_; clear n0_ n1_ n2_ n3_; clear hb hbox hg) | ((with_reducible refine gate_callee (f := 55) rfl ?_); refine goesL_ (some 6) rfl rfl Tryd.func55 (by kernel_rfl) rfl #[.string a0] rfl (by (try simp only [zP, zQ, zR]); first | done | rfl | (simp only [zS, zT]; rfl)) ?_; (with_reducible refine (r2_place.calls k a0 t338 _ A2.out).mono ?_); rintro e w13 ⟨rfl, hb⟩; refine ⟨_, rfl, ?_⟩; have n0_ := Aq.mk (zw (g := gb337) (o := .cells #[.string (⟨#[]⟩ : ByteArray), .int .i64 0, .bool false, .bool false, .int .i64 0] 37 (0, 0)) (by (with_reducible repeat (first | refine zg ?_ _ | refine zi ?_ | refine zh ?_ _)); exact BK337.out) hb); have n1_ := Aq.mk (zv (by repeat (first | (with_reducible first | exact HB.out | apply zd | apply zb | apply zc | refine zf ?_ GE337.out) | exact HB.out)) hb); clear BK337; clear HB; have BK337 := n0_; have HB := n1_; clear n0_ n1_; (try clear hb); (try clear hb2); (try clear hk); (try clear hi); have hcz14_0 : w13.cell? ⟨gb337, 0, none⟩ = some (.string (⟨#[]⟩ : ByteArray)) := (ze BK337.out 0).trans rfl; have hcz14_1 : w13.cell? ⟨gb337, 1, none⟩ = some (.int .i64 0) := (ze BK337.out 1).trans rfl; have hcz14_2 : w13.cell? ⟨gb337, 2, none⟩ = some (.bool false) := (ze BK337.out 2).trans rfl; have hcz14_3 : w13.cell? ⟨gb337, 3, none⟩ = some (.bool false) := (ze BK337.out 3).trans rfl; have hcz14_4 : w13.cell? ⟨gb337, 4, none⟩ = some (.int .i64 0) := (ze BK337.out 4).trans rfl; have hfz14_0 := za BK337.out 0; have hfz14_1 := za BK337.out 1; have hfz14_2 := za BK337.out 2; have hfz14_3 := za BK337.out 3; have hfz14_4 := za BK337.out 4))
  refine bodyPost_ret (results_ct rfl _ _ gb337 37 #[.string (⟨#[]⟩ : ByteArray), .int .i64 0, .bool false, .bool false, .int .i64 0] (0, 0) _ rfl (by (with_reducible repeat (first | refine zg ?_ _ | refine zi ?_ | refine zh ?_ _)); refine zy (cs := #[.string (⟨#[]⟩ : ByteArray), .int .i64 0, .bool false, .bool false, .int .i64 0]) ?_ 4 _ rfl; (with_reducible repeat (first | refine zg ?_ _ | refine zi ?_ | refine zh ?_ _)); refine zy (cs := #[.string (⟨#[]⟩ : ByteArray), .int .i64 0, .bool false, .bool false, .int .i64 0]) ?_ 3 _ rfl; (with_reducible repeat (first | refine zg ?_ _ | refine zi ?_ | refine zh ?_ _)); refine zy (cs := #[.string (⟨#[]⟩ : ByteArray), .int .i64 0, .bool false, .bool false, .int .i64 0]) ?_ 2 _ rfl; (with_reducible repeat (first | refine zg ?_ _ | refine zi ?_ | refine zh ?_ _)); refine zy (cs := #[.string (⟨#[]⟩ : ByteArray), .int .i64 0, .bool false, .bool false, .int .i64 0]) ?_ 1 _ rfl; (with_reducible repeat (first | refine zg ?_ _ | refine zi ?_ | refine zh ?_ _)); refine zy (cs := #[.string (⟨#[]⟩ : ByteArray), .int .i64 0, .bool false, .bool false, .int .i64 0]) ?_ 0 _ rfl; (with_reducible repeat (first | refine zg ?_ _ | refine zi ?_ | refine zh ?_ _)); exact BK337.out) Tryd.underlying37 rfl (by kernel_rfl)) rfl ?_
  exact ⟨by first | rfl | (simp [yl, ym] <;> rfl) | (simp [*, yl, ym] <;> rfl), by repeat (first | (with_reducible first | exact HB.out | apply zd | apply zb | apply zc | refine zf ?_ GE337.out) | exact HB.out)⟩
end Go.Proofs.YtmnfjbmhlabdaaaDoor.Pr
