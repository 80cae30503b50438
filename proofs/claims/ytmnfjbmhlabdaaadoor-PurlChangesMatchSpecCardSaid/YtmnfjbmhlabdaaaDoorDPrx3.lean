/- purl.Check answers what its Lean function says. Conditions: none beyond its calls' own. -/
import Derived.Test.YtmnfjbmhlabdaaaDoorDXa
import Derived.Test.YtmnfjbmhlabdaaaDoorDPrx0
import Derived.Test.YtmnfjbmhlabdaaaDoorDPrx1
import Derived.Test.YtmnfjbmhlabdaaaDoorDPrx2
import Derived.Test.YtmnfjbmhlabdaaaDoorDEc
import Derived.Test.YtmnfjbmhlabdaaaDoorDEq
import Derived.Test.YtmnfjbmhlabdaaaDoorDEu
import Derived.Deep.RegionWith
import Derived.Deep.Cut
import Derived.Deep.LoopGhost
namespace Go.Proofs.YtmnfjbmhlabdaaaDoor.Pr
open Go.RowKit Go.Proofs.YtmnfjbmhlabdaaaDoorW.PrintWords Go.Proofs.YtmnfjbmhlabdaaaDoorW.PrintLast Go.Proofs.YtmnfjbmhlabdaaaDoorW.PrintMore
set_option linter.unusedVariables false
def pk0 (k : Nat) (xs : List ByteArray) : Nat → Nat → Option Bool
 | 0, _ => some false
 | d + 1, i => (purl_control.f k (rdOf ByteArray.empty xs (i : Int))).bind fun b => if b = true then some true else pk0 k xs d (i + 1)
def pk1 (k : Nat) (l : List S64) : Nat → Nat → Option Bool
 | 0, _ => some false
 | d + 1, i => (purl_control.f k (rd_T64 l i).f1).bind fun b => if b = true then some true else pk1 k l d (i + 1)
def pk5 (k : Nat) (a1 a2 a3 : ByteArray) (l : List S64) (a5 : ByteArray) : Option Int := (purl_segments.f a5).bind fun s => (purl_pathFault.f k s true).bind fun b => if b = true then some 2 else (pk0 k [a1, a2, a3, a5] 4 0).bind fun d0 => if d0 = true then some 8 else (pk1 k l l.length 0).bind fun d1 => if d1 = true then some 8 else some 0
def pk4 (k : Nat) (a1 a2 a3 : ByteArray) (l : List S64) (a5 : ByteArray) : Option Int := (purl_checkQualifiers.f k l).bind fun e => if e = 0 then pk5 k a1 a2 a3 l a5 else some e
def pk3 (k : Nat) (a1 a2 a3 : ByteArray) (l : List S64) (a5 : ByteArray) : Option Int := if a2.toList = [] then some 8 else (lib_IndexByte.f a2 47).bind fun n => if 0 ≤ n then some 8 else pk4 k a1 a2 a3 l a5
def pk2 (k : Nat) (a1 a2 a3 : ByteArray) (l : List S64) (a5 : ByteArray) : Option Int := (purl_segments.f a1).bind fun s => (purl_pathFault.f k s false).bind fun b => if b = true then some 2 else pk3 k a1 a2 a3 l a5
def purl_Check.f (k : Nat) (a0_0 a0_1 a0_2 a0_3 : ByteArray) (l0_4 : List S64) (a0_5 : ByteArray) : Option Int := (purl_Rule.f a0_0).bind fun t => if t.2.2.2.2.2 = 0 then (purl_long.f k a0_0 a0_1 a0_2 a0_3 l0_4 a0_5).bind fun lg => if lg = true then some 3 else if (a0_1.toList = [] ∧ t.2.1 = 3) ∨ (a0_1.toList ≠ [] ∧ t.2.1 = 1) then some 2 else pk2 k a0_1 a0_2 a0_3 l0_4 a0_5 else some t.2.2.2.2.2
theorem pk0.mono (l : List ByteArray) (k : Nat) : ∀ d i, LeO (pk0 k l d i) (pk0 (k + 1) l d i)
 | 0, _ => ya _
 | d + 1, i => by
  unfold pk0
  exact zY (purl_control.mono _ _) (fun b => zZ (ya _) (pk0.mono l k d (i + 1)))
theorem pk1.mono (l : List S64) (k : Nat) : ∀ d i, LeO (pk1 k l d i) (pk1 (k + 1) l d i)
 | 0, _ => ya _
 | d + 1, i => by
  unfold pk1
  exact zY (purl_control.mono _ _) (fun b => zZ (ya _) (pk1.mono l k d (i + 1)))
theorem purl_Check.mono : ∀ a0 a1 a2 a3 a4 a5 k, LeO (purl_Check.f k a0 a1 a2 a3 a4 a5) (purl_Check.f (k + 1) a0 a1 a2 a3 a4 a5) := by
 intro a0 a1 a2 a3 a4 a5 k
 unfold purl_Check.f pk2 pk3 pk4 pk5
 repeat' first
 | exact pk0.mono _ _ _ _
 | exact pk1.mono _ _ _ _
 | exact purl_long.mono _ _ _ _ _ _ _
 | exact purl_pathFault.mono _ _ _
 | exact purl_checkQualifiers.mono _ _
 | exact ya _
 | refine zZ ?_ ?_
 | refine zY ?_ (fun _ => ?_)
set_option maxHeartbeats 8000000 in
set_option maxRecDepth 100000 in
theorem purl_Check.calls (k : Nat) (a0_0 : ByteArray) (a0_1 : ByteArray) (a0_2 : ByteArray) (a0_3 : ByteArray) (A0_4 : Option Addr) (c0_4 : Nat) (l0_4 : List (S64)) (a0_5 : ByteArray) (r : Int) (w : World) (hr0_4 : Kd.C k64 w A0_4 l0_4.length l0_4) (hc0_4 : l0_4.length ≤ c0_4) (h : purl_Check.f k a0_0 a0_1 a0_2 a0_3 l0_4 a0_5 = some r) :
  Calls Tryd.prog 26 #[.agg #[.string a0_0, .string a0_1, .string a0_2, .string a0_3, .slice A0_4 l0_4.length c0_4, .string a0_5]] w fun e w' => e = .returned (.int .i64 r) ∧ Below w.heap.size w w' := by
 have hu24 := Tryd.underlying24
 have hu37 := Tryd.underlying37
 have hu64 := Tryd.underlying64
 have HMAX := Aq.mk (Kd.C_max hr0_4)
 have HR0 := Aq.mk hr0_4
 have HC0 := Aq.mk hc0_4
 clear hr0_4 hc0_4
 have HB := Aq.mk (Below.refl w.heap.size w)
 unfold purl_Check.f at h
 obtain ⟨⟨t1, t2, t3, t4, t5, t6⟩, AR0, h⟩ := zu.mp h
 replace h : (if t6 = 0 then (purl_long.f k a0_0 a0_1 a0_2 a0_3 l0_4 a0_5).bind (fun lg => if lg = true then some 3 else if (a0_1.toList = [] ∧ t2 = 3) ∨ (a0_1.toList ≠ [] ∧ t2 = 1) then some 2 else pk2 k a0_1 a0_2 a0_3 l0_4 a0_5) else some t6) = some r := h
 have AR := Aq.mk AR0
 have H := Aq.mk h
 clear AR0 h
 go_enter Tryd.func26, Tryd.ntmps26
 go_upto_region 2 with (first | ((with_reducible refine gate_dst (N := 1) rfl ?_); refine box_event ?hg (N := 1) ?hd (cs := #[.string a0_0, .string a0_1, .string a0_2, .string a0_3, .slice A0_4 l0_4.length c0_4, .string a0_5]) (t := 24) ?hr ?_; (case hd => rfl); (case hg => rfl); (case hr => first | (go_simp; done) | (go_simp; rfl)); intro g1 hg w1 hbox hb; have B1 := Aq.mk hbox; have n1_ := Aq.mk (zv (by repeat (with_reducible first | exact HB.out | apply zd | apply zb | apply zc)) hb); clear HB; have HB := n1_; clear n1_ hb hbox hg; have hc1_0 : w1.cell? ⟨g1, 0, none⟩ = some (.string a0_0) := (ze B1.out 0).trans rfl) | ((with_reducible refine gate_callee (f := 17) rfl ?_); refine goesL_ (some 13) rfl rfl Tryd.func17 (by kernel_rfl) rfl #[.string a0_0] rfl (by (try simp only [zP, zQ, zR]); first | done | rfl) ?_; (with_reducible refine (purl_Rule.calls a0_0 t1 t2 t3 t4 t5 t6 _ AR.out).mono ?_); rintro e w3 ⟨rfl, hb⟩; refine ⟨_, rfl, ?_⟩; have n0_ := Aq.mk (zw B1.out hb); have n1_ := Aq.mk (zv (by repeat (with_reducible first | exact HB.out | apply zd | apply zb | apply zc)) hb); clear HB B1; have B1 := n0_; have HB := n1_; clear n0_ n1_ hb) | ((with_reducible refine gate_dst (N := 3) rfl ?_); refine box_event ?hg (N := 3) ?hd (cs := #[.string (⟨#[]⟩ : ByteArray), .int .i64 0, .bool false, .bool false, .int .i64 0]) (t := 37) ?hr ?_; (case hd => rfl); (case hg => rfl); (case hr => first | (go_simp; done) | (go_simp; rfl)); intro g3 hg w4 hbox hb; have B3 := Aq.mk hbox; have L3 := Aq.mk (show w.heap.size ≤ g3 by rw [hg]; exact zz (by repeat (with_reducible first | exact HB.out | apply zd | apply zb | apply zc))); have N13 := Aq.mk (show g1 ≠ g3 by rw [hg]; exact Nat.ne_of_lt (zA B1.out)); have n0_ := Aq.mk (zw B1.out hb); have n1_ := Aq.mk (zv (by repeat (with_reducible first | exact HB.out | apply zd | apply zb | apply zc)) hb); clear HB B1; have B1 := n0_; have HB := n1_; clear n0_ n1_ hb hbox hg; have hc3_0 : w4.cell? ⟨g3, 0, none⟩ = some (.string (⟨#[]⟩ : ByteArray)) := (ze B3.out 0).trans rfl; have hf3_0 := za B3.out 0; have hc3_1 : w4.cell? ⟨g3, 1, none⟩ = some (.int .i64 0) := (ze B3.out 1).trans rfl; have hf3_1 := za B3.out 1; have hc3_2 : w4.cell? ⟨g3, 2, none⟩ = some (.bool false) := (ze B3.out 2).trans rfl; have hf3_2 := za B3.out 2; have hc3_3 : w4.cell? ⟨g3, 3, none⟩ = some (.bool false) := (ze B3.out 3).trans rfl; have hf3_3 := za B3.out 3; have hc3_4 : w4.cell? ⟨g3, 4, none⟩ = some (.int .i64 0) := (ze B3.out 4).trans rfl; have hf3_4 := za B3.out 4))
 refine wp_gen (R := Ck w g1 g3 #[.string a0_0, .string a0_1, .string a0_2, .string a0_3, .slice A0_4 l0_4.length c0_4, .string a0_5] #[.string t1, .int .i64 t2, .bool t3, .bool t4, .int .i64 t5]) ⟨by refine zx ?_ N13.out _; refine zx ?_ N13.out _; refine zx ?_ N13.out _; refine zx ?_ N13.out _; refine zx ?_ N13.out _; exact B1.out, by refine zy (cs := #[.string t1, .int .i64 t2, .bool t3, .bool t4, .int .i64 0]) ?_ 4 _ rfl; refine zy (cs := #[.string t1, .int .i64 t2, .bool t3, .bool false, .int .i64 0]) ?_ 3 _ rfl; refine zy (cs := #[.string t1, .int .i64 t2, .bool false, .bool false, .int .i64 0]) ?_ 2 _ rfl; refine zy (cs := #[.string t1, .int .i64 0, .bool false, .bool false, .int .i64 0]) ?_ 1 _ rfl; refine zy (cs := #[.string (⟨#[]⟩ : ByteArray), .int .i64 0, .bool false, .bool false, .int .i64 0]) ?_ 0 _ rfl; exact B3.out, by repeat (with_reducible first | exact HB.out | refine zf ?_ L3.out)⟩ (fun w5 C0 => ?_)
 clear B1 B3 HB hc1_0 hc3_0 hc3_1 hc3_2 hc3_3 hc3_4 hf3_0 hf3_1 hf3_2 hf3_3 hf3_4 L3 N13
 have h := H.out
 clear H
 by_cases h6 : t6 = 0
 case neg =>
  rw [if_neg h6] at h
  obtain rfl := yg h
  have h6b0 : (t6 == 0) = false := ye.mpr h6
  have h6b1 : (t6 != 0) = true := yd.mpr h6
  clear h
  go_wp2
  go_ret
  exact ⟨rfl, Ck.hb (g1 := g1) (g3 := g3) (P := #[.string a0_0, .string a0_1, .string a0_2, .string a0_3, .slice A0_4 l0_4.length c0_4, .string a0_5]) (Q := #[.string t1, .int .i64 t2, .bool t3, .bool t4, .int .i64 t5]) (by repeat (with_reducible first | exact C0.out | apply Ck.drewN | apply Ck.drew | apply Ck.alloc))⟩
 rw [if_pos h6] at h
 subst h6
 obtain ⟨lg, AL0, h⟩ := zu.mp h
 have ALo := Aq.mk AL0
 have H := Aq.mk h
 clear AL0 h
 go_upto_region 4 with (fail)
 refine wp_gen (R := Ck w g1 g3 #[.string a0_0, .string a0_1, .string a0_2, .string a0_3, .slice A0_4 l0_4.length c0_4, .string a0_5] #[.string t1, .int .i64 t2, .bool t3, .bool t4, .int .i64 t5]) (by repeat (with_reducible first | exact C0.out | apply Ck.drewN | apply Ck.drew | apply Ck.alloc)) (fun w6 C0 => ?_)
 have hp0 : w6.cell? ⟨g1, 0, none⟩ = some (.string a0_0) := (ze C0.out.b1 0).trans rfl; have hp1 : w6.cell? ⟨g1, 1, none⟩ = some (.string a0_1) := (ze C0.out.b1 1).trans rfl; have hp2 : w6.cell? ⟨g1, 2, none⟩ = some (.string a0_2) := (ze C0.out.b1 2).trans rfl; have hp3 : w6.cell? ⟨g1, 3, none⟩ = some (.string a0_3) := (ze C0.out.b1 3).trans rfl; have hp4 : w6.cell? ⟨g1, 4, none⟩ = some (.slice A0_4 l0_4.length c0_4) := (ze C0.out.b1 4).trans rfl; have hp5 : w6.cell? ⟨g1, 5, none⟩ = some (.string a0_5) := (ze C0.out.b1 5).trans rfl
 have h := H.out
 clear H
 cases lg with
 | true =>
  obtain rfl : (3 : Int) = r := yg h
  clear h
  go_wp2_with (first | (go_at_call 66; (with_reducible refine (purl_long.calls k a0_0 a0_1 a0_2 a0_3 A0_4 c0_4 l0_4 a0_5 true _ ?side1 HC0.out ALo.out).mono ?_); (case side1 => exact (Kd.C_below HR0.out (Ck.hb (g1 := g1) (g3 := g3) (P := #[.string a0_0, .string a0_1, .string a0_2, .string a0_3, .slice A0_4 l0_4.length c0_4, .string a0_5]) (Q := #[.string t1, .int .i64 t2, .bool t3, .bool t4, .int .i64 t5]) (by repeat (with_reducible first | exact C0.out | apply Ck.drewN | apply Ck.drew | apply Ck.alloc))))); rintro e w7 ⟨rfl, hb⟩; have n0_ : Aq (Ck w g1 g3 #[.string a0_0, .string a0_1, .string a0_2, .string a0_3, .slice A0_4 l0_4.length c0_4, .string a0_5] #[.string t1, .int .i64 t2, .bool t3, .bool t4, .int .i64 t5] w7) := ⟨Ck.below (by repeat (with_reducible first | exact C0.out | apply Ck.drewN | apply Ck.drew | apply Ck.alloc)) hb⟩; clear C0 hb; have C0 := n0_; clear n0_))
  go_ret
  exact ⟨rfl, Ck.hb (g1 := g1) (g3 := g3) (P := #[.string a0_0, .string a0_1, .string a0_2, .string a0_3, .slice A0_4 l0_4.length c0_4, .string a0_5]) (Q := #[.string t1, .int .i64 t2, .bool t3, .bool t4, .int .i64 t5]) (by repeat (with_reducible first | exact C0.out | apply Ck.drewN | apply Ck.drew | apply Ck.alloc))⟩
 | false =>
  have H := Aq.mk (show (if (a0_1.toList = [] ∧ t2 = 3) ∨ (a0_1.toList ≠ [] ∧ t2 = 1) then some 2 else pk2 k a0_1 a0_2 a0_3 l0_4 a0_5) = some r from h)
  clear h
  go_upto_region 6 with (first | (go_at_call 66; (with_reducible refine (purl_long.calls k a0_0 a0_1 a0_2 a0_3 A0_4 c0_4 l0_4 a0_5 false _ ?side1 HC0.out ALo.out).mono ?_); (case side1 => exact (Kd.C_below HR0.out (Ck.hb (g1 := g1) (g3 := g3) (P := #[.string a0_0, .string a0_1, .string a0_2, .string a0_3, .slice A0_4 l0_4.length c0_4, .string a0_5]) (Q := #[.string t1, .int .i64 t2, .bool t3, .bool t4, .int .i64 t5]) (by repeat (with_reducible first | exact C0.out | apply Ck.drewN | apply Ck.drew | apply Ck.alloc))))); rintro e w7 ⟨rfl, hb⟩; have n0_ : Aq (Ck w g1 g3 #[.string a0_0, .string a0_1, .string a0_2, .string a0_3, .slice A0_4 l0_4.length c0_4, .string a0_5] #[.string t1, .int .i64 t2, .bool t3, .bool t4, .int .i64 t5] w7) := ⟨Ck.below (by repeat (with_reducible first | exact C0.out | apply Ck.drewN | apply Ck.drew | apply Ck.alloc)) hb⟩; clear C0 hb; have C0 := n0_; clear n0_))
  refine wp_gen (R := Ck w g1 g3 #[.string a0_0, .string a0_1, .string a0_2, .string a0_3, .slice A0_4 l0_4.length c0_4, .string a0_5] #[.string t1, .int .i64 t2, .bool t3, .bool t4, .int .i64 t5]) (by repeat (with_reducible first | exact C0.out | apply Ck.drewN | apply Ck.drew | apply Ck.alloc)) (fun w8 C0 => ?_)
  clear ALo hp0 hp2 hp3 hp4 hp5 hp1
  have hp1 : w8.cell? ⟨g1, 1, none⟩ = some (.string a0_1) := (ze C0.out.b1 1).trans rfl
  have hq1 : w8.cell? ⟨g3, 1, none⟩ = some (.int .i64 t2) := (ze C0.out.b3 1).trans rfl
  have hsp : ∃ sb : Bool, (if sb = true then some 2 else pk2 k a0_1 a0_2 a0_3 l0_4 a0_5) = some r ∧ (sb = true ↔ (a0_1.toList = [] ∧ t2 = 3) ∨ (a0_1.toList ≠ [] ∧ t2 = 1)) := ⟨decide ((a0_1.toList = [] ∧ t2 = 3) ∨ (a0_1.toList ≠ [] ∧ t2 = 1)), by simpa using H.out, by simp⟩
  clear H
  obtain ⟨sb, h, hsb⟩ := hsp
  have H := Aq.mk h
  have HSB := Aq.mk hsb
  clear h hsb
  go_cut [23] (fun v23 wc => v23 = .bool sb ∧ Aq (Ck w g1 g3 #[.string a0_0, .string a0_1, .string a0_2, .string a0_3, .slice A0_4 l0_4.length c0_4, .string a0_5] #[.string t1, .int .i64 t2, .bool t3, .bool t4, .int .i64 t5] wc))
  case first =>
   have hsb := HSB.out
   clear HSB
   by_cases ha : a0_1.toList = []
   ·by_cases hs : t2 = 3
    ·obtain rfl : sb = true := hsb.mpr (Or.inl ⟨ha, hs⟩)
     have hab0 : (a0_1.toList == ([] : List UInt8)) = true := yc.mpr ha
     have hab1 : (a0_1.toList != ([] : List UInt8)) = false := yf.mpr ha
     have hab2 : (!a0_1.toList.isEmpty) = false := by rw [List.isEmpty_iff.2 ha]; rfl
     have hab3 : a0_1.toList.isEmpty = true := List.isEmpty_iff.2 ha
     subst hs
     clear hsb ha
     go_wp2
     go_meet
     case rel => exact ⟨rfl, ⟨(by repeat (with_reducible first | exact C0.out | apply Ck.drewN | apply Ck.drew | apply Ck.alloc))⟩⟩
    ·obtain rfl : sb = false := by cases sb with | false => rfl | true => exact absurd (hsb.mp rfl) (fun e => e.elim (fun e => hs e.2) (fun e => e.1 ha))
     have hab0 : (a0_1.toList == ([] : List UInt8)) = true := yc.mpr ha
     have hab1 : (a0_1.toList != ([] : List UInt8)) = false := yf.mpr ha
     have hab2 : (!a0_1.toList.isEmpty) = false := by rw [List.isEmpty_iff.2 ha]; rfl
     have hab3 : a0_1.toList.isEmpty = true := List.isEmpty_iff.2 ha
     have hsb0 : (t2 == 3) = false := ye.mpr hs
     clear hsb ha hs
     go_wp2
     go_meet
     case rel => exact ⟨rfl, ⟨(by repeat (with_reducible first | exact C0.out | apply Ck.drewN | apply Ck.drew | apply Ck.alloc))⟩⟩
   ·by_cases hs : t2 = 1
    ·obtain rfl : sb = true := hsb.mpr (Or.inr ⟨ha, hs⟩)
     have hab0 : (a0_1.toList == ([] : List UInt8)) = false := ye.mpr ha
     have hab1 : (a0_1.toList != ([] : List UInt8)) = true := yd.mpr ha
     have hab3 : a0_1.toList.isEmpty = false := by cases h_ : a0_1.toList with | nil => exact absurd h_ ha | cons _ _ => rfl
     have hab2 : (!a0_1.toList.isEmpty) = true := by rw [hab3]; rfl
     subst hs
     clear hsb ha
     go_wp2
     go_meet
     case rel => exact ⟨rfl, ⟨(by repeat (with_reducible first | exact C0.out | apply Ck.drewN | apply Ck.drew | apply Ck.alloc))⟩⟩
    ·obtain rfl : sb = false := by cases sb with | false => rfl | true => exact absurd (hsb.mp rfl) (fun e => e.elim (fun e => ha e.1) (fun e => hs e.2))
     have hab0 : (a0_1.toList == ([] : List UInt8)) = false := ye.mpr ha
     have hab1 : (a0_1.toList != ([] : List UInt8)) = true := yd.mpr ha
     have hab3 : a0_1.toList.isEmpty = false := by cases h_ : a0_1.toList with | nil => exact absurd h_ ha | cons _ _ => rfl
     have hab2 : (!a0_1.toList.isEmpty) = true := by rw [hab3]; rfl
     have hsb0 : (t2 == 1) = false := ye.mpr hs
     clear hsb ha hs
     go_wp2
     go_meet
     case rel => exact ⟨rfl, ⟨(by repeat (with_reducible first | exact C0.out | apply Ck.drewN | apply Ck.drew | apply Ck.alloc))⟩⟩
  obtain ⟨rfl, C1⟩ := hcut
  clear C0 hp1 hq1 HSB
  have C0 := C1
  clear C1
  have h := H.out
  clear H
  cases sb with
  | true =>
   obtain rfl : (2 : Int) = r := yg h
   clear h
   go_wp2
   go_ret
   exact ⟨rfl, Ck.hb (g1 := g1) (g3 := g3) (P := #[.string a0_0, .string a0_1, .string a0_2, .string a0_3, .slice A0_4 l0_4.length c0_4, .string a0_5]) (Q := #[.string t1, .int .i64 t2, .bool t3, .bool t4, .int .i64 t5]) (by repeat (with_reducible first | exact C0.out | apply Ck.drewN | apply Ck.drew | apply Ck.alloc))⟩
  | false =>
   replace h : pk2 k a0_1 a0_2 a0_3 l0_4 a0_5 = some r := h
   unfold pk2 at h
   obtain ⟨y1, AS0, h⟩ := zu.mp h
   obtain ⟨b1, AF0, h⟩ := zu.mp h
   have AS := Aq.mk AS0
   have AF := Aq.mk AF0
   have H := Aq.mk h
   clear AS0 AF0 h
   go_upto_region 8 with (fail)
   refine wp_gen (R := Ck w g1 g3 #[.string a0_0, .string a0_1, .string a0_2, .string a0_3, .slice A0_4 l0_4.length c0_4, .string a0_5] #[.string t1, .int .i64 t2, .bool t3, .bool t4, .int .i64 t5]) (by repeat (with_reducible first | exact C0.out | apply Ck.drewN | apply Ck.drew | apply Ck.alloc)) (fun w9 C0 => ?_)
   have hp1 : w9.cell? ⟨g1, 1, none⟩ = some (.string a0_1) := (ze C0.out.b1 1).trans rfl
   have h := H.out
   clear H
   cases b1 with
   | true =>
    obtain rfl : (2 : Int) = r := yg h
    clear h
    go_wp2_with (first | (go_at_call 68; (with_reducible refine (purl_segments.calls a0_1 y1 _ AS.out).mono ?_); rintro e wS ⟨vS, rfl, hR, hb⟩; obtain ⟨AS_, cS_, eS_⟩ := yi hR; subst eS_; have HS_ := Aq.mk hR; clear hR; have n0_ : Aq (Ck w g1 g3 #[.string a0_0, .string a0_1, .string a0_2, .string a0_3, .slice A0_4 l0_4.length c0_4, .string a0_5] #[.string t1, .int .i64 t2, .bool t3, .bool t4, .int .i64 t5] wS) := ⟨Ck.below (by repeat (with_reducible first | exact C0.out | apply Ck.drewN | apply Ck.drew | apply Ck.alloc)) hb⟩; clear C0 hb; have C0 := n0_; clear n0_) | (go_at_call 67; (with_reducible refine (purl_pathFault.calls k _ _ y1 false true _ ?side1 ?side2 AF.out).mono ?_); (case side1 => repeat (first | exact (Kd.R_reads' HS_.out).2.2 | (with_reducible refine zF ?_ _) | (with_reducible refine zE ?_ _) | (with_reducible refine zG ?_))); (case side2 => exact (Kd.R_reads' HS_.out).2.1); rintro e w' ⟨rfl, ⟨nd, rfl⟩⟩))
    go_ret
    exact ⟨rfl, Ck.hb (g1 := g1) (g3 := g3) (P := #[.string a0_0, .string a0_1, .string a0_2, .string a0_3, .slice A0_4 l0_4.length c0_4, .string a0_5]) (Q := #[.string t1, .int .i64 t2, .bool t3, .bool t4, .int .i64 t5]) (by repeat (with_reducible first | exact C0.out | apply Ck.drewN | apply Ck.drew | apply Ck.alloc))⟩
   | false =>
    have H := Aq.mk (show pk3 k a0_1 a0_2 a0_3 l0_4 a0_5 = some r from h)
    clear h
    go_upto_region 10 with (first | (go_at_call 68; (with_reducible refine (purl_segments.calls a0_1 y1 _ AS.out).mono ?_); rintro e wS ⟨vS, rfl, hR, hb⟩; obtain ⟨AS_, cS_, eS_⟩ := yi hR; subst eS_; have HS_ := Aq.mk hR; clear hR; have n0_ : Aq (Ck w g1 g3 #[.string a0_0, .string a0_1, .string a0_2, .string a0_3, .slice A0_4 l0_4.length c0_4, .string a0_5] #[.string t1, .int .i64 t2, .bool t3, .bool t4, .int .i64 t5] wS) := ⟨Ck.below (by repeat (with_reducible first | exact C0.out | apply Ck.drewN | apply Ck.drew | apply Ck.alloc)) hb⟩; clear C0 hb; have C0 := n0_; clear n0_) | (go_at_call 67; (with_reducible refine (purl_pathFault.calls k _ _ y1 false false _ ?side1 ?side2 AF.out).mono ?_); (case side1 => repeat (first | exact (Kd.R_reads' HS_.out).2.2 | (with_reducible refine zF ?_ _) | (with_reducible refine zE ?_ _) | (with_reducible refine zG ?_))); (case side2 => exact (Kd.R_reads' HS_.out).2.1); rintro e w' ⟨rfl, ⟨nd, rfl⟩⟩))
    refine wp_gen (R := Ck w g1 g3 #[.string a0_0, .string a0_1, .string a0_2, .string a0_3, .slice A0_4 l0_4.length c0_4, .string a0_5] #[.string t1, .int .i64 t2, .bool t3, .bool t4, .int .i64 t5]) (by repeat (with_reducible first | exact C0.out | apply Ck.drewN | apply Ck.drew | apply Ck.alloc)) (fun wA C0 => ?_)
    clear HS_ hp1 AS AF
    have hp2 : wA.cell? ⟨g1, 2, none⟩ = some (.string a0_2) := (ze C0.out.b1 2).trans rfl
    have h := H.out
    clear H
    unfold pk3 at h
    by_cases ha : a0_2.toList = []
    ·rw [if_pos ha] at h
     obtain rfl : (8 : Int) = r := yg h
     have hab0 : (a0_2.toList == ([] : List UInt8)) = true := yc.mpr ha
     have hab1 : (a0_2.toList != ([] : List UInt8)) = false := yf.mpr ha
     have hab2 : (!a0_2.toList.isEmpty) = false := by rw [List.isEmpty_iff.2 ha]; rfl
     have hab3 : a0_2.toList.isEmpty = true := List.isEmpty_iff.2 ha
     clear h ha
     go_wp2
     go_ret
     exact ⟨rfl, Ck.hb (g1 := g1) (g3 := g3) (P := #[.string a0_0, .string a0_1, .string a0_2, .string a0_3, .slice A0_4 l0_4.length c0_4, .string a0_5]) (Q := #[.string t1, .int .i64 t2, .bool t3, .bool t4, .int .i64 t5]) (by repeat (with_reducible first | exact C0.out | apply Ck.drewN | apply Ck.drew | apply Ck.alloc))⟩
    ·rw [if_neg ha] at h
     have hab0 : (a0_2.toList == ([] : List UInt8)) = false := ye.mpr ha
     have hab1 : (a0_2.toList != ([] : List UInt8)) = true := yd.mpr ha
     have hab3 : a0_2.toList.isEmpty = false := by cases h_ : a0_2.toList with | nil => exact absurd h_ ha | cons _ _ => rfl
     have hab2 : (!a0_2.toList.isEmpty) = true := by rw [hab3]; rfl
     clear ha
     obtain ⟨n, AN0, h⟩ := zu.mp h
     have AN := Aq.mk AN0
     clear AN0
     by_cases hn : 0 ≤ n
     ·rw [if_pos hn] at h
      obtain rfl : (8 : Int) = r := yg h
      have hnb : decide (0 ≤ n) = true := zk hn
      clear h hn
      go_wp2_with (first | (go_at_call 69; (with_reducible refine (lib_IndexByte.calls a0_2 47 n _ AN.out).mono ?_); rintro e w' ⟨rfl, ⟨nd, rfl⟩⟩))
      go_ret
      exact ⟨rfl, Ck.hb (g1 := g1) (g3 := g3) (P := #[.string a0_0, .string a0_1, .string a0_2, .string a0_3, .slice A0_4 l0_4.length c0_4, .string a0_5]) (Q := #[.string t1, .int .i64 t2, .bool t3, .bool t4, .int .i64 t5]) (by repeat (with_reducible first | exact C0.out | apply Ck.drewN | apply Ck.drew | apply Ck.alloc))⟩
     ·rw [if_neg hn] at h
      have hnb : decide (0 ≤ n) = false := zl hn
      unfold pk4 at h
      obtain ⟨e1, AQ0, h⟩ := zu.mp h
      have AQ := Aq.mk AQ0
      have H := Aq.mk h
      clear AQ0 h hn
      go_upto_region 12 with (first | (go_at_call 69; (with_reducible refine (lib_IndexByte.calls a0_2 47 n _ AN.out).mono ?_); rintro e w' ⟨rfl, ⟨nd, rfl⟩⟩))
      refine wp_gen (R := Ck w g1 g3 #[.string a0_0, .string a0_1, .string a0_2, .string a0_3, .slice A0_4 l0_4.length c0_4, .string a0_5] #[.string t1, .int .i64 t2, .bool t3, .bool t4, .int .i64 t5]) (by repeat (with_reducible first | exact C0.out | apply Ck.drewN | apply Ck.drew | apply Ck.alloc)) (fun wB C0 => ?_)
      clear hp2 AN hnb hab0 hab1 hab2 hab3
      have hp4 : wB.cell? ⟨g1, 4, none⟩ = some (.slice A0_4 l0_4.length c0_4) := (ze C0.out.b1 4).trans rfl
      have h := H.out
      clear H
      by_cases he : e1 = 0
      case neg =>
       rw [if_neg he] at h
       obtain rfl := yg h
       have heb0 : (e1 == 0) = false := ye.mpr he
       have heb1 : (e1 != 0) = true := yd.mpr he
       clear h
       go_wp2_with (first | (go_at_call 70; (with_reducible refine (purl_checkQualifiers.calls k A0_4 c0_4 l0_4 e1 _ ?side1 HC0.out AQ.out).mono ?_); (case side1 => exact (Kd.C_below HR0.out (Ck.hb (g1 := g1) (g3 := g3) (P := #[.string a0_0, .string a0_1, .string a0_2, .string a0_3, .slice A0_4 l0_4.length c0_4, .string a0_5]) (Q := #[.string t1, .int .i64 t2, .bool t3, .bool t4, .int .i64 t5]) (by repeat (with_reducible first | exact C0.out | apply Ck.drewN | apply Ck.drew | apply Ck.alloc))))); rintro e wC ⟨rfl, hb⟩; have n0_ : Aq (Ck w g1 g3 #[.string a0_0, .string a0_1, .string a0_2, .string a0_3, .slice A0_4 l0_4.length c0_4, .string a0_5] #[.string t1, .int .i64 t2, .bool t3, .bool t4, .int .i64 t5] wC) := ⟨Ck.below (by repeat (with_reducible first | exact C0.out | apply Ck.drewN | apply Ck.drew | apply Ck.alloc)) hb⟩; clear C0 hb; have C0 := n0_; clear n0_))
       go_ret
       exact ⟨rfl, Ck.hb (g1 := g1) (g3 := g3) (P := #[.string a0_0, .string a0_1, .string a0_2, .string a0_3, .slice A0_4 l0_4.length c0_4, .string a0_5]) (Q := #[.string t1, .int .i64 t2, .bool t3, .bool t4, .int .i64 t5]) (by repeat (with_reducible first | exact C0.out | apply Ck.drewN | apply Ck.drew | apply Ck.alloc))⟩
      rw [if_pos he] at h
      subst he
      unfold pk5 at h
      obtain ⟨y5, AS0, h⟩ := zu.mp h
      obtain ⟨b5, AF0, h⟩ := zu.mp h
      have AS := Aq.mk AS0
      have AF := Aq.mk AF0
      have H := Aq.mk h
      clear AS0 AF0 h
      go_upto_region 15 with (first | (go_at_call 70; (with_reducible refine (purl_checkQualifiers.calls k A0_4 c0_4 l0_4 0 _ ?side1 HC0.out AQ.out).mono ?_); (case side1 => exact (Kd.C_below HR0.out (Ck.hb (g1 := g1) (g3 := g3) (P := #[.string a0_0, .string a0_1, .string a0_2, .string a0_3, .slice A0_4 l0_4.length c0_4, .string a0_5]) (Q := #[.string t1, .int .i64 t2, .bool t3, .bool t4, .int .i64 t5]) (by repeat (with_reducible first | exact C0.out | apply Ck.drewN | apply Ck.drew | apply Ck.alloc))))); rintro e wC ⟨rfl, hb⟩; have n0_ : Aq (Ck w g1 g3 #[.string a0_0, .string a0_1, .string a0_2, .string a0_3, .slice A0_4 l0_4.length c0_4, .string a0_5] #[.string t1, .int .i64 t2, .bool t3, .bool t4, .int .i64 t5] wC) := ⟨Ck.below (by repeat (with_reducible first | exact C0.out | apply Ck.drewN | apply Ck.drew | apply Ck.alloc)) hb⟩; clear C0 hb; have C0 := n0_; clear n0_))
      refine wp_gen (R := Ck w g1 g3 #[.string a0_0, .string a0_1, .string a0_2, .string a0_3, .slice A0_4 l0_4.length c0_4, .string a0_5] #[.string t1, .int .i64 t2, .bool t3, .bool t4, .int .i64 t5]) (by repeat (with_reducible first | exact C0.out | apply Ck.drewN | apply Ck.drew | apply Ck.alloc)) (fun wD C0 => ?_)
      clear hp4 AQ
      have hp5 : wD.cell? ⟨g1, 5, none⟩ = some (.string a0_5) := (ze C0.out.b1 5).trans rfl
      have h := H.out
      clear H
      cases b5 with
      | true =>
       obtain rfl : (2 : Int) = r := yg h
       clear h
       go_wp2_with (first | (go_at_call 68; (with_reducible refine (purl_segments.calls a0_5 y5 _ AS.out).mono ?_); rintro e wS ⟨vS, rfl, hR, hb⟩; obtain ⟨AS_, cS_, eS_⟩ := yi hR; subst eS_; have HS_ := Aq.mk hR; clear hR; have n0_ : Aq (Ck w g1 g3 #[.string a0_0, .string a0_1, .string a0_2, .string a0_3, .slice A0_4 l0_4.length c0_4, .string a0_5] #[.string t1, .int .i64 t2, .bool t3, .bool t4, .int .i64 t5] wS) := ⟨Ck.below (by repeat (with_reducible first | exact C0.out | apply Ck.drewN | apply Ck.drew | apply Ck.alloc)) hb⟩; clear C0 hb; have C0 := n0_; clear n0_) | (go_at_call 67; (with_reducible refine (purl_pathFault.calls k _ _ y5 true true _ ?side1 ?side2 AF.out).mono ?_); (case side1 => repeat (first | exact (Kd.R_reads' HS_.out).2.2 | (with_reducible refine zF ?_ _) | (with_reducible refine zE ?_ _) | (with_reducible refine zG ?_))); (case side2 => exact (Kd.R_reads' HS_.out).2.1); rintro e w' ⟨rfl, ⟨nd, rfl⟩⟩))
       go_ret
       exact ⟨rfl, Ck.hb (g1 := g1) (g3 := g3) (P := #[.string a0_0, .string a0_1, .string a0_2, .string a0_3, .slice A0_4 l0_4.length c0_4, .string a0_5]) (Q := #[.string t1, .int .i64 t2, .bool t3, .bool t4, .int .i64 t5]) (by repeat (with_reducible first | exact C0.out | apply Ck.drewN | apply Ck.drew | apply Ck.alloc))⟩
      | false =>
       obtain ⟨d0, AD0, h⟩ := zu.mp (show (pk0 k [a0_1, a0_2, a0_3, a0_5] 4 0).bind (fun d0 => if d0 = true then some 8 else (pk1 k l0_4 l0_4.length 0).bind fun d1 => if d1 = true then some 8 else some 0) = some r from h)
       have AD := Aq.mk AD0
       have H := Aq.mk h
       clear AD0 h
       go_upto_region 17 with (first | (go_at_call 68; (with_reducible refine (purl_segments.calls a0_5 y5 _ AS.out).mono ?_); rintro e wS ⟨vS, rfl, hR, hb⟩; obtain ⟨AS_, cS_, eS_⟩ := yi hR; subst eS_; have HS_ := Aq.mk hR; clear hR; have n0_ : Aq (Ck w g1 g3 #[.string a0_0, .string a0_1, .string a0_2, .string a0_3, .slice A0_4 l0_4.length c0_4, .string a0_5] #[.string t1, .int .i64 t2, .bool t3, .bool t4, .int .i64 t5] wS) := ⟨Ck.below (by repeat (with_reducible first | exact C0.out | apply Ck.drewN | apply Ck.drew | apply Ck.alloc)) hb⟩; clear C0 hb; have C0 := n0_; clear n0_) | (go_at_call 67; (with_reducible refine (purl_pathFault.calls k _ _ y5 true false _ ?side1 ?side2 AF.out).mono ?_); (case side1 => repeat (first | exact (Kd.R_reads' HS_.out).2.2 | (with_reducible refine zF ?_ _) | (with_reducible refine zE ?_ _) | (with_reducible refine zG ?_))); (case side2 => exact (Kd.R_reads' HS_.out).2.1); rintro e w' ⟨rfl, ⟨nd, rfl⟩⟩))
       refine wp_gen (R := Ck w g1 g3 #[.string a0_0, .string a0_1, .string a0_2, .string a0_3, .slice A0_4 l0_4.length c0_4, .string a0_5] #[.string t1, .int .i64 t2, .bool t3, .bool t4, .int .i64 t5]) (by repeat (with_reducible first | exact C0.out | apply Ck.drewN | apply Ck.drew | apply Ck.alloc)) (fun wE C0 => ?_)
       clear HS_ hp5 AS AF
       have hp1 : wE.cell? ⟨g1, 1, none⟩ = some (.string a0_1) := (ze C0.out.b1 1).trans rfl; have hp2 : wE.cell? ⟨g1, 2, none⟩ = some (.string a0_2) := (ze C0.out.b1 2).trans rfl; have hp3 : wE.cell? ⟨g1, 3, none⟩ = some (.string a0_3) := (ze C0.out.b1 3).trans rfl; have hp5 : wE.cell? ⟨g1, 5, none⟩ = some (.string a0_5) := (ze C0.out.b1 5).trans rfl
       obtain ⟨y, hy⟩ : ∃ y : List ByteArray, y = [a0_1, a0_2, a0_3, a0_5] := ⟨_, rfl⟩
       have hyl : y.length = 4 := by rw [hy]; rfl
       have NY := Aq.mk hy
       have NL := Aq.mk hyl
       have AD := Aq.mk (show pk0 k y y.length 0 = some d0 by rw [hyl, hy]; exact AD.out)
       clear hy hyl
       go_wp2_with (first | ((with_reducible refine gate_dst (N := 75) rfl ?_); refine Kd.R_lit Kd.string _ 9 ?hg (N := 75) ?hd (xs := ([a0_1, a0_2, a0_3, a0_5] : List ByteArray)) (inner := [.string a0_1, .string a0_2, .string a0_3, .string a0_5]) (ok := fun _ => True) (okp := fun _ => True) ?hr ?hp (fun _ hk => hk) trivial (Below.refl _ _) (Nat.le_refl _) (by simp) ?_; (case hd => rfl); (case hg => rfl); (case hr => first | (go_simp; done) | (go_simp; rfl)); (case hp => exact (Reps.one (show Kd.M Kd.string _ _ _ a0_1 [.string a0_1] from rfl) (Reps.one (show Kd.M Kd.string _ _ _ a0_2 [.string a0_2] from rfl) (Reps.one (show Kd.M Kd.string _ _ _ a0_3 [.string a0_3] from rfl) (Reps.one (show Kd.M Kd.string _ _ _ a0_5 [.string a0_5] from rfl) (Reps.none _ _)))))); intro vL wL ho hb hg_ hnew_; clear hg_ hnew_; rw [← NY.out] at ho; obtain ⟨AL, cL, eL⟩ := yi ho; subst eL; have HL := Aq.mk ho; clear ho; have n0_ : Aq (Ck w g1 g3 #[.string a0_0, .string a0_1, .string a0_2, .string a0_3, .slice A0_4 l0_4.length c0_4, .string a0_5] #[.string t1, .int .i64 t2, .bool t3, .bool t4, .int .i64 t5] wL) := ⟨Ck.below (by repeat (with_reducible first | exact C0.out | apply Ck.drewN | apply Ck.drew | apply Ck.alloc)) hb⟩; clear C0 hb; have C0 := n0_; clear n0_))
       go_loopg [77] y.length (fun n v77 wr => ∃ i : Nat, v77 = .int .i64 i ∧ Aq (i + n = y.length) ∧ Aq (pk0 k y n i = some d0) ∧ Aq (Kd.C Kd.string wr AL y.length y) ∧ Aq (Ck w g1 g3 #[.string a0_0, .string a0_1, .string a0_2, .string a0_3, .slice A0_4 l0_4.length c0_4, .string a0_5] #[.string t1, .int .i64 t2, .bool t3, .bool t4, .int .i64 t5] wr))
       case atStart => exact ⟨0, rfl, ⟨by omega⟩, AD, ⟨(Kd.R_reads' HL.out).2.2⟩, ⟨(by repeat (with_reducible first | exact C0.out | apply Ck.drewN | apply Ck.drew | apply Ck.alloc))⟩⟩
       case round =>
        obtain ⟨i, rfl, hi, hl, HLs, C1⟩ := hrel
        clear C0 hp1 hp2 hp3 hp5 HL
        have C0 := C1
        clear C1
        rcases Nat.lt_or_ge i y.length with hlt | hge
        ·have hl' : pk0 k y (gk - 1 + 1) i = some d0 := by rw [Nat.sub_add_cancel (by have := hi.out; omega)]; exact hl.out
         obtain ⟨cb, AC0, hl2⟩ := zu.mp hl'
         have AC := Aq.mk AC0
         have HL2 := Aq.mk hl2
         clear hl' hl2 hl AC0
         obtain ⟨ad, eb, hx0⟩ := Kd.at_string HLs.out (i : Int) (by omega) (by omega)
         cases eb
         rw [Int.toNat_natCast] at hx0
         have pi := eq_true (show (0 : Int) ≤ (i : Int) by omega)
         have qi := eq_true (show (i : Int) < (y.length : Int) by omega)
         have hlen : decide ((i : Int) < (y.length : Int)) = true := zk (by omega)
         have HLT := Aq.mk hlt
         clear hlt
         have hws := wrap_succ i (by have := HLT.out; have := NL.out; omega)
         have hl2 := HL2.out
         clear HL2
         cases cb with
         | true =>
          obtain rfl : true = d0 := yg hl2
          obtain rfl : (8 : Int) = r := yg H.out
          clear hl2
          go_wp2_with (first | (go_at_call 71; (with_reducible refine (purl_control.calls k (rdOf ByteArray.empty y (i : Int)) true _ AC.out).mono ?_); rintro e w' ⟨rfl, ⟨nd, rfl⟩⟩))
          go_ret
          exact ⟨rfl, Ck.hb (g1 := g1) (g3 := g3) (P := #[.string a0_0, .string a0_1, .string a0_2, .string a0_3, .slice A0_4 l0_4.length c0_4, .string a0_5]) (Q := #[.string t1, .int .i64 t2, .bool t3, .bool t4, .int .i64 t5]) (by repeat (with_reducible first | exact C0.out | apply Ck.drewN | apply Ck.drew | apply Ck.alloc))⟩
         | false =>
          have HL2 := Aq.mk (show pk0 k y (gk - 1) (i + 1) = some d0 from hl2)
          clear hl2
          go_wp2_with (first | (go_at_call 71; (with_reducible refine (purl_control.calls k (rdOf ByteArray.empty y (i : Int)) false _ AC.out).mono ?_); rintro e w' ⟨rfl, ⟨nd, rfl⟩⟩))
          rw [hws]
          go_roundg (gk - 1)
          case measure => have := hi.out; have := HLT.out; omega
          case rel => exact ⟨i + 1, rfl, ⟨by have := hi.out; have := HLT.out; omega⟩, HL2, ⟨by repeat (with_reducible first | exact HLs.out | refine zE ?_ _ | refine zG ?_)⟩, ⟨(by repeat (with_reducible first | exact C0.out | apply Ck.drewN | apply Ck.drew | apply Ck.alloc))⟩⟩
        ·have hl2 := hl.out
         have hii := hi.out
         obtain rfl : i = y.length := by omega
         obtain rfl : gk = 0 := by omega
         obtain rfl : false = d0 := yg hl2
         obtain ⟨d1, AE0, h⟩ := zu.mp (show (pk1 k l0_4 l0_4.length 0).bind (fun d1 => if d1 = true then some 8 else some 0) = some r from H.out)
         have AE := Aq.mk AE0
         have HE := Aq.mk h
         clear hl2 hl H hi hii hge h AE0 HLs
         have hlen : decide ((y.length : Int) < (y.length : Int)) = false := zl (by omega)
         go_upto_region 23 with (fail)
         refine wp_gen (R := Ck w g1 g3 #[.string a0_0, .string a0_1, .string a0_2, .string a0_3, .slice A0_4 l0_4.length c0_4, .string a0_5] #[.string t1, .int .i64 t2, .bool t3, .bool t4, .int .i64 t5]) (by repeat (with_reducible first | exact C0.out | apply Ck.drewN | apply Ck.drew | apply Ck.alloc)) (fun wF C0 => ?_)
         clear hlen
         have hp4 : wF.cell? ⟨g1, 4, none⟩ = some (.slice A0_4 l0_4.length c0_4) := (ze C0.out.b1 4).trans rfl
         go_wp2
         go_loopg [87] l0_4.length (fun n v87 wr => ∃ i : Nat, v87 = .int .i64 i ∧ Aq (i + n = l0_4.length) ∧ Aq (pk1 k l0_4 n i = some d1) ∧ Aq (Ck w g1 g3 #[.string a0_0, .string a0_1, .string a0_2, .string a0_3, .slice A0_4 l0_4.length c0_4, .string a0_5] #[.string t1, .int .i64 t2, .bool t3, .bool t4, .int .i64 t5] wr))
         case atStart => exact ⟨0, rfl, ⟨by omega⟩, AE, ⟨(by repeat (with_reducible first | exact C0.out | apply Ck.drewN | apply Ck.drew | apply Ck.alloc))⟩⟩
         case round =>
          obtain ⟨i, rfl, hi, hl, C1⟩ := hrel
          clear C0 AE hp4
          have C0 := C1
          clear C1
          rcases Nat.lt_or_ge i l0_4.length with hlt | hge
          ·have hl' : pk1 k l0_4 (gk - 1 + 1) i = some d1 := by rw [Nat.sub_add_cancel (by have := hi.out; omega)]; exact hl.out
           obtain ⟨cb, AC0, hl2⟩ := zu.mp hl'
           have HL2 := Aq.mk hl2
           have AC := Aq.mk AC0
           clear hl' hl2 hl AC0
           have HRi := Kd.C_below HR0.out C0.out.hb
           obtain ⟨ad, ea, hx0, hx1⟩ := at_T64 HRi (i : Int) (by omega) (by omega)
           cases ea
           rw [Int.toNat_natCast] at hx0 hx1
           have pi := eq_true (show (0 : Int) ≤ (i : Int) by omega)
           have qi := eq_true (show (i : Int) < (l0_4.length : Int) by omega)
           clear HRi
           have HLT := Aq.mk hlt
           clear hlt
           have hlen : decide ((i : Int) < (l0_4.length : Int)) = true := zk (by have := HLT.out; omega)
           go_upto_region 26 with (first | ((with_reducible refine gate_dst (N := 9) rfl ?_); refine box_event ?hg (N := 9) ?hd (cs := #[.string (⟨#[]⟩ : ByteArray), .string (⟨#[]⟩ : ByteArray)]) (t := 64) ?hr ?_; (case hd => rfl); (case hg => rfl); (case hr => first | (go_simp; done) | (go_simp; rfl)); intro g9 hg wG hbox hb; have B6 := Aq.mk hbox; have L6 := Aq.mk (show w.heap.size ≤ g9 by rw [hg]; exact zz (Ck.hb (g1 := g1) (g3 := g3) (P := #[.string a0_0, .string a0_1, .string a0_2, .string a0_3, .slice (some ad) l0_4.length c0_4, .string a0_5]) (Q := #[.string t1, .int .i64 t2, .bool t3, .bool t4, .int .i64 t5]) (by repeat (with_reducible first | exact C0.out | apply Ck.drewN | apply Ck.drew | apply Ck.alloc)))); have N16 := Aq.mk (show g1 ≠ g9 by rw [hg]; exact Nat.ne_of_lt (zA C0.out.b1)); have N36 := Aq.mk (show g3 ≠ g9 by rw [hg]; exact Nat.ne_of_lt (zA C0.out.b3)); have n0_ : Aq (Ck w g1 g3 #[.string a0_0, .string a0_1, .string a0_2, .string a0_3, .slice (some ad) l0_4.length c0_4, .string a0_5] #[.string t1, .int .i64 t2, .bool t3, .bool t4, .int .i64 t5] wG) := ⟨Ck.below (by repeat (with_reducible first | exact C0.out | apply Ck.drewN | apply Ck.drew | apply Ck.alloc)) hb⟩; clear C0 hb; have C0 := n0_; clear n0_; clear hbox hg; have hc6_0 : wG.cell? ⟨g9, 0, none⟩ = some (.string (⟨#[]⟩ : ByteArray)) := (ze B6.out 0).trans rfl; have hf6_0 := za B6.out 0; have hc6_1 : wG.cell? ⟨g9, 1, none⟩ = some (.string (⟨#[]⟩ : ByteArray)) := (ze B6.out 1).trans rfl; have hf6_1 := za B6.out 1))
           refine wp_gen (R := fun W => Ck w g1 g3 #[.string a0_0, .string a0_1, .string a0_2, .string a0_3, .slice (some ad) l0_4.length c0_4, .string a0_5] #[.string t1, .int .i64 t2, .bool t3, .bool t4, .int .i64 t5] W ∧ W.heap[g9]? = some (.cells #[.string (rd_T64 l0_4 i).f0, .string (rd_T64 l0_4 i).f1] 64 (0, 0))) ⟨⟨by refine zx ?_ N16.out _; refine zx ?_ N16.out _; exact C0.out.b1, by refine zx ?_ N36.out _; refine zx ?_ N36.out _; exact C0.out.b3, by repeat (with_reducible first | exact C0.out.hb | refine zf ?_ L6.out)⟩, by refine zy (cs := #[.string (rd_T64 l0_4 i).f0, .string (⟨#[]⟩ : ByteArray)]) ?_ 1 _ rfl; refine zy (cs := #[.string (⟨#[]⟩ : ByteArray), .string (⟨#[]⟩ : ByteArray)]) ?_ 0 _ rfl; exact B6.out⟩ (fun wH CX => ?_)
           have C0 := Aq.mk CX.out.1
           have BX := Aq.mk CX.out.2
           clear CX B6 L6 N16 N36 hx0 hx1 hc6_0 hc6_1 hf6_0 hf6_1
           have hy1 : wH.cell? ⟨g9, 1, none⟩ = some (.string (rd_T64 l0_4 i).f1) := (ze BX.out 1).trans rfl
           have hws := wrap_succ i (by have := HMAX.out; have := HLT.out; omega)
           have hl2 := HL2.out
           clear HL2
           cases cb with
           | true =>
            obtain rfl : true = d1 := yg hl2
            obtain rfl : (8 : Int) = r := yg HE.out
            clear hl2
            go_wp2_with (first | (go_at_call 71; (with_reducible refine (purl_control.calls k (rd_T64 l0_4 i).f1 true _ AC.out).mono ?_); rintro e w' ⟨rfl, ⟨nd, rfl⟩⟩))
            go_ret
            exact ⟨rfl, Ck.hb (g1 := g1) (g3 := g3) (P := #[.string a0_0, .string a0_1, .string a0_2, .string a0_3, .slice (some ad) l0_4.length c0_4, .string a0_5]) (Q := #[.string t1, .int .i64 t2, .bool t3, .bool t4, .int .i64 t5]) (by repeat (with_reducible first | exact C0.out | apply Ck.drewN | apply Ck.drew | apply Ck.alloc))⟩
           | false =>
            have HL2 := Aq.mk (show pk1 k l0_4 (gk - 1) (i + 1) = some d1 from hl2)
            clear hl2
            go_wp2_with (first | (go_at_call 71; (with_reducible refine (purl_control.calls k (rd_T64 l0_4 i).f1 false _ AC.out).mono ?_); rintro e w' ⟨rfl, ⟨nd, rfl⟩⟩))
            rw [hws]
            go_roundg (gk - 1)
            case measure => have := hi.out; have := HLT.out; omega
            case rel => exact ⟨i + 1, rfl, ⟨by have := hi.out; have := HLT.out; omega⟩, HL2, ⟨(by repeat (with_reducible first | exact C0.out | apply Ck.drewN | apply Ck.drew | apply Ck.alloc))⟩⟩
          ·have hl2 := hl.out
           have hii := hi.out
           obtain rfl : i = l0_4.length := by omega
           obtain rfl : gk = 0 := by omega
           obtain rfl : false = d1 := yg hl2
           obtain rfl : (0 : Int) = r := yg HE.out
           clear hl2 hl HE hi hii hge
           have hlen : decide ((l0_4.length : Int) < (l0_4.length : Int)) = false := zl (by omega)
           go_wp2
           go_ret
           exact ⟨rfl, Ck.hb (g1 := g1) (g3 := g3) (P := #[.string a0_0, .string a0_1, .string a0_2, .string a0_3, .slice A0_4 l0_4.length c0_4, .string a0_5]) (Q := #[.string t1, .int .i64 t2, .bool t3, .bool t4, .int .i64 t5]) (by repeat (with_reducible first | exact C0.out | apply Ck.drewN | apply Ck.drew | apply Ck.alloc))⟩
end Go.Proofs.YtmnfjbmhlabdaaaDoor.Pr
