/- purl's Rule: each call answers what its Lean function says. Conditions: none. -/
import Derived.Test.YtmnfjbmhlabdaaaDoorDXa
import Derived.Test.YtmnfjbmhlabdaaaDoorProg
import Derived.Test.YtmnfjbmhlabdaaaDoorDSh
import Derived.Test.YtmnfjbmhlabdaaaDoorDW
import Derived.WalkKit
import Derived.Deep.LoopGhost
import Derived.Laws.Tables
import Derived.Test.YtmnfjbmhlabdaaaDoorDEa
namespace Go.Proofs.YtmnfjbmhlabdaaaDoor.Pr
open Go.RowKit Go.Proofs.YtmnfjbmhlabdaaaDoorW.PrintWords Go.Proofs.YtmnfjbmhlabdaaaDoorW.PrintLast Go.Proofs.YtmnfjbmhlabdaaaDoorW.PrintMore
abbrev Rl := ByteArray × Int × Bool × Bool × Int
def ruleAt : Nat → Rl
 | 0 => (⟨#[100, 111, 116, 116, 101, 100]⟩, 2, true, false, 1)
 | 1 => (⟨#[114, 101, 118, 105, 115, 101, 100]⟩, 3, true, false, 2)
 | 2 => (⟨#[115, 116, 97, 103, 101, 100]⟩, 1, true, true, 3)
 | 3 => (⟨#[113, 117, 97, 108, 105, 102, 105, 101, 100]⟩, 3, false, false, 4)
 | _ => (⟨#[112, 108, 97, 105, 110]⟩, 2, false, false, 5)
def purl_Rule.f (a0 : ByteArray) : Option (ByteArray × Int × Bool × Bool × Int × Int) := if placeN a0.toList < 5 then some ((ruleAt (placeN a0.toList)).1, (ruleAt (placeN a0.toList)).2.1, (ruleAt (placeN a0.toList)).2.2.1, (ruleAt (placeN a0.toList)).2.2.2.1, (ruleAt (placeN a0.toList)).2.2.2.2, 0) else some (⟨#[]⟩, 0, false, false, 0, 7)
theorem results37 (tmps : Array Value) (w : World) (u : Value) (g : Nat) (cs : Array Value) (h2 : tmps.getD 2 undef = .pointer (some ⟨g, 0, none⟩)) (h3 : tmps.getD 3 undef = u) (hg : w.heap[g]? = some (.cells cs 37 (0, 0))) (hs : cs.size = 5) :
  (results Tryd.f17 tmps).run Tryd.prog w = .ok (.tuple #[.agg cs, u]) w := by
 rw [← h3]
 exact results_ct (fn := Tryd.f17) rfl tmps w g 37 cs (0, 0) _ h2 hg Tryd.underlying37 rfl (by rw [hs]; exact size37)
theorem one5 (a : ByteArray) (b : Int) (c d : Bool) (e : Int) : (#[.string a, .int .i64 b, .bool c, .bool d, .int .i64 e] : Array Value).all (·.oneCell') = true := by kernel_rfl
theorem end37 {Q : Ending → World → Prop} (W : World) (g : Nat) (cs : Array Value) (u : Value) (tmps : Array Value) (h2 : tmps.getD 2 undef = .pointer (some ⟨g, 0, none⟩)) (h3 : tmps.getD 3 undef = u) (hg : W.heap[g]? = some (.cells cs 37 (0, 0))) (hs : cs.size = 5) (hq : Q (.returned (.tuple #[.agg cs, u])) W) : bodyPost Tryd.prog Tryd.f17 Q Exit.ret { tmps := tmps, defers := [] } W :=
 bodyPost_ret (results37 tmps W u g cs h2 h3 hg hs) rfl hq
theorem below_far {w w1 : World} {t : TypeId} {cs : Array Value} (hb : Below (w.alloc (.cells cs t)).heap.size (w.alloc (.cells cs t)) w1) : Below w.heap.size w w1 ∧ w1.heap[w.heap.size]? = some (.cells cs t (0, 0)) := by
 have hs : (w.alloc (.cells cs t)).heap.size = w.heap.size + 1 := by simp
 refine ⟨(zd (Below.refl _ _) _).trans ⟨hb.os, hb.tape, hb.output, Nat.le_trans (by rw [hs]; omega) hb.size, fun k hk => hb.block k (by rw [hs]; omega)⟩, ?_⟩
 rw [hb.block w.heap.size (by rw [hs]; omega)]
 exact heap_alloc_new _ _
set_option maxHeartbeats 3200000 in
set_option maxRecDepth 100000 in
theorem rule_none (a0 : ByteArray) (w : World) (hI : Aq (placeI a0.toList = -1)) :
  Calls Tryd.prog 17 #[.string a0] w fun e w' => e = .returned (.tuple #[.agg #[.string ⟨#[]⟩, .int .i64 0, .bool false, .bool false, .int .i64 0], .int .i64 7]) ∧ Below w.heap.size w w' := by
 have hc : ∀ w : World, Calls Tryd.prog 57 #[.string a0] w fun e w' => e = .returned (.int .i64 (-1)) ∧ Below w.heap.size w w' := fun w => by
  have h := purl_place.calls a0 _ w rfl
  rw [hI.out] at h
  exact h
 go_enter Tryd.func17, Tryd.ntmps17
 go_wp2_with (first | (go_at_call 57; refine (hc _).mono ?_; rintro e w1 ⟨rfl, hb⟩; have HB := Aq.mk (below_far hb); clear hb) | (refine gate_ (.store 37 (.tmp 2) (.tmp 9)) rfl ?_; refine wpList_store_row rfl 37 _ _ rfl w.heap.size #[.string ⟨#[]⟩, .int .i64 0, .bool false, .bool false, .int .i64 0] rfl rfl 37 _ HB.out.2 size37 rfl (one5 _ _ _ _ _) ?_))
 refine end37 _ w.heap.size #[.string ⟨#[]⟩, .int .i64 0, .bool false, .bool false, .int .i64 0] (.int .i64 7) _ ?_ ?_ ?_ ?_ ?_
 ·rfl
 ·rfl
 ·exact setRow_heap _ _ _ _ _ _ HB.out.2
 ·rfl
 exact ⟨rfl, HB.out.1.trans ⟨rfl, rfl, rfl, by simp, fun k hk => setRow_other _ _ _ _ (Nat.ne_of_lt hk)⟩⟩
set_option maxHeartbeats 3200000 in
set_option maxRecDepth 100000 in
theorem rule0 (a0 : ByteArray) (w : World) (hI : Aq (placeI a0.toList = 0)) :
  Calls Tryd.prog 17 #[.string a0] w fun e w' => e = .returned (.tuple #[.agg #[.string ⟨#[100, 111, 116, 116, 101, 100]⟩, .int .i64 2, .bool true, .bool false, .int .i64 1], .int .i64 0]) ∧ Below w.heap.size w w' := by
 have hc : ∀ w : World, Calls Tryd.prog 57 #[.string a0] w fun e w' => e = .returned (.int .i64 (0)) ∧ Below w.heap.size w w' := fun w => by
  have h := purl_place.calls a0 _ w rfl
  rw [hI.out] at h
  exact h
 go_enter Tryd.func17, Tryd.ntmps17
 go_wp2_with (first | (go_at_call 57; refine (hc _).mono ?_; rintro e w1 ⟨rfl, hb⟩; have HB := Aq.mk (below_far hb); clear hb) | (go_at_call 58; refine (rulesR _).mono ?_; rintro e w2 ⟨R, rfl, hR, hb⟩; have HB2 := Aq.mk hb; have hi := hR.i0; clear hR; replace HB := Aq.mk (And.intro (HB.out.1.trans ⟨hb.os, hb.tape, hb.output, hb.size, fun k hk => hb.block k (Nat.lt_of_lt_of_le hk HB.out.1.size)⟩) ((hb.block w.heap.size (Nat.lt_of_le_of_ne HB.out.1.size (fun h => by have := HB.out.2; simp [← h] at this))).trans HB.out.2)); clear hb) | (refine gate_ (.store 37 (.tmp 2) (.tmp 12)) rfl ?_; refine wpList_store_row rfl 37 _ _ rfl w.heap.size #[.string ⟨#[100, 111, 116, 116, 101, 100]⟩, .int .i64 2, .bool true, .bool false, .int .i64 1] rfl rfl 37 _ HB.out.2 size37 rfl (one5 _ _ _ _ _) ?_))
 refine end37 _ w.heap.size #[.string ⟨#[100, 111, 116, 116, 101, 100]⟩, .int .i64 2, .bool true, .bool false, .int .i64 1] (.int .i64 0) _ ?_ ?_ ?_ ?_ ?_
 ·rfl
 ·rfl
 ·exact setRow_heap _ _ _ _ _ _ HB.out.2
 ·rfl
 exact ⟨rfl, HB.out.1.trans ⟨rfl, rfl, rfl, by simp, fun k hk => setRow_other _ _ _ _ (Nat.ne_of_lt hk)⟩⟩
set_option maxHeartbeats 3200000 in
set_option maxRecDepth 100000 in
theorem rule1 (a0 : ByteArray) (w : World) (hI : Aq (placeI a0.toList = 1)) :
  Calls Tryd.prog 17 #[.string a0] w fun e w' => e = .returned (.tuple #[.agg #[.string ⟨#[114, 101, 118, 105, 115, 101, 100]⟩, .int .i64 3, .bool true, .bool false, .int .i64 2], .int .i64 0]) ∧ Below w.heap.size w w' := by
 have hc : ∀ w : World, Calls Tryd.prog 57 #[.string a0] w fun e w' => e = .returned (.int .i64 (1)) ∧ Below w.heap.size w w' := fun w => by
  have h := purl_place.calls a0 _ w rfl
  rw [hI.out] at h
  exact h
 go_enter Tryd.func17, Tryd.ntmps17
 go_wp2_with (first | (go_at_call 57; refine (hc _).mono ?_; rintro e w1 ⟨rfl, hb⟩; have HB := Aq.mk (below_far hb); clear hb) | (go_at_call 58; refine (rulesR _).mono ?_; rintro e w2 ⟨R, rfl, hR, hb⟩; have HB2 := Aq.mk hb; have hi := hR.i1; clear hR; replace HB := Aq.mk (And.intro (HB.out.1.trans ⟨hb.os, hb.tape, hb.output, hb.size, fun k hk => hb.block k (Nat.lt_of_lt_of_le hk HB.out.1.size)⟩) ((hb.block w.heap.size (Nat.lt_of_le_of_ne HB.out.1.size (fun h => by have := HB.out.2; simp [← h] at this))).trans HB.out.2)); clear hb) | (refine gate_ (.store 37 (.tmp 2) (.tmp 12)) rfl ?_; refine wpList_store_row rfl 37 _ _ rfl w.heap.size #[.string ⟨#[114, 101, 118, 105, 115, 101, 100]⟩, .int .i64 3, .bool true, .bool false, .int .i64 2] rfl rfl 37 _ HB.out.2 size37 rfl (one5 _ _ _ _ _) ?_))
 refine end37 _ w.heap.size #[.string ⟨#[114, 101, 118, 105, 115, 101, 100]⟩, .int .i64 3, .bool true, .bool false, .int .i64 2] (.int .i64 0) _ ?_ ?_ ?_ ?_ ?_
 ·rfl
 ·rfl
 ·exact setRow_heap _ _ _ _ _ _ HB.out.2
 ·rfl
 exact ⟨rfl, HB.out.1.trans ⟨rfl, rfl, rfl, by simp, fun k hk => setRow_other _ _ _ _ (Nat.ne_of_lt hk)⟩⟩
set_option maxHeartbeats 3200000 in
set_option maxRecDepth 100000 in
theorem rule2 (a0 : ByteArray) (w : World) (hI : Aq (placeI a0.toList = 2)) :
  Calls Tryd.prog 17 #[.string a0] w fun e w' => e = .returned (.tuple #[.agg #[.string ⟨#[115, 116, 97, 103, 101, 100]⟩, .int .i64 1, .bool true, .bool true, .int .i64 3], .int .i64 0]) ∧ Below w.heap.size w w' := by
 have hc : ∀ w : World, Calls Tryd.prog 57 #[.string a0] w fun e w' => e = .returned (.int .i64 (2)) ∧ Below w.heap.size w w' := fun w => by
  have h := purl_place.calls a0 _ w rfl
  rw [hI.out] at h
  exact h
 go_enter Tryd.func17, Tryd.ntmps17
 go_wp2_with (first | (go_at_call 57; refine (hc _).mono ?_; rintro e w1 ⟨rfl, hb⟩; have HB := Aq.mk (below_far hb); clear hb) | (go_at_call 58; refine (rulesR _).mono ?_; rintro e w2 ⟨R, rfl, hR, hb⟩; have HB2 := Aq.mk hb; have hi := hR.i2; clear hR; replace HB := Aq.mk (And.intro (HB.out.1.trans ⟨hb.os, hb.tape, hb.output, hb.size, fun k hk => hb.block k (Nat.lt_of_lt_of_le hk HB.out.1.size)⟩) ((hb.block w.heap.size (Nat.lt_of_le_of_ne HB.out.1.size (fun h => by have := HB.out.2; simp [← h] at this))).trans HB.out.2)); clear hb) | (refine gate_ (.store 37 (.tmp 2) (.tmp 12)) rfl ?_; refine wpList_store_row rfl 37 _ _ rfl w.heap.size #[.string ⟨#[115, 116, 97, 103, 101, 100]⟩, .int .i64 1, .bool true, .bool true, .int .i64 3] rfl rfl 37 _ HB.out.2 size37 rfl (one5 _ _ _ _ _) ?_))
 refine end37 _ w.heap.size #[.string ⟨#[115, 116, 97, 103, 101, 100]⟩, .int .i64 1, .bool true, .bool true, .int .i64 3] (.int .i64 0) _ ?_ ?_ ?_ ?_ ?_
 ·rfl
 ·rfl
 ·exact setRow_heap _ _ _ _ _ _ HB.out.2
 ·rfl
 exact ⟨rfl, HB.out.1.trans ⟨rfl, rfl, rfl, by simp, fun k hk => setRow_other _ _ _ _ (Nat.ne_of_lt hk)⟩⟩
set_option maxHeartbeats 3200000 in
set_option maxRecDepth 100000 in
theorem rule3 (a0 : ByteArray) (w : World) (hI : Aq (placeI a0.toList = 3)) :
  Calls Tryd.prog 17 #[.string a0] w fun e w' => e = .returned (.tuple #[.agg #[.string ⟨#[113, 117, 97, 108, 105, 102, 105, 101, 100]⟩, .int .i64 3, .bool false, .bool false, .int .i64 4], .int .i64 0]) ∧ Below w.heap.size w w' := by
 have hc : ∀ w : World, Calls Tryd.prog 57 #[.string a0] w fun e w' => e = .returned (.int .i64 (3)) ∧ Below w.heap.size w w' := fun w => by
  have h := purl_place.calls a0 _ w rfl
  rw [hI.out] at h
  exact h
 go_enter Tryd.func17, Tryd.ntmps17
 go_wp2_with (first | (go_at_call 57; refine (hc _).mono ?_; rintro e w1 ⟨rfl, hb⟩; have HB := Aq.mk (below_far hb); clear hb) | (go_at_call 58; refine (rulesR _).mono ?_; rintro e w2 ⟨R, rfl, hR, hb⟩; have HB2 := Aq.mk hb; have hi := hR.i3; clear hR; replace HB := Aq.mk (And.intro (HB.out.1.trans ⟨hb.os, hb.tape, hb.output, hb.size, fun k hk => hb.block k (Nat.lt_of_lt_of_le hk HB.out.1.size)⟩) ((hb.block w.heap.size (Nat.lt_of_le_of_ne HB.out.1.size (fun h => by have := HB.out.2; simp [← h] at this))).trans HB.out.2)); clear hb) | (refine gate_ (.store 37 (.tmp 2) (.tmp 12)) rfl ?_; refine wpList_store_row rfl 37 _ _ rfl w.heap.size #[.string ⟨#[113, 117, 97, 108, 105, 102, 105, 101, 100]⟩, .int .i64 3, .bool false, .bool false, .int .i64 4] rfl rfl 37 _ HB.out.2 size37 rfl (one5 _ _ _ _ _) ?_))
 refine end37 _ w.heap.size #[.string ⟨#[113, 117, 97, 108, 105, 102, 105, 101, 100]⟩, .int .i64 3, .bool false, .bool false, .int .i64 4] (.int .i64 0) _ ?_ ?_ ?_ ?_ ?_
 ·rfl
 ·rfl
 ·exact setRow_heap _ _ _ _ _ _ HB.out.2
 ·rfl
 exact ⟨rfl, HB.out.1.trans ⟨rfl, rfl, rfl, by simp, fun k hk => setRow_other _ _ _ _ (Nat.ne_of_lt hk)⟩⟩
set_option maxHeartbeats 3200000 in
set_option maxRecDepth 100000 in
theorem rule4 (a0 : ByteArray) (w : World) (hI : Aq (placeI a0.toList = 4)) :
  Calls Tryd.prog 17 #[.string a0] w fun e w' => e = .returned (.tuple #[.agg #[.string ⟨#[112, 108, 97, 105, 110]⟩, .int .i64 2, .bool false, .bool false, .int .i64 5], .int .i64 0]) ∧ Below w.heap.size w w' := by
 have hc : ∀ w : World, Calls Tryd.prog 57 #[.string a0] w fun e w' => e = .returned (.int .i64 (4)) ∧ Below w.heap.size w w' := fun w => by
  have h := purl_place.calls a0 _ w rfl
  rw [hI.out] at h
  exact h
 go_enter Tryd.func17, Tryd.ntmps17
 go_wp2_with (first | (go_at_call 57; refine (hc _).mono ?_; rintro e w1 ⟨rfl, hb⟩; have HB := Aq.mk (below_far hb); clear hb) | (go_at_call 58; refine (rulesR _).mono ?_; rintro e w2 ⟨R, rfl, hR, hb⟩; have HB2 := Aq.mk hb; have hi := hR.i4; clear hR; replace HB := Aq.mk (And.intro (HB.out.1.trans ⟨hb.os, hb.tape, hb.output, hb.size, fun k hk => hb.block k (Nat.lt_of_lt_of_le hk HB.out.1.size)⟩) ((hb.block w.heap.size (Nat.lt_of_le_of_ne HB.out.1.size (fun h => by have := HB.out.2; simp [← h] at this))).trans HB.out.2)); clear hb) | (refine gate_ (.store 37 (.tmp 2) (.tmp 12)) rfl ?_; refine wpList_store_row rfl 37 _ _ rfl w.heap.size #[.string ⟨#[112, 108, 97, 105, 110]⟩, .int .i64 2, .bool false, .bool false, .int .i64 5] rfl rfl 37 _ HB.out.2 size37 rfl (one5 _ _ _ _ _) ?_))
 refine end37 _ w.heap.size #[.string ⟨#[112, 108, 97, 105, 110]⟩, .int .i64 2, .bool false, .bool false, .int .i64 5] (.int .i64 0) _ ?_ ?_ ?_ ?_ ?_
 ·rfl
 ·rfl
 ·exact setRow_heap _ _ _ _ _ _ HB.out.2
 ·rfl
 exact ⟨rfl, HB.out.1.trans ⟨rfl, rfl, rfl, by simp, fun k hk => setRow_other _ _ _ _ (Nat.ne_of_lt hk)⟩⟩
theorem purl_Rule.calls (a0 : ByteArray) (r1 : ByteArray) (r2 : Int) (r3 : Bool) (r4 : Bool) (r5 : Int) (r6 : Int) (w : World) (h : purl_Rule.f a0 = some (r1, r2, r3, r4, r5, r6)) :
  Calls Tryd.prog 17 #[.string a0] w fun e w' => e = .returned (.tuple #[.agg #[.string r1, .int .i64 r2, .bool r3, .bool r4, .int .i64 r5], .int .i64 r6]) ∧ Below w.heap.size w w' := by
 unfold purl_Rule.f at h
 have hp5 := placeN_le a0.toList
 have hI : placeI a0.toList = if placeN a0.toList = 5 then -1 else (placeN a0.toList : Int) := rfl
 split at h
 ·rename_i hlt
  rw [if_neg (by omega)] at hI
  simp only [zH, zI] at h
  obtain ⟨rfl, rfl, rfl, rfl, rfl, rfl⟩ := h
  have hc : placeN a0.toList = 0 ∨ placeN a0.toList = 1 ∨ placeN a0.toList = 2 ∨ placeN a0.toList = 3 ∨ placeN a0.toList = 4 := by omega
  rcases hc with h | h | h | h | h
  all_goals (rw [h] at hI ⊢)
  ·exact rule0 a0 w ⟨hI⟩
  ·exact rule1 a0 w ⟨hI⟩
  ·exact rule2 a0 w ⟨hI⟩
  ·exact rule3 a0 w ⟨hI⟩
  ·exact rule4 a0 w ⟨hI⟩
 ·rename_i hlt
  rw [if_pos (by omega)] at hI
  simp only [zH, zI] at h
  obtain ⟨rfl, rfl, rfl, rfl, rfl, rfl⟩ := h
  exact rule_none a0 w ⟨hI⟩
end Go.Proofs.YtmnfjbmhlabdaaaDoor.Pr
