/- attest's functions on sums: sumOf, isSum, equal: each call answers what its Lean function says. Conditions: none. -/
import Derived.Test.YtdmmglihkdkeaaaDoorProg
import Derived.Test.YtdmmglihkdkeaaaDoorUWWords
import Derived.Test.YtdmmglihkdkeaaaDoorUWLast
import Derived.Test.YtdmmglihkdkeaaaDoorUWMore
import Derived.WalkKit
import Derived.Deep.LoopGhost
import Derived.Laws.Tables
namespace Go.Proofs.YtdmmglihkdkeaaaDoor.Pr
open Go.RowKit Go.Proofs.YtdmmglihkdkeaaaDoorW.PrintWords Go.Proofs.YtdmmglihkdkeaaaDoorW.PrintLast Go.Proofs.YtdmmglihkdkeaaaDoorW.PrintMore
theorem run_part_int {P : Program} (w : World) (e : TypeId) (xs : List Int) (j : Nat) (he : P.underlying e = some (.int .u8)) (hj : j < xs.length) : (part e (xs.map (Value.int .u8)).toArray j).run P w = .ok (.int .u8 (xs[j]'hj)) w := by
  have hagg : (isAgg e).run P w = .ok false w := by
    unfold isAgg
    rw [Sem.run_bind, run_underlying he w]
    simp
  simp [part, Sem.run_bind, hagg, hj]
theorem run_equalIn_arr {P : Program} (w : World) (d : Nat) (t e : TypeId) (n : Nat) (xs ys : List Int) (ht : P.underlying t = some (.array n e)) (he : P.underlying e = some (.int .u8)) (hsz : (P.info? e).map (·.size) = some 1) (hx : xs.length = n) (hy : ys.length = n) :
    (Op.equalIn (d + 2) t (.agg (xs.map (Value.int .u8)).toArray) (.agg (ys.map (Value.int .u8)).toArray)).run P w = .ok (xs == ys) w := by
  obtain ⟨i, hi, hs⟩ := Option.map_eq_some_iff.1 hsz
  have hso : (sizeOf e).run P w = .ok 1 w := by simp [sizeOf, typeInfo, hi, hs]
  unfold Op.equalIn
  simp only [Sem.run_bind, run_underlying ht, Result.andThen_ok, hso, Nat.mul_one, Std.Legacy.Range.forIn_eq_forIn_range', Std.Legacy.Range.size, Nat.sub_zero, Nat.add_sub_cancel, Nat.div_one]
  have key : ∀ m a, a + m = n → (Sem.run P (forIn (List.range' a m 1) ((none : Option Bool), PUnit.unit) fun i (_r : Option Bool × PUnit) => do
        let x ← part e (xs.map (Value.int .u8)).toArray i
        let y ← part e (ys.map (Value.int .u8)).toArray i
        let b ← Op.equalIn (d + 1) e x y
        if (!b) = true then pure (ForInStep.done (some false, PUnit.unit)) else do
          pure PUnit.unit
          pure (ForInStep.yield (none, PUnit.unit))) w) = .ok (if xs.drop a = ys.drop a then (none, PUnit.unit) else (some false, PUnit.unit)) w := by
    intro m
    induction m with
    | zero =>
      intro a ha
      rw [List.drop_of_length_le (by omega), List.drop_of_length_le (by omega)]
      simp
    | succ m ih =>
      intro a ha
      rw [List.range'_succ, List.forIn_cons]
      have h1 : a < xs.length := by omega
      have h2 : a < ys.length := by omega
      simp only [Sem.run_bind, run_part_int w e xs a he h1, run_part_int w e ys a he h2, Result.andThen_ok, run_equalIn_int w d e .u8 .u8 _ _ he]
      have hd : (xs.drop a = ys.drop a) ↔ (xs[a] = ys[a] ∧ xs.drop (a + 1) = ys.drop (a + 1)) := by
        have e1 := List.drop_eq_getElem_cons h1
        have e2 := List.drop_eq_getElem_cons h2
        rw [e1, e2, List.cons.injEq]
      by_cases hxy : xs[a] = ys[a]
      · simp only [hxy, BEq.rfl, Bool.not_true, Bool.false_eq_true, if_false, Sem.run_pure, Result.andThen_ok]
        rw [ih (a + 1) (by omega)]
        simp [hd, hxy]
      · have hb : (xs[a] == ys[a]) = false := by simpa using hxy
        simp [hb, hd, hxy]
  have hk := key n 0 (by omega)
  simp only [List.drop_zero] at hk
  rw [hk]
  by_cases hxy : xs = ys
  · simp [hxy]
  · simp [hxy]
theorem wpList_wanted {P : Program} {ops : Array Oper} {rest : List Oper} {o : Oper} {a : Act} {w : World} {Q : Exit → Act → World → Prop} (hw : Region.wanted o (yielded ops a.tmps) = true) (h : ∀ K : Act → World → Prop, (∀ a w, wpList P ops Q rest a w → K a w) → o.wp P a w K Q) : wpList P ops Q (o :: rest) a w :=
  wpList_step fun K hK => by rw [if_pos hw]; exact h K hK
def hexLo (c : UInt8) : Bool := (48 ≤ c && c ≤ 57) || (97 ≤ c && c ≤ 102)
theorem hexLo_ways (c : UInt8) : (hexLo c = true ∧ decide (48 ≤ (c.toNat : Int)) = true ∧ decide ((c.toNat : Int) ≤ 57) = true) ∨ (hexLo c = true ∧ decide (48 ≤ (c.toNat : Int)) = true ∧ decide ((c.toNat : Int) ≤ 57) = false ∧ decide (97 ≤ (c.toNat : Int)) = true ∧ decide ((c.toNat : Int) ≤ 102) = true) ∨ (hexLo c = false ∧ decide (48 ≤ (c.toNat : Int)) = false ∧ decide (97 ≤ (c.toNat : Int)) = false) ∨ (hexLo c = false ∧ decide (48 ≤ (c.toNat : Int)) = true ∧ decide ((c.toNat : Int) ≤ 57) = false ∧ decide (97 ≤ (c.toNat : Int)) = false) ∨ (hexLo c = false ∧ decide (48 ≤ (c.toNat : Int)) = true ∧ decide ((c.toNat : Int) ≤ 57) = false ∧ decide (97 ≤ (c.toNat : Int)) = true ∧ decide ((c.toNat : Int) ≤ 102) = false) := by
  simp only [hexLo, UInt8.le_iff_toNat_le, decide_eq_true_eq, decide_eq_false_iff_not, Bool.or_eq_true, Bool.and_eq_true, Bool.or_eq_false_iff, Bool.and_eq_false_iff]
  simp only [show (48 : UInt8).toNat = 48 from rfl, show (57 : UInt8).toNat = 57 from rfl, show (97 : UInt8).toNat = 97 from rfl, show (102 : UInt8).toNat = 102 from rfl]
  omega
def sumB (s : ByteArray) : Bool := s.size == 16 && s.data.toList.all hexLo
theorem wpList_store_row {P : Program} {ops : Array Oper} {rest : List Oper} {o : Oper} {a : Act} {w : World} {Q : Exit → Act → World → Prop} (hgd : o.guard = none) (ty : TypeId) (x y : Operand) (ho : o.op = .store ty x y)
    (g : Nat) (cells : Array Value) (hx : a.eval x = .pointer (some ⟨g, 0, none⟩)) (hy : a.eval y = .agg cells) (t : TypeId) (old : Array Value) (hg : w.heap[g]? = some (.cells old t (0, 0))) (hi : (P.info? ty).map (·.size) = some cells.size) (hs : old.size = cells.size) (h1 : cells.all (·.oneCell') = true)
    (h : wpList P ops Q rest (a.put o.dst undef) (w.setRow g cells)) : wpList P ops Q (o :: rest) a w :=
  wpList_plain hgd fun _ hK => wp_store_row ty x y ho g cells hx hy t old hg hi hs h1 (hK _ _ h)
/-- The array after k bytes. -/
def arrK (s : ByteArray) (k : Nat) : Array Value := ((s.data.toList.take k).map (fun c => Value.int .u8 c.toNat) ++ List.replicate (16 - k) (Value.int .u8 0)).toArray
theorem arrK_size (s : ByteArray) (k : Nat) (hk : k ≤ 16) (hs : s.size = 16) : (arrK s k).size = 16 := by
  have : s.data.toList.length = 16 := by simpa using hs
  simp [arrK, this]; omega
theorem arrK_zero (s : ByteArray) : arrK s 0 = #[.int .u8 0, .int .u8 0, .int .u8 0, .int .u8 0, .int .u8 0, .int .u8 0, .int .u8 0, .int .u8 0, .int .u8 0, .int .u8 0, .int .u8 0, .int .u8 0, .int .u8 0, .int .u8 0, .int .u8 0, .int .u8 0] := by
  simp [arrK]
theorem arrK_one (s : ByteArray) (k : Nat) : (arrK s k).all (·.oneCell') = true := by
  rw [Array.all_eq_true_iff_forall_mem]
  intro x hx
  simp only [arrK, List.mem_toArray, List.mem_append, List.mem_map, List.mem_replicate] at hx
  rcases hx with ⟨c, _, rfl⟩ | ⟨_, rfl⟩ <;> rfl
theorem bt_get (s : ByteArray) (k : Nat) (hk : k < s.size) : bt s (k : Int) = ((s.data.toList[k]'(by simpa using hk)).toNat : Int) := by
  simp [bt, hk]; rfl
theorem arrK_succ (s : ByteArray) (k : Nat) (hk : k < 16) (hs : s.size = 16) (v : Value) (hv : v = .int .u8 (bt s (k : Int))) : (arrK s k).setIfInBounds k v = arrK s (k + 1) := by
  subst hv
  have hl : s.data.toList.length = 16 := by simpa using hs
  rw [bt_get s k (by omega)]
  apply Array.ext'
  simp only [arrK, Array.toList_setIfInBounds, List.take_succ_eq_append_getElem (show k < s.data.toList.length by omega), List.map_append]
  have h16 : 16 - k = (16 - (k + 1)) + 1 := by omega
  rw [h16, List.replicate_succ]
  rw [List.set_append_right _ _ (by simp; omega)]
  simp [hl, show min k 16 = k by omega]
def SumPost (s : ByteArray) (w : World) (e : Ending) (w' : World) : Prop := ∃ cs : Array Value, e = .returned (.tuple #[.agg cs, .bool (sumB s)]) ∧ cs.size = 16 ∧ cs.all (·.oneCell') = true ∧ (sumB s = true → cs = arrK s 16) ∧ Below w.heap.size w w'
def zero16 : Array Value := #[.int .u8 0, .int .u8 0, .int .u8 0, .int .u8 0, .int .u8 0, .int .u8 0, .int .u8 0, .int .u8 0, .int .u8 0, .int .u8 0, .int .u8 0, .int .u8 0, .int .u8 0, .int .u8 0, .int .u8 0, .int .u8 0]
theorem size146 : (Tryd.prog.info? 146).map (·.size) = some 16 := by kernel_rfl
theorem below_row {w wr : World} (h : Below w.heap.size w wr) (cs : Array Value) : Below w.heap.size w (wr.setRow w.heap.size cs) :=
  h.trans ⟨rfl, rfl, rfl, by simp, fun k hk => setRow_other _ _ _ _ (by omega)⟩
theorem sum_false {s : ByteArray} {k : Nat} (h : (s.data.toList.take k).all hexLo = false) : sumB s = false := by
  unfold sumB
  rw [Bool.and_eq_false_iff]
  right
  rw [Bool.eq_false_iff]
  intro ha
  rw [Bool.eq_false_iff] at h
  exact h (List.all_eq_true.2 fun x hx => List.all_eq_true.1 ha x (List.mem_of_mem_take hx))
/-- The end: the result's slot holds the array. -/
theorem sum_end (s : ByteArray) (w wr : World) (k : Nat) (b : Bool) (tmps : Array Value) (hz : wr.heap[w.heap.size]? = some (.cells zero16 146 (0, 0))) (hs : (arrK s k).size = 16) (hb : sumB s = b) (hk : b = true → k = 16) (HB : Below w.heap.size w wr)
    (h2 : tmps.getD 2 undef = .pointer (some ⟨w.heap.size, 0, none⟩)) (h3 : tmps.getD 3 undef = .bool b) : bodyPost Tryd.prog Tryd.f118 (SumPost s w) Exit.ret { tmps := tmps, defers := [] } (wr.setRow w.heap.size (arrK s k)) := by
  refine bodyPost_ret (v := .tuple #[.agg (arrK s k), .bool b]) ?_ rfl ⟨arrK s k, by rw [hb], hs, arrK_one s k, fun h => ?_, below_row HB _⟩
  · rw [← h3]
    exact results_ct (fn := Tryd.f118) rfl tmps _ w.heap.size 146 (arrK s k) (0, 0) _ h2 (setRow_heap wr _ _ _ _ _ hz) Tryd.underlying146 rfl (by rw [hs]; exact size146)
  · rw [hk (by rw [← hb]; exact h)]
set_option maxHeartbeats 1600000 in
set_option maxRecDepth 100000 in
theorem sumOf_long (s : ByteArray) (w : World) (hs : s.size = 16) :
    Calls Tryd.prog 118 #[.string s] w (SumPost s w) := by
  have h : ((s.size : Int) != 16) = false := by rw [hs]; rfl
  have hS := Aside0.mk hs
  clear hs
  go_enter Tryd.func118, Tryd.ntmps118
  go_wp2
  go_loopg [5, 6, 13] 16 (fun n _ _ i wr => ∃ k : Nat, i = .int .i64 k ∧ Aside0 (k + n = 16) ∧ Aside0 ((s.data.toList.take k).all hexLo = true) ∧ Aside0 (wr.heap[w.heap.size]? = some (.cells zero16 146 (0, 0))) ∧ Aside0 (wr.heap[w.heap.size + 1]? = some (.cells (arrK s k) 146 (0, 0))) ∧ Aside0 (Below w.heap.size w wr))
  case atStart =>
    refine ⟨0, rfl, ⟨rfl⟩, ⟨by simp⟩, ⟨?_⟩, ⟨?_⟩, ⟨?_⟩⟩
    · exact heap_alloc2_old _ _ _
    · rw [arrK_zero]; exact heap_alloc2_new _ _ _
    · exact below_alloc (below_alloc (Below.refl _ _) _) _
  case round =>
    obtain ⟨k, rfl, hk, hall, hz, ha, HB⟩ := hrel
    have b0 := (bt_range s (k : Int)).1
    have b1 := (bt_range s (k : Int)).2
    by_cases h16 : k < 16
    · have hlt : (k : Int) < (s.size : Int) := by have := hS.out; omega
      have hlt2 : k < s.size := by have := hS.out; omega
      obtain ⟨v0, hv0⟩ : ∃ v, (arrK s k)[k]? = some v := ⟨_, Array.getElem?_eq_getElem (by rw [arrK_size _ _ (by omega) hS.out]; exact h16)⟩
      have hcell : wr.cell? ⟨w.heap.size + 1, k, none⟩ = some v0 := (blk_cell ha.out k).trans hv0
      have hfz := blk_frozen ha.out k
      clear hv0
      have hyes : ∀ (x : Bool), hexLo (s.data.toList[k]'(by simpa using hlt2)) = x → ((s.data.toList.take (k + 1)).all hexLo = x) := by
        intro x hx
        rw [List.take_succ_eq_append_getElem (by simpa using hlt2), List.all_append, hall.out]
        simpa using hx
      have HY := Aside0.mk hyes
      clear hyes
      clear b0 b1
      rcases hexLo_ways (s[k]'hlt2) with ⟨hx, e1, e2⟩ | ⟨hx, e1, e2, e3, e4⟩ | ⟨hx, e1, e3⟩ | ⟨hx, e1, e2, e3⟩ | ⟨hx, e1, e2, e3, e4⟩
      all_goals (have HX := Aside0.mk (HY.out _ hx); clear hx)
      all_goals go_wp2_with (first | (refine gate_ (.load 146 (.tmp 4)) rfl ?_; refine wpList_load_row rfl 146 _ rfl _ rfl 146 _ (0, 0) _ ha.out Tryd.underlying146 rfl (by rw [arrK_size _ _ (by omega) hS.out]; exact size146) ?_) | (refine gate_ (.store 146 (.tmp 2) (.tmp 34)) rfl ?_; refine wpList_store_row rfl 146 _ _ rfl _ _ rfl rfl 146 _ hz.out (by rw [arrK_size _ _ (by omega) hS.out]; exact size146) (by rw [arrK_size _ _ (by omega) hS.out]; rfl) (arrK_one _ _) ?_))
      iterate 2
        · go_roundg (gk - 1)
          case measure => have := hk.out; omega
          case rel => exact ⟨k + 1, by go_num, ⟨by have := hk.out; omega⟩, ⟨HX.out⟩, ⟨blk_far hz.out (by simp) _⟩, ⟨blk_put ha.out k _ (arrK_succ s k h16 hS.out _ (by rw [bt_get s k hlt2]; rfl))⟩, ⟨below_set HB.out (by simp)⟩⟩
      all_goals exact sum_end s w wr k false _ hz.out (arrK_size s k (by omega) hS.out) (sum_false HX.out) (fun h => by cases h) HB.out rfl rfl
    · have hge : ¬ (k : Int) < (s.size : Int) := by have := hS.out; omega
      have hk16 := Aside0.mk (show k = 16 by have := hk.out; omega)
      go_wp2_with (first | (refine gate_ (.load 146 (.tmp 4)) rfl ?_; refine wpList_load_row rfl 146 _ rfl _ rfl 146 _ (0, 0) _ ha.out Tryd.underlying146 rfl (by rw [arrK_size _ _ (by have := hk16.out; omega) hS.out]; exact size146) ?_) | (refine gate_ (.store 146 (.tmp 2) (.tmp 39)) rfl ?_; refine wpList_store_row rfl 146 _ _ rfl _ _ rfl rfl 146 _ hz.out (by rw [arrK_size _ _ (by have := hk16.out; omega) hS.out]; exact size146) (by rw [arrK_size _ _ (by have := hk16.out; omega) hS.out]; rfl) (arrK_one _ _) ?_))
      refine sum_end s w wr k true _ hz.out (arrK_size s k (by have := hk16.out; omega) hS.out) ?_ (fun _ => hk16.out) HB.out rfl rfl
      have h1 := hall.out
      rw [hk16.out, List.take_of_length_le (by have := hS.out; simpa using Nat.le_of_eq this)] at h1
      simp [sumB, h1, hS.out]
set_option maxHeartbeats 800000 in
set_option maxRecDepth 100000 in
theorem sumOf_short (s : ByteArray) (w : World) (hs : ¬ s.size = 16) :
    Calls Tryd.prog 118 #[.string s] w (SumPost s w) := by
  have h : ((s.size : Int) != 16) = true := by rw [bne_iff_ne]; omega
  have hS := Aside0.mk hs
  clear hs
  go_enter Tryd.func118, Tryd.ntmps118
  go_wp2
  refine bodyPost_ret (v := .tuple #[.agg zero16, .bool false]) ?_ rfl ⟨zero16, by rw [show sumB s = false by simp [sumB, hS.out]], by rfl, by simp [zero16, Value.oneCell'], fun h => ?_, ?_⟩
  · exact results_ct (fn := Tryd.f118) rfl _ _ w.heap.size 146 zero16 (0, 0) _ rfl (heap_alloc2_old _ _ _) Tryd.underlying146 rfl size146
  · simp [sumB, hS.out] at h
  · exact below_alloc (below_alloc (Below.refl _ _) _) _
theorem sumOf_any (s : ByteArray) (w : World) : Calls Tryd.prog 118 #[.string s] w (SumPost s w) := by
  by_cases hs : s.size = 16
  · exact sumOf_long s w hs
  · exact sumOf_short s w hs
def attest_isSum.f (a0 : ByteArray) : Option (Bool) := some (sumB a0)
def attest_equal.f (a0 : ByteArray) (a1 : ByteArray) : Option (Bool) := some (sumB a0 && (sumB a1 && (a0.toList == a1.toList)))
set_option maxHeartbeats 800000 in
set_option maxRecDepth 100000 in
theorem attest_isSum.calls (a0 : ByteArray) (r : Bool) (w : World) (h : attest_isSum.f a0 = some r) :
    Calls Tryd.prog 76 #[.string a0] w fun e w' => e = .returned (.bool r) ∧ Below w.heap.size w w' := by
  obtain rfl : sumB a0 = r := by simpa [attest_isSum.f] using h
  clear h
  go_enter Tryd.func76, Tryd.ntmps76
  go_wp2_with (fail)
  refine (sumOf_any a0 _).mono ?_
  rintro e w1 ⟨cs, rfl, h1, h2, -, hb⟩
  have H1 := Aside0.mk h1
  clear h1
  go_wp2_with (first | (refine gate_ (.store 146 (.tmp 3) (.tmp 8)) rfl ?_; refine wpList_store_row rfl 146 _ _ rfl w1.heap.size cs rfl rfl 146 zero16 (heap_alloc_new _ _) (by rw [H1.out]; exact size146) (by rw [H1.out]; rfl) h2 ?_))
  go_ret
  exact ⟨rfl, hb.trans ⟨rfl, rfl, rfl, by simp, fun k hk => by have := hb.size; rw [setRow_other _ _ _ _ (by omega)]; exact Below.heap_alloc _ _ _ (by omega)⟩⟩
theorem row_below {w w1 : World} (hb : Below w.heap.size w w1) (z cs : Array Value) (ty : TypeId) : Below w.heap.size w ((w1.alloc (.cells z ty)).setRow w1.heap.size cs) :=
  hb.trans ⟨rfl, rfl, rfl, by simp, fun k hk => by have := hb.size; rw [setRow_other _ _ _ _ (by omega)]; exact Below.heap_alloc _ _ _ (by omega)⟩
theorem row_at (w1 : World) (z cs : Array Value) (ty : TypeId) : ((w1.alloc (.cells z ty)).setRow w1.heap.size cs).heap[w1.heap.size]? = some (.cells cs ty (0, 0)) :=
  setRow_heap (w1.alloc (.cells z ty)) w1.heap.size z cs ty (0, 0) (heap_alloc_new _ _)
theorem row_old {w1 : World} {g : Nat} {o : Obj} (h : w1.heap[g]? = some o) (z cs : Array Value) (ty : TypeId) : ((w1.alloc (.cells z ty)).setRow w1.heap.size cs).heap[g]? = some o := by
  have hl := blk_lt h
  rw [setRow_other _ _ _ _ (by omega)]
  exact (Below.heap_alloc _ _ _ hl).trans h
def numsOf (s : ByteArray) : List Int := s.data.toList.map fun c => (c.toNat : Int)
theorem arrK_nums (s : ByteArray) (hs : s.size = 16) : arrK s 16 = ((numsOf s).map (Value.int .u8)).toArray := by
  have hl : s.data.toList.length = 16 := by simpa using hs
  simp [arrK, numsOf, List.take_of_length_le (Nat.le_of_eq hl)]
theorem nums_beq (a b : ByteArray) : (numsOf a == numsOf b) = (a.toList == b.toList) := by
  have h : numsOf a = numsOf b ↔ a.toList = b.toList := by
    rw [ByteArray.toList_eq, ByteArray.toList_eq]
    unfold numsOf
    refine ⟨fun h => ?_, fun h => by rw [h]⟩
    exact List.map_inj_right (fun x y hxy => by
      have : x.toNat = y.toNat := by exact_mod_cast hxy
      exact UInt8.toNat_inj.1 this) |>.1 h
  rw [Bool.eq_iff_iff]
  simpa using h
theorem sumB_size {s : ByteArray} (h : sumB s = true) : s.size = 16 := by
  simp only [sumB, Bool.and_eq_true, beq_iff_eq] at h
  exact h.1
theorem eq146 (a b : ByteArray) (ha : sumB a = true) (hb : sumB b = true) (w : World) : (Op.equalIn 10000 146 (.agg (arrK a 16)) (.agg (arrK b 16))).run Tryd.prog w = .ok (a.toList == b.toList) w := by
  rw [arrK_nums a (sumB_size ha), arrK_nums b (sumB_size hb), ← nums_beq]
  exact run_equalIn_arr w 9998 146 5 16 _ _ Tryd.underlying146 Tryd.underlying5 (by kernel_rfl) (by simpa [numsOf] using sumB_size ha) (by simpa [numsOf] using sumB_size hb)
set_option maxHeartbeats 800000 in
set_option maxRecDepth 100000 in
theorem attest_equal.calls (a0 : ByteArray) (a1 : ByteArray) (r : Bool) (w : World) (h : attest_equal.f a0 a1 = some r) :
    Calls Tryd.prog 79 #[.string a0, .string a1] w fun e w' => e = .returned (.bool r) ∧ Below w.heap.size w w' := by
  have hr : (sumB a0 && (sumB a1 && (a0.toList == a1.toList))) = r := by simpa [attest_equal.f] using h
  clear h
  have HR := Aside0.mk hr
  clear hr
  obtain ⟨b0, hb0⟩ : ∃ b, sumB a0 = b := ⟨_, rfl⟩
  obtain ⟨b1, hb1⟩ : ∃ b, sumB a1 = b := ⟨_, rfl⟩
  have HB0 := Aside0.mk hb0
  have HB1 := Aside0.mk hb1
  clear hb0 hb1
  go_enter Tryd.func79, Tryd.ntmps79
  go_wp2_with (fail)
  refine (sumOf_any a0 _).mono ?_
  rintro e w1 ⟨cs, rfl, h1, h2, h3, hb⟩
  rw [HB0.out] at h3 ⊢
  have H1 := Aside0.mk h1
  have H3 := Aside0.mk h3
  clear h1 h3
  go_wp2_with (first | (refine gate_ (.store 146 (.tmp 5) (.tmp 12)) rfl ?_; refine wpList_store_row rfl 146 _ _ rfl w1.heap.size cs rfl rfl 146 zero16 (heap_alloc_new _ _) (by rw [H1.out]; exact size146) (by rw [H1.out]; rfl) h2 ?_))
  refine (sumOf_any a1 _).mono ?_
  rintro e w2 ⟨cs2, rfl, k1, k2, k3, hc⟩
  rw [HB1.out] at k3 ⊢
  have K1 := Aside0.mk k1
  have K3 := Aside0.mk k3
  clear k1 k3
  have W1 := row_below hb zero16 cs 146
  have BB := Aside0.mk (W1.trans (hc.mono (by have := W1.size; simpa using this)))
  have B1 := Aside0.mk (blk_below (row_at w1 zero16 cs 146) hc)
  clear hb hc W1
  cases b0
  · go_wp2_with (first | (refine gate_ (.store 146 (.tmp 7) (.tmp 17)) rfl ?_; refine wpList_store_row rfl 146 _ _ rfl w2.heap.size cs2 rfl rfl 146 zero16 (heap_alloc_new _ _) (by rw [K1.out]; exact size146) (by rw [K1.out]; rfl) k2 ?_))
    go_ret
    refine ⟨?_, row_below BB.out _ _ _⟩
    rw [← HR.out, HB0.out]; rfl
  · cases b1
    · go_wp2_with (first | (refine gate_ (.store 146 (.tmp 7) (.tmp 17)) rfl ?_; refine wpList_store_row rfl 146 _ _ rfl w2.heap.size cs2 rfl rfl 146 zero16 (heap_alloc_new _ _) (by rw [K1.out]; exact size146) (by rw [K1.out]; rfl) k2 ?_))
      go_ret
      refine ⟨?_, row_below BB.out _ _ _⟩
      rw [← HR.out, HB0.out, HB1.out]; rfl
    · have hE := eq146 a0 a1 HB0.out HB1.out
      obtain rfl : cs = arrK a0 16 := H3.out rfl
      obtain rfl : cs2 = arrK a1 16 := K3.out rfl
      have BW := Aside0.mk (row_below BB.out zero16 (arrK a1 16) 146)
      have C1 := Aside0.mk (row_old B1.out zero16 (arrK a1 16) 146)
      have C2 := Aside0.mk (row_at w2 zero16 (arrK a1 16) 146)
      go_wp2_with (first | (refine gate_ (.store 146 (.tmp 7) (.tmp 17)) rfl ?_; refine wpList_store_row rfl 146 _ _ rfl w2.heap.size _ rfl rfl 146 zero16 (heap_alloc_new _ _) (by rw [K1.out]; exact size146) (by rw [K1.out]; rfl) k2 ?_) | (refine gate_ (.load 146 (.tmp 5)) rfl ?_; refine wpList_wanted (by rfl) (fun K hK => ?_); refine wp_load_row 146 _ rfl _ rfl 146 _ (0, 0) _ C1.out Tryd.underlying146 rfl (by rw [H1.out]; exact size146) ?_; refine hK _ _ ?_) | (refine gate_ (.load 146 (.tmp 7)) rfl ?_; refine wpList_wanted (by rfl) (fun K hK => ?_); refine wp_load_row 146 _ rfl _ rfl 146 _ (0, 0) _ C2.out Tryd.underlying146 rfl (by rw [K1.out]; exact size146) ?_; refine hK _ _ ?_))
      go_ret
      refine ⟨?_, BW.out⟩
      rw [← HR.out, HB0.out, HB1.out]; rfl
end Go.Proofs.YtdmmglihkdkeaaaDoor.Pr
