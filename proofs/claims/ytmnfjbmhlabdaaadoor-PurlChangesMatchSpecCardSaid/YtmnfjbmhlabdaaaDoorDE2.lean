/- What is done to a list of pairs of one's own: taken out, set, put in. Conditions: the place is one of the list's. -/
import Derived.Test.YtmnfjbmhlabdaaaDoorDXa
import Derived.Test.YtmnfjbmhlabdaaaDoorDPrx0
import Derived.Shelf.Spec.SlicesInsert
import Derived.Lib.AppendZerosOnto
import Derived.Deep.RegionLaw
import Derived.Laws.NewBlocks
namespace Go.Proofs.YtmnfjbmhlabdaaaDoor.Pr
open Go.RowKit Go.Proofs.YtmnfjbmhlabdaaaDoorW.PrintWords Go.Proofs.YtmnfjbmhlabdaaaDoorW.PrintLast Go.Proofs.YtmnfjbmhlabdaaaDoorW.PrintMore
set_option linter.unusedSimpArgs false
set_option linter.unusedVariables false
def rowP : List S64 → List Value
 | [] => []
 | x :: r => .string x.f0 :: .string x.f1 :: rowP r
theorem rowP_len : ∀ l : List S64, (rowP l).length = l.length * 2
 | [] => rfl
 | x :: r => by simp only [rowP, List.length_cons, rowP_len r]; omega
theorem rowP_append : ∀ l m : List S64, rowP (l ++ m) = rowP l ++ rowP m
 | [], m => rfl
 | x :: r, m => by simp only [List.cons_append, rowP, rowP_append r m]
theorem rowP_take : ∀ (l : List S64) (i : Nat), rowP (l.take i) = (rowP l).take (i * 2)
 | l, 0 => by simp [rowP]
 | [], i + 1 => by simp [rowP]
 | x :: r, i + 1 => by simp only [List.take_succ_cons, rowP, rowP_take r i, show (i + 1) * 2 = i * 2 + 1 + 1 by omega]
theorem rowP_drop : ∀ (l : List S64) (i : Nat), rowP (l.drop i) = (rowP l).drop (i * 2)
 | l, 0 => by simp
 | [], i + 1 => by simp [rowP]
 | x :: r, i + 1 => by simp only [List.drop_succ_cons, rowP, rowP_drop r i, show (i + 1) * 2 = i * 2 + 1 + 1 by omega]
theorem rowP_one : ∀ (l : List S64), ∀ v ∈ rowP l, v.oneCell' = true
 | [], v, h => by cases h
 | x :: r, v, h => by
  simp only [rowP, List.mem_cons] at h
  rcases h with rfl | rfl | h
  ·rfl
  ·rfl
  ·exact rowP_one r v h
theorem rowP_get : ∀ (l : List S64) (j t : Nat) (x : S64) (u : Value), l[j]? = some x → ([.string x.f0, .string x.f1] : List Value)[t]? = some u → (rowP l)[j * 2 + t]? = some u
 | [], j, t, x, u, h, _ => by simp at h
 | y :: r, 0, t, x, u, h, ht => by
  simp only [List.getElem?_cons_zero, zH] at h
  subst h
  match t, ht with
  | 0, ht => exact ht
  | 1, ht => exact ht
  | t + 2, ht => simp at ht
 | y :: r, j + 1, t, x, u, h, ht => by
  rw [List.getElem?_cons_succ] at h
  rw [show (j + 1) * 2 + t = (j * 2 + t) + 1 + 1 by omega]
  exact rowP_get r j t x u h ht
theorem C_of_row {w : World} {g : Nat} {l : List S64} {rest : List Value} (h : w.heap[g]? = some (.cells (rowP l ++ rest).toArray 64 (0, 0))) (hl : l.length ≤ 9223372036854775807) : Kd.C k64 w (some ⟨g, 0, none⟩) l.length l := by
 refine ⟨rfl, hl, fun _ => ⟨_, rfl, fun j x hj => ⟨[.string x.f0, .string x.f1], rfl, k64_mk w x, fun t u ht => ?_⟩⟩⟩
 have hg := rowP_get l j t x u hj ht
 have hlt := (List.getElem?_eq_some_iff.1 hg).1
 rw [Addr.add_lit, Nat.zero_add, ze h, List.getElem?_toArray]
 show (rowP l ++ rest)[j * 2 + t]? = some u
 rw [List.getElem?_append_left hlt]
 exact hg
theorem reps_rowP {w : World} {base : Nat} {ok : Nat → Prop} : ∀ (l : List S64) (inner : List Value), Reps (Kd.M k64 w base ok) 2 l inner → inner = rowP l
 | [], inner, h => List.eq_nil_of_length_eq_zero (by have := h.1; simpa using this)
 | x :: r, inner, h => by
  have h0 := h.2 0 x rfl
  rw [Nat.zero_mul, List.drop_zero] at h0
  have e0 := k64_openM h0
  have ih := reps_rowP r (inner.drop 2) ⟨by have := h.1; rw [zS, this, List.length_cons]; omega, fun j p hj => by
   have := h.2 (j + 1) p (by rw [List.getElem?_cons_succ]; exact hj)
   rw [List.drop_drop, show 2 + j * 2 = (j + 1) * 2 by omega]
   exact this⟩
  rw [← List.take_append_drop 2 inner, e0, ih]
  rfl
theorem row_of_R {w : World} {base : Nat} {ok : Nat → Prop} {A : Option Addr} {n c : Nat} {l : List S64} (h : Kd.R k64 64 w base ok (.slice A n c) l) :
  (A = none ∧ l = [] ∧ n = 0 ∧ c = 0) ∨ ∃ g rest, A = some ⟨g, 0, none⟩ ∧ w.heap[g]? = some (.cells (rowP l ++ rest).toArray 64 (0, 0)) ∧ (rowP l ++ rest).length = c * 2 ∧ n = l.length ∧ l.length ≤ c ∧ c ≤ maxLen ∧ base ≤ g ∧ ok g := by
 have hn := (Kd.R_reads' h).1
 obtain ⟨h0, inner, hown, hr⟩ := h
 have hi := reps_rowP l inner hr
 subst hi
 rcases hown.2 with ⟨e, hl⟩ | ⟨g, cap, cur, e, hb, hh, hnc, hcm, hcs, ht⟩
 ·injection e with e1 e2 e3
  exact .inl ⟨e1, List.eq_nil_of_length_eq_zero hl, e2, e3⟩
 ·injection e with e1 e2 e3
  subst e1 e3
  refine .inr ⟨g, cur.toList.drop (l.length * 2), rfl, ?_, ?_, hn, hnc, hcm, hb, h0 g (by simp [Value.ownBlock])⟩
  ·have : rowP l ++ cur.toList.drop (l.length * 2) = cur.toList := by
    rw [← ht]; exact List.take_append_drop _ _
   rw [this, Array.toArray_toList]
   exact hh
  ·have : rowP l ++ cur.toList.drop (l.length * 2) = cur.toList := by
    rw [← ht]; exact List.take_append_drop _ _
   rw [this, Array.length_toList]
   exact hcs
theorem heap_cells {g : Nat} {t : TypeId} : ∀ (vs : List Value) (o : Nat) (w : World) (cs : List Value), w.heap[g]? = some (.cells cs.toArray t (0, 0)) → o + vs.length ≤ cs.length → (w.setCells g o vs).heap[g]? = some (.cells (cs.take o ++ vs ++ cs.drop (o + vs.length)).toArray t (0, 0))
 | [], o, w, cs, h, hl => by
  show w.heap[g]? = _
  rw [h, List.append_nil, List.length_nil, Nat.add_zero, List.take_append_drop]
 | v :: r, o, w, cs, h, hl => by
  rw [World.setCells]
  rw [List.length_cons] at hl
  have h1 : (w.setCell ⟨g, o, none⟩ v).heap[g]? = some (.cells (cs.set o v).toArray t (0, 0)) := by
   have := blk_set h o v
   rw [zJ] at this
   exact this
  rw [heap_cells r (o + 1) _ (cs.set o v) h1 (by rw [List.length_set]; omega)]
  congr 3
  have e1 : (cs.set o v).take (o + 1) = cs.take o ++ [v] := by
   rw [List.set_eq_take_append_cons_drop, if_pos (by omega)]
   rw [List.take_append, List.take_of_length_le (by rw [zT]; omega), zT, Nat.min_eq_left (by omega), show o + 1 - o = 1 by omega]
   rfl
  have e2 : (cs.set o v).drop (o + 1 + r.length) = cs.drop (o + (r.length + 1)) := by
   rw [List.drop_set, if_pos (by omega), show o + 1 + r.length = o + (r.length + 1) by omega]
  rw [e1, e2, List.append_assoc, List.append_assoc, List.append_assoc, List.length_cons]
  rfl
theorem heap_cells_far {g k : Nat} (hk : k ≠ g) : ∀ (vs : List Value) (o : Nat) (w : World), (w.setCells g o vs).heap[k]? = w.heap[k]?
 | [], _, _ => rfl
 | v :: r, o, w => by rw [World.setCells, heap_cells_far hk r, Below.heap_setCell w ⟨g, o, none⟩ v k hk]
theorem grown_cells (w : World) (g o : Nat) (vs : List Value) : w.grownBy (w.setCells g o vs) (some g) := by
 have hsz : ∀ (vs : List Value) (o : Nat) (w : World), (w.setCells g o vs).heap.size = w.heap.size ∧ (w.setCells g o vs).os = w.os ∧ (w.setCells g o vs).tape = w.tape ∧ (w.setCells g o vs).output = w.output := by
  intro vs
  induction vs with
  | nil => intro o w; exact ⟨rfl, rfl, rfl, rfl⟩
  | cons v r ih =>
   intro o w
   rw [World.setCells]
   obtain ⟨h1, h2, h3, h4⟩ := ih (o + 1) (w.setCell ⟨g, o, none⟩ v)
   have hb := Below.setCell (B := 0) (Below.refl 0 w) (p := ⟨g, o, none⟩) (Nat.zero_le _) v
   refine ⟨h1.trans ?_, h2.trans hb.os, h3.trans hb.tape, h4.trans hb.output⟩
   unfold World.setCell
   split <;> simp
 obtain ⟨h1, h2, h3, h4⟩ := hsz vs o w
 exact ⟨h2, h3, h4, by rw [h1]; exact Nat.le_refl _, fun k _ hk => heap_cells_far (fun e => hk (by rw [e])) vs o w⟩
end Go.Proofs.YtmnfjbmhlabdaaaDoor.Pr
namespace Go.Proofs.YtmnfjbmhlabdaaaDoor.Pr
open Go.RowKit Go.Proofs.YtmnfjbmhlabdaaaDoorW.PrintWords Go.Proofs.YtmnfjbmhlabdaaaDoorW.PrintLast Go.Proofs.YtmnfjbmhlabdaaaDoorW.PrintMore
set_option linter.unusedSimpArgs false
set_option linter.unusedVariables false
theorem run_clear2 (w : World) (ty : TypeId) (b o n c : Nat) (hn : 0 < n)
  (hc : ∀ j, j < n * 2 → (w.cell? ⟨b, o + j, none⟩).isSome = true) (hf : ∀ j, j < n * 2 → w.frozen? ⟨b, o + j, none⟩ = false) :
  (Builtin.clear_ #[22] ty #[.slice (some ⟨b, o, none⟩) n c]).run Tryd.prog w = .ok (.tuple #[]) (w.setCells b o (List.replicate (n * 2) (.string ⟨#[]⟩))) := by
 have hzc : (Builtin.zeroCells #[(.string ⟨#[]⟩ : Value), .string ⟨#[]⟩] n).toList = List.replicate (n * 2) (.string ⟨#[]⟩) := by
  simp [Builtin.zeroCells]
  apply List.ext_getElem
  ·simp
  ·intro i h1 h2
   simp
   rcases Nat.mod_two_eq_zero_or_one i with h | h <;> rw [h] <;> rfl
 have hst := run_storeCells_cells (P := Tryd.prog) b o (List.replicate (n * 2) (.string ⟨#[]⟩)) 0 w (by simpa using hc) (by simpa using hf) (by intro v hv'; rw [List.eq_of_mem_replicate hv']; rfl)
 simp only [Nat.add_zero] at hst
 have hv : ∀ w, (zeroValue 64).run Tryd.prog w = .ok (.agg #[.string ⟨#[]⟩, .string ⟨#[]⟩]) w := Tryd.zeroValue64
 have hcs : (Value.agg #[.string ⟨#[]⟩, .string ⟨#[]⟩]).cells = #[(.string ⟨#[]⟩ : Value), .string ⟨#[]⟩] := rfl
 obtain ⟨m, rfl⟩ : ∃ m, n = m + 1 := ⟨n - 1, by omega⟩
 simp [Builtin.clear_, run_underlying Tryd.underlying22, hv, hcs, hzc, hst]
theorem row_some {w : World} {g : Nat} {cs : List Value} (h : w.heap[g]? = some (.cells cs.toArray 64 (0, 0))) (j : Nat) (hj : j < cs.length) : (w.cell? ⟨g, j, none⟩).isSome = true := by
 rw [ze h, List.getElem?_toArray, List.getElem?_eq_getElem hj]; rfl
set_option maxHeartbeats 4000000 in
set_option maxRecDepth 100000 in
theorem del_pair (g c i j : Nat) (l : List S64) (rest : List Value) (w : World) (h : w.heap[g]? = some (.cells (rowP l ++ rest).toArray 64 (0, 0))) (hc : (rowP l ++ rest).length = c * 2) (hle : l.length ≤ c) (hcm : c ≤ 9223372036854775807) (hij : i < j) (hj1 : j = i + 1) (hj : j ≤ l.length) :
  Calls Tryd.prog 74 #[.slice (some ⟨g, 0, none⟩) l.length c, .int .i64 i, .int .i64 (j : Int)] w fun e w' => e = .returned (.slice (some ⟨g, 0, none⟩) (l.length - 1) c) ∧ Kd.C k64 w' (some ⟨g, 0, none⟩) (l.length - 1) (l.take i ++ l.drop j) ∧ w.grownBy w' (some g) := by
 obtain ⟨n, hn⟩ : ∃ n, n = l.length := ⟨_, rfl⟩
 obtain ⟨i0, hi0, hz⟩ := Option.map_eq_some_iff.1 info64
 simp only [zI] at hz
 obtain ⟨hz0, hz1, hz2⟩ := hz
 have hlen : (rowP l).length = n * 2 := by rw [rowP_len, hn]
 obtain ⟨news, hnews⟩ : ∃ news, news = rowP (l.drop j) := ⟨_, rfl⟩
 have hnl : news.length = (n - j) * 2 := by rw [hnews, rowP_len, zS, hn]
 obtain ⟨A, hA, hsrc⟩ : ∃ A : Addr, (if c = j then some (⟨g, 0, none⟩ : Addr) else some ⟨g, j * 2, none⟩) = some A ∧ Aq (∀ t u, news[t]? = some u → w.drew.cell? (A.add t) = some u) := by
  by_cases hh : c = j
  ·refine ⟨⟨g, 0, none⟩, by simp [hh], ⟨fun t u hu => ?_⟩⟩
   have h0 : news.length = 0 := by rw [hnl]; omega
   rw [List.length_eq_zero_iff.1 h0] at hu
   simp at hu
  ·refine ⟨⟨g, j * 2, none⟩, by simp [hh], ⟨fun t u hu => ?_⟩⟩
   have ht := (List.getElem?_eq_some_iff.1 hu).1
   rw [hnews, rowP_drop, List.getElem?_drop] at hu
   rw [Addr.add_lit]
   show w.cell? _ = _
   rw [ze h, List.getElem?_toArray, List.getElem?_append_left (by rw [hlen]; omega)]
   exact hu
 have s2 : Aq (∀ u ∈ news, u.oneCell' = true) := ⟨by rw [hnews]; exact rowP_one _⟩
 have s3 : Aq (∀ t, t < news.length → (w.drew.cell? ⟨g, 0 + i * 2 + t, none⟩).isSome = true ∧ w.drew.frozen? ⟨g, 0 + i * 2 + t, none⟩ = false) :=
  ⟨fun t ht => ⟨row_some (w := w) h _ (by rw [hc]; omega), za (w := w) h _⟩⟩
 have s1 : Aq (news.length = (n - j) * 2) := ⟨hnl⟩
 obtain ⟨W1, hW1⟩ : ∃ W1, W1 = w.drew.setCells g (0 + i * 2) news := ⟨_, rfl⟩
 have hrow1 : W1.heap[g]? = some (.cells ((rowP l ++ rest).take (0 + i * 2) ++ news ++ (rowP l ++ rest).drop (0 + i * 2 + news.length)).toArray 64 (0, 0)) := by
  rw [hW1]; exact heap_cells news (0 + i * 2) w.drew _ (show w.heap[g]? = _ from h) (by rw [hc, hnl]; omega)
 obtain ⟨rest1, hrest1⟩ : ∃ rest1, rest1 = (rowP l ++ rest).drop (0 + i * 2 + news.length) := ⟨_, rfl⟩
 have hrow2 : W1.heap[g]? = some (.cells (rowP (l.take i ++ l.drop j) ++ rest1).toArray 64 (0, 0)) := by
  rw [hrow1, hrest1]
  congr 3
  rw [rowP_append, rowP_take, hnews, List.take_append_of_le_length (by rw [hlen]; omega), Nat.zero_add]
 have hln : (l.take i ++ l.drop j).length = n - 1 := by rw [List.length_append, zT, zS]; omega
 have hr1 : (rowP (l.take i ++ l.drop j) ++ rest1).length = c * 2 := by
  rw [List.length_append, rowP_len, hln, hrest1, zS, hc, hnl]
  omega
 have hcl : ∀ ty, (Builtin.clear_ #[22] ty #[.slice (some ⟨g, (i + (n - j)) * 2, none⟩) (n - (i + (n - j))) (c - (i + (n - j)))]).run Tryd.prog W1 = .ok (.tuple #[]) (W1.setCells g ((i + (n - j)) * 2) (List.replicate ((n - (i + (n - j))) * 2) (.string ⟨#[]⟩))) :=
  fun ty => run_clear2 W1 ty g _ _ _ (by omega) (fun j hj => row_some hrow2 _ (by rw [hr1]; omega)) (fun j hj => za hrow2 _)
 have post : Aq (Kd.C k64 (W1.setCells g ((i + (n - j)) * 2) (List.replicate ((n - (i + (n - j))) * 2) (.string ⟨#[]⟩))) (some ⟨g, 0, none⟩) (n - 1) (l.take i ++ l.drop j) ∧ w.grownBy (W1.setCells g ((i + (n - j)) * 2) (List.replicate ((n - (i + (n - j))) * 2) (.string ⟨#[]⟩))) (some g)) := by
  refine ⟨?_, ?_⟩
  ·have hh := heap_cells (List.replicate ((n - (i + (n - j))) * 2) (.string ⟨#[]⟩)) ((i + (n - j)) * 2) W1 _ hrow2 (by rw [hr1, List.length_replicate]; omega)
   have e1 : i + (n - j) = n - 1 := by omega
   rw [List.append_assoc, List.take_append_of_le_length (by rw [rowP_len, hln, e1]; exact Nat.le_refl _), List.take_of_length_le (by rw [rowP_len, hln, e1]; exact Nat.le_refl _)] at hh
   have := C_of_row hh (by rw [hln]; omega)
   rw [hln] at this
   exact this
  ·have g1 : w.grownBy W1 (some g) := by
    rw [hW1]
    have := grown_cells w.drew g (0 + i * 2) news
    exact ⟨this.os, this.tape, this.output, this.size, this.block⟩
   have g2 := grown_cells W1 g ((i + (n - j)) * 2) (List.replicate ((n - (i + (n - j))) * 2) (.string ⟨#[]⟩))
   exact ⟨g2.os.trans g1.os, g2.tape.trans g1.tape, g2.output.trans g1.output, Nat.le_trans g1.size g2.size, fun k hk hne => (g2.block k (Nat.lt_of_lt_of_le hk g1.size) hne).trans (g1.block k hk hne)⟩
 rw [← hn] at hle hj ⊢
 have hW := Aq.mk hW1
 have hic : i ≤ c := by omega
 have hjc : j ≤ c := by omega
 have hne : ¬ ((i : Int) = (j : Int)) := by omega
 have HJ := Aq.mk hj1
 clear hj1 hW1 hrow1 hrow2 h hnews hnl hlen hr1 hln hc hrest1 hn
 have mixed : Tryd.prog.follows Departure.mixedOrders = true := by kernel_rfl
 go_enter Tryd.func74, Tryd.ntmps74
 go_wp2_with fail
 go_region_law_o (refine step_append_room rfl (.tmp 22) (.tmp 25) 22 rfl 64 i0 2 Tryd.underlying22 hi0 hz1 g 0 i c (by simp [Act.eval, Act.put]) A (n - j) (c - j) news (by simp [Act.eval, Act.put]) s1.out hsrc.out s2.out (by omega) s3.out ?_; rw [← hW.out])
 go_wp2
 go_ret
 have := HJ.out
 exact ⟨by rw [show i + (n - j) = n - 1 by omega]; rfl, post.out⟩
end Go.Proofs.YtmnfjbmhlabdaaaDoor.Pr
namespace Go.Proofs.YtmnfjbmhlabdaaaDoor.Pr
open Go.RowKit Go.Proofs.YtmnfjbmhlabdaaaDoorW.PrintWords Go.Proofs.YtmnfjbmhlabdaaaDoorW.PrintLast Go.Proofs.YtmnfjbmhlabdaaaDoorW.PrintMore
set_option linter.unusedSimpArgs false
set_option linter.unusedVariables false
theorem run_copy2 (w : World) (ty : TypeId) (b o dLen dCap : Nat) (a : Addr) (sLen sCap : Nat) (cs : List Value) (hn : cs.length = Nat.min sLen dLen * 2)
  (hsrc : ∀ j v, cs[j]? = some v → w.cell? (a.add j) = some v) (hc : ∀ j, j < cs.length → (w.cell? ⟨b, o + j, none⟩).isSome = true) (hf : ∀ j, j < cs.length → w.frozen? ⟨b, o + j, none⟩ = false) (h1 : ∀ v ∈ cs, v.oneCell' = true) :
  (Builtin.copy_ #[22, 22] ty #[.slice (some ⟨b, o, none⟩) dLen dCap, .slice (some a) sLen sCap]).run Tryd.prog w = .ok (goInt (Nat.min sLen dLen)) (w.setCells b o cs) := by
 obtain ⟨i0, hi0, hz⟩ := Option.map_eq_some_iff.1 info64
 simp only [zI] at hz
 obtain ⟨hz0, hz1, hz2⟩ := hz
 have hl := run_loadCells_list (P := Tryd.prog) w a cs hsrc
 have hst := run_storeCells_cells (P := Tryd.prog) b o cs 0 w (by simpa using hc) (by simpa using hf) h1
 have hz1' : i0.size = 2 := hz1
 simp [Builtin.copy_, run_underlying Tryd.underlying22, Builtin.lenOf, Builtin.firstCells, sizeOf, typeInfo, hi0, hz1', ← hn, hl, hst]
theorem C_one {w : World} {vb : Nat} {x : S64} (hv : w.heap[vb]? = some (.cells #[.string x.f0, .string x.f1] 64 (0, 0))) : Kd.C k64 w (some ⟨vb, 0, none⟩) 1 [x] :=
 C_of_row (l := [x]) (rest := []) hv (by simp)
set_option maxHeartbeats 4000000 in
set_option maxRecDepth 100000 in
theorem ins_end (B : Nat) (w0 : World) (v : Value) (l : List S64) (x : S64) (vb vc : Nat) (w : World) (hB : Below B w0 w) (hB2 : B ≤ w.heap.size) (HO : Kd.R k64 64 w B (fun _ => True) v l) (hbig : l.length ≤ 1000)
  (hv : Kd.C k64 w (some ⟨vb, 0, none⟩) 1 [x]) :
  Calls Tryd.prog 75 #[v, .int .i64 l.length, .slice (some ⟨vb, 0, none⟩) 1 vc] w fun e w' => ∃ A c, e = .returned (.slice A (l.length + 1) c) ∧ l.length + 1 ≤ c ∧ Kd.C k64 w' A (l.length + 1) (l ++ [x]) ∧ Below B w0 w' ∧ (∀ ad, A = some ad → B ≤ ad.block) ∧ B ≤ w'.heap.size := by
 obtain ⟨A, c, rfl, hlc, hC⟩ := Kd.R_reads HO
 obtain ⟨n, hn⟩ : ∃ n, n = l.length := ⟨_, rfl⟩
 have HR := Aq.mk HO
 have HB := Aq.mk hB
 have HB2 := Aq.mk hB2
 have HV := Aq.mk hv
 have HL := Aq.mk hbig
 have HN := Aq.mk hn
 have HX := Aq.mk hC.2.1
 have hnn : n ≤ c := by omega
 clear HO hB hB2 hv hC hlc hbig
 rw [← hn] at HR HL HX ⊢
 clear hn
 have hm := HL.out
 go_enter Tryd.func75, Tryd.ntmps75
 go_wp2_with ((with_reducible refine gate_builtin (b := .append) (xs := #[.tmp 23, .tmp 24]) rfl ?_); at_builtin; refine Kd.R_append_rows k64 (Rr := k64.K w) (w0 := w0) B rfl (.tmp 23) (.tmp 24) 22 64 (.agg #[(.string ⟨#[]⟩), (.string ⟨#[]⟩)]) 32 rfl Tryd.underlying22 info64 rfl (by decide) (by omega) (.slice A n c) l [x] (some ⟨vb, 0, none⟩) 1 vc (fun _ => True) (fun _ => False) rfl ?qA ?qB ?qC ?qD ?qE ?qF ?qG ?qH ?qI ?_; (case qA => rfl); (case qB => exact HR.out); (case qC => exact HV.out); (case qD => exact fun _ _ hk => by obtain rfl := k64_open hk; exact k64_mkM _ _ _ _); (case qE => exact fun _ hk => hk.elim); (case qF => exact fun _ _ => trivial); (case qG => exact HB.out); (case qH => exact HB2.out); (case qI => have := HL.out; have := HN.out; omega); intro v4 w7 ho hb hg hat; have Z := Aq.mk (And.intro ho (And.intro hb hg)); clear ho hb hg hat)
 all_goals (
  go_ret
  obtain ⟨ho, hb, hg⟩ := Z.out
  obtain ⟨A1, c1, rfl, h1, h2⟩ := Kd.R_reads ho
  rw [List.length_append, List.length_singleton, ← HN.out] at h1 h2
  refine ⟨A1, c1, ?_, h1, h2, hb, fun ad e => Kd.R_base ho ad.block (by rw [e]; rfl), Nat.le_trans HB2.out hg.size⟩
  rw [List.length_append, List.length_singleton, ← HN.out]
  rfl)
theorem grown_more {w w1 w2 : World} {row : Option Nat} (h : w.grownBy w1 row) (h2 : w1.grownBy w2 row) : w.grownBy w2 row :=
 ⟨h2.os.trans h.os, h2.tape.trans h.tape, h2.output.trans h.output, Nat.le_trans h.size h2.size, fun k hk hne => (h2.block k (Nat.lt_of_lt_of_le hk h.size) hne).trans (h.block k hk hne)⟩
theorem grown_drew (w : World) (row : Option Nat) : w.grownBy w.drew row := ⟨rfl, rfl, rfl, Nat.le_refl _, fun _ _ _ => rfl⟩
theorem row_at {w : World} {g : Nat} {cs : List Value} (h : w.heap[g]? = some (.cells cs.toArray 64 (0, 0))) (j : Nat) (v : Value) (hj : cs[j]? = some v) : w.cell? ⟨g, j, none⟩ = some v := by
 rw [ze h, List.getElem?_toArray]
 exact hj
set_option maxHeartbeats 4000000 in
set_option maxRecDepth 100000 in
theorem ins_shift (g n c i vb m vc : Nat) (l vs : List S64) (rest : List Value) (w : World) (hi : i < n) (hm : 0 < m) (hroom : n + m ≤ c) (hcm : c ≤ 9223372036854775807) (hvb : vb ≠ g) (hcl : l.length = n) (hvl : vs.length = m)
  (h : w.heap[g]? = some (.cells (rowP l ++ rest).toArray 64 (0, 0))) (hc : (rowP l ++ rest).length = c * 2) (hv : w.heap[vb]? = some (.cells (rowP vs).toArray 64 (0, 0))) :
  Calls Tryd.prog 75 #[.slice (some ⟨g, 0, none⟩) n c, .int .i64 i, .slice (some ⟨vb, 0, none⟩) m vc] w fun e w' =>
   e = .returned (.slice (some ⟨g, 0, none⟩) (n + m) c) ∧ Kd.C k64 w' (some ⟨g, 0, none⟩) (n + m) (l.take i ++ vs ++ l.drop i) ∧ w.grownBy w' (some g) := by
 have mixed : Tryd.prog.follows Departure.mixedOrders = true := by kernel_rfl
 have hz1 : ¬ ((m : Int) = 0) := by omega
 have hz2 : ¬ ((i : Int) = (n : Int)) := by omega
 have hrl : (rowP l).length = n * 2 := by rw [rowP_len, hcl]
 have hrv : (rowP vs).length = m * 2 := by rw [rowP_len, hvl]
 have hsa : w.shape? vb = some (64, m * 2) := by simp [World.shape?, hv, hrv]
 have hsb : w.shape? g = some (64, c * 2) := by simp [World.shape?, h]; simpa using hc
 have hov : ∀ lb cb, (callFunc 111 #[.slice (some ⟨vb, 0, none⟩) m vc, .slice (some ⟨g, (i + m) * 2, none⟩) lb cb]).run Tryd.prog w = .ok (.value (.bool false)) w := fun lb cb => by
  rw [run_callFunc_extern Tryd.func111 (by kernel_rfl) (by kernel_rfl) (by kernel_rfl) (e := Extern.SlicesOverlaps.overlaps #[22, 22] #[4]) (by kernel_rfl),
   Lib.run_overlaps_apart w 22 4 64 Tryd.underlying22 2 Tryd.sizeOf64 ⟨vb, 0, none⟩ ⟨g, (i + m) * 2, none⟩ m vc lb cb hvb 64 64 (m * 2) (c * 2) hsa hsb (by omega) (za hv 0) (za hv _)]
  rfl
 have hdl : (rowP (l.drop i)).length = (n - i) * 2 := by rw [rowP_len, zS, hcl]
 have hw1 : IntKind.i64.wrap ((i : Int) + (m : Int)) = (i : Int) + (m : Int) := by rw [IntKind.wrap_i64]; omega
 have hb1 : (0 : Int) ≤ (i : Int) + (m : Int) := by omega
 have hin : i ≤ n := by omega
 have htn : ((i : Int) + (m : Int)).toNat = i + m := by omega
 have hb2 : ¬ (c = i + m) := by omega
 have hb3 : (i : Int) ≤ (n : Int) + (m : Int) := by omega
 have hb4 : ¬ (c = i) := by omega
 have hcp1 : ∀ ty dc sc, (Builtin.copy_ #[22, 22] ty #[.slice (some ⟨g, (i + m) * 2, none⟩) (n + m - (i + m)) dc, .slice (some ⟨g, i * 2, none⟩) (n + m - i) sc]).run Tryd.prog w.drew = .ok (goInt (Nat.min (n + m - i) (n + m - (i + m)))) (w.drew.setCells g ((i + m) * 2) (rowP (l.drop i))) := fun ty dc sc =>
  run_copy2 w.drew ty g ((i + m) * 2) (n + m - (i + m)) dc ⟨g, i * 2, none⟩ (n + m - i) sc (rowP (l.drop i)) (by rw [hdl]; simp only [Nat.min_def]; split <;> omega)
   (fun j v hj => by
    rw [Addr.add_lit]
    refine row_at (w := w.drew) (cs := rowP l ++ rest) h _ v ?_
    have hlt := (List.getElem?_eq_some_iff.1 hj).1
    rw [List.getElem?_append_left (by rw [hrl]; omega)]
    rw [rowP_drop, List.getElem?_drop] at hj
    exact hj)
   (fun j hj => row_some (w := w.drew) (cs := rowP l ++ rest) h _ (by rw [hc]; omega)) (fun j hj => za (w := w.drew) h _) (rowP_one _)
 obtain ⟨W1, hW1⟩ : ∃ W1, W1 = w.drew.setCells g ((i + m) * 2) (rowP (l.drop i)) := ⟨_, rfl⟩
 have hrow1 : W1.heap[g]? = some (.cells ((rowP l ++ rest).take ((i + m) * 2) ++ rowP (l.drop i) ++ (rowP l ++ rest).drop ((i + m) * 2 + (rowP (l.drop i)).length)).toArray 64 (0, 0)) := by
  rw [hW1]; exact heap_cells (rowP (l.drop i)) ((i + m) * 2) w.drew _ (show w.heap[g]? = _ from h) (by rw [hc, hdl]; omega)
 obtain ⟨rest1, hrest1⟩ : ∃ rest1, rest1 = (rowP l ++ rest).drop ((i + m) * 2 + (rowP (l.drop i)).length) := ⟨_, rfl⟩
 rw [← hrest1] at hrow1
 have hl1 : ((rowP l ++ rest).take ((i + m) * 2) ++ rowP (l.drop i) ++ rest1).length = c * 2 := by
  rw [hrest1, List.length_append, List.length_append, zT, zS, hc, hdl]
  simp only [Nat.min_def]
  split <;> omega
 have hv1 : W1.heap[vb]? = some (.cells (rowP vs).toArray 64 (0, 0)) := by rw [hW1, heap_cells_far hvb]; exact hv
 have hcp2 : ∀ (W : World), (∀ x, W.cell? x = W1.cell? x) → (∀ x, W.frozen? x = W1.frozen? x) → ∀ ty dc, (Builtin.copy_ #[22, 22] ty #[.slice (some ⟨g, i * 2, none⟩) (n + m - i) dc, .slice (some ⟨vb, 0, none⟩) m vc]).run Tryd.prog W = .ok (goInt (Nat.min m (n + m - i))) (W.setCells g (i * 2) (rowP vs)) := fun W hWc hWf ty dc =>
  run_copy2 W ty g (i * 2) (n + m - i) dc ⟨vb, 0, none⟩ m vc (rowP vs) (by rw [hrv]; simp only [Nat.min_def]; split <;> omega)
   (fun j v hj => by
    rw [Addr.add_lit, hWc, Nat.zero_add]
    exact row_at hv1 _ v hj)
   (fun j hj => by rw [hWc]; exact row_some hrow1 _ (by rw [hl1]; omega)) (fun j hj => by rw [hWf]; exact za hrow1 _) (rowP_one _)
 have post : Aq (Kd.C k64 (W1.setCells g (i * 2) (rowP vs)) (some ⟨g, 0, none⟩) (n + m) (l.take i ++ vs ++ l.drop i) ∧ w.grownBy (W1.setCells g (i * 2) (rowP vs)) (some g)) := by
  refine ⟨?_, ?_⟩
  ·have hh := heap_cells (rowP vs) (i * 2) W1 _ hrow1 (by rw [hl1, hrv]; omega)
   have hll : (l.take i ++ vs ++ l.drop i).length = n + m := by rw [List.length_append, List.length_append, zT, zS, hvl, hcl]; omega
   have e : (((rowP l ++ rest).take ((i + m) * 2) ++ rowP (l.drop i) ++ rest1).take (i * 2) ++ rowP vs ++ ((rowP l ++ rest).take ((i + m) * 2) ++ rowP (l.drop i) ++ rest1).drop (i * 2 + (rowP vs).length)) = rowP (l.take i ++ vs ++ l.drop i) ++ rest1 := by
    have ht : ((rowP l ++ rest).take ((i + m) * 2)).length = (i + m) * 2 := by rw [zT, hc]; omega
    rw [List.append_assoc _ (rowP (l.drop i)) rest1, List.take_append_of_le_length (by rw [ht]; omega), List.take_take, Nat.min_eq_left (by omega), hrv, show i * 2 + m * 2 = (i + m) * 2 by omega, List.drop_append, List.drop_eq_nil_of_le (by rw [ht]; exact Nat.le_refl _), ht, Nat.sub_self, List.drop_zero, List.nil_append, List.take_append_of_le_length (by rw [hrl]; omega), rowP_append, rowP_append, rowP_take]
    simp only [List.append_assoc]
   rw [e] at hh
   have := C_of_row hh (by rw [hll]; omega)
   rw [hll] at this
   exact this
  ·rw [hW1]
   exact grown_more (grown_drew w _) (grown_more (grown_cells _ _ _ _) (grown_cells _ _ _ _))
 rw [← hW1] at hcp1
 clear hW1 hrow1 hl1 hv1 hrest1 h hc hv hsa hsb hdl hrl hrv
 go_enter Tryd.func75, Tryd.ntmps75
 go_wp2_with (simp only [hov])
 go_region_law_o (refine step_copy_runI rfl _ _ 22 22 rfl _ _ (by simp [Act.eval, Act.put]) (by simp [Act.eval, Act.put]) (hcp1 _ _ _) ?_)
 go_wp2_with (at_builtin; refine wpList_copy_runI _ rfl _ _ 22 22 rfl _ _ rfl rfl (hcp2 _ (fun _ => rfl) (fun _ => rfl) _ _) ?_)
 go_ret
 exact ⟨rfl, post.out⟩
theorem zero2 (k : Nat) : (Builtin.zeroCells (Value.agg #[(.string ⟨#[]⟩), (.string ⟨#[]⟩)]).cells k).toList.length = k * 2 := by
 simp [Builtin.zeroCells, Value.cells]
set_option maxHeartbeats 4000000 in
set_option maxRecDepth 100000 in
theorem ins_grow (g n c i vb m vc : Nat) (l vs : List S64) (rest : List Value) (w : World) (hi : i < n) (hm : 0 < m) (hnc : n ≤ c) (hroom : c < n + m) (hbig : (n + m) * 32 ≤ 140737488355328) (hcl : l.length = n) (hvl : vs.length = m)
  (h : w.heap[g]? = some (.cells (rowP l ++ rest).toArray 64 (0, 0))) (hv : w.heap[vb]? = some (.cells (rowP vs).toArray 64 (0, 0))) :
  Calls Tryd.prog 75 #[.slice (some ⟨g, 0, none⟩) n c, .int .i64 i, .slice (some ⟨vb, 0, none⟩) m vc] w fun e w' =>
   ∃ g' c', e = .returned (.slice (some ⟨g', 0, none⟩) (n + m) c') ∧ n + m ≤ c' ∧ Kd.C k64 w' (some ⟨g', 0, none⟩) (n + m) (l.take i ++ vs ++ l.drop i) ∧ w.grownBy w' none ∧ w.heap.size ≤ g' := by
 have mixed : Tryd.prog.follows Departure.mixedOrders = true := by kernel_rfl
 obtain ⟨i0, hi0, hz⟩ := Option.map_eq_some_iff.1 info64
 simp only [zI] at hz
 obtain ⟨hz0, hzs, hzb⟩ := hz
 have hzs' : i0.size = 2 := hzs
 have hz1 : ¬ ((m : Int) = 0) := by omega
 have hz2 : ¬ ((i : Int) = (n : Int)) := by omega
 have hz3 : (c : Int) < (n : Int) + (m : Int) := by omega
 have hrl : (rowP l).length = n * 2 := by rw [rowP_len, hcl]
 have hrv : (rowP vs).length = m * 2 := by rw [rowP_len, hvl]
 have hgw : g < w.heap.size := zA h
 have hvw : vb < w.heap.size := zA hv
 have hkk : (n : Int) + (m : Int) - (i : Int) = ((n + m - i : Nat) : Int) := by omega
 have hik : i + (n + m - i) = n + m := by omega
 have hold : (Builtin.firstCells i0.size i (.slice (some ⟨g, 0, none⟩) i c)).run Tryd.prog w.drew = .ok (rowP (l.take i)).toArray w.drew := by
  rw [hzs']
  exact run_firstCells_some w.drew 2 i ⟨g, 0, none⟩ i c (rowP (l.take i)) (by rw [rowP_len, zT]; omega) (fun j v hj => by
   rw [Addr.add_lit, Nat.zero_add]
   refine row_at (w := w.drew) (cs := rowP l ++ rest) h _ v ?_
   have hlt := (List.getElem?_eq_some_iff.1 hj).1
   rw [rowP_take, zT] at hlt
   rw [List.getElem?_append_left (by omega)]
   rw [rowP_take, List.getElem?_take] at hj
   split at hj
   ·exact hj
   ·cases hj)
 have hrz : ∀ ty, (Builtin.append_ #[22, 3] ty #[.slice (some ⟨g, 0, none⟩) i c, .int .i64 ((n : Int) + (m : Int) - (i : Int))]).run Tryd.prog w =
   .ok (.slice (some ⟨w.heap.size, 0, none⟩) (n + m) (grownCap w (n + m) c 64)) (w.drew.alloc (.cells ((rowP (l.take i)).toArray ++ Builtin.zeroCells (Value.agg #[(.string ⟨#[]⟩), (.string ⟨#[]⟩)]).cells (n + m - i) ++ Builtin.zeroCells (Value.agg #[(.string ⟨#[]⟩), (.string ⟨#[]⟩)]).cells (grownCap w (n + m) c 64 - (n + m))) 64)) := fun ty => by
  have h := Lib.run_append_grow_zeros w 22 3 ty 64 i0 _ .i64 .i64 Tryd.underlying22 Tryd.underlying3 hi0 hz0 (some ⟨g, 0, none⟩) i c (rowP (l.take i)) hold (n + m - i) (by omega) (by omega) (by omega) (by omega) (by rw [hzb]; omega) (by rw [hzb, hik]; exact growslice_fits hroom hbig)
  rw [hik] at h
  rw [hkk]
  exact h
 have hGn : n + m ≤ grownCap w (n + m) c 64 := grownCap_ge w _ _ _
 have hG63 : grownCap w (n + m) c 64 ≤ 9223372036854775807 := by
  have := grownCap_le_maxLen w (n + m) c 64 (by unfold maxLen; omega)
  unfold maxLen at this
  omega
 generalize grownCap w (n + m) c 64 = G at hrz hGn hG63
 obtain ⟨zs, hzz⟩ : ∃ zs : List Value, zs = (Builtin.zeroCells (Value.agg #[(.string ⟨#[]⟩), (.string ⟨#[]⟩)]).cells (n + m - i)).toList ++ (Builtin.zeroCells (Value.agg #[(.string ⟨#[]⟩), (.string ⟨#[]⟩)]).cells (G - (n + m))).toList := ⟨_, rfl⟩
 have hzl : zs.length = (G - i) * 2 := by
  rw [hzz, List.length_append, zero2, zero2]
  omega
 obtain ⟨row, hrow⟩ : ∃ row : List Value, row = rowP (l.take i) ++ zs := ⟨_, rfl⟩
 have hROW : (rowP (l.take i)).toArray ++ Builtin.zeroCells (Value.agg #[(.string ⟨#[]⟩), (.string ⟨#[]⟩)]).cells (n + m - i) ++ Builtin.zeroCells (Value.agg #[(.string ⟨#[]⟩), (.string ⟨#[]⟩)]).cells (G - (n + m)) = row.toArray := by
  apply Array.toList_inj.1
  rw [hrow, hzz]
  simp only [Array.toList_append, List.append_assoc]
 have htl : (rowP (l.take i)).length = i * 2 := by rw [rowP_len, zT]; omega
 have hrowl : row.length = G * 2 := by rw [hrow, List.length_append, htl, hzl]; omega
 rw [hROW] at hrz
 clear hzz hROW
 obtain ⟨W1, hW1⟩ : ∃ W1, W1 = w.drew.alloc (.cells row.toArray 64) := ⟨_, rfl⟩
 rw [← hW1] at hrz
 have hN : W1.heap[w.heap.size]? = some (.cells row.toArray 64 (0, 0)) := by rw [hW1]; exact blk_new w.drew _
 have hO : W1.heap[g]? = some (.cells (rowP l ++ rest).toArray 64 (0, 0)) := by rw [hW1]; exact zh (w := w.drew) h _
 have hV : W1.heap[vb]? = some (.cells (rowP vs).toArray 64 (0, 0)) := by rw [hW1]; exact zh (w := w.drew) hv _
 have hcpA : ∀ (W : World), (∀ x, W.cell? x = W1.cell? x) → (∀ x, W.frozen? x = W1.frozen? x) → ∀ ty dc, (Builtin.copy_ #[22, 22] ty #[.slice (some ⟨w.heap.size, i * 2, none⟩) (n + m - i) dc, .slice (some ⟨vb, 0, none⟩) m vc]).run Tryd.prog W = .ok (goInt (Nat.min m (n + m - i))) (W.setCells w.heap.size (i * 2) (rowP vs)) := fun W hWc hWf ty dc =>
  run_copy2 W ty w.heap.size (i * 2) (n + m - i) dc ⟨vb, 0, none⟩ m vc (rowP vs) (by rw [hrv]; simp only [Nat.min_def]; split <;> omega)
   (fun j v hj => by
    rw [Addr.add_lit, hWc, Nat.zero_add]
    exact row_at hV _ v hj)
   (fun j hj => by rw [hWc]; exact row_some hN _ (by rw [hrowl]; omega)) (fun j hj => by rw [hWf]; exact za hN _) (rowP_one _)
 have hGi : ¬ (G = i) := by omega
 have hGim : ¬ (G = i + m) := by omega
 have hci : ¬ (c = i) := by omega
 have hgN : g ≠ w.heap.size := by omega
 have hdl : (rowP (l.drop i)).length = (n - i) * 2 := by rw [rowP_len, zS, hcl]
 obtain ⟨row2, hrow2⟩ : ∃ row2, row2 = row.take (i * 2) ++ rowP vs ++ row.drop (i * 2 + (rowP vs).length) := ⟨_, rfl⟩
 have hN2 : (W1.setCells w.heap.size (i * 2) (rowP vs)).heap[w.heap.size]? = some (.cells row2.toArray 64 (0, 0)) := by
  rw [hrow2]; exact heap_cells (rowP vs) (i * 2) W1 row hN (by rw [hrowl, hrv]; omega)
 have hrow2l : row2.length = G * 2 := by
  rw [hrow2, List.length_append, List.length_append, zT, zS, hrowl, hrv]
  simp only [Nat.min_def]
  split <;> omega
 have hO2 : (W1.setCells w.heap.size (i * 2) (rowP vs)).heap[g]? = some (.cells (rowP l ++ rest).toArray 64 (0, 0)) := by rw [heap_cells_far hgN]; exact hO
 have hcpB : ∀ (W : World), (∀ x, W.cell? x = (W1.setCells w.heap.size (i * 2) (rowP vs)).cell? x) → (∀ x, W.frozen? x = (W1.setCells w.heap.size (i * 2) (rowP vs)).frozen? x) → ∀ ty dc sc, (Builtin.copy_ #[22, 22] ty #[.slice (some ⟨w.heap.size, (i + m) * 2, none⟩) (n + m - (i + m)) dc, .slice (some ⟨g, i * 2, none⟩) (n - i) sc]).run Tryd.prog W = .ok (goInt (Nat.min (n - i) (n + m - (i + m)))) (W.setCells w.heap.size ((i + m) * 2) (rowP (l.drop i))) := fun W hWc hWf ty dc sc =>
  run_copy2 W ty w.heap.size ((i + m) * 2) (n + m - (i + m)) dc ⟨g, i * 2, none⟩ (n - i) sc (rowP (l.drop i)) (by rw [hdl]; simp only [Nat.min_def]; split <;> omega)
   (fun j v hj => by
    rw [Addr.add_lit, hWc]
    refine row_at hO2 _ v ?_
    have hlt := (List.getElem?_eq_some_iff.1 hj).1
    rw [List.getElem?_append_left (by rw [hrl]; omega)]
    rw [rowP_drop, List.getElem?_drop] at hj
    exact hj)
   (fun j hj => by rw [hWc]; exact row_some hN2 _ (by rw [hrow2l]; omega)) (fun j hj => by rw [hWf]; exact za hN2 _) (rowP_one _)
 have post : ∀ W2, (W2 = (W1.setCells w.heap.size (i * 2) (rowP vs)).setCells w.heap.size ((i + m) * 2) (rowP (l.drop i)) ∨ W2 = ((w.alloc (.cells row.toArray 64)).drew.setCells w.heap.size (i * 2) (rowP vs)).drew.setCells w.heap.size ((i + m) * 2) (rowP (l.drop i))) → Kd.C k64 W2 (some ⟨w.heap.size, 0, none⟩) (n + m) (l.take i ++ vs ++ l.drop i) ∧ w.grownBy W2 none := by
  have main : ∀ V2 : World, V2.heap[w.heap.size]? = some (.cells row2.toArray 64 (0, 0)) → w.grownBy V2 none → Kd.C k64 (V2.setCells w.heap.size ((i + m) * 2) (rowP (l.drop i))) (some ⟨w.heap.size, 0, none⟩) (n + m) (l.take i ++ vs ++ l.drop i) ∧ w.grownBy (V2.setCells w.heap.size ((i + m) * 2) (rowP (l.drop i))) none := by
   intro V2 hV2 hg2
   have hh := heap_cells (rowP (l.drop i)) ((i + m) * 2) V2 row2 hV2 (by rw [hrow2l, hdl]; omega)
   have hll : (l.take i ++ vs ++ l.drop i).length = n + m := by rw [List.length_append, List.length_append, zT, zS, hvl, hcl]; omega
   have e : row2.take ((i + m) * 2) = rowP (l.take i) ++ rowP vs := by
    have e1 : row.take (i * 2) = rowP (l.take i) := by rw [hrow, List.take_append_of_le_length (by rw [htl]; exact Nat.le_refl _), List.take_of_length_le (by rw [htl]; exact Nat.le_refl _)]
    rw [hrow2, e1, List.take_append_of_le_length (by rw [List.length_append, htl, hrv]; omega), List.take_of_length_le (by rw [List.length_append, htl, hrv]; omega)]
   rw [e, ← rowP_append, ← rowP_append] at hh
   have hC := C_of_row hh (by rw [hll]; omega)
   rw [hll] at hC
   refine ⟨hC, ?_⟩
   have hk := grown_cells V2 w.heap.size ((i + m) * 2) (rowP (l.drop i))
   exact ⟨hk.os.trans hg2.os, hk.tape.trans hg2.tape, hk.output.trans hg2.output, Nat.le_trans hg2.size hk.size, fun k hlt _ => (hk.block k (Nat.lt_of_lt_of_le hlt hg2.size) (fun e => by injection e with e; omega)).trans (hg2.block k hlt (by simp))⟩
  have gr : ∀ V1 : World, w.grownBy V1 none → w.grownBy (V1.setCells w.heap.size (i * 2) (rowP vs)) none := fun V1 hg1 => by
   have hk := grown_cells V1 w.heap.size (i * 2) (rowP vs)
   exact ⟨hk.os.trans hg1.os, hk.tape.trans hg1.tape, hk.output.trans hg1.output, Nat.le_trans hg1.size hk.size, fun k hlt _ => (hk.block k (Nat.lt_of_lt_of_le hlt hg1.size) (fun e => by injection e with e; omega)).trans (hg1.block k hlt (by simp))⟩
  intro W2 hW2
  rcases hW2 with rfl | rfl
  ·refine main _ hN2 (gr _ ?_)
   rw [hW1]
   exact grown_more (grown_drew w none) (World.grownBy_alloc _ _ none)
  ·refine main _ ?_ ?_
   ·have hn1 : (w.alloc (.cells row.toArray 64)).drew.heap[w.heap.size]? = some (.cells row.toArray 64 (0, 0)) := blk_new w _
    have := heap_cells (rowP vs) (i * 2) _ row hn1 (by rw [hrowl, hrv]; omega)
    rw [hrow2]
    exact this
   ·exact grown_more (gr _ (grown_more (World.grownBy_alloc w _ none) (grown_drew _ none))) (grown_drew _ none)
 have PO := Aq.mk post
 subst hW1
 have hE1 : ∀ x, ((w.alloc (.cells row.toArray 64)).drew).cell? x = (w.drew.alloc (.cells row.toArray 64)).cell? x := fun x => rfl
 have hE2 : ∀ x, ((w.alloc (.cells row.toArray 64)).drew).frozen? x = (w.drew.alloc (.cells row.toArray 64)).frozen? x := fun x => rfl
 have hF1 : ∀ x, (((w.alloc (.cells row.toArray 64)).drew.setCells w.heap.size (i * 2) (rowP vs)).drew).cell? x = ((w.drew.alloc (.cells row.toArray 64)).setCells w.heap.size (i * 2) (rowP vs)).cell? x := fun x => rfl
 have hF2 : ∀ x, (((w.alloc (.cells row.toArray 64)).drew.setCells w.heap.size (i * 2) (rowP vs)).drew).frozen? x = ((w.drew.alloc (.cells row.toArray 64)).setCells w.heap.size (i * 2) (rowP vs)).frozen? x := fun x => rfl
 have hw1 : IntKind.i64.wrap ((i : Int) + (m : Int)) = (i : Int) + (m : Int) := by rw [IntKind.wrap_i64]; omega
 have hb1 : (0 : Int) ≤ (i : Int) + (m : Int) := by omega
 have hin : i ≤ n := by omega
 have htn : ((i : Int) + (m : Int)).toNat = i + m := by omega
 have hb3 : (i : Int) ≤ (n : Int) := by omega
 clear hkk hik hold hrow hzl hrowl hrow2 hrow2l hN hO hV hN2 hO2 post h hv hdl hrl hrv htl
 go_enter Tryd.func75, Tryd.ntmps75
 go_wp2_with (first
  | (at_builtin; refine Lib.wpList_append_run _ rfl _ _ _ _ rfl _ _ rfl rfl _ _ (hrz _) ?_)
  | (at_builtin; refine wpList_copy_runI _ rfl _ _ 22 22 rfl _ _ rfl rfl (hcpA _ hE1 hE2 _ _) ?_)
  | (at_builtin; refine wpList_copy_runI _ rfl _ _ 22 22 rfl _ _ rfl rfl (hcpB _ (fun _ => rfl) (fun _ => rfl) _ _ _) ?_))
 go_region_law_o (refine step_copy_runI rfl _ _ 22 22 rfl (.slice (some ⟨w.heap.size, (i + m) * 2, none⟩) (n + m - (i + m)) (G - (i + m))) (.slice (some ⟨g, i * 2, none⟩) (n - i) (c - i)) (by simp [Act.eval, Act.put]) (by simp [Act.eval, Act.put]) (hcpB _ hF1 hF2 3 (G - (i + m)) (c - i)) ?_)
 go_wp2
 go_ret
 obtain ⟨p1, p2⟩ := PO.out _ (.inr rfl)
 exact ⟨_, _, rfl, hGn, p1, p2, Nat.le_refl _⟩
end Go.Proofs.YtmnfjbmhlabdaaaDoor.Pr
namespace Go.Proofs.YtmnfjbmhlabdaaaDoor.Pr
open Go.RowKit Go.Proofs.YtmnfjbmhlabdaaaDoorW.PrintWords Go.Proofs.YtmnfjbmhlabdaaaDoorW.PrintLast Go.Proofs.YtmnfjbmhlabdaaaDoorW.PrintMore
set_option linter.unusedSimpArgs false
set_option linter.unusedVariables false
structure Lo (B : Nat) (a w : World) (A : Option Addr) (c : Nat) (l : List S64) : Prop where
 hc : Kd.C k64 w A l.length l
 hl : l.length ≤ c
 hb : Below B a w
 hs : B ≤ w.heap.size
 ha : ∀ ad, A = some ad → B ≤ ad.block
theorem Lo.of {B : Nat} {a w : World} {A : Option Addr} {n c : Nat} {l : List S64} (h : Kd.R k64 64 w B (fun _ => True) (.slice A n c) l) (hb : Below B a w) (hs : B ≤ w.heap.size) : Lo B a w A c l := by
 have h2 := Kd.R_reads' h
 obtain ⟨e, h1, h3⟩ := h2
 exact ⟨h3, by omega, hb, hs, fun ad e => Kd.R_base h ad.block (by rw [e]; rfl)⟩
theorem below_grow {B : Nat} {a w w' : World} {g : Nat} (hb : Below B a w) (hs : B ≤ w.heap.size) (hg : B ≤ g) (h : w.grownBy w' (some g)) : Below B a w' :=
 hb.grown h hs (fun k e => by injection e with e; omega)
theorem ins_op (B : Nat) (a : World) (A : Option Addr) (n c i vb : Nat) (l : List S64) (x : S64) (w : World) (HO : Kd.R k64 64 w B (fun _ => True) (.slice A n c) l) (hb : Below B a w) (hs : B ≤ w.heap.size) (hbig : l.length ≤ 1000)
  (hi : i ≤ l.length) (hv : w.heap[vb]? = some (.cells #[.string x.f0, .string x.f1] 64 (0, 0))) (hvb : ∀ ad, A = some ad → vb ≠ ad.block) :
  Calls Tryd.prog 75 #[.slice A n c, .int .i64 i, .slice (some ⟨vb, 0, none⟩) 1 1] w fun e w' => ∃ A' c', e = .returned (.slice A' (l.take i ++ x :: l.drop i).length c') ∧ Lo B a w' A' c' (l.take i ++ x :: l.drop i) := by
 have hn := (Kd.R_reads' HO).1
 have hll : (l.take i ++ x :: l.drop i).length = l.length + 1 := by rw [List.length_append, zT, List.length_cons, zS]; omega
 by_cases hin : i = l.length
 ·subst hn
  have hend := ins_end B a (.slice A l.length c) l x vb 1 w hb hs HO hbig (C_one hv)
  rw [← hin] at hend
  rw [← hin]
  refine hend.mono ?_
  rintro e w' ⟨A', c', rfl, h1, h2, h3, h4, h5⟩
  have e1 : l.take i ++ x :: l.drop i = l ++ [x] := by rw [List.take_of_length_le (by omega), List.drop_of_length_le (by omega)]
  refine ⟨A', c', by rw [hll, hin], ?_⟩
  rw [e1]
  exact ⟨by rw [List.length_append, List.length_singleton, ← hin]; exact h2, by rw [List.length_append, List.length_singleton, ← hin]; exact h1, h3, h5, h4⟩
 ·rcases row_of_R HO with ⟨_, e, _, _⟩ | ⟨g, rest, rfl, hg, hcl, e, hlc, hcm, hB, _⟩
  ·rw [e] at hi hin
   exact absurd (Nat.le_zero.1 hi) hin
  ·have hvb' : vb ≠ g := hvb _ rfl
   rw [hn]
   by_cases hroom : l.length + 1 ≤ c
   ·refine (ins_shift g l.length c i vb 1 1 l [x] rest w (by omega) (by decide) hroom (by unfold maxLen at hcm; exact hcm) hvb' rfl rfl hg hcl hv).mono ?_
    rintro e w' ⟨rfl, h1, h2⟩
    refine ⟨some ⟨g, 0, none⟩, c, by rw [hll], ?_⟩
    have e1 : l.take i ++ [x] ++ l.drop i = l.take i ++ x :: l.drop i := by rw [List.append_assoc]; rfl
    rw [e1] at h1
    exact ⟨by rw [hll]; exact h1, by rw [hll]; exact hroom, below_grow hb hs hB h2, Nat.le_trans hs h2.size, fun ad e => by injection e with e; rw [← e]; exact hB⟩
   ·refine (ins_grow g l.length c i vb 1 1 l [x] rest w (by omega) (by decide) hlc (by omega) (by omega) rfl rfl hg hv).mono ?_
    rintro e w' ⟨g', c', rfl, h0, h1, h2, h3⟩
    refine ⟨some ⟨g', 0, none⟩, c', by rw [hll], ?_⟩
    have e1 : l.take i ++ [x] ++ l.drop i = l.take i ++ x :: l.drop i := by rw [List.append_assoc]; rfl
    rw [e1] at h1
    exact ⟨by rw [hll]; exact h1, by rw [hll]; exact h0, hb.grown h2 hs (fun k e => by cases e), Nat.le_trans hs h2.size, fun ad e => by injection e with e; rw [← e]; exact Nat.le_trans hs h3⟩
theorem del_op (B : Nat) (a : World) (A : Option Addr) (n c i j : Nat) (l : List S64) (w : World) (HO : Kd.R k64 64 w B (fun _ => True) (.slice A n c) l) (hb : Below B a w) (hs : B ≤ w.heap.size) (hi : i < l.length) (hj : j = i + 1) :
  Calls Tryd.prog 74 #[.slice A n c, .int .i64 i, .int .i64 (j : Int)] w fun e w' => e = .returned (.slice A (l.take i ++ l.drop (i + 1)).length c) ∧ Lo B a w' A c (l.take i ++ l.drop (i + 1)) := by
 have hn := (Kd.R_reads' HO).1
 have hll : (l.take i ++ l.drop (i + 1)).length = l.length - 1 := by rw [List.length_append, zT, zS]; omega
 rcases row_of_R HO with ⟨_, e, _, _⟩ | ⟨g, rest, rfl, hg, hcl, e, hlc, hcm, hB, _⟩
 ·rw [e] at hi
  exact absurd hi (Nat.not_lt_zero _)
 ·rw [hn]
  refine (del_pair g c i j l rest w hg hcl hlc (by unfold maxLen at hcm; exact hcm) (by omega) hj (by omega)).mono ?_
  rintro e w' ⟨rfl, h1, h2⟩
  subst hj
  refine ⟨by rw [hll], ?_⟩
  exact ⟨by rw [hll]; exact h1, by rw [hll]; omega, below_grow hb hs hB h2, Nat.le_trans hs h2.size, fun ad e => by injection e with e; rw [← e]; exact hB⟩
theorem rowP_set : ∀ (l : List S64) (i : Nat) (hi : i < l.length) (v : ByteArray), rowP (l.set i ⟨(rd_T64 l (i : Int)).f0, v⟩) = (rowP l).set (i * 2 + 1) (.string v)
 | [], i, hi, _ => absurd hi (Nat.not_lt_zero _)
 | x :: r, 0, _, v => rfl
 | x :: r, i + 1, hi, v => by
  have e : rd_T64 (x :: r) ((i + 1 : Nat) : Int) = rd_T64 r (i : Int) := by
   unfold rd_T64
   rw [Int.toNat_natCast, Int.toNat_natCast, List.getD_cons_succ]
  rw [e, zL]
  simp only [rowP]
  rw [rowP_set r i (by rw [List.length_cons] at hi; omega) v, show (i + 1) * 2 + 1 = (i * 2 + 1) + 1 + 1 by omega, zL, zL]
theorem set_op {B : Nat} {a : World} {g n c i : Nat} {l : List S64} {w : World} {v : ByteArray} (HO : Kd.R k64 64 w B (fun _ => True) (.slice (some ⟨g, 0, none⟩) n c) l) (hb : Below B a w) (hs : B ≤ w.heap.size) (hi : i < l.length) :
  Lo B a (w.setCell ⟨g, i * 2 + 1, none⟩ (.string v)) (some ⟨g, 0, none⟩) c (l.set i ⟨(rd_T64 l (i : Int)).f0, v⟩) := by
 rcases row_of_R HO with ⟨e, _⟩ | ⟨g', rest, e, hg, hcl, e2, hlc, hcm, hB, _⟩
 ·cases e
 ·injection e with e
  injection e with e
  subst e
  have h1 := blk_set hg (i * 2 + 1) (.string v)
  rw [zJ, List.set_append_left _ _ (by rw [rowP_len]; omega), ← rowP_set l i hi v] at h1
  have hl : (l.set i ⟨(rd_T64 l (i : Int)).f0, v⟩).length = l.length := List.length_set
  exact ⟨C_of_row h1 (by rw [hl]; have := (Kd.R_reads' HO).2.2.2.1; omega), by rw [hl]; exact hlc, hb.setCell hB _, Nat.le_trans hs (by simp [World.setCell]), fun ad e => by injection e with e; rw [← e]; exact hB⟩
end Go.Proofs.YtmnfjbmhlabdaaaDoor.Pr
