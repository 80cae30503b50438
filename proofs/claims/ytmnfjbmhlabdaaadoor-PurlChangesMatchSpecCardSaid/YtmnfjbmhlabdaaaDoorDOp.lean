/- A datum read out of memory is a value of a kind: numbers, bools, texts, slices, structs. -/
import Derived.Test.YtmnfjbmhlabdaaaDoorDW
import Derived.WalkKit
import Derived.ProofKit
import Derived.OpenShut
import Derived.SizedLaws
import Derived.WideShapes
import Derived.Deep.Slices
import Derived.Lib.SmallJoins
namespace Go.Proofs.YtmnfjbmhlabdaaaDoor.Op
open Go.RowKit Go.Proofs.YtmnfjbmhlabdaaaDoorW.PrintWords
structure Opn {α : Type} (P : Program) (t : TypeId) (d : Kd α) (B : α → Prop) : Prop where
 cells : P.cellsOf t = d.sz
 go : ∀ {H : Type} {enc : TypeId × Value → H} {W : World} {fuel : Nat} {cs : List Value} {x : DataW H} {p : List MemPlace}, DataW.trod enc P W 0 (fun _ => true) true fuel t cs = some (x, p) → (∀ m ∈ DataW.weights P t x, m ≤ reachBytes) → ∃ a, d.K W a cs ∧ B a
section
variable {P : Program} {t : TypeId}
theorem Opn.int {k : IntKind} (ht : P.underlying t = some (.int k)) (hc : P.cellsOf t = 1) : Opn P t (Kd.int k) (fun a => (Lit.int k a).wf = true) := by
 refine ⟨hc, ?_⟩
 intro H enc W fuel cs x p h _
 obtain ⟨n, rfl, _, hw⟩ := DataW.trod_int ht h
 exact ⟨n, rfl, hw⟩
theorem Opn.bool (ht : P.underlying t = some .bool) (hc : P.cellsOf t = 1) : Opn P t Kd.bool (fun _ => True) := by
 refine ⟨hc, ?_⟩
 intro H enc W fuel cs x p h _
 obtain ⟨b, rfl, _⟩ := DataW.trod_bool ht h
 exact ⟨b, rfl, trivial⟩
theorem Opn.string (ht : P.underlying t = some .string) (hc : P.cellsOf t = 1) : Opn P t Kd.string (fun s => s.size ≤ 140737488351232) := by
 refine ⟨hc, ?_⟩
 intro H enc W fuel cs x p h hw
 obtain ⟨s, rfl, hx, _⟩ := DataW.trod_string ht h
 obtain ⟨rfl, rfl⟩ := Prod.mk.inj hx
 refine ⟨s, rfl, ?_⟩
 have := hw s.data.toList.length (by simp [DataW.weights])
 simpa [reachBytes] using this
theorem mem_weightsAll {H : Type} {e : TypeId} {d : DataW H} {m : Nat} (hm : m ∈ DataW.weights P e d) : ∀ {l : List (DataW H)}, d ∈ l → m ∈ DataW.weightsAll P e l
 | [], h => by cases h
 | d' :: l, h => by
  simp only [DataW.weightsAll, List.mem_append]
  rcases List.mem_cons.1 h with rfl | h
  ·exact .inl hm
  ·exact .inr (mem_weightsAll hm h)
theorem list_of {α : Type} {R : Nat → α → Prop} : ∀ (n : Nat), (∀ i, i < n → ∃ a, R i a) → ∃ l : List α, l.length = n ∧ ∀ i (a : α), l[i]? = some a → R i a
 | 0, _ => ⟨[], rfl, fun i a h => by simp at h⟩
 | n + 1, h => by
  obtain ⟨l, hl, hr⟩ := list_of n (fun i hi => h i (by omega))
  obtain ⟨a, ha⟩ := h n (by omega)
  refine ⟨l ++ [a], by simp [hl], fun i b hb => ?_⟩
  by_cases hi : i < n
  ·rw [List.getElem?_append_left (by omega)] at hb
   exact hr i b hb
  ·have hb2 := (List.getElem?_eq_some_iff.1 hb).1
   simp only [List.length_append, List.length_cons, List.length_nil, hl] at hb2
   obtain rfl : i = n := by omega
   rw [List.getElem?_append_right (by omega), hl, Nat.sub_self] at hb
   obtain rfl : a = b := by simpa using hb
   exact ha
theorem add_add (a : Addr) (m j : Nat) : (a.add m).add j = a.add (m + j) := by
 unfold Addr.add
 split <;> split <;> simp_all <;> omega
theorem Opn.slice {α : Type} {e : TypeId} {d : Kd α} {B : α → Prop} (ht : P.underlying t = some (.slice e)) (hc : P.cellsOf t = 1) (h : Opn P e d B) : Opn P t (Kd.slice e d) (fun l => l.length * P.bytesOf e ≤ 140737488351232 ∧ l.length ≤ maxLen ∧ ∀ a ∈ l, B a) := by
 refine ⟨hc, ?_⟩
 intro H enc W fuel cs x p hx hw
 rcases Deep.open_slice ht hx with ⟨rfl, _⟩ | ⟨a, len, cap, m, n, D, Pl, rfl, hb, hl, hm, hmm, hxx, hel⟩
 ·exact ⟨[], ⟨none, 0, rfl, Nat.le_refl _, rfl, by simp, fun h => by cases h⟩, by simp, by simp, fun a ha => by cases ha⟩
 ·simp only [if_true] at hmm
  subst hmm
  obtain ⟨rfl, rfl⟩ := Prod.mk.inj hxx
  simp only [DataW.weights, ht, List.mem_cons, List.mem_append] at hw
  have hone : ∀ i, i < len → ∃ a' : α, B a' ∧ ∃ c, c.length = d.sz ∧ d.K W a' c ∧ ∀ j u, c[j]? = some u → W.cell? ((a.add (i * d.sz)).add j) = some u := by
   intro i hi
   obtain ⟨cs', h1, h2⟩ := hel i (by omega)
   obtain ⟨a', hK, hB⟩ := h.go h2 (fun q hq => hw q (.inr (.inl (mem_weightsAll hq (List.mem_map.2 ⟨i, List.mem_range.2 hi, rfl⟩)))))
   obtain ⟨_, hlen, hcell⟩ := World.cells?_some h1
   rw [h.cells] at h1 hlen hcell
   refine ⟨a', hB, cs', hlen, hK, fun j u hu => ?_⟩
   have hj : j < d.sz := by rw [← hlen]; exact (List.getElem?_eq_some_iff.1 hu).1
   rw [hcell j hj, hu]
  obtain ⟨l, hll, hlr⟩ := list_of len hone
  refine ⟨l, ⟨some a, m, by rw [hll], by omega, rfl, by rw [hll]; unfold maxLen at hm; omega, fun _ => ⟨a, rfl, fun j p hp => ?_⟩⟩, ?_, by omega, fun b hb => ?_⟩
  ·obtain ⟨_, c, hc1, hc2, hc3⟩ := hlr j p hp
   exact ⟨c, hc1, hc2, fun i u hu => by rw [← add_add]; exact hc3 i u hu⟩
  ·have := hw _ (.inl rfl)
   simp only [List.length_map, List.length_range] at this
   rw [hll]
   refine Nat.le_trans (Nat.mul_le_mul_right _ ?_) (by simpa [reachBytes] using this)
   omega
  ·obtain ⟨i, hi⟩ := List.getElem?_of_mem hb
   exact (hlr i b hi).1
inductive OpnF (P : Program) : List Field → Nat → {α : Type} → Kd α → (α → Prop) → Prop where
 | one {α : Type} {f : Field} {off : Nat} {d : Kd α} {B : α → Prop} (ho : f.offset = off) (h : Opn P f.type d B) : OpnF P [f] off d B
 | cons {α β : Type} {f : Field} {fs : List Field} {off : Nat} {d : Kd α} {B : α → Prop} {d2 : Kd β} {B2 : β → Prop} (ho : f.offset = off) (h : Opn P f.type d B) (h2 : OpnF P fs (off + d.sz) d2 B2) : OpnF P (f :: fs) off (Kd.pair d d2) (fun x => B x.1 ∧ B2 x.2)
theorem OpnF.go {P : Program} {fs : List Field} {off : Nat} {α : Type} {d : Kd α} {B : α → Prop} (h : OpnF P fs off d B) : ∀ {H : Type} {enc : TypeId × Value → H} {W : World} {fuel : Nat} {cs : List Value} {xs : List (DataW H × List MemPlace)}, fs.mapM (fun f => DataW.trod enc P W 0 (fun _ => true) true fuel f.type ((cs.drop f.offset).take (P.cellsOf f.type))) = some xs → (∀ m ∈ DataW.weightsEach P (fs.map (·.type)) (xs.map (·.1)), m ≤ reachBytes) → ∃ a, d.K W a ((cs.drop off).take d.sz) ∧ B a := by
 induction h with
 | one ho h =>
  intro H enc W fuel cs xs hx hw
  simp only [List.mapM_cons, List.mapM_nil, Option.bind_eq_bind, Option.bind_eq_some_iff, Option.pure_def, Option.some.injEq] at hx
  obtain ⟨y, hy, _, rfl, rfl⟩ := hx
  rw [ho, h.cells] at hy
  exact h.go hy (fun m hm => hw m (by simp [DataW.weightsEach, hm]))
 | cons ho h h2 ih =>
  intro H enc W fuel cs xs hx hw
  simp only [List.mapM_cons, Option.bind_eq_bind, Option.bind_eq_some_iff, Option.pure_def, Option.some.injEq] at hx
  obtain ⟨y, hy, ys, hys, rfl⟩ := hx
  rw [ho, h.cells] at hy
  obtain ⟨a, hK, hB⟩ := h.go hy (fun m hm => hw m (by simp [DataW.weightsEach, hm]))
  obtain ⟨b, hK2, hB2⟩ := ih hys (fun m hm => hw m (by simp only [List.map_cons, DataW.weightsEach, List.mem_append]; exact .inr hm))
  refine ⟨(a, b), ⟨_, _, ?_, hK, hK2⟩, hB, hB2⟩
  rw [show (Kd.pair _ _).sz = _ + _ from rfl, List.take_add, List.drop_drop]
theorem Opn.struct {P : Program} {t : TypeId} {fs : Array Field} {α β : Type} {d : Kd α} {B : α → Prop} (f : β → α) (g : α → β) (hfg : ∀ a, f (g a) = a) (ht : P.underlying t = some (.struct fs)) (hc : P.cellsOf t = d.sz) (h : OpnF P fs.toList 0 d B) : Opn P t (Kd.iso d f) (fun x => B (f x)) := by
 refine ⟨hc, ?_⟩
 intro H enc W fuel cs x p hx hw
 cases fuel with
 | zero => simp [DataW.trod] at hx
 | succ fuel =>
  simp only [DataW.trod, ht] at hx
  split at hx
  ·rename_i hlen
   obtain ⟨xs, hm, hxx⟩ := Option.map_eq_some_iff.1 hx
   obtain ⟨rfl, rfl⟩ := Prod.mk.inj hxx
   simp only [DataW.weights, ht] at hw
   obtain ⟨a, hK, hB⟩ := h.go hm hw
   rw [List.drop_zero, List.take_of_length_le (by rw [hlen, hc]; exact Nat.le_refl _)] at hK
   exact ⟨g a, by show d.K W (f (g a)) cs; rw [hfg]; exact hK, by rw [hfg]; exact hB⟩
  ·cases hx
end
end Go.Proofs.YtmnfjbmhlabdaaaDoor.Op
