/- What the rows of this seat's laws share: what the listed tables give, a world for the witness, and that what was read stays. Conditions: none. -/
import Derived.Test.YtdmmglihkdkeaaaDoorRows
import Derived.Test.YtdmmglihkdkeaaaDoorTie
import Derived.Test.YtdmmglihkdkeaaaDoorULd
import Derived.Test.YtdmmglihkdkeaaaDoorUOp
import Derived.WalkKit
import Derived.ProofKit
import Derived.OpenShut
import Derived.ShutString
import Derived.ChangeOld
import Derived.Below
import Derived.Carry
import Derived.SizedLaws
import Derived.Deep.DeepHandedRow
import Derived.Lib.LaidTab
namespace Go.Proofs.YtdmmglihkdkeaaaDoor.Rw
open Go.ChangeShapes Go.WideShapes Go.ChangeAt Go.RowKit
theorem own : ownKnob Tryd.prog.godebug = none := by kernel_rfl
theorem laidOut : laidOutB Tryd.prog = true := by kernel_rfl
theorem g64 : Tryd.prog.globalNamed "math/bits.deBruijn64tab" = some 3 := by kernel_rfl
theorem g64t : (Tryd.prog.globals[3]?).map (·.type) = some 188 := by kernel_rfl
theorem gp : Tryd.prog.globalNamed "internal/strconv.uint64pow10" = some 0 := by kernel_rfl
theorem gpt : (Tryd.prog.globals[0]?).map (·.type) = some 181 := by kernel_rfl
theorem gpn : ((Tryd.prog.globals[0]?).map (·.name)).get! = "internal/strconv.uint64pow10" := by kernel_rfl
/-- The numbers of a datum. -/
def numOf : DataW Unit → Int
  | .lit (.int _ n) => n
  | _ => 0
def listOf : DataW Unit → List Int
  | .agg l => l.map numOf
  | _ => []
theorem tab64 : (Rows.laid_math_bits_deBruijn64tab : DataW Unit) = Lib.tabData .u8 (listOf Rows.laid_math_bits_deBruijn64tab) := rfl
theorem tabpl : listOf Rows.laid_internal_strconv_uint64pow10 = Lib.pow10Tab := by decide +kernel
theorem tabp : (Rows.laid_internal_strconv_uint64pow10 : DataW Unit) = Lib.tabData .u64 Lib.pow10Tab := (show (Rows.laid_internal_strconv_uint64pow10 : DataW Unit) = Lib.tabData .u64 (listOf Rows.laid_internal_strconv_uint64pow10) from rfl).trans (by rw [tabpl])
set_option maxRecDepth 100000 in
theorem laidW {W : World} (h : laidMetH Tryd.prog Rows.attestKeysMatchSpecRow.laid W) : Pr.LaidW W := by
  have h : laidMet Tryd.prog Rows.attestKeysMatchSpecRow.laid W := h
  obtain ⟨ps, h1, _, _⟩ := h
  obtain ⟨_, _, _, _, _, _, _, _, _, _, h2, _⟩ := h1
  obtain ⟨g, t, cs, fuel, p, q, hg, ht, hv, hd, h3, _⟩ := h2
  obtain ⟨g', t', cs', fuel', p', q', hg', ht', hv', hd', _, _⟩ := h3
  obtain rfl := Option.some.inj (g64.symm.trans hg)
  obtain rfl := Option.some.inj (g64t.symm.trans ht)
  obtain rfl := Option.some.inj (gp.symm.trans hg')
  obtain rfl := Option.some.inj (gpt.symm.trans ht')
  rw [tab64] at hd
  rw [tabp] at hd'
  have e := Lib.cells_of_tab Tryd.underlying188 Tryd.underlying5 (by kernel_rfl) (by kernel_rfl) hd
  have e' := Lib.cells_of_tab Tryd.underlying181 Tryd.underlying141 (by kernel_rfl) (by kernel_rfl) hd'
  have hc := World.var?_cell g64 hv 15
  have hs : cs = ((listOf Rows.laid_math_bits_deBruijn64tab).map fun z => Value.int .u8 z).toArray := by rw [← e]
  have hs' : cs' = (Lib.pow10Tab.map fun z => Value.int .u64 z).toArray := by rw [← e']
  have hx : W.cell? ⟨3, 15, none⟩ = some (.int .u8 4) := by rw [hc, hs]; rfl
  exact ⟨hx, by rw [gpn, hv', hs'], World.block_lt_of_cell? W ⟨3, 15, none⟩ hx⟩
def tabSet (vs : Array Value) : Obj → Obj
  | .cells _ t frozen => .cells vs t frozen
  | o => o
/-- A world for the witness: the settled one, the tables holding what their initialisers lay. -/
noncomputable def laidWorld (os : Os) : World :=
  { World.holding Tryd.prog os ⟨#[], #[], []⟩ with heap := (((World.holding Tryd.prog os ⟨#[], #[], []⟩).heap.modify 0 (tabSet ((listOf Rows.laid_internal_strconv_uint64pow10).map fun z => Value.int .u64 z).toArray)).modify 2 (tabSet ((listOf Rows.laid_math_bits_deBruijn32tab).map fun z => Value.int .u8 z).toArray)).modify 3 (tabSet ((listOf Rows.laid_math_bits_deBruijn64tab).map fun z => Value.int .u8 z).toArray) }
set_option maxRecDepth 100000 in
theorem laid_met (os : Os) (zs : Array Value) : laidMet Tryd.prog Rows.attestKeysMatchSpecRow.laid ((laidWorld os).forCall (fun _ _ => 0) ⟨#[], zs, []⟩).memory :=
  laidMet_of_run' 8 (by kernel_rfl) (by kernel_rfl)
section
variable {H : Type} {enc : TypeId × Value → H}
/-- What was read before the call reads so behind it. -/
theorem back {P : Program} (hl : laidOutB P = true) {W W' : World} (hb : Below W.heap.size W W') : ∀ {ts : List TypeId} {vs : List Value} {ds : List (DataW H)} {ps : List MemPlace},
    ts.all (fun t => P.readableRec t && decide (t < P.types.size)) = true → DataW.TrodAll enc P W 0 (fun _ => true) true ts vs ds ps → DataW.TrodAll enc P W' 0 (fun b => decide (b < W.heap.size)) true ts vs ds ps
  | [], _, _, _, _, h => by
    obtain ⟨rfl, rfl, rfl⟩ := trodAll_nil h
    exact trodAll_mk0
  | t :: ts, _, _, _, hr, h => by
    have hlt := h.lt
    obtain ⟨v, vs', d, ds', p, q, rfl, rfl, rfl, h1, h2⟩ := trodAll_cons h
    rw [List.all_cons, Bool.and_eq_true, Bool.and_eq_true] at hr
    exact trodAll_cons_mk (Below.trod hl hr.1.1 (of_decide_eq_true hr.1.2) h1 hb (fun x hx => hlt x (List.mem_append_left _ hx))) (back hl hb hr.2 h2)
/-- One argument, opened. -/
theorem par {P : Program} {α : Type} {t : TypeId} {d : Go.Proofs.YtdmmglihkdkeaaaDoorW.PrintWords.Kd α} {B : α → Prop} (h : Op.Opn P t d B) {W : World} {v : Value} {x : DataW H} {p : List MemPlace} {ts : List TypeId} {ds : List (DataW H)} {j : Nat}
    (hd : DataW.Trod enc P W 0 (fun _ => true) true t v x p) (hsz : (DataW.weightsEach P ts ds).all (· ≤ reachBytes) = true) (h1 : ts[j]? = some t) (h2 : ds[j]? = some x) : ∃ a, d.K W a v.cells.toList ∧ B a := by
  obtain ⟨fuel, hf⟩ := hd
  exact h.go hf (fun m hm => of_decide_eq_true (List.all_eq_true.1 hsz m (DataW.weights_mem_each h1 h2 m hm)))
end
theorem wf_i64 {n : Int} (h : (Lit.int .i64 n).wf = true) : -9223372036854775808 ≤ n ∧ n ≤ 9223372036854775807 := by
  simpa [Lit.wf, IntKind.min, IntKind.max, IntKind.signed, IntKind.bits] using h
end Go.Proofs.YtdmmglihkdkeaaaDoor.Rw
