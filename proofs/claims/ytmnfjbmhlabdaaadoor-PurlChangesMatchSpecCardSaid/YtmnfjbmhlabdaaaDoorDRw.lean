/- What the rows of this seat's laws share: what the listed tables give, a world for the witness, and that what was read stays. Conditions: none. -/
import Derived.Test.YtmnfjbmhlabdaaaDoorRows
import Derived.Test.YtmnfjbmhlabdaaaDoorTie
import Derived.Test.YtmnfjbmhlabdaaaDoorDPrx0
import Derived.Test.YtmnfjbmhlabdaaaDoorDOp
import Derived.WalkKit
import Derived.ProofKit
import Derived.OpenShut
import Derived.ShutString
import Derived.ChangeOld
import Derived.Below
import Derived.Carry
import Derived.SizedLaws
import Derived.Deep.DeepHandedRow
import Derived.Lib.LaidTab
namespace Go.Proofs.YtmnfjbmhlabdaaaDoor.Rw
open Go.ChangeShapes Go.WideShapes Go.ChangeAt Go.RowKit
theorem own : ownKnob Tryd.prog.godebug = none := by kernel_rfl
theorem laidOut : laidOutB Tryd.prog = true := by kernel_rfl
def numOf : DataW Unit → List Int
 | .lit (.int _ n) => [n]
 | .agg l => l.flatMap fun d => match d with
  | .lit (.int _ n) => [n]
  | .agg m => m.flatMap fun e => match e with
   | .lit (.int _ n) => [n]
   | _ => []
  | _ => []
 | _ => []
def tabSet (vs : Array Value) : Obj → Obj
 | .cells _ t frozen => .cells vs t frozen
 | o => o
def tab (k : IntKind) (d : DataW Unit) : Array Value := ((numOf d).map fun z => Value.int k z).toArray
noncomputable def laidWorld (os : Os) : World :=
 { World.holding Tryd.prog os ⟨#[], #[], []⟩ with heap := (((((World.holding Tryd.prog os ⟨#[], #[], []⟩).heap.modify 1 (tabSet (tab .u64 Rows.laid_internal_strconv_uint64pow10))).modify 2 (tabSet (tab .u8 Rows.laid_math_bits_deBruijn32tab))).modify 3 (tabSet (tab .u8 Rows.laid_math_bits_deBruijn64tab))).modify 4 (tabSet (tab .u8 Rows.laid_unicode_utf8_first))).modify 5 (tabSet (tab .u8 Rows.laid_unicode_utf8_acceptRanges)) }
set_option maxRecDepth 100000 in
theorem laid_met (os : Os) (zs : Array Value) : laidMet Tryd.prog Rows.purlKindsMatchSpecRow.laid ((laidWorld os).forCall (fun _ _ => 0) ⟨#[], zs, []⟩).memory :=
 laidMet_of_run' 8 (by kernel_rfl) (by kernel_rfl)
section
variable {H : Type} {enc : TypeId × Value → H}
theorem back {P : Program} (hl : laidOutB P = true) {W W' : World} (hb : Below W.heap.size W W') : ∀ {ts : List TypeId} {vs : List Value} {ds : List (DataW H)} {ps : List MemPlace},
  ts.all (fun t => P.readableRec t && decide (t < P.types.size)) = true → DataW.TrodAll enc P W 0 (fun _ => true) true ts vs ds ps → DataW.TrodAll enc P W' 0 (fun b => decide (b < W.heap.size)) true ts vs ds ps
 | [], _, _, _, _, h => by
  obtain ⟨rfl, rfl, rfl⟩ := trodAll_nil h
  exact trodAll_mk0
 | t :: ts, _, _, _, hr, h => by
  have hlt := h.lt
  obtain ⟨v, vs', d, ds', p, q, rfl, rfl, rfl, h1, h2⟩ := trodAll_cons h
  rw [List.all_cons, Bool.and_eq_true, Bool.and_eq_true] at hr
  exact trodAll_cons_mk (Below.trod hl hr.1.1 (of_decide_eq_true hr.1.2) h1 hb (fun x hx => hlt x (List.mem_append_left _ hx))) (back hl hb hr.2 h2)
theorem par {P : Program} {α : Type} {t : TypeId} {d : Go.Proofs.YtmnfjbmhlabdaaaDoorW.PrintWords.Kd α} {B : α → Prop} (h : Op.Opn P t d B) {W : World} {v : Value} {x : DataW H} {p : List MemPlace} {ts : List TypeId} {ds : List (DataW H)} {j : Nat}
  (hd : DataW.Trod enc P W 0 (fun _ => true) true t v x p) (hsz : (DataW.weightsEach P ts ds).all (· ≤ reachBytes) = true) (h1 : ts[j]? = some t) (h2 : ds[j]? = some x) : ∃ a, d.K W a v.cells.toList ∧ B a := by
 obtain ⟨fuel, hf⟩ := hd
 exact h.go hf (fun m hm => of_decide_eq_true (List.all_eq_true.1 hsz m (DataW.weights_mem_each h1 h2 m hm)))
end
end Go.Proofs.YtmnfjbmhlabdaaaDoor.Rw
