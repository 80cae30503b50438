/- purl's rules: each call answers what its Lean function says. Conditions: none. -/
import Derived.Test.YtmnfjbmhlabdaaaDoorDXa
import Derived.Test.YtmnfjbmhlabdaaaDoorProg
import Derived.Test.YtmnfjbmhlabdaaaDoorDSh
import Derived.Test.YtmnfjbmhlabdaaaDoorDW
import Derived.WalkKit
import Derived.Deep.LoopGhost
import Derived.Laws.Tables
import Derived.Deep.DeepMust
namespace Go.Proofs.YtmnfjbmhlabdaaaDoor.Pr
open Go.RowKit Go.Proofs.YtmnfjbmhlabdaaaDoorW.PrintWords Go.Proofs.YtmnfjbmhlabdaaaDoorW.PrintLast Go.Proofs.YtmnfjbmhlabdaaaDoorW.PrintMore
def rulesV : Array Value := #[.string ⟨#[100, 111, 116, 116, 101, 100]⟩, .int .i64 2, .bool true, .bool false, .int .i64 1, .string ⟨#[114, 101, 118, 105, 115, 101, 100]⟩, .int .i64 3, .bool true, .bool false, .int .i64 2, .string ⟨#[115, 116, 97, 103, 101, 100]⟩, .int .i64 1, .bool true, .bool true, .int .i64 3, .string ⟨#[113, 117, 97, 108, 105, 102, 105, 101, 100]⟩, .int .i64 3, .bool false, .bool false, .int .i64 4, .string ⟨#[112, 108, 97, 105, 110]⟩, .int .i64 2, .bool false, .bool false, .int .i64 5]
theorem wpList_store_row {P : Program} {ops : Array Oper} {rest : List Oper} {o : Oper} {a : Act} {w : World} {Q : Exit → Act → World → Prop} (hgd : o.guard = none) (ty : TypeId) (x y : Operand) (ho : o.op = .store ty x y)
  (g : Nat) (cells : Array Value) (hx : a.eval x = .pointer (some ⟨g, 0, none⟩)) (hy : a.eval y = .agg cells) (t : TypeId) (old : Array Value) (hg : w.heap[g]? = some (.cells old t (0, 0))) (hi : (P.info? ty).map (·.size) = some cells.size) (hs : old.size = cells.size) (h1 : cells.all (·.oneCell') = true)
  (h : wpList P ops Q rest (a.put o.dst undef) (w.setRow g cells)) : wpList P ops Q (o :: rest) a w :=
 wpList_plain hgd fun _ hK => wp_store_row ty x y ho g cells hx hy t old hg hi hs h1 (hK _ _ h)
theorem rulesOne : rulesV.all (·.oneCell') = true := by kernel_rfl
theorem size79 : (Tryd.prog.info? 79).map (·.size) = some 25 := by kernel_rfl
theorem size37 : (Tryd.prog.info? 37).map (·.size) = some 5 := by kernel_rfl
set_option maxHeartbeats 1600000 in
set_option maxRecDepth 100000 in
theorem rulesC (w : World) : Calls Tryd.prog 58 #[] w fun e w' => e = .returned (.agg rulesV) ∧ Below w.heap.size w w' := by
 go_enter Tryd.func58, Tryd.ntmps58
 go_wp2_with (refine gate_ (.store 79 (.tmp 0) (.tmp 6)) rfl ?_; go_must (refine wpList_store_row rfl 79 _ _ rfl w.heap.size rulesV rfl rfl 79 _ (heap_alloc_new _ _) size79 rfl rulesOne ?_))
 exact bodyPost_ret (results_cell_row (fn := Tryd.f58) rfl _ _ w.heap.size 79 rulesV (0, 0) _ rfl (setRow_heap _ _ _ _ _ _ (heap_alloc_new _ _)) Tryd.underlying79 rfl size79) rfl ⟨rfl, (zd (Below.refl _ _) _).trans ⟨rfl, rfl, rfl, by simp, fun k hk => setRow_other _ _ _ _ (Nat.ne_of_lt hk)⟩⟩
end Go.Proofs.YtmnfjbmhlabdaaaDoor.Pr
