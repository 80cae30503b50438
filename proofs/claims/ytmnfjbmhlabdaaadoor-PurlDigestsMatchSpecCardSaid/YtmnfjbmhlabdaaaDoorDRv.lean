/- What the row of the digests' law needs of the listed tables. Conditions: none. -/
import Derived.Test.YtmnfjbmhlabdaaaDoorDRw
import Derived.Test.YtmnfjbmhlabdaaaDoorDLd
namespace Go.Proofs.YtmnfjbmhlabdaaaDoor.Rw
open Go.ChangeShapes Go.WideShapes Go.ChangeAt Go.RowKit
set_option maxRecDepth 100000 in
theorem laid_met5 (os : Os) (zs : Array Value) : laidMet Tryd.prog Rows.purlDigestsMatchSpecRow.laid ((laidWorld os).forCall (fun _ _ => 0) ⟨#[], zs, []⟩).memory :=
 laidMet_of_run' 8 (by kernel_rfl) (by kernel_rfl)
def numOf1 : DataW Unit → Int
 | .lit (.int _ n) => n
 | _ => 0
def listOf1 : DataW Unit → List Int
 | .agg l => l.map numOf1
 | _ => []
theorem g64 : Tryd.prog.globalNamed "math/bits.deBruijn64tab" = some 3 := by kernel_rfl
theorem g64t : (Tryd.prog.globals[3]?).map (·.type) = some 177 := by kernel_rfl
theorem tab64 : (Rows.laid_math_bits_deBruijn64tab : DataW Unit) = Lib.tabData .u8 (listOf1 Rows.laid_math_bits_deBruijn64tab) := rfl
set_option maxRecDepth 100000 in
theorem laidW {W : World} (h : laidMetH Tryd.prog Rows.purlDigestsMatchSpecRow.laid W) : Pr.LaidW W := by
 have h : laidMet Tryd.prog Rows.purlDigestsMatchSpecRow.laid W := h
 obtain ⟨ps, h1, _, _⟩ := h
 obtain ⟨_, _, _, _, _, _, _, _, _, _, h2, _⟩ := h1
 obtain ⟨g, t, cs, fuel, p, q, hg, ht, hv, hd, h3, _⟩ := h2
 obtain rfl := Option.some.inj (g64.symm.trans hg)
 obtain rfl := Option.some.inj (g64t.symm.trans ht)
 rw [tab64] at hd
 have e := Lib.cells_of_tab Tryd.underlying177 Tryd.underlying5 (by kernel_rfl) (by kernel_rfl) hd
 have hc := World.var?_cell g64 hv 15
 have hs : cs = ((listOf1 Rows.laid_math_bits_deBruijn64tab).map fun z => Value.int .u8 z).toArray := by rw [← e]
 have hx : W.cell? ⟨3, 15, none⟩ = some (.int .u8 4) := by rw [hc, hs]; rfl
 exact ⟨hx, World.block_lt_of_cell? W ⟨3, 15, none⟩ hx⟩
end Go.Proofs.YtmnfjbmhlabdaaaDoor.Rw
