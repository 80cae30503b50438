/-
 DERIVED: THE SHELF's CONTRACTS AT THIS DUMP, IN PLAIN WORDS (tools/lay-plain.mjs out of 'TrydShelf.lean', which tools/lay-shelf.mjs wrote): THE SAME DECLARATIONS UNDER THE SAME NAMES: 'import', 'namespace', 'open', 'def', 'theorem' AND NOTHING ELSE: no command of the shelf's: FOR A HAND-IN. Each laying: the table of numbers ('.._ren') and one theorem, a field a fact of the dump's own or the kernel's comparison; each contract: ONE APPLICATION.
-/
import Derived.Shelf.Strings.Builder1
import Derived.Shelf.Strings.Builder2
import Derived.Shelf.Strings.OnBuilder
import Derived.Shelf.Small.Strs
import Derived.Shelf.Strings.BuilderF
import Derived.Shelf.Strings.BuilderK
import Derived.Shelf.Strings.Builder2Cap
import Derived.Shelf.Strconv.Itoa0
import Derived.Shelf.Strconv.Itoa1
import Derived.Shelf.LaysM
import Derived.Shelf.Strconv.Itoa2
import Derived.Shelf.Strings.Search1
import Derived.Shelf.Strings.Search2
import Derived.Shelf.Strings.Search3
import Derived.Shelf.Strings.Count
import Derived.Shelf.Strings.Shaped
import Derived.Shelf.Strings.Prefix
import Derived.Shelf.Strings.Split
import Derived.Shelf.Bits.Mul64
import Derived.Shelf.Strings.Repeat
import Derived.Shelf.Unicode.DecodeSlow
import Derived.Shelf.Strings.BuilderCap
import Derived.Test.YtmnfjbmhlabdaaaDoorProg
namespace Go.Proofs
open Go.Shelf
def Tryd.lays169_ren : Go.Shelf.Ren := ⟨fun | 169 => 89 | n => n, fun | 70 => 115 | 9 => 9 | 0 => 0 | 72 => 117 | 37 => 110 | 127 => 140 | 3 => 3 | 5 => 5 | n => n, fun | n => n⟩
theorem Tryd.lays169 : Go.Proofs.Lays.n169 Tryd.prog Tryd.lays169_ren := {
 mixed := by kernel_rfl
 f169 := Tryd.func89.trans (congrArg some (by kernel_rfl))
 t0 := Tryd.underlying0
 a0 := Tryd.isAgg0
 z0 := Tryd.sizeOf0
 v0 := Tryd.zeroValue0
 t3 := Tryd.underlying3
 a3 := Tryd.isAgg3
 z3 := Tryd.sizeOf3
 v3 := Tryd.zeroValue3
 t9 := Tryd.underlying9
 a9 := Tryd.isAgg9
 z9 := Tryd.sizeOf9
 v9 := Tryd.zeroValue9
 t37 := Tryd.underlying110
 a37 := Tryd.isAgg110
 z37 := Tryd.sizeOf110
 v37 := Tryd.zeroValue110
 t70 := Tryd.underlying115
 a70 := Tryd.isAgg115
 z70 := Tryd.sizeOf115
 v70 := Tryd.zeroValue115
 t72 := Tryd.underlying117
 a72 := Tryd.isAgg117
 z72 := Tryd.sizeOf117
 v72 := Tryd.zeroValue117
 t127 := Tryd.underlying140
 a127 := Tryd.isAgg140
 z127 := Tryd.sizeOf140
 v127 := Tryd.zeroValue140 }
theorem Tryd.Builder_Extra_169 : Builder.Extra Tryd.prog Tryd.lays169_ren := {
 sizeBuilder := by kernel_rfl
 liesBuilder := by kernel_rfl
 t5 := Tryd.underlying5
 a5 := Tryd.isAgg5
 z5 := Tryd.sizeOf5
 v5 := Tryd.zeroValue5
 infoByte := by kernel_rfl
 cellsByte := by kernel_rfl
 sizeByte := by kernel_rfl
 neB5 := by decide }
open Go.RowKit in
theorem Tryd.Builder_String_any (B b : Nat) (l : List UInt8) (w : World) (h : Lib.IsBuilder 117 5 B b (Lib.byteCells l) w) (hBw : B ≤ w.heap.size) :
  Calls Tryd.prog 89 #[.pointer (some ⟨b, 0, none⟩)] w fun e w' => e = .returned (.string ⟨l.toArray⟩) ∧ Below B w w' := Any.Builder_String_any Tryd.lays169 Tryd.Builder_Extra_169 B b l w h hBw
def Tryd.lays156_ren : Go.Shelf.Ren := ⟨fun | 156 => 40 | 165 => 87 | 166 => 88 | 169 => 89 | 240 => 121 | 241 => 122 | 276 => 142 | 277 => 143 | n => n, fun | 31 => 41 | 9 => 9 | 3 => 3 | 4 => 4 | 0 => 0 | 20 => 20 | 72 => 117 | 76 => 121 | 70 => 115 | 37 => 110 | 75 => 120 | 127 => 140 | 164 => 161 | 5 => 5 | 80 => 60 | n => n, fun | n => n⟩
theorem Tryd.lays156 : Go.Proofs.Lays.n156 Tryd.prog Tryd.lays156_ren := {
 mixed := by kernel_rfl
 f156 := Tryd.func40.trans (congrArg some (by kernel_rfl))
 f165 := Tryd.func87.trans (congrArg some (by kernel_rfl))
 f166 := Tryd.func88.trans (congrArg some (by kernel_rfl))
 f169 := Tryd.func89.trans (congrArg some (by kernel_rfl))
 f240 := Tryd.func121.trans (congrArg some (by kernel_rfl))
 f241 := Tryd.func122.trans (congrArg some (by kernel_rfl))
 f276 := Tryd.func142.trans (congrArg some (by kernel_rfl))
 f277 := Tryd.func143.trans (congrArg some (by kernel_rfl))
 t0 := Tryd.underlying0
 a0 := Tryd.isAgg0
 z0 := Tryd.sizeOf0
 v0 := Tryd.zeroValue0
 t3 := Tryd.underlying3
 a3 := Tryd.isAgg3
 z3 := Tryd.sizeOf3
 v3 := Tryd.zeroValue3
 t4 := Tryd.underlying4
 a4 := Tryd.isAgg4
 z4 := Tryd.sizeOf4
 v4 := Tryd.zeroValue4
 t9 := Tryd.underlying9
 a9 := Tryd.isAgg9
 z9 := Tryd.sizeOf9
 v9 := Tryd.zeroValue9
 t20 := Tryd.underlying20
 a20 := Tryd.isAgg20
 z20 := Tryd.sizeOf20
 v20 := Tryd.zeroValue20
 t31 := Tryd.underlying41
 a31 := Tryd.isAgg41
 z31 := Tryd.sizeOf41
 v31 := Tryd.zeroValue41
 t37 := Tryd.underlying110
 a37 := Tryd.isAgg110
 z37 := Tryd.sizeOf110
 v37 := Tryd.zeroValue110
 t70 := Tryd.underlying115
 a70 := Tryd.isAgg115
 z70 := Tryd.sizeOf115
 v70 := Tryd.zeroValue115
 t72 := Tryd.underlying117
 a72 := Tryd.isAgg117
 z72 := Tryd.sizeOf117
 v72 := Tryd.zeroValue117
 t75 := Tryd.underlying120
 a75 := Tryd.isAgg120
 z75 := Tryd.sizeOf120
 v75 := Tryd.zeroValue120
 t76 := Tryd.underlying121
 a76 := Tryd.isAgg121
 z76 := Tryd.sizeOf121
 v76 := Tryd.zeroValue121
 t127 := Tryd.underlying140
 a127 := Tryd.isAgg140
 z127 := Tryd.sizeOf140
 v127 := Tryd.zeroValue140
 t164 := Tryd.underlying161
 a164 := Tryd.isAgg161
 z164 := Tryd.sizeOf161
 v164 := Tryd.zeroValue161 }
theorem Tryd.Builder_Extra_156 : Builder.Extra Tryd.prog Tryd.lays156_ren := {
 sizeBuilder := by kernel_rfl
 liesBuilder := by kernel_rfl
 t5 := Tryd.underlying5
 a5 := Tryd.isAgg5
 z5 := Tryd.sizeOf5
 v5 := Tryd.zeroValue5
 infoByte := by kernel_rfl
 cellsByte := by kernel_rfl
 sizeByte := by kernel_rfl
 neB5 := by decide }
open Go.RowKit in
theorem Tryd.strings_Join_none (a : Option Addr) (c : Nat) (sep : ByteArray) (w : World) :
  Calls Tryd.prog 40 #[.slice a 0 c, .string sep] w fun e w' => e = .returned (.string ⟨#[]⟩) ∧ w' = w := Any.strings_Join_none Tryd.lays156 Tryd.Builder_Extra_156 a c sep w
open Go.RowKit in
theorem Tryd.strings_Join (bk o c : Nat) (xs : List ByteArray) (sep : ByteArray) (w : World) (hcells : ∀ (j : Nat) x, xs[j]? = some x → w.cell? ⟨bk, o + j, none⟩ = some (.string x)) (hbk : bk < w.heap.size) (hN : xs.length ≤ 140737488355328) (hcap : xs.length ≤ c) (hlen : (Lib.join (xs.map (·.data.toList)) sep.data.toList).length ≤ 140737488355328) :
  Calls Tryd.prog 40 #[.slice (some ⟨bk, o, none⟩) xs.length c, .string sep] w fun e w' => e = .returned (.string ⟨(Lib.join (xs.map (·.data.toList)) sep.data.toList).toArray⟩) ∧ Below w.heap.size w w' := Any.strings_Join Tryd.lays156 Tryd.Builder_Extra_156 bk o c xs sep w hcells hbk hN hcap hlen
def Tryd.lays137_ren : Go.Shelf.Ren := ⟨fun | 137 => 69 | 217 => 109 | 266 => 131 | n => n, fun | 9 => 9 | 5 => 5 | 3 => 3 | n => n, fun | n => n⟩
theorem Tryd.lays137 : Go.Proofs.Lays.n137 Tryd.prog Tryd.lays137_ren := {
 mixed := by kernel_rfl
 f137 := Tryd.func69.trans (congrArg some (by kernel_rfl))
 f217 := Tryd.func109.trans (congrArg some (by kernel_rfl))
 f266 := Tryd.func131.trans (congrArg some (by kernel_rfl))
 t3 := Tryd.underlying3
 a3 := Tryd.isAgg3
 z3 := Tryd.sizeOf3
 v3 := Tryd.zeroValue3
 t5 := Tryd.underlying5
 a5 := Tryd.isAgg5
 z5 := Tryd.sizeOf5
 v5 := Tryd.zeroValue5
 t9 := Tryd.underlying9
 a9 := Tryd.isAgg9
 z9 := Tryd.sizeOf9
 v9 := Tryd.zeroValue9 }
open Go.RowKit in
theorem Tryd.strings_IndexByte (s : ByteArray) (c : Int) (w : World) :
  Calls Tryd.prog 69 #[.string s, .int .u8 c] w fun e w' => e = .returned (.int .i64 (Lib.indexByte s.data.toList c.toNat.toUInt8)) ∧ w' = w := Any.strings_IndexByte Tryd.lays137 s c w
def Tryd.lays143_ren : Go.Shelf.Ren := ⟨fun | 143 => 107 | 219 => 129 | 217 => 109 | 225 => 145 | 224 => 146 | 267 => 147 | 266 => 131 | 314 => 157 | n => n, fun | 9 => 9 | 3 => 3 | 4 => 4 | 5 => 5 | 46 => 129 | 146 => 157 | 51 => 156 | n => n, fun | 1 => 0 | n => n⟩
theorem Tryd.lays143 : Go.Proofs.Lays.n143 Tryd.prog Tryd.lays143_ren := {
 mixed := by kernel_rfl
 f143 := Tryd.func107.trans (congrArg some (by kernel_rfl))
 f217 := Tryd.func109.trans (congrArg some (by kernel_rfl))
 f219 := Tryd.func129.trans (congrArg some (by kernel_rfl))
 f224 := Tryd.func146.trans (congrArg some (by kernel_rfl))
 f225 := Tryd.func145.trans (congrArg some (by kernel_rfl))
 f266 := Tryd.func131.trans (congrArg some (by kernel_rfl))
 f267 := Tryd.func147.trans (congrArg some (by kernel_rfl))
 f314 := Tryd.func157.trans (congrArg some (by kernel_rfl))
 t3 := Tryd.underlying3
 a3 := Tryd.isAgg3
 z3 := Tryd.sizeOf3
 v3 := Tryd.zeroValue3
 t4 := Tryd.underlying4
 a4 := Tryd.isAgg4
 z4 := Tryd.sizeOf4
 v4 := Tryd.zeroValue4
 t5 := Tryd.underlying5
 a5 := Tryd.isAgg5
 z5 := Tryd.sizeOf5
 v5 := Tryd.zeroValue5
 t9 := Tryd.underlying9
 a9 := Tryd.isAgg9
 z9 := Tryd.sizeOf9
 v9 := Tryd.zeroValue9
 t46 := Tryd.underlying129
 a46 := Tryd.isAgg129
 z46 := Tryd.sizeOf129
 v46 := Tryd.zeroValue129
 t51 := Tryd.underlying156
 a51 := Tryd.isAgg156
 z51 := Tryd.sizeOf156
 v51 := Tryd.zeroValue156
 t146 := Tryd.underlying157
 a146 := Tryd.isAgg157
 z146 := Tryd.sizeOf157
 v146 := Tryd.zeroValue157
 g1 := by kernel_rfl }
open Go.RowKit Go.Lib in
theorem Tryd.strings_Index_one (s : ByteArray) (c : UInt8) (w : World) :
  Calls Tryd.prog 107 #[.string s, .string ⟨#[c]⟩] w fun e w' => e = .returned (.int .i64 (Lib.indexByte s.data.toList c)) ∧ w' = w := Any.strings_Index_one Tryd.lays143 s c w
def Tryd.lays144_ren : Go.Shelf.Ren := ⟨fun | 144 => 63 | 143 => 107 | 219 => 129 | 217 => 109 | 225 => 145 | 224 => 146 | 267 => 147 | 266 => 131 | 314 => 157 | n => n, fun | 9 => 9 | 4 => 4 | 3 => 3 | 5 => 5 | 46 => 129 | 146 => 157 | 51 => 156 | n => n, fun | 1 => 0 | n => n⟩
theorem Tryd.lays144 : Go.Proofs.Lays.n144 Tryd.prog Tryd.lays144_ren := {
 mixed := by kernel_rfl
 f143 := Tryd.func107.trans (congrArg some (by kernel_rfl))
 f144 := Tryd.func63.trans (congrArg some (by kernel_rfl))
 f217 := Tryd.func109.trans (congrArg some (by kernel_rfl))
 f219 := Tryd.func129.trans (congrArg some (by kernel_rfl))
 f224 := Tryd.func146.trans (congrArg some (by kernel_rfl))
 f225 := Tryd.func145.trans (congrArg some (by kernel_rfl))
 f266 := Tryd.func131.trans (congrArg some (by kernel_rfl))
 f267 := Tryd.func147.trans (congrArg some (by kernel_rfl))
 f314 := Tryd.func157.trans (congrArg some (by kernel_rfl))
 t3 := Tryd.underlying3
 a3 := Tryd.isAgg3
 z3 := Tryd.sizeOf3
 v3 := Tryd.zeroValue3
 t4 := Tryd.underlying4
 a4 := Tryd.isAgg4
 z4 := Tryd.sizeOf4
 v4 := Tryd.zeroValue4
 t5 := Tryd.underlying5
 a5 := Tryd.isAgg5
 z5 := Tryd.sizeOf5
 v5 := Tryd.zeroValue5
 t9 := Tryd.underlying9
 a9 := Tryd.isAgg9
 z9 := Tryd.sizeOf9
 v9 := Tryd.zeroValue9
 t46 := Tryd.underlying129
 a46 := Tryd.isAgg129
 z46 := Tryd.sizeOf129
 v46 := Tryd.zeroValue129
 t51 := Tryd.underlying156
 a51 := Tryd.isAgg156
 z51 := Tryd.sizeOf156
 v51 := Tryd.zeroValue156
 t146 := Tryd.underlying157
 a146 := Tryd.isAgg157
 z146 := Tryd.sizeOf157
 v146 := Tryd.zeroValue157
 g1 := by kernel_rfl }
open Go.RowKit Go.Lib in
theorem Tryd.strings_Contains_one (s : ByteArray) (c : UInt8) (w : World) :
  Calls Tryd.prog 63 #[.string s, .string ⟨#[c]⟩] w fun e w' => e = .returned (.bool (decide (0 ≤ Lib.indexByte s.data.toList c))) ∧ w' = w := Any.strings_Contains_one Tryd.lays144 s c w
def Tryd.lays138_ren : Go.Shelf.Ren := ⟨fun | 138 => 149 | 195 => 158 | 218 => 160 | 143 => 107 | 219 => 129 | 217 => 109 | 225 => 145 | 224 => 146 | 267 => 147 | 266 => 131 | 314 => 157 | n => n, fun | 9 => 9 | 3 => 3 | 4 => 4 | 5 => 5 | 0 => 0 | 46 => 129 | 146 => 157 | 51 => 156 | n => n, fun | 1 => 0 | n => n⟩
theorem Tryd.lays138 : Go.Proofs.Lays.n138 Tryd.prog Tryd.lays138_ren := {
 mixed := by kernel_rfl
 f138 := Tryd.func149.trans (congrArg some (by kernel_rfl))
 f143 := Tryd.func107.trans (congrArg some (by kernel_rfl))
 f195 := Tryd.func158.trans (congrArg some (by kernel_rfl))
 f217 := Tryd.func109.trans (congrArg some (by kernel_rfl))
 f218 := Tryd.func160.trans (congrArg some (by kernel_rfl))
 f219 := Tryd.func129.trans (congrArg some (by kernel_rfl))
 f224 := Tryd.func146.trans (congrArg some (by kernel_rfl))
 f225 := Tryd.func145.trans (congrArg some (by kernel_rfl))
 f266 := Tryd.func131.trans (congrArg some (by kernel_rfl))
 f267 := Tryd.func147.trans (congrArg some (by kernel_rfl))
 f314 := Tryd.func157.trans (congrArg some (by kernel_rfl))
 t0 := Tryd.underlying0
 a0 := Tryd.isAgg0
 z0 := Tryd.sizeOf0
 v0 := Tryd.zeroValue0
 t3 := Tryd.underlying3
 a3 := Tryd.isAgg3
 z3 := Tryd.sizeOf3
 v3 := Tryd.zeroValue3
 t4 := Tryd.underlying4
 a4 := Tryd.isAgg4
 z4 := Tryd.sizeOf4
 v4 := Tryd.zeroValue4
 t5 := Tryd.underlying5
 a5 := Tryd.isAgg5
 z5 := Tryd.sizeOf5
 v5 := Tryd.zeroValue5
 t9 := Tryd.underlying9
 a9 := Tryd.isAgg9
 z9 := Tryd.sizeOf9
 v9 := Tryd.zeroValue9
 t46 := Tryd.underlying129
 a46 := Tryd.isAgg129
 z46 := Tryd.sizeOf129
 v46 := Tryd.zeroValue129
 t51 := Tryd.underlying156
 a51 := Tryd.isAgg156
 z51 := Tryd.sizeOf156
 v51 := Tryd.zeroValue156
 t146 := Tryd.underlying157
 a146 := Tryd.isAgg157
 z146 := Tryd.sizeOf157
 v146 := Tryd.zeroValue157
 g1 := by kernel_rfl }
open Go.RowKit Go.Lib in
theorem Tryd.strings_Count_one (s : ByteArray) (c : UInt8) (w : World) :
  Calls Tryd.prog 149 #[.string s, .string ⟨#[c]⟩] w fun e w' => e = .returned (.int .i64 (Lib.countByte s.data.toList c)) ∧ w' = w := Any.strings_Count_one Tryd.lays138 s c w
def Tryd.lays221_ren : Go.Shelf.Ren := ⟨fun | 221 => 130 | 268 => 148 | 138 => 149 | 143 => 107 | 195 => 158 | 197 => 159 | 218 => 160 | 219 => 129 | 260 => 163 | 217 => 109 | 225 => 145 | 224 => 146 | 267 => 147 | 266 => 131 | 314 => 157 | n => n, fun | 9 => 9 | 3 => 3 | 31 => 41 | 4 => 4 | 0 => 0 | 105 => 173 | 21 => 21 | 5 => 5 | 46 => 129 | 119 => 178 | 139 => 181 | 138 => 180 | 146 => 157 | 51 => 156 | n => n, fun | 1 => 0 | 3 => 4 | 4 => 5 | n => n⟩
theorem Tryd.lays221 : Go.Proofs.Lays.n221 Tryd.prog Tryd.lays221_ren := {
 mixed := by kernel_rfl
 f138 := Tryd.func149.trans (congrArg some (by kernel_rfl))
 f143 := Tryd.func107.trans (congrArg some (by kernel_rfl))
 f195 := Tryd.func158.trans (congrArg some (by kernel_rfl))
 f197 := Tryd.func159.trans (congrArg some (by kernel_rfl))
 f217 := Tryd.func109.trans (congrArg some (by kernel_rfl))
 f218 := Tryd.func160.trans (congrArg some (by kernel_rfl))
 f219 := Tryd.func129.trans (congrArg some (by kernel_rfl))
 f221 := Tryd.func130.trans (congrArg some (by kernel_rfl))
 f224 := Tryd.func146.trans (congrArg some (by kernel_rfl))
 f225 := Tryd.func145.trans (congrArg some (by kernel_rfl))
 f260 := Tryd.func163.trans (congrArg some (by kernel_rfl))
 f266 := Tryd.func131.trans (congrArg some (by kernel_rfl))
 f267 := Tryd.func147.trans (congrArg some (by kernel_rfl))
 f268 := Tryd.func148.trans (congrArg some (by kernel_rfl))
 f314 := Tryd.func157.trans (congrArg some (by kernel_rfl))
 t0 := Tryd.underlying0
 a0 := Tryd.isAgg0
 z0 := Tryd.sizeOf0
 v0 := Tryd.zeroValue0
 t3 := Tryd.underlying3
 a3 := Tryd.isAgg3
 z3 := Tryd.sizeOf3
 v3 := Tryd.zeroValue3
 t4 := Tryd.underlying4
 a4 := Tryd.isAgg4
 z4 := Tryd.sizeOf4
 v4 := Tryd.zeroValue4
 t5 := Tryd.underlying5
 a5 := Tryd.isAgg5
 z5 := Tryd.sizeOf5
 v5 := Tryd.zeroValue5
 t9 := Tryd.underlying9
 a9 := Tryd.isAgg9
 z9 := Tryd.sizeOf9
 v9 := Tryd.zeroValue9
 t21 := Tryd.underlying21
 a21 := Tryd.isAgg21
 z21 := Tryd.sizeOf21
 v21 := Tryd.zeroValue21
 t31 := Tryd.underlying41
 a31 := Tryd.isAgg41
 z31 := Tryd.sizeOf41
 v31 := Tryd.zeroValue41
 t46 := Tryd.underlying129
 a46 := Tryd.isAgg129
 z46 := Tryd.sizeOf129
 v46 := Tryd.zeroValue129
 t51 := Tryd.underlying156
 a51 := Tryd.isAgg156
 z51 := Tryd.sizeOf156
 v51 := Tryd.zeroValue156
 t105 := Tryd.underlying173
 a105 := Tryd.isAgg173
 z105 := Tryd.sizeOf173
 v105 := Tryd.zeroValue173
 t119 := Tryd.underlying178
 a119 := Tryd.isAgg178
 z119 := Tryd.sizeOf178
 t138 := Tryd.underlying180
 a138 := Tryd.isAgg180
 z138 := Tryd.sizeOf180
 v138 := Tryd.zeroValue180
 t139 := Tryd.underlying181
 a139 := Tryd.isAgg181
 z139 := Tryd.sizeOf181
 v139 := Tryd.zeroValue181
 t146 := Tryd.underlying157
 a146 := Tryd.isAgg157
 z146 := Tryd.sizeOf157
 v146 := Tryd.zeroValue157
 g1 := by kernel_rfl
 g3 := by kernel_rfl
 g4 := by kernel_rfl }
def Tryd.laysB_ren : Go.Shelf.Ren := ⟨fun | 156 => 40 | 167 => 103 | 165 => 87 | 166 => 88 | 169 => 89 | 240 => 121 | 241 => 122 | 276 => 142 | 277 => 143 | n => n, fun | 31 => 41 | 9 => 9 | 3 => 3 | 4 => 4 | 0 => 0 | 20 => 20 | 72 => 117 | 76 => 121 | 70 => 115 | 37 => 110 | 75 => 120 | 127 => 140 | 164 => 161 | 5 => 5 | 80 => 60 | n => n, fun | n => n⟩
theorem Tryd.lays166b : Go.Proofs.Lays.n166 Tryd.prog Tryd.laysB_ren := {
 mixed := by kernel_rfl
 f166 := Tryd.func88.trans (congrArg some (by kernel_rfl))
 f240 := Tryd.func121.trans (congrArg some (by kernel_rfl))
 f276 := Tryd.func142.trans (congrArg some (by kernel_rfl))
 t0 := Tryd.underlying0
 a0 := Tryd.isAgg0
 z0 := Tryd.sizeOf0
 v0 := Tryd.zeroValue0
 t3 := Tryd.underlying3
 a3 := Tryd.isAgg3
 z3 := Tryd.sizeOf3
 v3 := Tryd.zeroValue3
 t4 := Tryd.underlying4
 a4 := Tryd.isAgg4
 z4 := Tryd.sizeOf4
 v4 := Tryd.zeroValue4
 t9 := Tryd.underlying9
 a9 := Tryd.isAgg9
 z9 := Tryd.sizeOf9
 v9 := Tryd.zeroValue9
 t20 := Tryd.underlying20
 a20 := Tryd.isAgg20
 z20 := Tryd.sizeOf20
 v20 := Tryd.zeroValue20
 t37 := Tryd.underlying110
 a37 := Tryd.isAgg110
 z37 := Tryd.sizeOf110
 v37 := Tryd.zeroValue110
 t70 := Tryd.underlying115
 a70 := Tryd.isAgg115
 z70 := Tryd.sizeOf115
 v70 := Tryd.zeroValue115
 t72 := Tryd.underlying117
 a72 := Tryd.isAgg117
 z72 := Tryd.sizeOf117
 v72 := Tryd.zeroValue117
 t75 := Tryd.underlying120
 a75 := Tryd.isAgg120
 z75 := Tryd.sizeOf120
 v75 := Tryd.zeroValue120
 t164 := Tryd.underlying161
 a164 := Tryd.isAgg161
 z164 := Tryd.sizeOf161
 v164 := Tryd.zeroValue161 }
theorem Tryd.lays167b : Go.Proofs.Lays.n167 Tryd.prog Tryd.laysB_ren := {
 mixed := by kernel_rfl
 f167 := Tryd.func103.trans (congrArg some (by kernel_rfl))
 f240 := Tryd.func121.trans (congrArg some (by kernel_rfl))
 f276 := Tryd.func142.trans (congrArg some (by kernel_rfl))
 t0 := Tryd.underlying0
 a0 := Tryd.isAgg0
 z0 := Tryd.sizeOf0
 v0 := Tryd.zeroValue0
 t4 := Tryd.underlying4
 a4 := Tryd.isAgg4
 z4 := Tryd.sizeOf4
 v4 := Tryd.zeroValue4
 t5 := Tryd.underlying5
 a5 := Tryd.isAgg5
 z5 := Tryd.sizeOf5
 v5 := Tryd.zeroValue5
 t9 := Tryd.underlying9
 a9 := Tryd.isAgg9
 z9 := Tryd.sizeOf9
 v9 := Tryd.zeroValue9
 t20 := Tryd.underlying20
 a20 := Tryd.isAgg20
 z20 := Tryd.sizeOf20
 v20 := Tryd.zeroValue20
 t37 := Tryd.underlying110
 a37 := Tryd.isAgg110
 z37 := Tryd.sizeOf110
 v37 := Tryd.zeroValue110
 t70 := Tryd.underlying115
 a70 := Tryd.isAgg115
 z70 := Tryd.sizeOf115
 v70 := Tryd.zeroValue115
 t72 := Tryd.underlying117
 a72 := Tryd.isAgg117
 z72 := Tryd.sizeOf117
 v72 := Tryd.zeroValue117
 t75 := Tryd.underlying120
 a75 := Tryd.isAgg120
 z75 := Tryd.sizeOf120
 v75 := Tryd.zeroValue120
 t164 := Tryd.underlying161
 a164 := Tryd.isAgg161
 z164 := Tryd.sizeOf161
 v164 := Tryd.zeroValue161 }
theorem Tryd.lays169b : Go.Proofs.Lays.n169 Tryd.prog Tryd.laysB_ren := {
 mixed := by kernel_rfl
 f169 := Tryd.func89.trans (congrArg some (by kernel_rfl))
 t0 := Tryd.underlying0
 a0 := Tryd.isAgg0
 z0 := Tryd.sizeOf0
 v0 := Tryd.zeroValue0
 t3 := Tryd.underlying3
 a3 := Tryd.isAgg3
 z3 := Tryd.sizeOf3
 v3 := Tryd.zeroValue3
 t9 := Tryd.underlying9
 a9 := Tryd.isAgg9
 z9 := Tryd.sizeOf9
 v9 := Tryd.zeroValue9
 t37 := Tryd.underlying110
 a37 := Tryd.isAgg110
 z37 := Tryd.sizeOf110
 v37 := Tryd.zeroValue110
 t70 := Tryd.underlying115
 a70 := Tryd.isAgg115
 z70 := Tryd.sizeOf115
 v70 := Tryd.zeroValue115
 t72 := Tryd.underlying117
 a72 := Tryd.isAgg117
 z72 := Tryd.sizeOf117
 v72 := Tryd.zeroValue117
 t127 := Tryd.underlying140
 a127 := Tryd.isAgg140
 z127 := Tryd.sizeOf140
 v127 := Tryd.zeroValue140 }
theorem Tryd.Builder_Extra_B : Builder.Extra Tryd.prog Tryd.laysB_ren := {
 sizeBuilder := by kernel_rfl
 liesBuilder := by kernel_rfl
 t5 := Tryd.underlying5
 a5 := Tryd.isAgg5
 z5 := Tryd.sizeOf5
 v5 := Tryd.zeroValue5
 infoByte := by kernel_rfl
 cellsByte := by kernel_rfl
 sizeByte := by kernel_rfl
 neB5 := by decide }
open Go.RowKit in
theorem Tryd.bWriteByte (B b : Nat) (bs : List Value) (c : Int) (w : World) (h : Lib.IsBuilder 117 5 B b bs w) (hlen : bs.length + 1 ≤ 140737488355328) (hBw : B ≤ w.heap.size) :
  Calls Tryd.prog 103 #[.pointer (some ⟨b, 0, none⟩), .int .u8 c] w fun e w' => e = .returned .nilIface ∧ (Lib.BuilderAt 117 5 B b (.pointer (some ⟨b, 0, none⟩)) (bs ++ [.int .u8 c]) w' ∧ Below B w w') := Any.Builder_WriteByte Tryd.lays167b Tryd.Builder_Extra_B B b bs c w h hlen hBw
open Go.RowKit in
theorem Tryd.bWriteString (B b : Nat) (bs : List Value) (s : ByteArray) (w : World) (h : Lib.IsBuilder 117 5 B b bs w) (hlen : bs.length + s.size ≤ 140737488355328) (hBw : B ≤ w.heap.size) :
  Calls Tryd.prog 88 #[.pointer (some ⟨b, 0, none⟩), .string s] w fun e w' => e = .returned (.tuple #[.int .i64 s.size, .nilIface]) ∧ (Lib.BuilderAt 117 5 B b (.pointer (some ⟨b, 0, none⟩)) (bs ++ Lib.strCells s) w' ∧ Below B w w') := Any.Builder_WriteString Tryd.lays166b Tryd.Builder_Extra_B B b bs s w h hlen hBw
open Go.RowKit in
theorem Tryd.bString (B b : Nat) (l : List UInt8) (w : World) (h : Lib.IsBuilder 117 5 B b (Lib.byteCells l) w) (hBw : B ≤ w.heap.size) :
  Calls Tryd.prog 89 #[.pointer (some ⟨b, 0, none⟩)] w fun e w' => e = .returned (.string ⟨l.toArray⟩) ∧ Below B w w' := Any.Builder_String_any Tryd.lays169b Tryd.Builder_Extra_B B b l w h hBw
end Go.Proofs
