/- purl.Sum64: the call answers what its Lean function says. Conditions: the tables of Go's library lie in memory as laid (LaidW). -/
import Derived.Test.YtmnfjbmhlabdaaaDoorDXa
import Derived.Test.YtmnfjbmhlabdaaaDoorProg
import Derived.Test.YtmnfjbmhlabdaaaDoorDW
import Derived.WalkKit
import Derived.Deep.LoopGhost
import Derived.Laws.Tables
import Derived.Laws.BitsLemmas
import Derived.Laws.Bits64
import Derived.Lib.ConvBytes
import Derived.Shelf.Strconv.Itoa3
import Derived.Test.YtmnfjbmhlabdaaaDoorDSh
import Derived.Test.YtmnfjbmhlabdaaaDoorDLd
namespace Go.Proofs.YtmnfjbmhlabdaaaDoor.Pr
open Go.RowKit Go.Proofs.YtmnfjbmhlabdaaaDoorW.PrintWords Go.Proofs.YtmnfjbmhlabdaaaDoorW.PrintLast Go.Proofs.YtmnfjbmhlabdaaaDoorW.PrintMore
set_option maxHeartbeats 800000 in
theorem tz64 (w : World) (hc : w.cell? ⟨3, 15, none⟩ = some (.int .u8 4)) : Calls Tryd.prog 162 #[.int .u64 16] w fun e w' => e = .returned (.int .i64 4) ∧ w = w' := by
 have hE : IntKind.u64.wrap (bits BinOp.and IntKind.u64 16 (IntKind.u64.wrap (-16)) * 285870213051353865) / 288230376151711744 = 15 := by decide +kernel
 go_enter Tryd.func162, Tryd.ntmps162
 go_wp2
 go_ret
 exact ⟨rfl, rfl⟩
set_option maxHeartbeats 800000 in
theorem tz (w : World) (hc : w.cell? ⟨3, 15, none⟩ = some (.int .u8 4)) : Calls Tryd.prog 155 #[.int .u64 16] w fun e w' => e = .returned (.int .i64 4) ∧ w = w' := by
 go_enter Tryd.func155, Tryd.ntmps155
 go_wp2_with (go_at_call 162; refine (tz64 _ hc).mono ?_; rintro e w' ⟨rfl, rfl⟩)
 go_ret
 exact ⟨rfl, rfl⟩
set_option maxHeartbeats 800000 in
theorem ipow (w : World) : Calls Tryd.prog 154 #[.int .i64 16] w fun e w' => e = .returned (.bool true) ∧ w = w' := by
 have hE : bits BinOp.and IntKind.i64 16 15 = 0 := by decide +kernel
 go_enter Tryd.func154, Tryd.ntmps154
 go_wp2
 go_ret
 exact ⟨rfl, rfl⟩
def hexDig (n : Nat) : UInt8 := ([48, 49, 50, 51, 52, 53, 54, 55, 56, 57, 97, 98, 99, 100, 101, 102] : List UInt8).getD n 0
/-- The lowest j digits of U. -/
def lowD (U : Nat) : Nat → List UInt8
 | 0 => []
 | j + 1 => hexDig (U / 16 ^ j % 16) :: lowD U j
theorem lowD_length (U : Nat) : ∀ j, (lowD U j).length = j
 | 0 => rfl
 | j + 1 => by simp [lowD, lowD_length U j]
theorem u64_and15 (n : Nat) (h : n < 18446744073709551616) : bits .and .u64 (n : Int) 15 = ((n % 16 : Nat) : Int) := by
 have := bits_mask .u64 64 (by decide) (fun n h0 h1 => by rw [IntKind.wrap_u64]; omega) 4 (by decide) (n : Int) (by omega) (by omega)
 simpa using this
theorem dig_get (n : Nat) (h : n < 16) (h' : n < (⟨#[48, 49, 50, 51, 52, 53, 54, 55, 56, 57, 97, 98, 99, 100, 101, 102, 103, 104, 105, 106, 107, 108, 109, 110, 111, 112, 113, 114, 115, 116, 117, 118, 119, 120, 121, 122]⟩ : ByteArray).size) : (⟨#[48, 49, 50, 51, 52, 53, 54, 55, 56, 57, 97, 98, 99, 100, 101, 102, 103, 104, 105, 106, 107, 108, 109, 110, 111, 112, 113, 114, 115, 116, 117, 118, 119, 120, 121, 122]⟩ : ByteArray)[n]'h' = hexDig n := by
 have hall : ∀ i : Fin 16, (⟨#[48, 49, 50, 51, 52, 53, 54, 55, 56, 57, 97, 98, 99, 100, 101, 102, 103, 104, 105, 106, 107, 108, 109, 110, 111, 112, 113, 114, 115, 116, 117, 118, 119, 120, 121, 122]⟩ : ByteArray)[i.1]'(Nat.lt_of_lt_of_le i.2 (by decide)) = hexDig i.1 := by decide +kernel
 exact hall ⟨n, h⟩
theorem drop_put (cs : Array Value) (hs : cs.size = 65) (j : Nat) (hj : j ≤ 64) (v : Value) : (cs.setIfInBounds (64 - j) v).toList.drop (65 - (j + 1)) = v :: cs.toList.drop (65 - j) := by
 have hl : cs.toList.length = 65 := by simpa using hs
 rw [Array.toList_setIfInBounds, show 65 - (j + 1) = 64 - j by omega, List.drop_eq_getElem_cons (by rw [List.length_set, hl]; omega), List.getElem_set_self, List.drop_set]
 rw [if_pos (by omega), show 64 - j + 1 = 65 - j by omega]
theorem add_at (g o i : Nat) : (⟨g, o, none⟩ : Addr).add i = ⟨g, o + i, none⟩ := by unfold Addr.add; split <;> simp_all
def zero65 : Array Value := Array.replicate 65 (.int .u8 0)
def FbPost (U : Nat) (w : World) (e : Ending) (w' : World) : Prop := ∃ n, e = .returned (.tuple #[.slice none 0 0, .string ⟨(lowD U n).toArray⟩]) ∧ 1 ≤ n ∧ n ≤ 16 ∧ U / 16 ^ n = 0 ∧ Below w.heap.size w w'
set_option maxHeartbeats 1600000 in
set_option maxRecDepth 100000 in
theorem fbits (U : Nat) (hU : U < 18446744073709551616) (w : World) (hc : w.cell? ⟨3, 15, none⟩ = some (.int .u8 4)) (h3 : 3 < w.heap.size) :
  Calls Tryd.prog 138 #[.slice none 0 0, .int .u64 U, .int .i64 16, .bool false, .bool false] w (FbPost U w) := by
 have HU := Aside0.mk hU
 clear hU
 have hc2 : (w.alloc (Obj.cells Tryd.zeroCells169 169)).cell? ⟨3, 15, none⟩ = some (.int .u8 4) := (((Below.refl w.heap.size w).alloc (Nat.le_refl _) _).cell (p := ⟨3, 15, none⟩) h3).trans hc
 go_enter Tryd.func138, Tryd.ntmps138
 go_wp2_with (first | (go_at_call 154; refine (ipow _).mono ?_; rintro e w' ⟨rfl, rfl⟩) | (go_at_call 155; refine (tz _ hc2).mono ?_; rintro e w' ⟨rfl, rfl⟩))
 go_loopg [1, 13] 16 (fun n v i wr => ∃ j u : Nat, Aside0 (j + n = 16) ∧ Aside0 (j ≤ 15) ∧ Aside0 (u = U / 16 ^ j) ∧ v = .int .u64 (u : Int) ∧ i = .int .i64 ((65 - j : Nat) : Int) ∧ Aside0 (∃ cs : Array Value, wr.heap[w.heap.size]? = some (.cells cs 169 (0, 0)) ∧ cs.size = 65 ∧ cs.toList.drop (65 - j) = (lowD U j).map (fun b => Value.int .u8 b.toNat)) ∧ Aside0 (Below w.heap.size w wr))
 case atStart =>
  refine ⟨0, U, ⟨rfl⟩, ⟨by omega⟩, ⟨by simp⟩, rfl, rfl, ⟨zero65, ?_, by simp [zero65], by simp [zero65, lowD]⟩, ⟨zd (Below.refl _ _) _⟩⟩
  have : Tryd.zeroCells169 = zero65 := by kernel_rfl
  rw [this]
  exact heap_alloc_new _ _
 case round =>
  obtain ⟨j, u, hj, hj15, hu, rfl, rfl, hb, HB⟩ := hrel
  obtain ⟨cs, hcs, hsz, hdr⟩ := hb.out
  clear hb
  have HC := Aside0.mk hcs
  have HS := Aside0.mk hsz
  have HD := Aside0.mk hdr
  clear hcs hsz hdr hc hc2
  have hult : u < 18446744073709551616 := by rw [hu.out]; exact Nat.lt_of_le_of_lt (Nat.div_le_self _ _) HU.out
  have hand := u64_and15 u hult
  have HL := Aside0.mk hult
  clear hult
  generalize hm : u % 16 = m at *
  have HM := Aside0.mk hm
  have hm16 : m < 16 := by omega
  clear hm
  obtain ⟨v0, hv0⟩ : ∃ v, cs[64 - j]? = some v := ⟨_, Array.getElem?_eq_getElem (by rw [HS.out]; omega)⟩
  have hcell : wr.cell? ⟨w.heap.size, 64 - j, none⟩ = some v0 := (ze HC.out (64 - j)).trans hv0
  have hfz := za HC.out (64 - j)
  have hi1 : (((65 - j : Nat) : Int) - 1) = ((64 - j : Nat) : Int) := by have := hj15.out; omega
  have hin : (64 - j : Nat) < 65 := by omega
  by_cases h16 : 16 ≤ u
  ·have h16' : decide (16 ≤ (u : Int)) = true := by simpa using (by exact_mod_cast h16)
   have hdg := dig_get m hm16
   go_wp2
   have hj2 : j + 1 ≤ 15 := by
    have h1 := hj15.out
    have h2 := hu.out
    have h3 := HU.out
    rcases Nat.lt_or_ge j 15 with h | h
    ·omega
    ·obtain rfl : j = 15 := by omega
     rw [h2] at h16
     omega
   go_roundg (gk - 1)
   case measure => have := hj.out; omega
   case rel => exact ⟨j + 1, u / 16, ⟨by have := hj.out; omega⟩, ⟨hj2⟩, ⟨by rw [hu.out, Nat.pow_succ, Nat.div_div_eq_div_mul]⟩, rfl, by rw [show 65 - (j + 1) = 64 - j by omega], ⟨_, blk_set HC.out _ _, by rw [Array.size_setIfInBounds]; exact HS.out, by rw [drop_put _ HS.out _ (by omega), HD.out, lowD, ← hu.out, HM.out]; rfl⟩, ⟨zf HB.out (by simp)⟩⟩
  ·have h16' : decide (16 ≤ (u : Int)) = false := zl (by omega)
   have hu16 : u < 16 := by omega
   have hu36 : (u : Int) < 36 := by omega
   have hdg := dig_get u hu16
   have hal : Tryd.prog.arrayLen 169 = 65 := by kernel_rfl
   have hsl : ∀ W, (Instr.sliceAt 169 (.pointer (some ⟨w.heap.size, 0, none⟩)) (some (.int .i64 ((64 - j : Nat) : Int))) none none).run Tryd.prog W = .ok (.slice (some ⟨w.heap.size, 64 - j, none⟩) (j + 1) (j + 1)) W := fun W => by
    rw [run_sliceAt_array_l W 169 ⟨w.heap.size, 0, none⟩ (by simp [Program.arrayLen, Program.elem, Tryd.underlying169]) .i64 ((64 - j : Nat) : Int) (by omega) (by rw [hal]; omega)]
    go_simp
    have := hj15.out
    omega
   have hcs2 := blk_set HC.out (64 - j) (.int .u8 ((hexDig u).toNat : Int))
   have hd2 := drop_put cs HS.out j (by have := hj15.out; omega) (.int .u8 ((hexDig u).toNat : Int))
   have hD : u % 16 = u := Nat.mod_eq_of_lt hu16
   have hlow : lowD U (j + 1) = hexDig u :: lowD U j := by rw [lowD, ← hu.out, hD]
   rw [HD.out, ← List.map_cons (f := fun (b : UInt8) => Value.int .u8 (b.toNat : Int)), ← hlow] at hd2
   have hcv : (convert 110 9 (.slice (some ⟨w.heap.size, 64 - j, none⟩) (j + 1) (j + 1))).run Tryd.prog (wr.setCell ⟨w.heap.size, 64 - j, none⟩ (.int .u8 ((hexDig u).toNat : Int))) = .ok (.string ⟨(lowD U (j + 1)).toArray⟩) (wr.setCell ⟨w.heap.size, 64 - j, none⟩ (.int .u8 ((hexDig u).toNat : Int))) := by
    have h := run_convert_bytes_back (P := Tryd.prog) (wr.setCell ⟨w.heap.size, 64 - j, none⟩ (.int .u8 ((hexDig u).toNat : Int))) 110 9 5 ⟨w.heap.size, 64 - j, none⟩ (j + 1) (lowD U (j + 1)) Tryd.underlying110 Tryd.underlying5 Tryd.underlying9 (fun i hi => by
     rw [add_at, ze hcs2]
     have h1 := congrArg (fun l => l[i]?) hd2
     simp only [List.getElem?_drop, List.getElem?_map] at h1
     rw [show 64 - j + i = 65 - (j + 1) + i by omega]
     rw [← Array.getElem?_toList, h1, List.getElem?_eq_getElem hi]
     rfl)
    rw [lowD_length] at h
    exact h
   have hfin := Aside0.mk (show U / 16 ^ (j + 1) = 0 by rw [Nat.pow_succ, ← Nat.div_div_eq_div_mul, ← hu.out]; omega)
   have hcv2 := Aside0.mk hcs2
   clear hd2 hlow hcs2 hD
   go_wp2
   go_ret2
   exact ⟨j + 1, rfl, by omega, by have := hj15.out; omega, hfin.out, zf HB.out (by simp)⟩
set_option maxHeartbeats 800000 in
theorem fuint (U : Nat) (hU : U < 18446744073709551616) (w : World) (hc : w.cell? ⟨3, 15, none⟩ = some (.int .u8 4)) (h3 : 3 < w.heap.size) :
  Calls Tryd.prog 116 #[.int .u64 U, .int .i64 16] w fun e w' => ∃ n, e = .returned (.string ⟨(lowD U n).toArray⟩) ∧ 1 ≤ n ∧ n ≤ 16 ∧ U / 16 ^ n = 0 ∧ Below w.heap.size w w' := by
 have hf := Aside0.mk (fbits U hU w hc h3)
 clear hU hc
 go_enter Tryd.func116, Tryd.ntmps116
 go_wp2_with (fail)
 refine hf.out.mono ?_
 rintro e w1 ⟨n, rfl, h1, h2, h4, hb⟩
 have H := Aside0.mk (And.intro h1 (And.intro h2 h4))
 clear h1 h2 h4
 go_wp2
 go_ret
 exact ⟨n, rfl, H.out.1, H.out.2.1, H.out.2.2, hb⟩
set_option maxHeartbeats 800000 in
theorem fuint2 (U : Nat) (hU : U < 18446744073709551616) (w : World) (hc : w.cell? ⟨3, 15, none⟩ = some (.int .u8 4)) (h3 : 3 < w.heap.size) :
  Calls Tryd.prog 81 #[.int .u64 U, .int .i64 16] w fun e w' => ∃ n, e = .returned (.string ⟨(lowD U n).toArray⟩) ∧ 1 ≤ n ∧ n ≤ 16 ∧ U / 16 ^ n = 0 ∧ Below w.heap.size w w' := by
 have hf := Aside0.mk (fuint U hU w hc h3)
 clear hU hc
 go_enter Tryd.func81, Tryd.ntmps81
 go_wp2_with (fail)
 refine hf.out.mono ?_
 rintro e w1 ⟨n, rfl, h1, h2, h4, hb⟩
 have H := Aside0.mk (And.intro h1 (And.intro h2 h4))
 clear h1 h2 h4
 go_wp2
 go_ret
 exact ⟨n, rfl, H.out.1, H.out.2.1, H.out.2.2, hb⟩
def fnvStep (h : Nat) (c : UInt8) : Nat := ((h ^^^ c.toNat) * 1099511628211) % 18446744073709551616
def fnvBase : Nat := 14695981039346656037
def fnv (l : List UInt8) : Nat := l.foldl fnvStep fnvBase
theorem fnvStep_lt (h : Nat) (c : UInt8) : fnvStep h c < 18446744073709551616 := Nat.mod_lt _ (Nat.zero_lt_succ _)
theorem fold_lt (l : List UInt8) : ∀ h, h < 18446744073709551616 → l.foldl fnvStep h < 18446744073709551616 := by
 induction l with
 | nil => exact fun h hh => hh
 | cons c l ih => exact fun h _ => ih _ (fnvStep_lt h c)
theorem fnv_lt (l : List UInt8) : fnv l < 18446744073709551616 := fold_lt l _ (by unfold fnvBase; omega)
theorem fnv_snoc (l : List UInt8) (c : UInt8) : fnv (l ++ [c]) = fnvStep (fnv l) c := by
 unfold fnv
 rw [List.foldl_append, List.foldl_cons, List.foldl_nil]
theorem step_xor (h : Nat) (hh : h < 18446744073709551616) (c : UInt8) : bits .xor .u64 (h : Int) (IntKind.u64.wrap (c.toNat : Int)) = ((h ^^^ c.toNat : Nat) : Int) :=
 by
 have hc := c.toNat_lt
 rw [show IntKind.u64.wrap (c.toNat : Int) = (c.toNat : Int) by rw [IntKind.wrap_u64]; omega]
 exact bits_xor_u64_nat h c.toNat hh (by omega)
theorem step_mul (x : Nat) : IntKind.u64.wrap ((x : Int) * 1099511628211) = ((x * 1099511628211 % 18446744073709551616 : Nat) : Int) := by
 rw [IntKind.wrap_u64]; omega
def sumHex (s : ByteArray) : ByteArray := ⟨(lowD (fnv s.data.toList) 16).toArray⟩
def purl_Sum64.f (a0 : ByteArray) : Option (ByteArray) := if a0.size ≤ 9223372036854775807 then some (sumHex a0) else none
theorem lowD_zeros (U n : Nat) (h : U / 16 ^ n = 0) : ∀ m, lowD U (n + m) = Lib.repeatL [48] m ++ lowD U n
 | 0 => rfl
 | m + 1 => by
  have : U / 16 ^ (n + m) = 0 := by rw [Nat.pow_add, ← Nat.div_div_eq_div_mul, h]; simp
  rw [← Nat.add_assoc, lowD, this, lowD_zeros U n h m]
  rfl
theorem hex_pad (U n : Nat) (h1 : n ≤ 16) (h : U / 16 ^ n = 0) : (⟨(Lib.repeatL [48] (16 - n)).toArray⟩ : ByteArray) ++ ⟨(lowD U n).toArray⟩ = ⟨(lowD U 16).toArray⟩ := by
 have := lowD_zeros U n h (16 - n)
 rw [show n + (16 - n) = 16 by omega] at this
 rw [this]
 apply ByteArray.ext
 simp
set_option maxHeartbeats 1600000 in
set_option maxRecDepth 100000 in
theorem purl_Sum64.calls (a0 : ByteArray) (r : ByteArray) (w : World) (hL : LaidW w) (h : purl_Sum64.f a0 = some r) :
  Calls Tryd.prog 35 #[.string a0] w fun e w' => e = .returned (.string r) ∧ Below w.heap.size w w' := by
 unfold purl_Sum64.f at h
 split at h
 ·rename_i hsz
  obtain rfl : sumHex a0 = r := by simpa using h
  clear h
  have HL := Aside0.mk hL
  clear hL
  go_enter Tryd.func35, Tryd.ntmps35
  go_wp2
  go_loopg [3, 8] a0.size (fun n v i wr => ∃ k : Nat, Aside0 (k + n = a0.size) ∧ i = .int .i64 k ∧ v = .int .u64 (fnv (a0.data.toList.take k) : Int) ∧ wr = w)
  case atStart => exact ⟨0, ⟨by omega⟩, rfl, by simp [fnv, fnvBase], rfl⟩
  case round =>
   obtain ⟨k, hk, rfl, rfl, rfl⟩ := hrel
   have hlen : a0.data.toList.length = a0.size := by simp
   by_cases hlt : k < a0.size
   ·have hx := step_xor (fnv (a0.data.toList.take k)) (fnv_lt _) (a0[k]'hlt)
    have hm := step_mul (fnv (a0.data.toList.take k) ^^^ (a0[k]'hlt).toNat)
    have hs : fnv (a0.data.toList.take (k + 1)) = (fnv (a0.data.toList.take k) ^^^ (a0[k]'hlt).toNat) * 1099511628211 % 18446744073709551616 := by
     rw [List.take_succ_eq_append_getElem (by omega), fnv_snoc]
     rfl
    have HS := Aside0.mk hs
    clear hs hlen
    generalize fnv (a0.data.toList.take k) = f at *
    generalize f ^^^ (a0[k]'hlt).toNat = x at *
    generalize x * 1099511628211 % 18446744073709551616 = y at *
    go_wp2
    go_roundg (gk - 1)
    case measure => have := hk.out; omega
    case rel => exact ⟨k + 1, ⟨by have := hk.out; omega⟩, by go_num, by rw [HS.out], rfl⟩
   ·have hk2 : k = a0.size := by have := hk.out; omega
    have hf : a0.data.toList.take k = a0.data.toList := List.take_of_length_le (by omega)
    have hU := fnv_lt a0.data.toList
    rw [hf]
    have HF := Aside0.mk (show sumHex a0 = ⟨(lowD (fnv a0.data.toList) 16).toArray⟩ from rfl)
    generalize fnv a0.data.toList = U at *
    obtain ⟨R, hR⟩ : ∃ R, sumHex a0 = R := ⟨_, rfl⟩
    rw [hR] at HF
    have HR := Aside0.mk hR
    clear hR
    have HU := Aside0.mk hU
    clear hU hlen hf
    subst hk2
    go_wp2_with (fail)
    refine (fuint2 U HU.out _ HL.out.c64 HL.out.big).mono ?_
    rintro e w1 ⟨n, rfl, h1, h2, h4, hb⟩
    have H4 := Aside0.mk h4
    have HB := Aside0.mk hb
    clear h4 hb
    have hsn : (⟨(lowD U n).toArray⟩ : ByteArray).size = n := by simp [ByteArray.size, lowD_length]
    generalize hD : (⟨(lowD U n).toArray⟩ : ByteArray) = D at *
    have HD := Aside0.mk hD
    clear hD
    go_wp2_with (fail)
    rw [show (16 - (n : Int)) = ((16 - n : Nat) : Int) by omega]
    refine (Tryd.strings_Repeat ⟨#[48]⟩ (16 - n) _ (by omega) (by simp [ByteArray.size]; omega)).mono ?_
    rintro e w2 ⟨rfl, hb2⟩
    have hap := hex_pad U n h2 H4.out
    rw [HD.out, ← HF.out] at hap
    have hsz1 : (⟨(Lib.repeatL [48] (16 - n)).toArray⟩ : ByteArray).size = 16 - n := by simp [ByteArray.size, Lib.repeatL_length]
    have HB2 := Aside0.mk (HB.out.trans (hb2.mono HB.out.size))
    clear hb2 HB
    go_wp2
    go_ret
    refine ⟨?_, HB2.out⟩
    rw [HR.out]
    rfl
 ·cases h
end Go.Proofs.YtmnfjbmhlabdaaaDoor.Pr
