/- strings.IndexByte, Split (at one byte), Join, Contains (of one byte): each call answers what its Lean function says. Conditions: those of the Lean functions. -/
import Derived.Test.YtmnfjbmhlabdaaaDoorDXa
import Derived.Test.YtmnfjbmhlabdaaaDoorProg
import Derived.Test.YtmnfjbmhlabdaaaDoorDSh
import Derived.Test.YtmnfjbmhlabdaaaDoorDW
import Derived.WalkKit
import Derived.Shelf.Strings.Split
namespace Go.Proofs.YtmnfjbmhlabdaaaDoor.Pr
open Go.RowKit Go.Proofs.YtmnfjbmhlabdaaaDoorW.PrintWords Go.Proofs.YtmnfjbmhlabdaaaDoorW.PrintLast Go.Proofs.YtmnfjbmhlabdaaaDoorW.PrintMore
def lib_IndexByte.f (s : ByteArray) (c : Int) : Option Int := some (Lib.indexByte s.data.toList c.toNat.toUInt8)
theorem lib_IndexByte.calls (a0 : ByteArray) (a1 : Int) (r : Int) (w : World) (h : lib_IndexByte.f a0 a1 = some r) :
  Calls Tryd.prog 69 #[.string a0, .int .u8 a1] w fun e w' => e = .returned (.int .i64 r) ∧ Drawn0 w w' := by
 obtain rfl := yg h
 exact (Tryd.strings_IndexByte a0 a1 w).mono fun e w' ⟨he, hw⟩ => ⟨he, by subst hw; exact zN _⟩
theorem fresh_row (w : World) (l : List ByteArray) (hl : l.length ≤ maxLen) : Kd.R Kd.string 9 (w.alloc (.cells (l.map Value.string).toArray 9)) w.heap.size (fun _ => True) (.slice (some ⟨w.heap.size, 0, none⟩) l.length l.length) l := by
 refine ⟨fun _ _ => trivial, l.map Value.string, ⟨by simp [Kd.string, Kd.scalar], Or.inr ⟨w.heap.size, l.length, _, rfl, Nat.le_refl _, heap_alloc_new _ _, Nat.le_refl _, hl, by simp [Kd.string, Kd.scalar], by simp [Kd.string, Kd.scalar]; exact List.take_of_length_le (by simp)⟩⟩, ?_⟩
 refine ⟨by simp [Kd.string, Kd.scalar], fun j p hj => ?_⟩
 obtain ⟨hlt, rfl⟩ := List.getElem?_eq_some_iff.1 hj
 show ((l.map Value.string).drop (j * 1)).take 1 = [Value.string l[j]]
 rw [Nat.mul_one, List.drop_eq_getElem_cons (by simpa using hlt)]
 simp
def lib_Split.f (s sep : ByteArray) : Option (List ByteArray) := if s.size < 4294967281 ∧ sep.size = 1 then some (Lib.splitB sep 0 (Lib.countB s sep) s) else none
theorem split_len (s : ByteArray) (c : UInt8) : (Lib.splitB ⟨#[c]⟩ 0 (Lib.countB s ⟨#[c]⟩) s).length = Lib.countB s ⟨#[c]⟩ + 1 := Lib.splitB_all ⟨#[c]⟩ (Nat.le_refl 1) 0 _ s rfl
set_option maxHeartbeats 1000000 in
theorem lib_Split.calls (a0 a1 : ByteArray) (r : List ByteArray) (w : World) (h : lib_Split.f a0 a1 = some r) :
  Calls Tryd.prog 108 #[.string a0, .string a1] w fun e w' => ∃ v0_ : Value, e = .returned (v0_) ∧ Kd.R Kd.string 9 w' w.heap.size (fun _ => True) v0_ r ∧ Below w.heap.size w w' := by
 unfold lib_Split.f at h
 split at h
 ·rename_i hc
  obtain ⟨hs, h1⟩ := hc
  obtain ⟨c, rfl⟩ := Lib.one_byte a1 h1
  obtain rfl := yg h
  have hle := Lib.countB_le ⟨#[c]⟩ (Nat.le_refl 1) a0.size a0 (Nat.le_refl _)
  have hcnt : Calls Tryd.prog 149 #[.string a0, .string ⟨#[c]⟩] w fun e w' => e = .returned (.int .i64 (Lib.countB a0 ⟨#[c]⟩)) ∧ w' = w := by
   refine (Tryd.strings_Count_one a0 c w).mono fun e w' ⟨he, hw⟩ => ⟨?_, hw⟩
   rw [he]
   show _ = Ending.returned (Value.int .i64 ((Lib.count a0.data.toList [c] : Nat) : Int))
   rw [Lib.count_one]
   rfl
  have k := Any.strings_genSplit_core Tryd.lays221 (by kernel_rfl) a0 ⟨#[c]⟩ 0 (-1) (Lib.countB a0 ⟨#[c]⟩ + 1) w hs (Nat.le_refl 1) (Nat.zero_le _)
   (fun x cc _ => by
    refine (Tryd.strings_Index_one x c _).mono fun e w' ⟨he, hw⟩ => ⟨?_, hw⟩
    rw [he]
    show _ = Ending.returned (Value.int .i64 (Lib.index x.data.toList [c]))
    rw [Lib.index_one])
   hcnt (by decide) (by decide) (by rw [if_pos (by decide)]; omega)
  have hlen := split_len a0 c
  rw [Nat.add_sub_cancel, hlen] at k
  have e2 : Lib.cellsOf (Lib.splitB ⟨#[c]⟩ 0 (Lib.countB a0 ⟨#[c]⟩) a0) (Lib.countB a0 ⟨#[c]⟩ + 1) = ((Lib.splitB ⟨#[c]⟩ 0 (Lib.countB a0 ⟨#[c]⟩) a0).map Value.string).toArray := by rw [← hlen]; exact Lib.cellsOf_full _
  rw [e2] at k
  change Calls Tryd.prog 130 _ _ _ at k
  go_enter Tryd.func108, Tryd.ntmps108
  go_wp2_with (go_at_call 130; refine k.mono ?_; rintro e w' ⟨rfl, hw⟩; rw [hw])
  go_ret
  refine ⟨_, rfl, ?_, zd (Below.refl _ _) _⟩
  have := fresh_row w (Lib.splitB ⟨#[c]⟩ 0 (Lib.countB a0 ⟨#[c]⟩) a0) (by rw [hlen]; unfold maxLen; omega)
  rw [hlen] at this
  exact this
 ·cases h
def lib_Join.f (l : List ByteArray) (sep : ByteArray) : Option ByteArray := if l.length ≤ 140737488355328 ∧ (Lib.join (l.map (·.data.toList)) sep.data.toList).length ≤ 140737488355328 then some ⟨(Lib.join (l.map (·.data.toList)) sep.data.toList).toArray⟩ else none
theorem lib_Join.calls (A0 : Option Addr) (c0 : Nat) (l0 : List ByteArray) (a1 : ByteArray) (r : ByteArray) (w : World) (hr0 : Kd.C Kd.string w A0 l0.length l0) (hc0 : l0.length ≤ c0) (h : lib_Join.f l0 a1 = some r) :
  Calls Tryd.prog 40 #[.slice A0 l0.length c0, .string a1] w fun e w' => e = .returned (.string r) ∧ Below w.heap.size w w' := by
 unfold lib_Join.f at h
 split at h
 ·rename_i hc
  obtain rfl := yg h
  cases l0 with
  | nil => exact (Tryd.strings_Join_none A0 c0 a1 w).mono fun e w' ⟨he, hw⟩ => ⟨he, by subst hw; exact Below.refl _ _⟩
  | cons x l =>
   obtain ⟨ad, rfl, hcell⟩ := hr0.2.2 (by simp)
   have hcl : ∀ (j : Nat) y, (x :: l)[j]? = some y → w.cell? (ad.add j) = some (.string y) := fun j y hj => by
    obtain ⟨c, hcs, hK, hi⟩ := hcell j y hj
    have hK : c = [Value.string y] := hK
    subst hK
    have := hi 0 (.string y) rfl
    have e1 : j * Kd.string.sz + 0 = j := by show j * 1 + 0 = j; omega
    rwa [e1] at this
   have h0 := hcl 0 x rfl
   have hsp : ad.spot = none := by
    unfold World.cell? at h0
    rw [show ad.add 0 = ad from rfl] at h0
    split at h0
    ·split at h0
     ·cases h0
     ·rename_i hn; simpa using hn
    ·cases h0
   have hbk : ad.block < w.heap.size := World.block_lt_of_cell? w ad h0
   have ha : ad = ⟨ad.block, ad.off, none⟩ := by cases ad; simp_all
   have hadd : ∀ j, ad.add j = ⟨ad.block, ad.off + j, none⟩ := fun j => by unfold Addr.add; split <;> cases ad <;> simp_all
   rw [ha]
   refine (Tryd.strings_Join ad.block ad.off c0 (x :: l) a1 w (fun j y hj => by rw [← hadd]; exact hcl j y hj) hbk hc.1 hc0 hc.2)
 ·cases h
def lib_Contains.f (s sep : ByteArray) : Option Bool := if sep.size = 1 then some (decide (0 ≤ Lib.indexByte s.data.toList (sep.data.toList.headD 0))) else none
theorem lib_Contains.calls (a0 a1 : ByteArray) (r : Bool) (w : World) (h : lib_Contains.f a0 a1 = some r) :
  Calls Tryd.prog 63 #[.string a0, .string a1] w fun e w' => e = .returned (.bool r) ∧ Drawn0 w w' := by
 unfold lib_Contains.f at h
 split at h
 ·rename_i h1
  obtain ⟨c, rfl⟩ := Lib.one_byte a1 h1
  obtain rfl := yg h
  exact (Tryd.strings_Contains_one a0 c w).mono fun e w' ⟨he, hw⟩ => ⟨he, by subst hw; exact zN _⟩
 ·cases h
end Go.Proofs.YtmnfjbmhlabdaaaDoor.Pr
