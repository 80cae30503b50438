/- The law AttestSignaturesHold of the program, said of it for every input: the row and its card. Conditions: none beyond the row's own (each text and slice of at most 140737488351232 bytes; the three listed tables read as they are laid). -/
import Derived.Test.YtdmmglihkdkeaaaDoorCards
import Derived.Test.YtdmmglihkdkeaaaDoorRw
import Derived.Test.YtdmmglihkdkeaaaDoorPrx12
import Derived.Test.YtdmmglihkdkeaaaDoorPc
namespace Go.Proofs.YtdmmglihkdkeaaaDoor.attestSignaturesHold
open Go.ChangeShapes Go.WideShapes Go.ChangeAt Go.RowKit
set_option linter.unusedVariables false
set_option maxRecDepth 100000 in
theorem contract (H : Type) (enc : TypeId × Value → H) (W : World) (base : Nat) (args : Array Value) (ds gs : List (DataW H)) (before : List MemPlace)
    (hval : ∀ (j : Nat) t v, Tryd.f4.params[j]? = some t → args[j]? = some v → Value.okWide Tryd.prog W .any base t v)
    (hW : DataW.Whole enc Tryd.prog Tryd.f4.params.toList Rows.attestSignaturesHoldSpec.vars false W args.toList ds gs before)
    (hsz : (DataW.weightsEach Tryd.prog (Tryd.f4.params.toList ++ (OpenSpec.ofChange Rows.attestSignaturesHoldSpec).bare.plain.varTypes Tryd.prog) (ds ++ gs)).all (· ≤ reachBytes) = true)
    (hL : laidMetH Tryd.prog Rows.attestSignaturesHoldRow.laid W) :
    Calls Tryd.prog 4 args W fun e W' => ∃ v, e = .returned v ∧ Rows.attestSignaturesHoldSpec.post enc Tryd.prog Tryd.f4 false true false false W args v W' := by
  have hW' := hW
  obtain ⟨p, q, hA, hV, rfl, hfz, hnd⟩ := hW
  have hA2 := hA
  rw [Tryd.params4] at hA2 hval hsz
  obtain ⟨v0, vs0, d0, ds0, p0, q0, hargs, rfl, rfl, h0, r0⟩ := trodAll_cons hA2
  obtain ⟨v1, vs1, d1, ds1, p1, q1, rfl, rfl, rfl, h1, r1⟩ := trodAll_cons r0
  obtain ⟨v2, vs2, d2, ds2, p2, q2, rfl, rfl, rfl, h2, r2⟩ := trodAll_cons r1
  obtain ⟨v3, vs3, d3, ds3, p3, q3, rfl, rfl, rfl, h3, r3⟩ := trodAll_cons r2
  obtain ⟨v4, vs4, d4, ds4, p4, q4, rfl, rfl, rfl, h4, r4⟩ := trodAll_cons r3
  obtain ⟨rfl, rfl, rfl⟩ := trodAll_nil r4
  obtain rfl : args = #[v0, v1, v2, v3, v4] := by cases args; simp_all
  obtain ⟨rfl, rfl⟩ := trodVars_none hV
  obtain ⟨a0, hK0, hB0⟩ := Rw.par (Op.Opn.string Tryd.underlying9 (by kernel_rfl)) h0 hsz (j := 0) rfl rfl
  obtain ⟨s0, rfl⟩ := okWide_string Tryd.underlying9 (hval 0 9 v0 rfl rfl)
  have e0 : ([Value.string s0] : List Value) = [.string a0] := hK0
  obtain rfl : a0 = s0 := by cases e0; rfl
  obtain ⟨a1, hK1, hB1⟩ := Rw.par (Op.Opn.string Tryd.underlying9 (by kernel_rfl)) h1 hsz (j := 1) rfl rfl
  obtain ⟨s1, rfl⟩ := okWide_string Tryd.underlying9 (hval 1 9 v1 rfl rfl)
  have e1 : ([Value.string s1] : List Value) = [.string a1] := hK1
  obtain rfl : a1 = s1 := by cases e1; rfl
  obtain ⟨a2, hK2, hB2⟩ := Rw.par (Op.Opn.string Tryd.underlying9 (by kernel_rfl)) h2 hsz (j := 2) rfl rfl
  obtain ⟨s2, rfl⟩ := okWide_string Tryd.underlying9 (hval 2 9 v2 rfl rfl)
  have e2 : ([Value.string s2] : List Value) = [.string a2] := hK2
  obtain rfl : a2 = s2 := by cases e2; rfl
  obtain ⟨a3, hK3, hB3⟩ := Rw.par (Op.Opn.string Tryd.underlying9 (by kernel_rfl)) h3 hsz (j := 3) rfl rfl
  obtain ⟨s3, rfl⟩ := okWide_string Tryd.underlying9 (hval 3 9 v3 rfl rfl)
  have e3 : ([Value.string s3] : List Value) = [.string a3] := hK3
  obtain rfl : a3 = s3 := by cases e3; rfl
  obtain ⟨a4, hK4, hB4⟩ := Rw.par (Op.Opn.struct id id (fun _ => rfl) Tryd.underlying23 (by kernel_rfl) (.cons rfl (Op.Opn.string Tryd.underlying9 (by kernel_rfl)) (.cons rfl (Op.Opn.string Tryd.underlying9 (by kernel_rfl)) (.one rfl (Op.Opn.string Tryd.underlying9 (by kernel_rfl)))))) h4 hsz (j := 4) rfl rfl
  obtain ⟨s4, rfl, z4⟩ := okWide_struct Tryd.underlying23 (hval 4 23 v4 rfl rfl)
  obtain ⟨y4_0, w4_0, gy4_0, hy4_0, hw4_0⟩ := hK4
  have gy4_0 : s4.toList = y4_0 ++ w4_0 := gy4_0
  have l4_1 : y4_0 = [.string (a4.1)] := hy4_0
  obtain ⟨y4_2, w4_2, gy4_2, hy4_2, hw4_2⟩ := hw4_0
  have gy4_2 : w4_0 = y4_2 ++ w4_2 := gy4_2
  have l4_3 : y4_2 = [.string (a4.2.1)] := hy4_2
  have l4_4 : w4_2 = [.string (a4.2.2)] := hw4_2
  have e4 : s4.toList = [.string (a4.1), .string (a4.2.1), .string (a4.2.2)] := by rw [gy4_0, l4_1, gy4_2, l4_3, l4_4]; rfl
  obtain rfl : s4 = #[.string (a4.1), .string (a4.2.1), .string (a4.2.2)] := Array.toList_inj.1 e4
  obtain ⟨K, hK⟩ := Pr.signatures_true a0 a1 a2 a3 (a4.1) (a4.2.1) (a4.2.2) hB0 hB1 hB2 hB3 hB4.1 hB4.2.1 hB4.2.2
  refine (Pr.provenderlaw8_AttestSignaturesHold.calls K a0 a1 a2 a3 (a4.1) (a4.2.1) (a4.2.2) true W (Rw.laidW hL) (hK K (Nat.le_refl _)) ⟨rfl⟩).mono fun e W' ⟨he, bel⟩ => ?_
  subst he
  exact ⟨_, rfl, _, _, _, [], _, [], hW', trodAll_mk1 (shut_bool Tryd.underlying4 _), Rw.back Rw.laidOut bel (by kernel_rfl) hA, rfl, bel.frame _, fun h => by cases h⟩
theorem reads (os : Os) {H : Type} (enc : TypeId × Value → H) : DataW.whole enc Tryd.prog ((Rw.laidWorld os).forCall (fun _ _ => 0) ⟨#[], #[.string ByteArray.empty, .string ByteArray.empty, .string ByteArray.empty, .string ByteArray.empty, .agg #[.string ByteArray.empty, .string ByteArray.empty, .string ByteArray.empty]], []⟩).memory Tryd.f4.params.toList Rows.attestSignaturesHoldSpec.vars false #[.string ByteArray.empty, .string ByteArray.empty, .string ByteArray.empty, .string ByteArray.empty, .agg #[.string ByteArray.empty, .string ByteArray.empty, .string ByteArray.empty]].toList 8 = some ([.lit (.string []), .lit (.string []), .lit (.string []), .lit (.string []), .agg [.lit (.string []), .lit (.string []), .lit (.string [])]], [], []) :=
  by kernel_rfl
theorem weighed {H : Type} : (DataW.weightsEach Tryd.prog (Tryd.f4.params.toList ++ (OpenSpec.ofChange Rows.attestSignaturesHoldSpec).bare.plain.varTypes Tryd.prog) (([.lit (.string []), .lit (.string []), .lit (.string []), .lit (.string []), .agg [.lit (.string []), .lit (.string []), .lit (.string [])]] : List (DataW H)) ++ [])).all (· ≤ reachBytes) = true := by kernel_rfl
set_option maxRecDepth 100000 in
theorem lifted (os : Os) (started : os.Started) (H : Type) (enc : TypeId × Value → H) (F : Stop.Interp) :
    ReturnsInHanded {} Tryd.checked os 4 .any ((OpenSpec.ofChange Rows.attestSignaturesHoldSpec).preRow enc Tryd.prog Tryd.f4 Rows.attestSignaturesHoldRow.domain false Rows.attestSignaturesHoldRow.laid) (((OpenSpec.ofChange Rows.attestSignaturesHoldSpec).at F).post enc Tryd.prog Tryd.f4 false true false false) := by
  refine returnsInHanded_of_row (C := Tryd.checked) (s := OpenSpec.ofChange Rows.attestSignaturesHoldSpec) Rw.own started (by kernel_rfl) Tryd.func4
    (witness_row_at (enc := enc) (C := Tryd.checked) false (Rw.laidWorld os) #[.string ByteArray.empty, .string ByteArray.empty, .string ByteArray.empty, .string ByteArray.empty, .agg #[.string ByteArray.empty, .string ByteArray.empty, .string ByteArray.empty]] rfl (by kernel_rfl) (by kernel_rfl) (by kernel_rfl)
      (OpenSpec.preRow_of_cond 8 (reads os enc) rfl (fun k hk => by cases hk) (weighed (H := H)) (Rw.laid_met os _))) ?_
  intro W base args ds gs before hval hW _ _ hsz hL _ _
  exact contract H enc W base args ds gs before hval hW hsz hL
theorem said : Rows.AttestSignaturesHoldSaid :=
  OpenClaim.holds_of_cond 4 Tryd.f4 rfl rfl rfl rfl rfl rfl rfl ⟨rfl, rfl, rfl, rfl, rfl⟩ rfl rfl rfl rfl rfl (by kernel_rfl) Tryd.func4 (by kernel_rfl)
    (of_decide_eq_true (by kernel_rfl)) (by unfold Func.isWrapper; first | (rw [if_pos (by decide +kernel)]; kernel_rfl) | (rw [if_neg (by decide +kernel)]; exact ⟨rfl, rfl⟩))
    (fun os started H enc _ F => by rw [OpenClaim.pre_eq_preRow]; exact lifted os started H enc F)
theorem plain (f : FuncId) (fn : Func) (hf : Tryd.pinned.checked.prog.funcNamed Rows.attestSignaturesHoldRow.func = some f) (hfn : Tryd.pinned.checked.prog.funcs[f]? = some fn) :
    false = Tryd.pinned.checked.prog.looks [] ∧ ∀ (j : Nat) t, fn.params[j]? = some t → Tryd.pinned.checked.prog.wantsStandIn t = false := by
  obtain rfl : f = 4 := Option.some.inj ((show Tryd.prog.funcNamed Rows.attestSignaturesHoldRow.func = some 4 by kernel_rfl).symm.trans hf) |>.symm
  obtain rfl : fn = Tryd.f4 := (Option.some.inj (Tryd.func4.symm.trans hfn)).symm
  refine ⟨by kernel_rfl, fun j t ht => ?_⟩
  rw [Tryd.params4] at ht
  have hall : ∀ x ∈ (#[9, 9, 9, 9, 23] : Array TypeId), Tryd.prog.wantsStandIn x = false := by
    intro x hx
    have hl : (#[9, 9, 9, 9, 23] : Array TypeId).toList.all (fun x => Tryd.prog.wantsStandIn x == false) = true := by kernel_rfl
    simpa using List.all_eq_true.1 hl x (by simpa using hx)
  exact hall t (Array.mem_of_getElem? ht)
/-- THE CARD. -/
theorem card : Rows.AttestSignaturesHoldCardSaid :=
  Claim7.holds_tied_plain_at .later [] _ _ _ _ said (fun _ h => by cases h) (by kernel_rfl) (fun _ h => by cases h) attestSignaturesHold_row_tie rfl ⟨rfl, rfl⟩ (by kernel_rfl) rfl plain (by kernel_rfl)
end Go.Proofs.YtdmmglihkdkeaaaDoor.attestSignaturesHold
