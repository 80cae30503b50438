/- The law AttestProofsHold of the program, said of it for every input: the row and its card. Conditions: none beyond the row's own (each text and slice of at most 140737488351232 bytes; the three listed tables read as they are laid). -/
import Derived.Test.YtdmmglihkdkeaaaDoorCards
import Derived.Test.YtdmmglihkdkeaaaDoorURw
import Derived.Test.YtdmmglihkdkeaaaDoorUPrx31
import Derived.Test.YtdmmglihkdkeaaaDoorUPk
namespace Go.Proofs.YtdmmglihkdkeaaaDoor.attestProofsHold
open Go.ChangeShapes Go.WideShapes Go.ChangeAt Go.RowKit
set_option linter.unusedVariables false
set_option maxRecDepth 100000 in
theorem contract (H : Type) (enc : TypeId × Value → H) (W : World) (base : Nat) (args : Array Value) (ds gs : List (DataW H)) (before : List MemPlace)
    (hval : ∀ (j : Nat) t v, Tryd.f10.params[j]? = some t → args[j]? = some v → Value.okWide Tryd.prog W .any base t v)
    (hW : DataW.Whole enc Tryd.prog Tryd.f10.params.toList Rows.attestProofsHoldSpec.vars false W args.toList ds gs before)
    (hsz : (DataW.weightsEach Tryd.prog (Tryd.f10.params.toList ++ (OpenSpec.ofChange Rows.attestProofsHoldSpec).bare.plain.varTypes Tryd.prog) (ds ++ gs)).all (· ≤ reachBytes) = true)
    (hL : laidMetH Tryd.prog Rows.attestProofsHoldRow.laid W) :
    Calls Tryd.prog 10 args W fun e W' => ∃ v, e = .returned v ∧ Rows.attestProofsHoldSpec.post enc Tryd.prog Tryd.f10 false true false false W args v W' := by
  have hW' := hW
  obtain ⟨p, q, hA, hV, rfl, hfz, hnd⟩ := hW
  have hA2 := hA
  rw [Tryd.params10] at hA2 hval hsz
  obtain ⟨v0, vs0, d0, ds0, p0, q0, hargs, rfl, rfl, h0, r0⟩ := trodAll_cons hA2
  obtain ⟨v1, vs1, d1, ds1, p1, q1, rfl, rfl, rfl, h1, r1⟩ := trodAll_cons r0
  obtain ⟨v2, vs2, d2, ds2, p2, q2, rfl, rfl, rfl, h2, r2⟩ := trodAll_cons r1
  obtain ⟨v3, vs3, d3, ds3, p3, q3, rfl, rfl, rfl, h3, r3⟩ := trodAll_cons r2
  obtain ⟨rfl, rfl, rfl⟩ := trodAll_nil r3
  obtain rfl : args = #[v0, v1, v2, v3] := by cases args; simp_all
  obtain ⟨rfl, rfl⟩ := trodVars_none hV
  obtain ⟨a0, hK0, hB0⟩ := Rw.par (Op.Opn.slice Tryd.underlying42 (by kernel_rfl) (Op.Opn.string Tryd.underlying9 (by kernel_rfl))) h0 hsz (j := 0) rfl rfl
  obtain ⟨b0, n0, c0, rfl⟩ := okWide_slice Tryd.underlying42 (hval 0 42 v0 rfl rfl)
  obtain ⟨A0, m0, e0, hc0, hr0⟩ := hK0
  have e0 : ([Value.slice b0 n0 c0] : List Value) = [.slice A0 a0.length m0] := e0
  obtain ⟨rfl, rfl, rfl⟩ : b0 = A0 ∧ n0 = a0.length ∧ c0 = m0 := by cases e0; exact ⟨rfl, rfl, rfl⟩
  obtain ⟨a1, hK1, hB1⟩ := Rw.par (Op.Opn.int Tryd.underlying3 (by kernel_rfl)) h1 hsz (j := 1) rfl rfl
  obtain ⟨s1, rfl⟩ := okWide_int Tryd.underlying3 (hval 1 3 v1 rfl rfl)
  have e1 : ([Value.int .i64 s1] : List Value) = [.int .i64 a1] := hK1
  obtain rfl : a1 = s1 := by cases e1; rfl
  obtain ⟨a2, hK2, hB2⟩ := Rw.par (Op.Opn.int Tryd.underlying3 (by kernel_rfl)) h2 hsz (j := 2) rfl rfl
  obtain ⟨s2, rfl⟩ := okWide_int Tryd.underlying3 (hval 2 3 v2 rfl rfl)
  have e2 : ([Value.int .i64 s2] : List Value) = [.int .i64 a2] := hK2
  obtain rfl : a2 = s2 := by cases e2; rfl
  obtain ⟨a3, hK3, hB3⟩ := Rw.par (Op.Opn.int Tryd.underlying3 (by kernel_rfl)) h3 hsz (j := 3) rfl rfl
  obtain ⟨s3, rfl⟩ := okWide_int Tryd.underlying3 (hval 3 3 v3 rfl rfl)
  have e3 : ([Value.int .i64 s3] : List Value) = [.int .i64 a3] := hK3
  obtain rfl : a3 = s3 := by cases e3; rfl
  obtain ⟨K, hK⟩ := Pr.hold_true a0 a1 a2 a3 hB0 (Rw.wf_i64 hB1) (Rw.wf_i64 hB2) (Rw.wf_i64 hB3)
  refine (Pr.provenderlaw8_AttestProofsHold.calls K b0 c0 a0 a1 a2 a3 true W (Rw.laidW hL) hr0 hc0 (hK K (Nat.le_refl _)) ⟨rfl⟩).mono fun e W' ⟨he, bel⟩ => ?_
  subst he
  exact ⟨_, rfl, _, _, _, [], _, [], hW', trodAll_mk1 (shut_bool Tryd.underlying4 _), Rw.back Rw.laidOut bel (by kernel_rfl) hA, rfl, bel.frame _, fun h => by cases h⟩
theorem reads (os : Os) {H : Type} (enc : TypeId × Value → H) : DataW.whole enc Tryd.prog ((Rw.laidWorld os).forCall (fun _ _ => 0) ⟨#[], #[.slice none 0 0, .int .i64 0, .int .i64 0, .int .i64 0], []⟩).memory Tryd.f10.params.toList Rows.attestProofsHoldSpec.vars false #[.slice none 0 0, .int .i64 0, .int .i64 0, .int .i64 0].toList 8 = some ([.nil, .lit (.int .i64 0), .lit (.int .i64 0), .lit (.int .i64 0)], [], []) :=
  by kernel_rfl
theorem weighed {H : Type} : (DataW.weightsEach Tryd.prog (Tryd.f10.params.toList ++ (OpenSpec.ofChange Rows.attestProofsHoldSpec).bare.plain.varTypes Tryd.prog) (([.nil, .lit (.int .i64 0), .lit (.int .i64 0), .lit (.int .i64 0)] : List (DataW H)) ++ [])).all (· ≤ reachBytes) = true := by kernel_rfl
set_option maxRecDepth 100000 in
theorem lifted (os : Os) (started : os.Started) (H : Type) (enc : TypeId × Value → H) (F : Stop.Interp) :
    ReturnsInHanded {} Tryd.checked os 10 .any ((OpenSpec.ofChange Rows.attestProofsHoldSpec).preRow enc Tryd.prog Tryd.f10 Rows.attestProofsHoldRow.domain false Rows.attestProofsHoldRow.laid) (((OpenSpec.ofChange Rows.attestProofsHoldSpec).at F).post enc Tryd.prog Tryd.f10 false true false false) := by
  refine returnsInHanded_of_row (C := Tryd.checked) (s := OpenSpec.ofChange Rows.attestProofsHoldSpec) Rw.own started (by kernel_rfl) Tryd.func10
    (witness_row_at (enc := enc) (C := Tryd.checked) false (Rw.laidWorld os) #[.slice none 0 0, .int .i64 0, .int .i64 0, .int .i64 0] rfl (by kernel_rfl) (by kernel_rfl) (by kernel_rfl)
      (OpenSpec.preRow_of_cond 8 (reads os enc) rfl (fun k hk => by cases hk) (weighed (H := H)) (Rw.laid_met os _))) ?_
  intro W base args ds gs before hval hW _ _ hsz hL _ _
  exact contract H enc W base args ds gs before hval hW hsz hL
theorem said : Rows.AttestProofsHoldSaid :=
  OpenClaim.holds_of_cond 10 Tryd.f10 rfl rfl rfl rfl rfl rfl rfl ⟨rfl, rfl, rfl, rfl, rfl⟩ rfl rfl rfl rfl rfl (by kernel_rfl) Tryd.func10 (by kernel_rfl)
    (of_decide_eq_true (by kernel_rfl)) (by unfold Func.isWrapper; first | (rw [if_pos (by decide +kernel)]; kernel_rfl) | (rw [if_neg (by decide +kernel)]; exact ⟨rfl, rfl⟩))
    (fun os started H enc _ F => by rw [OpenClaim.pre_eq_preRow]; exact lifted os started H enc F)
theorem plain (f : FuncId) (fn : Func) (hf : Tryd.pinned.checked.prog.funcNamed Rows.attestProofsHoldRow.func = some f) (hfn : Tryd.pinned.checked.prog.funcs[f]? = some fn) :
    false = Tryd.pinned.checked.prog.looks [] ∧ ∀ (j : Nat) t, fn.params[j]? = some t → Tryd.pinned.checked.prog.wantsStandIn t = false := by
  obtain rfl : f = 10 := Option.some.inj ((show Tryd.prog.funcNamed Rows.attestProofsHoldRow.func = some 10 by kernel_rfl).symm.trans hf) |>.symm
  obtain rfl : fn = Tryd.f10 := (Option.some.inj (Tryd.func10.symm.trans hfn)).symm
  refine ⟨by kernel_rfl, fun j t ht => ?_⟩
  rw [Tryd.params10] at ht
  have hall : ∀ x ∈ (#[42, 3, 3, 3] : Array TypeId), Tryd.prog.wantsStandIn x = false := by
    intro x hx
    have hl : (#[42, 3, 3, 3] : Array TypeId).toList.all (fun x => Tryd.prog.wantsStandIn x == false) = true := by kernel_rfl
    simpa using List.all_eq_true.1 hl x (by simpa using hx)
  exact hall t (Array.mem_of_getElem? ht)
/-- THE CARD. -/
theorem card : Rows.AttestProofsHoldCardSaid :=
  Claim7.holds_tied_plain_at .later [] _ _ _ _ said (fun _ h => by cases h) (by kernel_rfl) (fun _ h => by cases h) attestProofsHold_row_tie rfl ⟨rfl, rfl⟩ (by kernel_rfl) rfl plain (by kernel_rfl)
end Go.Proofs.YtdmmglihkdkeaaaDoor.attestProofsHold
