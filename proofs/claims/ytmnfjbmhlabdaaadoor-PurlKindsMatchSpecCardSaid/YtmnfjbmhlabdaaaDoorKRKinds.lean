/- The law PurlKindsMatchSpec of the program, said of it for every input: the row and its card. Conditions: none beyond the row's own (each text and slice of at most 140737488351232 bytes; the listed tables read as they are laid). -/
import Derived.Test.YtmnfjbmhlabdaaaDoorCards
import Derived.Test.YtmnfjbmhlabdaaaDoorKRw
import Derived.Test.YtmnfjbmhlabdaaaDoorKPk9
import Derived.Test.YtmnfjbmhlabdaaaDoorKKa
namespace Go.Proofs.YtmnfjbmhlabdaaaDoor.purlKindsMatchSpec
open Go.ChangeShapes Go.WideShapes Go.ChangeAt Go.RowKit
set_option linter.unusedVariables false
set_option maxRecDepth 100000 in
theorem contract (H : Type) (enc : TypeId × Value → H) (W : World) (base : Nat) (args : Array Value) (ds gs : List (DataW H)) (before : List MemPlace)
    (hval : ∀ (j : Nat) t v, Tryd.f5.params[j]? = some t → args[j]? = some v → Value.okWide Tryd.prog W .any base t v)
    (hW : DataW.Whole enc Tryd.prog Tryd.f5.params.toList Rows.purlKindsMatchSpecSpec.vars false W args.toList ds gs before)
    (hsz : (DataW.weightsEach Tryd.prog (Tryd.f5.params.toList ++ (OpenSpec.ofChange Rows.purlKindsMatchSpecSpec).bare.plain.varTypes Tryd.prog) (ds ++ gs)).all (· ≤ reachBytes) = true)
    (hL : laidMetH Tryd.prog Rows.purlKindsMatchSpecRow.laid W) :
    Calls Tryd.prog 5 args W fun e W' => ∃ v, e = .returned v ∧ Rows.purlKindsMatchSpecSpec.post enc Tryd.prog Tryd.f5 false true false false W args v W' := by
  have hW' := hW
  obtain ⟨p, q, hA, hV, rfl, hfz, hnd⟩ := hW
  have hA2 := hA
  rw [Tryd.params5] at hA2 hval hsz
  obtain ⟨v0, vs0, d0, ds0, p0, q0, hargs, rfl, rfl, h0, r0⟩ := trodAll_cons hA2
  obtain ⟨rfl, rfl, rfl⟩ := trodAll_nil r0
  obtain rfl : args = #[v0] := by cases args; simp_all
  obtain ⟨rfl, rfl⟩ := trodVars_none hV
  obtain ⟨a0, hK0, hB0⟩ := Rw.par (Op.Opn.string Tryd.underlying9 (by kernel_rfl)) h0 hsz (j := 0) rfl rfl
  obtain ⟨s0, rfl⟩ := okWide_string Tryd.underlying9 (hval 0 9 v0 rfl rfl)
  have e0 : ([Value.string s0] : List Value) = [.string a0] := hK0
  obtain rfl : a0 = s0 := by cases e0; rfl
  obtain ⟨K, hK⟩ := Pr.kinds_true a0 hB0
  refine (Pr.provenderlaw2_PurlKindsMatchSpec.calls K a0 true W (hK K (Nat.le_refl _)) ⟨rfl⟩).mono fun e W' ⟨he, bel⟩ => ?_
  subst he
  exact ⟨_, rfl, _, _, _, [], _, [], hW', trodAll_mk1 (shut_bool Tryd.underlying4 _), Rw.back Rw.laidOut bel (by kernel_rfl) hA, rfl, bel.frame _, fun h => by cases h⟩
theorem reads (os : Os) {H : Type} (enc : TypeId × Value → H) : DataW.whole enc Tryd.prog ((Rw.laidWorld os).forCall (fun _ _ => 0) ⟨#[], #[.string ByteArray.empty], []⟩).memory Tryd.f5.params.toList Rows.purlKindsMatchSpecSpec.vars false #[.string ByteArray.empty].toList 8 = some ([.lit (.string [])], [], []) :=
  by kernel_rfl
theorem weighed {H : Type} : (DataW.weightsEach Tryd.prog (Tryd.f5.params.toList ++ (OpenSpec.ofChange Rows.purlKindsMatchSpecSpec).bare.plain.varTypes Tryd.prog) (([.lit (.string [])] : List (DataW H)) ++ [])).all (· ≤ reachBytes) = true := by kernel_rfl
set_option maxRecDepth 100000 in
theorem lifted (os : Os) (started : os.Started) (H : Type) (enc : TypeId × Value → H) (F : Stop.Interp) :
    ReturnsInHanded {} Tryd.checked os 5 .any ((OpenSpec.ofChange Rows.purlKindsMatchSpecSpec).preRow enc Tryd.prog Tryd.f5 Rows.purlKindsMatchSpecRow.domain false Rows.purlKindsMatchSpecRow.laid) (((OpenSpec.ofChange Rows.purlKindsMatchSpecSpec).at F).post enc Tryd.prog Tryd.f5 false true false false) := by
  refine returnsInHanded_of_row (C := Tryd.checked) (s := OpenSpec.ofChange Rows.purlKindsMatchSpecSpec) Rw.own started (by kernel_rfl) Tryd.func5
    (witness_row_at (enc := enc) (C := Tryd.checked) false (Rw.laidWorld os) #[.string ByteArray.empty] rfl (by kernel_rfl) (by kernel_rfl) (by kernel_rfl)
      (OpenSpec.preRow_of_cond 8 (reads os enc) rfl (fun k hk => by cases hk) (weighed (H := H)) (Rw.laid_met os _))) ?_
  intro W base args ds gs before hval hW _ _ hsz hL _ _
  exact contract H enc W base args ds gs before hval hW hsz hL
theorem said : Rows.PurlKindsMatchSpecSaid :=
  OpenClaim.holds_of_cond 5 Tryd.f5 rfl rfl rfl rfl rfl rfl rfl ⟨rfl, rfl, rfl, rfl, rfl⟩ rfl rfl rfl rfl rfl (by kernel_rfl) Tryd.func5 (by kernel_rfl)
    (of_decide_eq_true (by kernel_rfl)) (by unfold Func.isWrapper; first | (rw [if_pos (by decide +kernel)]; kernel_rfl) | (rw [if_neg (by decide +kernel)]; exact ⟨rfl, rfl⟩))
    (fun os started H enc _ F => by rw [OpenClaim.pre_eq_preRow]; exact lifted os started H enc F)
theorem plain (f : FuncId) (fn : Func) (hf : Tryd.pinned.checked.prog.funcNamed Rows.purlKindsMatchSpecRow.func = some f) (hfn : Tryd.pinned.checked.prog.funcs[f]? = some fn) :
    false = Tryd.pinned.checked.prog.looks [] ∧ ∀ (j : Nat) t, fn.params[j]? = some t → Tryd.pinned.checked.prog.wantsStandIn t = false := by
  obtain rfl : f = 5 := Option.some.inj ((show Tryd.prog.funcNamed Rows.purlKindsMatchSpecRow.func = some 5 by kernel_rfl).symm.trans hf) |>.symm
  obtain rfl : fn = Tryd.f5 := (Option.some.inj (Tryd.func5.symm.trans hfn)).symm
  refine ⟨by kernel_rfl, fun j t ht => ?_⟩
  rw [Tryd.params5] at ht
  have hall : ∀ x ∈ (#[9] : Array TypeId), Tryd.prog.wantsStandIn x = false := by
    intro x hx
    have hl : (#[9] : Array TypeId).toList.all (fun x => Tryd.prog.wantsStandIn x == false) = true := by kernel_rfl
    simpa using List.all_eq_true.1 hl x (by simpa using hx)
  exact hall t (Array.mem_of_getElem? ht)
/-- THE CARD. -/
theorem card : Rows.PurlKindsMatchSpecCardSaid :=
  Claim7.holds_tied_plain_at .later [] _ _ _ _ said (fun _ h => by cases h) (by kernel_rfl) (fun _ h => by cases h) purlKindsMatchSpec_row_tie rfl ⟨rfl, rfl⟩ (by kernel_rfl) rfl plain (by kernel_rfl)
end Go.Proofs.YtmnfjbmhlabdaaaDoor.purlKindsMatchSpec
