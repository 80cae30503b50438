/- The law PurlDigestsMatchSpec of the program, said of it for every input: the row and its card. Conditions: none beyond the row's own (each text and slice of at most 140737488351232 bytes; the listed tables read as they are laid). -/
import Derived.Test.YtmnfjbmhlabdaaaDoorCards
import Derived.Test.YtmnfjbmhlabdaaaDoorDRv
import Derived.Test.YtmnfjbmhlabdaaaDoorDPl10
import Derived.Test.YtmnfjbmhlabdaaaDoorDKb
namespace Go.Proofs.YtmnfjbmhlabdaaaDoor.purlDigestsMatchSpec
open Go.ChangeShapes Go.WideShapes Go.ChangeAt Go.RowKit
set_option linter.unusedVariables false
set_option maxRecDepth 100000 in
theorem contract (H : Type) (enc : TypeId × Value → H) (W : World) (base : Nat) (args : Array Value) (ds gs : List (DataW H)) (before : List MemPlace)
  (hval : ∀ (j : Nat) t v, Tryd.f9.params[j]? = some t → args[j]? = some v → Value.okWide Tryd.prog W .any base t v)
  (hW : DataW.Whole enc Tryd.prog Tryd.f9.params.toList Rows.purlDigestsMatchSpecSpec.vars false W args.toList ds gs before)
  (hsz : (DataW.weightsEach Tryd.prog (Tryd.f9.params.toList ++ (OpenSpec.ofChange Rows.purlDigestsMatchSpecSpec).bare.plain.varTypes Tryd.prog) (ds ++ gs)).all (· ≤ reachBytes) = true)
  (hL : laidMetH Tryd.prog Rows.purlDigestsMatchSpecRow.laid W) :
  Calls Tryd.prog 9 args W fun e W' => ∃ v, e = .returned v ∧ Rows.purlDigestsMatchSpecSpec.post enc Tryd.prog Tryd.f9 false true false false W args v W' := by
 have hW' := hW
 obtain ⟨p, q, hA, hV, rfl, hfz, hnd⟩ := hW
 have hA2 := hA
 rw [Tryd.params9] at hA2 hval hsz
 obtain ⟨v0, vs0, d0, ds0, p0, q0, hargs, rfl, rfl, h0, r0⟩ := trodAll_cons hA2
 obtain ⟨v1, vs1, d1, ds1, p1, q1, rfl, rfl, rfl, h1, r1⟩ := trodAll_cons r0
 obtain ⟨v2, vs2, d2, ds2, p2, q2, rfl, rfl, rfl, h2, r2⟩ := trodAll_cons r1
 obtain ⟨rfl, rfl, rfl⟩ := trodAll_nil r2
 obtain rfl : args = #[v0, v1, v2] := by cases args; simp_all
 obtain ⟨rfl, rfl⟩ := trodVars_none hV
 obtain ⟨a0, hK0, hB0⟩ := Rw.par (Op.Opn.string Tryd.underlying9 (by kernel_rfl)) h0 hsz (j := 0) rfl rfl
 obtain ⟨s0, rfl⟩ := okWide_string Tryd.underlying9 (hval 0 9 v0 rfl rfl)
 have e0 : ([Value.string s0] : List Value) = [.string a0] := hK0
 obtain rfl : a0 = s0 := by cases e0; rfl
 obtain ⟨a1, hK1, hB1⟩ := Rw.par (Op.Opn.slice Tryd.underlying51 (by kernel_rfl) (Op.Opn.struct (fun x : Pr.S108 => (x.f0, x.f1)) (fun p => ⟨p.1, p.2⟩) (fun _ => rfl) Tryd.underlying108 (by kernel_rfl) (.cons rfl (Op.Opn.string Tryd.underlying9 (by kernel_rfl)) (.one rfl (Op.Opn.string Tryd.underlying9 (by kernel_rfl)))))) h1 hsz (j := 1) rfl rfl
 obtain ⟨b1, n1, c1, rfl⟩ := okWide_slice Tryd.underlying51 (hval 1 51 v1 rfl rfl)
 obtain ⟨A1, m1, e1, hc1, hr1⟩ := hK1
 have e1 : ([Value.slice b1 n1 c1] : List Value) = [.slice A1 a1.length m1] := e1
 obtain ⟨rfl, rfl, rfl⟩ : b1 = A1 ∧ n1 = a1.length ∧ c1 = m1 := by cases e1; exact ⟨rfl, rfl, rfl⟩
 obtain ⟨a2, hK2, hB2⟩ := Rw.par (Op.Opn.slice Tryd.underlying51 (by kernel_rfl) (Op.Opn.struct (fun x : Pr.S108 => (x.f0, x.f1)) (fun p => ⟨p.1, p.2⟩) (fun _ => rfl) Tryd.underlying108 (by kernel_rfl) (.cons rfl (Op.Opn.string Tryd.underlying9 (by kernel_rfl)) (.one rfl (Op.Opn.string Tryd.underlying9 (by kernel_rfl)))))) h2 hsz (j := 2) rfl rfl
 obtain ⟨b2, n2, c2, rfl⟩ := okWide_slice Tryd.underlying51 (hval 2 51 v2 rfl rfl)
 obtain ⟨A2, m2, e2, hc2, hr2⟩ := hK2
 have e2 : ([Value.slice b2 n2 c2] : List Value) = [.slice A2 a2.length m2] := e2
 obtain ⟨rfl, rfl, rfl⟩ : b2 = A2 ∧ n2 = a2.length ∧ c2 = m2 := by cases e2; exact ⟨rfl, rfl, rfl⟩
 obtain ⟨K, hK⟩ := Pr.digests_row a0 a1 a2 hB0 hB1.2.2 hB2.2.2
 refine (Pr.provenderlaw2_PurlDigestsMatchSpec.calls K a0 b1 c1 a1 b2 c2 a2 true W (Rw.laidW hL) hr1 hc1 hr2 hc2 (hK K (Nat.le_refl _)) ⟨rfl⟩).mono fun e W' ⟨he, bel⟩ => ?_
 subst he
 exact ⟨_, rfl, _, _, _, [], _, [], hW', trodAll_mk1 (shut_bool Tryd.underlying4 _), Rw.back Rw.laidOut bel (by kernel_rfl) hA, rfl, bel.frame _, fun h => by cases h⟩
theorem reads (os : Os) {H : Type} (enc : TypeId × Value → H) : DataW.whole enc Tryd.prog ((Rw.laidWorld os).forCall (fun _ _ => 0) ⟨#[], #[.string ByteArray.empty, .slice none 0 0, .slice none 0 0], []⟩).memory Tryd.f9.params.toList Rows.purlDigestsMatchSpecSpec.vars false #[.string ByteArray.empty, .slice none 0 0, .slice none 0 0].toList 8 = some ([.lit (.string []), .nil, .nil], [], []) :=
 by kernel_rfl
theorem weighed {H : Type} : (DataW.weightsEach Tryd.prog (Tryd.f9.params.toList ++ (OpenSpec.ofChange Rows.purlDigestsMatchSpecSpec).bare.plain.varTypes Tryd.prog) (([.lit (.string []), .nil, .nil] : List (DataW H)) ++ [])).all (· ≤ reachBytes) = true := by kernel_rfl
set_option maxRecDepth 100000 in
theorem lifted (os : Os) (started : os.Started) (H : Type) (enc : TypeId × Value → H) (F : Stop.Interp) :
  ReturnsInHanded {} Tryd.checked os 9 .any ((OpenSpec.ofChange Rows.purlDigestsMatchSpecSpec).preRow enc Tryd.prog Tryd.f9 Rows.purlDigestsMatchSpecRow.domain false Rows.purlDigestsMatchSpecRow.laid) (((OpenSpec.ofChange Rows.purlDigestsMatchSpecSpec).at F).post enc Tryd.prog Tryd.f9 false true false false) := by
 refine returnsInHanded_of_row (C := Tryd.checked) (s := OpenSpec.ofChange Rows.purlDigestsMatchSpecSpec) Rw.own started (by kernel_rfl) Tryd.func9
  (witness_row_at (enc := enc) (C := Tryd.checked) false (Rw.laidWorld os) #[.string ByteArray.empty, .slice none 0 0, .slice none 0 0] rfl (by kernel_rfl) (by kernel_rfl) (by kernel_rfl)
   (OpenSpec.preRow_of_cond 8 (reads os enc) rfl (fun k hk => by cases hk) (weighed (H := H)) (Rw.laid_met5 os _))) ?_
 intro W base args ds gs before hval hW _ _ hsz hL _ _
 exact contract H enc W base args ds gs before hval hW hsz hL
theorem said : Rows.PurlDigestsMatchSpecSaid :=
 OpenClaim.holds_of_cond 9 Tryd.f9 rfl rfl rfl rfl rfl rfl rfl ⟨rfl, rfl, rfl, rfl, rfl⟩ rfl rfl rfl rfl rfl (by kernel_rfl) Tryd.func9 (by kernel_rfl)
  (of_decide_eq_true (by kernel_rfl)) (by unfold Func.isWrapper; first | (rw [if_pos (by decide +kernel)]; kernel_rfl) | (rw [if_neg (by decide +kernel)]; exact ⟨rfl, rfl⟩))
  (fun os started H enc _ F => by rw [OpenClaim.pre_eq_preRow]; exact lifted os started H enc F)
theorem plain (f : FuncId) (fn : Func) (hf : Tryd.pinned.checked.prog.funcNamed Rows.purlDigestsMatchSpecRow.func = some f) (hfn : Tryd.pinned.checked.prog.funcs[f]? = some fn) :
  false = Tryd.pinned.checked.prog.looks [] ∧ ∀ (j : Nat) t, fn.params[j]? = some t → Tryd.pinned.checked.prog.wantsStandIn t = false := by
 obtain rfl : f = 9 := Option.some.inj ((show Tryd.prog.funcNamed Rows.purlDigestsMatchSpecRow.func = some 9 by kernel_rfl).symm.trans hf) |>.symm
 obtain rfl : fn = Tryd.f9 := (Option.some.inj (Tryd.func9.symm.trans hfn)).symm
 refine ⟨by kernel_rfl, fun j t ht => ?_⟩
 rw [Tryd.params9] at ht
 have hall : ∀ x ∈ (#[9, 51, 51] : Array TypeId), Tryd.prog.wantsStandIn x = false := by
  intro x hx
  have hl : (#[9, 51, 51] : Array TypeId).toList.all (fun x => Tryd.prog.wantsStandIn x == false) = true := by kernel_rfl
  simpa using List.all_eq_true.1 hl x (by simpa using hx)
 exact hall t (Array.mem_of_getElem? ht)
/-- THE CARD. -/
theorem card : Rows.PurlDigestsMatchSpecCardSaid :=
 Claim7.holds_tied_plain_at .later [] _ _ _ _ said (fun _ h => by cases h) (by kernel_rfl) (fun _ h => by cases h) purlDigestsMatchSpec_row_tie rfl ⟨rfl, rfl⟩ (by kernel_rfl) rfl plain (by kernel_rfl)
end Go.Proofs.YtmnfjbmhlabdaaaDoor.purlDigestsMatchSpec
