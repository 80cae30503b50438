/- The law PurlCanonicalMatchesSpec of the program, said of it for every input: the row and its card. Conditions: none beyond the row's own. -/
import Derived.Test.YtmnfjbmhlabdaaaDoorCards
import Derived.Test.YtmnfjbmhlabdaaaDoorCRw
import Derived.Test.YtmnfjbmhlabdaaaDoorCPm11
import Derived.Test.YtmnfjbmhlabdaaaDoorCK
namespace Go.Proofs.YtmnfjbmhlabdaaaDoor.purlCanonicalMatchesSpec
open Go.ChangeShapes Go.WideShapes Go.ChangeAt Go.RowKit
set_option linter.unusedVariables false
set_option maxRecDepth 100000 in
theorem contract (H : Type) (enc : TypeId × Value → H) (W : World) (base : Nat) (args : Array Value) (ds gs : List (DataW H)) (before : List MemPlace)
  (hval : ∀ (j : Nat) t v, Tryd.f6.params[j]? = some t → args[j]? = some v → Value.okWide Tryd.prog W .any base t v)
  (hW : DataW.Whole enc Tryd.prog Tryd.f6.params.toList Rows.purlCanonicalMatchesSpecSpec.vars false W args.toList ds gs before)
  (hsz : (DataW.weightsEach Tryd.prog (Tryd.f6.params.toList ++ (OpenSpec.ofChange Rows.purlCanonicalMatchesSpecSpec).bare.plain.varTypes Tryd.prog) (ds ++ gs)).all (· ≤ reachBytes) = true)
  (hL : laidMetH Tryd.prog Rows.purlCanonicalMatchesSpecRow.laid W) :
  Calls Tryd.prog 6 args W fun e W' => ∃ v, e = .returned v ∧ Rows.purlCanonicalMatchesSpecSpec.post enc Tryd.prog Tryd.f6 false true false false W args v W' := by
 have hW' := hW
 obtain ⟨p, q, hA, hV, rfl, hfz, hnd⟩ := hW
 have hA2 := hA
 rw [Tryd.params6] at hA2 hval hsz
 obtain ⟨v0, vs0, d0, ds0, p0, q0, hargs, rfl, rfl, h0, r0⟩ := trodAll_cons hA2
 obtain ⟨rfl, rfl, rfl⟩ := trodAll_nil r0
 obtain rfl : args = #[v0] := by cases args; simp_all
 obtain ⟨rfl, rfl⟩ := trodVars_none hV
 obtain ⟨a0, hK0, hB0⟩ := Rw.par (Op.Opn.struct id id (fun _ => rfl) Tryd.underlying24 (by kernel_rfl) (.cons rfl (Op.Opn.string Tryd.underlying9 (by kernel_rfl)) (.cons rfl (Op.Opn.string Tryd.underlying9 (by kernel_rfl)) (.cons rfl (Op.Opn.string Tryd.underlying9 (by kernel_rfl)) (.cons rfl (Op.Opn.string Tryd.underlying9 (by kernel_rfl)) (.cons rfl (Op.Opn.slice Tryd.underlying22 (by kernel_rfl) (Op.Opn.struct (fun x : Pr.S64 => (x.f0, x.f1)) (fun p => ⟨p.1, p.2⟩) (fun _ => rfl) Tryd.underlying64 (by kernel_rfl) (.cons rfl (Op.Opn.string Tryd.underlying9 (by kernel_rfl)) (.one rfl (Op.Opn.string Tryd.underlying9 (by kernel_rfl)))))) (.one rfl (Op.Opn.string Tryd.underlying9 (by kernel_rfl))))))))) h0 hsz (j := 0) rfl rfl
 obtain ⟨s0, rfl, z0⟩ := okWide_struct Tryd.underlying24 (hval 0 24 v0 rfl rfl)
 obtain ⟨y0, w0, g0, u0, x0⟩ := hK0
 have g0 : s0.toList = y0 ++ w0 := g0
 have l0_1 : y0 = [.string (a0.1)] := u0
 obtain ⟨y2, w2, g2, u2, x2⟩ := x0
 have g2 : w0 = y2 ++ w2 := g2
 have l0_3 : y2 = [.string (a0.2.1)] := u2
 obtain ⟨y4, w4, g4, u4, x4⟩ := x2
 have g4 : w2 = y4 ++ w4 := g4
 have l0_5 : y4 = [.string (a0.2.2.1)] := u4
 obtain ⟨y6, w6, g6, u6, x6⟩ := x4
 have g6 : w4 = y6 ++ w6 := g6
 have l0_7 : y6 = [.string (a0.2.2.2.1)] := u6
 obtain ⟨y8, w8, g8, u8, x8⟩ := x6
 have g8 : w6 = y8 ++ w8 := g8
 obtain ⟨A0_9, m0_9, l0_9, hc0_9, hr0_9⟩ := u8
 have l0_9 : y8 = [.slice A0_9 (a0.2.2.2.2.1).length m0_9] := l0_9
 have l0_10 : w8 = [.string (a0.2.2.2.2.2)] := x8
 have e0 : s0.toList = [.string (a0.1), .string (a0.2.1), .string (a0.2.2.1), .string (a0.2.2.2.1), .slice A0_9 (a0.2.2.2.2.1).length m0_9, .string (a0.2.2.2.2.2)] := by rw [g0, l0_1, g2, l0_3, g4, l0_5, g6, l0_7, g8, l0_9, l0_10]; rfl
 obtain rfl : s0 = #[.string (a0.1), .string (a0.2.1), .string (a0.2.2.1), .string (a0.2.2.2.1), .slice A0_9 (a0.2.2.2.2.1).length m0_9, .string (a0.2.2.2.2.2)] := Array.toList_inj.1 e0
 obtain ⟨K, hK⟩ := Pr.canonical_row (a0.1) (a0.2.1) (a0.2.2.1) (a0.2.2.2.1) (a0.2.2.2.2.1) (a0.2.2.2.2.2) hB0.1 hB0.2.1 hB0.2.2.1 hB0.2.2.2.1 hB0.2.2.2.2.1.1 hB0.2.2.2.2.2
 refine (Pr.l2_C.calls K (a0.1) (a0.2.1) (a0.2.2.1) (a0.2.2.2.1) A0_9 m0_9 (a0.2.2.2.2.1) (a0.2.2.2.2.2) true W hr0_9 hc0_9 (hK K (Nat.le_refl _)) ⟨rfl⟩).mono fun e W' ⟨he, bel⟩ => ?_
 subst he
 exact ⟨_, rfl, _, _, _, [], _, [], hW', trodAll_mk1 (shut_bool Tryd.underlying4 _), Rw.back Rw.laidOut bel (by kernel_rfl) hA, rfl, bel.frame _, fun h => by cases h⟩
theorem reads (os : Os) {H : Type} (enc : TypeId × Value → H) : DataW.whole enc Tryd.prog ((Rw.laidWorld os).forCall (fun _ _ => 0) ⟨#[], #[.agg #[.string ByteArray.empty, .string ByteArray.empty, .string ByteArray.empty, .string ByteArray.empty, .slice none 0 0, .string ByteArray.empty]], []⟩).memory Tryd.f6.params.toList Rows.purlCanonicalMatchesSpecSpec.vars false #[.agg #[.string ByteArray.empty, .string ByteArray.empty, .string ByteArray.empty, .string ByteArray.empty, .slice none 0 0, .string ByteArray.empty]].toList 8 = some ([.agg [.lit (.string []), .lit (.string []), .lit (.string []), .lit (.string []), .nil, .lit (.string [])]], [], []) :=
 by kernel_rfl
theorem weighed {H : Type} : (DataW.weightsEach Tryd.prog (Tryd.f6.params.toList ++ (OpenSpec.ofChange Rows.purlCanonicalMatchesSpecSpec).bare.plain.varTypes Tryd.prog) (([.agg [.lit (.string []), .lit (.string []), .lit (.string []), .lit (.string []), .nil, .lit (.string [])]] : List (DataW H)) ++ [])).all (· ≤ reachBytes) = true := by kernel_rfl
set_option maxRecDepth 100000 in
theorem lifted (os : Os) (started : os.Started) (H : Type) (enc : TypeId × Value → H) (F : Stop.Interp) :
  ReturnsInHanded {} Tryd.checked os 6 .any ((OpenSpec.ofChange Rows.purlCanonicalMatchesSpecSpec).preRow enc Tryd.prog Tryd.f6 Rows.purlCanonicalMatchesSpecRow.domain false Rows.purlCanonicalMatchesSpecRow.laid) (((OpenSpec.ofChange Rows.purlCanonicalMatchesSpecSpec).at F).post enc Tryd.prog Tryd.f6 false true false false) := by
 refine returnsInHanded_of_row (C := Tryd.checked) (s := OpenSpec.ofChange Rows.purlCanonicalMatchesSpecSpec) Rw.own started (by kernel_rfl) Tryd.func6
  (witness_row_at (enc := enc) (C := Tryd.checked) false (Rw.laidWorld os) #[.agg #[.string ByteArray.empty, .string ByteArray.empty, .string ByteArray.empty, .string ByteArray.empty, .slice none 0 0, .string ByteArray.empty]] rfl (by kernel_rfl) (by kernel_rfl) (by kernel_rfl)
   (OpenSpec.preRow_of_cond 8 (reads os enc) rfl (fun k hk => by cases hk) (weighed (H := H)) (Rw.laid_met os _))) ?_
 intro W base args ds gs before hval hW _ _ hsz hL _ _
 exact contract H enc W base args ds gs before hval hW hsz hL
theorem said : Rows.PurlCanonicalMatchesSpecSaid :=
 OpenClaim.holds_of_cond 6 Tryd.f6 rfl rfl rfl rfl rfl rfl rfl ⟨rfl, rfl, rfl, rfl, rfl⟩ rfl rfl rfl rfl rfl (by kernel_rfl) Tryd.func6 (by kernel_rfl)
  (of_decide_eq_true (by kernel_rfl)) (by unfold Func.isWrapper; first | (rw [if_pos (by decide +kernel)]; kernel_rfl) | (rw [if_neg (by decide +kernel)]; exact ⟨rfl, rfl⟩))
  (fun os started H enc _ F => by rw [OpenClaim.pre_eq_preRow]; exact lifted os started H enc F)
theorem plain (f : FuncId) (fn : Func) (hf : Tryd.pinned.checked.prog.funcNamed Rows.purlCanonicalMatchesSpecRow.func = some f) (hfn : Tryd.pinned.checked.prog.funcs[f]? = some fn) :
  false = Tryd.pinned.checked.prog.looks [] ∧ ∀ (j : Nat) t, fn.params[j]? = some t → Tryd.pinned.checked.prog.wantsStandIn t = false := by
 obtain rfl : f = 6 := Option.some.inj ((show Tryd.prog.funcNamed Rows.purlCanonicalMatchesSpecRow.func = some 6 by kernel_rfl).symm.trans hf) |>.symm
 obtain rfl : fn = Tryd.f6 := (Option.some.inj (Tryd.func6.symm.trans hfn)).symm
 refine ⟨by kernel_rfl, fun j t ht => ?_⟩
 rw [Tryd.params6] at ht
 have hall : ∀ x ∈ (#[24] : Array TypeId), Tryd.prog.wantsStandIn x = false := by
  intro x hx
  have hl : (#[24] : Array TypeId).toList.all (fun x => Tryd.prog.wantsStandIn x == false) = true := by kernel_rfl
  simpa using List.all_eq_true.1 hl x (by simpa using hx)
 exact hall t (Array.mem_of_getElem? ht)
theorem card : Rows.PurlCanonicalMatchesSpecCardSaid :=
 Claim7.holds_tied_plain_at .later [] _ _ _ _ said (fun _ h => by cases h) (by kernel_rfl) (fun _ h => by cases h) purlCanonicalMatchesSpec_row_tie rfl ⟨rfl, rfl⟩ (by kernel_rfl) rfl plain (by kernel_rfl)
end Go.Proofs.YtmnfjbmhlabdaaaDoor.purlCanonicalMatchesSpec
