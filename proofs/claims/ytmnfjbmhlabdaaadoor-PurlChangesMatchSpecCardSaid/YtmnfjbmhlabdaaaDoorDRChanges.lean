/- The law PurlChangesMatchSpec of the program, said of it for every input: the row and its card. Conditions: none beyond the row's own (each text and slice of at most 140737488351232 bytes; the three listed tables read as they are laid). -/
import Derived.Test.YtmnfjbmhlabdaaaDoorCards
import Derived.Test.YtmnfjbmhlabdaaaDoorDRw
import Derived.Test.YtmnfjbmhlabdaaaDoorDPn8
import Derived.Test.YtmnfjbmhlabdaaaDoorDK
namespace Go.Proofs.YtmnfjbmhlabdaaaDoor.purlChangesMatchSpec
open Go.ChangeShapes Go.WideShapes Go.ChangeAt Go.RowKit
set_option linter.unusedVariables false
set_option maxRecDepth 100000 in
theorem contract (H : Type) (enc : TypeId × Value → H) (W : World) (base : Nat) (args : Array Value) (ds gs : List (DataW H)) (before : List MemPlace)
  (hval : ∀ (j : Nat) t v, Tryd.f7.params[j]? = some t → args[j]? = some v → Value.okWide Tryd.prog W .any base t v)
  (hW : DataW.Whole enc Tryd.prog Tryd.f7.params.toList Rows.purlChangesMatchSpecSpec.vars false W args.toList ds gs before)
  (hsz : (DataW.weightsEach Tryd.prog (Tryd.f7.params.toList ++ (OpenSpec.ofChange Rows.purlChangesMatchSpecSpec).bare.plain.varTypes Tryd.prog) (ds ++ gs)).all (· ≤ reachBytes) = true)
  (hL : laidMetH Tryd.prog Rows.purlChangesMatchSpecRow.laid W) :
  Calls Tryd.prog 7 args W fun e W' => ∃ v, e = .returned v ∧ Rows.purlChangesMatchSpecSpec.post enc Tryd.prog Tryd.f7 false true false false W args v W' := by
 have hW' := hW
 obtain ⟨p, q, hA, hV, rfl, hfz, hnd⟩ := hW
 have hA2 := hA
 rw [Tryd.params7] at hA2 hval hsz
 obtain ⟨v0, vs0, d0, ds0, p0, q0, hargs, rfl, rfl, h0, r0⟩ := trodAll_cons hA2
 obtain ⟨v1, vs1, d1, ds1, p1, q1, rfl, rfl, rfl, h1, r1⟩ := trodAll_cons r0
 obtain ⟨v2, vs2, d2, ds2, p2, q2, rfl, rfl, rfl, h2, r2⟩ := trodAll_cons r1
 obtain ⟨v3, vs3, d3, ds3, p3, q3, rfl, rfl, rfl, h3, r3⟩ := trodAll_cons r2
 obtain ⟨rfl, rfl, rfl⟩ := trodAll_nil r3
 obtain rfl : args = #[v0, v1, v2, v3] := by cases args; simp_all
 obtain ⟨rfl, rfl⟩ := trodVars_none hV
 obtain ⟨a0, hK0, hB0⟩ := Rw.par (Op.Opn.struct id id (fun _ => rfl) Tryd.underlying24 (by kernel_rfl) (.cons rfl (Op.Opn.string Tryd.underlying9 (by kernel_rfl)) (.cons rfl (Op.Opn.string Tryd.underlying9 (by kernel_rfl)) (.cons rfl (Op.Opn.string Tryd.underlying9 (by kernel_rfl)) (.cons rfl (Op.Opn.string Tryd.underlying9 (by kernel_rfl)) (.cons rfl (Op.Opn.slice Tryd.underlying22 (by kernel_rfl) (Op.Opn.struct (fun x : Pr.S64 => (x.f0, x.f1)) (fun p => ⟨p.1, p.2⟩) (fun _ => rfl) Tryd.underlying64 (by kernel_rfl) (.cons rfl (Op.Opn.string Tryd.underlying9 (by kernel_rfl)) (.one rfl (Op.Opn.string Tryd.underlying9 (by kernel_rfl)))))) (.one rfl (Op.Opn.string Tryd.underlying9 (by kernel_rfl))))))))) h0 hsz (j := 0) rfl rfl
 obtain ⟨s0, rfl, z0⟩ := okWide_struct Tryd.underlying24 (hval 0 24 v0 rfl rfl)
 obtain ⟨y0_0, w0_0, gy0_0, hy0_0, hw0_0⟩ := hK0
 have gy0_0 : s0.toList = y0_0 ++ w0_0 := gy0_0
 have l0_1 : y0_0 = [.string (a0.1)] := hy0_0
 obtain ⟨y0_2, w0_2, gy0_2, hy0_2, hw0_2⟩ := hw0_0
 have gy0_2 : w0_0 = y0_2 ++ w0_2 := gy0_2
 have l0_3 : y0_2 = [.string (a0.2.1)] := hy0_2
 obtain ⟨y0_4, w0_4, gy0_4, hy0_4, hw0_4⟩ := hw0_2
 have gy0_4 : w0_2 = y0_4 ++ w0_4 := gy0_4
 have l0_5 : y0_4 = [.string (a0.2.2.1)] := hy0_4
 obtain ⟨y0_6, w0_6, gy0_6, hy0_6, hw0_6⟩ := hw0_4
 have gy0_6 : w0_4 = y0_6 ++ w0_6 := gy0_6
 have l0_7 : y0_6 = [.string (a0.2.2.2.1)] := hy0_6
 obtain ⟨y0_8, w0_8, gy0_8, hy0_8, hw0_8⟩ := hw0_6
 have gy0_8 : w0_6 = y0_8 ++ w0_8 := gy0_8
 obtain ⟨A0_9, m0_9, l0_9, hc0_9, hr0_9⟩ := hy0_8
 have l0_9 : y0_8 = [.slice A0_9 (a0.2.2.2.2.1).length m0_9] := l0_9
 have l0_10 : w0_8 = [.string (a0.2.2.2.2.2)] := hw0_8
 have e0 : s0.toList = [.string (a0.1), .string (a0.2.1), .string (a0.2.2.1), .string (a0.2.2.2.1), .slice A0_9 (a0.2.2.2.2.1).length m0_9, .string (a0.2.2.2.2.2)] := by rw [gy0_0, l0_1, gy0_2, l0_3, gy0_4, l0_5, gy0_6, l0_7, gy0_8, l0_9, l0_10]; rfl
 obtain rfl : s0 = #[.string (a0.1), .string (a0.2.1), .string (a0.2.2.1), .string (a0.2.2.2.1), .slice A0_9 (a0.2.2.2.2.1).length m0_9, .string (a0.2.2.2.2.2)] := Array.toList_inj.1 e0
 obtain ⟨a1, hK1, hB1⟩ := Rw.par (Op.Opn.string Tryd.underlying9 (by kernel_rfl)) h1 hsz (j := 1) rfl rfl
 obtain ⟨s1, rfl⟩ := okWide_string Tryd.underlying9 (hval 1 9 v1 rfl rfl)
 have e1 : ([Value.string s1] : List Value) = [.string a1] := hK1
 obtain rfl : a1 = s1 := by cases e1; rfl
 obtain ⟨a2, hK2, hB2⟩ := Rw.par (Op.Opn.string Tryd.underlying9 (by kernel_rfl)) h2 hsz (j := 2) rfl rfl
 obtain ⟨s2, rfl⟩ := okWide_string Tryd.underlying9 (hval 2 9 v2 rfl rfl)
 have e2 : ([Value.string s2] : List Value) = [.string a2] := hK2
 obtain rfl : a2 = s2 := by cases e2; rfl
 obtain ⟨a3, hK3, hB3⟩ := Rw.par (Op.Opn.string Tryd.underlying9 (by kernel_rfl)) h3 hsz (j := 3) rfl rfl
 obtain ⟨s3, rfl⟩ := okWide_string Tryd.underlying9 (hval 3 9 v3 rfl rfl)
 have e3 : ([Value.string s3] : List Value) = [.string a3] := hK3
 obtain rfl : a3 = s3 := by cases e3; rfl
 obtain ⟨K, hK⟩ := Pr.changes_row (a0.1) (a0.2.1) (a0.2.2.1) (a0.2.2.2.1) (a0.2.2.2.2.1) (a0.2.2.2.2.2) a1 a2 a3 hB0.1 hB0.2.1 hB0.2.2.1 hB0.2.2.2.1 hB0.2.2.2.2.1.1 hB0.2.2.2.2.2 hB1 hB2 hB3
 refine (Pr.l2_PurlChangesMatchSpec.calls K (a0.1) (a0.2.1) (a0.2.2.1) (a0.2.2.2.1) A0_9 m0_9 (a0.2.2.2.2.1) (a0.2.2.2.2.2) a1 a2 a3 true W hr0_9 hc0_9 (hK K (Nat.le_refl _)) ⟨rfl⟩).mono fun e W' ⟨he, bel⟩ => ?_
 subst he
 exact ⟨_, rfl, _, _, _, [], _, [], hW', trodAll_mk1 (shut_bool Tryd.underlying4 _), Rw.back Rw.laidOut bel (by kernel_rfl) hA, rfl, bel.frame _, fun h => by cases h⟩
theorem reads (os : Os) {H : Type} (enc : TypeId × Value → H) : DataW.whole enc Tryd.prog ((Rw.laidWorld os).forCall (fun _ _ => 0) ⟨#[], #[.agg #[.string ByteArray.empty, .string ByteArray.empty, .string ByteArray.empty, .string ByteArray.empty, .slice none 0 0, .string ByteArray.empty], .string ByteArray.empty, .string ByteArray.empty, .string ByteArray.empty], []⟩).memory Tryd.f7.params.toList Rows.purlChangesMatchSpecSpec.vars false #[.agg #[.string ByteArray.empty, .string ByteArray.empty, .string ByteArray.empty, .string ByteArray.empty, .slice none 0 0, .string ByteArray.empty], .string ByteArray.empty, .string ByteArray.empty, .string ByteArray.empty].toList 8 = some ([.agg [.lit (.string []), .lit (.string []), .lit (.string []), .lit (.string []), .nil, .lit (.string [])], .lit (.string []), .lit (.string []), .lit (.string [])], [], []) :=
 by kernel_rfl
theorem weighed {H : Type} : (DataW.weightsEach Tryd.prog (Tryd.f7.params.toList ++ (OpenSpec.ofChange Rows.purlChangesMatchSpecSpec).bare.plain.varTypes Tryd.prog) (([.agg [.lit (.string []), .lit (.string []), .lit (.string []), .lit (.string []), .nil, .lit (.string [])], .lit (.string []), .lit (.string []), .lit (.string [])] : List (DataW H)) ++ [])).all (· ≤ reachBytes) = true := by kernel_rfl
set_option maxRecDepth 100000 in
theorem lifted (os : Os) (started : os.Started) (H : Type) (enc : TypeId × Value → H) (F : Stop.Interp) :
  ReturnsInHanded {} Tryd.checked os 7 .any ((OpenSpec.ofChange Rows.purlChangesMatchSpecSpec).preRow enc Tryd.prog Tryd.f7 Rows.purlChangesMatchSpecRow.domain false Rows.purlChangesMatchSpecRow.laid) (((OpenSpec.ofChange Rows.purlChangesMatchSpecSpec).at F).post enc Tryd.prog Tryd.f7 false true false false) := by
 refine returnsInHanded_of_row (C := Tryd.checked) (s := OpenSpec.ofChange Rows.purlChangesMatchSpecSpec) Rw.own started (by kernel_rfl) Tryd.func7
  (witness_row_at (enc := enc) (C := Tryd.checked) false (Rw.laidWorld os) #[.agg #[.string ByteArray.empty, .string ByteArray.empty, .string ByteArray.empty, .string ByteArray.empty, .slice none 0 0, .string ByteArray.empty], .string ByteArray.empty, .string ByteArray.empty, .string ByteArray.empty] rfl (by kernel_rfl) (by kernel_rfl) (by kernel_rfl)
   (OpenSpec.preRow_of_cond 8 (reads os enc) rfl (fun k hk => by cases hk) (weighed (H := H)) (Rw.laid_met os _))) ?_
 intro W base args ds gs before hval hW _ _ hsz hL _ _
 exact contract H enc W base args ds gs before hval hW hsz hL
theorem said : Rows.PurlChangesMatchSpecSaid :=
 OpenClaim.holds_of_cond 7 Tryd.f7 rfl rfl rfl rfl rfl rfl rfl ⟨rfl, rfl, rfl, rfl, rfl⟩ rfl rfl rfl rfl rfl (by kernel_rfl) Tryd.func7 (by kernel_rfl)
  (of_decide_eq_true (by kernel_rfl)) (by unfold Func.isWrapper; first | (rw [if_pos (by decide +kernel)]; kernel_rfl) | (rw [if_neg (by decide +kernel)]; exact ⟨rfl, rfl⟩))
  (fun os started H enc _ F => by rw [OpenClaim.pre_eq_preRow]; exact lifted os started H enc F)
theorem plain (f : FuncId) (fn : Func) (hf : Tryd.pinned.checked.prog.funcNamed Rows.purlChangesMatchSpecRow.func = some f) (hfn : Tryd.pinned.checked.prog.funcs[f]? = some fn) :
  false = Tryd.pinned.checked.prog.looks [] ∧ ∀ (j : Nat) t, fn.params[j]? = some t → Tryd.pinned.checked.prog.wantsStandIn t = false := by
 obtain rfl : f = 7 := Option.some.inj ((show Tryd.prog.funcNamed Rows.purlChangesMatchSpecRow.func = some 7 by kernel_rfl).symm.trans hf) |>.symm
 obtain rfl : fn = Tryd.f7 := (Option.some.inj (Tryd.func7.symm.trans hfn)).symm
 refine ⟨by kernel_rfl, fun j t ht => ?_⟩
 rw [Tryd.params7] at ht
 have hall : ∀ x ∈ (#[24, 9, 9, 9] : Array TypeId), Tryd.prog.wantsStandIn x = false := by
  intro x hx
  have hl : (#[24, 9, 9, 9] : Array TypeId).toList.all (fun x => Tryd.prog.wantsStandIn x == false) = true := by kernel_rfl
  simpa using List.all_eq_true.1 hl x (by simpa using hx)
 exact hall t (Array.mem_of_getElem? ht)
theorem card : Rows.PurlChangesMatchSpecCardSaid :=
 Claim7.holds_tied_plain_at .later [] _ _ _ _ said (fun _ h => by cases h) (by kernel_rfl) (fun _ h => by cases h) purlChangesMatchSpec_row_tie rfl ⟨rfl, rfl⟩ (by kernel_rfl) rfl plain (by kernel_rfl)
end Go.Proofs.YtmnfjbmhlabdaaaDoor.purlChangesMatchSpec
