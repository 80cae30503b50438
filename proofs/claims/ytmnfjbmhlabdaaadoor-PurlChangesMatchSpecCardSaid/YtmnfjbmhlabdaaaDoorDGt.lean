/- The tools to say that a function answers so with all rounds from some number on. Conditions: none. -/
import Derived.Test.YtmnfjbmhlabdaaaDoorDPrx0
import Derived.Laws.Strings
namespace Go.Proofs.YtmnfjbmhlabdaaaDoor.Pr
open Go.RowKit Go.Proofs.YtmnfjbmhlabdaaaDoorW.PrintWords Go.Proofs.YtmnfjbmhlabdaaaDoorW.PrintLast Go.Proofs.YtmnfjbmhlabdaaaDoorW.PrintMore
def Gets {α : Type} (g : Nat → Option α) (r : α) : Prop := ∃ K, ∀ k, K ≤ k → g k = some r
theorem Gets.pure {α : Type} (r : α) : Gets (fun _ => some r) r := ⟨0, fun _ _ => rfl⟩
theorem Gets.of {α : Type} {g : Option α} {r : α} (h : g = some r) : Gets (fun _ => g) r := ⟨0, fun _ _ => h⟩
theorem Gets.bind {α β : Type} {g : Nat → Option α} {a : α} {f : Nat → α → Option β} {b : β} (h : Gets g a) (h2 : Gets (fun k => f k a) b) : Gets (fun k => (g k).bind (f k)) b := by
 obtain ⟨K, h⟩ := h
 obtain ⟨K2, h2⟩ := h2
 exact ⟨max K K2, fun k hk => by show (g k).bind (f k) = some b; rw [h k (by omega)]; exact h2 k (by omega)⟩
theorem Gets.succ {α : Type} {g : Nat → Option α} {r : α} (h : Gets (fun k => g (k + 1)) r) : Gets g r := by
 obtain ⟨K, h⟩ := h
 refine ⟨K + 1, fun k hk => ?_⟩
 obtain ⟨k, rfl⟩ : ∃ m, k = m + 1 := ⟨k - 1, by omega⟩
 exact h k (by omega)
theorem Gets.congr {α : Type} {g : Nat → Option α} {r r' : α} (h : Gets g r) (e : r = r') : Gets g r' := e ▸ h
theorem Gets.mono {α : Type} {g : Nat → Option α} (hm : ∀ k, LeO (g k) (g (k + 1))) (K : Nat) {r : α} (h : g K = some r) : Gets g r := ⟨K, fun k hk => by
 induction hk with
 | refl => exact h
 | step _ ih => exact hm _ _ ih⟩
theorem wrap_succ (i : Nat) (h : i ≤ 9223372036854775806) : wrap64 ((i : Int) + 1) = ((i + 1 : Nat) : Int) := by unfold wrap64; omega
end Go.Proofs.YtmnfjbmhlabdaaaDoor.Pr
