/- Rows, certificates, accumulations. -/
import Derived.Test.YtegamlopcdjiaaaDoorUCrt4
namespace Go.Proofs.YtegamlopcdjiaaaDoor.Sha
open Go Go.Abs Go.Abs.Sha Go.Abs.Srt
set_option linter.unusedSimpArgs false
set_option linter.unusedVariables false
set_option maxRecDepth 100000
attribute [local irreducible] W Wops WopsD WL Wop WopD
variable {E : Env} {C : Abs.Spec} {l : List (Nat × Spec1)} {G : List (Nat × V)} {Q : R → List (Nat × V) → Prop}
set_option maxHeartbeats 1000000
theorem look_mem {α : Type} {f : Nat} {s : α} : ∀ {l : List (Nat × α)}, Abs.look l f = some s → (f, s) ∈ l
  | [], h => by cases h
  | (k, x) :: l, h => by
    rw [look_cons] at h
    by_cases e : f = k
    · rw [if_pos e] at h; cases h; rw [e]; exact List.mem_cons_self ..
    · rw [if_neg e] at h; exact List.mem_cons_of_mem _ (look_mem h)
theorem sub_of {T l : List (Nat × Spec1)} (h : ∀ p ∈ T, Abs.look l p.1 = some p.2) : Sub T l := fun f s hf => h (f, s) (look_mem hf)
theorem right_signed {kt : List Int} {a : AttS} : (a.signed kt).right kt = a.may := by
  unfold AttS.right AttS.signed
  have e : ({ a with ta := a.tag kt } : AttS).may = a.may := rfl
  have t : ({ a with ta := a.tag kt } : AttS).tag kt = a.tag kt := rfl
  rw [e, t, decide_eq_true rfl, Bool.and_true]
end Go.Proofs.YtegamlopcdjiaaaDoor.Sha
