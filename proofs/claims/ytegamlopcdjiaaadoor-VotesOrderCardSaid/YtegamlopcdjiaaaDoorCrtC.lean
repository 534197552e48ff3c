/- Rows of signatures, from values. -/
import Derived.Test.YtegamlopcdjiaaaDoorCrtA
namespace Go.Abs.Sha
open Go Go.Abs Go.Abs.Srt
theorem cut3' {key : V → Int} (A S B : List V) : (A ++ S ++ B).take A.length ++ srt key (((A ++ S ++ B).take (A ++ S).length).drop A.length) ++ (A ++ S ++ B).drop (A ++ S).length = A ++ srt key S ++ B := by
  rw [List.take_left, List.drop_left, List.drop_left, List.append_assoc A S B, List.take_left]
theorem sigs_of : ∀ {xs : List V}, (∀ e ∈ xs, ∃ p : Int × List Int, e = sgV p ∧ I64 p.1 ∧ H32 p.2) → ∃ sg : List (Int × List Int), xs = sg.map sgV ∧ ∀ p ∈ sg, I64 p.1 ∧ H32 p.2
  | [], _ => ⟨[], rfl, fun a ha => by cases ha⟩
  | x :: xs, h => by
    obtain ⟨a, rfl, hw⟩ := h x (List.mem_cons_self ..)
    obtain ⟨sg, rfl, hws⟩ := sigs_of (xs := xs) fun e he => h e (List.mem_cons_of_mem _ he)
    exact ⟨a :: sg, rfl, fun b hb => by rcases List.mem_cons.1 hb with rfl | hb <;> first | exact hw | exact hws _ hb⟩
theorem list_of {α : Type} {f : α → V} {P : α → Prop} : ∀ {xs : List V}, (∀ e ∈ xs, ∃ a, e = f a ∧ P a) → ∃ as : List α, xs = as.map f ∧ ∀ a ∈ as, P a
  | [], _ => ⟨[], rfl, fun a ha => by cases ha⟩
  | x :: xs, h => by
    obtain ⟨a, rfl, hw⟩ := h x (List.mem_cons_self ..)
    obtain ⟨sg, rfl, hws⟩ := list_of (xs := xs) fun e he => h e (List.mem_cons_of_mem _ he)
    exact ⟨a :: sg, rfl, fun b hb => by rcases List.mem_cons.1 hb with rfl | hb <;> first | exact hw | exact hws _ hb⟩
end Go.Abs.Sha
