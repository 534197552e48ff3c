/- Rows, certificates, accumulations. -/
import Derived.Test.YtegamlopcdjiaaaDoorUCrt4
namespace Go.Proofs.YtegamlopcdjiaaaDoor.Sha
open Go Go.Abs Go.Abs.Sha Go.Abs.Srt
set_option linter.unusedSimpArgs false
set_option linter.unusedVariables false
set_option maxRecDepth 100000
attribute [local irreducible] W Wops WopsD WL Wop WopD
variable {E : Env} {C : Abs.Spec} {l : List (Nat × Spec1)} {G : List (Nat × V)} {Q : R → List (Nat × V) → Prop}
set_option maxHeartbeats 1000000
theorem look_mem {α : Type} {f : Nat} {s : α} : ∀ {l : List (Nat × α)}, Abs.look l f = some s → (f, s) ∈ l
  | [], h => by cases h
  | (k, x) :: l, h => by
    rw [look_cons] at h
    by_cases e : f = k
    · rw [if_pos e] at h; cases h; rw [e]; exact List.mem_cons_self ..
    · rw [if_neg e] at h; exact List.mem_cons_of_mem _ (look_mem h)
theorem sub_of {T l : List (Nat × Spec1)} (h : ∀ p ∈ T, Abs.look l p.1 = some p.2) : Sub T l := fun f s hf => h (f, s) (look_mem hf)
theorem right_signed {kt : List Int} {a : AttS} : (a.signed kt).right kt = a.may := by
  unfold AttS.right AttS.signed
  have e : ({ a with ta := a.tag kt } : AttS).may = a.may := rfl
  have t : ({ a with ta := a.tag kt } : AttS).tag kt = a.tag kt := rfl
  rw [e, t, decide_eq_true rfl, Bool.and_true]
theorem rises_firsts {n : Int} {l : List AttS} : ∀ (m s q : Nat) (low : Int), low < (s : Int) → (s : Int) + m ≤ n + 1 → risesB n low (((((List.range' s m).filterMap fun (k : Nat) => l.find? fun a => decide (a.who = (k : Int))).take q).map fun x => (x.who, x.ta)).map (·.1)) = true := by
  intro m
  induction m with
  | zero => intro s q low h1 h2; simp [risesB]
  | succ m ih =>
    intro s q low h1 h2
    rw [List.range'_succ, List.filterMap_cons]
    cases hf : l.find? fun a => decide (a.who = (s : Int)) with
    | none => exact ih (s + 1) q low (by omega) (by omega)
    | some x =>
      have hx : x.who = (s : Int) := by have := List.find?_some hf; simpa using this
      cases q with
      | zero => rfl
      | succ q =>
        show risesB n low (x.who :: _) = true
        refine Eq.trans (if_neg (by omega)) ?_
        exact ih (s + 1) q x.who (by omega) (by omega)
theorem with_of {a x : AttS} (h : x.alike a = true) : withS (bareA a) (x.who, x.ta) = x := by
  unfold AttS.alike at h
  obtain ⟨h1, h2, h3, h4, h5, h6⟩ := of_decide_eq_true h
  cases x; cases a
  simp only [withS, bareA] at *
  simp [h1, h2, h3, h4, h5, h6]
theorem mk_right {kt : List Int} {n : Int} {l : List AttS} (h : (mkCert kt n l).2 = 0) : CertS.right kt n (mkCert kt n l).1 = true := by
  cases l with
  | nil => cases h
  | cons a l =>
    have e : mkCert kt n (a :: l) = if quo n = 0 then (.zero, 1) else if ((a :: l).any fun x => !(x.right kt) || decide (n < x.who)) = true then (.zero, 7) else if ((a :: l).any fun x => !(x.alike a)) = true then (.zero, 1)
      else if ((firstsA n (a :: l)).length : Int) < quo n then (.zero, 3) else (⟨bareA a, ((firstsA n (a :: l)).take (quo n).toNat).map fun x => (x.who, x.ta)⟩, 0) := rfl
    rw [e] at h ⊢
    by_cases c1 : quo n = 0
    · rw [if_pos c1] at h; cases h
    rw [if_neg c1] at h ⊢
    by_cases c2 : ((a :: l).any fun x => !(x.right kt) || decide (n < x.who)) = true
    · rw [if_pos c2] at h; cases h
    rw [if_neg c2] at h ⊢
    by_cases c3 : ((a :: l).any fun x => !(x.alike a)) = true
    · rw [if_pos c3] at h; cases h
    rw [if_neg c3] at h ⊢
    by_cases c4 : ((firstsA n (a :: l)).length : Int) < quo n
    · rw [if_pos c4] at h; cases h
    rw [if_neg c4]
    have hq := quo_nn n
    obtain ⟨hn1, hn2, _, _⟩ := quo_le c1
    refine Eq.trans (if_neg ?_) ?_
    · rintro (e | e | e | e | e)
      · exact c1 e
      · apply e; show ((List.map _ _).length : Int) = _
        rw [List.length_map, List.length_take]; omega
      · have := rises_firsts (n := n) (l := a :: l) n.toNat 1 (quo n).toNat 0 (by decide) (by omega)
        exact absurd e (by unfold firstsA; rw [this]; decide)
      · exact e rfl
      · exact e rfl
    · rw [List.all_eq_true]
      intro p hp
      obtain ⟨x, hx, rfl⟩ := List.mem_map.1 hp
      have hx := firstsA_mem (List.mem_of_mem_take hx)
      have a1 := List.any_eq_false.1 (by simpa using c3 : ((a :: l).any fun x => !(x.alike a)) = false) x hx
      have a2 := List.any_eq_false.1 (by simpa using c2 : ((a :: l).any fun x => !(x.right kt) || decide (n < x.who)) = false) x hx
      rw [with_of (by simpa using a1)]
      simp only [Bool.or_eq_true, not_or] at a2
      simpa using a2.1
theorem cert_v {c : CertS} : c.v.size = 102 ∧ c.v.isAgg = true ∧ c.v.same (.agg [.agg [.int .i64 0, .int .i64 0, .int .i64 0, .int .i64 0, .arr .u8 32 [0, 0, 0, 0, 0, 0, 0, 0, 0, 0, 0, 0, 0, 0, 0, 0, 0, 0, 0, 0, 0, 0, 0, 0, 0, 0, 0, 0, 0, 0, 0, 0], .int .i64 0, .arr .u8 32 [0, 0, 0, 0, 0, 0, 0, 0, 0, 0, 0, 0, 0, 0, 0, 0, 0, 0, 0, 0, 0, 0, 0, 0, 0, 0, 0, 0, 0, 0, 0, 0], .arr .u8 32 [0, 0, 0, 0, 0, 0, 0, 0, 0, 0, 0, 0, 0, 0, 0, 0, 0, 0, 0, 0, 0, 0, 0, 0, 0, 0, 0, 0, 0, 0, 0, 0]], .nils]) = true := ⟨rfl, rfl, rfl⟩
end Go.Proofs.YtegamlopcdjiaaaDoor.Sha
