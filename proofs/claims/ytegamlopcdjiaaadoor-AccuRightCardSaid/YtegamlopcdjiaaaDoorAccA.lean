/- Accumulations: plain laws. -/
import Derived.Test.YtegamlopcdjiaaaDoorCrtA
namespace Go.Abs.Sha
open Go Go.Abs Go.Abs.Srt
set_option linter.unusedVariables false
set_option linter.unusedSimpArgs false
structure AccS where
  who : Int
  vi : Int
  pv : Int
  ph : List Int
  fr : List Int
  ta : List Int
def AccS.v (a : AccS) : V := .agg [.int .i64 a.who, .int .i64 a.vi, .int .i64 a.pv, .arr .u8 32 a.ph, .sli .i64 a.fr, .arr .u8 32 a.ta]
def AccS.zero : AccS := ⟨0, 0, 0, zero32, [], zero32⟩
structure AccS.wf (a : AccS) : Prop where
  who : I64 a.who
  vi : I64 a.vi
  pv : I64 a.pv
  ph : H32 a.ph
  fr : ∀ x ∈ a.fr, I64 x
  ta : H32 a.ta
def riseI (n : Int) : Int → List Int → Bool
  | _, [] => true
  | low, w :: ws => if w ≤ low ∨ n < w then false else riseI n w ws
theorem riseI_all {n : Int} : ∀ {l : List Int} {low : Int}, riseI n low l = true → ∀ x ∈ l, low < x ∧ x ≤ n
  | [], _, _ => fun x hx => by cases hx
  | w :: ws, low, h => by
    unfold riseI at h
    split at h
    · cases h
    · rename_i hw
      intro x hx
      rcases List.mem_cons.1 hx with rfl | hx
      · omega
      · have := riseI_all h x hx; omega
theorem riseI_len {n : Int} : ∀ {l : List Int} {low : Int}, riseI n low l = true → l = [] ∨ (l.length : Int) ≤ n - low
  | [], _, _ => .inl rfl
  | w :: ws, low, h => by
    unfold riseI at h
    split at h
    · cases h
    · rename_i hw
      rcases riseI_len h with rfl | h2
      · right; simp; omega
      · right; simp only [List.length_cons]; omega
def AccS.May (a : AccS) : Prop := (1 ≤ a.who ∧ a.who ≤ 21) ∧ (1 ≤ a.vi ∧ a.vi ≤ 1099511627776) ∧ (0 ≤ a.pv ∧ a.pv < a.vi) ∧ a.fr ≠ [] ∧ riseI 21 0 a.fr = true
instance (a : AccS) : Decidable a.May := by unfold AccS.May; infer_instance
def AccS.may (a : AccS) : Bool := decide a.May
def nums : List Int → List Int
  | [] => []
  | x :: l => num x.toNat ++ nums l
theorem nums_ok : ∀ {l : List Int}, (∀ x ∈ l, 0 ≤ x ∧ x < 2000000000000) → Byt (nums l) ∧ (nums l).length ≤ 10 * l.length
  | [], _ => ⟨byt_nil, by simp [nums]⟩
  | x :: l, h => by
    obtain ⟨h1, h2⟩ := nums_ok (l := l) fun y hy => h y (List.mem_cons_of_mem _ hy)
    have hx := h x (List.mem_cons_self ..)
    obtain ⟨h3, h4⟩ := num_ok (n := x.toNat) (by omega)
    refine ⟨byt_app h3 h1, ?_⟩
    simp only [nums, List.length_append, List.length_cons]; omega
theorem nums_small : ∀ {l : List Int}, (∀ x ∈ l, 0 ≤ x ∧ x < 128) → nums l = l
  | [], _ => rfl
  | x :: l, h => by
    have hx := h x (List.mem_cons_self ..)
    simp only [nums]
    rw [num_small (by omega), nums_small fun y hy => h y (List.mem_cons_of_mem _ hy)]
    simp only [List.cons_append, List.nil_append, List.cons.injEq, and_true]
    omega
def AccS.said (a : AccS) : List Int := num a.vi.toNat ++ num a.pv.toNat ++ a.ph ++ num a.fr.length ++ nums a.fr
def AccS.tag (kt : List Int) (a : AccS) : List Int := tagH kt a.who 2 a.said
def AccS.right (kt : List Int) (n : Int) (a : AccS) : Bool :=
  decide (quo n ≠ 0) && a.may && decide (a.who ≤ n) && decide ((a.fr.length : Int) = quo n) && decide (a.fr.getLast?.getD 0 ≤ n) && decide (a.ta = a.tag kt)
theorem AccS.may_len {a : AccS} (h : a.May) : a.fr.length ≤ 21 ∧ 0 < a.fr.length ∧ ∀ x ∈ a.fr, 0 < x ∧ x ≤ 21 := by
  obtain ⟨_, _, _, h4, h5⟩ := h
  refine ⟨?_, List.length_pos_iff.2 h4, riseI_all h5⟩
  rcases riseI_len h5 with h | h
  · exact absurd h h4
  · omega
theorem AccS.said_ok {a : AccS} (h : a.wf) (hm : a.May) : Byt a.said ∧ a.said.length ≤ 300 := by
  obtain ⟨l1, l2, l3⟩ := AccS.may_len hm
  obtain ⟨m1, m2, m3, m4, m5⟩ := hm
  obtain ⟨a1, a2⟩ := num_ok (n := a.vi.toNat) (by omega)
  obtain ⟨b1, b2⟩ := num_ok (n := a.pv.toNat) (by omega)
  obtain ⟨c1, c2⟩ := num_ok (n := a.fr.length) (by omega)
  obtain ⟨d1, d2⟩ := nums_ok (l := a.fr) fun x hx => by have := l3 x hx; omega
  refine ⟨byt_app (byt_app (byt_app (byt_app a1 b1) h.ph.1) c1) d1, ?_⟩
  have := h.ph.2
  simp only [AccS.said, List.length_append]; omega
theorem AccS.zero_wf : AccS.zero.wf := ⟨by decide, by decide, by decide, h32_zero, (fun x hx => by cases hx), h32_zero⟩
theorem h32_tagA (kt : List Int) (a : AccS) : H32 (a.tag kt) := ⟨byt_tagH _ _ _ _, tagH_len _ _ _ _⟩
def bestA : Int × List Int → List AttS → Int × List Int
  | b, [] => b
  | b, a :: l => if b.1 < a.pv then bestA (a.pv, a.pa) l else bestA b l
theorem bestA_snoc {x : AttS} : ∀ {l : List AttS} {b : Int × List Int}, bestA b (l ++ [x]) = if (bestA b l).1 < x.pv then (x.pv, x.pa) else bestA b l
  | [], b => rfl
  | y :: l, b => by
    simp only [List.cons_append, bestA]
    split <;> exact bestA_snoc
theorem bestA_ge : ∀ {l : List AttS} {b : Int × List Int}, b.1 ≤ (bestA b l).1 ∧ ∀ a ∈ l, a.pv ≤ (bestA b l).1
  | [], b => ⟨Int.le_refl _, fun a ha => by cases ha⟩
  | y :: l, b => by
    simp only [bestA]
    split
    · rename_i h
      obtain ⟨h1, h2⟩ := bestA_ge (l := l) (b := (y.pv, y.pa))
      dsimp only at h1
      refine ⟨by omega, fun a ha => ?_⟩
      rcases List.mem_cons.1 ha with rfl | ha
      · exact h1
      · exact h2 a ha
    · rename_i h
      obtain ⟨h1, h2⟩ := bestA_ge (l := l) (b := b)
      refine ⟨h1, fun a ha => ?_⟩
      rcases List.mem_cons.1 ha with rfl | ha
      · omega
      · exact h2 a ha
theorem bestA_mem : ∀ {l : List AttS} {b : Int × List Int}, bestA b l = b ∨ ∃ a ∈ l, bestA b l = (a.pv, a.pa)
  | [], b => .inl rfl
  | y :: l, b => by
    simp only [bestA]
    split
    · rcases bestA_mem (l := l) (b := (y.pv, y.pa)) with h | ⟨a, ha, h⟩
      · exact .inr ⟨y, List.mem_cons_self .., h⟩
      · exact .inr ⟨a, List.mem_cons_of_mem _ ha, h⟩
    · rcases bestA_mem (l := l) (b := b) with h | ⟨a, ha, h⟩
      · exact .inl h
      · exact .inr ⟨a, List.mem_cons_of_mem _ ha, h⟩
theorem bestA_start {l : List AttS} {b : Int × List Int} (hb : b.1 < 0) (h : ∀ a ∈ l, 0 ≤ a.pv) (hne : l ≠ []) : ∃ a ∈ l, bestA b l = (a.pv, a.pa) := by
  rcases bestA_mem (l := l) (b := b) with e | e
  · obtain ⟨a, r, rfl⟩ := List.exists_cons_of_ne_nil hne
    have h1 := (bestA_ge (l := a :: r) (b := b)).2 a (List.mem_cons_self ..)
    have h2 := h a (List.mem_cons_self ..)
    rw [e] at h1; omega
  · exact e
def badA (kt : List Int) (n view : Int) (x : AttS) : Bool := !(x.right kt) || !decide (x.ki = 1) || !decide (x.vi = view) || decide (n < x.who)
def mkAccu (kt : List Int) (by_ n view : Int) (l : List AttS) : AccS × Int :=
  if quo n = 0 ∨ by_ < 1 ∨ n < by_ ∨ view < 1 ∨ 1099511627776 < view then (.zero, 1)
  else if (l.any (badA kt n view)) = true then (.zero, 7)
  else if ((firstsA n l).length : Int) < quo n then (.zero, 3)
  else
    let fs := (firstsA n l).take (quo n).toNat
    let b := bestA (-1, zero32) fs
    let a : AccS := ⟨by_, view, b.1, b.2, fs.map (·.who), zero32⟩
    ({ a with ta := a.tag kt }, 0)
theorem right_MayA {kt : List Int} {a : AttS} (h : a.right kt = true) : a.May := by
  unfold AttS.right at h; rw [Bool.and_eq_true] at h
  exact of_decide_eq_true h.1
theorem badA_not {kt : List Int} {n view : Int} {x : AttS} (h : badA kt n view x = false) : x.right kt = true ∧ x.ki = 1 ∧ x.vi = view ∧ x.who ≤ n ∧ x.May ∧ 0 ≤ x.pv ∧ x.pv < view := by
  unfold badA at h
  simp only [Bool.or_eq_false_iff, Bool.not_eq_false', decide_eq_true_eq, decide_eq_false_iff_not, Int.not_lt] at h
  obtain ⟨⟨⟨h1, h2⟩, h3⟩, h4⟩ := h
  have hm := right_MayA h1
  obtain ⟨m1, m2, m3, m4, m5, m6⟩ := id hm
  exact ⟨h1, h2, h3, h4, hm, m5, by omega⟩
theorem riseI_firsts {N n : Int} {l : List AttS} (hN : n ≤ N) : ∀ (m s q : Nat) (low : Int), low < (s : Int) → (s : Int) + m ≤ n + 1 → riseI N low (((((List.range' s m).filterMap fun (k : Nat) => l.find? fun a => decide (a.who = (k : Int))).take q).map (·.who))) = true := by
  intro m
  induction m with
  | zero => intro s q low h1 h2; simp [riseI]
  | succ m ih =>
    intro s q low h1 h2
    rw [List.range'_succ, List.filterMap_cons]
    cases hf : l.find? fun a => decide (a.who = (s : Int)) with
    | none => exact ih (s + 1) q low (by omega) (by omega)
    | some x =>
      have hx : x.who = (s : Int) := by have := List.find?_some hf; simpa using this
      cases q with
      | zero => rfl
      | succ q =>
        show riseI N low (x.who :: _) = true
        refine Eq.trans (if_neg (by omega)) ?_
        exact ih (s + 1) q x.who (by omega) (by omega)
theorem firstsA_find {n : Int} {l : List AttS} {a : AttS} (h : a ∈ firstsA n l) : l.find? (fun x => decide (x.who = a.who)) = some a := by
  unfold firstsA at h
  obtain ⟨k, hk, h⟩ := List.mem_filterMap.1 h
  have := List.find?_some h
  have e : a.who = (k : Int) := by simpa using this
  rw [e]; exact h
structure MkOk (kt : List Int) (by_ n view : Int) (l : List AttS) (a : AccS) (fs : List AttS) : Prop where
  q0 : quo n ≠ 0
  ne : fs ≠ []
  fr : a.fr = fs.map (·.who)
  len : (a.fr.length : Int) = quo n
  find : ∀ x ∈ fs, l.find? (fun y => decide (y.who = x.who)) = some x
  ge : ∀ x ∈ fs, x.pv ≤ a.pv
  told : ∃ x ∈ fs, x.pv = a.pv ∧ x.pa = a.ph
  right : a.right kt n = true
  may : a.May
  who : a.who = by_
theorem mk_okA {kt : List Int} {by_ n view : Int} {l : List AttS} (h : (mkAccu kt by_ n view l).2 = 0) : ∃ fs, MkOk kt by_ n view l (mkAccu kt by_ n view l).1 fs := by
  unfold mkAccu at h ⊢
  by_cases c1 : quo n = 0 ∨ by_ < 1 ∨ n < by_ ∨ view < 1 ∨ 1099511627776 < view
  · rw [if_pos c1] at h; cases h
  rw [if_neg c1] at h ⊢
  by_cases c2 : (l.any (badA kt n view)) = true
  · rw [if_pos c2] at h; cases h
  rw [if_neg c2] at h ⊢
  by_cases c3 : ((firstsA n l).length : Int) < quo n
  · rw [if_pos c3] at h; cases h
  rw [if_neg c3]
  have q0 : quo n ≠ 0 := fun e => c1 (.inl e)
  obtain ⟨n1, n2, _, _⟩ := quo_le q0
  have qn := quo_nn n
  have ql : ((firstsA n l).take (quo n).toNat).length = (quo n).toNat := by rw [List.length_take]; omega
  have hbad : ∀ x ∈ l, badA kt n view x = false := fun x hx => by
    have := List.any_eq_false.1 (by simpa using c2 : (l.any (badA kt n view)) = false) x hx
    simpa using this
  have hin : ∀ x ∈ (firstsA n l).take (quo n).toNat, x ∈ l := fun x hx => firstsA_mem (List.mem_of_mem_take hx)
  have hri : riseI 21 0 (((firstsA n l).take (quo n).toNat).map (·.who)) = true := by
    have := riseI_firsts (N := 21) (n := n) (l := l) n2 n.toNat 1 (quo n).toNat 0 (by decide) (by omega)
    exact this
  have hfind : ∀ x ∈ (firstsA n l).take (quo n).toNat, l.find? (fun y => decide (y.who = x.who)) = some x := fun x hx => firstsA_find (List.mem_of_mem_take hx)
  generalize hfs : (firstsA n l).take (quo n).toNat = fs at *
  have hne : fs ≠ [] := by
    intro e; rw [e] at ql; simp at ql; omega
  obtain ⟨x, hx, e⟩ := bestA_start (b := (-1, zero32)) (by decide) (fun a ha => (badA_not (hbad a (hin a ha))).2.2.2.2.2.1) hne
  have hge := (bestA_ge (l := fs) (b := (-1, zero32))).2
  have bx := badA_not (hbad x (hin x hx))
  refine ⟨fs, ?_⟩
  have may : AccS.May ⟨by_, view, (bestA (-1, zero32) fs).1, (bestA (-1, zero32) fs).2, fs.map (·.who), AccS.tag kt ⟨by_, view, (bestA (-1, zero32) fs).1, (bestA (-1, zero32) fs).2, fs.map (·.who), zero32⟩⟩ := by
    refine ⟨by dsimp only; omega, by dsimp only; omega, ?_, by simpa using hne, hri⟩
    rw [e]; exact ⟨bx.2.2.2.2.2.1, bx.2.2.2.2.2.2⟩
  have hlen : ((fs.map (·.who)).length : Int) = quo n := by rw [List.length_map]; omega
  have hlast : (fs.map (·.who)).getLast?.getD 0 ≤ n := by
    obtain ⟨y, hy⟩ : ∃ y, (fs.map (·.who)).getLast? = some y := ⟨_, List.getLast?_eq_some_getLast (by simpa using hne)⟩
    rw [hy]
    obtain ⟨z, hz, rfl⟩ := List.mem_map.1 (List.mem_of_getLast? hy)
    exact (badA_not (hbad z (hin z hz))).2.2.2.1
  refine ⟨q0, hne, rfl, hlen, hfind, fun x hx => hge x hx, ⟨x, hx, by dsimp only; rw [e], by dsimp only; rw [e]⟩, ?_, may, rfl⟩
  unfold AccS.right AccS.may
  dsimp only
  rw [decide_eq_true q0, decide_eq_true may, decide_eq_true (by omega : by_ ≤ n), decide_eq_true hlen, decide_eq_true hlast, decide_eq_true (by rfl)]
  rfl
theorem mk_wfA {kt : List Int} {by_ n view : Int} {l : List AttS} (hw : ∀ a ∈ l, a.wf) (h1 : I64 by_) (h2 : I64 view) : (mkAccu kt by_ n view l).1.wf ∧ (mkAccu kt by_ n view l).1.fr.length ≤ 11 := by
  unfold mkAccu
  split
  · exact ⟨AccS.zero_wf, by decide⟩
  split
  · exact ⟨AccS.zero_wf, by decide⟩
  split
  · exact ⟨AccS.zero_wf, by decide⟩
  have qn := quo_nn n
  have hin : ∀ x ∈ (firstsA n l).take (quo n).toNat, x ∈ l := fun x hx => firstsA_mem (List.mem_of_mem_take hx)
  have ql : ((firstsA n l).take (quo n).toNat).length ≤ 11 := by rw [List.length_take]; omega
  generalize (firstsA n l).take (quo n).toNat = fs at *
  have hb : I64 (bestA (-1, zero32) fs).1 ∧ H32 (bestA (-1, zero32) fs).2 := by
    rcases bestA_mem (l := fs) (b := (-1, zero32)) with e | ⟨x, hx, e⟩
    · rw [e]; exact ⟨by decide, h32_zero⟩
    · rw [e]; exact ⟨(hw x (hin x hx)).pv, (hw x (hin x hx)).pa⟩
  refine ⟨⟨h1, h2, hb.1, hb.2, fun x hx => ?_, h32_tagA _ _⟩, by dsimp only; rw [List.length_map]; exact ql⟩
  obtain ⟨y, hy, rfl⟩ := List.mem_map.1 hx
  exact (hw y (hin y hy)).who
end Go.Abs.Sha
