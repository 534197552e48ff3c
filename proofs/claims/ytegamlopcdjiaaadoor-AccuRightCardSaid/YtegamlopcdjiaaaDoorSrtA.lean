/- Stable order by a key; runs of one key cut to their first. -/
import Derived.Test.YtegamlopcdjiaaaDoorPlain6
namespace Go.Abs.Srt
open Go Go.Abs
set_option linter.unusedVariables false
set_option linter.unusedSimpArgs false
section
variable {α : Type} (key : α → Int)
def Up (l : List α) : Prop := l.Pairwise fun a b => key a ≤ key b
def at_ (k : Int) (l : List α) : List α := l.filter fun x => decide (key x = k)
def ins (x : α) : List α → List α
  | [] => [x]
  | y :: l => if key x < key y then x :: y :: l else y :: ins x l
def srt (l : List α) : List α := l.foldl (fun s x => ins key x s) []
variable {key}
theorem mem_at {k : Int} {l : List α} {x : α} : x ∈ at_ key k l ↔ x ∈ l ∧ key x = k := by simp [at_]
theorem at_append {k : Int} {l m : List α} : at_ key k (l ++ m) = at_ key k l ++ at_ key k m := by simp [at_]
theorem at_cons {k : Int} {x : α} {l : List α} : at_ key k (x :: l) = if key x = k then x :: at_ key k l else at_ key k l := by
  simp only [at_, List.filter_cons, decide_eq_true_eq]
theorem at_nil {k : Int} : at_ key k ([] : List α) = [] := rfl
theorem mem_ins {x y : α} : ∀ {l : List α}, y ∈ ins key x l ↔ y = x ∨ y ∈ l
  | [] => by simp [ins]
  | z :: l => by
    simp only [ins]; split
    · simp
    · simp only [List.mem_cons, mem_ins]
      constructor
      · rintro (h | h | h) <;> simp [h]
      · rintro (h | h | h) <;> simp [h]
theorem up_ins {x : α} : ∀ {l : List α}, Up key l → Up key (ins key x l)
  | [], _ => by simp [ins, Up]
  | z :: l, h => by
    have h1 := List.pairwise_cons.1 h
    simp only [ins]; split
    · rename_i hlt
      refine List.pairwise_cons.2 ⟨fun y hy => ?_, h⟩
      rcases List.mem_cons.1 hy with rfl | hy
      · omega
      · have := h1.1 y hy; omega
    · rename_i hlt
      refine List.pairwise_cons.2 ⟨fun y hy => ?_, up_ins h1.2⟩
      rcases mem_ins.1 hy with rfl | hy
      · omega
      · exact h1.1 y hy
theorem at_ins {x : α} {k : Int} : ∀ {l : List α}, Up key l → at_ key k (ins key x l) = at_ key k l ++ at_ key k [x]
  | [], _ => by simp [ins, at_nil]
  | z :: l, h => by
    have h1 := List.pairwise_cons.1 h
    simp only [ins]; split
    · rename_i hlt
      have e : key x = k → at_ key k (z :: l) = [] := by
        intro hk
        apply List.eq_nil_iff_forall_not_mem.2
        intro y hy
        obtain ⟨h2, h3⟩ := mem_at.1 hy
        rcases List.mem_cons.1 h2 with rfl | h2
        · omega
        · have := h1.1 y h2; omega
      by_cases hk : key x = k
      · rw [at_cons, if_pos hk, e hk, at_cons, if_pos hk]; rfl
      · rw [at_cons, if_neg hk, at_cons (x := x), if_neg hk, at_nil, List.append_nil]
    · rw [at_cons, at_ins h1.2, at_cons (x := z)]
      split <;> rfl
theorem up_foldl : ∀ {l s : List α}, Up key s → Up key (l.foldl (fun s x => ins key x s) s)
  | [], s, h => h
  | x :: l, s, h => up_foldl (l := l) (up_ins h)
theorem up_srt (l : List α) : Up key (srt key l) := up_foldl (by simp [Up])
theorem at_foldl {k : Int} : ∀ {l s : List α}, Up key s → at_ key k (l.foldl (fun s x => ins key x s) s) = at_ key k s ++ at_ key k l
  | [], s, h => by simp [at_nil]
  | x :: l, s, h => by
    simp only [List.foldl_cons]
    rw [at_foldl (up_ins h), at_ins h, List.append_assoc]
    congr 1
    simp only [at_cons (x := x) (l := l), at_cons (x := x) (l := []), at_nil]
    split <;> rfl
theorem at_srt {k : Int} (l : List α) : at_ key k (srt key l) = at_ key k l := by
  unfold srt; rw [at_foldl (by simp [Up])]; rfl
theorem up_unique : ∀ {s t : List α}, Up key s → Up key t → (∀ k, at_ key k s = at_ key k t) → s = t
  | [], [], _, _, _ => rfl
  | [], y :: t, _, _, h => by
    have := h (key y); rw [at_cons, if_pos rfl] at this; cases this
  | x :: s, [], _, _, h => by
    have := h (key x); rw [at_cons, if_pos rfl] at this; cases this
  | x :: s, y :: t, hs, ht, h => by
    have hs1 := List.pairwise_cons.1 hs
    have ht1 := List.pairwise_cons.1 ht
    have k1 : key x ≤ key y := by
      have : y ∈ at_ key (key y) (x :: s) := by rw [h, at_cons, if_pos rfl]; exact List.mem_cons_self ..
      rcases List.mem_cons.1 (mem_at.1 this).1 with e | e
      · rw [e]; exact Int.le_refl _
      · exact hs1.1 y e
    have k2 : key y ≤ key x := by
      have : x ∈ at_ key (key x) (y :: t) := by rw [← h, at_cons, if_pos rfl]; exact List.mem_cons_self ..
      rcases List.mem_cons.1 (mem_at.1 this).1 with e | e
      · rw [e]; exact Int.le_refl _
      · exact ht1.1 x e
    have k3 : key x = key y := by omega
    have h0 := h (key x)
    rw [at_cons, if_pos rfl, at_cons, if_pos k3.symm] at h0
    injection h0 with e1 e2
    subst e1
    rw [up_unique hs1.2 ht1.2 fun k => ?_]
    have := h k
    rw [at_cons, at_cons] at this
    split at this
    · injection this
    · exact this
theorem srt_of {s l : List α} (hs : Up key s) (h : ∀ k, at_ key k s = at_ key k l) : s = srt key l := up_unique hs (up_srt l) fun k => by rw [h, at_srt]
theorem srt_up {l : List α} (h : Up key l) : srt key l = l := (srt_of h fun _ => rfl).symm
theorem srt_congr {l m : List α} (h : ∀ k, at_ key k l = at_ key k m) : srt key l = srt key m := srt_of (up_srt l) fun k => by rw [at_srt, h]
theorem srt_srt {l m : List α} : srt key (srt key l ++ srt key m) = srt key (l ++ m) := srt_congr fun k => by rw [at_append, at_srt, at_srt, at_append]
theorem mem_srt {l : List α} {x : α} : x ∈ srt key l ↔ x ∈ l := by
  constructor
  · intro h
    have : x ∈ at_ key (key x) (srt key l) := mem_at.2 ⟨h, rfl⟩
    rw [at_srt] at this; exact (mem_at.1 this).1
  · intro h
    have : x ∈ at_ key (key x) l := mem_at.2 ⟨h, rfl⟩
    rw [← at_srt] at this; exact (mem_at.1 this).1
theorem ins_length {x : α} : ∀ {l : List α}, (ins key x l).length = l.length + 1
  | [] => rfl
  | z :: l => by
    simp only [ins]; split
    · rfl
    · simp [ins_length]
theorem foldl_length : ∀ {l s : List α}, (l.foldl (fun s x => ins key x s) s).length = s.length + l.length
  | [], s => rfl
  | x :: l, s => by simp only [List.foldl_cons, foldl_length, ins_length, List.length_cons]; omega
theorem srt_length (l : List α) : (srt key l).length = l.length := by unfold srt; rw [foldl_length]; simp
theorem up_append {a b : List α} (ha : Up key a) (hb : Up key b) (h : ∀ x ∈ a, ∀ y ∈ b, key x ≤ key y) : Up key (a ++ b) := List.pairwise_append.2 ⟨ha, hb, h⟩
theorem srt_put {l A B : List α} {x : α} (h : A ++ B = srt key l) (hA : ∀ y ∈ A, key y ≤ key x) (hB : ∀ y ∈ B, key x < key y) : A ++ x :: B = srt key (l ++ [x]) := by
  have hu := up_srt (key := key) l
  rw [← h] at hu
  have hp := List.pairwise_append.1 hu
  refine srt_of ?_ fun k => ?_
  · refine up_append hp.1 (List.pairwise_cons.2 ⟨fun y hy => Int.le_of_lt (hB y hy), hp.2.1⟩) fun a ha b hb => ?_
    rcases List.mem_cons.1 hb with rfl | hb
    · exact hA a ha
    · exact hp.2.2 a ha b hb
  · have e1 : at_ key k (A ++ B) = at_ key k l := by rw [h, at_srt]
    rw [at_append] at e1
    rw [at_append, at_append, ← e1, at_cons, at_cons, at_nil]
    split
    · rename_i hk
      have : at_ key k B = [] := by
        apply List.eq_nil_iff_forall_not_mem.2
        intro y hy
        obtain ⟨h2, h3⟩ := mem_at.1 hy
        have := hB y h2; omega
      rw [this, List.append_nil]
    · rw [List.append_nil]
theorem srt_split {A1 A2 B1 B2 : List α} (hA : Up key (A1 ++ A2)) (hB : Up key (B1 ++ B2)) (h1 : ∀ a ∈ A1, ∀ b ∈ B2, key a ≤ key b) (h2 : ∀ b ∈ B1, ∀ a ∈ A2, key b < key a) :
    srt key (A1 ++ B1) ++ srt key (A2 ++ B2) = srt key ((A1 ++ A2) ++ (B1 ++ B2)) := by
  have pA := List.pairwise_append.1 hA
  have pB := List.pairwise_append.1 hB
  refine srt_of (up_append (up_srt _) (up_srt _) fun x hx y hy => ?_) fun k => ?_
  · rw [mem_srt, List.mem_append] at hx hy
    rcases hx with hx | hx <;> rcases hy with hy | hy
    · exact pA.2.2 x hx y hy
    · exact h1 x hx y hy
    · exact Int.le_of_lt (h2 x hx y hy)
    · exact pB.2.2 x hx y hy
  · rw [at_append, at_srt, at_srt]
    simp only [at_append]
    have : at_ key k B1 ++ at_ key k A2 = at_ key k A2 ++ at_ key k B1 := by
      cases e1 : at_ key k B1 with
      | nil => simp
      | cons b r =>
        cases e2 : at_ key k A2 with
        | nil => simp
        | cons a s =>
          exfalso
          have hb := mem_at.1 (show b ∈ at_ key k B1 by rw [e1]; exact List.mem_cons_self ..)
          have ha := mem_at.1 (show a ∈ at_ key k A2 by rw [e2]; exact List.mem_cons_self ..)
          have := h2 b hb.1 a ha.1
          omega
    simp only [List.append_assoc]
    rw [← List.append_assoc (at_ key k B1), this, List.append_assoc]
/-! ### runs -/
def cpF (key : α → Int) : Int → List α → List α
  | _, [] => []
  | k, y :: l => if key y = k then cpF key (key y) l else y :: cpF key (key y) l
def cpt (key : α → Int) : List α → List α
  | [] => []
  | x :: l => x :: cpF key (key x) l
theorem cpF_length : ∀ {l : List α} {k : Int}, (cpF key k l).length ≤ l.length
  | [], _ => Nat.le_refl _
  | y :: l, k => by
    simp only [cpF]; split
    · exact Nat.le_succ_of_le cpF_length
    · exact Nat.succ_le_succ cpF_length
theorem cpt_length : ∀ {l : List α}, (cpt key l).length ≤ l.length
  | [] => Nat.le_refl _
  | x :: l => Nat.succ_le_succ cpF_length
theorem cpF_append : ∀ {l m : List α} {k : Int} , cpF key k (l ++ m) = cpF key k l ++ cpF key ((l.getLast?.map key).getD k) m
  | [], m, k => rfl
  | y :: l, m, k => by
    have e : ((y :: l).getLast?.map key).getD k = (l.getLast?.map key).getD (key y) := by
      cases l with
      | nil => rfl
      | cons z l => simp [List.getLast?_cons_cons]; rw [List.getLast?_eq_some_getLast (by simp)]; rfl
    simp only [List.cons_append, cpF, e]
    rw [cpF_append]
    split <;> rfl
theorem cpF_mem : ∀ {l : List α} {k : Int}, (∀ y ∈ l, k ≤ key y) → Up key l → ∀ x, x ∈ cpF key k l ↔ (key x ≠ k ∧ (at_ key (key x) l).head? = some x)
  | [], k, _, _, x => by simp [cpF, at_nil]
  | y :: l, k, hk, hu, x => by
    have h1 := List.pairwise_cons.1 hu
    have ih := cpF_mem (l := l) (k := key y) h1.1 h1.2 x
    have hky := hk y (List.mem_cons_self ..)
    simp only [cpF]; split
    · rename_i e
      rw [ih, at_cons]
      by_cases hx : key y = key x
      · rw [if_pos hx]; constructor
        · rintro ⟨h, _⟩; exact absurd hx.symm h
        · rintro ⟨h, _⟩; exact absurd (hx.symm.trans e) h
      · rw [if_neg hx, ← e]
    · rename_i e
      rw [List.mem_cons, ih, at_cons]
      by_cases hx : key y = key x
      · rw [if_pos hx]
        simp only [List.head?_cons, Option.some.injEq]
        constructor
        · rintro (rfl | ⟨h, _⟩)
          · exact ⟨e, rfl⟩
          · exact absurd hx.symm h
        · rintro ⟨_, rfl⟩; exact .inl rfl
      · rw [if_neg hx]
        constructor
        · rintro (rfl | ⟨h, h2⟩)
          · exact absurd rfl hx
          · refine ⟨fun hk2 => ?_, h2⟩
            have hm : x ∈ at_ key (key x) l := List.mem_of_head? h2
            have := h1.1 x (mem_at.1 hm).1
            omega
        · rintro ⟨_, h2⟩; exact .inr ⟨fun h => hx h.symm, h2⟩
theorem cpt_mem {l : List α} (hu : Up key l) (x : α) : x ∈ cpt key l ↔ (at_ key (key x) l).head? = some x := by
  cases l with
  | nil => simp [cpt, at_nil]
  | cons y l =>
    have h1 := List.pairwise_cons.1 hu
    simp only [cpt, List.mem_cons, cpF_mem h1.1 h1.2, at_cons]
    by_cases hx : key y = key x
    · rw [if_pos hx]
      simp only [List.head?_cons, Option.some.injEq]
      constructor
      · rintro (rfl | ⟨h, _⟩)
        · rfl
        · exact absurd hx.symm h
      · intro h; exact .inl h.symm
    · rw [if_neg hx]
      constructor
      · rintro (rfl | ⟨h, h2⟩)
        · exact absurd rfl hx
        · exact h2
      · intro h2; exact .inr ⟨fun h => hx h.symm, h2⟩
theorem cpF_strict : ∀ {l : List α} {k : Int}, (∀ y ∈ l, k ≤ key y) → Up key l → (cpF key k l).Pairwise (fun a b => key a < key b)
  | [], k, _, _ => List.Pairwise.nil
  | y :: l, k, hk, hu => by
    have h1 := List.pairwise_cons.1 hu
    have ih := cpF_strict (l := l) (k := key y) h1.1 h1.2
    simp only [cpF]; split
    · exact ih
    · refine List.pairwise_cons.2 ⟨fun x hx => ?_, ih⟩
      obtain ⟨h2, h3⟩ := (cpF_mem h1.1 h1.2 x).1 hx
      have := h1.1 x (mem_at.1 (List.mem_of_head? h3)).1
      omega
theorem cpt_strict {l : List α} (hu : Up key l) : (cpt key l).Pairwise (fun a b => key a < key b) := by
  cases l with
  | nil => exact List.Pairwise.nil
  | cons y l =>
    have h1 := List.pairwise_cons.1 hu
    refine List.pairwise_cons.2 ⟨fun x hx => ?_, cpF_strict h1.1 h1.2⟩
    obtain ⟨h2, h3⟩ := (cpF_mem h1.1 h1.2 x).1 hx
    have := h1.1 x (mem_at.1 (List.mem_of_head? h3)).1
    omega
theorem strict_unique : ∀ {s t : List α}, s.Pairwise (fun a b => key a < key b) → t.Pairwise (fun a b => key a < key b) → (∀ x, x ∈ s ↔ x ∈ t) → s = t := by
  intro s t hs ht h
  refine up_unique (key := key) (hs.imp Int.le_of_lt) (ht.imp Int.le_of_lt) fun k => ?_
  have one : ∀ {s : List α}, s.Pairwise (fun a b => key a < key b) → at_ key k s = [] ∨ ∃ x, at_ key k s = [x] := by
    intro s hs
    induction s with
    | nil => exact .inl rfl
    | cons y s ih =>
      have h1 := List.pairwise_cons.1 hs
      rw [at_cons]
      split
      · rename_i hk
        right
        refine ⟨y, ?_⟩
        have : at_ key k s = [] := by
          apply List.eq_nil_iff_forall_not_mem.2
          intro z hz
          obtain ⟨h2, h3⟩ := mem_at.1 hz
          have := h1.1 z h2; omega
        rw [this]
      · exact ih h1.2
  have hm : ∀ x, x ∈ at_ key k s ↔ x ∈ at_ key k t := fun x => by rw [mem_at, mem_at, h]
  rcases one hs with e1 | ⟨x, e1⟩ <;> rcases one ht with e2 | ⟨y, e2⟩ <;> rw [e1, e2] at hm <;> rw [e1, e2]
  · simpa using hm y
  · simpa using hm x
  · have := (hm x).1 (List.mem_singleton.2 rfl)
    rw [List.mem_singleton.1 this]
theorem cpt_srt {l : List α} {n : Nat} (hn : ∀ x ∈ l, 1 ≤ key x ∧ key x ≤ n) : cpt key (srt key l) = (List.range' 1 n).filterMap fun (k : Nat) => l.find? fun x => decide (key x = (k : Int)) := by
  have hf : ∀ k : Int, l.find? (fun x => decide (key x = k)) = (at_ key k l).head? := fun k => by
    unfold at_; rw [List.head?_filter]
  refine strict_unique (key := key) (cpt_strict (up_srt l)) ?_ fun x => ?_
  · rw [List.pairwise_filterMap]
    refine (List.pairwise_lt_range' (n := n) (s := 1)).imp ?_
    intro a b hab x hx y hy
    rw [hf] at hx hy
    have h1 := (mem_at.1 (List.mem_of_head? hx)).2
    have h2 := (mem_at.1 (List.mem_of_head? hy)).2
    omega
  · rw [cpt_mem (up_srt l), at_srt, List.mem_filterMap]
    constructor
    · intro h
      have hm := (mem_at.1 (List.mem_of_head? h)).1
      obtain ⟨h1, h2⟩ := hn x hm
      refine ⟨(key x).toNat, by rw [List.mem_range'_1]; omega, ?_⟩
      rw [hf, show (((key x).toNat : Nat) : Int) = key x by omega]; exact h
    · rintro ⟨k, _, h⟩
      rw [hf] at h
      have := (mem_at.1 (List.mem_of_head? h)).2
      rw [this]; exact h
end
end Go.Abs.Srt
