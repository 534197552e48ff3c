/- The vault: what is kept. -/
import Derived.Test.YtjbglbhcbenhpaaDoorTVlt5
namespace Go.Proofs.YtjbglbhcbenhpaaDoor.Sha
open Go Go.Abs Go.Abs.Sha
set_option linter.unusedSimpArgs false
set_option linter.unusedVariables false
set_option maxRecDepth 100000
/-- What a slot holds has a first byte that is as odd as a number, or holds nothing. -/
def par (b : List Int) (e : Int) : Prop := b = [] ∨ ∃ x t, b = x :: t ∧ x % 2 = e % 2
theorem num_head (n : Nat) : ∃ x t, num n = x :: t ∧ x % 2 = (n : Int) % 2 := by
  by_cases h : n < 128
  · exact ⟨n, [], num_small h, rfl⟩
  · exact ⟨_, _, num_big h, by omega⟩
theorem par_blob (kt : List Int) (i ve : Int) (x : SealS) (h : 0 ≤ ve) : par (x.blob kt i ve) ve := by
  obtain ⟨y, t, e1, e2⟩ := num_head ve.toNat
  refine .inr ⟨y, ?_⟩
  unfold SealS.blob SealS.said
  rw [e1]
  exact ⟨_, rfl, by omega⟩
theorem par_take {b : List Int} {e : Int} (c : Nat) (h : par b e) : par (b.take c) e := by
  rcases h with rfl | ⟨x, t, rfl, h⟩
  · left; simp
  · cases c with
    | zero => left; rfl
    | succ c => exact .inr ⟨x, t.take c, rfl, h⟩
theorem par_torn {p o : List Int} {e : Int} (hp : par p e) (ho : par o e) : par (torn p o) e := by
  rcases hp with rfl | ⟨x, t, rfl, h⟩
  · unfold torn
    have : (if (o.length : Int) < (([] : List Int).length : Int) then (o.length : Int) else (([] : List Int).length : Int)).toNat = 0 := by
      rw [if_neg (by simp only [List.length_nil]; omega)]; rfl
    rw [this]; exact ho
  · exact .inr ⟨x, _, rfl, h⟩
theorem par_congr {b : List Int} {e f : Int} (h : par b e) (hf : e % 2 = f % 2) : par b f := by
  rcases h with rfl | ⟨x, t, rfl, h⟩
  · exact .inl rfl
  · exact .inr ⟨x, t, rfl, h.trans hf⟩
theorem getBlob_par {kt b : List Int} {i n : Int} (hb : Byt b) (hp : par b (n + 1)) (hn : 1 ≤ n) : ¬ ((getBlob kt i b).2.2 = 0 ∧ (getBlob kt i b).1 = n) := by
  have key : (rdBlob (b, false)).1 ≠ n := by
    show (rdUpto 1099511627776 (b, false)).1 ≠ n
    unfold rdUpto
    rw [if_neg (by simp)]
    cases e : decN (b, false).1 with
    | none => simp only; omega
    | some q =>
      obtain ⟨m, k⟩ := q
      simp only
      split
      · simp only; omega
      · simp only
        rintro rfl
        obtain ⟨_, _, h3, _⟩ := decN_spec hb e
        obtain ⟨y, t, e1, e2⟩ := num_head m
        rw [e1] at h3
        rcases hp with h0 | ⟨x, u, h0, h1⟩
        · rw [h0] at h3; cases h3
        · have h3' : (b : List Int) = y :: (t ++ b.drop k) := h3
          rw [h0] at h3'
          injection h3' with h4 h5
          omega
  unfold getBlob
  simp only
  split
  · simp
  · split
    · simp
    · rintro ⟨_, h⟩; exact key h
structure KInv (kt : List Int) (s : VS) (q : SealS) : Prop where
  wf : q.wf
  may : q.May
  n0 : 0 ≤ s.n
  z : s.n = 0 → q = .zero ∧ byB s.s0 = []
  own : s.n ≠ 0 → byB (s.slot (s.n.tmod 2)) = q.blob kt s.i s.n
  oth : par (byB (s.slot ((s.n + 1).tmod 2))) (s.n + 1)
  hf : par (byB s.h) (s.n + 1)
  hk : byB s.h ≠ [] → s.k = (s.n + 1).tmod 2
  al : s.d = false → byB s.h = []
theorem two_par {n : Int} (h : 0 ≤ n) : (n.tmod 2 = 0 ∧ (n + 1).tmod 2 = 1 ∧ n % 2 = 0) ∨ (n.tmod 2 = 1 ∧ (n + 1).tmod 2 = 0 ∧ n % 2 = 1) := by
  rw [Int.tmod_eq_emod_of_nonneg h, Int.tmod_eq_emod_of_nonneg (by omega)]; omega
theorem KInv.load {kt : List Int} {s : VS} {q : SealS} (h : KInv kt s q) (hi : 1 ≤ s.i ∧ s.i ≤ 21) (hn : s.n ≤ 1099511627776) (y0 : Byt (byB s.s0)) (y1 : Byt (byB s.s1)) : loadV kt s.i s.n (byB s.s0) (byB s.s1) = (q, 0) := by
  unfold loadV
  by_cases hz : s.n = 0
  · rw [if_pos hz, (h.z hz).1]
  · rw [if_neg hz]
    have hn0 := h.n0
    have ow := h.own hz
    have gb := getBlob_of (kt := kt) (i := s.i) (ve := s.n) h.wf h.may hi (by omega)
    have ot := h.oth
    rcases two_par h.n0 with ⟨e1, e2, _⟩ | ⟨e1, e2, _⟩
    · rw [e1] at ow
      have ow : byB s.s0 = q.blob kt s.i s.n := ow
      rw [ow, gb, if_pos ⟨rfl, rfl⟩]
    · rw [e1] at ow
      rw [e2] at ot
      have ow : byB s.s1 = q.blob kt s.i s.n := ow
      have ot : par (byB s.s0) (s.n + 1) := ot
      rw [if_neg (getBlob_par y0 ot (by omega)), ow, gb, if_pos ⟨rfl, rfl⟩]
theorem KInv.arm {kt : List Int} {s : VS} {q : SealS} (h : KInv kt s q) (m : Int) : KInv kt { s with a := m } q := ⟨h.wf, h.may, h.n0, h.z, h.own, h.oth, h.hf, h.hk, h.al⟩
theorem slot_put_same (s : VS) {k : Int} (y : V) : (s.put k y).slot k = y := by
  unfold VS.put VS.slot; split <;> rfl
theorem KInv.crash {kt : List Int} {s : VS} {q : SealS} (h : KInv kt s q) (m : Int) : KInv kt (crashS s m) q := by
  unfold crashS
  by_cases hz : (byB s.h).length = 0
  · rw [if_pos hz]
    exact ⟨h.wf, h.may, h.n0, h.z, h.own, h.oth, .inl rfl, fun c => absurd rfl c, fun _ => rfl⟩
  · rw [if_neg hz]
    have hk := h.hk (fun c => hz (by rw [c]; rfl))
    have ho := h.oth
    have hp := par_torn (par_take (cutN m (byB s.h).length).toNat h.hf) ho
    rw [← hk] at ho hp
    generalize torn ((byB s.h).take (cutN m (byB s.h).length).toNat) (byB (s.slot s.k)) = b at *
    have hn0 := h.n0
    rcases two_par h.n0 with ⟨e1, e2, _⟩ | ⟨e1, e2, _⟩
    · rw [e2] at hk
      refine ⟨h.wf, h.may, ?_, ?_, ?_, ?_, .inl rfl, fun c => absurd rfl c, fun _ => rfl⟩ <;> rw [hk] <;> simp only [VS.put, Int.reduceEq, if_false]
      · exact h.n0
      · exact h.z
      · intro c; rw [e1]; have := h.own c; rw [e1] at this; exact this
      · rw [e2]; exact hp
    · rw [e2] at hk
      refine ⟨h.wf, h.may, ?_, ?_, ?_, ?_, .inl rfl, fun c => absurd rfl c, fun _ => rfl⟩ <;> rw [hk] <;> simp only [VS.put, if_true]
      · exact h.n0
      · intro c; omega
      · intro c; rw [e1]; have := h.own c; rw [e1] at this; exact this
      · rw [e2]; exact hp
theorem stepS_dead {s : VS} (h : (stepS s).2 = false) : (stepS s).1.d = true := by
  unfold stepS at h ⊢
  split
  · rfl
  · rename_i c; rw [if_neg c] at h
    split at h <;> cases h
theorem stepS_alive {s : VS} (h : (stepS s).2 = true) : (stepS s).1.d = s.d := by
  unfold stepS at h ⊢
  split
  · rename_i c; rw [if_pos c] at h; cases h
  · split <;> rfl
theorem slot_eq {s t : VS} (h0 : t.s0 = s.s0) (h1 : t.s1 = s.s1) (k : Int) : t.slot k = s.slot k := by unfold VS.slot; rw [h0, h1]
/-- Where a seal is kept: what was kept, or the seal. -/
theorem KInv.keep {kt : List Int} {s : VS} {q x : SealS} (h : KInv kt s q) (hw : x.wf) : KInv kt (keepS kt s x).1 (if (keepS kt s x).2 = 0 then x else q) ∧ ((keepS kt s x).2 = 0 ∨ (keepS kt s x).2 = 1 ∨ (keepS kt s x).2 = 6) ∧ (keepS kt s x).1.n ≤ s.n + 1 ∧ Like s (keepS kt s x).1 := by
  unfold keepS
  by_cases hd : s.d = true
  · rw [if_pos hd]; exact ⟨by rw [if_neg (show ¬ (6 : Int) = 0 by decide)]; exact h, .inr (.inr rfl), (by show s.n ≤ s.n + 1; omega), Like.refl s⟩
  rw [if_neg hd]
  have hd' : s.d = false := by simpa using hd
  by_cases hm : x.May
  · rw [if_neg (fun c => c hm)]
    obtain ⟨l1, p1, p2, p3, p4, p5⟩ := stepS_like s
    have hn0 := h.n0
    have hb := par_blob kt s.i (s.n + 1) x (by omega)
    cases k1 : (stepS s).2 with
    | false =>
      rw [if_pos rfl]
      refine ⟨?_, .inr (.inr rfl), by show (stepS s).1.n ≤ _; omega, ⟨l1.id, l1.c, l1.i⟩⟩
      rw [if_neg (show ¬ (6 : Int) = 0 by decide)]
      have sl : ∀ k, VS.slot { (stepS s).1 with h := .sli .u8 (x.blob kt s.i (s.n + 1)), k := (s.n + 1).tmod 2 } k = s.slot k := slot_eq p2 p3
      refine ⟨h.wf, h.may, ?_, ?_, ?_, ?_, ?_, ?_, ?_⟩
      · show 0 ≤ (stepS s).1.n; omega
      · show (stepS s).1.n = 0 → _ ∧ byB (stepS s).1.s0 = []; rw [p1, p2]; exact h.z
      · show (stepS s).1.n ≠ 0 → byB (VS.slot _ ((stepS s).1.n.tmod 2)) = q.blob kt (stepS s).1.i (stepS s).1.n; rw [sl, p1, l1.i]; exact h.own
      · show par (byB (VS.slot _ (((stepS s).1.n + 1).tmod 2))) ((stepS s).1.n + 1); rw [sl, p1]; exact h.oth
      · show par (x.blob kt s.i (s.n + 1)) ((stepS s).1.n + 1); rw [p1]; exact hb
      · intro _; show (s.n + 1).tmod 2 = ((stepS s).1.n + 1).tmod 2; rw [p1]
      · intro c; have := stepS_dead k1; have c : (stepS s).1.d = false := c; rw [this] at c; cases c
    | true =>
      rw [if_neg (by simp)]
      generalize hbb : x.blob kt s.i (s.n + 1) = bb at hb ⊢
      have d1 := (stepS_alive k1).trans hd'
      generalize (stepS s).1 = s1 at *
      obtain ⟨m1, q1, q2, q3, q4, q5⟩ := stepS_like (s1.put ((s.n + 1).tmod 2) (.sli .u8 bb))
      have hh : byB s.h = [] := h.al hd'
      have own' : s.n ≠ 0 → byB ((s1.put ((s.n + 1).tmod 2) (.sli .u8 bb)).slot (s.n.tmod 2)) = q.blob kt s.i s.n := by
        intro c
        have := h.own c
        rcases two_par h.n0 with ⟨e1, e2, _⟩ | ⟨e1, e2, _⟩
        · rw [e1, e2]; rw [e1] at this; show byB s1.s0 = _; rw [p2]; exact this
        · rw [e1, e2]; rw [e1] at this; show byB s1.s1 = _; rw [p3]; exact this
      have z' : s.n = 0 → byB (s1.put ((s.n + 1).tmod 2) (.sli .u8 bb)).s0 = [] := by
        intro c
        rw [c]; show byB s1.s0 = []; rw [p2]; exact (h.z c).2
      have pn : (s1.put ((s.n + 1).tmod 2) (.sli .u8 bb)).n = s.n := by rw [← p1]; unfold VS.put; split <;> rfl
      have ph : (s1.put ((s.n + 1).tmod 2) (.sli .u8 bb)).h = s.h := by rw [← p4]; unfold VS.put; split <;> rfl
      have lk := put_like s1 ((s.n + 1).tmod 2) (.sli .u8 bb)
      have ss := slot_put_same s1 (k := (s.n + 1).tmod 2) (.sli .u8 bb)
      generalize s1.put ((s.n + 1).tmod 2) (.sli .u8 bb) = s2 at *
      have sl : ∀ k, (stepS s2).1.slot k = s2.slot k := slot_eq q2 q3
      have lk3 : Like s (stepS s2).1 := ⟨m1.id.trans (lk.id.trans l1.id), m1.c.trans (lk.c.trans l1.c), m1.i.trans (lk.i.trans l1.i)⟩
      have n3 : (stepS s2).1.n = s.n := q1.trans pn
      have h3 : byB (stepS s2).1.h = [] := by rw [q4, ph]; exact hh
      cases k2 : (stepS s2).2 with
      | false =>
        rw [if_pos rfl]
        refine ⟨?_, .inr (.inr rfl), by show (stepS s2).1.n ≤ _; omega, lk3⟩
        rw [if_neg (show ¬ (6 : Int) = 0 by decide)]
        refine ⟨h.wf, h.may, by show 0 ≤ (stepS s2).1.n; omega, ?_, ?_, ?_, .inl h3, fun c => absurd h3 c, fun _ => h3⟩
        · rw [n3, q2]; exact fun c => ⟨(h.z c).1, z' c⟩
        · rw [n3, sl, lk3.i]; exact own'
        · rw [n3, sl, ss]; exact hb
      | true =>
        rw [if_neg (by simp)]
        refine ⟨?_, .inl rfl, Int.le_refl _, ⟨lk3.id, lk3.c, lk3.i⟩⟩
        rw [if_pos rfl]
        have sl4 : ∀ k, VS.slot { (stepS s2).1 with n := s.n + 1 } k = s2.slot k := fun k => (slot_eq rfl rfl k).trans (sl k)
        refine ⟨hw, hm, by show 0 ≤ s.n + 1; omega, ?_, ?_, ?_, .inl h3, fun c => absurd h3 c, fun _ => h3⟩
        · intro c; have c : s.n + 1 = 0 := c; omega
        · intro _; rw [sl4]; show byB (s2.slot ((s.n + 1).tmod 2)) = x.blob kt (stepS s2).1.i (s.n + 1); rw [ss, lk3.i, hbb]; rfl
        · rw [sl4]; show par (byB (s2.slot ((s.n + 1 + 1).tmod 2))) (s.n + 1 + 1)
          have e0 : (s.n + 1 + 1).tmod 2 = s.n.tmod 2 := by rw [Int.tmod_eq_emod_of_nonneg h.n0, Int.tmod_eq_emod_of_nonneg (by omega)]; omega
          rw [e0]
          by_cases c : s.n = 0
          · rw [c]; left; exact z' c
          · rw [own' c]; exact par_congr (par_blob kt s.i s.n q h.n0) (by omega)
  · rw [if_pos hm]; exact ⟨by rw [if_neg (show ¬ (1 : Int) = 0 by decide)]; exact h, .inr (.inl rfl), (by show s.n ≤ s.n + 1; omega), Like.refl s⟩
end Go.Proofs.YtjbglbhcbenhpaaDoor.Sha
