/- Votes: the theorem of order, the rounds. -/
import Derived.Test.YtegamlopcdjiaaaDoorUVot3
namespace Go.Proofs.YtegamlopcdjiaaaDoor.Sha
open Go Go.Abs Go.Abs.Sha Go.Abs.Srt
set_option linter.unusedSimpArgs false
set_option linter.unusedVariables false
set_option maxRecDepth 100000
attribute [local irreducible] W Wops WopsD WL Wop WopD
variable {E : Env} {C : Abs.Spec} {l : List (Nat × Spec1)} {G : List (Nat × V)} {Q : R → List (Nat × V) → Prop}
set_option maxHeartbeats 1000000
def SgV (s : V) (sg : List (Int × List Int)) : Prop := s = .sle 33 (sg.map sgV) ∨ (s = .nils ∧ sg = [])
def KnV (x : V) (k : KnownS) : Prop := ∃ s1 s2, x = .agg [.agg [k.p.att.v, s1], .agg [k.q.att.v, s2]] ∧ SgV s1 k.p.sigs ∧ SgV s2 k.q.sigs
theorem SgV.wk {s : V} {sg : List (Int × List Int)} (h : SgV s sg) : V.Wk s (.sle 33 (sg.map sgV)) := by
  rcases h with rfl | ⟨rfl, rfl⟩
  · exact V.Wk.refl _
  · unfold V.Wk; exact .inr (.inr ⟨_, rfl⟩)
theorem SgV.one {s : V} {sg : List (Int × List Int)} (h : SgV s sg) : V.size s = 1 ∧ V.isAgg s = false := by
  rcases h with rfl | ⟨rfl, rfl⟩ <;> exact ⟨rfl, rfl⟩
theorem KnV.wk {x : V} {k : KnownS} (h : KnV x k) : V.Wk x k.v := by
  obtain ⟨s1, s2, rfl, h1, h2⟩ := h
  unfold V.Wk; refine ⟨_, rfl, ?_⟩
  unfold V.WkL; refine ⟨_, _, rfl, ?_, ?_⟩
  · unfold V.Wk; refine ⟨_, rfl, ?_⟩
    unfold V.WkL; refine ⟨_, _, rfl, V.Wk.refl _, ?_⟩
    unfold V.WkL; refine ⟨_, _, rfl, h1.wk, ?_⟩
    unfold V.WkL; rfl
  unfold V.WkL; refine ⟨_, _, rfl, ?_, ?_⟩
  · unfold V.Wk; refine ⟨_, rfl, ?_⟩
    unfold V.WkL; refine ⟨_, _, rfl, V.Wk.refl _, ?_⟩
    unfold V.WkL; refine ⟨_, _, rfl, h2.wk, ?_⟩
    unfold V.WkL; rfl
  unfold V.WkL; rfl
theorem KnV.self (k : KnownS) : KnV k.v k := ⟨_, _, rfl, .inl rfl, .inl rfl⟩
theorem KnV.zero : KnV (.agg [.agg [.agg [.int .i64 0, .int .i64 0, .int .i64 0, .int .i64 0, .arr .u8 32 [0, 0, 0, 0, 0, 0, 0, 0, 0, 0, 0, 0, 0, 0, 0, 0, 0, 0, 0, 0, 0, 0, 0, 0, 0, 0, 0, 0, 0, 0, 0, 0], .int .i64 0, .arr .u8 32 [0, 0, 0, 0, 0, 0, 0, 0, 0, 0, 0, 0, 0, 0, 0, 0, 0, 0, 0, 0, 0, 0, 0, 0, 0, 0, 0, 0, 0, 0, 0, 0], .arr .u8 32 [0, 0, 0, 0, 0, 0, 0, 0, 0, 0, 0, 0, 0, 0, 0, 0, 0, 0, 0, 0, 0, 0, 0, 0, 0, 0, 0, 0, 0, 0, 0, 0]], .nils], .agg [.agg [.int .i64 0, .int .i64 0, .int .i64 0, .int .i64 0, .arr .u8 32 [0, 0, 0, 0, 0, 0, 0, 0, 0, 0, 0, 0, 0, 0, 0, 0, 0, 0, 0, 0, 0, 0, 0, 0, 0, 0, 0, 0, 0, 0, 0, 0], .int .i64 0, .arr .u8 32 [0, 0, 0, 0, 0, 0, 0, 0, 0, 0, 0, 0, 0, 0, 0, 0, 0, 0, 0, 0, 0, 0, 0, 0, 0, 0, 0, 0, 0, 0, 0, 0], .arr .u8 32 [0, 0, 0, 0, 0, 0, 0, 0, 0, 0, 0, 0, 0, 0, 0, 0, 0, 0, 0, 0, 0, 0, 0, 0, 0, 0, 0, 0, 0, 0, 0, 0]], .nils]]) .zero := ⟨_, _, rfl, .inr ⟨rfl, rfl⟩, .inr ⟨rfl, rfl⟩⟩
theorem KnV.facts {x : V} {k : KnownS} (h : KnV x k) : V.size x = 204 ∧ V.isAgg x = true ∧ ∀ r : KnownS, r.v.same x = true := by
  obtain ⟨s1, s2, rfl, h1, h2⟩ := h
  rcases h1 with rfl | ⟨rfl, _⟩ <;> rcases h2 with rfl | ⟨rfl, _⟩ <;> exact ⟨rfl, rfl, fun r => rfl⟩
theorem loop5_0 (hL : Abs.look l 20 = some (ZLe K256)) {QQ : Ex → St → Prop} {n : Int} {lc : List CertS} {tn : List Int} (hI : I64 n) (hlc : ∀ c ∈ lc, c.wf ∧ c.sigs.length ≤ 30) (hl : lc.length < 1000) (ht : ∀ x ∈ tn, 0 ≤ x ∧ x ≤ 255)
    (hx : ∀ ts (i : Nat) (L : List Bx) (av bv : V) (ka kb : KnownS) (lf pk : List CertS), KnV av ka → KnV bv kb → L[0]? = some ⟨false, av⟩ → L[1]? = some ⟨false, bv⟩ → Best K256 n 2 lc ka.p → Best K256 n 3 lc ka.q → Best K256 n 2 pk kb.p → Best K256 n 3 pk kb.q → (∀ x, x ∈ lc ↔ x ∈ pk) → QQ (.exit 4) ⟨[some (.v (.int .i64 n)), some (.v (.sle 102 (lc.map CertS.v))), some (.v (.sli .u8 tn)), none, none, none, none, none, none, some (.lp 0 []), some (.lp 1 []), some (.own (.sle 102 (lf.map CertS.v))), some (.v (.int .i64 (i : Nat))), none, none], ts, L, G⟩) :
    ∀ (r i : Nat) (L : List Bx) (av bv : V) (ka kb : KnownS) (lf pk : List CertS), i + r = lc.length → KnV av ka → KnV bv kb → L[0]? = some ⟨false, av⟩ → L[1]? = some ⟨false, bv⟩ → ka.wf → kb.wf →
      Best K256 n 2 (lc.take i) ka.p → Best K256 n 3 (lc.take i) ka.q → Best K256 n 2 pk kb.p → Best K256 n 3 pk kb.q → (∀ x, x ∈ lc ↔ x ∈ pk ∨ x ∈ lf) → lf.length = r →
      WL (W E (specOf l) lp5_0) [0, 1, 2, 9, 10, 11, 12] QQ (r + 1) ⟨[some (.v (.int .i64 n)), some (.v (.sle 102 (lc.map CertS.v))), some (.v (.sli .u8 tn)), none, none, none, none, none, none, some (.lp 0 []), some (.lp 1 []), some (.own (.sle 102 (lf.map CertS.v))), some (.v (.int .i64 (i : Nat))), none, none], [], L, G⟩ := by
  intro r
  induction r with
  | zero =>
    intro i L av bv ka kb lf pk hi hav hbv h0 h1 hka hkb ba2 ba3 bb2 bb3 hm hlf
    obtain rfl : i = lc.length := by omega
    obtain rfl : lf = [] := List.eq_nil_of_length_eq_zero hlf
    rw [List.take_length] at ba2 ba3
    refine WL_in lp5_0.eq_1 ?_
    simp (maxSteps := 1000000) (implicitDefEqProofs := false) only [Int.lt_irrefl, List.length_map, go_sem, ↓reduceIte]
    exact hx _ _ _ _ _ _ _ [] _ hav hbv h0 h1 ba2 ba3 bb2 bb3 (fun x => (hm x).trans (by simp))
  | succ r ih =>
    intro i L av bv ka kb lf pk hi hav hbv h0 h1 hka hkb ba2 ba3 bb2 bb3 hm hlf
    have c1 : (i : Int) < (lc.length : Int) := by omega
    have c2 : (0 : Int) ≤ (i : Int) := by omega
    obtain ⟨ci, hci'⟩ : ∃ ck, lc[i]? = some ck := ⟨lc[i]'(by omega), List.getElem?_eq_getElem (by omega)⟩
    have g := getD_c hci'
    have hci := hlc ci (List.mem_of_getElem? hci')
    obtain ⟨g1, g2⟩ := cert_v' (c := ci)
    obtain ⟨e1, e2, e3⟩ := hav.facts
    obtain ⟨f1, f2, f3⟩ := hbv.facts
    unfold V.isAgg at e2 f2 g2
    have wka := hav.wk
    obtain ⟨s1, s2, rfl, hs1, hs2⟩ := hav
    obtain ⟨s11, s12⟩ := hs1.one
    obtain ⟨s21, s22⟩ := hs2.one
    unfold V.isAgg at s12 s22
    have ds : V.size ka.p.att.v = 101 := rfl
    have ds' : V.size ka.q.att.v = 101 := rfl
    have tk : lc.take i ++ [ci] = lc.take (i + 1) := by rw [List.take_add_one, hci']; rfl
    have lne : L.length ≠ 0 := by intro e; have := (List.getElem?_eq_some_iff.1 h0).1; omega
    have l0 : (L.length == 0) = false := by simpa using lne
    have l0' : (0 == L.length) = false := by simpa using fun e => lne e.symm
    have lne1 : L.length ≠ 1 := by intro e; have := (List.getElem?_eq_some_iff.1 h1).1; omega
    have hS0 : ∀ y z, ((L ++ [y]).set 0 z)[0]? = some z := fun y z => get_set (get_app h0)
    have hS1 : ∀ y z, ((L ++ [y]).set 0 z)[1]? = some ⟨false, bv⟩ := fun y z => by rw [List.getElem?_set_ne (by decide)]; exact get_app h1
    have wkb := hbv.wk
    have w1 : IntKind.i64.wrap ((i : Int) + 1) = ((i + 1 : Nat) : Int) := wc (by omega) (by omega)
    have hA0 : ∀ y, (L ++ [y])[0]? = some ⟨false, .agg [.agg [ka.p.att.v, s1], .agg [ka.q.att.v, s2]]⟩ := fun y => get_app h0
    have hA1 : ∀ y, (L ++ [y])[1]? = some ⟨false, bv⟩ := fun y => get_app h1
    refine WL_in lp5_0.eq_1 ?_
    by_cases q : i < tn.length
    · have q1 : (i : Int) < (tn.length : Int) := by omega
      obtain ⟨t, ht1⟩ : ∃ t, tn[i]? = some t := ⟨tn[i], List.getElem?_eq_getElem q⟩
      have gt : tn.getD i 0 = t := by rw [List.getD_eq_getElem?_getD, ht1]; rfl
      have htt := ht t (List.mem_of_getElem? ht1)
      have wt : IntKind.i64.wrap t = t := w64 (by omega) (by omega)
      obtain ⟨kq, hkq, hlt⟩ : ∃ kq : Nat, t.tmod ((lf.length : Nat) : Int) = (kq : Int) ∧ kq < lf.length := ⟨t.toNat % lf.length, by
        rw [Int.tmod_eq_emod_of_nonneg htt.1, show t = ((t.toNat : Nat) : Int) by omega]; simp, Nat.mod_lt _ (by omega)⟩
      have lf0 : ¬ ((lf.length : Nat) : Int) = 0 := by omega
      simp (maxSteps := 1000000) (implicitDefEqProofs := false) only [c1, c2, q1, gt, wt, Int.toNat_natCast, List.length_map, hkq, lf0, ne_eq, go_sem, ↓reduceIte]
      simp (maxSteps := 1000000) (implicitDefEqProofs := false) only [hA0, e1, e2, ds, ds', s11, s21, c1, c2, g, g1, g2, Int.toNat_natCast, List.length_map, hL, ZLe_eq, go_sem, ↓reduceIte]
      refine ⟨ka, ci, ⟨wka, rfl, hka, hci.1, by omega, hI⟩, ?_⟩
      generalize hr : learnK K256 n ka ci = r at *
      obtain ⟨r, er⟩ := r
      obtain ⟨j1, j2, j3⟩ := known_v (c := r)
      unfold V.isAgg at j2
      dsimp only
      have lb := learn_best (kt := K256) (n := n) (c := ci) ba2 ba3
      have hrw := learn_wf (kt := K256) (n := n) hka hci.1 (by omega : ci.sigs.length < 1000000)
      rw [hr] at lb hrw
      dsimp only at lb hrw
      obtain ⟨lb2, lb3, m2, m3⟩ := lb
      rw [tk] at lb2 lb3
      have m2n : ¬ r.p.att.vi < ka.p.att.vi := by omega
      have m3n : ¬ r.q.att.vi < ka.q.att.vi := by omega
      simp (maxSteps := 1000000) (implicitDefEqProofs := false) only [j1, j2, j3, l0, l0', go_sem, ↓reduceIte]
      simp (maxSteps := 1000000) (implicitDefEqProofs := false) only [hA0, hS1, l0, l0', KnownS.v, CertS.v, AttS.v, m2, m3, m2n, m3n, s11, s12, s21, s22, Nat.add_zero, go_sem, ↓reduceIte]
      have q0 := hS0 ⟨false, .agg [.agg [.agg [.int .i64 r.p.att.who, .int .i64 r.p.att.ki, .int .i64 r.p.att.vi, .int .i64 r.p.att.ph, .arr .u8 32 r.p.att.ha, .int .i64 r.p.att.pv, .arr .u8 32 r.p.att.pa, .arr .u8 32 r.p.att.ta], .sle 33 (r.p.sigs.map sgV)], .agg [.agg [.int .i64 r.q.att.who, .int .i64 r.q.att.ki, .int .i64 r.q.att.vi, .int .i64 r.q.att.ph, .arr .u8 32 r.q.att.ha, .int .i64 r.q.att.pv, .arr .u8 32 r.q.att.pa, .arr .u8 32 r.q.att.ta], .sle 33 (r.q.sigs.map sgV)]]⟩ ⟨false, .agg [.agg [.agg [.int .i64 r.p.att.who, .int .i64 r.p.att.ki, .int .i64 r.p.att.vi, .int .i64 r.p.att.ph, .arr .u8 32 r.p.att.ha, .int .i64 r.p.att.pv, .arr .u8 32 r.p.att.pa, .arr .u8 32 r.p.att.ta], .sle 33 (r.p.sigs.map sgV)], .agg [.agg [.int .i64 r.q.att.who, .int .i64 r.q.att.ki, .int .i64 r.q.att.vi, .int .i64 r.q.att.ph, .arr .u8 32 r.q.att.ha, .int .i64 r.q.att.pv, .arr .u8 32 r.q.att.pa, .arr .u8 32 r.q.att.ta], .sle 33 (r.q.sigs.map sgV)]]⟩
      have q1' := hS1 ⟨false, .agg [.agg [.agg [.int .i64 r.p.att.who, .int .i64 r.p.att.ki, .int .i64 r.p.att.vi, .int .i64 r.p.att.ph, .arr .u8 32 r.p.att.ha, .int .i64 r.p.att.pv, .arr .u8 32 r.p.att.pa, .arr .u8 32 r.p.att.ta], .sle 33 (r.p.sigs.map sgV)], .agg [.agg [.int .i64 r.q.att.who, .int .i64 r.q.att.ki, .int .i64 r.q.att.vi, .int .i64 r.q.att.ph, .arr .u8 32 r.q.att.ha, .int .i64 r.q.att.pv, .arr .u8 32 r.q.att.pa, .arr .u8 32 r.q.att.ta], .sle 33 (r.q.sigs.map sgV)]]⟩ ⟨false, .agg [.agg [.agg [.int .i64 r.p.att.who, .int .i64 r.p.att.ki, .int .i64 r.p.att.vi, .int .i64 r.p.att.ph, .arr .u8 32 r.p.att.ha, .int .i64 r.p.att.pv, .arr .u8 32 r.p.att.pa, .arr .u8 32 r.p.att.ta], .sle 33 (r.p.sigs.map sgV)], .agg [.agg [.int .i64 r.q.att.who, .int .i64 r.q.att.ki, .int .i64 r.q.att.vi, .int .i64 r.q.att.ph, .arr .u8 32 r.q.att.ha, .int .i64 r.q.att.pv, .arr .u8 32 r.q.att.pa, .arr .u8 32 r.q.att.ta], .sle 33 (r.q.sigs.map sgV)]]⟩
      generalize (L ++ [(⟨false, .agg [.agg [.agg [.int .i64 r.p.att.who, .int .i64 r.p.att.ki, .int .i64 r.p.att.vi, .int .i64 r.p.att.ph, .arr .u8 32 r.p.att.ha, .int .i64 r.p.att.pv, .arr .u8 32 r.p.att.pa, .arr .u8 32 r.p.att.ta], .sle 33 (r.p.sigs.map sgV)], .agg [.agg [.int .i64 r.q.att.who, .int .i64 r.q.att.ki, .int .i64 r.q.att.vi, .int .i64 r.q.att.ph, .arr .u8 32 r.q.att.ha, .int .i64 r.q.att.pv, .arr .u8 32 r.q.att.pa, .arr .u8 32 r.q.att.ta], .sle 33 (r.q.sigs.map sgV)]]⟩ : Bx)]).set 0 ⟨false, .agg [.agg [.agg [.int .i64 r.p.att.who, .int .i64 r.p.att.ki, .int .i64 r.p.att.vi, .int .i64 r.p.att.ph, .arr .u8 32 r.p.att.ha, .int .i64 r.p.att.pv, .arr .u8 32 r.p.att.pa, .arr .u8 32 r.p.att.ta], .sle 33 (r.p.sigs.map sgV)], .agg [.agg [.int .i64 r.q.att.who, .int .i64 r.q.att.ki, .int .i64 r.q.att.vi, .int .i64 r.q.att.ph, .arr .u8 32 r.q.att.ha, .int .i64 r.q.att.pv, .arr .u8 32 r.q.att.pa, .arr .u8 32 r.q.att.ta], .sle 33 (r.q.sigs.map sgV)]]⟩ = LL at q0 q1' ⊢
      obtain ⟨dk, hdk⟩ : ∃ dk, lf[kq]? = some dk := ⟨lf[kq]'(by omega), List.getElem?_eq_getElem (by omega)⟩
      have gk := getD_c hdk
      have hdm := List.mem_of_getElem? hdk
      have hdw := hlc dk ((hm dk).2 (.inr hdm))
      obtain ⟨k1, k2⟩ := cert_v' (c := dk)
      unfold V.isAgg at k2
      have ck1 : (kq : Int) < ((lf.length : Nat) : Int) := by omega
      have ck0 : (0 : Int) ≤ (kq : Int) := by omega
      have wk1 : IntKind.i64.wrap ((kq : Int) + 1) = ((kq + 1 : Nat) : Int) := wc (by omega) (by omega)
      simp (maxSteps := 1000000) (implicitDefEqProofs := false) only [q1', f1, f2, gk, k1, k2, ck0, ck1, Int.toNat_natCast, Int.toNat_zero, List.length_map, hL, ZLe_eq, go_sem, ↓reduceIte]
      refine ⟨kb, dk, ⟨wkb, rfl, hkb, hdw.1, by omega, hI⟩, ?_⟩
      have lb' := learn_best (kt := K256) (n := n) (c := dk) bb2 bb3
      have hrw' := learn_wf (kt := K256) (n := n) hkb hdw.1 (by omega : dk.sigs.length < 1000000)
      have f3 := f3 (learnK K256 n kb dk).1
      generalize hr' : learnK K256 n kb dk = r' at *
      obtain ⟨r', er'⟩ := r'
      obtain ⟨i1, i2, i3⟩ := known_v (c := r')
      unfold V.isAgg at i2
      dsimp only at lb' hrw' f3 ⊢
      obtain ⟨lb2', lb3', _, _⟩ := lb'
      simp (maxSteps := 1000000) (implicitDefEqProofs := false) only [q1', f3, i1, i2, wk1, ck0, ck1, Int.toNat_natCast, Int.toNat_zero, List.length_map, List.replicate_zero, List.nil_append, List.drop_zero, w1, go_sem, ↓reduceIte]
      have sp : lf = lf.take kq ++ dk :: lf.drop (kq + 1) := by
        have := List.getElem?_eq_some_iff.1 hdk
        obtain ⟨hh1, hh2⟩ := this
        rw [← hh2, ← List.drop_eq_getElem_cons hh1, List.take_append_drop]
      have hmem : ∀ x, x ∈ lc ↔ x ∈ pk ++ [dk] ∨ x ∈ lf.take kq ++ lf.drop (kq + 1) := fun x => by
        have h3 : x ∈ lf ↔ x ∈ lf.take kq ∨ x = dk ∨ x ∈ lf.drop (kq + 1) := by
          conv => lhs; rw [sp]
          simp only [List.mem_append, List.mem_cons]
        rw [hm x, h3]
        simp only [List.mem_append, List.mem_singleton]
        constructor
        · rintro (h | h | h | h)
          · exact .inl (.inl h)
          · exact .inr (.inl h)
          · exact .inl (.inr h)
          · exact .inr (.inr h)
        · rintro ((h | h) | (h | h))
          · exact .inl h
          · exact .inr (.inr (.inl h))
          · exact .inr (.inl h)
          · exact .inr (.inr (.inr h))
      have hlen' : (lf.take kq ++ lf.drop (kq + 1)).length + 1 = lf.length := by
        rw [List.length_append, List.length_take, List.length_drop]; omega
      have next := ih (i + 1) (LL.set 1 ⟨false, r'.v⟩) _ _ r r' (lf.take kq ++ lf.drop (kq + 1)) (pk ++ [dk]) (by omega) (KnV.self r) (KnV.self r') (by rw [List.getElem?_set_ne (by decide)]; exact q0) (get_set q1') hrw hrw' lb2 lb3 lb2' lb3' hmem (by omega)
      have tf : (lf.map CertS.v).take lf.length = lf.map CertS.v := List.take_of_length_le (by rw [List.length_map]; exact Nat.le_refl _)
      have d1 : ((lf.map CertS.v).drop (kq + 1)).length ≤ lf.length := by rw [List.length_drop, List.length_map]; omega
      have d2 : ((lf.map CertS.v).take kq).length ≤ lf.length := by rw [List.length_take, List.length_map]; omega
      have hll : lf.length < 1000 := by omega
      rw [List.map_append, List.map_take, List.map_drop] at next
      rw [tf]
      exact ⟨by omega, by omega, ⟨by omega, by omega, Int.le_refl _⟩, by omega, next⟩
    · have q1 : ¬ (i : Int) < (tn.length : Int) := by omega
      simp (maxSteps := 1000000) (implicitDefEqProofs := false) only [c1, c2, q1, Int.toNat_natCast, List.length_map, go_sem, ↓reduceIte]
      simp (maxSteps := 1000000) (implicitDefEqProofs := false) only [hA0, e1, e2, ds, ds', s11, s21, c1, c2, g, g1, g2, Int.toNat_natCast, List.length_map, hL, ZLe_eq, go_sem, ↓reduceIte]
      refine ⟨ka, ci, ⟨wka, rfl, hka, hci.1, by omega, hI⟩, ?_⟩
      generalize hr : learnK K256 n ka ci = r at *
      obtain ⟨r, er⟩ := r
      obtain ⟨j1, j2, j3⟩ := known_v (c := r)
      unfold V.isAgg at j2
      dsimp only
      have lb := learn_best (kt := K256) (n := n) (c := ci) ba2 ba3
      have hrw := learn_wf (kt := K256) (n := n) hka hci.1 (by omega : ci.sigs.length < 1000000)
      rw [hr] at lb hrw
      dsimp only at lb hrw
      obtain ⟨lb2, lb3, m2, m3⟩ := lb
      rw [tk] at lb2 lb3
      have m2n : ¬ r.p.att.vi < ka.p.att.vi := by omega
      have m3n : ¬ r.q.att.vi < ka.q.att.vi := by omega
      simp (maxSteps := 1000000) (implicitDefEqProofs := false) only [j1, j2, j3, l0, l0', go_sem, ↓reduceIte]
      simp (maxSteps := 1000000) (implicitDefEqProofs := false) only [hA0, hS1, l0, l0', KnownS.v, CertS.v, AttS.v, m2, m3, m2n, m3n, s11, s12, s21, s22, Nat.add_zero, go_sem, ↓reduceIte]
      have q0 := hS0 ⟨false, .agg [.agg [.agg [.int .i64 r.p.att.who, .int .i64 r.p.att.ki, .int .i64 r.p.att.vi, .int .i64 r.p.att.ph, .arr .u8 32 r.p.att.ha, .int .i64 r.p.att.pv, .arr .u8 32 r.p.att.pa, .arr .u8 32 r.p.att.ta], .sle 33 (r.p.sigs.map sgV)], .agg [.agg [.int .i64 r.q.att.who, .int .i64 r.q.att.ki, .int .i64 r.q.att.vi, .int .i64 r.q.att.ph, .arr .u8 32 r.q.att.ha, .int .i64 r.q.att.pv, .arr .u8 32 r.q.att.pa, .arr .u8 32 r.q.att.ta], .sle 33 (r.q.sigs.map sgV)]]⟩ ⟨false, .agg [.agg [.agg [.int .i64 r.p.att.who, .int .i64 r.p.att.ki, .int .i64 r.p.att.vi, .int .i64 r.p.att.ph, .arr .u8 32 r.p.att.ha, .int .i64 r.p.att.pv, .arr .u8 32 r.p.att.pa, .arr .u8 32 r.p.att.ta], .sle 33 (r.p.sigs.map sgV)], .agg [.agg [.int .i64 r.q.att.who, .int .i64 r.q.att.ki, .int .i64 r.q.att.vi, .int .i64 r.q.att.ph, .arr .u8 32 r.q.att.ha, .int .i64 r.q.att.pv, .arr .u8 32 r.q.att.pa, .arr .u8 32 r.q.att.ta], .sle 33 (r.q.sigs.map sgV)]]⟩
      have q1' := hS1 ⟨false, .agg [.agg [.agg [.int .i64 r.p.att.who, .int .i64 r.p.att.ki, .int .i64 r.p.att.vi, .int .i64 r.p.att.ph, .arr .u8 32 r.p.att.ha, .int .i64 r.p.att.pv, .arr .u8 32 r.p.att.pa, .arr .u8 32 r.p.att.ta], .sle 33 (r.p.sigs.map sgV)], .agg [.agg [.int .i64 r.q.att.who, .int .i64 r.q.att.ki, .int .i64 r.q.att.vi, .int .i64 r.q.att.ph, .arr .u8 32 r.q.att.ha, .int .i64 r.q.att.pv, .arr .u8 32 r.q.att.pa, .arr .u8 32 r.q.att.ta], .sle 33 (r.q.sigs.map sgV)]]⟩ ⟨false, .agg [.agg [.agg [.int .i64 r.p.att.who, .int .i64 r.p.att.ki, .int .i64 r.p.att.vi, .int .i64 r.p.att.ph, .arr .u8 32 r.p.att.ha, .int .i64 r.p.att.pv, .arr .u8 32 r.p.att.pa, .arr .u8 32 r.p.att.ta], .sle 33 (r.p.sigs.map sgV)], .agg [.agg [.int .i64 r.q.att.who, .int .i64 r.q.att.ki, .int .i64 r.q.att.vi, .int .i64 r.q.att.ph, .arr .u8 32 r.q.att.ha, .int .i64 r.q.att.pv, .arr .u8 32 r.q.att.pa, .arr .u8 32 r.q.att.ta], .sle 33 (r.q.sigs.map sgV)]]⟩
      generalize (L ++ [(⟨false, .agg [.agg [.agg [.int .i64 r.p.att.who, .int .i64 r.p.att.ki, .int .i64 r.p.att.vi, .int .i64 r.p.att.ph, .arr .u8 32 r.p.att.ha, .int .i64 r.p.att.pv, .arr .u8 32 r.p.att.pa, .arr .u8 32 r.p.att.ta], .sle 33 (r.p.sigs.map sgV)], .agg [.agg [.int .i64 r.q.att.who, .int .i64 r.q.att.ki, .int .i64 r.q.att.vi, .int .i64 r.q.att.ph, .arr .u8 32 r.q.att.ha, .int .i64 r.q.att.pv, .arr .u8 32 r.q.att.pa, .arr .u8 32 r.q.att.ta], .sle 33 (r.q.sigs.map sgV)]]⟩ : Bx)]).set 0 ⟨false, .agg [.agg [.agg [.int .i64 r.p.att.who, .int .i64 r.p.att.ki, .int .i64 r.p.att.vi, .int .i64 r.p.att.ph, .arr .u8 32 r.p.att.ha, .int .i64 r.p.att.pv, .arr .u8 32 r.p.att.pa, .arr .u8 32 r.p.att.ta], .sle 33 (r.p.sigs.map sgV)], .agg [.agg [.int .i64 r.q.att.who, .int .i64 r.q.att.ki, .int .i64 r.q.att.vi, .int .i64 r.q.att.ph, .arr .u8 32 r.q.att.ha, .int .i64 r.q.att.pv, .arr .u8 32 r.q.att.pa, .arr .u8 32 r.q.att.ta], .sle 33 (r.q.sigs.map sgV)]]⟩ = LL at q0 q1' ⊢
      obtain ⟨dk, hdk⟩ : ∃ dk, lf[0]? = some dk := ⟨lf[0]'(by omega), List.getElem?_eq_getElem (by omega)⟩
      have gk := getD_c hdk
      have hdm := List.mem_of_getElem? hdk
      have hdw := hlc dk ((hm dk).2 (.inr hdm))
      obtain ⟨k1, k2⟩ := cert_v' (c := dk)
      unfold V.isAgg at k2
      have ck1 : (0 : Int) < ((lf.length : Nat) : Int) := by omega
      have ck0 : (0 : Int) ≤ (0 : Int) := by omega
      have wk1 : IntKind.i64.wrap ((0 : Int) + 1) = ((0 + 1 : Nat) : Int) := wc (by omega) (by omega)
      simp (maxSteps := 1000000) (implicitDefEqProofs := false) only [q1', f1, f2, gk, k1, k2, ck0, ck1, Int.toNat_natCast, Int.toNat_zero, List.length_map, hL, ZLe_eq, go_sem, ↓reduceIte]
      refine ⟨kb, dk, ⟨wkb, rfl, hkb, hdw.1, by omega, hI⟩, ?_⟩
      have lb' := learn_best (kt := K256) (n := n) (c := dk) bb2 bb3
      have hrw' := learn_wf (kt := K256) (n := n) hkb hdw.1 (by omega : dk.sigs.length < 1000000)
      have f3 := f3 (learnK K256 n kb dk).1
      generalize hr' : learnK K256 n kb dk = r' at *
      obtain ⟨r', er'⟩ := r'
      obtain ⟨i1, i2, i3⟩ := known_v (c := r')
      unfold V.isAgg at i2
      dsimp only at lb' hrw' f3 ⊢
      obtain ⟨lb2', lb3', _, _⟩ := lb'
      simp (maxSteps := 1000000) (implicitDefEqProofs := false) only [q1', f3, i1, i2, wk1, ck0, ck1, Int.toNat_natCast, Int.toNat_zero, List.length_map, List.replicate_zero, List.nil_append, List.drop_zero, w1, go_sem, ↓reduceIte]
      have sp : lf = lf.take 0 ++ dk :: lf.drop (0 + 1) := by
        have := List.getElem?_eq_some_iff.1 hdk
        obtain ⟨hh1, hh2⟩ := this
        rw [← hh2, ← List.drop_eq_getElem_cons hh1, List.take_append_drop]
      have hmem : ∀ x, x ∈ lc ↔ x ∈ pk ++ [dk] ∨ x ∈ lf.take 0 ++ lf.drop (0 + 1) := fun x => by
        have h3 : x ∈ lf ↔ x ∈ lf.take 0 ∨ x = dk ∨ x ∈ lf.drop (0 + 1) := by
          conv => lhs; rw [sp]
          simp only [List.mem_append, List.mem_cons]
        rw [hm x, h3]
        simp only [List.mem_append, List.mem_singleton]
        constructor
        · rintro (h | h | h | h)
          · exact .inl (.inl h)
          · exact .inr (.inl h)
          · exact .inl (.inr h)
          · exact .inr (.inr h)
        · rintro ((h | h) | (h | h))
          · exact .inl h
          · exact .inr (.inr (.inl h))
          · exact .inr (.inl h)
          · exact .inr (.inr (.inr h))
      have hlen' : (lf.take 0 ++ lf.drop (0 + 1)).length + 1 = lf.length := by
        rw [List.length_append, List.length_take, List.length_drop]; omega
      have next := ih (i + 1) (LL.set 1 ⟨false, r'.v⟩) _ _ r r' (lf.take 0 ++ lf.drop (0 + 1)) (pk ++ [dk]) (by omega) (KnV.self r) (KnV.self r') (by rw [List.getElem?_set_ne (by decide)]; exact q0) (get_set q1') hrw hrw' lb2 lb3 lb2' lb3' hmem (by omega)
      have tf : (lf.map CertS.v).take lf.length = lf.map CertS.v := List.take_of_length_le (by rw [List.length_map]; exact Nat.le_refl _)
      have d1 : ((lf.map CertS.v).drop (0 + 1)).length ≤ lf.length := by rw [List.length_drop, List.length_map]; omega
      have d2 : ((lf.map CertS.v).take 0).length ≤ lf.length := by rw [List.length_take, List.length_map]; omega
      have hll : lf.length < 1000 := by omega
      rw [List.map_append, List.map_take, List.map_drop] at next
      have wk : IntKind.i64.wrap 1 = 1 := by decide
      have wn : (1 : Int).toNat = 1 := rfl
      rw [wk, wn, tf]
      rw [List.take_zero, List.nil_append, Nat.zero_add] at next
      rw [Nat.zero_add] at d1
      exact ⟨by omega, ⟨by omega, by omega, Int.le_refl _⟩, by omega, next⟩
theorem walk5 (hA : Abs.look l 19 = some ZA3) (hL : Abs.look l 20 = some (ZLe K256)) {n : Int} {lc : List CertS} {tn : List Int} (hI : I64 n) (hlc : ∀ c ∈ lc, c.wf) (ht : ∀ x ∈ tn, 0 ≤ x ∧ x ≤ 255) (hl : lc.length < 9223372036854775808) (hl2 : tn.length < 9223372036854775808) (h : Q (.v (.bool true)) G) : Wf E (specOf l) pf5 [.int .i64 n, .sle 102 (lc.map CertS.v), .sli .u8 tn] G Q := by
  by_cases c1 : (12 : Int) < (lc.length : Int)
  · simp (maxSteps := 1000000) (implicitDefEqProofs := false) only [pf5, c1, List.length_map, hA, ZA3_eq, go_sem, ↓reduceIte]
    exact h
  by_cases c2 : (30 : Int) < (tn.length : Int)
  · simp (maxSteps := 1000000) (implicitDefEqProofs := false) only [pf5, c1, c2, List.length_map, hA, ZA3_eq, go_sem, ↓reduceIte]
    exact h
  simp (maxSteps := 1000000) (implicitDefEqProofs := false) only [pf5, c1, c2, List.length_map, go_sem, ↓reduceIte]
  refine ⟨lc.length + 1, ?_⟩
  refine loop5_2 hA (by omega) (fun ts j hs hal => ?_) (fun σ e1 e2 => ?_) lc.length 0 (by omega) (fun k hk => by omega)
  rotate_left
  · show resQ Q σ.G (rD (St.ev σ (.v 6)))
    rw [e1, e2]; exact h
  simp (maxSteps := 1000000) (implicitDefEqProofs := false) only [List.length_map, List.replicate_zero, List.nil_append, go_sem, ↓reduceIte]
  refine ⟨by omega, lc.length + 1, ?_⟩
  refine loop5_0 hL hI (fun c hc => ⟨hlc c hc, hs c hc⟩) (by omega) ht (fun ts i L av bv ka kb lf pk hav hbv h0 h1 ba2 ba3 bb2 bb3 hm => ?_) lc.length 0 _ _ _ .zero .zero lc [] (by omega) KnV.zero KnV.zero rfl rfl known_zero_wf known_zero_wf best_nil best_nil best_nil best_nil (fun x => by simp) rfl
  obtain ⟨v2, w2⟩ := best_one ba2 bb2 hm (fun x hx y hy => hal x hx y hy)
  obtain ⟨v3, w3⟩ := best_one ba3 bb3 hm (fun x hx y hy => hal x hx y hy)
  obtain ⟨s1, s2, rfl, hs1, hs2⟩ := hav
  obtain ⟨t1, t2, rfl, ht1, ht2⟩ := hbv
  obtain ⟨s11, s12⟩ := hs1.one
  obtain ⟨s21, s22⟩ := hs2.one
  obtain ⟨t11, t12⟩ := ht1.one
  obtain ⟨t21, t22⟩ := ht2.one
  simp (maxSteps := 1000000) (implicitDefEqProofs := false) only [h0, h1, AttS.v, s11, s21, t11, t21, v2, v3, w2, w3, beq_self_eq_true, Nat.add_zero, hA, ZA3_eq, go_sem, ↓reduceIte]
  exact h
end Go.Proofs.YtegamlopcdjiaaaDoor.Sha
