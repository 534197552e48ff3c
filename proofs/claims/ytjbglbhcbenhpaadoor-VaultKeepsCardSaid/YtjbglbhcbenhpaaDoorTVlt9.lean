/- The vault: the law of keeping. -/
import Derived.Test.YtjbglbhcbenhpaaDoorTVlt8
namespace Go.Proofs.YtjbglbhcbenhpaaDoor.Sha
open Go Go.Abs Go.Abs.Sha
set_option linter.unusedSimpArgs false
set_option linter.unusedVariables false
set_option maxRecDepth 100000
attribute [local irreducible] W Wops WopsD WL Wop WopD
variable {E : Env} {C : Abs.Spec} {l : List (Nat × Spec1)} {G : List (Nat × V)} {Q : R → List (Nat × V) → Prop}
set_option maxHeartbeats 1000000
def SDd2 : Spec1
  | [x], G, Q => ∃ b, DDV G x b ∧ Q (.v (.bool b)) G
  | _, _, _ => False
theorem SDd2_eq {x} : SDd2 [x] G Q = (∃ b, DDV G x b ∧ Q (.v (.bool b)) G) := rfl
def SCr2 : Spec1
  | [x, .int .i64 n], G, Q => ∃ s : VS, (s.at G x ∧ s.good) ∧ Q (.tup []) (setG G (crashS s n))
  | _, _, _ => False
theorem SCr2_eq {x n} : SCr2 [x, .int .i64 n] G Q = (∃ s : VS, (s.at G x ∧ s.good) ∧ Q (.tup []) (setG G (crashS s n))) := rfl
theorem detSArm2 : SArm2.Det := by
  intro vs G Q h
  unfold SArm2 at h ⊢
  split at h
  · rcases h with ⟨hn, h⟩ | ⟨s, hp, h⟩
    · exact ⟨_, h.2, fun Q' h' => .inl ⟨hn, h'⟩⟩
    · exact ⟨_, h.2, fun Q' h' => .inr ⟨s, hp, by rw [h.1]; exact h'⟩⟩
  · exact h.elim
theorem detSLd2 (kt : List Int) : (SLd2 kt).Det := by
  intro vs G Q h
  unfold SLd2 at h ⊢
  split at h
  · obtain ⟨s, hp, h⟩ := h
    exact ⟨_, (h _ (Ext.refl _)).2, fun Q' h' => ⟨s, hp, fun G' e => by rw [(h G' e).1]; exact h'⟩⟩
  · exact h.elim
theorem gl1 {L : List Bx} {a b : Bx} : (L ++ [a] ++ [b])[L.length + 1]? = some b := by simp
theorem gl2 {L : List Bx} {a b : Bx} : (L ++ [a] ++ [b])[L.length]? = some a := by simp
theorem sl1 {L : List Bx} {a b c : Bx} : (L ++ [a] ++ [b]).set (L.length + 1) c = L ++ [a] ++ [c] := by
  rw [List.set_append_right _ _ (by simp)]; simp
theorem gl3 {L : List Bx} {a b c : Bx} : (L ++ [a] ++ [b] ++ [c])[L.length + 1 + 1]? = some c := by rw [List.getElem?_append_right (by simp)]; simp
theorem gl4 {L : List Bx} {a b c : Bx} : (L ++ [a] ++ [b] ++ [c])[L.length + 1]? = some b := by
  rw [List.getElem?_append_left (by simp)]; exact gl1
theorem gl5 {L : List Bx} {a b c : Bx} : (L ++ [a] ++ [b] ++ [c])[L.length]? = some a := by
  rw [List.getElem?_append_left (by simp)]; exact gl2
theorem sl3 {L : List Bx} {a b c d : Bx} : (L ++ [a] ++ [b] ++ [c]).set (L.length + 1 + 1) d = L ++ [a] ++ [b] ++ [d] := by
  rw [List.set_append_right _ _ (by simp)]; simp
theorem crashS_like (s : VS) (m : Int) : Like s (crashS s m) ∧ (crashS s m).n = s.n := by
  unfold crashS
  split
  · exact ⟨⟨rfl, rfl, rfl⟩, rfl⟩
  · have p := put_like s s.k (.sli .u8 (torn ((byB s.h).take (cutN m (byB s.h).length).toNat) (byB (s.slot s.k))))
    exact ⟨⟨p.id, p.c, p.i⟩, by show (VS.put _ _ _).n = _; unfold VS.put; split <;> rfl⟩
theorem sC0 {M : List Bx} {c d z : Bx} (h : M[0]? = some z) : ((M.set 0 c).set 1 d)[0]? = some c := get_set_ne (by decide) (get_set h)
theorem sC1 {M : List Bx} {c d z : Bx} (h : M[1]? = some z) : ((M.set 0 c).set 1 d)[1]? = some d := get_set (get_set_ne (by decide) h)
theorem gdy0 {s : VS} (h : s.good) : Byt (byB s.s0) := by obtain ⟨b, e, _, y⟩ := h.z0; rw [byB_of e]; exact y
theorem gdy1 {s : VS} (h : s.good) : Byt (byB s.s1) := by obtain ⟨b, e, _, y⟩ := h.z1; rw [byB_of e]; exact y
theorem loop4 {as : List V} {x : V} {QQ : Ex → St → Prop} (h15 : Abs.look l 15 = some (SKp2 K256)) (h17 : Abs.look l 17 = some SArm2) (h18 : Abs.look l 18 = some SCr2) (h19 : Abs.look l 19 = some (SLd2 K256)) (h20 : Abs.look l 20 = some SDead) (h16 : Abs.look l 16 = some SBm)
    (hA : ∀ e ∈ as, AS e) (hl : as.length ≤ 40) (hx : ∀ (j : Int) ts L G', QQ (.exit 0) ⟨[none, some (.v (.sle 40 as)), none, none, none, some (.v x), none, some (.lp 0 []), some (.lp 1 []), some (.v (.int .i64 j)), none, none, none, none, none, none, none, none, none, none, none, none, none, none, none, none, none, none, none, none, none, none, none, none, none, none, none, none, none, none, none, some (.v (.int .i64 j)), some (.v (.sle 40 as)), some (.v (.int .i64 as.length)), some (.v (.bool false)), none, none, none, none, none, none, none, none], ts, L, G'⟩) :
    ∀ (r : List V) (j : Nat) (s : VS) (q tr : SealS) (L : List Bx) (G : List (Nat × V)), as.drop j = r → j ≤ as.length → KInv K256 s q → s.good → s.at G x → s.n ≤ j → L[0]? = some ⟨false, q.v⟩ → L[1]? = some ⟨false, tr.v⟩ →
      WL (W E (specOf l) lp4_0) [1, 5, 7, 8, 9] QQ (r.length + 1) ⟨[none, some (.v (.sle 40 as)), none, none, none, some (.v x), none, some (.lp 0 []), some (.lp 1 []), some (.v (.int .i64 j)), none, none, none, none, none, none, none, none, none, none, none, none, none, none, none, none, none, none, none, none, none, none, none, none, none, none, none, none, none, none, none, none, none, none, none, none, none, none, none, none, none, none, none], [], L, G⟩ := by
  intro r
  induction r with
  | nil =>
    intro j s q tr L G hr hj hi hg hs hn hL0 hL1
    have : as.length ≤ j := by
      have := congrArg List.length hr
      rw [List.length_drop, List.length_nil] at this; omega
    have c1 : ¬ (j : Int) < as.length := by omega
    refine WL_in lp4_0.eq_1 ?_
    simp (maxSteps := 1000000) (implicitDefEqProofs := false) only [c1, go_sem, ↓reduceIte, decide_eq_true_eq, decide_eq_false_iff_not, ge_iff_le, gt_iff_lt, Int.not_le, Int.not_lt, Bool.not_eq_true', Bool.not_eq_false', Bool.and_eq_true, Bool.and_eq_false_iff]
    exact hx _ _ _ _
  | cons e r ih =>
    intro j s q tr L G hr hj hi hg hs hn hL0 hL1
    have hlen := congrArg List.length hr
    rw [List.length_drop, List.length_cons] at hlen
    have hge : as[j]? = some e := by
      have : (as.drop j)[0]? = some e := by rw [hr]; rfl
      rwa [List.getElem?_drop, Nat.add_zero] at this
    have hgd : as.getD j .nilp = e := by rw [List.getD_eq_getElem?_getD, hge]; rfl
    have hr2 : as.drop (j + 1) = r := by rw [← List.drop_drop, hr]; rfl
    obtain ⟨do_, a1, a2, a3, a4, n, m, k, bs, rfl, hw, hn64⟩ := hA e (List.mem_of_getElem? hge)
    have c1 : (j : Int) < as.length := by omega
    have ew : IntKind.i64.wrap ((j : Int) + 1) = ((j + 1 : Nat) : Int) := by rw [w64 (by omega) (by omega)]; simp
    refine WL_in lp4_0.eq_1 ?_
    have hA0 : ∀ b, (L ++ [b])[0]? = some ⟨false, q.v⟩ := fun b => get_app hL0
    have hA1 : ∀ b, (L ++ [b])[1]? = some ⟨false, tr.v⟩ := fun b => get_app hL1
    have hB0 : ∀ a b, (L ++ [a] ++ [b])[0]? = some ⟨false, q.v⟩ := fun a b => get_app (get_app hL0)
    have hB1 : ∀ a b, (L ++ [a] ++ [b])[1]? = some ⟨false, tr.v⟩ := fun a b => get_app (get_app hL1)
    have hD1 : ∀ a b c, ((L ++ [a] ++ [b]).set 0 c)[1]? = some ⟨false, tr.v⟩ := fun a b c => get_set_ne (by decide) (hB1 a b)
    simp (maxSteps := 1000000) (implicitDefEqProofs := false) only [c1, hgd, Int.toNat_natCast, h19, go_sem, ↓reduceIte, decide_eq_true_eq, decide_eq_false_iff_not, ge_iff_le, gt_iff_lt, Int.not_le, Int.not_lt, Bool.not_eq_true', Bool.not_eq_false', Bool.and_eq_true, Bool.and_eq_false_iff]
    refine ⟨by omega, fun d0 => ?_, fun d0 => ⟨fun d4 => ?_, fun d4 => ⟨fun d5 => ?_, fun d5 => ?_⟩⟩⟩
    · try simp (maxSteps := 1000000) (implicitDefEqProofs := false) only [h15, go_sem, ↓reduceIte, decide_eq_true_eq, decide_eq_false_iff_not, ge_iff_le, gt_iff_lt, Int.not_le, Int.not_lt, Bool.not_eq_true', Bool.not_eq_false', Bool.and_eq_true, Bool.and_eq_false_iff]
      rw [SKp2_eq]
      refine ⟨s, ⟨hs, hg, by omega, hw⟩, ?_⟩
      obtain ⟨inv1, code, nle, lk⟩ := hi.keep hw
      have gd1 := keepS_good (kt := K256) hg hw ⟨hi.n0, by omega⟩
      have at1 := at_setG (t := (keepS K256 s (⟨a1, a2, a3, a4⟩ : SealS)).1) hs lk.id lk.c ⟨inv1.n0, by omega⟩ (let ⟨b, e, _⟩ := gd1.z0; ⟨b, e⟩) (let ⟨b, e, _⟩ := gd1.z1; ⟨b, e⟩)
      rcases hks : keepS K256 s (⟨a1, a2, a3, a4⟩ : SealS) with ⟨s1, r0⟩
      rw [hks] at inv1 code nle lk gd1 at1
      simp only at inv1 code nle lk gd1 at1
      generalize setG G s1 = G1 at *
      rcases code with rfl | rfl | rfl
      · rw [if_pos rfl] at inv1
        simp (maxSteps := 1000000) (implicitDefEqProofs := false) only [h19, hA0, hA1, SealS.v, go_sem, ↓reduceIte, decide_eq_true_eq, decide_eq_false_iff_not, ge_iff_le, gt_iff_lt, Int.not_le, Int.not_lt, Bool.not_eq_true', Bool.not_eq_false', Bool.and_eq_true, Bool.and_eq_false_iff]
        generalize hL2 : (L ++ [(⟨false, .agg [.int .i64 do_, .agg [.int .i64 a1, .int .i64 a2, .int .i64 a3, .arr .u8 32 a4], .int .i64 n, .int .i64 m, .int .i64 k, .sli .u8 bs]⟩ : Bx)]).set 0 (⟨false, .agg [.int .i64 a1, .int .i64 a2, .int .i64 a3, .arr .u8 32 a4]⟩ : Bx) = L2
        have k0 : L2[0]? = some ⟨false, SealS.v (⟨a1, a2, a3, a4⟩ : SealS)⟩ := by rw [← hL2]; exact get_set (hA0 _)
        have k1 : L2[1]? = some ⟨false, SealS.v tr⟩ := by rw [← hL2]; exact get_set_ne (by decide) (hA1 _)
        have hE0 : ∀ b, (L2 ++ [b])[0]? = some ⟨false, SealS.v (⟨a1, a2, a3, a4⟩ : SealS)⟩ := fun b => get_app k0
        have hE1 : ∀ b, (L2 ++ [b])[1]? = some ⟨false, SealS.v tr⟩ := fun b => get_app k1
        clear hL2
        rw [SLd2_eq]
        refine ⟨_, ⟨at1, gd1⟩, fun G4 e4 => ?_⟩
        have at2 := at1.ext e4
        have lo := inv1.load gd1.i (by omega) (gdy0 gd1) (gdy1 gd1)
        have next := fun L' k0 k1 => ih (j + 1) s1 (⟨a1, a2, a3, a4⟩ : SealS) tr L' G4 hr2 (by omega) inv1 gd1 at2 (by omega) k0 k1
        cases hd : s1.d with
        | true =>
          have l1 : loadD K256 s1 = (.zero, 6) := by unfold loadD; rw [if_pos hd]
          rw [l1]
          simp (maxSteps := 1000000) (implicitDefEqProofs := false) only [h20, SDead_eq, SealS.v, SealS.zero, hE0, beq_self_eq_true, ew, go_sem, ↓reduceIte, decide_eq_true_eq, decide_eq_false_iff_not, ge_iff_le, gt_iff_lt, Int.not_le, Int.not_lt, Bool.not_eq_true', Bool.not_eq_false', Bool.and_eq_true, Bool.and_eq_false_iff]
          repeat' first | exact next _ (hE0 _) (hE1 _) | (intro c; first | (cases c; done) | skip) | (refine And.intro ?_ ?_) | (refine ⟨true, .inr ⟨_, at2, hd.symm⟩, ?_⟩)
        | false =>
          have l1 : loadD K256 s1 = ((⟨a1, a2, a3, a4⟩ : SealS), 0) := by unfold loadD; rw [if_neg (by rw [hd]; simp)]; exact lo
          rw [l1]
          simp (maxSteps := 1000000) (implicitDefEqProofs := false) only [h20, SDead_eq, SealS.v, SealS.zero, hE0, beq_self_eq_true, ew, go_sem, ↓reduceIte, decide_eq_true_eq, decide_eq_false_iff_not, ge_iff_le, gt_iff_lt, Int.not_le, Int.not_lt, Bool.not_eq_true', Bool.not_eq_false', Bool.and_eq_true, Bool.and_eq_false_iff]
          repeat' first | exact next _ (hE0 _) (hE1 _) | (intro c; first | (cases c; done) | skip) | (refine And.intro ?_ ?_) | (refine ⟨false, .inr ⟨_, at2, hd.symm⟩, ?_⟩)
      · rw [if_neg (by decide)] at inv1
        simp (maxSteps := 1000000) (implicitDefEqProofs := false) only [h19, hA0, hA1, go_sem, ↓reduceIte, decide_eq_true_eq, decide_eq_false_iff_not, ge_iff_le, gt_iff_lt, Int.not_le, Int.not_lt, Bool.not_eq_true', Bool.not_eq_false', Bool.and_eq_true, Bool.and_eq_false_iff]
        generalize hL2 : L ++ [_] = L2
        have k0 : L2[0]? = some ⟨false, SealS.v q⟩ := by rw [← hL2]; exact hA0 _
        have k1 : L2[1]? = some ⟨false, SealS.v tr⟩ := by rw [← hL2]; exact hA1 _
        have hE0 : ∀ b, (L2 ++ [b])[0]? = some ⟨false, SealS.v q⟩ := fun b => get_app k0
        have hE1 : ∀ b, (L2 ++ [b])[1]? = some ⟨false, SealS.v tr⟩ := fun b => get_app k1
        clear hL2
        rw [SLd2_eq]
        refine ⟨_, ⟨at1, gd1⟩, fun G4 e4 => ?_⟩
        have at2 := at1.ext e4
        have lo := inv1.load gd1.i (by omega) (gdy0 gd1) (gdy1 gd1)
        have next := fun L' k0 k1 => ih (j + 1) s1 q tr L' G4 hr2 (by omega) inv1 gd1 at2 (by omega) k0 k1
        cases hd : s1.d with
        | true =>
          have l1 : loadD K256 s1 = (.zero, 6) := by unfold loadD; rw [if_pos hd]
          rw [l1]
          simp (maxSteps := 1000000) (implicitDefEqProofs := false) only [h20, SDead_eq, SealS.v, SealS.zero, hE0, beq_self_eq_true, ew, go_sem, ↓reduceIte, decide_eq_true_eq, decide_eq_false_iff_not, ge_iff_le, gt_iff_lt, Int.not_le, Int.not_lt, Bool.not_eq_true', Bool.not_eq_false', Bool.and_eq_true, Bool.and_eq_false_iff]
          repeat' first | exact next _ (hE0 _) (hE1 _) | (intro c; first | (cases c; done) | skip) | (refine And.intro ?_ ?_) | (refine ⟨true, .inr ⟨_, at2, hd.symm⟩, ?_⟩)
        | false =>
          have l1 : loadD K256 s1 = (q, 0) := by unfold loadD; rw [if_neg (by rw [hd]; simp)]; exact lo
          rw [l1]
          simp (maxSteps := 1000000) (implicitDefEqProofs := false) only [h20, SDead_eq, SealS.v, SealS.zero, hE0, beq_self_eq_true, ew, go_sem, ↓reduceIte, decide_eq_true_eq, decide_eq_false_iff_not, ge_iff_le, gt_iff_lt, Int.not_le, Int.not_lt, Bool.not_eq_true', Bool.not_eq_false', Bool.and_eq_true, Bool.and_eq_false_iff]
          repeat' first | exact next _ (hE0 _) (hE1 _) | (intro c; first | (cases c; done) | skip) | (refine And.intro ?_ ?_) | (refine ⟨false, .inr ⟨_, at2, hd.symm⟩, ?_⟩)
      · rw [if_neg (by decide)] at inv1
        simp (maxSteps := 1000000) (implicitDefEqProofs := false) only [h19, hA0, hA1, h16, SBm_eq, SealS.v, go_sem, ↓reduceIte, decide_eq_true_eq, decide_eq_false_iff_not, ge_iff_le, gt_iff_lt, Int.not_le, Int.not_lt, Bool.not_eq_true', Bool.not_eq_false', Bool.and_eq_true, Bool.and_eq_false_iff]
        repeat' first | exact hw | (intro _) | (refine And.intro ?_ ?_)
        all_goals first
          | (
            generalize hL2 : (L ++ [(⟨false, .agg [.int .i64 do_, .agg [.int .i64 a1, .int .i64 a2, .int .i64 a3, .arr .u8 32 a4], .int .i64 n, .int .i64 m, .int .i64 k, .sli .u8 bs]⟩ : Bx)]).set 1 (⟨false, .agg [.int .i64 a1, .int .i64 a2, .int .i64 a3, .arr .u8 32 a4]⟩ : Bx) = L2
            have k0 : L2[0]? = some ⟨false, SealS.v q⟩ := by rw [← hL2]; exact get_set_ne (by decide) (hA0 _)
            have k1 : L2[1]? = some ⟨false, SealS.v (⟨a1, a2, a3, a4⟩ : SealS)⟩ := by rw [← hL2]; exact get_set (hA1 _)
            have hE0 : ∀ b, (L2 ++ [b])[0]? = some ⟨false, SealS.v q⟩ := fun b => get_app k0
            have hE1 : ∀ b, (L2 ++ [b])[1]? = some ⟨false, SealS.v (⟨a1, a2, a3, a4⟩ : SealS)⟩ := fun b => get_app k1
            clear hL2
            rw [SLd2_eq]
            refine ⟨_, ⟨at1, gd1⟩, fun G4 e4 => ?_⟩
            have at2 := at1.ext e4
            have lo := inv1.load gd1.i (by omega) (gdy0 gd1) (gdy1 gd1)
            have next := fun L' k0 k1 => ih (j + 1) s1 q (⟨a1, a2, a3, a4⟩ : SealS) L' G4 hr2 (by omega) inv1 gd1 at2 (by omega) k0 k1
            cases hd : s1.d with
            | true =>
              have l1 : loadD K256 s1 = (.zero, 6) := by unfold loadD; rw [if_pos hd]
              rw [l1]
              simp (maxSteps := 1000000) (implicitDefEqProofs := false) only [h20, SDead_eq, SealS.v, SealS.zero, hE0, beq_self_eq_true, ew, go_sem, ↓reduceIte, decide_eq_true_eq, decide_eq_false_iff_not, ge_iff_le, gt_iff_lt, Int.not_le, Int.not_lt, Bool.not_eq_true', Bool.not_eq_false', Bool.and_eq_true, Bool.and_eq_false_iff]
              repeat' first | exact next _ (hE0 _) (hE1 _) | (intro c; first | (cases c; done) | skip) | (refine And.intro ?_ ?_) | (refine ⟨true, .inr ⟨_, at2, hd.symm⟩, ?_⟩)
            | false =>
              have l1 : loadD K256 s1 = (q, 0) := by unfold loadD; rw [if_neg (by rw [hd]; simp)]; exact lo
              rw [l1]
              simp (maxSteps := 1000000) (implicitDefEqProofs := false) only [h20, SDead_eq, SealS.v, SealS.zero, hE0, beq_self_eq_true, ew, go_sem, ↓reduceIte, decide_eq_true_eq, decide_eq_false_iff_not, ge_iff_le, gt_iff_lt, Int.not_le, Int.not_lt, Bool.not_eq_true', Bool.not_eq_false', Bool.and_eq_true, Bool.and_eq_false_iff]
              repeat' first | exact next _ (hE0 _) (hE1 _) | (intro c; first | (cases c; done) | skip) | (refine And.intro ?_ ?_) | (refine ⟨false, .inr ⟨_, at2, hd.symm⟩, ?_⟩))
          | (
            generalize hL2 : L ++ [(⟨false, .agg [.int .i64 do_, .agg [.int .i64 a1, .int .i64 a2, .int .i64 a3, .arr .u8 32 a4], .int .i64 n, .int .i64 m, .int .i64 k, .sli .u8 bs]⟩ : Bx)] = L2
            have k0 : L2[0]? = some ⟨false, SealS.v q⟩ := by rw [← hL2]; exact hA0 _
            have k1 : L2[1]? = some ⟨false, SealS.v tr⟩ := by rw [← hL2]; exact hA1 _
            have hE0 : ∀ b, (L2 ++ [b])[0]? = some ⟨false, SealS.v q⟩ := fun b => get_app k0
            have hE1 : ∀ b, (L2 ++ [b])[1]? = some ⟨false, SealS.v tr⟩ := fun b => get_app k1
            clear hL2
            rw [SLd2_eq]
            refine ⟨_, ⟨at1, gd1⟩, fun G4 e4 => ?_⟩
            have at2 := at1.ext e4
            have lo := inv1.load gd1.i (by omega) (gdy0 gd1) (gdy1 gd1)
            have next := fun L' k0 k1 => ih (j + 1) s1 q tr L' G4 hr2 (by omega) inv1 gd1 at2 (by omega) k0 k1
            cases hd : s1.d with
            | true =>
              have l1 : loadD K256 s1 = (.zero, 6) := by unfold loadD; rw [if_pos hd]
              rw [l1]
              simp (maxSteps := 1000000) (implicitDefEqProofs := false) only [h20, SDead_eq, SealS.v, SealS.zero, hE0, beq_self_eq_true, ew, go_sem, ↓reduceIte, decide_eq_true_eq, decide_eq_false_iff_not, ge_iff_le, gt_iff_lt, Int.not_le, Int.not_lt, Bool.not_eq_true', Bool.not_eq_false', Bool.and_eq_true, Bool.and_eq_false_iff]
              repeat' first | exact next _ (hE0 _) (hE1 _) | (intro c; first | (cases c; done) | skip) | (refine And.intro ?_ ?_) | (refine ⟨true, .inr ⟨_, at2, hd.symm⟩, ?_⟩)
            | false =>
              have l1 : loadD K256 s1 = (q, 0) := by unfold loadD; rw [if_neg (by rw [hd]; simp)]; exact lo
              rw [l1]
              simp (maxSteps := 1000000) (implicitDefEqProofs := false) only [h20, SDead_eq, SealS.v, SealS.zero, hE0, beq_self_eq_true, ew, go_sem, ↓reduceIte, decide_eq_true_eq, decide_eq_false_iff_not, ge_iff_le, gt_iff_lt, Int.not_le, Int.not_lt, Bool.not_eq_true', Bool.not_eq_false', Bool.and_eq_true, Bool.and_eq_false_iff]
              repeat' first | exact next _ (hE0 _) (hE1 _) | (intro c; first | (cases c; done) | skip) | (refine And.intro ?_ ?_) | (refine ⟨false, .inr ⟨_, at2, hd.symm⟩, ?_⟩))
    · simp (maxSteps := 1000000) (implicitDefEqProofs := false) only [h17, go_sem, ↓reduceIte, decide_eq_true_eq, decide_eq_false_iff_not, ge_iff_le, gt_iff_lt, Int.not_le, Int.not_lt, Bool.not_eq_true', Bool.not_eq_false', Bool.and_eq_true, Bool.and_eq_false_iff]
      rw [SArm2_eq]
      refine .inr ⟨s, ⟨hs, hg⟩, ?_⟩
      have at1 := at_setG (t := { s with a := if n < -1 then -1 else n }) hs rfl rfl hs.ok hs.z0 hs.z1
      have gd1 : VS.good { s with a := if n < -1 then -1 else n } := ⟨hg.h, hg.k, (by show -1 ≤ (if n < -1 then (-1 : Int) else n) ∧ (if n < -1 then (-1 : Int) else n) ≤ 9223372036854775807; unfold I64 at hn64; split <;> omega), hg.i, hg.z0, hg.z1⟩
      have inv1 := hi.arm (if n < -1 then -1 else n)
      have hn1 : VS.n { s with a := if n < -1 then -1 else n } ≤ j := hn
      generalize ({ s with a := if n < -1 then -1 else n } : VS) = s1 at *
      generalize setG G s1 = G1 at *
      try simp (maxSteps := 1000000) (implicitDefEqProofs := false) only [h19, go_sem, ↓reduceIte, decide_eq_true_eq, decide_eq_false_iff_not, ge_iff_le, gt_iff_lt, Int.not_le, Int.not_lt, Bool.not_eq_true', Bool.not_eq_false', Bool.and_eq_true, Bool.and_eq_false_iff]
      rw [SLd2_eq]
      refine ⟨_, ⟨at1, gd1⟩, fun G2 e2 => ?_⟩
      have at2 := at1.ext e2
      have lo := inv1.load gd1.i (by omega) (gdy0 gd1) (gdy1 gd1)
      have next := fun L' k0 k1 => ih (j + 1) s1 q tr L' G2 hr2 (by omega) inv1 gd1 at2 (by omega) k0 k1
      cases hd : VS.d s1 with
      | true =>
        have l1 : loadD K256 s1 = (.zero, 6) := by unfold loadD; rw [if_pos hd]
        rw [l1]
        simp (maxSteps := 1000000) (implicitDefEqProofs := false) only [h20, SDead_eq, SealS.v, SealS.zero, hA0, hA1, hB0, hB1, gl1, gl2, sl1, beq_self_eq_true, ew, go_sem, ↓reduceIte, decide_eq_true_eq, decide_eq_false_iff_not, ge_iff_le, gt_iff_lt, Int.not_le, Int.not_lt, Bool.not_eq_true', Bool.not_eq_false', Bool.and_eq_true, Bool.and_eq_false_iff]
        repeat' first | exact next _ (hB0 _ _) (hB1 _ _) | (intro c; first | (cases c; done) | skip) | (refine And.intro ?_ ?_) | (refine ⟨true, .inr ⟨_, at2, hd.symm⟩, ?_⟩)
      | false =>
        have l1 : loadD K256 s1 = (q, 0) := by unfold loadD; rw [if_neg (by rw [hd]; simp)]; exact lo
        rw [l1]
        simp (maxSteps := 1000000) (implicitDefEqProofs := false) only [h20, SDead_eq, SealS.v, SealS.zero, hA0, hA1, hB0, hB1, gl1, gl2, sl1, beq_self_eq_true, ew, go_sem, ↓reduceIte, decide_eq_true_eq, decide_eq_false_iff_not, ge_iff_le, gt_iff_lt, Int.not_le, Int.not_lt, Bool.not_eq_true', Bool.not_eq_false', Bool.and_eq_true, Bool.and_eq_false_iff]
        repeat' first | exact next _ (hB0 _ _) (hB1 _ _) | (intro c; first | (cases c; done) | skip) | (refine And.intro ?_ ?_) | (refine ⟨false, .inr ⟨_, at2, hd.symm⟩, ?_⟩)
    · simp (maxSteps := 1000000) (implicitDefEqProofs := false) only [h18, go_sem, ↓reduceIte, decide_eq_true_eq, decide_eq_false_iff_not, ge_iff_le, gt_iff_lt, Int.not_le, Int.not_lt, Bool.not_eq_true', Bool.not_eq_false', Bool.and_eq_true, Bool.and_eq_false_iff]
      rw [SCr2_eq]
      refine ⟨s, ⟨hs, hg⟩, ?_⟩
      obtain ⟨lk, nk⟩ := crashS_like s n
      have gd1 := crashS_good (m := n) hg
      have at1 := at_setG (t := crashS s n) hs lk.id lk.c (by rw [nk]; exact hs.ok) (let ⟨b, e, _⟩ := gd1.z0; ⟨b, e⟩) (let ⟨b, e, _⟩ := gd1.z1; ⟨b, e⟩)
      have inv1 := hi.crash n
      have d1 : (crashS s n).d = false := rfl
      generalize crashS s n = s1 at *
      generalize setG G s1 = G1 at *
      try simp (maxSteps := 1000000) (implicitDefEqProofs := false) only [h19, go_sem, ↓reduceIte, decide_eq_true_eq, decide_eq_false_iff_not, ge_iff_le, gt_iff_lt, Int.not_le, Int.not_lt, Bool.not_eq_true', Bool.not_eq_false', Bool.and_eq_true, Bool.and_eq_false_iff]
      rw [SLd2_eq]
      refine ⟨_, ⟨at1, gd1⟩, fun G3 e3 => ?_⟩
      have at1 := at1.ext e3
      have lo := inv1.load gd1.i (by omega) (gdy0 gd1) (gdy1 gd1)
      have l0 : loadD K256 s1 = (q, 0) := by unfold loadD; rw [if_neg (by rw [d1]; simp)]; exact lo
      rw [l0]
      simp (maxSteps := 1000000) (implicitDefEqProofs := false) only [h19, SealS.v, SealS.zero, hA0, hA1, hB0, hB1, hD1, gl1, gl2, sl1, beq_self_eq_true, go_sem, ↓reduceIte, decide_eq_true_eq, decide_eq_false_iff_not, ge_iff_le, gt_iff_lt, Int.not_le, Int.not_lt, Bool.not_eq_true', Bool.not_eq_false', Bool.and_eq_true, Bool.and_eq_false_iff]
      generalize hL2 : ((L ++ [_] ++ [_]).set 0 _).set 1 _ = L2
      have k0 : L2[0]? = some ⟨false, q.v⟩ := by rw [← hL2]; exact sC0 (hB0 _ _)
      have k1 : L2[1]? = some ⟨false, SealS.zero.v⟩ := by rw [← hL2]; exact sC1 (hB1 _ _)
      have hE0 : ∀ b, (L2 ++ [b])[0]? = some ⟨false, q.v⟩ := fun b => get_app k0
      have hE1 : ∀ b, (L2 ++ [b])[1]? = some ⟨false, SealS.zero.v⟩ := fun b => get_app k1
      clear hL2
      rw [SLd2_eq]
      refine ⟨_, ⟨at1, gd1⟩, fun G4 e4 => ?_⟩
      have at2 := at1.ext e4
      have next := fun L' k0 k1 => ih (j + 1) s1 q .zero L' G4 hr2 (by omega) inv1 gd1 at2 (by omega) k0 k1
      rw [l0]
      simp (maxSteps := 1000000) (implicitDefEqProofs := false) only [h20, SDead_eq, SealS.v, hE0, beq_self_eq_true, ew, go_sem, ↓reduceIte, decide_eq_true_eq, decide_eq_false_iff_not, ge_iff_le, gt_iff_lt, Int.not_le, Int.not_lt, Bool.not_eq_true', Bool.not_eq_false', Bool.and_eq_true, Bool.and_eq_false_iff]
      repeat' first | exact next _ (hE0 _) (hE1 _) | (intro c; first | (cases c; done) | skip) | (refine And.intro ?_ ?_) | (refine ⟨false, .inr ⟨_, at2, d1.symm⟩, ?_⟩)
    · have at1 := hs
      have gd1 := hg
      have inv1 := hi
      try simp (maxSteps := 1000000) (implicitDefEqProofs := false) only [h19, go_sem, ↓reduceIte, decide_eq_true_eq, decide_eq_false_iff_not, ge_iff_le, gt_iff_lt, Int.not_le, Int.not_lt, Bool.not_eq_true', Bool.not_eq_false', Bool.and_eq_true, Bool.and_eq_false_iff]
      rw [SLd2_eq]
      refine ⟨_, ⟨at1, gd1⟩, fun G2 e2 => ?_⟩
      have at2 := at1.ext e2
      have lo := inv1.load gd1.i (by omega) (gdy0 gd1) (gdy1 gd1)
      have next := fun L' k0 k1 => ih (j + 1) s q tr L' G2 hr2 (by omega) inv1 gd1 at2 (by omega) k0 k1
      cases hd : VS.d s with
      | true =>
        have l1 : loadD K256 s = (.zero, 6) := by unfold loadD; rw [if_pos hd]
        rw [l1]
        simp (maxSteps := 1000000) (implicitDefEqProofs := false) only [h20, SDead_eq, SealS.v, SealS.zero, hA0, hA1, hB0, hB1, gl1, gl2, sl1, beq_self_eq_true, ew, go_sem, ↓reduceIte, decide_eq_true_eq, decide_eq_false_iff_not, ge_iff_le, gt_iff_lt, Int.not_le, Int.not_lt, Bool.not_eq_true', Bool.not_eq_false', Bool.and_eq_true, Bool.and_eq_false_iff]
        repeat' first | exact next _ (hB0 _ _) (hB1 _ _) | (intro c; first | (cases c; done) | skip) | (refine And.intro ?_ ?_) | (refine ⟨true, .inr ⟨_, at2, hd.symm⟩, ?_⟩)
      | false =>
        have l1 : loadD K256 s = (q, 0) := by unfold loadD; rw [if_neg (by rw [hd]; simp)]; exact lo
        rw [l1]
        simp (maxSteps := 1000000) (implicitDefEqProofs := false) only [h20, SDead_eq, SealS.v, SealS.zero, hA0, hA1, hB0, hB1, gl1, gl2, sl1, beq_self_eq_true, ew, go_sem, ↓reduceIte, decide_eq_true_eq, decide_eq_false_iff_not, ge_iff_le, gt_iff_lt, Int.not_le, Int.not_lt, Bool.not_eq_true', Bool.not_eq_false', Bool.and_eq_true, Bool.and_eq_false_iff]
        repeat' first | exact next _ (hB0 _ _) (hB1 _ _) | (intro c; first | (cases c; done) | skip) | (refine And.intro ?_ ?_) | (refine ⟨false, .inr ⟨_, at2, hd.symm⟩, ?_⟩)
theorem walk4 {as : List V} {i : Int} (h9 : Abs.look l 9 = some SLi) (h10 : Abs.look l 10 = some SAv) (h11 : Abs.look l 11 = some SNew) (h15 : Abs.look l 15 = some (SKp2 K256)) (h17 : Abs.look l 17 = some SArm2) (h18 : Abs.look l 18 = some SCr2) (h19 : Abs.look l 19 = some (SLd2 K256)) (h20 : Abs.look l 20 = some SDead) (h16 : Abs.look l 16 = some SBm)
    (hA : ∀ e ∈ as, AS e) (hl : as.length < 9223372036854775808) (h : ∀ G', Q (.v (.bool true)) G') : Wf E (specOf l) pf4 [.int .i64 i, .sle 40 as] G Q := by
  cases hli : lightA as with
  | false =>
    simp (maxSteps := 1000000) (implicitDefEqProofs := false) only [pf4, h9, SLi_eq, hli, h10, SAv_eq, go_sem, ↓reduceIte, decide_eq_true_eq, decide_eq_false_iff_not, ge_iff_le, gt_iff_lt, Int.not_le, Int.not_lt, Bool.not_eq_true', Bool.not_eq_false', Bool.and_eq_true, Bool.and_eq_false_iff]
    exact ⟨⟨hA, hl⟩, h⟩
  | true =>
    have hl40 : as.length ≤ 40 := by
      unfold lightA at hli
      rw [Bool.and_eq_true] at hli
      exact of_decide_eq_true hli.2
    by_cases c1 : i < 1
    · simp (maxSteps := 1000000) (implicitDefEqProofs := false) only [pf4, h9, SLi_eq, hli, c1, h10, SAv_eq, go_sem, ↓reduceIte, decide_eq_true_eq, decide_eq_false_iff_not, ge_iff_le, gt_iff_lt, Int.not_le, Int.not_lt, Bool.not_eq_true', Bool.not_eq_false', Bool.and_eq_true, Bool.and_eq_false_iff]
      exact ⟨⟨hA, hl⟩, h⟩
    by_cases c2 : 21 < i
    · simp (maxSteps := 1000000) (implicitDefEqProofs := false) only [pf4, h9, SLi_eq, hli, c1, c2, h10, SAv_eq, go_sem, ↓reduceIte, decide_eq_true_eq, decide_eq_false_iff_not, ge_iff_le, gt_iff_lt, Int.not_le, Int.not_lt, Bool.not_eq_true', Bool.not_eq_false', Bool.and_eq_true, Bool.and_eq_false_iff]
      exact ⟨⟨hA, hl⟩, h⟩
    simp (maxSteps := 1000000) (implicitDefEqProofs := false) only [pf4, h9, SLi_eq, hli, c1, c2, h11, SNew_eq, go_sem, ↓reduceIte, decide_eq_true_eq, decide_eq_false_iff_not, ge_iff_le, gt_iff_lt, Int.not_le, Int.not_lt, Bool.not_eq_true', Bool.not_eq_false', Bool.and_eq_true, Bool.and_eq_false_iff]
    refine ⟨⟨hA, hl⟩, ⟨by decide, by omega, by omega⟩, fun c hc id hid => ?_⟩
    have at0 := newV_at (i := i) (n := 0) (by decide) hid
    have gd0 := newV_good (n := 0) (c := c) (id := id) (i := i) ⟨by omega, by omega⟩
    generalize (id, (newV i 0 c id).val) :: (c, CT 0 true) :: G = G1 at *
    refine ⟨as.length + 1, ?_⟩
    simp (maxSteps := 1000000) (implicitDefEqProofs := false) only [go_sem, ↓reduceIte, decide_eq_true_eq, decide_eq_false_iff_not, ge_iff_le, gt_iff_lt, Int.not_le, Int.not_lt, Bool.not_eq_true', Bool.not_eq_false', Bool.and_eq_true, Bool.and_eq_false_iff]
    have inv0 : KInv K256 (newV i 0 c id) .zero := ⟨SealS.zero_wf, .inl ⟨rfl, rfl, rfl, rfl⟩, Int.le_refl _, fun _ => ⟨rfl, rfl⟩, fun c => absurd rfl c, .inl rfl, .inl rfl, fun c => absurd rfl c, fun _ => rfl⟩
    refine loop4 h15 h17 h18 h19 h20 h16 hA hl40 (fun j ts L G' => ?_) as 0 (newV i 0 c id) .zero .zero _ G1 rfl (by omega) inv0 gd0 at0 (Int.le_refl _) rfl rfl
    simp (maxSteps := 1000000) (implicitDefEqProofs := false) only [h10, SAv_eq, go_sem, ↓reduceIte, decide_eq_true_eq, decide_eq_false_iff_not, ge_iff_le, gt_iff_lt, Int.not_le, Int.not_lt, Bool.not_eq_true', Bool.not_eq_false', Bool.and_eq_true, Bool.and_eq_false_iff]
    exact h
end Go.Proofs.YtjbglbhcbenhpaaDoor.Sha
