/- Certificates: two meet. -/
import Derived.Test.YtjbglbhcbenhpaaDoorTCrt5
import Derived.Test.YtjbglbhcbenhpaaDoorCrtB
namespace Go.Proofs.YtjbglbhcbenhpaaDoor.Sha
open Go Go.Abs Go.Abs.Sha Go.Abs.Srt
set_option linter.unusedSimpArgs false
set_option linter.unusedVariables false
set_option maxRecDepth 100000
def lp8_0 : PC :=
  ((PC.reg [mm 53 14, mm 54 12, nn (.t 55) (.len (.t 54)), nn (.t 56) (.bin .lss (.t 53) (.t 55))]).seq (PC.cond (.t 56) PC.skip (PC.exit 2))).seq
    ((PC.block 3 ((PC.regD 0 [mm 59 11, mm 60 13, nn (.t 61) (.iadrS 1 (.t 59) (.t 60)), nn (.t 62) (.load 1 false (.t 61)), mm 63 12, mm 64 14, nn (.t
    65) (.iadrS 1 (.t 63) (.t 64)), nn (.t 66) (.load 1 false (.t 65)), nn (.t 67) (.bin .eql (.t 62) (.t 66))] []).seq (PC.cond (.t 67) ((PC.reg [nn (.t
    68) (.call 30 []), ma 6 68]).seq PC.ret) PC.skip))).seq (PC.reg [mm 57 14, nn (.t 58) (.bin .add (.t 57) (.c (.v (.int .i64 1)))), ma 14 58]))
def lp8_1 : PC :=
  ((PC.reg [mm 47 13, mm 48 11, nn (.t 49) (.len (.t 48)), nn (.t 50) (.bin .lss (.t 47) (.t 49))]).seq (PC.cond (.t 50) PC.skip (PC.exit 0))).seq
    ((PC.block 1 ((PC.reg [nn (.v 14) (.mv true (.c (.v (.int .i64 0))))]).seq (PC.block 2 (PC.loop [11, 12, 13, 14] lp8_0)))).seq (PC.reg [mm 51 13, nn
    (.t 52) (.bin .add (.t 51) (.c (.v (.int .i64 1)))), ma 13 52]))
def pf8 : PF :=
  PF.mk 3 15 69 ((PC.reg [nn (.v 6) (.mv true (.c (.v (.bool false))))]).seq (((PC.reg [mm 15 1, nn (.t 16) (.len (.t 15)), nn (.t 17) (.bin .gtr (.t 16)
    (.c (.v (.int .i64 25)))), nn (.t 18) (.mv false (.t 17)), gm 19 2 18 false, ⟨.t 20, .len (.t 19), some (.t 18, false)⟩, ⟨.t 21, .bin .gtr (.t 20)
    (.c (.v (.int .i64 25))), some (.t 18, false)⟩, nn (.t 22) (.pick (.t 18) (.c (.v (.bool true))) (.t 21))]).seq (PC.cond (.t 22) ((PC.reg [nn (.t 23)
    (.call 30 []), ma 6 23]).seq PC.ret) PC.skip)).seq ((PC.reg [mm 25 0, mm 26 1, nn (.t 27) (.call 31 [.t 25, .t 26]), nn (.t 24) (.mv false (.t 27)),
    nn (.t 28) (.ext (.t 24) 0), nn (.t 29) (.ext (.t 24) 1), nn (.v 7) (.alloc (.agg [.agg [.int .i64 0, .int .i64 0, .int .i64 0, .int .i64 0, .arr .u8
    32 [0, 0, 0, 0, 0, 0, 0, 0, 0, 0, 0, 0, 0, 0, 0, 0, 0, 0, 0, 0, 0, 0, 0, 0, 0, 0, 0, 0, 0, 0, 0, 0], .int .i64 0, .arr .u8 32 [0, 0, 0, 0, 0, 0, 0,
    0, 0, 0, 0, 0, 0, 0, 0, 0, 0, 0, 0, 0, 0, 0, 0, 0, 0, 0, 0, 0, 0, 0, 0, 0], .arr .u8 32 [0, 0, 0, 0, 0, 0, 0, 0, 0, 0, 0, 0, 0, 0, 0, 0, 0, 0, 0, 0,
    0, 0, 0, 0, 0, 0, 0, 0, 0, 0, 0, 0]], .nils])), nn .no (.store 102 (.v 7) (.t 28)), ma 8 29]).seq ((PC.reg [mm 31 0, mm 32 2, nn (.t 33) (.call 31
    [.t 31, .t 32]), nn (.t 30) (.mv false (.t 33)), nn (.t 34) (.ext (.t 30) 0), nn (.t 35) (.ext (.t 30) 1), nn (.v 9) (.alloc (.agg [.agg [.int .i64
    0, .int .i64 0, .int .i64 0, .int .i64 0, .arr .u8 32 [0, 0, 0, 0, 0, 0, 0, 0, 0, 0, 0, 0, 0, 0, 0, 0, 0, 0, 0, 0, 0, 0, 0, 0, 0, 0, 0, 0, 0, 0, 0,
    0], .int .i64 0, .arr .u8 32 [0, 0, 0, 0, 0, 0, 0, 0, 0, 0, 0, 0, 0, 0, 0, 0, 0, 0, 0, 0, 0, 0, 0, 0, 0, 0, 0, 0, 0, 0, 0, 0], .arr .u8 32 [0, 0, 0,
    0, 0, 0, 0, 0, 0, 0, 0, 0, 0, 0, 0, 0, 0, 0, 0, 0, 0, 0, 0, 0, 0, 0, 0, 0, 0, 0, 0, 0]], .nils])), nn .no (.store 102 (.v 9) (.t 34)), ma 10 35]).seq
    (((PC.reg [mm 36 8, nn (.t 37) (.bin .neq (.t 36) (.c (.v (.int .i64 0)))), nn (.t 38) (.mv false (.t 37)), gm 39 10 38 false, ⟨.t 40, .bin .neq (.t
    39) (.c (.v (.int .i64 0))), some (.t 38, false)⟩, nn (.t 41) (.pick (.t 38) (.c (.v (.bool true))) (.t 40))]).seq (PC.cond (.t 41) ((PC.reg [nn (.t
    42) (.call 30 []), ma 6 42]).seq PC.ret) PC.skip)).seq ((PC.regD 0 [nn (.t 43) (.load 102 true (.v 7)), nn (.t 44) (.call 35 [.t 43]), nn (.t 45)
    (.load 102 true (.v 9)), nn (.t 46) (.call 35 [.t 45]), ma 11 44, ma 12 46] []).seq (((PC.reg [nn (.v 13) (.mv true (.c (.v (.int .i64 0))))]).seq
    (PC.block 0 (PC.loop [11, 12, 13] lp8_1))).seq ((PC.reg [nn (.v 6) (.mv true (.c (.v (.bool false))))]).seq PC.ret)))))))) [(.v 6, none)]
attribute [local irreducible] W Wops WopsD WL Wop WopD
variable {E : Env} {C : Abs.Spec} {l : List (Nat × Spec1)} {G : List (Nat × V)} {Q : R → List (Nat × V) → Prop}
set_option maxHeartbeats 1000000
theorem getD_at {l : List Int} {j : Nat} {p : Int} {r : List Int} (h : l.drop j = p :: r) : l.getD j 0 = p := by
  have : (l.drop j)[0]? = some p := by rw [h]; rfl
  rw [List.getElem?_drop, Nat.add_zero] at this
  rw [List.getD_eq_getElem?_getD, this]; rfl
theorem take_next {l : List Int} {j : Nat} {p : Int} {r : List Int} (h : l.drop j = p :: r) : l.take (j + 1) = l.take j ++ [p] := by
  have : (l.drop j)[0]? = some p := by rw [h]; rfl
  rw [List.getElem?_drop, Nat.add_zero] at this
  rw [List.take_add_one, this]; rfl
theorem loop8_0 (hA : Abs.look l 30 = some ZAw) {QQ : Ex → St → Prop} {ls ms : List Int} {i : Nat} {x : Int} {L : List Bx} (hl : ls.length < 1000000) (hm : ms.length < 1000000) (hi : i < ls.length) (hg : ls.getD i 0 = x)
    (hx : ∀ ts (j : Nat), (∀ y ∈ ms, x ≠ y) → QQ (.exit 2) ⟨[none, none, none, none, none, none, none, none, none, none, none, some (.own (.sli .i64 ls)), some (.own (.sli .i64 ms)), some (.v (.int .i64 (i : Nat))), some (.v (.int .i64 (j : Nat)))], ts, L, G⟩) (hr : ∀ σ : St, σ.G = G → St.ev σ (.v 6) = some (.v (.bool true)) → QQ .ret σ) :
    ∀ (r : List Int) (j : Nat), ms.drop j = r → j ≤ ms.length → (∀ y ∈ ms.take j, x ≠ y) → WL (W E (specOf l) lp8_0) [11, 12, 13, 14] QQ (r.length + 1) ⟨[none, none, none, none, none, none, none, none, none, none, none, some (.own (.sli .i64 ls)), some (.own (.sli .i64 ms)), some (.v (.int .i64 (i : Nat))), some (.v (.int .i64 (j : Nat)))], [], L, G⟩ := by
  intro r
  induction r with
  | nil =>
    intro j h1 h2 h3
    have := drop_none h1
    have c1 : ¬ (j : Int) < (ms.length : Int) := by omega
    refine WL_in lp8_0.eq_1 ?_
    simp (maxSteps := 1000000) (implicitDefEqProofs := false) only [c1, go_sem, ↓reduceIte]
    exact hx _ j (by rw [List.take_of_length_le this] at h3; exact h3)
  | cons p r ih =>
    intro j h1 h2 h3
    obtain ⟨hd, hj, hlen⟩ := drop_one h1
    have g := getD_at h1
    have c1 : (j : Int) < (ms.length : Int) := by omega
    have c2 : (0 : Int) ≤ (j : Int) := by omega
    have c3 : (i : Int) < (ls.length : Int) := by omega
    have c4 : (0 : Int) ≤ (i : Int) := by omega
    have w1 : IntKind.i64.wrap ((j : Int) + 1) = ((j + 1 : Nat) : Int) := wc (by omega) (by omega)
    refine WL_in lp8_0.eq_1 ?_
    by_cases e : x = p
    · simp (maxSteps := 1000000) (implicitDefEqProofs := false) only [c1, c2, c3, c4, g, hg, w1, Int.toNat_natCast, e, hA, ZAw_eq, go_sem, ↓reduceIte]
      exact hr _ rfl rfl
    · simp (maxSteps := 1000000) (implicitDefEqProofs := false) only [c1, c2, c3, c4, g, hg, w1, Int.toNat_natCast, e, go_sem, ↓reduceIte]
      refine ih (j + 1) hd (by omega) fun y hy => ?_
      rw [take_next h1] at hy
      rcases List.mem_append.1 hy with hy | hy
      · exact h3 y hy
      · rw [List.mem_singleton] at hy; subst hy; exact e
theorem loop8_1 (hA : Abs.look l 30 = some ZAw) {QQ : Ex → St → Prop} {ls ms : List Int} {L : List Bx} (hl : ls.length < 1000000) (hm : ms.length < 1000000) (hc : ∃ x, x ∈ ls ∧ x ∈ ms)
    (hr : ∀ σ : St, σ.G = G → St.ev σ (.v 6) = some (.v (.bool true)) → QQ .ret σ) :
    ∀ (r : List Int) (i : Nat), ls.drop i = r → i ≤ ls.length → (∀ x ∈ ls.take i, x ∉ ms) → WL (W E (specOf l) lp8_1) [11, 12, 13] QQ (r.length + 1) ⟨[none, none, none, none, none, none, none, none, none, none, none, some (.own (.sli .i64 ls)), some (.own (.sli .i64 ms)), some (.v (.int .i64 (i : Nat))), none], [], L, G⟩ := by
  intro r
  induction r with
  | nil =>
    intro i h1 h2 h3
    have := drop_none h1
    rw [List.take_of_length_le this] at h3
    obtain ⟨x, hx1, hx2⟩ := hc
    exact absurd hx2 (h3 x hx1)
  | cons p r ih =>
    intro i h1 h2 h3
    obtain ⟨hd, hj, hlen⟩ := drop_one h1
    have g := getD_at h1
    have c1 : (i : Int) < (ls.length : Int) := by omega
    have w1 : IntKind.i64.wrap ((i : Int) + 1) = ((i + 1 : Nat) : Int) := wc (by omega) (by omega)
    refine WL_in lp8_1.eq_1 ?_
    simp (maxSteps := 1000000) (implicitDefEqProofs := false) only [c1, go_sem, ↓reduceIte]
    refine ⟨ms.length + 1, ?_⟩
    refine loop8_0 hA hl hm hj g (fun ts j hn => ?_) (fun σ e1 e2 => ?_) ms 0 rfl (Nat.zero_le _) (fun y hy => by simp at hy)
    · simp (maxSteps := 1000000) (implicitDefEqProofs := false) only [w1, go_sem, ↓reduceIte]
      refine ih (i + 1) hd (by omega) fun y hy => ?_
      rw [take_next h1] at hy
      rcases List.mem_append.1 hy with hy | hy
      · exact h3 y hy
      · rw [List.mem_singleton] at hy; subst hy; exact fun hy2 => hn y hy2 rfl
    · simp (maxSteps := 1000000) (implicitDefEqProofs := false) only [go_sem, ↓reduceIte]
      exact hr σ e1 e2
theorem walk8 (hA : Abs.look l 30 = some ZAw) (hM : Abs.look l 31 = some (ZMk K256)) (hG : Abs.look l 35 = some ZSg)
    {n : Int} {as bs : List AttS} (hI : I64 n) (hw : ∀ a ∈ as, a.wf) (hw2 : ∀ a ∈ bs, a.wf) (hlen : as.length < 9223372036854775808) (hlen2 : bs.length < 9223372036854775808) (h : Q (.v (.bool true)) G) : Wf E (specOf l) pf8 [.int .i64 n, .sle 101 (as.map AttS.v), .sle 101 (bs.map AttS.v)] G Q := by
  by_cases c1 : (as.length : Int) > 25
  · simp (maxSteps := 1000000) (implicitDefEqProofs := false) only [pf8, c1, List.length_map, hA, ZAw_eq, go_sem, ↓reduceIte]
    exact h
  by_cases c2 : (bs.length : Int) > 25
  · simp (maxSteps := 1000000) (implicitDefEqProofs := false) only [pf8, c1, c2, List.length_map, hA, ZAw_eq, go_sem, ↓reduceIte]
    exact h
  have hmw := mk_wf (kt := K256) (n := n) hw
  have hmw2 := mk_wf (kt := K256) (n := n) hw2
  have hmeet := certs_meet (kt := K256) (n := n) (l := as) (m := bs)
  simp (maxSteps := 1000000) (implicitDefEqProofs := false) only [pf8, c1, c2, List.length_map, hM, ZMk_eq, go_sem, ↓reduceIte]
  refine ⟨as, ⟨rfl, hI, hw, by omega⟩, ?_⟩
  cases hce : mkCert K256 n as with
  | mk c e =>
  rw [hce] at hmw hmeet
  obtain ⟨q1, q2, q3⟩ := cert_v (c := c)
  unfold V.isAgg at q2
  simp (maxSteps := 1000000) (implicitDefEqProofs := false) only [q1, q2, q3, hM, ZMk_eq, go_sem, ↓reduceIte]
  refine ⟨bs, ⟨rfl, hI, hw2, by omega⟩, ?_⟩
  cases hce2 : mkCert K256 n bs with
  | mk c2 e2 =>
  rw [hce2] at hmw2 hmeet
  obtain ⟨p1, p2, p3⟩ := cert_v (c := c2)
  unfold V.isAgg at p2
  by_cases he : e = 0
  case neg =>
    simp (maxSteps := 1000000) (implicitDefEqProofs := false) only [q1, q2, q3, p1, p2, p3, he, hA, ZAw_eq, go_sem, ↓reduceIte]
    exact h
  by_cases he2 : e2 = 0
  case neg =>
    simp (maxSteps := 1000000) (implicitDefEqProofs := false) only [q1, q2, q3, p1, p2, p3, he, he2, hA, ZAw_eq, go_sem, ↓reduceIte]
    exact h
  have hmeet := hmeet he he2
  simp (maxSteps := 1000000) (implicitDefEqProofs := false) only [q1, q2, q3, p1, p2, p3, he, he2, hG, ZSg_eq, go_sem, ↓reduceIte]
  refine ⟨c, ⟨rfl, hmw.2⟩, ?_⟩
  have hne : c.sigs ≠ [] := by
    intro e; dsimp only at hmeet; rw [e] at hmeet; obtain ⟨x, hx, _⟩ := hmeet; cases hx
  have hne2 : c2.sigs ≠ [] := by
    intro e; dsimp only at hmeet; rw [e] at hmeet; obtain ⟨x, _, hx⟩ := hmeet; cases hx
  refine ⟨c2, ⟨rfl, hmw2.2⟩, ?_⟩
  rw [if_neg hne, if_neg hne2]
  have l1 : (c.sigs.map (·.1)).length < 1000000 := by rw [List.length_map]; exact hmw.2
  have l2 : (c2.sigs.map (·.1)).length < 1000000 := by rw [List.length_map]; exact hmw2.2
  dsimp only at hmeet
  generalize c.sigs.map (·.1) = ls at *
  generalize c2.sigs.map (·.1) = ms at *
  refine ⟨ls.length + 1, ?_⟩
  refine loop8_1 hA l1 l2 hmeet (fun σ e1 e2 => ?_) ls 0 rfl (Nat.zero_le _) (fun y hy => by simp at hy)
  show resQ Q σ.G (rD (St.ev σ (.v 6)))
  rw [e1, e2]; exact h
end Go.Proofs.YtjbglbhcbenhpaaDoor.Sha
