/- Rows, certificates, accumulations. -/
import Derived.Test.YtegamlopcdjiaaaDoorUCrt3
namespace Go.Proofs.YtegamlopcdjiaaaDoor.Sha
open Go Go.Abs Go.Abs.Sha Go.Abs.Srt
set_option linter.unusedSimpArgs false
set_option linter.unusedVariables false
set_option maxRecDepth 100000
def pf15 : PF :=
  PF.mk 2 6 42 ((PC.reg [nn (.v 3) (.newB (.v 1)), nn (.v 4) (.mv true (.c (.v (.bool false))))]).seq ((PC.reg [mm 6 0, nn (.t 7) (.call 44 [.t 6]), ma 5
    7]).seq (((PC.reg [mm 8 5, nn (.t 9) (.bin .eql (.t 8) (.c (.v (.int .i64 0)))), nn (.t 10) (.mv false (.t 9)), ⟨.t 11, .fadr 1 101 (.v 3), some (.t
    10, false)⟩, ⟨.t 12, .load 1 false (.t 11), some (.t 10, false)⟩, ⟨.t 13, .len (.t 12), some (.t 10, false)⟩, gm 14 5 10 false, ⟨.t 15, .bin .neq (.t
    13) (.t 14), some (.t 10, false)⟩, nn (.t 16) (.pick (.t 10) (.c (.v (.bool true))) (.t 15)), nn (.t 17) (.mv false (.t 16)), ⟨.t 18, .fadr 1 101 (.v
    3), some (.t 17, false)⟩, ⟨.t 19, .load 1 false (.t 18), some (.t 17, false)⟩, gm 20 0 17 false, ⟨.t 21, .call 53 [.t 19, .t 20], some (.t 17,
    false)⟩, ⟨.t 22, .un .not (.t 21), some (.t 17, false)⟩, nn (.t 23) (.pick (.t 17) (.c (.v (.bool true))) (.t 22)), nn (.t 24) (.mv false (.t 23)),
    ⟨.t 25, .fadr 0 0 (.v 3), some (.t 24, false)⟩, ⟨.t 26, .fadr 0 0 (.t 25), some (.t 24, false)⟩, ⟨.t 27, .load 1 false (.t 26), some (.t 24, false)⟩,
    ⟨.t 28, .bin .neq (.t 27) (.c (.v (.int .i64 0))), some (.t 24, false)⟩, nn (.t 29) (.pick (.t 24) (.c (.v (.bool true))) (.t 28)), nn (.t 30) (.mv
    false (.t 29)), ⟨.t 31, .fadr 0 0 (.v 3), some (.t 30, false)⟩, ⟨.t 32, .fadr 7 69 (.t 31), some (.t 30, false)⟩, ⟨.t 33, .load 32 true (.t 32), some
    (.t 30, false)⟩, ⟨.t 34, .build (.arr .u8 32 [0, 0, 0, 0, 0, 0, 0, 0, 0, 0, 0, 0, 0, 0, 0, 0, 0, 0, 0, 0, 0, 0, 0, 0, 0, 0, 0, 0, 0, 0, 0, 0]) [],
    some (.t 30, false)⟩, ⟨.t 35, .eqa true (.arr 32) (.t 33) (.t 34), some (.t 30, false)⟩, nn (.t 36) (.pick (.t 30) (.c (.v (.bool true))) (.t
    35))]).seq (PC.cond (.t 36) ((PC.reg [nn (.v 4) (.mv true (.c (.v (.bool false))))]).seq PC.ret) PC.skip)).seq ((PC.reg [nn (.t 37) (.fadr 1 101 (.v
    3)), nn (.t 38) (.load 1 false (.t 37)), nn (.t 39) (.mkFn 55 [.v 3]), nn (.t 40) (.call 54 [.t 38, .t 39]), nn (.t 41) (.un .not (.t 40)), ma 4
    41]).seq PC.ret)))) [(.v 4, none)]
def lp53_0 : PC :=
  (PC.reg [nn (.t 11) (.bin .lss (.v 10) (.v 9))]).seq ((PC.cond (.t 11) PC.skip (PC.exit 0)).seq ((PC.block 1 ((PC.reg [nn (.t 12) (.iadrS 33 (.v 8) (.v
    10)), nn (.t 13) (.load 33 true (.t 12)), nn (.v 7) (.alloc (.agg [.int .i64 0, .arr .u8 32 [0, 0, 0, 0, 0, 0, 0, 0, 0, 0, 0, 0, 0, 0, 0, 0, 0, 0, 0,
    0, 0, 0, 0, 0, 0, 0, 0, 0, 0, 0, 0, 0]])), nn .no (.store 33 (.v 7) (.t 13))]).seq (((PC.reg [nn (.t 14) (.fadr 0 0 (.v 7)), nn (.t 15) (.load 1
    false (.t 14)), mm 16 5, nn (.t 17) (.bin .leq (.t 15) (.t 16)), nn (.t 18) (.mv false (.t 17)), ⟨.t 19, .fadr 0 0 (.v 7), some (.t 18, false)⟩, ⟨.t
    20, .load 1 false (.t 19), some (.t 18, false)⟩, gm 21 1 18 false, ⟨.t 22, .bin .gtr (.t 20) (.t 21), some (.t 18, false)⟩, nn (.t 23) (.pick (.t 18)
    (.c (.v (.bool true))) (.t 22))]).seq (PC.cond (.t 23) ((PC.reg [nn (.v 4) (.mv true (.c (.v (.bool false))))]).seq PC.ret) PC.skip)).seq (PC.reg [nn
    (.t 24) (.fadr 0 0 (.v 7)), nn (.t 25) (.load 1 false (.t 24)), ma 5 25])))).seq (PC.reg [nn (.t 26) (.bin .add (.v 10) (.c (.v (.int .i64 1)))), nn
    (.v 10) (.mv false (.t 26))])))
def pf53 : PF :=
  PF.mk 2 11 27 ((PC.reg [nn (.v 4) (.mv true (.c (.v (.bool false))))]).seq ((PC.reg [nn (.v 5) (.mv true (.c (.v (.int .i64 0))))]).seq (((PC.reg [nn
    (.v 8) (.mv false (.v 0)), nn (.v 9) (.len (.v 8)), nn (.v 10) (.mv false (.c (.v (.int .i64 0))))]).seq (PC.block 0 (PC.loop [1, 5, 8, 9, 10]
    lp53_0))).seq ((PC.reg [nn (.v 4) (.mv true (.c (.v (.bool true))))]).seq PC.ret)))) [(.v 4, none)]
def pf55 : PF :=
  PF.mk 2 4 9 ((PC.reg [nn (.v 2) (.box (.v 0)), nn (.v 3) (.mv true (.c (.v (.bool false))))]).seq ((PC.reg [nn (.t 4) (.load 102 true (.v 1)), nn (.t
    5) (.load 33 true (.v 2)), nn (.t 6) (.call 57 [.t 4, .t 5]), nn (.t 7) (.call 56 [.t 6]), nn (.t 8) (.un .not (.t 7)), ma 3 8]).seq PC.ret)) [(.v 3,
    none)]
def pf57 : PF :=
  PF.mk 2 6 15 ((PC.reg [nn (.v 2) (.box (.v 0)), nn (.v 3) (.box (.v 1)), nn (.v 4) (.alloc (.agg [.int .i64 0, .int .i64 0, .int .i64 0, .int .i64 0,
    .arr .u8 32 [0, 0, 0, 0, 0, 0, 0, 0, 0, 0, 0, 0, 0, 0, 0, 0, 0, 0, 0, 0, 0, 0, 0, 0, 0, 0, 0, 0, 0, 0, 0, 0], .int .i64 0, .arr .u8 32 [0, 0, 0, 0,
    0, 0, 0, 0, 0, 0, 0, 0, 0, 0, 0, 0, 0, 0, 0, 0, 0, 0, 0, 0, 0, 0, 0, 0, 0, 0, 0, 0], .arr .u8 32 [0, 0, 0, 0, 0, 0, 0, 0, 0, 0, 0, 0, 0, 0, 0, 0, 0,
    0, 0, 0, 0, 0, 0, 0, 0, 0, 0, 0, 0, 0, 0, 0]]))]).seq ((PC.reg [nn (.t 6) (.fadr 0 0 (.v 2)), nn (.t 7) (.load 101 true (.t 6)), nn (.v 5) (.alloc
    (.agg [.int .i64 0, .int .i64 0, .int .i64 0, .int .i64 0, .arr .u8 32 [0, 0, 0, 0, 0, 0, 0, 0, 0, 0, 0, 0, 0, 0, 0, 0, 0, 0, 0, 0, 0, 0, 0, 0, 0, 0,
    0, 0, 0, 0, 0, 0], .int .i64 0, .arr .u8 32 [0, 0, 0, 0, 0, 0, 0, 0, 0, 0, 0, 0, 0, 0, 0, 0, 0, 0, 0, 0, 0, 0, 0, 0, 0, 0, 0, 0, 0, 0, 0, 0], .arr
    .u8 32 [0, 0, 0, 0, 0, 0, 0, 0, 0, 0, 0, 0, 0, 0, 0, 0, 0, 0, 0, 0, 0, 0, 0, 0, 0, 0, 0, 0, 0, 0, 0, 0]])), nn .no (.store 101 (.v 5) (.t 7))]).seq
    ((PC.regD 0 [nn (.t 8) (.fadr 0 0 (.v 3)), nn (.t 9) (.load 1 false (.t 8)), nn (.t 10) (.fadr 1 1 (.v 3)), nn (.t 11) (.load 32 true (.t 10)), nn
    (.t 12) (.fadr 0 0 (.v 5)), nn .no (.store 1 (.t 12) (.t 9)), nn (.t 13) (.fadr 7 69 (.v 5)), nn .no (.store 32 (.t 13) (.t 11))] [(3, 5)]).seq
    ((PC.reg [nn (.t 14) (.load 101 true (.v 5)), nn .no (.store 101 (.v 4) (.t 14))]).seq PC.ret)))) [(.v 4, some (101, true))]
def pf54 : PF :=
  PF.mk 2 5 9 ((PC.reg [nn (.v 4) (.mv true (.c (.v (.bool false))))]).seq ((PC.reg [mm 5 0, mm 6 1, nn (.t 7) (.call 97 [.t 5, .t 6]), nn (.t 8) (.bin
    .geq (.t 7) (.c (.v (.int .i64 0)))), ma 4 8]).seq PC.ret)) [(.v 4, none)]
def lp97_0 : PC :=
  (PC.reg [nn (.t 9) (.bin .lss (.v 8) (.v 7))]).seq ((PC.cond (.t 9) PC.skip (PC.exit 0)).seq ((PC.block 1 ((PC.reg [nn (.t 10) (.mv true (.v 8)), ma 5
    10]).seq ((PC.reg [mm 11 1, mm 12 0, mm 13 5, nn (.t 14) (.iadrS 33 (.t 12) (.t 13)), nn (.t 15) (.load 33 true (.t 14)), nn (.t 16) (.callV (.t 11)
    [.t 15])]).seq (PC.cond (.t 16) ((PC.reg [nn (.t 17) (.mv true (.v 5)), ma 4 17]).seq PC.ret) PC.skip)))).seq (PC.reg [nn (.t 18) (.bin .add (.v 8)
    (.c (.v (.int .i64 1)))), nn (.v 8) (.mv false (.t 18))])))
def pf97 : PF :=
  PF.mk 2 9 19 ((PC.reg [nn (.v 4) (.mv true (.c (.v (.int .i64 0))))]).seq (((PC.reg [nn (.v 6) (.mv false (.v 0)), nn (.v 7) (.len (.v 6)), nn (.v 8)
    (.mv false (.c (.v (.int .i64 0))))]).seq (PC.block 0 (PC.loop [0, 1, 7, 8] lp97_0))).seq ((PC.reg [nn (.v 4) (.mv true (.c (.v (.int .i64
    ((-1))))))]).seq PC.ret))) [(.v 4, none)]
attribute [local irreducible] W Wops WopsD WL Wop WopD
variable {E : Env} {C : Abs.Spec} {l : List (Nat × Spec1)} {G : List (Nat × V)} {Q : R → List (Nat × V) → Prop}
set_option maxHeartbeats 1000000
def ZIy (T : List (Nat × Spec1)) : Spec1
  | [.sle 33 as, .fn f caps], G, Q => ∃ p pr z, ((∀ y ∈ as, pr y) ∧ RowOk 33 z as ∧ as.length < 1000000000000000 ∧ PredFn T f caps G pr p) ∧ Q (.v (.int .i64 (idxP p 0 as))) G
  | _, _, _ => False
theorem ZIy_eq {T as f caps} : ZIy T [.sle 33 as, .fn f caps] G Q = (∃ p pr z, ((∀ y ∈ as, pr y) ∧ RowOk 33 z as ∧ as.length < 1000000000000000 ∧ PredFn T f caps G pr p) ∧ Q (.v (.int .i64 (idxP p 0 as))) G) := rfl
def ZCy (T : List (Nat × Spec1)) : Spec1
  | [.sle 33 as, .fn f caps], G, Q => ∃ p pr z, ((∀ y ∈ as, pr y) ∧ RowOk 33 z as ∧ as.length < 1000000000000000 ∧ PredFn T f caps G pr p) ∧ Q (.v (.bool (as.any p))) G
  | _, _, _ => False
theorem ZCy_eq {T as f caps} : ZCy T [.sle 33 as, .fn f caps] G Q = (∃ p pr z, ((∀ y ∈ as, pr y) ∧ RowOk 33 z as ∧ as.length < 1000000000000000 ∧ PredFn T f caps G pr p) ∧ Q (.v (.bool (as.any p))) G) := rfl
theorem loop97 {T : List (Nat × Spec1)} (hT : Sub T l) (hok : (T.all fun p => calleeOk E.P p.1) = true) {f : Nat} {caps : List V} {pr : V → Prop} {p : V → Bool} {z : V} {QQ : Ex → St → Prop} (hf : PredFn T f caps G pr p) {as : List V} {n : Nat} (hn : n = as.length) (hl : n < 1000000000000000) (hP : ∀ y ∈ as, pr y) (hR : RowOk 33 z as)
    (hx : ∀ i ts, idxP p 0 as = -1 → QQ (.exit 0) ⟨[some (.v (.sle 33 as)), some (.v (.fn f caps)), none, none, none, none, none, some (.v (.int .i64 (n : Nat))), some (.v (.int .i64 (i : Nat)))], ts, [], G⟩) (hr : ∀ (σ : St) (i : Nat), σ.G = G → St.ev σ (.v 4) = some (.v (.int .i64 (i : Nat))) → idxP p 0 as = (i : Nat) → QQ .ret σ) :
    ∀ (r : List V) (i : Nat), as.drop i = r → i ≤ as.length → idxP p 0 as = idxP p i r → WL (W E (specOf l) lp97_0) [0, 1, 7, 8] QQ (r.length + 1) ⟨[some (.v (.sle 33 as)), some (.v (.fn f caps)), none, none, none, none, none, some (.v (.int .i64 (n : Nat))), some (.v (.int .i64 (i : Nat)))], [], [], G⟩ := by
  intro r
  induction r with
  | nil =>
    intro i h1 h2 h3
    have : as.length ≤ i := by have := congrArg List.length h1; rw [List.length_drop, List.length_nil] at this; omega
    have c1 : ¬ (i : Int) < (n : Int) := by omega
    refine WL_in lp97_0.eq_1 ?_
    simp (maxSteps := 1000000) (implicitDefEqProofs := false) only [c1, go_sem, ↓reduceIte]
    exact hx i _ h3
  | cons x r ih =>
    intro i h1 h2 h3
    have hlen := congrArg List.length h1
    rw [List.length_drop, List.length_cons] at hlen
    have hg : as[i]? = some x := by
      have : (as.drop i)[0]? = some x := by rw [h1]; rfl
      rwa [List.getElem?_drop, Nat.add_zero] at this
    have hgd : as.getD i .nilp = x := by rw [List.getD_eq_getElem?_getD, hg]; rfl
    have hd : as.drop (i + 1) = r := by rw [← List.drop_drop, h1]; rfl
    have c1 : (i : Int) < (n : Int) := by omega
    have w1 : IntKind.i64.wrap ((i : Int) + 1) = ((i + 1 : Nat) : Int) := wc (by omega) (by omega)
    have t1 := hR.get hg
    have a1 := t1.2.1
    unfold V.isAgg at a1
    refine WL_in lp97_0.eq_1 ?_
    simp (maxSteps := 1000000) (implicitDefEqProofs := false) only [c1, hgd, t1.1, a1, Int.toNat_natCast, go_sem, ↓reduceIte]
    refine ⟨by omega, ok_of hok hf.1, hT.run hf.1 (hf.2 x _ (hP x (List.mem_of_getElem? hg)) ?_)⟩
    simp only [idxP] at h3
    by_cases hp : p x = true
    · rw [if_pos hp] at h3
      simp (maxSteps := 1000000) (implicitDefEqProofs := false) only [hp, go_sem, ↓reduceIte]
      exact hr _ i rfl rfl h3
    · have hp : p x = false := by simpa using hp
      rw [if_neg (by rw [hp]; exact Bool.false_ne_true)] at h3
      simp (maxSteps := 1000000) (implicitDefEqProofs := false) only [hp, w1, go_sem, ↓reduceIte]
      exact ih (i + 1) hd (by omega) h3
theorem walk97 {T : List (Nat × Spec1)} (hT : Sub T l) (hok : (T.all fun p => calleeOk E.P p.1) = true) {f : Nat} {caps : List V} {as : List V} (h : ZIy T [.sle 33 as, .fn f caps] G Q) : Wf E (specOf l) pf97 [.sle 33 as, .fn f caps] G Q := by
  obtain ⟨p, pr, z, ⟨hP, hR, hl, hf⟩, h⟩ := h
  simp (maxSteps := 1000000) (implicitDefEqProofs := false) only [pf97, go_sem, ↓reduceIte]
  refine ⟨as.length + 1, ?_⟩
  simp (maxSteps := 1000000) (implicitDefEqProofs := false) only [go_sem, ↓reduceIte]
  refine loop97 hT hok hf rfl hl hP hR (fun i ts e => ?_) (fun σ i e1 e2 e3 => ?_) as 0 rfl (Nat.zero_le _) rfl
  · simp (maxSteps := 1000000) (implicitDefEqProofs := false) only [go_sem, ↓reduceIte]
    rw [e] at h; exact h
  · show resQ Q σ.G (rD (St.ev σ (.v 4)))
    rw [e1, e2, ← e3]; exact h
theorem walk54 {T : List (Nat × Spec1)} (hI : Abs.look l 97 = some (ZIy T)) {f : Nat} {caps : List V} {as : List V} (h : ZCy T [.sle 33 as, .fn f caps] G Q) : Wf E (specOf l) pf54 [.sle 33 as, .fn f caps] G Q := by
  obtain ⟨p, pr, z, ⟨hP, hR, hl, hf⟩, h⟩ := h
  simp (maxSteps := 1000000) (implicitDefEqProofs := false) only [pf54, hI, ZIy_eq, go_sem, ↓reduceIte]
  refine ⟨p, pr, z, ⟨hP, hR, hl, hf⟩, ?_⟩
  rw [idxP_any]
  exact h
def risesB (n : Int) : Int → List Int → Bool
  | _, [] => true
  | low, w :: ws => if w ≤ low ∨ n < w then false else risesB n w ws
def _root_.Go.Abs.Sha.CertS.wf (c : CertS) : Prop := c.att.wf ∧ (∀ p ∈ c.sigs, I64 p.1 ∧ H32 p.2)
def withS (a : AttS) (p : Int × List Int) : AttS := { a with who := p.1, ta := p.2 }
def _root_.Go.Abs.Sha.CertS.right (kt : List Int) (n : Int) (c : CertS) : Bool :=
  if quo n = 0 ∨ (c.sigs.length : Int) ≠ quo n ∨ risesB n 0 (c.sigs.map (·.1)) = false ∨ c.att.who ≠ 0 ∨ c.att.ta ≠ zero32 then false else c.sigs.all fun p => (withS c.att p).right kt
def ZRs : Spec1
  | [.sle 33 ss, .int .i64 n], G, Q => ∃ sg : List (Int × List Int), (ss = sg.map sgV ∧ sg.length < 1000000) ∧ Q (.v (.bool (risesB n 0 (sg.map (·.1))))) G
  | _, _, _ => False
theorem ZRs_eq {ss n} : ZRs [.sle 33 ss, .int .i64 n] G Q = (∃ sg : List (Int × List Int), (ss = sg.map sgV ∧ sg.length < 1000000) ∧ Q (.v (.bool (risesB n 0 (sg.map (·.1))))) G) := rfl
def ZWi : Spec1
  | [x, y], G, Q => ∃ (c : CertS) (p : Int × List Int), (x = c.v ∧ y = sgV p) ∧ Q (.v (withS c.att p).v) G
  | _, _, _ => False
theorem ZWi_eq {x y} : ZWi [x, y] G Q = (∃ (c : CertS) (p : Int × List Int), (x = c.v ∧ y = sgV p) ∧ Q (.v (withS c.att p).v) G) := rfl
def ZCr (kt : List Int) : Spec1
  | [y, .ptr id], G, Q => ∃ (c : CertS) (p : Int × List Int), (Abs.look G id = some c.v ∧ y = sgV p ∧ c.att.wf ∧ I64 p.1 ∧ H32 p.2) ∧ Q (.v (.bool (!((withS c.att p).right kt)))) G
  | _, _, _ => False
theorem walk57 {c : CertS} {p : Int × List Int} (h : Q (.v (withS c.att p).v) G) : Wf E C pf57 [c.v, sgV p] G Q := by
  obtain ⟨⟨a1, a2, a3, a4, a5, a6, a7, a8⟩, sg⟩ := c
  obtain ⟨p1, p2⟩ := p
  simp (maxSteps := 1000000) (implicitDefEqProofs := false) only [pf57, CertS.v, AttS.v, sgV, go_sem, ↓reduceIte]
  exact h
theorem walk55 {kt : List Int} {c : CertS} {p : Int × List Int} {id : Nat} (hW : Abs.look l 57 = some ZWi) (hR : Abs.look l 56 = some (SRi kt)) (hG : Abs.look G id = some c.v) (hc : c.att.wf) (h1 : I64 p.1) (h2 : H32 p.2) (h : Q (.v (.bool (!((withS c.att p).right kt)))) G) : Wf E (specOf l) pf55 [sgV p, .ptr id] G Q := by
  obtain ⟨⟨a1, a2, a3, a4, a5, a6, a7, a8⟩, sg⟩ := c
  obtain ⟨p1, p2⟩ := p
  simp (maxSteps := 1000000) (implicitDefEqProofs := false) only [pf55, hW, ZWi_eq, hG, CertS.v, AttS.v, sgV, go_sem, ↓reduceIte]
  refine ⟨⟨⟨a1, a2, a3, a4, a5, a6, a7, a8⟩, sg⟩, (p1, p2), ⟨rfl, rfl⟩, ?_⟩
  simp (maxSteps := 1000000) (implicitDefEqProofs := false) only [withS, hR, SRi_eq, AttS.v, go_sem, ↓reduceIte]
  obtain ⟨w1, w2, w3, w4, w5, w6, w7, w8⟩ := hc
  exact ⟨⟨h1, w2, w3, w4, w5, w6, w7, h2⟩, h⟩
theorem getD_sg {sg : List (Int × List Int)} {j : Nat} {p : Int × List Int} {r : List (Int × List Int)} (h : sg.drop j = p :: r) : (sg.map sgV).getD j V.nilp = sgV p := by
  have : (sg.drop j)[0]? = some p := by rw [h]; rfl
  rw [List.getElem?_drop, Nat.add_zero] at this
  rw [List.getD_eq_getElem?_getD, List.getElem?_map, this]; rfl
theorem drop_one {α : Type} {l r : List α} {j : Nat} {p : α} (h : l.drop j = p :: r) : l.drop (j + 1) = r ∧ j < l.length ∧ l.length = j + 1 + r.length := by
  have e : l.drop (j + 1) = r := by rw [← List.drop_drop, h]; rfl
  have := congrArg List.length h
  rw [List.length_drop, List.length_cons] at this
  exact ⟨e, by omega, by omega⟩
theorem drop_none {α : Type} {l : List α} {j : Nat} (h : l.drop j = []) : l.length ≤ j := by
  have := congrArg List.length h
  rw [List.length_drop, List.length_nil] at this; omega
theorem loop53 {QQ : Ex → St → Prop} {n : Int} {sg : List (Int × List Int)} (hl : sg.length < 1000000)
    (hx : ∀ (low : Int) (j : Nat) ts L, risesB n 0 (sg.map (·.1)) = true → QQ (.exit 0) ⟨[none, some (.v (.int .i64 n)), none, none, none, some (.v (.int .i64 low)), none, none, some (.v (.sle 33 (sg.map sgV))), some (.v (.int .i64 (sg.length : Nat))), some (.v (.int .i64 (j : Nat)))], ts, L, G⟩)
    (hr : ∀ σ : St, σ.G = G → St.ev σ (.v 4) = some (.v (.bool false)) → risesB n 0 (sg.map (·.1)) = false → QQ .ret σ) :
    ∀ (r : List (Int × List Int)) (j : Nat) (low : Int) L, sg.drop j = r → j ≤ sg.length → risesB n 0 (sg.map (·.1)) = risesB n low (r.map (·.1)) → WL (W E C lp53_0) [1, 5, 8, 9, 10] QQ (r.length + 1) ⟨[none, some (.v (.int .i64 n)), none, none, none, some (.v (.int .i64 low)), none, none, some (.v (.sle 33 (sg.map sgV))), some (.v (.int .i64 (sg.length : Nat))), some (.v (.int .i64 (j : Nat)))], [], L, G⟩ := by
  intro r
  induction r with
  | nil =>
    intro j low L h1 h2 h3
    have := drop_none h1
    have c1 : ¬ (j : Int) < (sg.length : Int) := by omega
    refine WL_in lp53_0.eq_1 ?_
    simp (maxSteps := 1000000) (implicitDefEqProofs := false) only [c1, go_sem, ↓reduceIte]
    exact hx _ _ _ _ h3
  | cons p r ih =>
    intro j low L h1 h2 h3
    obtain ⟨hd, hj, hlen⟩ := drop_one h1
    have g := getD_sg h1
    have c1 : (j : Int) < (sg.length : Int) := by omega
    have c2 : (0 : Int) ≤ (j : Int) := by omega
    have w1 : IntKind.i64.wrap ((j : Int) + 1) = ((j + 1 : Nat) : Int) := wc (by omega) (by omega)
    obtain ⟨p1, p2⟩ := p
    rw [List.map_cons] at h3
    refine WL_in lp53_0.eq_1 ?_
    by_cases r1 : p1 ≤ low
    · simp (maxSteps := 1000000) (implicitDefEqProofs := false) only [c1, c2, g, sgV, w1, Int.toNat_natCast, List.length_map, r1, go_sem, ↓reduceIte]
      refine hr _ rfl rfl ?_
      rw [h3]; exact if_pos (.inl r1)
    · by_cases r2 : n < p1
      · simp (maxSteps := 1000000) (implicitDefEqProofs := false) only [c1, c2, g, sgV, w1, Int.toNat_natCast, List.length_map, r1, r2, go_sem, ↓reduceIte]
        refine hr _ rfl rfl ?_
        rw [h3]; exact if_pos (.inr r2)
      · simp (maxSteps := 1000000) (implicitDefEqProofs := false) only [c1, c2, g, sgV, w1, Int.toNat_natCast, List.length_map, r1, r2, go_sem, ↓reduceIte]
        refine ih (j + 1) p1 _ hd (by omega) ?_
        rw [h3]; exact if_neg (by omega)
theorem walk53 {n : Int} {sg : List (Int × List Int)} (hl : sg.length < 1000000) (h : Q (.v (.bool (risesB n 0 (sg.map (·.1))))) G) : Wf E C pf53 [.sle 33 (sg.map sgV), .int .i64 n] G Q := by
  simp (maxSteps := 1000000) (implicitDefEqProofs := false) only [pf53, List.length_map, go_sem, ↓reduceIte]
  refine ⟨sg.length + 1, ?_⟩
  refine loop53 hl (fun low j ts L e => ?_) (fun σ e1 e2 e3 => ?_) sg 0 0 [] rfl (Nat.zero_le _) rfl
  · simp (maxSteps := 1000000) (implicitDefEqProofs := false) only [go_sem, ↓reduceIte]
    rw [e] at h; exact h
  · show resQ Q σ.G (rD (St.ev σ (.v 4)))
    rw [e1, e2, ← e3]; exact h
noncomputable def TT2 : List (Nat × Spec1) := [(55, ZCr K256)]
def IsSg (y : V) : Prop := ∃ p : Int × List Int, y = sgV p ∧ I64 p.1 ∧ H32 p.2
def ofSg : V → Int × List Int
  | .agg [.int _ a, .arr _ _ b] => (a, b)
  | _ => (0, [])
theorem pred_sg {id : Nat} {c : CertS} (hG : Abs.look G id = some c.v) (hc : c.att.wf) : PredFn TT2 55 [.ptr id] G IsSg (fun y => !((withS c.att (ofSg y)).right K256)) := by
  refine ⟨⟨ZCr K256, rfl⟩, ?_⟩
  rintro _ Q ⟨p, rfl, h1, h2⟩ h
  exact ⟨c, p, ⟨hG, rfl, hc, h1, h2⟩, h⟩
theorem sg_any {a : AttS} {kt : List Int} {sg : List (Int × List Int)} : (!((sg.map sgV).any fun y => !((withS a (ofSg y)).right kt))) = sg.all fun p => (withS a p).right kt := by
  induction sg with
  | nil => rfl
  | cons p sg ih => rw [List.map_cons, List.any_cons, List.all_cons, ← ih, Bool.not_or, Bool.not_not]; rfl
def ZRi (kt : List Int) : Spec1
  | [.int .i64 n, x], G, Q => ∃ c : CertS, (x = c.v ∧ c.wf ∧ c.sigs.length < 1000000 ∧ I64 n) ∧ Q (.v (.bool (c.right kt n))) G
  | _, _, _ => False
theorem ZRi_eq {kt n x} : ZRi kt [.int .i64 n, x] G Q = (∃ c : CertS, (x = c.v ∧ c.wf ∧ c.sigs.length < 1000000 ∧ I64 n) ∧ Q (.v (.bool (c.right kt n))) G) := rfl
theorem walk15 (hQ : Abs.look l 44 = some ZQu) (hS : Abs.look l 53 = some ZRs) (hC : Abs.look l 54 = some (ZCy TT2)) {n : Int} {c : CertS} (hw : c.wf) (hl : c.sigs.length < 1000000) (hI : I64 n) (h : Q (.v (.bool (c.right K256 n))) G) :
    Wf E (specOf l) pf15 [.int .i64 n, c.v] G (fun r G' => ∃ r2 G2, Low G r G' r2 G2 ∧ Q r2 G2) := by
  obtain ⟨⟨a1, a2, a3, a4, a5, a6, a7, a8⟩, sg⟩ := c
  have hw' := hw
  obtain ⟨hwa, hws⟩ := hw
  simp (maxSteps := 1000000) (implicitDefEqProofs := false) only [pf15, CertS.v, AttS.v, go_sem, ↓reduceIte]
  refine fun i3 hi3 => ?_
  have g3 : Abs.look ((i3, V.agg [.agg [.int .i64 a1, .int .i64 a2, .int .i64 a3, .int .i64 a4, .arr .u8 32 a5, .int .i64 a6, .arr .u8 32 a7, .arr .u8 32 a8], .sle 33 (sg.map sgV)]) :: G) i3 = some (V.agg [.agg [.int .i64 a1, .int .i64 a2, .int .i64 a3, .int .i64 a4, .arr .u8 32 a5, .int .i64 a6, .arr .u8 32 a7, .arr .u8 32 a8], .sle 33 (sg.map sgV)]) := by rw [look_cons, if_pos rfl]
  have he : Ext G ((i3, V.agg [.agg [.int .i64 a1, .int .i64 a2, .int .i64 a3, .int .i64 a4, .arr .u8 32 a5, .int .i64 a6, .arr .u8 32 a7, .arr .u8 32 a8], .sle 33 (sg.map sgV)]) :: G) := Ext.cons hi3
  generalize ((i3, V.agg [.agg [.int .i64 a1, .int .i64 a2, .int .i64 a3, .int .i64 a4, .arr .u8 32 a5, .int .i64 a6, .arr .u8 32 a7, .arr .u8 32 a8], .sle 33 (sg.map sgV)]) :: G) = G1 at g3 he ⊢
  have fin : ∀ b, CertS.right K256 n ⟨⟨a1, a2, a3, a4, a5, a6, a7, a8⟩, sg⟩ = b → ∃ r2 G2, Low G (.v (.bool b)) G1 r2 G2 ∧ Q r2 G2 := fun b e => ⟨_, _, Low.dropAll he, by rw [← e]; exact h⟩
  have no : (quo n = 0 ∨ (sg.length : Int) ≠ quo n ∨ risesB n 0 (sg.map (·.1)) = false ∨ a1 ≠ 0 ∨ a8 ≠ zero32) → CertS.right K256 n ⟨⟨a1, a2, a3, a4, a5, a6, a7, a8⟩, sg⟩ = false := fun h => if_pos h
  simp (maxSteps := 1000000) (implicitDefEqProofs := false) only [hQ, ZQu_eq, g3, go_sem, ↓reduceIte]
  refine ⟨hI, ?_⟩
  by_cases q0 : quo n = 0
  · simp (maxSteps := 1000000) (implicitDefEqProofs := false) only [q0, g3, go_sem, ↓reduceIte]
    exact fin _ (no (.inl q0))
  by_cases q1 : (sg.length : Int) = quo n
  case neg =>
    simp (maxSteps := 1000000) (implicitDefEqProofs := false) only [q0, q1, g3, List.length_map, go_sem, ↓reduceIte]
    exact fin _ (no (.inr (.inl q1)))
  simp (maxSteps := 1000000) (implicitDefEqProofs := false) only [q0, q1, g3, List.length_map, hS, ZRs_eq, go_sem, ↓reduceIte]
  refine ⟨sg, ⟨rfl, hl⟩, ?_⟩
  by_cases q2 : risesB n 0 (sg.map (·.1)) = true
  case neg =>
    simp (maxSteps := 1000000) (implicitDefEqProofs := false) only [q2, g3, go_sem, ↓reduceIte]
    exact fin _ (no (.inr (.inr (.inl (by simpa using q2)))))
  by_cases q3 : a1 = 0
  case neg =>
    simp (maxSteps := 1000000) (implicitDefEqProofs := false) only [q2, q3, g3, go_sem, ↓reduceIte]
    exact fin _ (no (.inr (.inr (.inr (.inl q3)))))
  simp (maxSteps := 1000000) (implicitDefEqProofs := false) only [q2, q3, g3, go_sem, ↓reduceIte]
  refine ⟨fun q4 => fin _ (no (.inr (.inr (.inr (.inr (fun e => ?_)))))), fun q4 => ?_⟩
  · rw [e] at q4; exact absurd q4 (by decide)
  have q4 : a8 = zero32 := eq_of_beq q4
  simp (maxSteps := 1000000) (implicitDefEqProofs := false) only [hC, ZCy_eq, go_sem, ↓reduceIte]
  refine ⟨_, _, .agg [.int .i64 0, .arr .u8 32 zero32], ⟨fun y hy => ?_, ⟨fun y hy => ?_⟩, by rw [List.length_map]; exact Nat.lt_trans hl (by decide), pred_sg (c := ⟨⟨a1, a2, a3, a4, a5, a6, a7, a8⟩, sg⟩) g3 hwa⟩, ?_⟩
  · obtain ⟨p, hp, rfl⟩ := List.mem_map.1 hy
    exact ⟨p, rfl, hws p hp⟩
  · obtain ⟨p, hp, rfl⟩ := List.mem_map.1 hy
    exact ⟨rfl, rfl, rfl⟩
  simp (maxSteps := 1000000) (implicitDefEqProofs := false) only [go_sem, ↓reduceIte]
  refine fin _ (Eq.trans (if_neg ?_) sg_any.symm)
  rintro (e | e | e | e | e)
  · exact q0 e
  · exact e q1
  · rw [q2] at e; cases e
  · exact e q3
  · exact e q4
end Go.Proofs.YtegamlopcdjiaaaDoor.Sha
