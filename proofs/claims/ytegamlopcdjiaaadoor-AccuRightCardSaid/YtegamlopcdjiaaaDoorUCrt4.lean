/- Rows, certificates, accumulations. -/
import Derived.Test.YtegamlopcdjiaaaDoorUCrt3
namespace Go.Proofs.YtegamlopcdjiaaaDoor.Sha
open Go Go.Abs Go.Abs.Sha Go.Abs.Srt
set_option linter.unusedSimpArgs false
set_option linter.unusedVariables false
set_option maxRecDepth 100000
def pf55 : PF :=
  PF.mk 2 4 9 ((PC.reg [nn (.v 2) (.box (.v 0)), nn (.v 3) (.mv true (.c (.v (.bool false))))]).seq ((PC.reg [nn (.t 4) (.load 102 true (.v 1)), nn (.t
    5) (.load 33 true (.v 2)), nn (.t 6) (.call 57 [.t 4, .t 5]), nn (.t 7) (.call 56 [.t 6]), nn (.t 8) (.un .not (.t 7)), ma 3 8]).seq PC.ret)) [(.v 3,
    none)]
def pf57 : PF :=
  PF.mk 2 6 15 ((PC.reg [nn (.v 2) (.box (.v 0)), nn (.v 3) (.box (.v 1)), nn (.v 4) (.alloc (.agg [.int .i64 0, .int .i64 0, .int .i64 0, .int .i64 0,
    .arr .u8 32 [0, 0, 0, 0, 0, 0, 0, 0, 0, 0, 0, 0, 0, 0, 0, 0, 0, 0, 0, 0, 0, 0, 0, 0, 0, 0, 0, 0, 0, 0, 0, 0], .int .i64 0, .arr .u8 32 [0, 0, 0, 0,
    0, 0, 0, 0, 0, 0, 0, 0, 0, 0, 0, 0, 0, 0, 0, 0, 0, 0, 0, 0, 0, 0, 0, 0, 0, 0, 0, 0], .arr .u8 32 [0, 0, 0, 0, 0, 0, 0, 0, 0, 0, 0, 0, 0, 0, 0, 0, 0,
    0, 0, 0, 0, 0, 0, 0, 0, 0, 0, 0, 0, 0, 0, 0]]))]).seq ((PC.reg [nn (.t 6) (.fadr 0 0 (.v 2)), nn (.t 7) (.load 101 true (.t 6)), nn (.v 5) (.alloc
    (.agg [.int .i64 0, .int .i64 0, .int .i64 0, .int .i64 0, .arr .u8 32 [0, 0, 0, 0, 0, 0, 0, 0, 0, 0, 0, 0, 0, 0, 0, 0, 0, 0, 0, 0, 0, 0, 0, 0, 0, 0,
    0, 0, 0, 0, 0, 0], .int .i64 0, .arr .u8 32 [0, 0, 0, 0, 0, 0, 0, 0, 0, 0, 0, 0, 0, 0, 0, 0, 0, 0, 0, 0, 0, 0, 0, 0, 0, 0, 0, 0, 0, 0, 0, 0], .arr
    .u8 32 [0, 0, 0, 0, 0, 0, 0, 0, 0, 0, 0, 0, 0, 0, 0, 0, 0, 0, 0, 0, 0, 0, 0, 0, 0, 0, 0, 0, 0, 0, 0, 0]])), nn .no (.store 101 (.v 5) (.t 7))]).seq
    ((PC.regD 0 [nn (.t 8) (.fadr 0 0 (.v 3)), nn (.t 9) (.load 1 false (.t 8)), nn (.t 10) (.fadr 1 1 (.v 3)), nn (.t 11) (.load 32 true (.t 10)), nn
    (.t 12) (.fadr 0 0 (.v 5)), nn .no (.store 1 (.t 12) (.t 9)), nn (.t 13) (.fadr 7 69 (.v 5)), nn .no (.store 32 (.t 13) (.t 11))] [(3, 5)]).seq
    ((PC.reg [nn (.t 14) (.load 101 true (.v 5)), nn .no (.store 101 (.v 4) (.t 14))]).seq PC.ret)))) [(.v 4, some (101, true))]
attribute [local irreducible] W Wops WopsD WL Wop WopD
variable {E : Env} {C : Abs.Spec} {l : List (Nat × Spec1)} {G : List (Nat × V)} {Q : R → List (Nat × V) → Prop}
set_option maxHeartbeats 1000000
def risesB (n : Int) : Int → List Int → Bool
  | _, [] => true
  | low, w :: ws => if w ≤ low ∨ n < w then false else risesB n w ws
def _root_.Go.Abs.Sha.CertS.wf (c : CertS) : Prop := c.att.wf ∧ (∀ p ∈ c.sigs, I64 p.1 ∧ H32 p.2)
def withS (a : AttS) (p : Int × List Int) : AttS := { a with who := p.1, ta := p.2 }
def _root_.Go.Abs.Sha.CertS.right (kt : List Int) (n : Int) (c : CertS) : Bool :=
  if quo n = 0 ∨ (c.sigs.length : Int) ≠ quo n ∨ risesB n 0 (c.sigs.map (·.1)) = false ∨ c.att.who ≠ 0 ∨ c.att.ta ≠ zero32 then false else c.sigs.all fun p => (withS c.att p).right kt
def ZWi : Spec1
  | [x, y], G, Q => ∃ (c : CertS) (p : Int × List Int), (x = c.v ∧ y = sgV p) ∧ Q (.v (withS c.att p).v) G
  | _, _, _ => False
theorem ZWi_eq {x y} : ZWi [x, y] G Q = (∃ (c : CertS) (p : Int × List Int), (x = c.v ∧ y = sgV p) ∧ Q (.v (withS c.att p).v) G) := rfl
def ZCr (kt : List Int) : Spec1
  | [y, .ptr id], G, Q => ∃ (c : CertS) (p : Int × List Int), (Abs.look G id = some c.v ∧ y = sgV p ∧ c.att.wf ∧ I64 p.1 ∧ H32 p.2) ∧ Q (.v (.bool (!((withS c.att p).right kt)))) G
  | _, _, _ => False
theorem walk57 {c : CertS} {p : Int × List Int} (h : Q (.v (withS c.att p).v) G) : Wf E C pf57 [c.v, sgV p] G Q := by
  obtain ⟨⟨a1, a2, a3, a4, a5, a6, a7, a8⟩, sg⟩ := c
  obtain ⟨p1, p2⟩ := p
  simp (maxSteps := 1000000) (implicitDefEqProofs := false) only [pf57, CertS.v, AttS.v, sgV, go_sem, ↓reduceIte]
  exact h
theorem walk55 {kt : List Int} {c : CertS} {p : Int × List Int} {id : Nat} (hW : Abs.look l 57 = some ZWi) (hR : Abs.look l 56 = some (SRi kt)) (hG : Abs.look G id = some c.v) (hc : c.att.wf) (h1 : I64 p.1) (h2 : H32 p.2) (h : Q (.v (.bool (!((withS c.att p).right kt)))) G) : Wf E (specOf l) pf55 [sgV p, .ptr id] G Q := by
  obtain ⟨⟨a1, a2, a3, a4, a5, a6, a7, a8⟩, sg⟩ := c
  obtain ⟨p1, p2⟩ := p
  simp (maxSteps := 1000000) (implicitDefEqProofs := false) only [pf55, hW, ZWi_eq, hG, CertS.v, AttS.v, sgV, go_sem, ↓reduceIte]
  refine ⟨⟨⟨a1, a2, a3, a4, a5, a6, a7, a8⟩, sg⟩, (p1, p2), ⟨rfl, rfl⟩, ?_⟩
  simp (maxSteps := 1000000) (implicitDefEqProofs := false) only [withS, hR, SRi_eq, AttS.v, go_sem, ↓reduceIte]
  obtain ⟨w1, w2, w3, w4, w5, w6, w7, w8⟩ := hc
  exact ⟨⟨h1, w2, w3, w4, w5, w6, w7, h2⟩, h⟩
theorem drop_one {α : Type} {l r : List α} {j : Nat} {p : α} (h : l.drop j = p :: r) : l.drop (j + 1) = r ∧ j < l.length ∧ l.length = j + 1 + r.length := by
  have e : l.drop (j + 1) = r := by rw [← List.drop_drop, h]; rfl
  have := congrArg List.length h
  rw [List.length_drop, List.length_cons] at this
  exact ⟨e, by omega, by omega⟩
theorem drop_none {α : Type} {l : List α} {j : Nat} (h : l.drop j = []) : l.length ≤ j := by
  have := congrArg List.length h
  rw [List.length_drop, List.length_nil] at this; omega
end Go.Proofs.YtegamlopcdjiaaaDoor.Sha
