/- Votes: what is known. -/
import Derived.Test.YtegamlopcdjiaaaDoorUCrt7
namespace Go.Proofs.YtegamlopcdjiaaaDoor.Sha
open Go Go.Abs Go.Abs.Sha Go.Abs.Srt
set_option linter.unusedSimpArgs false
set_option linter.unusedVariables false
set_option maxRecDepth 100000
def pf99 : PF :=
  PF.mk 1 3 8 ((PC.reg [nn (.v 2) (.mv true (.c (.own .nils)))]).seq (((PC.reg [mm 3 0, nn (.t 4) (.nileq false (.t 3))]).seq (PC.cond (.t 4) ((PC.reg
    [nn (.v 2) (.mv true (.c (.own .nils)))]).seq PC.ret) PC.skip)).seq ((PC.reg [nn (.t 5) (.buildS none 33 (.agg [.int .i64 0, .arr .u8 32 [0, 0, 0, 0,
    0, 0, 0, 0, 0, 0, 0, 0, 0, 0, 0, 0, 0, 0, 0, 0, 0, 0, 0, 0, 0, 0, 0, 0, 0, 0, 0, 0]]) 0 []), mm 6 0, nn (.t 7) (.app none 33 40 (.t 5) (.t 6)), ma 2
    7]).seq PC.ret))) [(.v 2, none)]
def pf64 : PF :=
  PF.mk 1 3 8 ((PC.reg [nn (.v 1) (.box (.v 0)), nn (.v 2) (.alloc (.agg [.agg [.int .i64 0, .int .i64 0, .int .i64 0, .int .i64 0, .arr .u8 32 [0, 0, 0,
    0, 0, 0, 0, 0, 0, 0, 0, 0, 0, 0, 0, 0, 0, 0, 0, 0, 0, 0, 0, 0, 0, 0, 0, 0, 0, 0, 0, 0], .int .i64 0, .arr .u8 32 [0, 0, 0, 0, 0, 0, 0, 0, 0, 0, 0, 0,
    0, 0, 0, 0, 0, 0, 0, 0, 0, 0, 0, 0, 0, 0, 0, 0, 0, 0, 0, 0], .arr .u8 32 [0, 0, 0, 0, 0, 0, 0, 0, 0, 0, 0, 0, 0, 0, 0, 0, 0, 0, 0, 0, 0, 0, 0, 0, 0,
    0, 0, 0, 0, 0, 0, 0]], .nils]))]).seq ((PC.reg [nn (.t 3) (.fadr 1 101 (.v 1)), nn (.t 4) (.load 1 false (.t 3)), nn (.t 5) (.call 99 [.t 4]), nn (.t
    6) (.fadr 1 101 (.v 1)), nn .no (.store 1 (.t 6) (.t 5))]).seq ((PC.reg [nn (.t 7) (.load 102 true (.v 1)), nn .no (.store 102 (.v 2) (.t 7))]).seq
    PC.ret))) [(.v 2, some (102, true))]
def pf20 : PF :=
  PF.mk 3 25 47 ((PC.reg [nn (.v 4) (.box (.v 1)), nn (.v 5) (.box (.v 2)), nn (.v 6) (.alloc (.agg [.agg [.agg [.int .i64 0, .int .i64 0, .int .i64 0,
    .int .i64 0, .arr .u8 32 [0, 0, 0, 0, 0, 0, 0, 0, 0, 0, 0, 0, 0, 0, 0, 0, 0, 0, 0, 0, 0, 0, 0, 0, 0, 0, 0, 0, 0, 0, 0, 0], .int .i64 0, .arr .u8 32
    [0, 0, 0, 0, 0, 0, 0, 0, 0, 0, 0, 0, 0, 0, 0, 0, 0, 0, 0, 0, 0, 0, 0, 0, 0, 0, 0, 0, 0, 0, 0, 0], .arr .u8 32 [0, 0, 0, 0, 0, 0, 0, 0, 0, 0, 0, 0, 0,
    0, 0, 0, 0, 0, 0, 0, 0, 0, 0, 0, 0, 0, 0, 0, 0, 0, 0, 0]], .nils], .agg [.agg [.int .i64 0, .int .i64 0, .int .i64 0, .int .i64 0, .arr .u8 32 [0, 0,
    0, 0, 0, 0, 0, 0, 0, 0, 0, 0, 0, 0, 0, 0, 0, 0, 0, 0, 0, 0, 0, 0, 0, 0, 0, 0, 0, 0, 0, 0], .int .i64 0, .arr .u8 32 [0, 0, 0, 0, 0, 0, 0, 0, 0, 0, 0,
    0, 0, 0, 0, 0, 0, 0, 0, 0, 0, 0, 0, 0, 0, 0, 0, 0, 0, 0, 0, 0], .arr .u8 32 [0, 0, 0, 0, 0, 0, 0, 0, 0, 0, 0, 0, 0, 0, 0, 0, 0, 0, 0, 0, 0, 0, 0, 0,
    0, 0, 0, 0, 0, 0, 0, 0]], .nils]])), nn (.v 7) (.mv true (.c (.v (.int .i64 0))))]).seq ((PC.regD 1 [nn (.v 10) (.fadr 0 0 (.v 4)), nn (.v 11) (.load
    102 true (.v 10)), nn (.v 12) (.call 64 [.v 11]), nn (.v 13) (.fadr 1 102 (.v 4)), nn (.v 14) (.load 102 true (.v 13)), nn (.v 15) (.call 64 [.v
    14]), nn (.v 16) (.build (.agg [.agg [.agg [.int .i64 0, .int .i64 0, .int .i64 0, .int .i64 0, .arr .u8 32 [0, 0, 0, 0, 0, 0, 0, 0, 0, 0, 0, 0, 0,
    0, 0, 0, 0, 0, 0, 0, 0, 0, 0, 0, 0, 0, 0, 0, 0, 0, 0, 0], .int .i64 0, .arr .u8 32 [0, 0, 0, 0, 0, 0, 0, 0, 0, 0, 0, 0, 0, 0, 0, 0, 0, 0, 0, 0, 0, 0,
    0, 0, 0, 0, 0, 0, 0, 0, 0, 0], .arr .u8 32 [0, 0, 0, 0, 0, 0, 0, 0, 0, 0, 0, 0, 0, 0, 0, 0, 0, 0, 0, 0, 0, 0, 0, 0, 0, 0, 0, 0, 0, 0, 0, 0]], .nils],
    .agg [.agg [.int .i64 0, .int .i64 0, .int .i64 0, .int .i64 0, .arr .u8 32 [0, 0, 0, 0, 0, 0, 0, 0, 0, 0, 0, 0, 0, 0, 0, 0, 0, 0, 0, 0, 0, 0, 0, 0,
    0, 0, 0, 0, 0, 0, 0, 0], .int .i64 0, .arr .u8 32 [0, 0, 0, 0, 0, 0, 0, 0, 0, 0, 0, 0, 0, 0, 0, 0, 0, 0, 0, 0, 0, 0, 0, 0, 0, 0, 0, 0, 0, 0, 0, 0],
    .arr .u8 32 [0, 0, 0, 0, 0, 0, 0, 0, 0, 0, 0, 0, 0, 0, 0, 0, 0, 0, 0, 0, 0, 0, 0, 0, 0, 0, 0, 0, 0, 0, 0, 0]], .nils]]) [(0, .v 12), (1, .v 15)]), nn
    (.v 8) (.allocAt 1 (.agg [.agg [.agg [.int .i64 0, .int .i64 0, .int .i64 0, .int .i64 0, .arr .u8 32 [0, 0, 0, 0, 0, 0, 0, 0, 0, 0, 0, 0, 0, 0, 0,
    0, 0, 0, 0, 0, 0, 0, 0, 0, 0, 0, 0, 0, 0, 0, 0, 0], .int .i64 0, .arr .u8 32 [0, 0, 0, 0, 0, 0, 0, 0, 0, 0, 0, 0, 0, 0, 0, 0, 0, 0, 0, 0, 0, 0, 0, 0,
    0, 0, 0, 0, 0, 0, 0, 0], .arr .u8 32 [0, 0, 0, 0, 0, 0, 0, 0, 0, 0, 0, 0, 0, 0, 0, 0, 0, 0, 0, 0, 0, 0, 0, 0, 0, 0, 0, 0, 0, 0, 0, 0]], .nils], .agg
    [.agg [.int .i64 0, .int .i64 0, .int .i64 0, .int .i64 0, .arr .u8 32 [0, 0, 0, 0, 0, 0, 0, 0, 0, 0, 0, 0, 0, 0, 0, 0, 0, 0, 0, 0, 0, 0, 0, 0, 0, 0,
    0, 0, 0, 0, 0, 0], .int .i64 0, .arr .u8 32 [0, 0, 0, 0, 0, 0, 0, 0, 0, 0, 0, 0, 0, 0, 0, 0, 0, 0, 0, 0, 0, 0, 0, 0, 0, 0, 0, 0, 0, 0, 0, 0], .arr
    .u8 32 [0, 0, 0, 0, 0, 0, 0, 0, 0, 0, 0, 0, 0, 0, 0, 0, 0, 0, 0, 0, 0, 0, 0, 0, 0, 0, 0, 0, 0, 0, 0, 0]], .nils]])), nn .no (.store 204 (.v 8) (.v
    16))] [(0, 7), (1, 7), (3, 7), (4, 7)]).seq (((PC.reg [nn (.v 17) (.mv false (.v 0)), nn (.v 18) (.load 102 true (.v 5)), nn (.v 19) (.call 15 [.v
    17, .v 18]), nn (.v 20) (.un .not (.v 19))]).seq (PC.cond (.v 20) ((PC.reg [nn (.v 21) (.load 204 true (.v 8)), nn .no (.store 204 (.v 6) (.v 21)),
    nn (.v 7) (.mv true (.c (.v (.int .i64 7))))]).seq PC.ret) PC.skip)).seq ((PC.reg [nn (.v 9) (.mv true (.c (.v .nilp)))]).seq (((PC.reg [nn (.v 22)
    (.fadr 0 0 (.v 5)), nn (.v 23) (.fadr 1 1 (.v 22)), nn (.v 24) (.load 1 false (.v 23))]).seq (PC.block 0 ((PC.reg [nn (.t 27) (.bin .eql (.v 24) (.c
    (.v (.int .i64 2)))), nn (.t 26) (.mv true (.t 27))]).seq (PC.cond (.t 26) (PC.reg [nn (.t 28) (.fadr 0 0 (.v 8)), ma 9 28]) ((PC.reg [nn (.t 30)
    (.bin .eql (.v 24) (.c (.v (.int .i64 3)))), nn (.t 29) (.mv true (.t 30))]).seq (PC.cond (.t 29) (PC.reg [nn (.t 31) (.fadr 1 102 (.v 8)), ma 9 31])
    ((PC.reg [nn (.t 25) (.load 204 true (.v 8)), nn .no (.store 204 (.v 6) (.t 25)), nn (.v 7) (.mv true (.c (.v (.int .i64 1))))]).seq
    PC.ret))))))).seq (((PC.regD 0 [nn (.t 32) (.fadr 0 0 (.v 5)), nn (.t 33) (.fadr 2 2 (.t 32)), nn (.t 34) (.load 1 false (.t 33)), mm 35 9, nn (.t
    36) (.nilc (.t 35)), nn (.t 37) (.fadr 0 0 (.t 36)), nn (.t 38) (.fadr 2 2 (.t 37)), nn (.t 39) (.load 1 false (.t 38)), nn (.t 40) (.bin .leq (.t
    34) (.t 39))] []).seq (PC.cond (.t 40) ((PC.reg [nn (.t 41) (.load 204 true (.v 8)), nn .no (.store 204 (.v 6) (.t 41)), nn (.v 7) (.mv true (.c (.v
    (.int .i64 11))))]).seq PC.ret) PC.skip)).seq ((PC.reg [mm 42 9, nn (.t 43) (.load 102 true (.v 5)), nn (.t 44) (.call 64 [.t 43]), nn (.t 45) (.nilc
    (.t 42)), nn .no (.store 102 (.t 45) (.t 44))]).seq ((PC.reg [nn (.t 46) (.load 204 true (.v 8)), nn .no (.store 204 (.v 6) (.t 46)), nn (.v 7) (.mv
    true (.c (.v (.int .i64 0))))]).seq PC.ret)))))))) [(.v 6, some (204, true)), (.v 7, none)]
def pf23 : PF :=
  PF.mk 1 4 12 ((PC.reg [nn (.v 1) (.box (.v 0)), nn (.v 2) (.mv true (.c (.v (.int .i64 0)))), nn (.v 3) (.alloc (.arr .u8 32 [0, 0, 0, 0, 0, 0, 0, 0,
    0, 0, 0, 0, 0, 0, 0, 0, 0, 0, 0, 0, 0, 0, 0, 0, 0, 0, 0, 0, 0, 0, 0, 0]))]).seq ((PC.regD 0 [nn (.t 4) (.fadr 0 0 (.v 1)), nn (.t 5) (.fadr 0 0 (.t
    4)), nn (.t 6) (.fadr 2 2 (.t 5)), nn (.t 7) (.load 1 false (.t 6)), nn (.t 8) (.fadr 0 0 (.v 1)), nn (.t 9) (.fadr 0 0 (.t 8)), nn (.t 10) (.fadr 4
    4 (.t 9)), nn (.t 11) (.load 32 true (.t 10)), ma 2 7, nn .no (.store 32 (.v 3) (.t 11))] []).seq PC.ret)) [(.v 2, none), (.v 3, some (32, true))]
def pf24 : PF :=
  PF.mk 1 4 12 ((PC.reg [nn (.v 1) (.box (.v 0)), nn (.v 2) (.mv true (.c (.v (.int .i64 0)))), nn (.v 3) (.alloc (.arr .u8 32 [0, 0, 0, 0, 0, 0, 0, 0,
    0, 0, 0, 0, 0, 0, 0, 0, 0, 0, 0, 0, 0, 0, 0, 0, 0, 0, 0, 0, 0, 0, 0, 0]))]).seq ((PC.regD 0 [nn (.t 4) (.fadr 1 102 (.v 1)), nn (.t 5) (.fadr 0 0 (.t
    4)), nn (.t 6) (.fadr 2 2 (.t 5)), nn (.t 7) (.load 1 false (.t 6)), nn (.t 8) (.fadr 1 102 (.v 1)), nn (.t 9) (.fadr 0 0 (.t 8)), nn (.t 10) (.fadr
    4 4 (.t 9)), nn (.t 11) (.load 32 true (.t 10)), ma 2 7, nn .no (.store 32 (.v 3) (.t 11))] []).seq PC.ret)) [(.v 2, none), (.v 3, some (32, true))]
attribute [local irreducible] W Wops WopsD WL Wop WopD
variable {E : Env} {C : Abs.Spec} {l : List (Nat × Spec1)} {G : List (Nat × V)} {Q : R → List (Nat × V) → Prop}
set_option maxHeartbeats 1000000
structure KnownS where
  p : CertS
  q : CertS
def KnownS.v (k : KnownS) : V := .agg [k.p.v, k.q.v]
def KnownS.zero : KnownS := ⟨.zero, .zero⟩
structure KnownS.wf (k : KnownS) : Prop where
  p : k.p.wf
  q : k.q.wf
  lp : k.p.sigs.length < 1000000
  lq : k.q.sigs.length < 1000000
def learnK (kt : List Int) (n : Int) (k : KnownS) (c : CertS) : KnownS × Int :=
  if c.right kt n = false then (k, 7)
  else if c.att.ki = 2 then (if c.att.vi ≤ k.p.att.vi then (k, 11) else (⟨c, k.q⟩, 0))
  else if c.att.ki = 3 then (if c.att.vi ≤ k.q.att.vi then (k, 11) else (⟨k.p, c⟩, 0))
  else (k, 1)
theorem learn_wf {kt : List Int} {n : Int} {k : KnownS} {c : CertS} (hk : k.wf) (hc : c.wf) (hl : c.sigs.length < 1000000) : (learnK kt n k c).1.wf := by
  unfold learnK
  split
  · exact hk
  split
  · split
    · exact hk
    · exact ⟨hc, hk.q, hl, hk.lq⟩
  split
  · split
    · exact hk
    · exact ⟨hk.p, hc, hk.lp, hl⟩
  · exact hk
theorem cert_v' {c : CertS} : c.v.size = 102 ∧ c.v.isAgg = true := ⟨rfl, rfl⟩
theorem known_v {c : KnownS} : c.v.size = 204 ∧ c.v.isAgg = true ∧ c.v.same (.agg [.agg [.agg [.int .i64 0, .int .i64 0, .int .i64 0, .int .i64 0, .arr .u8 32 [0, 0, 0, 0, 0, 0, 0, 0, 0, 0, 0, 0, 0, 0, 0, 0, 0, 0, 0, 0, 0, 0, 0, 0, 0, 0, 0, 0, 0, 0, 0, 0], .int .i64 0, .arr .u8 32 [0, 0, 0, 0, 0, 0, 0, 0, 0, 0, 0, 0, 0, 0, 0, 0, 0, 0, 0, 0, 0, 0, 0, 0, 0, 0, 0, 0, 0, 0, 0, 0], .arr .u8 32 [0, 0, 0, 0, 0, 0, 0, 0, 0, 0, 0, 0, 0, 0, 0, 0, 0, 0, 0, 0, 0, 0, 0, 0, 0, 0, 0, 0, 0, 0, 0, 0]], .nils], .agg [.agg [.int .i64 0, .int .i64 0, .int .i64 0, .int .i64 0, .arr .u8 32 [0, 0, 0, 0, 0, 0, 0, 0, 0, 0, 0, 0, 0, 0, 0, 0, 0, 0, 0, 0, 0, 0, 0, 0, 0, 0, 0, 0, 0, 0, 0, 0], .int .i64 0, .arr .u8 32 [0, 0, 0, 0, 0, 0, 0, 0, 0, 0, 0, 0, 0, 0, 0, 0, 0, 0, 0, 0, 0, 0, 0, 0, 0, 0, 0, 0, 0, 0, 0, 0], .arr .u8 32 [0, 0, 0, 0, 0, 0, 0, 0, 0, 0, 0, 0, 0, 0, 0, 0, 0, 0, 0, 0, 0, 0, 0, 0, 0, 0, 0, 0, 0, 0, 0, 0]], .nils]]) = true := ⟨rfl, rfl, rfl⟩
theorem known_zero_wk : V.Wk (.agg [.agg [.agg [.int .i64 0, .int .i64 0, .int .i64 0, .int .i64 0, .arr .u8 32 [0, 0, 0, 0, 0, 0, 0, 0, 0, 0, 0, 0, 0, 0, 0, 0, 0, 0, 0, 0, 0, 0, 0, 0, 0, 0, 0, 0, 0, 0, 0, 0], .int .i64 0, .arr .u8 32 [0, 0, 0, 0, 0, 0, 0, 0, 0, 0, 0, 0, 0, 0, 0, 0, 0, 0, 0, 0, 0, 0, 0, 0, 0, 0, 0, 0, 0, 0, 0, 0], .arr .u8 32 [0, 0, 0, 0, 0, 0, 0, 0, 0, 0, 0, 0, 0, 0, 0, 0, 0, 0, 0, 0, 0, 0, 0, 0, 0, 0, 0, 0, 0, 0, 0, 0]], .nils], .agg [.agg [.int .i64 0, .int .i64 0, .int .i64 0, .int .i64 0, .arr .u8 32 [0, 0, 0, 0, 0, 0, 0, 0, 0, 0, 0, 0, 0, 0, 0, 0, 0, 0, 0, 0, 0, 0, 0, 0, 0, 0, 0, 0, 0, 0, 0, 0], .int .i64 0, .arr .u8 32 [0, 0, 0, 0, 0, 0, 0, 0, 0, 0, 0, 0, 0, 0, 0, 0, 0, 0, 0, 0, 0, 0, 0, 0, 0, 0, 0, 0, 0, 0, 0, 0], .arr .u8 32 [0, 0, 0, 0, 0, 0, 0, 0, 0, 0, 0, 0, 0, 0, 0, 0, 0, 0, 0, 0, 0, 0, 0, 0, 0, 0, 0, 0, 0, 0, 0, 0]], .nils]]) KnownS.zero.v := by
  have hc : V.Wk (.agg [.agg [.int .i64 0, .int .i64 0, .int .i64 0, .int .i64 0, .arr .u8 32 [0, 0, 0, 0, 0, 0, 0, 0, 0, 0, 0, 0, 0, 0, 0, 0, 0, 0, 0, 0, 0, 0, 0, 0, 0, 0, 0, 0, 0, 0, 0, 0], .int .i64 0, .arr .u8 32 [0, 0, 0, 0, 0, 0, 0, 0, 0, 0, 0, 0, 0, 0, 0, 0, 0, 0, 0, 0, 0, 0, 0, 0, 0, 0, 0, 0, 0, 0, 0, 0], .arr .u8 32 [0, 0, 0, 0, 0, 0, 0, 0, 0, 0, 0, 0, 0, 0, 0, 0, 0, 0, 0, 0, 0, 0, 0, 0, 0, 0, 0, 0, 0, 0, 0, 0]], .nils]) CertS.zero.v := by
    unfold V.Wk; refine ⟨_, rfl, ?_⟩
    unfold V.WkL; refine ⟨_, _, rfl, V.Wk.refl _, ?_⟩
    unfold V.WkL; refine ⟨_, _, rfl, ?_, ?_⟩
    · unfold V.Wk; exact .inr (.inr ⟨_, rfl⟩)
    · unfold V.WkL; rfl
  unfold V.Wk; refine ⟨_, rfl, ?_⟩
  unfold V.WkL; refine ⟨_, _, rfl, hc, ?_⟩
  unfold V.WkL; refine ⟨_, _, rfl, hc, ?_⟩
  unfold V.WkL; rfl
def ZCs : Spec1
  | [.sle 33 l], G, Q => (l.length < 1000000) ∧ Q (.v (.sle 33 l)) G
  | _, _, _ => False
theorem ZCs_eq {l} : ZCs [.sle 33 l] G Q = ((l.length < 1000000) ∧ Q (.v (.sle 33 l)) G) := rfl
def ZCp : Spec1
  | [x], G, Q => ∃ c : CertS, (x = c.v ∧ c.sigs.length < 1000000) ∧ Q (.v c.v) G
  | _, _, _ => False
theorem ZCp_eq {x} : ZCp [x] G Q = (∃ c : CertS, (x = c.v ∧ c.sigs.length < 1000000) ∧ Q (.v c.v) G) := rfl
def ZLe (kt : List Int) : Spec1
  | [.int .i64 n, x, y], G, Q => ∃ (k : KnownS) (c : CertS), (V.Wk x k.v ∧ y = c.v ∧ k.wf ∧ c.wf ∧ c.sigs.length < 1000000 ∧ I64 n) ∧ Q (.tup [(learnK kt n k c).1.v, .int .i64 (learnK kt n k c).2]) G
  | _, _, _ => False
theorem ZLe_eq {kt n x y} : ZLe kt [.int .i64 n, x, y] G Q = (∃ (k : KnownS) (c : CertS), (V.Wk x k.v ∧ y = c.v ∧ k.wf ∧ c.wf ∧ c.sigs.length < 1000000 ∧ I64 n) ∧ Q (.tup [(learnK kt n k c).1.v, .int .i64 (learnK kt n k c).2]) G) := rfl
def ZPr : Spec1
  | [x], G, Q => ∃ k : KnownS, V.Wk x k.v ∧ Q (.tup [.int .i64 k.p.att.vi, .arr .u8 32 k.p.att.ha]) G
  | _, _, _ => False
theorem ZPr_eq {x} : ZPr [x] G Q = (∃ k : KnownS, V.Wk x k.v ∧ Q (.tup [.int .i64 k.p.att.vi, .arr .u8 32 k.p.att.ha]) G) := rfl
def ZSt : Spec1
  | [x], G, Q => ∃ k : KnownS, V.Wk x k.v ∧ Q (.tup [.int .i64 k.q.att.vi, .arr .u8 32 k.q.att.ha]) G
  | _, _, _ => False
theorem ZSt_eq {x} : ZSt [x] G Q = (∃ k : KnownS, V.Wk x k.v ∧ Q (.tup [.int .i64 k.q.att.vi, .arr .u8 32 k.q.att.ha]) G) := rfl
theorem walk99 {ll : List V} (hl : ll.length < 1000000) (h : Q (.v (.sle 33 ll)) G) : Wf E C pf99 [.sle 33 ll] G (fun r G' => ∃ r2 G2, R.Wk r r2 ∧ WkG G' G2 ∧ Q r2 G2) := by
  simp (maxSteps := 1000000) (implicitDefEqProofs := false) only [pf99, go_sem, ↓reduceIte]
  intro q hq
  cases q with
  | true =>
    have hl : ll.length = 0 := by have := hq rfl; omega
    have hb0 : ll = [] := List.eq_nil_of_length_eq_zero hl
    subst hb0
    simp (maxSteps := 1000000) (implicitDefEqProofs := false) only [go_sem, ↓reduceIte]
    refine ⟨.v (.sle 33 []), G, .inl ⟨_, rfl, ?_⟩, WkG.refl G, h⟩
    unfold V.Wk; exact .inr (.inr ⟨_, rfl⟩)
  | false =>
    simp (maxSteps := 1000000) (implicitDefEqProofs := false) only [List.replicate_zero, List.nil_append, go_sem, ↓reduceIte]
    refine ⟨by omega, .v (.sle 33 ll), G, .inl ⟨_, rfl, V.Wk.refl _⟩, WkG.refl G, h⟩
theorem walk64 (hC : Abs.look l 99 = some ZCs) {c : CertS} (hl : c.sigs.length < 1000000) (h : Q (.v c.v) G) : Wf E (specOf l) pf64 [c.v] G Q := by
  obtain ⟨a, sa⟩ := c
  have cs : V.size a.v + 0 = 101 := rfl
  have cs2 : V.size a.v = 101 := rfl
  have ag := (rfl : a.v.isAgg = true)
  have sm : a.v.same (.agg [.int .i64 0, .int .i64 0, .int .i64 0, .int .i64 0, .arr .u8 32 [0, 0, 0, 0, 0, 0, 0, 0, 0, 0, 0, 0, 0, 0, 0, 0, 0, 0, 0, 0, 0, 0, 0, 0, 0, 0, 0, 0, 0, 0, 0, 0], .int .i64 0, .arr .u8 32 [0, 0, 0, 0, 0, 0, 0, 0, 0, 0, 0, 0, 0, 0, 0, 0, 0, 0, 0, 0, 0, 0, 0, 0, 0, 0, 0, 0, 0, 0, 0, 0], .arr .u8 32 [0, 0, 0, 0, 0, 0, 0, 0, 0, 0, 0, 0, 0, 0, 0, 0, 0, 0, 0, 0, 0, 0, 0, 0, 0, 0, 0, 0, 0, 0, 0, 0]]) = true := rfl
  unfold V.isAgg at ag
  simp (maxSteps := 1000000) (implicitDefEqProofs := false) only [pf64, CertS.v, cs, hC, ZCs_eq, go_sem, ↓reduceIte]
  refine ⟨by rw [List.length_map]; exact hl, ?_⟩
  simp (maxSteps := 1000000) (implicitDefEqProofs := false) only [cs, cs2, ag, sm, go_sem, ↓reduceIte]
  exact h
theorem walk20 (hC : Abs.look l 64 = some ZCp) (hR : Abs.look l 15 = some (ZRi K256)) {n : Int} {k : KnownS} {c : CertS} (hk : k.wf) (hc : c.wf) (hl : c.sigs.length < 1000000) (hI : I64 n) (h : Q (.tup [(learnK K256 n k c).1.v, .int .i64 (learnK K256 n k c).2]) G) : Wf E (specOf l) pf20 [.int .i64 n, k.v, c.v] G Q := by
  obtain ⟨⟨⟨p1, p2, p3, p4, p5, p6, p7, p8⟩, sp⟩, ⟨⟨q1, q2, q3, q4, q5, q6, q7, q8⟩, sq⟩⟩ := k
  obtain ⟨⟨c1, c2, c3, c4, c5, c6, c7, c8⟩, sc⟩ := c
  unfold learnK at h
  dsimp only at h
  simp (maxSteps := 1000000) (implicitDefEqProofs := false) only [pf20, KnownS.v, CertS.v, AttS.v, hC, ZCp_eq, go_sem, ↓reduceIte]
  refine ⟨⟨⟨p1, p2, p3, p4, p5, p6, p7, p8⟩, sp⟩, ⟨rfl, hk.lp⟩, ⟨⟨q1, q2, q3, q4, q5, q6, q7, q8⟩, sq⟩, ⟨rfl, hk.lq⟩, ?_⟩
  simp (maxSteps := 1000000) (implicitDefEqProofs := false) only [CertS.v, AttS.v, hR, ZRi_eq, go_sem, ↓reduceIte]
  refine ⟨⟨⟨c1, c2, c3, c4, c5, c6, c7, c8⟩, sc⟩, ⟨rfl, hc, hl, hI⟩, fun hq => ?_, fun hq => ?_⟩
  · rw [if_pos hq] at h
    exact h
  rw [if_neg (by rw [hq]; decide)] at h
  by_cases k2 : c2 = 2
  · rw [if_pos k2] at h
    simp (maxSteps := 1000000) (implicitDefEqProofs := false) only [k2, go_sem, ↓reduceIte]
    by_cases v : c3 ≤ p3
    · rw [if_pos v] at h
      have vn : ¬ p3 < c3 := by omega
      subst k2
      simp (maxSteps := 1000000) (implicitDefEqProofs := false) only [v, vn, go_sem, ↓reduceIte]
      exact h
    · rw [if_neg v] at h
      have vn : p3 < c3 := by omega
      subst k2
      simp (maxSteps := 1000000) (implicitDefEqProofs := false) only [v, vn, hC, ZCp_eq, go_sem, ↓reduceIte]
      refine ⟨⟨⟨c1, 2, c3, c4, c5, c6, c7, c8⟩, sc⟩, ⟨rfl, hl⟩, ?_⟩
      simp (maxSteps := 1000000) (implicitDefEqProofs := false) only [CertS.v, AttS.v, go_sem, ↓reduceIte]
      exact h
  rw [if_neg k2] at h
  by_cases k3 : c2 = 3
  · rw [if_pos k3] at h
    subst k3
    simp (maxSteps := 1000000) (implicitDefEqProofs := false) only [k2, go_sem, ↓reduceIte]
    by_cases v : c3 ≤ q3
    · rw [if_pos v] at h
      have vn : ¬ q3 < c3 := by omega
      simp (maxSteps := 1000000) (implicitDefEqProofs := false) only [v, vn, go_sem, ↓reduceIte]
      exact h
    · rw [if_neg v] at h
      have vn : q3 < c3 := by omega
      simp (maxSteps := 1000000) (implicitDefEqProofs := false) only [v, vn, hC, ZCp_eq, go_sem, ↓reduceIte]
      refine ⟨⟨⟨c1, 3, c3, c4, c5, c6, c7, c8⟩, sc⟩, ⟨rfl, hl⟩, ?_⟩
      simp (maxSteps := 1000000) (implicitDefEqProofs := false) only [CertS.v, AttS.v, go_sem, ↓reduceIte]
      exact h
  rw [if_neg k3] at h
  simp (maxSteps := 1000000) (implicitDefEqProofs := false) only [k2, k3, go_sem, ↓reduceIte]
  exact h
theorem walk23 {k : KnownS} (h : Q (.tup [.int .i64 k.p.att.vi, .arr .u8 32 k.p.att.ha]) G) : Wf E C pf23 [k.v] G Q := by
  obtain ⟨⟨⟨p1, p2, p3, p4, p5, p6, p7, p8⟩, sp⟩, ⟨⟨q1, q2, q3, q4, q5, q6, q7, q8⟩, sq⟩⟩ := k
  simp (maxSteps := 1000000) (implicitDefEqProofs := false) only [pf23, KnownS.v, CertS.v, AttS.v, go_sem, ↓reduceIte]
  exact h
theorem walk24 {k : KnownS} (h : Q (.tup [.int .i64 k.q.att.vi, .arr .u8 32 k.q.att.ha]) G) : Wf E C pf24 [k.v] G Q := by
  obtain ⟨⟨⟨p1, p2, p3, p4, p5, p6, p7, p8⟩, sp⟩, ⟨⟨q1, q2, q3, q4, q5, q6, q7, q8⟩, sq⟩⟩ := k
  simp (maxSteps := 1000000) (implicitDefEqProofs := false) only [pf24, KnownS.v, CertS.v, AttS.v, go_sem, ↓reduceIte]
  exact h
end Go.Proofs.YtegamlopcdjiaaaDoor.Sha
