/- Votes: what is known, the law. -/
import Derived.Test.YtegamlopcdjiaaaDoorUVot1
namespace Go.Proofs.YtegamlopcdjiaaaDoor.Sha
open Go Go.Abs Go.Abs.Sha Go.Abs.Srt
set_option linter.unusedSimpArgs false
set_option linter.unusedVariables false
set_option maxRecDepth 100000
def pf63 : PF :=
  PF.mk 1 6 22 ((PC.reg [nn (.v 2) (.alloc (.agg [.agg [.int .i64 0, .int .i64 0, .int .i64 0, .int .i64 0, .arr .u8 32 [0, 0, 0, 0, 0, 0, 0, 0, 0, 0, 0,
    0, 0, 0, 0, 0, 0, 0, 0, 0, 0, 0, 0, 0, 0, 0, 0, 0, 0, 0, 0, 0], .int .i64 0, .arr .u8 32 [0, 0, 0, 0, 0, 0, 0, 0, 0, 0, 0, 0, 0, 0, 0, 0, 0, 0, 0, 0,
    0, 0, 0, 0, 0, 0, 0, 0, 0, 0, 0, 0], .arr .u8 32 [0, 0, 0, 0, 0, 0, 0, 0, 0, 0, 0, 0, 0, 0, 0, 0, 0, 0, 0, 0, 0, 0, 0, 0, 0, 0, 0, 0, 0, 0, 0, 0]],
    .nils]))]).seq ((PC.reg [mm 7 0, nn (.t 8) (.build (.arr .u8 32 [0, 0, 0, 0, 0, 0, 0, 0, 0, 0, 0, 0, 0, 0, 0, 0, 0, 0, 0, 0, 0, 0, 0, 0, 0, 0, 0, 0,
    0, 0, 0, 0]) [(0, .c (.v (.int .u8 7)))]), nn (.t 9) (.build (.agg [.int .i64 0, .int .i64 0, .int .i64 0, .int .i64 0, .arr .u8 32 [0, 0, 0, 0, 0,
    0, 0, 0, 0, 0, 0, 0, 0, 0, 0, 0, 0, 0, 0, 0, 0, 0, 0, 0, 0, 0, 0, 0, 0, 0, 0, 0], .int .i64 0, .arr .u8 32 [0, 0, 0, 0, 0, 0, 0, 0, 0, 0, 0, 0, 0, 0,
    0, 0, 0, 0, 0, 0, 0, 0, 0, 0, 0, 0, 0, 0, 0, 0, 0, 0], .arr .u8 32 [0, 0, 0, 0, 0, 0, 0, 0, 0, 0, 0, 0, 0, 0, 0, 0, 0, 0, 0, 0, 0, 0, 0, 0, 0, 0, 0,
    0, 0, 0, 0, 0]]) [(0, .c (.v (.int .i64 1))), (1, .c (.v (.int .i64 2))), (2, .t 7), (3, .c (.v (.int .i64 2))), (4, .t 8)]), nn (.v 3) (.alloc (.agg
    [.int .i64 0, .int .i64 0, .int .i64 0, .int .i64 0, .arr .u8 32 [0, 0, 0, 0, 0, 0, 0, 0, 0, 0, 0, 0, 0, 0, 0, 0, 0, 0, 0, 0, 0, 0, 0, 0, 0, 0, 0, 0,
    0, 0, 0, 0], .int .i64 0, .arr .u8 32 [0, 0, 0, 0, 0, 0, 0, 0, 0, 0, 0, 0, 0, 0, 0, 0, 0, 0, 0, 0, 0, 0, 0, 0, 0, 0, 0, 0, 0, 0, 0, 0], .arr .u8 32
    [0, 0, 0, 0, 0, 0, 0, 0, 0, 0, 0, 0, 0, 0, 0, 0, 0, 0, 0, 0, 0, 0, 0, 0, 0, 0, 0, 0, 0, 0, 0, 0]])), nn .no (.store 101 (.v 3) (.t 9))]).seq ((PC.reg
    [nn (.t 10) (.load 101 true (.v 3)), nn (.v 4) (.alloc (.agg [.int .i64 0, .int .i64 0, .int .i64 0, .int .i64 0, .arr .u8 32 [0, 0, 0, 0, 0, 0, 0,
    0, 0, 0, 0, 0, 0, 0, 0, 0, 0, 0, 0, 0, 0, 0, 0, 0, 0, 0, 0, 0, 0, 0, 0, 0], .int .i64 0, .arr .u8 32 [0, 0, 0, 0, 0, 0, 0, 0, 0, 0, 0, 0, 0, 0, 0, 0,
    0, 0, 0, 0, 0, 0, 0, 0, 0, 0, 0, 0, 0, 0, 0, 0], .arr .u8 32 [0, 0, 0, 0, 0, 0, 0, 0, 0, 0, 0, 0, 0, 0, 0, 0, 0, 0, 0, 0, 0, 0, 0, 0, 0, 0, 0, 0, 0,
    0, 0, 0]])), nn .no (.store 101 (.v 4) (.t 10))]).seq ((PC.reg [nn (.t 11) (.fadr 0 0 (.v 4)), nn .no (.store 1 (.t 11) (.c (.v (.int .i64
    2))))]).seq ((PC.regD 1 [nn (.t 13) (.load 101 true (.v 3)), nn (.t 14) (.call 43 [.t 13]), nn (.t 15) (.load 101 true (.v 4)), nn (.t 16) (.call 43
    [.t 15]), nn (.t 17) (.buildS none 101 (.agg [.int .i64 0, .int .i64 0, .int .i64 0, .int .i64 0, .arr .u8 32 [0, 0, 0, 0, 0, 0, 0, 0, 0, 0, 0, 0, 0,
    0, 0, 0, 0, 0, 0, 0, 0, 0, 0, 0, 0, 0, 0, 0, 0, 0, 0, 0], .int .i64 0, .arr .u8 32 [0, 0, 0, 0, 0, 0, 0, 0, 0, 0, 0, 0, 0, 0, 0, 0, 0, 0, 0, 0, 0, 0,
    0, 0, 0, 0, 0, 0, 0, 0, 0, 0], .arr .u8 32 [0, 0, 0, 0, 0, 0, 0, 0, 0, 0, 0, 0, 0, 0, 0, 0, 0, 0, 0, 0, 0, 0, 0, 0, 0, 0, 0, 0, 0, 0, 0, 0]]) 2 [(0,
    .t 14), (1, .t 16)]), nn (.t 18) (.call 51 [.c (.v (.int .i64 3)), .t 17]), nn (.t 12) (.mv false (.t 18)), nn (.t 19) (.ext (.t 12) 0), nn (.t 20)
    (.ext (.t 12) 1), nn (.v 5) (.allocAt 1 (.agg [.agg [.int .i64 0, .int .i64 0, .int .i64 0, .int .i64 0, .arr .u8 32 [0, 0, 0, 0, 0, 0, 0, 0, 0, 0,
    0, 0, 0, 0, 0, 0, 0, 0, 0, 0, 0, 0, 0, 0, 0, 0, 0, 0, 0, 0, 0, 0], .int .i64 0, .arr .u8 32 [0, 0, 0, 0, 0, 0, 0, 0, 0, 0, 0, 0, 0, 0, 0, 0, 0, 0, 0,
    0, 0, 0, 0, 0, 0, 0, 0, 0, 0, 0, 0, 0], .arr .u8 32 [0, 0, 0, 0, 0, 0, 0, 0, 0, 0, 0, 0, 0, 0, 0, 0, 0, 0, 0, 0, 0, 0, 0, 0, 0, 0, 0, 0, 0, 0, 0,
    0]], .nils])), nn .no (.store 102 (.v 5) (.t 19)), nn (.t 6) (.mv true (.t 20))] [(0, 9), (2, 9)]).seq ((PC.reg [nn (.t 21) (.load 102 true (.v 5)),
    nn .no (.store 102 (.v 2) (.t 21))]).seq PC.ret)))))) [(.v 2, some (102, true))]
def pf19 : PF :=
  PF.mk 0 8 50 ((PC.reg [nn (.v 0) (.mv true (.c (.v (.bool false))))]).seq ((PC.reg [nn (.t 10) (.build (.agg [.agg [.agg [.int .i64 0, .int .i64 0,
    .int .i64 0, .int .i64 0, .arr .u8 32 [0, 0, 0, 0, 0, 0, 0, 0, 0, 0, 0, 0, 0, 0, 0, 0, 0, 0, 0, 0, 0, 0, 0, 0, 0, 0, 0, 0, 0, 0, 0, 0], .int .i64 0,
    .arr .u8 32 [0, 0, 0, 0, 0, 0, 0, 0, 0, 0, 0, 0, 0, 0, 0, 0, 0, 0, 0, 0, 0, 0, 0, 0, 0, 0, 0, 0, 0, 0, 0, 0], .arr .u8 32 [0, 0, 0, 0, 0, 0, 0, 0, 0,
    0, 0, 0, 0, 0, 0, 0, 0, 0, 0, 0, 0, 0, 0, 0, 0, 0, 0, 0, 0, 0, 0, 0]], .nils], .agg [.agg [.int .i64 0, .int .i64 0, .int .i64 0, .int .i64 0, .arr
    .u8 32 [0, 0, 0, 0, 0, 0, 0, 0, 0, 0, 0, 0, 0, 0, 0, 0, 0, 0, 0, 0, 0, 0, 0, 0, 0, 0, 0, 0, 0, 0, 0, 0], .int .i64 0, .arr .u8 32 [0, 0, 0, 0, 0, 0,
    0, 0, 0, 0, 0, 0, 0, 0, 0, 0, 0, 0, 0, 0, 0, 0, 0, 0, 0, 0, 0, 0, 0, 0, 0, 0], .arr .u8 32 [0, 0, 0, 0, 0, 0, 0, 0, 0, 0, 0, 0, 0, 0, 0, 0, 0, 0, 0,
    0, 0, 0, 0, 0, 0, 0, 0, 0, 0, 0, 0, 0]], .nils]]) []), nn (.t 11) (.call 63 [.c (.v (.int .i64 3))]), nn (.t 12) (.call 20 [.c (.v (.int .i64 3)), .t
    10, .t 11]), nn (.t 9) (.mv false (.t 12)), nn (.t 13) (.ext (.t 9) 0), nn (.t 14) (.ext (.t 9) 1), nn (.v 1) (.alloc (.agg [.agg [.agg [.int .i64 0,
    .int .i64 0, .int .i64 0, .int .i64 0, .arr .u8 32 [0, 0, 0, 0, 0, 0, 0, 0, 0, 0, 0, 0, 0, 0, 0, 0, 0, 0, 0, 0, 0, 0, 0, 0, 0, 0, 0, 0, 0, 0, 0, 0],
    .int .i64 0, .arr .u8 32 [0, 0, 0, 0, 0, 0, 0, 0, 0, 0, 0, 0, 0, 0, 0, 0, 0, 0, 0, 0, 0, 0, 0, 0, 0, 0, 0, 0, 0, 0, 0, 0], .arr .u8 32 [0, 0, 0, 0,
    0, 0, 0, 0, 0, 0, 0, 0, 0, 0, 0, 0, 0, 0, 0, 0, 0, 0, 0, 0, 0, 0, 0, 0, 0, 0, 0, 0]], .nils], .agg [.agg [.int .i64 0, .int .i64 0, .int .i64 0, .int
    .i64 0, .arr .u8 32 [0, 0, 0, 0, 0, 0, 0, 0, 0, 0, 0, 0, 0, 0, 0, 0, 0, 0, 0, 0, 0, 0, 0, 0, 0, 0, 0, 0, 0, 0, 0, 0], .int .i64 0, .arr .u8 32 [0, 0,
    0, 0, 0, 0, 0, 0, 0, 0, 0, 0, 0, 0, 0, 0, 0, 0, 0, 0, 0, 0, 0, 0, 0, 0, 0, 0, 0, 0, 0, 0], .arr .u8 32 [0, 0, 0, 0, 0, 0, 0, 0, 0, 0, 0, 0, 0, 0, 0,
    0, 0, 0, 0, 0, 0, 0, 0, 0, 0, 0, 0, 0, 0, 0, 0, 0]], .nils]])), nn .no (.store 204 (.v 1) (.t 13)), ma 2 14]).seq ((PC.regD 1 [nn (.t 16) (.load 204
    true (.v 1)), nn (.t 17) (.call 63 [.c (.v (.int .i64 2))]), nn (.t 18) (.call 20 [.c (.v (.int .i64 3)), .t 16, .t 17]), nn (.t 15) (.mv false (.t
    18)), nn (.t 19) (.ext (.t 15) 0), nn (.t 20) (.ext (.t 15) 1), nn (.v 3) (.allocAt 1 (.agg [.agg [.agg [.int .i64 0, .int .i64 0, .int .i64 0, .int
    .i64 0, .arr .u8 32 [0, 0, 0, 0, 0, 0, 0, 0, 0, 0, 0, 0, 0, 0, 0, 0, 0, 0, 0, 0, 0, 0, 0, 0, 0, 0, 0, 0, 0, 0, 0, 0], .int .i64 0, .arr .u8 32 [0, 0,
    0, 0, 0, 0, 0, 0, 0, 0, 0, 0, 0, 0, 0, 0, 0, 0, 0, 0, 0, 0, 0, 0, 0, 0, 0, 0, 0, 0, 0, 0], .arr .u8 32 [0, 0, 0, 0, 0, 0, 0, 0, 0, 0, 0, 0, 0, 0, 0,
    0, 0, 0, 0, 0, 0, 0, 0, 0, 0, 0, 0, 0, 0, 0, 0, 0]], .nils], .agg [.agg [.int .i64 0, .int .i64 0, .int .i64 0, .int .i64 0, .arr .u8 32 [0, 0, 0, 0,
    0, 0, 0, 0, 0, 0, 0, 0, 0, 0, 0, 0, 0, 0, 0, 0, 0, 0, 0, 0, 0, 0, 0, 0, 0, 0, 0, 0], .int .i64 0, .arr .u8 32 [0, 0, 0, 0, 0, 0, 0, 0, 0, 0, 0, 0, 0,
    0, 0, 0, 0, 0, 0, 0, 0, 0, 0, 0, 0, 0, 0, 0, 0, 0, 0, 0], .arr .u8 32 [0, 0, 0, 0, 0, 0, 0, 0, 0, 0, 0, 0, 0, 0, 0, 0, 0, 0, 0, 0, 0, 0, 0, 0, 0, 0,
    0, 0, 0, 0, 0, 0]], .nils]])), nn .no (.store 204 (.v 3) (.t 19)), ma 4 20] [(0, 6)]).seq ((PC.reg [nn (.t 22) (.load 204 true (.v 1)), nn (.t 23)
    (.call 23 [.t 22]), nn (.t 21) (.mv false (.t 23)), nn (.t 24) (.ext (.t 21) 0), nn (.t 25) (.ext (.t 21) 1), nn (.v 6) (.alloc (.arr .u8 32 [0, 0,
    0, 0, 0, 0, 0, 0, 0, 0, 0, 0, 0, 0, 0, 0, 0, 0, 0, 0, 0, 0, 0, 0, 0, 0, 0, 0, 0, 0, 0, 0])), ma 5 24, nn .no (.store 32 (.v 6) (.t 25))]).seq
    ((PC.reg [nn (.t 27) (.load 204 true (.v 1)), nn (.t 28) (.call 24 [.t 27]), nn (.t 26) (.mv false (.t 28)), nn (.t 29) (.ext (.t 26) 0), nn (.t 30)
    (.ext (.t 26) 1), nn (.t 8) (.alloc (.arr .u8 32 [0, 0, 0, 0, 0, 0, 0, 0, 0, 0, 0, 0, 0, 0, 0, 0, 0, 0, 0, 0, 0, 0, 0, 0, 0, 0, 0, 0, 0, 0, 0, 0])),
    ma 7 29, nn .no (.store 32 (.t 8) (.t 30))]).seq ((PC.reg [mm 31 2, nn (.t 32) (.bin .eql (.t 31) (.c (.v (.int .i64 0)))), nn (.t 33) (.mv false (.t
    32)), gm 34 4 33 true, ⟨.t 35, .bin .eql (.t 34) (.c (.v (.int .i64 11))), some (.t 33, true)⟩, nn (.t 36) (.pick (.t 33) (.t 35) (.c (.v (.bool
    false)))), nn (.t 37) (.mv false (.t 36)), gm 38 5 37 true, ⟨.t 39, .bin .eql (.t 38) (.c (.v (.int .i64 3))), some (.t 37, true)⟩, nn (.t 40) (.pick
    (.t 37) (.t 39) (.c (.v (.bool false)))), nn (.t 41) (.mv false (.t 40)), ⟨.t 42, .load 32 true (.v 6), some (.t 41, true)⟩, ⟨.t 43, .build (.arr .u8
    32 [0, 0, 0, 0, 0, 0, 0, 0, 0, 0, 0, 0, 0, 0, 0, 0, 0, 0, 0, 0, 0, 0, 0, 0, 0, 0, 0, 0, 0, 0, 0, 0]) [(0, .c (.v (.int .u8 7)))], some (.t 41,
    true)⟩, ⟨.t 44, .eqa false (.arr 32) (.t 42) (.t 43), some (.t 41, true)⟩, nn (.t 45) (.pick (.t 41) (.t 44) (.c (.v (.bool false)))), nn (.t 46)
    (.mv false (.t 45)), gm 47 7 46 true, ⟨.t 48, .bin .eql (.t 47) (.c (.v (.int .i64 0))), some (.t 46, true)⟩, nn (.t 49) (.pick (.t 46) (.t 48) (.c
    (.v (.bool false)))), ma 0 49]).seq PC.ret)))))) [(.v 0, none)]
attribute [local irreducible] W Wops WopsD WL Wop WopD
variable {E : Env} {C : Abs.Spec} {l : List (Nat × Spec1)} {G : List (Nat × V)} {Q : R → List (Nat × V) → Prop}
set_option maxHeartbeats 1000000
def attv (k v : Int) : AttS := ⟨k, 2, v, 2, [7, 0, 0, 0, 0, 0, 0, 0, 0, 0, 0, 0, 0, 0, 0, 0, 0, 0, 0, 0, 0, 0, 0, 0, 0, 0, 0, 0, 0, 0, 0, 0], 0, zero32, zero32⟩
def oneC (kt : List Int) (v : Int) : CertS := ⟨attv 0 v, [(1, (attv 1 v).tag kt), (2, (attv 2 v).tag kt)]⟩
theorem h32_seven : H32 [7, 0, 0, 0, 0, 0, 0, 0, 0, 0, 0, 0, 0, 0, 0, 0, 0, 0, 0, 0, 0, 0, 0, 0, 0, 0, 0, 0, 0, 0, 0, 0] := ⟨by unfold Byt; decide, rfl⟩
theorem mayv {v : Int} (hv : v = 2 ∨ v = 3) : (attv 1 v).may = true ∧ (attv 2 v).may = true := by rcases hv with rfl | rfl <;> exact ⟨by decide, by decide⟩
theorem on_cert {kt : List Int} {v : Int} (hv : v = 2 ∨ v = 3) : mkCert kt 3 [(attv 1 v).signed kt, (attv 2 v).signed kt] = (oneC kt v, 0) := by
  have q : quo 3 = 2 := by decide
  have q0 : ¬ (2 : Int) = 0 := by decide
  obtain ⟨m1, m2⟩ := mayv hv
  have c1 : ([(attv 1 v).signed kt, (attv 2 v).signed kt].any fun x => !(x.right kt) || decide (3 < x.who)) = false := by
    simp only [List.any_cons, List.any_nil, right_signed, m1, m2]; rfl
  have c2 : ([(attv 1 v).signed kt, (attv 2 v).signed kt].any fun x => !(x.alike ((attv 1 v).signed kt))) = false := by
    rcases hv with rfl | rfl <;> rfl
  have c3 : ¬ ((firstsA 3 [(attv 1 v).signed kt, (attv 2 v).signed kt]).length : Int) < 2 := by
    show ¬ ((2 : Nat) : Int) < 2
    decide
  unfold mkCert
  simp only [q, q0, c1, c2, c3, Bool.false_eq_true, ↓reduceIte]
  rfl
theorem one_right {kt : List Int} {v : Int} (hv : v = 2 ∨ v = 3) : CertS.right kt 3 (oneC kt v) = true := by
  have h := mk_right (kt := kt) (n := 3) (l := [(attv 1 v).signed kt, (attv 2 v).signed kt])
  rw [on_cert hv] at h
  exact h rfl
theorem attv_wf {k v : Int} (hk : I64 k) (hv : I64 v) : (attv k v).wf := ⟨hk, (by decide : I64 2), hv, (by decide : I64 2), (by decide : I64 0), h32_seven, h32_zero, h32_zero⟩
theorem i64_23 {v : Int} (hv : v = 2 ∨ v = 3) : I64 v := by rcases hv with rfl | rfl <;> decide
theorem one_wf {kt : List Int} {v : Int} (hv : v = 2 ∨ v = 3) : (oneC kt v).wf := by
  refine ⟨attv_wf (by decide) (i64_23 hv), fun p hp => ?_⟩
  unfold oneC at hp
  rcases List.mem_cons.1 hp with rfl | hp
  · exact ⟨(by decide : I64 1), h32_tag kt (attv 1 v)⟩
  · rw [List.mem_singleton] at hp; subst hp; exact ⟨(by decide : I64 2), h32_tag kt (attv 2 v)⟩
theorem cert_zero_wf : CertS.zero.wf := ⟨AttS.zero_wf, fun p hp => by cases hp⟩
theorem known_zero_wf : KnownS.zero.wf := ⟨cert_zero_wf, cert_zero_wf, by decide, by decide⟩
theorem learn_1 {kt : List Int} : learnK kt 3 .zero (oneC kt 3) = (⟨oneC kt 3, .zero⟩, 0) := by
  unfold learnK
  rw [if_neg (by rw [one_right (.inr rfl)]; decide)]
  rfl
theorem learn_2 {kt : List Int} : learnK kt 3 ⟨oneC kt 3, .zero⟩ (oneC kt 2) = (⟨oneC kt 3, .zero⟩, 11) := by
  unfold learnK
  rw [if_neg (by rw [one_right (.inl rfl)]; decide)]
  rfl
def ZOn (kt : List Int) : Spec1
  | [.int .i64 v], G, Q => (v = 2 ∨ v = 3) ∧ Q (.v (oneC kt v).v) G
  | _, _, _ => False
theorem ZOn_eq {kt v} : ZOn kt [.int .i64 v] G Q = ((v = 2 ∨ v = 3) ∧ Q (.v (oneC kt v).v) G) := rfl
def ZA3 : Spec1
  | [], G, Q => Q (.v (.bool true)) G
  | _, _, _ => False
theorem ZA3_eq : ZA3 [] G Q = Q (.v (.bool true)) G := rfl
theorem walk63 (hS : Abs.look l 43 = some (SSi K256)) (hM : Abs.look l 51 = some (ZMk K256)) {v : Int} (hv : v = 2 ∨ v = 3) (h : Q (.v (oneC K256 v).v) G) : Wf E (specOf l) pf63 [.int .i64 v] G Q := by
  obtain ⟨m1, m2⟩ := mayv hv
  have s1 : (AttS.sign K256 ⟨1, 2, v, 2, [7, 0, 0, 0, 0, 0, 0, 0, 0, 0, 0, 0, 0, 0, 0, 0, 0, 0, 0, 0, 0, 0, 0, 0, 0, 0, 0, 0, 0, 0, 0, 0], 0, [0, 0, 0, 0, 0, 0, 0, 0, 0, 0, 0, 0, 0, 0, 0, 0, 0, 0, 0, 0, 0, 0, 0, 0, 0, 0, 0, 0, 0, 0, 0, 0], [0, 0, 0, 0, 0, 0, 0, 0, 0, 0, 0, 0, 0, 0, 0, 0, 0, 0, 0, 0, 0, 0, 0, 0, 0, 0, 0, 0, 0, 0, 0, 0]⟩).v = .agg [.int .i64 1, .int .i64 2, .int .i64 v, .int .i64 2, .arr .u8 32 [7, 0, 0, 0, 0, 0, 0, 0, 0, 0, 0, 0, 0, 0, 0, 0, 0, 0, 0, 0, 0, 0, 0, 0, 0, 0, 0, 0, 0, 0, 0, 0], .int .i64 0, .arr .u8 32 [0, 0, 0, 0, 0, 0, 0, 0, 0, 0, 0, 0, 0, 0, 0, 0, 0, 0, 0, 0, 0, 0, 0, 0, 0, 0, 0, 0, 0, 0, 0, 0], .arr .u8 32 ((attv 1 v).tag K256)] := by
    show (AttS.sign K256 (attv 1 v)).v = _
    unfold AttS.sign; rw [if_pos m1]; rfl
  have s2 : (AttS.sign K256 ⟨2, 2, v, 2, [7, 0, 0, 0, 0, 0, 0, 0, 0, 0, 0, 0, 0, 0, 0, 0, 0, 0, 0, 0, 0, 0, 0, 0, 0, 0, 0, 0, 0, 0, 0, 0], 0, [0, 0, 0, 0, 0, 0, 0, 0, 0, 0, 0, 0, 0, 0, 0, 0, 0, 0, 0, 0, 0, 0, 0, 0, 0, 0, 0, 0, 0, 0, 0, 0], [0, 0, 0, 0, 0, 0, 0, 0, 0, 0, 0, 0, 0, 0, 0, 0, 0, 0, 0, 0, 0, 0, 0, 0, 0, 0, 0, 0, 0, 0, 0, 0]⟩).v = .agg [.int .i64 2, .int .i64 2, .int .i64 v, .int .i64 2, .arr .u8 32 [7, 0, 0, 0, 0, 0, 0, 0, 0, 0, 0, 0, 0, 0, 0, 0, 0, 0, 0, 0, 0, 0, 0, 0, 0, 0, 0, 0, 0, 0, 0, 0], .int .i64 0, .arr .u8 32 [0, 0, 0, 0, 0, 0, 0, 0, 0, 0, 0, 0, 0, 0, 0, 0, 0, 0, 0, 0, 0, 0, 0, 0, 0, 0, 0, 0, 0, 0, 0, 0], .arr .u8 32 ((attv 2 v).tag K256)] := by
    show (AttS.sign K256 (attv 2 v)).v = _
    unfold AttS.sign; rw [if_pos m2]; rfl
  simp (maxSteps := 1000000) (implicitDefEqProofs := false) only [pf63, hS, SSi_eq, go_sem, ↓reduceIte]
  refine ⟨attv_wf (by decide) (i64_23 hv), attv_wf (by decide) (i64_23 hv), ?_⟩
  simp (maxSteps := 1000000) (implicitDefEqProofs := false) only [s1, s2, hM, ZMk_eq, go_sem, ↓reduceIte]
  refine ⟨[(attv 1 v).signed K256, (attv 2 v).signed K256], ⟨rfl, by decide, fun a ha => ?_, by show (2 : Nat) ≤ 39; decide⟩, ?_⟩
  · rcases List.mem_cons.1 ha with rfl | ha
    · exact AttS.signed_wf (attv_wf (by decide) (i64_23 hv))
    · rw [List.mem_singleton] at ha; subst ha; exact AttS.signed_wf (attv_wf (by decide) (i64_23 hv))
  rw [on_cert hv]
  obtain ⟨q1, q2, q3⟩ := cert_v (c := oneC K256 v)
  unfold V.isAgg at q2
  generalize (oneC K256 v).v = cv at *
  simp (maxSteps := 1000000) (implicitDefEqProofs := false) only [q1, q2, q3, go_sem, ↓reduceIte]
  exact h
theorem walk19 (hO : Abs.look l 63 = some (ZOn K256)) (hL : Abs.look l 20 = some (ZLe K256)) (hP : Abs.look l 23 = some ZPr) (hT : Abs.look l 24 = some ZSt) (h : Q (.v (.bool true)) G) : Wf E (specOf l) pf19 [] G Q := by
  have hk1 : KnownS.wf ⟨oneC K256 3, .zero⟩ := ⟨one_wf (.inr rfl), cert_zero_wf, by show (2 : Nat) < _; decide, by decide⟩
  have w3 := one_wf (kt := K256) (v := 3) (.inr rfl)
  have w2 := one_wf (kt := K256) (v := 2) (.inl rfl)
  have l3 : (oneC K256 3).sigs.length < 1000000 := by show (2 : Nat) < _; decide
  have l2 : (oneC K256 2).sigs.length < 1000000 := by show (2 : Nat) < _; decide
  obtain ⟨q1, q2, q3⟩ := known_v (c := ⟨oneC K256 3, .zero⟩)
  unfold V.isAgg at q2
  simp (maxSteps := 1000000) (implicitDefEqProofs := false) only [pf19, hO, ZOn_eq, go_sem, ↓reduceIte]
  simp (maxSteps := 1000000) (implicitDefEqProofs := false) only [hL, ZLe_eq, go_sem, ↓reduceIte]
  refine ⟨.zero, oneC K256 3, ⟨known_zero_wk, rfl, known_zero_wf, w3, l3, by decide⟩, ?_⟩
  rw [learn_1]
  simp (maxSteps := 1000000) (implicitDefEqProofs := false) only [q1, q2, q3, hO, ZOn_eq, go_sem, ↓reduceIte]
  simp (maxSteps := 1000000) (implicitDefEqProofs := false) only [q1, q2, q3, hL, ZLe_eq, go_sem, ↓reduceIte]
  refine ⟨⟨oneC K256 3, .zero⟩, oneC K256 2, ⟨V.Wk.refl _, rfl, hk1, w2, l2, by decide⟩, ?_⟩
  rw [learn_2]
  simp (maxSteps := 1000000) (implicitDefEqProofs := false) only [q1, q2, q3, hP, ZPr_eq, go_sem, ↓reduceIte]
  refine ⟨⟨oneC K256 3, .zero⟩, V.Wk.refl _, ?_⟩
  simp (maxSteps := 1000000) (implicitDefEqProofs := false) only [q1, q2, q3, hT, ZSt_eq, go_sem, ↓reduceIte]
  refine ⟨⟨oneC K256 3, .zero⟩, V.Wk.refl _, ?_⟩
  have d1 : (⟨oneC K256 3, .zero⟩ : KnownS).p.att.vi = 3 := rfl
  have d2 : (⟨oneC K256 3, .zero⟩ : KnownS).p.att.ha = [7, 0, 0, 0, 0, 0, 0, 0, 0, 0, 0, 0, 0, 0, 0, 0, 0, 0, 0, 0, 0, 0, 0, 0, 0, 0, 0, 0, 0, 0, 0, 0] := rfl
  have d3 : (⟨oneC K256 3, .zero⟩ : KnownS).q.att.vi = 0 := rfl
  have d4 : ([7, 0, 0, 0, 0, 0, 0, 0, 0, 0, 0, 0, 0, 0, 0, 0, 0, 0, 0, 0, 0, 0, 0, 0, 0, 0, 0, 0, 0, 0, 0, 0] == [7, 0, 0, 0, 0, 0, 0, 0, 0, 0, 0, 0, 0, 0, 0, 0, 0, 0, 0, 0, 0, 0, 0, 0, 0, 0, 0, 0, 0, 0, 0, 0]) = true := by decide
  simp (maxSteps := 1000000) (implicitDefEqProofs := false) only [q1, q2, q3, go_sem, ↓reduceIte]
  exact ⟨fun _ => ⟨fun _ => h, fun e => absurd e (by decide)⟩, fun e => absurd rfl e⟩
end Go.Proofs.YtegamlopcdjiaaaDoor.Sha
