/- Certificates: the law. -/
import Derived.Test.YtjbglbhcbenhpaaDoorTCrt4
namespace Go.Proofs.YtjbglbhcbenhpaaDoor.Sha
open Go Go.Abs Go.Abs.Sha Go.Abs.Srt
set_option linter.unusedSimpArgs false
set_option linter.unusedVariables false
set_option maxRecDepth 100000
def pf30 : PF :=
  PF.mk 0 6 42 ((PC.reg [nn (.v 0) (.mv true (.c (.v (.bool false))))]).seq ((PC.reg [nn (.t 6) (.build (.agg [.int .i64 0, .int .i64 0, .int .i64 0,
    .int .i64 0, .arr .u8 32 [0, 0, 0, 0, 0, 0, 0, 0, 0, 0, 0, 0, 0, 0, 0, 0, 0, 0, 0, 0, 0, 0, 0, 0, 0, 0, 0, 0, 0, 0, 0, 0], .int .i64 0, .arr .u8 32
    [0, 0, 0, 0, 0, 0, 0, 0, 0, 0, 0, 0, 0, 0, 0, 0, 0, 0, 0, 0, 0, 0, 0, 0, 0, 0, 0, 0, 0, 0, 0, 0], .arr .u8 32 [0, 0, 0, 0, 0, 0, 0, 0, 0, 0, 0, 0, 0,
    0, 0, 0, 0, 0, 0, 0, 0, 0, 0, 0, 0, 0, 0, 0, 0, 0, 0, 0]]) [(0, .c (.v (.int .i64 2))), (1, .c (.v (.int .i64 2))), (2, .c (.v (.int .i64 3))), (3,
    .c (.v (.int .i64 2)))]), nn (.v 1) (.alloc (.agg [.int .i64 0, .int .i64 0, .int .i64 0, .int .i64 0, .arr .u8 32 [0, 0, 0, 0, 0, 0, 0, 0, 0, 0, 0,
    0, 0, 0, 0, 0, 0, 0, 0, 0, 0, 0, 0, 0, 0, 0, 0, 0, 0, 0, 0, 0], .int .i64 0, .arr .u8 32 [0, 0, 0, 0, 0, 0, 0, 0, 0, 0, 0, 0, 0, 0, 0, 0, 0, 0, 0, 0,
    0, 0, 0, 0, 0, 0, 0, 0, 0, 0, 0, 0], .arr .u8 32 [0, 0, 0, 0, 0, 0, 0, 0, 0, 0, 0, 0, 0, 0, 0, 0, 0, 0, 0, 0, 0, 0, 0, 0, 0, 0, 0, 0, 0, 0, 0, 0]])),
    nn .no (.store 101 (.v 1) (.t 6))]).seq ((PC.reg [nn (.t 7) (.load 101 true (.v 1)), nn (.v 2) (.alloc (.agg [.int .i64 0, .int .i64 0, .int .i64 0,
    .int .i64 0, .arr .u8 32 [0, 0, 0, 0, 0, 0, 0, 0, 0, 0, 0, 0, 0, 0, 0, 0, 0, 0, 0, 0, 0, 0, 0, 0, 0, 0, 0, 0, 0, 0, 0, 0], .int .i64 0, .arr .u8 32
    [0, 0, 0, 0, 0, 0, 0, 0, 0, 0, 0, 0, 0, 0, 0, 0, 0, 0, 0, 0, 0, 0, 0, 0, 0, 0, 0, 0, 0, 0, 0, 0], .arr .u8 32 [0, 0, 0, 0, 0, 0, 0, 0, 0, 0, 0, 0, 0,
    0, 0, 0, 0, 0, 0, 0, 0, 0, 0, 0, 0, 0, 0, 0, 0, 0, 0, 0]])), nn .no (.store 101 (.v 2) (.t 7))]).seq ((PC.reg [nn (.t 8) (.fadr 0 0 (.v 2)), nn .no
    (.store 1 (.t 8) (.c (.v (.int .i64 1))))]).seq ((PC.regD 1 [nn (.t 10) (.load 101 true (.v 1)), nn (.t 11) (.call 55 [.t 10]), nn (.t 12) (.load 101
    true (.v 2)), nn (.t 13) (.call 55 [.t 12]), nn (.t 14) (.buildS none 101 (.agg [.int .i64 0, .int .i64 0, .int .i64 0, .int .i64 0, .arr .u8 32 [0,
    0, 0, 0, 0, 0, 0, 0, 0, 0, 0, 0, 0, 0, 0, 0, 0, 0, 0, 0, 0, 0, 0, 0, 0, 0, 0, 0, 0, 0, 0, 0], .int .i64 0, .arr .u8 32 [0, 0, 0, 0, 0, 0, 0, 0, 0, 0,
    0, 0, 0, 0, 0, 0, 0, 0, 0, 0, 0, 0, 0, 0, 0, 0, 0, 0, 0, 0, 0, 0], .arr .u8 32 [0, 0, 0, 0, 0, 0, 0, 0, 0, 0, 0, 0, 0, 0, 0, 0, 0, 0, 0, 0, 0, 0, 0,
    0, 0, 0, 0, 0, 0, 0, 0, 0]]) 2 [(0, .t 11), (1, .t 13)]), nn (.t 15) (.call 31 [.c (.v (.int .i64 3)), .t 14]), nn (.t 9) (.mv false (.t 15)), nn (.t
    16) (.ext (.t 9) 0), nn (.t 17) (.ext (.t 9) 1), nn (.v 3) (.allocAt 1 (.agg [.agg [.int .i64 0, .int .i64 0, .int .i64 0, .int .i64 0, .arr .u8 32
    [0, 0, 0, 0, 0, 0, 0, 0, 0, 0, 0, 0, 0, 0, 0, 0, 0, 0, 0, 0, 0, 0, 0, 0, 0, 0, 0, 0, 0, 0, 0, 0], .int .i64 0, .arr .u8 32 [0, 0, 0, 0, 0, 0, 0, 0,
    0, 0, 0, 0, 0, 0, 0, 0, 0, 0, 0, 0, 0, 0, 0, 0, 0, 0, 0, 0, 0, 0, 0, 0], .arr .u8 32 [0, 0, 0, 0, 0, 0, 0, 0, 0, 0, 0, 0, 0, 0, 0, 0, 0, 0, 0, 0, 0,
    0, 0, 0, 0, 0, 0, 0, 0, 0, 0, 0]], .nils])), nn .no (.store 102 (.v 3) (.t 16)), ma 4 17] [(0, 9), (2, 9)]).seq ((PC.reg [nn (.t 18) (.load 102 true
    (.v 3)), nn (.t 19) (.call 35 [.t 18]), ma 5 19]).seq ((PC.reg [mm 20 4, nn (.t 21) (.bin .eql (.t 20) (.c (.v (.int .i64 0)))), nn (.t 22) (.mv
    false (.t 21)), ⟨.t 23, .load 102 true (.v 3), some (.t 22, true)⟩, ⟨.t 24, .call 34 [.c (.v (.int .i64 3)), .t 23], some (.t 22, true)⟩, nn (.t 25)
    (.pick (.t 22) (.t 24) (.c (.v (.bool false)))), nn (.t 26) (.mv false (.t 25)), ⟨.t 27, .load 102 true (.v 3), some (.t 26, true)⟩, ⟨.t 28, .call 34
    [.c (.v (.int .i64 5)), .t 27], some (.t 26, true)⟩, ⟨.t 29, .un .not (.t 28), some (.t 26, true)⟩, nn (.t 30) (.pick (.t 26) (.t 29) (.c (.v (.bool
    false)))), nn (.t 31) (.mv false (.t 30)), gm 32 5 31 true, ⟨.t 33, .len (.t 32), some (.t 31, true)⟩, ⟨.t 34, .bin .eql (.t 33) (.c (.v (.int .i64
    2))), some (.t 31, true)⟩, nn (.t 35) (.pick (.t 31) (.t 34) (.c (.v (.bool false)))), nn (.t 36) (.mv false (.t 35)), gm 37 5 36 true, ⟨.t 38,
    .iadrS 1 (.t 37) (.c (.v (.int .i64 0))), some (.t 36, true)⟩, ⟨.t 39, .load 1 false (.t 38), some (.t 36, true)⟩, ⟨.t 40, .bin .eql (.t 39) (.c (.v
    (.int .i64 1))), some (.t 36, true)⟩, nn (.t 41) (.pick (.t 36) (.t 40) (.c (.v (.bool false)))), ma 0 41]).seq PC.ret))))))) [(.v 0, none)]
def pf7 : PF :=
  PF.mk 2 9 53 ((PC.reg [nn (.v 4) (.mv true (.c (.v (.bool false))))]).seq (((PC.reg [mm 9 1, nn (.t 10) (.len (.t 9)), nn (.t 11) (.bin .gtr (.t 10)
    (.c (.v (.int .i64 25))))]).seq (PC.cond (.t 11) ((PC.reg [nn (.t 12) (.call 30 []), ma 4 12]).seq PC.ret) PC.skip)).seq ((PC.reg [mm 14 0, mm 15 1,
    nn (.t 16) (.call 31 [.t 14, .t 15]), nn (.t 13) (.mv false (.t 16)), nn (.t 17) (.ext (.t 13) 0), nn (.t 18) (.ext (.t 13) 1), nn (.v 5) (.alloc
    (.agg [.agg [.int .i64 0, .int .i64 0, .int .i64 0, .int .i64 0, .arr .u8 32 [0, 0, 0, 0, 0, 0, 0, 0, 0, 0, 0, 0, 0, 0, 0, 0, 0, 0, 0, 0, 0, 0, 0, 0,
    0, 0, 0, 0, 0, 0, 0, 0], .int .i64 0, .arr .u8 32 [0, 0, 0, 0, 0, 0, 0, 0, 0, 0, 0, 0, 0, 0, 0, 0, 0, 0, 0, 0, 0, 0, 0, 0, 0, 0, 0, 0, 0, 0, 0, 0],
    .arr .u8 32 [0, 0, 0, 0, 0, 0, 0, 0, 0, 0, 0, 0, 0, 0, 0, 0, 0, 0, 0, 0, 0, 0, 0, 0, 0, 0, 0, 0, 0, 0, 0, 0]], .nils])), nn .no (.store 102 (.v 5)
    (.t 17)), ma 6 18]).seq ((PC.reg [mm 20 0, mm 21 1, nn (.t 22) (.call 32 [.t 20, .t 21]), nn (.t 19) (.mv false (.t 22)), nn (.t 23) (.ext (.t 19)
    0), nn (.t 24) (.ext (.t 19) 1), nn (.v 7) (.alloc (.agg [.agg [.int .i64 0, .int .i64 0, .int .i64 0, .int .i64 0, .arr .u8 32 [0, 0, 0, 0, 0, 0, 0,
    0, 0, 0, 0, 0, 0, 0, 0, 0, 0, 0, 0, 0, 0, 0, 0, 0, 0, 0, 0, 0, 0, 0, 0, 0], .int .i64 0, .arr .u8 32 [0, 0, 0, 0, 0, 0, 0, 0, 0, 0, 0, 0, 0, 0, 0, 0,
    0, 0, 0, 0, 0, 0, 0, 0, 0, 0, 0, 0, 0, 0, 0, 0], .arr .u8 32 [0, 0, 0, 0, 0, 0, 0, 0, 0, 0, 0, 0, 0, 0, 0, 0, 0, 0, 0, 0, 0, 0, 0, 0, 0, 0, 0, 0, 0,
    0, 0, 0]], .nils])), nn .no (.store 102 (.v 7) (.t 23)), ma 8 24]).seq (((PC.reg [mm 25 6, mm 26 8, nn (.t 27) (.bin .neq (.t 25) (.t 26)), nn (.t
    28) (.mv false (.t 27)), ⟨.t 29, .load 102 true (.v 5), some (.t 28, false)⟩, ⟨.t 30, .load 102 true (.v 7), some (.t 28, false)⟩, ⟨.t 31, .call 33
    [.t 29, .t 30], some (.t 28, false)⟩, ⟨.t 32, .un .not (.t 31), some (.t 28, false)⟩, nn (.t 33) (.pick (.t 28) (.c (.v (.bool true))) (.t 32))]).seq
    (PC.cond (.t 33) ((PC.reg [nn (.v 4) (.mv true (.c (.v (.bool false))))]).seq PC.ret) PC.skip)).seq ((PC.regD 0 [mm 34 6, nn (.t 35) (.bin .neq (.t
    34) (.c (.v (.int .i64 0)))), nn (.t 36) (.mv false (.t 35)), gm 37 0 36 false, ⟨.t 38, .load 102 true (.v 5), some (.t 36, false)⟩, ⟨.t 39, .call 34
    [.t 37, .t 38], some (.t 36, false)⟩, ⟨.t 40, .mv false (.t 39), some (.t 36, false)⟩, ⟨.t 41, .load 102 true (.v 5), some (.t 40, true)⟩, ⟨.t 42,
    .call 35 [.t 41], some (.t 40, true)⟩, ⟨.t 43, .len (.t 42), some (.t 40, true)⟩, ⟨.t 44, .fadr 1 101 (.v 5), some (.t 40, true)⟩, ⟨.t 45, .load 1
    false (.t 44), some (.t 40, true)⟩, ⟨.t 46, .len (.t 45), some (.t 40, true)⟩, ⟨.t 47, .bin .eql (.t 43) (.t 46), some (.t 40, true)⟩, ⟨.t 48, .pick
    (.t 40) (.t 47) (.c (.v (.bool false))), some (.t 36, false)⟩, nn (.t 49) (.pick (.t 36) (.c (.v (.bool true))) (.t 48)), nn (.t 50) (.mv false (.t
    49)), ⟨.t 51, .call 30 [], some (.t 50, true)⟩, nn (.t 52) (.pick (.t 50) (.t 51) (.c (.v (.bool false)))), ma 4 52] []).seq PC.ret)))))) [(.v 4,
    none)]
attribute [local irreducible] W Wops WopsD WL Wop WopD
variable {E : Env} {C : Abs.Spec} {l : List (Nat × Spec1)} {G : List (Nat × V)} {Q : R → List (Nat × V) → Prop}
set_option maxHeartbeats 1000000
theorem look_mem {α : Type} {f : Nat} {s : α} : ∀ {l : List (Nat × α)}, Abs.look l f = some s → (f, s) ∈ l
  | [], h => by cases h
  | (k, x) :: l, h => by
    rw [look_cons] at h
    by_cases e : f = k
    · rw [if_pos e] at h; cases h; rw [e]; exact List.mem_cons_self ..
    · rw [if_neg e] at h; exact List.mem_cons_of_mem _ (look_mem h)
theorem sub_of {T l : List (Nat × Spec1)} (h : ∀ p ∈ T, Abs.look l p.1 = some p.2) : Sub T l := fun f s hf => h (f, s) (look_mem hf)
theorem rows_of : ∀ {xs : List V}, (∀ e ∈ xs, ∃ a : AttS, e = a.v ∧ a.wf) → ∃ as : List AttS, xs = as.map AttS.v ∧ ∀ a ∈ as, a.wf
  | [], _ => ⟨[], rfl, fun a ha => by cases ha⟩
  | x :: xs, h => by
    obtain ⟨a, rfl, hw⟩ := h x (List.mem_cons_self ..)
    obtain ⟨as, rfl, hws⟩ := rows_of (xs := xs) fun e he => h e (List.mem_cons_of_mem _ he)
    exact ⟨a :: as, rfl, fun b hb => by rcases List.mem_cons.1 hb with rfl | hb <;> first | exact hw | exact hws _ hb⟩
def att1 (k : Int) : AttS := ⟨k, 2, 3, 2, zero32, 0, zero32, zero32⟩
theorem right_signed {kt : List Int} {a : AttS} : (a.signed kt).right kt = a.may := by
  unfold AttS.right AttS.signed
  have e : ({ a with ta := a.tag kt } : AttS).may = a.may := rfl
  have t : ({ a with ta := a.tag kt } : AttS).tag kt = a.tag kt := rfl
  rw [e, t, decide_eq_true rfl, Bool.and_true]
theorem may1 : (att1 1).may = true := by decide
theorem may2 : (att1 2).may = true := by decide
theorem aw_cert {kt : List Int} : mkCert kt 3 [(att1 2).signed kt, (att1 1).signed kt] = (⟨att1 0, [(1, (att1 1).tag kt), (2, (att1 2).tag kt)]⟩, 0) := by
  have q : quo 3 = 2 := by decide
  have q0 : ¬ (2 : Int) = 0 := by decide
  have c1 : ([(att1 2).signed kt, (att1 1).signed kt].any fun x => !(x.right kt) || decide (3 < x.who)) = false := by
    simp only [List.any_cons, List.any_nil, right_signed, may1, may2]; rfl
  have c2 : ([(att1 2).signed kt, (att1 1).signed kt].any fun x => !(x.alike ((att1 2).signed kt))) = false := rfl
  have c3 : ¬ ((firstsA 3 [(att1 2).signed kt, (att1 1).signed kt]).length : Int) < 2 := by
    show ¬ ((2 : Nat) : Int) < 2
    decide
  unfold mkCert
  simp only [q, q0, c1, c2, c3, Bool.false_eq_true, ↓reduceIte]
  rfl
theorem aw_3 {kt : List Int} : CertS.right kt 3 ⟨att1 0, [(1, (att1 1).tag kt), (2, (att1 2).tag kt)]⟩ = true := by
  have e1 : withS (att1 0) (1, (att1 1).tag kt) = (att1 1).signed kt := rfl
  have e2 : withS (att1 0) (2, (att1 2).tag kt) = (att1 2).signed kt := rfl
  refine Eq.trans (if_neg ?_) ?_
  · rintro (h | h | h | h | h)
    · exact absurd h (by decide)
    · exact h rfl
    · exact absurd h (by show ¬ risesB 3 0 [1, 2] = false; decide)
    · exact h rfl
    · exact h rfl
  · simp only [List.all_cons, List.all_nil, e1, e2, right_signed, may1, may2]; rfl
theorem aw_5 {kt : List Int} : CertS.right kt 5 ⟨att1 0, [(1, (att1 1).tag kt), (2, (att1 2).tag kt)]⟩ = false := by
  exact if_pos (.inr (.inl (by show ((2 : Nat) : Int) ≠ quo 5; decide)))
def ZAw : Spec1
  | [], G, Q => Q (.v (.bool true)) G
  | _, _, _ => False
theorem ZAw_eq : ZAw [] G Q = Q (.v (.bool true)) G := rfl
theorem walk30 (hS : Abs.look l 55 = some (SSi K256)) (hM : Abs.look l 31 = some (ZMk K256)) (hR : Abs.look l 34 = some (ZRi K256)) (hG : Abs.look l 35 = some ZSg) (h : Q (.v (.bool true)) G) : Wf E (specOf l) pf30 [] G Q := by
  simp (maxSteps := 1000000) (implicitDefEqProofs := false) only [pf30, hS, SSi_eq, go_sem, ↓reduceIte]
  have s2 : (AttS.sign K256 ⟨2, 2, 3, 2, [0, 0, 0, 0, 0, 0, 0, 0, 0, 0, 0, 0, 0, 0, 0, 0, 0, 0, 0, 0, 0, 0, 0, 0, 0, 0, 0, 0, 0, 0, 0, 0], 0, [0, 0, 0, 0, 0, 0, 0, 0, 0, 0, 0, 0, 0, 0, 0, 0, 0, 0, 0, 0, 0, 0, 0, 0, 0, 0, 0, 0, 0, 0, 0, 0], [0, 0, 0, 0, 0, 0, 0, 0, 0, 0, 0, 0, 0, 0, 0, 0, 0, 0, 0, 0, 0, 0, 0, 0, 0, 0, 0, 0, 0, 0, 0, 0]⟩).v = .agg [.int .i64 2, .int .i64 2, .int .i64 3, .int .i64 2, .arr .u8 32 [0, 0, 0, 0, 0, 0, 0, 0, 0, 0, 0, 0, 0, 0, 0, 0, 0, 0, 0, 0, 0, 0, 0, 0, 0, 0, 0, 0, 0, 0, 0, 0], .int .i64 0, .arr .u8 32 [0, 0, 0, 0, 0, 0, 0, 0, 0, 0, 0, 0, 0, 0, 0, 0, 0, 0, 0, 0, 0, 0, 0, 0, 0, 0, 0, 0, 0, 0, 0, 0], .arr .u8 32 ((att1 2).tag K256)] := by
    show (AttS.sign K256 (att1 2)).v = _
    unfold AttS.sign; rw [if_pos may2]; rfl
  have s1 : (AttS.sign K256 ⟨1, 2, 3, 2, [0, 0, 0, 0, 0, 0, 0, 0, 0, 0, 0, 0, 0, 0, 0, 0, 0, 0, 0, 0, 0, 0, 0, 0, 0, 0, 0, 0, 0, 0, 0, 0], 0, [0, 0, 0, 0, 0, 0, 0, 0, 0, 0, 0, 0, 0, 0, 0, 0, 0, 0, 0, 0, 0, 0, 0, 0, 0, 0, 0, 0, 0, 0, 0, 0], [0, 0, 0, 0, 0, 0, 0, 0, 0, 0, 0, 0, 0, 0, 0, 0, 0, 0, 0, 0, 0, 0, 0, 0, 0, 0, 0, 0, 0, 0, 0, 0]⟩).v = .agg [.int .i64 1, .int .i64 2, .int .i64 3, .int .i64 2, .arr .u8 32 [0, 0, 0, 0, 0, 0, 0, 0, 0, 0, 0, 0, 0, 0, 0, 0, 0, 0, 0, 0, 0, 0, 0, 0, 0, 0, 0, 0, 0, 0, 0, 0], .int .i64 0, .arr .u8 32 [0, 0, 0, 0, 0, 0, 0, 0, 0, 0, 0, 0, 0, 0, 0, 0, 0, 0, 0, 0, 0, 0, 0, 0, 0, 0, 0, 0, 0, 0, 0, 0], .arr .u8 32 ((att1 1).tag K256)] := by
    show (AttS.sign K256 (att1 1)).v = _
    unfold AttS.sign; rw [if_pos may1]; rfl
  have wz : ∀ k, I64 k → (att1 k).wf := fun k hk => ⟨hk, (by decide : I64 2), (by decide : I64 3), (by decide : I64 2), (by decide : I64 0), h32_zero, h32_zero, h32_zero⟩
  refine ⟨wz 2 (by decide), wz 1 (by decide), ?_⟩
  simp (maxSteps := 1000000) (implicitDefEqProofs := false) only [s1, s2, hM, ZMk_eq, go_sem, ↓reduceIte]
  refine ⟨[(att1 2).signed K256, (att1 1).signed K256], ⟨rfl, by decide, fun a ha => ?_, by decide⟩, ?_⟩
  · rcases List.mem_cons.1 ha with rfl | ha
    · exact AttS.signed_wf (wz 2 (by decide))
    · rw [List.mem_singleton] at ha; subst ha; exact AttS.signed_wf (wz 1 (by decide))
  rw [aw_cert]
  have cw : CertS.wf ⟨att1 0, [(1, (att1 1).tag K256), (2, (att1 2).tag K256)]⟩ := by
    refine ⟨wz 0 (by decide), fun p hp => ?_⟩
    rcases List.mem_cons.1 hp with rfl | hp
    · exact ⟨(by decide : I64 1), h32_tag K256 (att1 1)⟩
    · rw [List.mem_singleton] at hp; subst hp; exact ⟨(by decide : I64 2), h32_tag K256 (att1 2)⟩
  have q1 : (⟨att1 0, [(1, (att1 1).tag K256), (2, (att1 2).tag K256)]⟩ : CertS).v.size = 102 := rfl
  have q2 : (⟨att1 0, [(1, (att1 1).tag K256), (2, (att1 2).tag K256)]⟩ : CertS).v.isAgg = true := rfl
  have q3 : (⟨att1 0, [(1, (att1 1).tag K256), (2, (att1 2).tag K256)]⟩ : CertS).v.same (.agg [.agg [.int .i64 0, .int .i64 0, .int .i64 0, .int .i64 0, .arr .u8 32 [0, 0, 0, 0, 0, 0, 0, 0, 0, 0, 0, 0, 0, 0, 0, 0, 0, 0, 0, 0, 0, 0, 0, 0, 0, 0, 0, 0, 0, 0, 0, 0], .int .i64 0, .arr .u8 32 [0, 0, 0, 0, 0, 0, 0, 0, 0, 0, 0, 0, 0, 0, 0, 0, 0, 0, 0, 0, 0, 0, 0, 0, 0, 0, 0, 0, 0, 0, 0, 0], .arr .u8 32 [0, 0, 0, 0, 0, 0, 0, 0, 0, 0, 0, 0, 0, 0, 0, 0, 0, 0, 0, 0, 0, 0, 0, 0, 0, 0, 0, 0, 0, 0, 0, 0]], .nils]) = true := rfl
  have r3 : CertS.right K256 3 _ = true := aw_3
  have r5 : CertS.right K256 5 _ = false := aw_5
  have sg : (if (⟨att1 0, [(1, (att1 1).tag K256), (2, (att1 2).tag K256)]⟩ : CertS).sigs = [] then V.nils else V.sli .i64 ((⟨att1 0, [(1, (att1 1).tag K256), (2, (att1 2).tag K256)]⟩ : CertS).sigs.map (·.1))) = .sli .i64 [1, 2] := rfl
  have ln : (⟨att1 0, [(1, (att1 1).tag K256), (2, (att1 2).tag K256)]⟩ : CertS).sigs.length < 1000000 := by show 2 < 1000000; decide
  generalize (⟨att1 0, [(1, (att1 1).tag K256), (2, (att1 2).tag K256)]⟩ : CertS) = c at *
  unfold V.isAgg at q2
  simp (maxSteps := 1000000) (implicitDefEqProofs := false) only [hG, ZSg_eq, q1, q2, q3, go_sem, ↓reduceIte]
  refine ⟨c, ⟨rfl, ln⟩, ?_⟩
  rw [sg]
  simp (maxSteps := 1000000) (implicitDefEqProofs := false) only [hR, ZRi_eq, q1, q2, q3, go_sem, ↓reduceIte]
  refine ⟨c, ⟨rfl, cw, ln, by decide⟩, ?_⟩
  rw [r3]
  simp (maxSteps := 1000000) (implicitDefEqProofs := false) only [hR, ZRi_eq, q1, q2, q3, go_sem, ↓reduceIte]
  refine ⟨c, ⟨rfl, cw, ln, by decide⟩, ?_⟩
  rw [r5]
  simp (maxSteps := 1000000) (implicitDefEqProofs := false) only [go_sem, ↓reduceIte]
  exact h
theorem rises_firsts {n : Int} {l : List AttS} : ∀ (m s q : Nat) (low : Int), low < (s : Int) → (s : Int) + m ≤ n + 1 → risesB n low (((((List.range' s m).filterMap fun (k : Nat) => l.find? fun a => decide (a.who = (k : Int))).take q).map fun x => (x.who, x.ta)).map (·.1)) = true := by
  intro m
  induction m with
  | zero => intro s q low h1 h2; simp [risesB]
  | succ m ih =>
    intro s q low h1 h2
    rw [List.range'_succ, List.filterMap_cons]
    cases hf : l.find? fun a => decide (a.who = (s : Int)) with
    | none => exact ih (s + 1) q low (by omega) (by omega)
    | some x =>
      have hx : x.who = (s : Int) := by have := List.find?_some hf; simpa using this
      cases q with
      | zero => rfl
      | succ q =>
        show risesB n low (x.who :: _) = true
        refine Eq.trans (if_neg (by omega)) ?_
        exact ih (s + 1) q x.who (by omega) (by omega)
theorem with_of {a x : AttS} (h : x.alike a = true) : withS (bareA a) (x.who, x.ta) = x := by
  unfold AttS.alike at h
  obtain ⟨h1, h2, h3, h4, h5, h6⟩ := of_decide_eq_true h
  cases x; cases a
  simp only [withS, bareA] at *
  simp [h1, h2, h3, h4, h5, h6]
theorem mk_right {kt : List Int} {n : Int} {l : List AttS} (h : (mkCert kt n l).2 = 0) : CertS.right kt n (mkCert kt n l).1 = true := by
  cases l with
  | nil => cases h
  | cons a l =>
    have e : mkCert kt n (a :: l) = if quo n = 0 then (.zero, 1) else if ((a :: l).any fun x => !(x.right kt) || decide (n < x.who)) = true then (.zero, 7) else if ((a :: l).any fun x => !(x.alike a)) = true then (.zero, 1)
      else if ((firstsA n (a :: l)).length : Int) < quo n then (.zero, 3) else (⟨bareA a, ((firstsA n (a :: l)).take (quo n).toNat).map fun x => (x.who, x.ta)⟩, 0) := rfl
    rw [e] at h ⊢
    by_cases c1 : quo n = 0
    · rw [if_pos c1] at h; cases h
    rw [if_neg c1] at h ⊢
    by_cases c2 : ((a :: l).any fun x => !(x.right kt) || decide (n < x.who)) = true
    · rw [if_pos c2] at h; cases h
    rw [if_neg c2] at h ⊢
    by_cases c3 : ((a :: l).any fun x => !(x.alike a)) = true
    · rw [if_pos c3] at h; cases h
    rw [if_neg c3] at h ⊢
    by_cases c4 : ((firstsA n (a :: l)).length : Int) < quo n
    · rw [if_pos c4] at h; cases h
    rw [if_neg c4]
    have hq := quo_nn n
    obtain ⟨hn1, hn2, _, _⟩ := quo_le c1
    refine Eq.trans (if_neg ?_) ?_
    · rintro (e | e | e | e | e)
      · exact c1 e
      · apply e; show ((List.map _ _).length : Int) = _
        rw [List.length_map, List.length_take]; omega
      · have := rises_firsts (n := n) (l := a :: l) n.toNat 1 (quo n).toNat 0 (by decide) (by omega)
        exact absurd e (by unfold firstsA; rw [this]; decide)
      · exact e rfl
      · exact e rfl
    · rw [List.all_eq_true]
      intro p hp
      obtain ⟨x, hx, rfl⟩ := List.mem_map.1 hp
      have hx := firstsA_mem (List.mem_of_mem_take hx)
      have a1 := List.any_eq_false.1 (by simpa using c3 : ((a :: l).any fun x => !(x.alike a)) = false) x hx
      have a2 := List.any_eq_false.1 (by simpa using c2 : ((a :: l).any fun x => !(x.right kt) || decide (n < x.who)) = false) x hx
      rw [with_of (by simpa using a1)]
      simp only [Bool.or_eq_true, not_or] at a2
      simpa using a2.1
theorem mk_wf {kt : List Int} {n : Int} {l : List AttS} (hw : ∀ a ∈ l, a.wf) : (mkCert kt n l).1.wf ∧ (mkCert kt n l).1.sigs.length < 1000000 := by
  have z : CertS.wf CertS.zero ∧ CertS.zero.sigs.length < 1000000 := ⟨⟨AttS.zero_wf, fun p hp => by cases hp⟩, by decide⟩
  unfold mkCert
  split
  · exact z
  · rename_i a l
    split; · exact z
    split; · exact z
    split; · exact z
    split; · exact z
    have ha := hw a (List.mem_cons_self ..)
    refine ⟨⟨⟨(by decide : I64 0), ha.ki, ha.vi, ha.ph, ha.pv, ha.ha, ha.pa, h32_zero⟩, fun p hp => ?_⟩, ?_⟩
    · obtain ⟨x, hx, rfl⟩ := List.mem_map.1 hp
      have hx := hw x (firstsA_mem (List.mem_of_mem_take hx))
      exact ⟨hx.who, hx.ta⟩
    · show (List.map _ _).length < _
      have := quo_nn n
      rw [List.length_map, List.length_take]; omega
theorem cert_v {c : CertS} : c.v.size = 102 ∧ c.v.isAgg = true ∧ c.v.same (.agg [.agg [.int .i64 0, .int .i64 0, .int .i64 0, .int .i64 0, .arr .u8 32 [0, 0, 0, 0, 0, 0, 0, 0, 0, 0, 0, 0, 0, 0, 0, 0, 0, 0, 0, 0, 0, 0, 0, 0, 0, 0, 0, 0, 0, 0, 0, 0], .int .i64 0, .arr .u8 32 [0, 0, 0, 0, 0, 0, 0, 0, 0, 0, 0, 0, 0, 0, 0, 0, 0, 0, 0, 0, 0, 0, 0, 0, 0, 0, 0, 0, 0, 0, 0, 0], .arr .u8 32 [0, 0, 0, 0, 0, 0, 0, 0, 0, 0, 0, 0, 0, 0, 0, 0, 0, 0, 0, 0, 0, 0, 0, 0, 0, 0, 0, 0, 0, 0, 0, 0]], .nils]) = true := ⟨rfl, rfl, rfl⟩
theorem walk7 (hA : Abs.look l 30 = some ZAw) (hM : Abs.look l 31 = some (ZMk K256)) (hM2 : Abs.look l 32 = some (ZMk K256)) (hS : Abs.look l 33 = some ZSm) (hR : Abs.look l 34 = some (ZRi K256)) (hG : Abs.look l 35 = some ZSg)
    {n : Int} {as : List AttS} (hI : I64 n) (hw : ∀ a ∈ as, a.wf) (hlen : as.length < 9223372036854775808) (h : Q (.v (.bool true)) G) : Wf E (specOf l) pf7 [.int .i64 n, .sle 101 (as.map AttS.v)] G Q := by
  by_cases c1 : (as.length : Int) > 25
  · simp (maxSteps := 1000000) (implicitDefEqProofs := false) only [pf7, c1, List.length_map, hA, ZAw_eq, go_sem, ↓reduceIte]
    exact h
  have hmr := mk_right (kt := K256) (n := n) (l := as)
  have hmw := mk_wf (kt := K256) (n := n) hw
  simp (maxSteps := 1000000) (implicitDefEqProofs := false) only [pf7, c1, List.length_map, hM, ZMk_eq, go_sem, ↓reduceIte]
  refine ⟨as, ⟨rfl, hI, hw, by omega⟩, ?_⟩
  cases hce : mkCert K256 n as with
  | mk c e =>
  rw [hce] at hmr hmw
  obtain ⟨q1, q2, q3⟩ := cert_v (c := c)
  unfold V.isAgg at q2
  simp (maxSteps := 1000000) (implicitDefEqProofs := false) only [q1, q2, q3, hM2, ZMk_eq, hce, go_sem, ↓reduceIte]
  refine ⟨as, ⟨rfl, hI, hw, by omega⟩, ?_⟩
  rw [hce]
  simp (maxSteps := 1000000) (implicitDefEqProofs := false) only [q1, q2, q3, hS, ZSm_eq, go_sem, ↓reduceIte]
  refine ⟨c, ⟨rfl, rfl, hmw.2⟩, ?_⟩
  by_cases he : e = 0
  case neg =>
    simp (maxSteps := 1000000) (implicitDefEqProofs := false) only [he, hA, ZAw_eq, go_sem, ↓reduceIte]
    exact h
  subst he
  have hr := hmr rfl
  simp (maxSteps := 1000000) (implicitDefEqProofs := false) only [q1, q2, q3, hR, ZRi_eq, go_sem, ↓reduceIte]
  refine ⟨c, ⟨rfl, hmw.1, hmw.2, hI⟩, ?_⟩
  have hr : CertS.right K256 n c = true := hr
  rw [hr]
  simp (maxSteps := 1000000) (implicitDefEqProofs := false) only [q1, q2, q3, hG, ZSg_eq, go_sem, ↓reduceIte]
  refine ⟨c, ⟨rfl, hmw.2⟩, ?_⟩
  obtain ⟨ca, sg⟩ := c
  have cs : ca.v.size + 0 = 101 := rfl
  cases sg with
  | nil =>
    simp (maxSteps := 1000000) (implicitDefEqProofs := false) only [CertS.v, cs, List.length_map, List.length_cons, hA, ZAw_eq, go_sem, ↓reduceIte]
    exact h
  | cons p sg =>
    simp (maxSteps := 1000000) (implicitDefEqProofs := false) only [CertS.v, cs, List.length_map, List.length_cons, hA, ZAw_eq, go_sem, ↓reduceIte]
    exact h
end Go.Proofs.YtjbglbhcbenhpaaDoor.Sha
