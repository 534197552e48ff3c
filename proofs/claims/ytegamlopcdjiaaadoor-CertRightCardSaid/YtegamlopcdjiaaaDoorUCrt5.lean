/- Rows, certificates, accumulations. -/
import Derived.Test.YtegamlopcdjiaaaDoorUCrt4
namespace Go.Proofs.YtegamlopcdjiaaaDoor.Sha
open Go Go.Abs Go.Abs.Sha Go.Abs.Srt
set_option linter.unusedSimpArgs false
set_option linter.unusedVariables false
set_option maxRecDepth 100000
def pf14 : PF :=
  PF.mk 0 6 42 ((PC.reg [nn (.v 0) (.mv true (.c (.v (.bool false))))]).seq ((PC.reg [nn (.t 6) (.build (.agg [.int .i64 0, .int .i64 0, .int .i64 0,
    .int .i64 0, .arr .u8 32 [0, 0, 0, 0, 0, 0, 0, 0, 0, 0, 0, 0, 0, 0, 0, 0, 0, 0, 0, 0, 0, 0, 0, 0, 0, 0, 0, 0, 0, 0, 0, 0], .int .i64 0, .arr .u8 32
    [0, 0, 0, 0, 0, 0, 0, 0, 0, 0, 0, 0, 0, 0, 0, 0, 0, 0, 0, 0, 0, 0, 0, 0, 0, 0, 0, 0, 0, 0, 0, 0], .arr .u8 32 [0, 0, 0, 0, 0, 0, 0, 0, 0, 0, 0, 0, 0,
    0, 0, 0, 0, 0, 0, 0, 0, 0, 0, 0, 0, 0, 0, 0, 0, 0, 0, 0]]) [(0, .c (.v (.int .i64 2))), (1, .c (.v (.int .i64 2))), (2, .c (.v (.int .i64 3))), (3,
    .c (.v (.int .i64 2)))]), nn (.v 1) (.alloc (.agg [.int .i64 0, .int .i64 0, .int .i64 0, .int .i64 0, .arr .u8 32 [0, 0, 0, 0, 0, 0, 0, 0, 0, 0, 0,
    0, 0, 0, 0, 0, 0, 0, 0, 0, 0, 0, 0, 0, 0, 0, 0, 0, 0, 0, 0, 0], .int .i64 0, .arr .u8 32 [0, 0, 0, 0, 0, 0, 0, 0, 0, 0, 0, 0, 0, 0, 0, 0, 0, 0, 0, 0,
    0, 0, 0, 0, 0, 0, 0, 0, 0, 0, 0, 0], .arr .u8 32 [0, 0, 0, 0, 0, 0, 0, 0, 0, 0, 0, 0, 0, 0, 0, 0, 0, 0, 0, 0, 0, 0, 0, 0, 0, 0, 0, 0, 0, 0, 0, 0]])),
    nn .no (.store 101 (.v 1) (.t 6))]).seq ((PC.reg [nn (.t 7) (.load 101 true (.v 1)), nn (.v 2) (.alloc (.agg [.int .i64 0, .int .i64 0, .int .i64 0,
    .int .i64 0, .arr .u8 32 [0, 0, 0, 0, 0, 0, 0, 0, 0, 0, 0, 0, 0, 0, 0, 0, 0, 0, 0, 0, 0, 0, 0, 0, 0, 0, 0, 0, 0, 0, 0, 0], .int .i64 0, .arr .u8 32
    [0, 0, 0, 0, 0, 0, 0, 0, 0, 0, 0, 0, 0, 0, 0, 0, 0, 0, 0, 0, 0, 0, 0, 0, 0, 0, 0, 0, 0, 0, 0, 0], .arr .u8 32 [0, 0, 0, 0, 0, 0, 0, 0, 0, 0, 0, 0, 0,
    0, 0, 0, 0, 0, 0, 0, 0, 0, 0, 0, 0, 0, 0, 0, 0, 0, 0, 0]])), nn .no (.store 101 (.v 2) (.t 7))]).seq ((PC.reg [nn (.t 8) (.fadr 0 0 (.v 2)), nn .no
    (.store 1 (.t 8) (.c (.v (.int .i64 1))))]).seq ((PC.regD 1 [nn (.t 10) (.load 101 true (.v 1)), nn (.t 11) (.call 43 [.t 10]), nn (.t 12) (.load 101
    true (.v 2)), nn (.t 13) (.call 43 [.t 12]), nn (.t 14) (.buildS none 101 (.agg [.int .i64 0, .int .i64 0, .int .i64 0, .int .i64 0, .arr .u8 32 [0,
    0, 0, 0, 0, 0, 0, 0, 0, 0, 0, 0, 0, 0, 0, 0, 0, 0, 0, 0, 0, 0, 0, 0, 0, 0, 0, 0, 0, 0, 0, 0], .int .i64 0, .arr .u8 32 [0, 0, 0, 0, 0, 0, 0, 0, 0, 0,
    0, 0, 0, 0, 0, 0, 0, 0, 0, 0, 0, 0, 0, 0, 0, 0, 0, 0, 0, 0, 0, 0], .arr .u8 32 [0, 0, 0, 0, 0, 0, 0, 0, 0, 0, 0, 0, 0, 0, 0, 0, 0, 0, 0, 0, 0, 0, 0,
    0, 0, 0, 0, 0, 0, 0, 0, 0]]) 2 [(0, .t 11), (1, .t 13)]), nn (.t 15) (.call 51 [.c (.v (.int .i64 3)), .t 14]), nn (.t 9) (.mv false (.t 15)), nn (.t
    16) (.ext (.t 9) 0), nn (.t 17) (.ext (.t 9) 1), nn (.v 3) (.allocAt 1 (.agg [.agg [.int .i64 0, .int .i64 0, .int .i64 0, .int .i64 0, .arr .u8 32
    [0, 0, 0, 0, 0, 0, 0, 0, 0, 0, 0, 0, 0, 0, 0, 0, 0, 0, 0, 0, 0, 0, 0, 0, 0, 0, 0, 0, 0, 0, 0, 0], .int .i64 0, .arr .u8 32 [0, 0, 0, 0, 0, 0, 0, 0,
    0, 0, 0, 0, 0, 0, 0, 0, 0, 0, 0, 0, 0, 0, 0, 0, 0, 0, 0, 0, 0, 0, 0, 0], .arr .u8 32 [0, 0, 0, 0, 0, 0, 0, 0, 0, 0, 0, 0, 0, 0, 0, 0, 0, 0, 0, 0, 0,
    0, 0, 0, 0, 0, 0, 0, 0, 0, 0, 0]], .nils])), nn .no (.store 102 (.v 3) (.t 16)), ma 4 17] [(0, 9), (2, 9)]).seq ((PC.reg [nn (.t 18) (.load 102 true
    (.v 3)), nn (.t 19) (.call 52 [.t 18]), ma 5 19]).seq ((PC.reg [mm 20 4, nn (.t 21) (.bin .eql (.t 20) (.c (.v (.int .i64 0)))), nn (.t 22) (.mv
    false (.t 21)), ⟨.t 23, .load 102 true (.v 3), some (.t 22, true)⟩, ⟨.t 24, .call 15 [.c (.v (.int .i64 3)), .t 23], some (.t 22, true)⟩, nn (.t 25)
    (.pick (.t 22) (.t 24) (.c (.v (.bool false)))), nn (.t 26) (.mv false (.t 25)), ⟨.t 27, .load 102 true (.v 3), some (.t 26, true)⟩, ⟨.t 28, .call 15
    [.c (.v (.int .i64 5)), .t 27], some (.t 26, true)⟩, ⟨.t 29, .un .not (.t 28), some (.t 26, true)⟩, nn (.t 30) (.pick (.t 26) (.t 29) (.c (.v (.bool
    false)))), nn (.t 31) (.mv false (.t 30)), gm 32 5 31 true, ⟨.t 33, .len (.t 32), some (.t 31, true)⟩, ⟨.t 34, .bin .eql (.t 33) (.c (.v (.int .i64
    2))), some (.t 31, true)⟩, nn (.t 35) (.pick (.t 31) (.t 34) (.c (.v (.bool false)))), nn (.t 36) (.mv false (.t 35)), gm 37 5 36 true, ⟨.t 38,
    .iadrS 1 (.t 37) (.c (.v (.int .i64 0))), some (.t 36, true)⟩, ⟨.t 39, .load 1 false (.t 38), some (.t 36, true)⟩, ⟨.t 40, .bin .eql (.t 39) (.c (.v
    (.int .i64 1))), some (.t 36, true)⟩, nn (.t 41) (.pick (.t 36) (.t 40) (.c (.v (.bool false)))), ma 0 41]).seq PC.ret))))))) [(.v 0, none)]
attribute [local irreducible] W Wops WopsD WL Wop WopD
variable {E : Env} {C : Abs.Spec} {l : List (Nat × Spec1)} {G : List (Nat × V)} {Q : R → List (Nat × V) → Prop}
set_option maxHeartbeats 1000000
theorem look_mem {α : Type} {f : Nat} {s : α} : ∀ {l : List (Nat × α)}, Abs.look l f = some s → (f, s) ∈ l
  | [], h => by cases h
  | (k, x) :: l, h => by
    rw [look_cons] at h
    by_cases e : f = k
    · rw [if_pos e] at h; cases h; rw [e]; exact List.mem_cons_self ..
    · rw [if_neg e] at h; exact List.mem_cons_of_mem _ (look_mem h)
theorem sub_of {T l : List (Nat × Spec1)} (h : ∀ p ∈ T, Abs.look l p.1 = some p.2) : Sub T l := fun f s hf => h (f, s) (look_mem hf)
def att1 (k : Int) : AttS := ⟨k, 2, 3, 2, zero32, 0, zero32, zero32⟩
theorem right_signed {kt : List Int} {a : AttS} : (a.signed kt).right kt = a.may := by
  unfold AttS.right AttS.signed
  have e : ({ a with ta := a.tag kt } : AttS).may = a.may := rfl
  have t : ({ a with ta := a.tag kt } : AttS).tag kt = a.tag kt := rfl
  rw [e, t, decide_eq_true rfl, Bool.and_true]
theorem may1 : (att1 1).may = true := by decide
theorem may2 : (att1 2).may = true := by decide
theorem aw_cert {kt : List Int} : mkCert kt 3 [(att1 2).signed kt, (att1 1).signed kt] = (⟨att1 0, [(1, (att1 1).tag kt), (2, (att1 2).tag kt)]⟩, 0) := by
  have q : quo 3 = 2 := by decide
  have q0 : ¬ (2 : Int) = 0 := by decide
  have c1 : ([(att1 2).signed kt, (att1 1).signed kt].any fun x => !(x.right kt) || decide (3 < x.who)) = false := by
    simp only [List.any_cons, List.any_nil, right_signed, may1, may2]; rfl
  have c2 : ([(att1 2).signed kt, (att1 1).signed kt].any fun x => !(x.alike ((att1 2).signed kt))) = false := rfl
  have c3 : ¬ ((firstsA 3 [(att1 2).signed kt, (att1 1).signed kt]).length : Int) < 2 := by
    show ¬ ((2 : Nat) : Int) < 2
    decide
  unfold mkCert
  simp only [q, q0, c1, c2, c3, Bool.false_eq_true, ↓reduceIte]
  rfl
theorem aw_3 {kt : List Int} : CertS.right kt 3 ⟨att1 0, [(1, (att1 1).tag kt), (2, (att1 2).tag kt)]⟩ = true := by
  have e1 : withS (att1 0) (1, (att1 1).tag kt) = (att1 1).signed kt := rfl
  have e2 : withS (att1 0) (2, (att1 2).tag kt) = (att1 2).signed kt := rfl
  refine Eq.trans (if_neg ?_) ?_
  · rintro (h | h | h | h | h)
    · exact absurd h (by decide)
    · exact h rfl
    · exact absurd h (by show ¬ risesB 3 0 [1, 2] = false; decide)
    · exact h rfl
    · exact h rfl
  · simp only [List.all_cons, List.all_nil, e1, e2, right_signed, may1, may2]; rfl
theorem aw_5 {kt : List Int} : CertS.right kt 5 ⟨att1 0, [(1, (att1 1).tag kt), (2, (att1 2).tag kt)]⟩ = false := by
  exact if_pos (.inr (.inl (by show ((2 : Nat) : Int) ≠ quo 5; decide)))
def ZAw : Spec1
  | [], G, Q => Q (.v (.bool true)) G
  | _, _, _ => False
theorem ZAw_eq : ZAw [] G Q = Q (.v (.bool true)) G := rfl
theorem walk14 (hS : Abs.look l 43 = some (SSi K256)) (hM : Abs.look l 51 = some (ZMk K256)) (hR : Abs.look l 15 = some (ZRi K256)) (hG : Abs.look l 52 = some ZSg) (h : Q (.v (.bool true)) G) : Wf E (specOf l) pf14 [] G Q := by
  simp (maxSteps := 1000000) (implicitDefEqProofs := false) only [pf14, hS, SSi_eq, go_sem, ↓reduceIte]
  have s2 : (AttS.sign K256 ⟨2, 2, 3, 2, [0, 0, 0, 0, 0, 0, 0, 0, 0, 0, 0, 0, 0, 0, 0, 0, 0, 0, 0, 0, 0, 0, 0, 0, 0, 0, 0, 0, 0, 0, 0, 0], 0, [0, 0, 0, 0, 0, 0, 0, 0, 0, 0, 0, 0, 0, 0, 0, 0, 0, 0, 0, 0, 0, 0, 0, 0, 0, 0, 0, 0, 0, 0, 0, 0], [0, 0, 0, 0, 0, 0, 0, 0, 0, 0, 0, 0, 0, 0, 0, 0, 0, 0, 0, 0, 0, 0, 0, 0, 0, 0, 0, 0, 0, 0, 0, 0]⟩).v = .agg [.int .i64 2, .int .i64 2, .int .i64 3, .int .i64 2, .arr .u8 32 [0, 0, 0, 0, 0, 0, 0, 0, 0, 0, 0, 0, 0, 0, 0, 0, 0, 0, 0, 0, 0, 0, 0, 0, 0, 0, 0, 0, 0, 0, 0, 0], .int .i64 0, .arr .u8 32 [0, 0, 0, 0, 0, 0, 0, 0, 0, 0, 0, 0, 0, 0, 0, 0, 0, 0, 0, 0, 0, 0, 0, 0, 0, 0, 0, 0, 0, 0, 0, 0], .arr .u8 32 ((att1 2).tag K256)] := by
    show (AttS.sign K256 (att1 2)).v = _
    unfold AttS.sign; rw [if_pos may2]; rfl
  have s1 : (AttS.sign K256 ⟨1, 2, 3, 2, [0, 0, 0, 0, 0, 0, 0, 0, 0, 0, 0, 0, 0, 0, 0, 0, 0, 0, 0, 0, 0, 0, 0, 0, 0, 0, 0, 0, 0, 0, 0, 0], 0, [0, 0, 0, 0, 0, 0, 0, 0, 0, 0, 0, 0, 0, 0, 0, 0, 0, 0, 0, 0, 0, 0, 0, 0, 0, 0, 0, 0, 0, 0, 0, 0], [0, 0, 0, 0, 0, 0, 0, 0, 0, 0, 0, 0, 0, 0, 0, 0, 0, 0, 0, 0, 0, 0, 0, 0, 0, 0, 0, 0, 0, 0, 0, 0]⟩).v = .agg [.int .i64 1, .int .i64 2, .int .i64 3, .int .i64 2, .arr .u8 32 [0, 0, 0, 0, 0, 0, 0, 0, 0, 0, 0, 0, 0, 0, 0, 0, 0, 0, 0, 0, 0, 0, 0, 0, 0, 0, 0, 0, 0, 0, 0, 0], .int .i64 0, .arr .u8 32 [0, 0, 0, 0, 0, 0, 0, 0, 0, 0, 0, 0, 0, 0, 0, 0, 0, 0, 0, 0, 0, 0, 0, 0, 0, 0, 0, 0, 0, 0, 0, 0], .arr .u8 32 ((att1 1).tag K256)] := by
    show (AttS.sign K256 (att1 1)).v = _
    unfold AttS.sign; rw [if_pos may1]; rfl
  have wz : ∀ k, I64 k → (att1 k).wf := fun k hk => ⟨hk, (by decide : I64 2), (by decide : I64 3), (by decide : I64 2), (by decide : I64 0), h32_zero, h32_zero, h32_zero⟩
  refine ⟨wz 2 (by decide), wz 1 (by decide), ?_⟩
  simp (maxSteps := 1000000) (implicitDefEqProofs := false) only [s1, s2, hM, ZMk_eq, go_sem, ↓reduceIte]
  refine ⟨[(att1 2).signed K256, (att1 1).signed K256], ⟨rfl, by decide, fun a ha => ?_, by decide⟩, ?_⟩
  · rcases List.mem_cons.1 ha with rfl | ha
    · exact AttS.signed_wf (wz 2 (by decide))
    · rw [List.mem_singleton] at ha; subst ha; exact AttS.signed_wf (wz 1 (by decide))
  rw [aw_cert]
  have cw : CertS.wf ⟨att1 0, [(1, (att1 1).tag K256), (2, (att1 2).tag K256)]⟩ := by
    refine ⟨wz 0 (by decide), fun p hp => ?_⟩
    rcases List.mem_cons.1 hp with rfl | hp
    · exact ⟨(by decide : I64 1), h32_tag K256 (att1 1)⟩
    · rw [List.mem_singleton] at hp; subst hp; exact ⟨(by decide : I64 2), h32_tag K256 (att1 2)⟩
  have q1 : (⟨att1 0, [(1, (att1 1).tag K256), (2, (att1 2).tag K256)]⟩ : CertS).v.size = 102 := rfl
  have q2 : (⟨att1 0, [(1, (att1 1).tag K256), (2, (att1 2).tag K256)]⟩ : CertS).v.isAgg = true := rfl
  have q3 : (⟨att1 0, [(1, (att1 1).tag K256), (2, (att1 2).tag K256)]⟩ : CertS).v.same (.agg [.agg [.int .i64 0, .int .i64 0, .int .i64 0, .int .i64 0, .arr .u8 32 [0, 0, 0, 0, 0, 0, 0, 0, 0, 0, 0, 0, 0, 0, 0, 0, 0, 0, 0, 0, 0, 0, 0, 0, 0, 0, 0, 0, 0, 0, 0, 0], .int .i64 0, .arr .u8 32 [0, 0, 0, 0, 0, 0, 0, 0, 0, 0, 0, 0, 0, 0, 0, 0, 0, 0, 0, 0, 0, 0, 0, 0, 0, 0, 0, 0, 0, 0, 0, 0], .arr .u8 32 [0, 0, 0, 0, 0, 0, 0, 0, 0, 0, 0, 0, 0, 0, 0, 0, 0, 0, 0, 0, 0, 0, 0, 0, 0, 0, 0, 0, 0, 0, 0, 0]], .nils]) = true := rfl
  have r3 : CertS.right K256 3 _ = true := aw_3
  have r5 : CertS.right K256 5 _ = false := aw_5
  have sg : (if (⟨att1 0, [(1, (att1 1).tag K256), (2, (att1 2).tag K256)]⟩ : CertS).sigs = [] then V.nils else V.sli .i64 ((⟨att1 0, [(1, (att1 1).tag K256), (2, (att1 2).tag K256)]⟩ : CertS).sigs.map (·.1))) = .sli .i64 [1, 2] := rfl
  have ln : (⟨att1 0, [(1, (att1 1).tag K256), (2, (att1 2).tag K256)]⟩ : CertS).sigs.length < 1000000 := by show 2 < 1000000; decide
  generalize (⟨att1 0, [(1, (att1 1).tag K256), (2, (att1 2).tag K256)]⟩ : CertS) = c at *
  unfold V.isAgg at q2
  simp (maxSteps := 1000000) (implicitDefEqProofs := false) only [hG, ZSg_eq, q1, q2, q3, go_sem, ↓reduceIte]
  refine ⟨c, ⟨rfl, ln⟩, ?_⟩
  rw [sg]
  simp (maxSteps := 1000000) (implicitDefEqProofs := false) only [hR, ZRi_eq, q1, q2, q3, go_sem, ↓reduceIte]
  refine ⟨c, ⟨rfl, cw, ln, by decide⟩, ?_⟩
  rw [r3]
  simp (maxSteps := 1000000) (implicitDefEqProofs := false) only [hR, ZRi_eq, q1, q2, q3, go_sem, ↓reduceIte]
  refine ⟨c, ⟨rfl, cw, ln, by decide⟩, ?_⟩
  rw [r5]
  simp (maxSteps := 1000000) (implicitDefEqProofs := false) only [go_sem, ↓reduceIte]
  exact h
end Go.Proofs.YtegamlopcdjiaaaDoor.Sha
