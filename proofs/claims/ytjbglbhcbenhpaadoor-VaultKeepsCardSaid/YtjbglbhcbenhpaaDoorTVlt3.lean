/- The vault: its laws. -/
import Derived.Test.YtjbglbhcbenhpaaDoorTVlt2
namespace Go.Proofs.YtjbglbhcbenhpaaDoor.Sha
open Go Go.Abs Go.Abs.Sha
set_option linter.unusedSimpArgs false
set_option linter.unusedVariables false
set_option maxRecDepth 100000
def pf10 : PF :=
  PF.mk 0 11 70 ((PC.reg [nn (.v 0) (.mv true (.c (.v (.bool false))))]).seq ((PC.reg [nn (.t 12) (.call 11 [.c (.v (.int .i64 2)), .c (.v (.int .i64
    0))]), nn (.t 11) (.mv false (.t 12)), nn (.t 13) (.ext (.t 11) 0), nn (.t 14) (.ext (.t 11) 1), ma 1 13, ma 2 14]).seq (((PC.reg [mm 15 2, nn (.t
    16) (.bin .neq (.t 15) (.c (.v (.int .i64 0)))), nn (.t 17) (.mv false (.t 16)), gm 18 1 17 false, ⟨.t 19, .binP .eql (.t 18) (.c (.v .nilp)), some
    (.t 17, false)⟩, nn (.t 20) (.pick (.t 17) (.c (.v (.bool true))) (.t 19))]).seq (PC.cond (.t 20) ((PC.reg [nn (.v 0) (.mv true (.c (.v (.bool
    false))))]).seq PC.ret) PC.skip)).seq ((PC.reg [mm 21 1, nn (.t 22) (.build (.agg [.int .i64 0, .int .i64 0, .int .i64 0, .arr .u8 32 [0, 0, 0, 0, 0,
    0, 0, 0, 0, 0, 0, 0, 0, 0, 0, 0, 0, 0, 0, 0, 0, 0, 0, 0, 0, 0, 0, 0, 0, 0, 0, 0]]) [(0, .c (.v (.int .i64 1))), (1, .c (.v (.int .i64 1)))]), nn (.t
    23) (.call 15 [.t 21, .t 22]), ma 3 23]).seq ((PC.reg [mm 24 1, nn (.t 25) (.call 23 [.t 24, .c (.v (.int .i64 1))]), ma 4 25]).seq ((PC.reg [mm 26
    1, nn (.t 27) (.build (.agg [.int .i64 0, .int .i64 0, .int .i64 0, .arr .u8 32 [0, 0, 0, 0, 0, 0, 0, 0, 0, 0, 0, 0, 0, 0, 0, 0, 0, 0, 0, 0, 0, 0, 0,
    0, 0, 0, 0, 0, 0, 0, 0, 0]]) [(0, .c (.v (.int .i64 2))), (1, .c (.v (.int .i64 1)))]), nn (.t 28) (.call 15 [.t 26, .t 27]), ma 5 28]).seq ((PC.reg
    [mm 30 1, nn (.t 31) (.call 19 [.t 30]), nn (.t 29) (.mv false (.t 31)), nn (.t 32) (.ext (.t 29) 0), nn (.t 33) (.ext (.t 29) 1), nn (.v 6) (.alloc
    (.agg [.int .i64 0, .int .i64 0, .int .i64 0, .arr .u8 32 [0, 0, 0, 0, 0, 0, 0, 0, 0, 0, 0, 0, 0, 0, 0, 0, 0, 0, 0, 0, 0, 0, 0, 0, 0, 0, 0, 0, 0, 0,
    0, 0]])), nn .no (.store 35 (.v 6) (.t 32)), ma 7 33]).seq ((PC.reg [mm 34 1, mm 35 4, nn (.t 36) (.call 21 [.t 34, .c (.v (.int .i64 0)), .t 35]),
    ma 8 36]).seq ((PC.reg [mm 38 1, nn (.t 39) (.call 19 [.t 38]), nn (.t 37) (.mv false (.t 39)), nn (.t 40) (.ext (.t 37) 0), nn (.t 41) (.ext (.t 37)
    1), nn (.v 9) (.alloc (.agg [.int .i64 0, .int .i64 0, .int .i64 0, .arr .u8 32 [0, 0, 0, 0, 0, 0, 0, 0, 0, 0, 0, 0, 0, 0, 0, 0, 0, 0, 0, 0, 0, 0, 0,
    0, 0, 0, 0, 0, 0, 0, 0, 0]])), nn .no (.store 35 (.v 9) (.t 40)), ma 10 41]).seq ((PC.reg [mm 42 3, nn (.t 43) (.bin .eql (.t 42) (.c (.v (.int .i64
    0)))), nn (.t 44) (.mv false (.t 43)), gm 45 5 44 true, ⟨.t 46, .bin .eql (.t 45) (.c (.v (.int .i64 0))), some (.t 44, true)⟩, nn (.t 47) (.pick (.t
    44) (.t 46) (.c (.v (.bool false)))), nn (.t 48) (.mv false (.t 47)), gm 49 7 48 true, ⟨.t 50, .bin .eql (.t 49) (.c (.v (.int .i64 0))), some (.t
    48, true)⟩, nn (.t 51) (.pick (.t 48) (.t 50) (.c (.v (.bool false)))), nn (.t 52) (.mv false (.t 51)), ⟨.t 53, .fadr 0 0 (.v 6), some (.t 52,
    true)⟩, ⟨.t 54, .load 1 false (.t 53), some (.t 52, true)⟩, ⟨.t 55, .bin .eql (.t 54) (.c (.v (.int .i64 2))), some (.t 52, true)⟩, nn (.t 56) (.pick
    (.t 52) (.t 55) (.c (.v (.bool false)))), nn (.t 57) (.mv false (.t 56)), gm 58 8 57 true, ⟨.t 59, .bin .eql (.t 58) (.c (.v (.int .i64 0))), some
    (.t 57, true)⟩, nn (.t 60) (.pick (.t 57) (.t 59) (.c (.v (.bool false)))), nn (.t 61) (.mv false (.t 60)), gm 62 10 61 true, ⟨.t 63, .bin .eql (.t
    62) (.c (.v (.int .i64 8))), some (.t 61, true)⟩, nn (.t 64) (.pick (.t 61) (.t 63) (.c (.v (.bool false)))), nn (.t 65) (.mv false (.t 64)), gm 66 1
    65 true, ⟨.t 67, .call 24 [.t 66], some (.t 65, true)⟩, ⟨.t 68, .bin .eql (.t 67) (.c (.v (.int .i64 2))), some (.t 65, true)⟩, nn (.t 69) (.pick (.t
    65) (.t 68) (.c (.v (.bool false)))), ma 0 69]).seq PC.ret)))))))))) [(.v 0, none)]
def lp5_0 : PC :=
  ((PC.reg [mm 124 18, nn (.t 125) (.bin .lss (.t 124) (.c (.v (.int .i64 2))))]).seq (PC.cond (.t 125) PC.skip (PC.exit 0))).seq ((PC.block 1 ((PC.reg
    [nn (.v 19) (.mv true (.c (.v .nilp)))]).seq (((PC.reg [mm 128 18, nn (.t 129) (.bin .eql (.t 128) (.c (.v (.int .i64 1))))]).seq (PC.cond (.t 129)
    (PC.reg [nn (.t 130) (.build (.agg [.int .i64 0, .agg [.nils, .nils], .nilp, .int .i64 0, .bool false, .nils, .int .i64 0]) []), nn (.t 131) (.newB
    (.t 130)), ma 19 131]) PC.skip)).seq ((PC.reg [mm 132 19, nn (.t 133) (.call 17 [.t 132, .c (.v (.int .i64 1))])]).seq ((PC.reg [mm 134 19, nn (.t
    135) (.call 18 [.t 134, .c (.v (.int .i64 1))])]).seq ((PC.reg [mm 137 19, nn (.t 138) (.call 19 [.t 137]), nn (.t 136) (.mv false (.t 138)), nn (.t
    139) (.ext (.t 136) 0), nn (.t 140) (.ext (.t 136) 1), nn (.v 20) (.alloc (.agg [.int .i64 0, .int .i64 0, .int .i64 0, .arr .u8 32 [0, 0, 0, 0, 0,
    0, 0, 0, 0, 0, 0, 0, 0, 0, 0, 0, 0, 0, 0, 0, 0, 0, 0, 0, 0, 0, 0, 0, 0, 0, 0, 0]])), nn .no (.store 35 (.v 20) (.t 139)), ma 21 140]).seq ((PC.reg
    [mm 141 19, nn (.t 142) (.build (.agg [.int .i64 0, .int .i64 0, .int .i64 0, .arr .u8 32 [0, 0, 0, 0, 0, 0, 0, 0, 0, 0, 0, 0, 0, 0, 0, 0, 0, 0, 0,
    0, 0, 0, 0, 0, 0, 0, 0, 0, 0, 0, 0, 0]]) []), nn (.t 143) (.call 15 [.t 141, .t 142]), nn (.t 144) (.bin .neq (.t 143) (.c (.v (.int .i64 5)))), nn
    (.t 145) (.mv false (.t 144)), gm 146 21 145 false, ⟨.t 147, .bin .neq (.t 146) (.c (.v (.int .i64 5))), some (.t 145, false)⟩, nn (.t 148) (.pick
    (.t 145) (.c (.v (.bool true))) (.t 147)), nn (.t 149) (.mv false (.t 148)), gm 150 19 149 false, ⟨.t 151, .call 21 [.t 150, .c (.v (.int .i64 0)),
    .c (.own .nils)], some (.t 149, false)⟩, ⟨.t 152, .bin .neq (.t 151) (.c (.v (.int .i64 5))), some (.t 149, false)⟩, nn (.t 153) (.pick (.t 149) (.c
    (.v (.bool true))) (.t 152)), nn (.t 154) (.mv false (.t 153)), gm 155 19 154 false, ⟨.t 156, .call 23 [.t 155, .c (.v (.int .i64 0))], some (.t 154,
    false)⟩, ⟨.t 157, .len (.t 156), some (.t 154, false)⟩, ⟨.t 158, .bin .neq (.t 157) (.c (.v (.int .i64 0))), some (.t 154, false)⟩, nn (.t 159)
    (.pick (.t 154) (.c (.v (.bool true))) (.t 158)), nn (.t 160) (.mv false (.t 159)), gm 161 19 160 false, ⟨.t 162, .call 20 [.t 161], some (.t 160,
    false)⟩, ⟨.t 163, .un .not (.t 162), some (.t 160, false)⟩, nn (.t 164) (.pick (.t 160) (.c (.v (.bool true))) (.t 163)), nn (.t 165) (.mv false (.t
    164)), gm 166 19 165 false, ⟨.t 167, .call 24 [.t 166], some (.t 165, false)⟩, ⟨.t 168, .bin .neq (.t 167) (.c (.v (.int .i64 0))), some (.t 165,
    false)⟩, nn (.t 169) (.pick (.t 165) (.c (.v (.bool true))) (.t 168))]).seq (PC.cond (.t 169) ((PC.reg [nn (.v 6) (.mv true (.c (.v (.bool
    false))))]).seq PC.ret) PC.skip)))))))).seq (PC.reg [mm 126 18, nn (.t 127) (.bin .add (.t 126) (.c (.v (.int .i64 1)))), ma 18 127]))
def pf5 : PF :=
  PF.mk 3 22 171 ((PC.reg [nn (.v 5) (.box (.v 2)), nn (.v 6) (.mv true (.c (.v (.bool false))))]).seq (((PC.reg [nn (.t 22) (.iadrG 2 1 (.v 5) (.c (.v
    (.int .i64 0)))), nn (.t 23) (.load 1 false (.t 22)), nn (.t 24) (.len (.t 23)), nn (.t 25) (.bin .gtr (.t 24) (.c (.v (.int .i64 1000)))), nn (.t
    26) (.mv false (.t 25)), ⟨.t 27, .iadrG 2 1 (.v 5) (.c (.v (.int .i64 1))), some (.t 26, false)⟩, ⟨.t 28, .load 1 false (.t 27), some (.t 26,
    false)⟩, ⟨.t 29, .len (.t 28), some (.t 26, false)⟩, ⟨.t 30, .bin .gtr (.t 29) (.c (.v (.int .i64 1000))), some (.t 26, false)⟩, nn (.t 31) (.pick
    (.t 26) (.c (.v (.bool true))) (.t 30)), nn (.t 32) (.mv false (.t 31)), gm 33 0 32 false, ⟨.t 34, .bin .lss (.t 33) (.c (.v (.int .i64 1))), some
    (.t 32, false)⟩, nn (.t 35) (.pick (.t 32) (.c (.v (.bool true))) (.t 34)), nn (.t 36) (.mv false (.t 35)), gm 37 0 36 false, ⟨.t 38, .bin .gtr (.t
    37) (.c (.v (.int .i64 21))), some (.t 36, false)⟩, nn (.t 39) (.pick (.t 36) (.c (.v (.bool true))) (.t 38)), nn (.t 40) (.mv false (.t 39)), gm 41
    1 40 false, ⟨.t 42, .bin .lss (.t 41) (.c (.v (.int .i64 1))), some (.t 40, false)⟩, nn (.t 43) (.pick (.t 40) (.c (.v (.bool true))) (.t 42)), nn
    (.t 44) (.mv false (.t 43)), gm 45 1 44 false, ⟨.t 46, .bin .gtr (.t 45) (.c (.v (.int .i64 1099511627776))), some (.t 44, false)⟩, nn (.t 47) (.pick
    (.t 44) (.c (.v (.bool true))) (.t 46))]).seq (PC.cond (.t 47) ((PC.reg [nn (.t 48) (.call 10 []), ma 6 48]).seq PC.ret) PC.skip)).seq ((PC.reg [mm
    50 0, mm 51 1, nn (.t 52) (.call 11 [.t 50, .t 51]), nn (.t 49) (.mv false (.t 52)), nn (.t 53) (.ext (.t 49) 0), nn (.t 54) (.ext (.t 49) 1), ma 7
    53, ma 8 54]).seq (((PC.reg [mm 55 8, nn (.t 56) (.bin .neq (.t 55) (.c (.v (.int .i64 0)))), nn (.t 57) (.mv false (.t 56)), gm 58 7 57 false, ⟨.t
    59, .binP .eql (.t 58) (.c (.v .nilp)), some (.t 57, false)⟩, nn (.t 60) (.pick (.t 57) (.c (.v (.bool true))) (.t 59)), nn (.t 61) (.mv false (.t
    60)), gm 62 7 61 false, ⟨.t 63, .iadrG 2 1 (.v 5) (.c (.v (.int .i64 0))), some (.t 61, false)⟩, ⟨.t 64, .load 1 false (.t 63), some (.t 61, false)⟩,
    ⟨.t 65, .call 21 [.t 62, .c (.v (.int .i64 0)), .t 64], some (.t 61, false)⟩, ⟨.t 66, .bin .neq (.t 65) (.c (.v (.int .i64 0))), some (.t 61,
    false)⟩, nn (.t 67) (.pick (.t 61) (.c (.v (.bool true))) (.t 66)), nn (.t 68) (.mv false (.t 67)), gm 69 7 68 false, ⟨.t 70, .iadrG 2 1 (.v 5) (.c
    (.v (.int .i64 1))), some (.t 68, false)⟩, ⟨.t 71, .load 1 false (.t 70), some (.t 68, false)⟩, ⟨.t 72, .call 21 [.t 69, .c (.v (.int .i64 1)), .t
    71], some (.t 68, false)⟩, ⟨.t 73, .bin .neq (.t 72) (.c (.v (.int .i64 0))), some (.t 68, false)⟩, nn (.t 74) (.pick (.t 68) (.c (.v (.bool true)))
    (.t 73))]).seq (PC.cond (.t 74) ((PC.reg [nn (.v 6) (.mv true (.c (.v (.bool false))))]).seq PC.ret) PC.skip)).seq ((PC.reg [mm 76 0, nn (.t 77)
    (.iadrG 2 1 (.v 5) (.c (.v (.int .i64 0)))), nn (.t 78) (.load 1 false (.t 77)), nn (.t 79) (.call 22 [.t 76, .t 78]), nn (.t 75) (.mv false (.t
    79)), nn (.t 80) (.ext (.t 75) 0), nn (.t 81) (.ext (.t 75) 1), nn (.t 82) (.ext (.t 75) 2), nn (.v 10) (.alloc (.agg [.int .i64 0, .int .i64 0, .int
    .i64 0, .arr .u8 32 [0, 0, 0, 0, 0, 0, 0, 0, 0, 0, 0, 0, 0, 0, 0, 0, 0, 0, 0, 0, 0, 0, 0, 0, 0, 0, 0, 0, 0, 0, 0, 0]])), ma 9 80, nn .no (.store 35
    (.v 10) (.t 81)), ma 11 82]).seq ((PC.reg [mm 84 0, nn (.t 85) (.iadrG 2 1 (.v 5) (.c (.v (.int .i64 1)))), nn (.t 86) (.load 1 false (.t 85)), nn
    (.t 87) (.call 22 [.t 84, .t 86]), nn (.t 83) (.mv false (.t 87)), nn (.t 88) (.ext (.t 83) 0), nn (.t 89) (.ext (.t 83) 1), nn (.t 90) (.ext (.t 83)
    2), nn (.v 13) (.alloc (.agg [.int .i64 0, .int .i64 0, .int .i64 0, .arr .u8 32 [0, 0, 0, 0, 0, 0, 0, 0, 0, 0, 0, 0, 0, 0, 0, 0, 0, 0, 0, 0, 0, 0,
    0, 0, 0, 0, 0, 0, 0, 0, 0, 0]])), ma 12 88, nn .no (.store 35 (.v 13) (.t 89)), ma 14 90]).seq ((PC.reg [mm 92 7, nn (.t 93) (.call 19 [.t 92]), nn
    (.t 91) (.mv false (.t 93)), nn (.t 94) (.ext (.t 91) 0), nn (.t 95) (.ext (.t 91) 1), nn (.v 15) (.alloc (.agg [.int .i64 0, .int .i64 0, .int .i64
    0, .arr .u8 32 [0, 0, 0, 0, 0, 0, 0, 0, 0, 0, 0, 0, 0, 0, 0, 0, 0, 0, 0, 0, 0, 0, 0, 0, 0, 0, 0, 0, 0, 0, 0, 0]])), nn .no (.store 35 (.v 15) (.t
    94)), ma 16 95]).seq ((PC.reg [mm 96 11, nn (.t 97) (.bin .neq (.t 96) (.c (.v (.int .i64 0)))), nn (.t 98) (.mv false (.t 97)), gm 99 9 98 false, gm
    100 1 98 false, ⟨.t 101, .bin .neq (.t 99) (.t 100), some (.t 98, false)⟩, nn (.t 102) (.pick (.t 98) (.c (.v (.bool true))) (.t 101)), nn (.t 103)
    (.mv false (.t 102)), gm 104 14 103 true, ⟨.t 105, .bin .neq (.t 104) (.c (.v (.int .i64 0))), some (.t 103, true)⟩, ⟨.t 106, .mv false (.t 105),
    some (.t 103, true)⟩, gm 107 12 106 false, gm 108 1 106 false, ⟨.t 109, .bin .neq (.t 107) (.t 108), some (.t 106, false)⟩, ⟨.t 110, .pick (.t 106)
    (.c (.v (.bool true))) (.t 109), some (.t 103, true)⟩, nn (.t 111) (.pick (.t 103) (.t 110) (.c (.v (.bool false)))), ma 17 111]).seq (((PC.reg [mm
    112 17, mm 113 16, nn (.t 114) (.bin .eql (.t 113) (.c (.v (.int .i64 8)))), nn (.t 115) (.binB .neq (.t 112) (.t 114)), nn (.t 116) (.mv false (.t
    115)), gm 117 17 116 false, ⟨.t 118, .mv false (.t 117), some (.t 116, false)⟩, ⟨.t 119, .load 35 true (.v 15), some (.t 118, true)⟩, ⟨.t 120, .build
    (.agg [.int .i64 0, .int .i64 0, .int .i64 0, .arr .u8 32 [0, 0, 0, 0, 0, 0, 0, 0, 0, 0, 0, 0, 0, 0, 0, 0, 0, 0, 0, 0, 0, 0, 0, 0, 0, 0, 0, 0, 0, 0,
    0, 0]]) [], some (.t 118, true)⟩, ⟨.t 121, .eqa true (.agg (.cons 0 1 false .int (.cons 1 1 false .int (.cons 2 1 false .int (.cons 3 32 true (.arr
    32) .nil))))) (.t 119) (.t 120), some (.t 118, true)⟩, ⟨.t 122, .pick (.t 118) (.t 121) (.c (.v (.bool false))), some (.t 116, false)⟩, nn (.t 123)
    (.pick (.t 116) (.c (.v (.bool true))) (.t 122))]).seq (PC.cond (.t 123) ((PC.reg [nn (.v 6) (.mv true (.c (.v (.bool false))))]).seq PC.ret)
    PC.skip)).seq (((PC.reg [nn (.v 18) (.mv true (.c (.v (.int .i64 0))))]).seq (PC.block 0 (PC.loop [18] lp5_0))).seq ((PC.reg [nn (.t 170) (.call 10
    []), ma 6 170]).seq PC.ret))))))))))) [(.v 6, none)]
attribute [local irreducible] W Wops WopsD WL Wop WopD
variable {E : Env} {C : Abs.Spec} {l : List (Nat × Spec1)} {G : List (Nat × V)} {Q : R → List (Nat × V) → Prop}
set_option maxHeartbeats 1000000
theorem VS.at.kept {s : VS} {G : List (Nat × V)} {x : V} {k n : Int} {b : List Int} (h : s.at G x) (hk : k = 0 ∨ k = 1) (hn : okC n) : ({ s.put k (.sli .u8 b) with n := n } : VS).at (upd (upd G s.id (s.put k (.sli .u8 b)).val) s.c (CT n true)) x := by
  have hp := h.put (b := b) hk
  have e1 : (s.put k (.sli .u8 b)).id = s.id := by unfold VS.put; split <;> rfl
  have e2 : (s.put k (.sli .u8 b)).c = s.c := by unfold VS.put; split <;> rfl
  obtain ⟨p1, p2, p3, p4, p5, p6, p7⟩ := hp
  rw [e2] at p3 p4
  refine ⟨p1, ?_, ?_, by rw [← e2] at p4; exact p4, hn, p6, p7⟩
  · show Abs.look _ (s.put k (.sli .u8 b)).id = _
    rw [look_upd_ne (by rw [e1]; exact h.ne.symm)]; exact p2
  · show Abs.look _ (s.put k (.sli .u8 b)).c = _
    rw [e2]; exact look_upd_same p3
theorem newV_at {i n : Int} {c id : Nat} {G : List (Nat × V)} (hn : okC n) (hid : (if id = c then some (CT n true) else Abs.look G id) = none) : (newV i n c id).at ((id, (newV i n c id).val) :: (c, CT n true) :: G) (.ptr id) := by
  have hne : c ≠ id := by
    rintro rfl
    rw [if_pos rfl] at hid; cases hid
  exact ⟨rfl, by show Abs.look _ id = _; rw [look_cons, if_pos rfl], by show Abs.look _ c = _; rw [look_cons, if_neg hne, look_cons, if_pos rfl]; rfl, hne, hn, ⟨_, rfl⟩, ⟨_, rfl⟩⟩
def SAv : Spec1
  | [], G, Q => ∀ G', Q (.v (.bool true)) G'
  | _, _, _ => False
theorem SAv_eq {G : List (Nat × V)} {Q : R → List (Nat × V) → Prop} : SAv [] G Q = (∀ G', Q (.v (.bool true)) G') := rfl
theorem detSSw : SSw.Det := by
  intro vs G Q h
  unfold SSw at h ⊢
  split at h
  · rcases h with ⟨hn, h⟩ | ⟨s, b, hp, h⟩
    · exact ⟨_, h.2, fun Q' h' => .inl ⟨hn, h'⟩⟩
    · exact ⟨_, h.2, fun Q' h' => .inr ⟨s, b, hp, by rw [h.1]; exact h'⟩⟩
  · exact h.elim
theorem detSSlo : SSlo.Det := by
  intro vs G Q h
  unfold SSlo at h ⊢
  split at h
  · rcases h with ⟨hn, h⟩ | ⟨s, b, hp, h⟩
    · exact ⟨_, h.2, fun Q' h' => .inl ⟨hn, h'⟩⟩
    · exact ⟨_, h.2, fun Q' h' => .inr ⟨s, b, hp, h'⟩⟩
  · exact h.elim
theorem detSKp (kt : List Int) : (SKp kt).Det := by
  intro vs G Q h
  unfold SKp at h ⊢
  split at h
  · rcases h with ⟨hn, h⟩ | ⟨s, hp, h⟩
    · exact ⟨_, h.2, fun Q' h' => .inl ⟨hn, h'⟩⟩
    · exact ⟨_, h.2, fun Q' h' => .inr ⟨s, hp, by rw [h.1]; exact h'⟩⟩
  · exact h.elim
theorem detSLd (kt : List Int) : (SLd kt).Det := by
  intro vs G Q h
  unfold SLd at h ⊢
  split at h
  · rcases h with ⟨hn, h⟩ | ⟨s, b0, b1, hp, h⟩
    · exact ⟨_, h.2, fun Q' h' => .inl ⟨hn, h'⟩⟩
    · exact ⟨_, (h _ (Ext.refl _)).2, fun Q' h' => .inr ⟨s, b0, b1, hp, fun G' e => by rw [(h G' e).1]; exact h'⟩⟩
  · exact h.elim
theorem detSNew : SNew.Det := by
  intro vs G Q h
  unfold SNew at h
  split at h
  · obtain ⟨hp, h⟩ := h
    obtain ⟨c, hc⟩ := fresh_id _
    obtain ⟨id, hid⟩ := fresh_id _
    have e := congrArg List.length (h c hc id hid).1
    simp only [List.length_cons] at e
    omega
  · exact h.elim
theorem wfS1 : (⟨1, 1, 0, [0, 0, 0, 0, 0, 0, 0, 0, 0, 0, 0, 0, 0, 0, 0, 0, 0, 0, 0, 0, 0, 0, 0, 0, 0, 0, 0, 0, 0, 0, 0, 0]⟩ : SealS).wf := ⟨by decide, by decide, by decide, h32_zero⟩
theorem wfS2 : (⟨2, 1, 0, [0, 0, 0, 0, 0, 0, 0, 0, 0, 0, 0, 0, 0, 0, 0, 0, 0, 0, 0, 0, 0, 0, 0, 0, 0, 0, 0, 0, 0, 0, 0, 0]⟩ : SealS).wf := ⟨by decide, by decide, by decide, h32_zero⟩
theorem mayS1 : (⟨1, 1, 0, [0, 0, 0, 0, 0, 0, 0, 0, 0, 0, 0, 0, 0, 0, 0, 0, 0, 0, 0, 0, 0, 0, 0, 0, 0, 0, 0, 0, 0, 0, 0, 0]⟩ : SealS).May := by decide
theorem mayS2 : (⟨2, 1, 0, [0, 0, 0, 0, 0, 0, 0, 0, 0, 0, 0, 0, 0, 0, 0, 0, 0, 0, 0, 0, 0, 0, 0, 0, 0, 0, 0, 0, 0, 0, 0, 0]⟩ : SealS).May := by decide
theorem blob_byt {kt : List Int} {s : SealS} {i ve : Int} (hw : s.wf) (hm : s.May) (hv : 0 ≤ ve ∧ ve ≤ 1099511627776) : Byt (s.blob kt i ve) ∧ (s.blob kt i ve).length ≤ 104 := by
  obtain ⟨s1, s2⟩ := SealS.said_ok hw hm hv
  exact ⟨byt_app s1 (byt_tagH _ _ _ _), by unfold SealS.blob; rw [List.length_append, tagH_len]; omega⟩
theorem getBlob_of {kt : List Int} {s : SealS} {i ve : Int} (hw : s.wf) (hm : s.May) (hi : 1 ≤ i ∧ i ≤ 21) (hv : 1 ≤ ve ∧ ve ≤ 1099511627776) : getBlob kt i (s.blob kt i ve) = (ve, s, 0) := by
  have e := rdBlob_of (r := []) (ta := tagH kt i 3 (s.said ve)) hw hm (ve := ve) (by omega) (tagH_len _ _ _ _)
  rw [List.append_nil] at e
  unfold getBlob SealS.blob
  rw [e]
  simp only
  rw [if_neg (by rintro (h | h | h | h); exact absurd h (by decide); exact h rfl; omega; exact h hm), if_neg (by rintro (h | h); exact h hi; exact h rfl)]
theorem walk10 (h1 : Abs.look l 11 = some SNew) (h2 : Abs.look l 15 = some (SKp K256)) (h3 : Abs.look l 23 = some SSlo) (h4 : Abs.look l 19 = some (SLd K256))
    (h5 : Abs.look l 21 = some SSw) (h6 : Abs.look l 24 = some SVat) (h : ∀ G', Q (.v (.bool true)) G') : Wf E (specOf l) pf10 [] G Q := by
  simp (maxSteps := 1000000) (implicitDefEqProofs := false) only [pf10, h1, SNew_eq, h2, go_sem, ↓reduceIte, decide_eq_true_eq, decide_eq_false_iff_not, ge_iff_le, gt_iff_lt, Int.not_le, Int.not_lt, Bool.not_eq_true', Bool.not_eq_false', Bool.and_eq_true, Bool.and_eq_false_iff]
  refine ⟨by decide, fun c hc id hid => ?_⟩
  have at0 := newV_at (i := 2) (n := 0) (by decide) hid
  generalize (id, (newV 2 0 c id).val) :: (c, CT 0 true) :: G = G1 at *
  rw [SKp_eq]
  refine .inr ⟨newV 2 0 c id, ⟨at0, rfl, rfl, (by show (1 : Int) ≤ 2 ∧ (2 : Int) ≤ 21; decide), (by show (0 : Int) < 1099511627776; decide), wfS1, mayS1⟩, ?_⟩
  have at1 := at0.kept (k := 1) (n := 1) (b := (⟨1, 1, 0, [0, 0, 0, 0, 0, 0, 0, 0, 0, 0, 0, 0, 0, 0, 0, 0, 0, 0, 0, 0, 0, 0, 0, 0, 0, 0, 0, 0, 0, 0, 0, 0]⟩ : SealS).blob K256 2 1) (.inr rfl) (by decide)
  rw [show ((newV 2 0 c id).n + 1).tmod 2 = 1 from rfl, show (newV 2 0 c id).n + 1 = 1 from rfl, show (newV 2 0 c id).i = 2 from rfl]
  obtain ⟨bb1, bl1⟩ := blob_byt (kt := K256) (i := 2) wfS1 mayS1 (ve := 1) (by decide)
  have gb1 := getBlob_of (kt := K256) (i := 2) (ve := 1) wfS1 mayS1 (by decide) (by decide)
  generalize (⟨1, 1, 0, [0, 0, 0, 0, 0, 0, 0, 0, 0, 0, 0, 0, 0, 0, 0, 0, 0, 0, 0, 0, 0, 0, 0, 0, 0, 0, 0, 0, 0, 0, 0, 0]⟩ : SealS).blob K256 2 1 = b1 at *
  generalize upd (upd G1 (newV 2 0 c id).id ((newV 2 0 c id).put 1 (.sli .u8 b1)).val) (newV 2 0 c id).c (CT 1 true) = G2 at *
  simp (maxSteps := 1000000) (implicitDefEqProofs := false) only [h3, go_sem, ↓reduceIte, decide_eq_true_eq, decide_eq_false_iff_not, ge_iff_le, gt_iff_lt, Int.not_le, Int.not_lt, Bool.not_eq_true', Bool.not_eq_false', Bool.and_eq_true, Bool.and_eq_false_iff]
  rw [SSlo_eq]
  refine .inr ⟨_, b1, ⟨at1, .inr rfl, rfl, by omega⟩, ?_⟩
  simp (maxSteps := 1000000) (implicitDefEqProofs := false) only [h2, go_sem, ↓reduceIte, decide_eq_true_eq, decide_eq_false_iff_not, ge_iff_le, gt_iff_lt, Int.not_le, Int.not_lt, Bool.not_eq_true', Bool.not_eq_false', Bool.and_eq_true, Bool.and_eq_false_iff]
  rw [SKp_eq]
  refine .inr ⟨_, ⟨at1, rfl, rfl, (by show (1 : Int) ≤ 2 ∧ (2 : Int) ≤ 21; decide), (by show (1 : Int) < 1099511627776; decide), wfS2, mayS2⟩, ?_⟩
  generalize hs1 : ({ (newV 2 0 c id).put 1 (.sli .u8 b1) with n := 1 } : VS) = s1 at *
  have at2 := at1.kept (k := 0) (n := 2) (b := (⟨2, 1, 0, [0, 0, 0, 0, 0, 0, 0, 0, 0, 0, 0, 0, 0, 0, 0, 0, 0, 0, 0, 0, 0, 0, 0, 0, 0, 0, 0, 0, 0, 0, 0, 0]⟩ : SealS).blob K256 2 2) (.inl rfl) (by decide)
  have n1 : s1.n = 1 := by rw [← hs1]
  have i1 : s1.i = 2 := by rw [← hs1]; rfl
  have z1 : byV s1.s1 = some b1 := by rw [← hs1]; rfl
  have d1 : s1.d = false := by rw [← hs1]; rfl
  rw [n1, i1, show ((1 : Int) + 1).tmod 2 = 0 from rfl, show (1 : Int) + 1 = 2 from rfl]
  obtain ⟨bb2, bl2⟩ := blob_byt (kt := K256) (i := 2) wfS2 mayS2 (ve := 2) (by decide)
  have gb2 := getBlob_of (kt := K256) (i := 2) (ve := 2) wfS2 mayS2 (by decide) (by decide)
  generalize (⟨2, 1, 0, [0, 0, 0, 0, 0, 0, 0, 0, 0, 0, 0, 0, 0, 0, 0, 0, 0, 0, 0, 0, 0, 0, 0, 0, 0, 0, 0, 0, 0, 0, 0, 0]⟩ : SealS).blob K256 2 2 = b2 at *
  generalize upd (upd G2 s1.id (s1.put 0 (.sli .u8 b2)).val) s1.c (CT 2 true) = G3 at *
  simp (maxSteps := 1000000) (implicitDefEqProofs := false) only [h4, go_sem, ↓reduceIte, decide_eq_true_eq, decide_eq_false_iff_not, ge_iff_le, gt_iff_lt, Int.not_le, Int.not_lt, Bool.not_eq_true', Bool.not_eq_false', Bool.and_eq_true, Bool.and_eq_false_iff]
  rw [SLd_eq]
  refine .inr ⟨_, b2, b1, ⟨at2, d1, rfl, z1, ⟨bb2, bb1⟩, by omega, by omega⟩, fun G4 e4 => ?_⟩
  have l1 : loadV K256 s1.i 2 b2 b1 = (⟨2, 1, 0, [0, 0, 0, 0, 0, 0, 0, 0, 0, 0, 0, 0, 0, 0, 0, 0, 0, 0, 0, 0, 0, 0, 0, 0, 0, 0, 0, 0, 0, 0, 0, 0]⟩, 0) := by
    unfold loadV; rw [i1, gb2, if_neg (by decide), if_pos ⟨rfl, rfl⟩]
  have at4 := at2.ext e4
  rw [show ({ s1.put 0 (.sli .u8 b2) with n := 2 } : VS).i = s1.i from rfl, l1]
  simp (maxSteps := 1000000) (implicitDefEqProofs := false) only [h5, SealS.v, go_sem, ↓reduceIte, decide_eq_true_eq, decide_eq_false_iff_not, ge_iff_le, gt_iff_lt, Int.not_le, Int.not_lt, Bool.not_eq_true', Bool.not_eq_false', Bool.and_eq_true, Bool.and_eq_false_iff]
  rw [SSw_eq]
  refine .inr ⟨_, b1, ⟨at4, .inl rfl, rfl, by omega⟩, ?_⟩
  have at5 := at4.put (k := 0) (b := b1) (.inl rfl)
  generalize hs2 : ({ s1.put 0 (.sli .u8 b2) with n := 2 } : VS).put 0 (.sli .u8 b1) = s2 at *
  have n2 : s2.n = 2 := by rw [← hs2]; rfl
  have i2 : s2.i = 2 := by rw [← hs2]; exact i1
  have z2 : byV s2.s0 = some b1 := by rw [← hs2]; rfl
  have y2 : byV s2.s1 = some b1 := by rw [← hs2]; exact z1
  have d2 : s2.d = false := by rw [← hs2]; exact d1
  generalize upd G4 _ s2.val = G5 at *
  simp (maxSteps := 1000000) (implicitDefEqProofs := false) only [h4, go_sem, ↓reduceIte, decide_eq_true_eq, decide_eq_false_iff_not, ge_iff_le, gt_iff_lt, Int.not_le, Int.not_lt, Bool.not_eq_true', Bool.not_eq_false', Bool.and_eq_true, Bool.and_eq_false_iff]
  rw [SLd_eq]
  refine .inr ⟨_, b1, b1, ⟨at5, d2, z2, y2, ⟨bb1, bb1⟩, by omega, by omega⟩, fun G6 e6 => ?_⟩
  have l2 : loadV K256 s2.i s2.n b1 b1 = (.zero, 8) := by
    unfold loadV; rw [i2, n2, gb1, if_neg (by decide), if_neg (by decide), if_neg (by decide)]
  have at6 := at5.ext e6
  rw [l2]
  simp (maxSteps := 1000000) (implicitDefEqProofs := false) only [h6, SVat_eq, SealS.v, SealS.zero, go_sem, ↓reduceIte, decide_eq_true_eq, decide_eq_false_iff_not, ge_iff_le, gt_iff_lt, Int.not_le, Int.not_lt, Bool.not_eq_true', Bool.not_eq_false', Bool.and_eq_true, Bool.and_eq_false_iff]
  exact ⟨2, .inr ⟨s2, at6, n2.symm⟩, h G6⟩
theorem nobody5 {z0 z1 z2 z3 : Bx} {QQ : Ex → St → Prop} (h2 : Abs.look l 15 = some (SKp K256)) (h3 : Abs.look l 23 = some SSlo) (h4 : Abs.look l 19 = some (SLd K256))
    (h5 : Abs.look l 21 = some SSw) (h6 : Abs.look l 24 = some SVat) (h8 : Abs.look l 17 = some SNob) (h9 : Abs.look l 18 = some SNob) (h10 : Abs.look l 20 = some SDead)
    (hx : ∀ ts L' G', QQ (.exit 0) ⟨[none, none, none, none, none, none, none, none, none, none, none, none, none, none, none, none, none, none, some (.v (.int .i64 2)), none, none, none], ts, L', G'⟩) : WL (W E (specOf l) lp5_0) [18] QQ 3 ⟨[none, none, none, none, none, none, none, none, none, none, none, none, none, none, none, none, none, none, some (.v (.int .i64 0)), none, none, none], [], [z0, z1, z2, z3], G⟩ := by
  have w1 : IntKind.i64.wrap 1 = 1 := by decide
  have w2 : IntKind.i64.wrap 2 = 2 := by decide
  have nb : NB G .nilp := .inl rfl
  refine WL_in lp5_0.eq_1 ?_
  simp (maxSteps := 1000000) (implicitDefEqProofs := false) only [h8, SNob_eq, h9, h4, go_sem, ↓reduceIte, decide_eq_true_eq, decide_eq_false_iff_not, ge_iff_le, gt_iff_lt, Int.not_le, Int.not_lt, Bool.not_eq_true', Bool.not_eq_false', Bool.and_eq_true, Bool.and_eq_false_iff]
  refine ⟨nb, nb, ?_⟩
  rw [SLd_eq]
  refine .inl ⟨nb, ?_⟩
  simp (maxSteps := 1000000) (implicitDefEqProofs := false) only [h2, go_sem, ↓reduceIte, decide_eq_true_eq, decide_eq_false_iff_not, ge_iff_le, gt_iff_lt, Int.not_le, Int.not_lt, Bool.not_eq_true', Bool.not_eq_false', Bool.and_eq_true, Bool.and_eq_false_iff]
  rw [SKp_eq]
  refine .inl ⟨nb, ?_⟩
  simp (maxSteps := 1000000) (implicitDefEqProofs := false) only [h5, go_sem, ↓reduceIte, decide_eq_true_eq, decide_eq_false_iff_not, ge_iff_le, gt_iff_lt, Int.not_le, Int.not_lt, Bool.not_eq_true', Bool.not_eq_false', Bool.and_eq_true, Bool.and_eq_false_iff]
  rw [SSw_eq]
  refine .inl ⟨nb, ?_⟩
  simp (maxSteps := 1000000) (implicitDefEqProofs := false) only [h3, go_sem, ↓reduceIte, decide_eq_true_eq, decide_eq_false_iff_not, ge_iff_le, gt_iff_lt, Int.not_le, Int.not_lt, Bool.not_eq_true', Bool.not_eq_false', Bool.and_eq_true, Bool.and_eq_false_iff]
  rw [SSlo_eq]
  refine .inl ⟨nb, ?_⟩
  simp (maxSteps := 1000000) (implicitDefEqProofs := false) only [h10, SDead_eq, go_sem, ↓reduceIte, decide_eq_true_eq, decide_eq_false_iff_not, ge_iff_le, gt_iff_lt, Int.not_le, Int.not_lt, Bool.not_eq_true', Bool.not_eq_false', Bool.and_eq_true, Bool.and_eq_false_iff]
  refine ⟨true, .inl ⟨nb, rfl⟩, ?_⟩
  simp (maxSteps := 1000000) (implicitDefEqProofs := false) only [h6, SVat_eq, go_sem, ↓reduceIte, decide_eq_true_eq, decide_eq_false_iff_not, ge_iff_le, gt_iff_lt, Int.not_le, Int.not_lt, Bool.not_eq_true', Bool.not_eq_false', Bool.and_eq_true, Bool.and_eq_false_iff]
  refine ⟨0, .inl ⟨nb, rfl⟩, fun c => absurd rfl c, fun _ => ?_⟩
  rw [w1]
  refine WL_in lp5_0.eq_1 ?_
  simp (maxSteps := 1000000) (implicitDefEqProofs := false) only [h8, SNob_eq, h9, h4, go_sem, ↓reduceIte, decide_eq_true_eq, decide_eq_false_iff_not, ge_iff_le, gt_iff_lt, Int.not_le, Int.not_lt, Bool.not_eq_true', Bool.not_eq_false', Bool.and_eq_true, Bool.and_eq_false_iff]
  intro id hid
  have nb : NB ((id, ZV) :: G) (.ptr id) := .inr ⟨id, rfl, by rw [look_cons, if_pos rfl]⟩
  refine ⟨nb, nb, ?_⟩
  rw [SLd_eq]
  refine .inl ⟨nb, ?_⟩
  simp (maxSteps := 1000000) (implicitDefEqProofs := false) only [h2, go_sem, ↓reduceIte, decide_eq_true_eq, decide_eq_false_iff_not, ge_iff_le, gt_iff_lt, Int.not_le, Int.not_lt, Bool.not_eq_true', Bool.not_eq_false', Bool.and_eq_true, Bool.and_eq_false_iff]
  rw [SKp_eq]
  refine .inl ⟨nb, ?_⟩
  simp (maxSteps := 1000000) (implicitDefEqProofs := false) only [h5, go_sem, ↓reduceIte, decide_eq_true_eq, decide_eq_false_iff_not, ge_iff_le, gt_iff_lt, Int.not_le, Int.not_lt, Bool.not_eq_true', Bool.not_eq_false', Bool.and_eq_true, Bool.and_eq_false_iff]
  rw [SSw_eq]
  refine .inl ⟨nb, ?_⟩
  simp (maxSteps := 1000000) (implicitDefEqProofs := false) only [h3, go_sem, ↓reduceIte, decide_eq_true_eq, decide_eq_false_iff_not, ge_iff_le, gt_iff_lt, Int.not_le, Int.not_lt, Bool.not_eq_true', Bool.not_eq_false', Bool.and_eq_true, Bool.and_eq_false_iff]
  rw [SSlo_eq]
  refine .inl ⟨nb, ?_⟩
  simp (maxSteps := 1000000) (implicitDefEqProofs := false) only [h10, SDead_eq, go_sem, ↓reduceIte, decide_eq_true_eq, decide_eq_false_iff_not, ge_iff_le, gt_iff_lt, Int.not_le, Int.not_lt, Bool.not_eq_true', Bool.not_eq_false', Bool.and_eq_true, Bool.and_eq_false_iff]
  refine ⟨true, .inl ⟨nb, rfl⟩, ?_⟩
  simp (maxSteps := 1000000) (implicitDefEqProofs := false) only [h6, SVat_eq, go_sem, ↓reduceIte, decide_eq_true_eq, decide_eq_false_iff_not, ge_iff_le, gt_iff_lt, Int.not_le, Int.not_lt, Bool.not_eq_true', Bool.not_eq_false', Bool.and_eq_true, Bool.and_eq_false_iff]
  refine ⟨0, .inl ⟨nb, rfl⟩, fun c => absurd rfl c, fun _ => ?_⟩
  rw [w2]
  refine WL_in lp5_0.eq_1 ?_
  simp (maxSteps := 1000000) (implicitDefEqProofs := false) only [go_sem, ↓reduceIte, decide_eq_true_eq, decide_eq_false_iff_not, ge_iff_le, gt_iff_lt, Int.not_le, Int.not_lt, Bool.not_eq_true', Bool.not_eq_false', Bool.and_eq_true, Bool.and_eq_false_iff]
  exact hx _ _ _
theorem walk5 {i n : Int} {b0 b1 : List Int} (h0 : Abs.look l 10 = some SAv) (h1 : Abs.look l 11 = some SNew) (h2 : Abs.look l 15 = some (SKp K256)) (h3 : Abs.look l 23 = some SSlo) (h4 : Abs.look l 19 = some (SLd K256))
    (h5 : Abs.look l 21 = some SSw) (h6 : Abs.look l 24 = some SVat) (h7 : Abs.look l 22 = some (SBh K256)) (h8 : Abs.look l 17 = some SNob) (h9 : Abs.look l 18 = some SNob) (h10 : Abs.look l 20 = some SDead)
    (y0 : Byt b0) (y1 : Byt b1) (h : ∀ G', Q (.v (.bool true)) G') : Wf E (specOf l) pf5 [.int .i64 i, .int .i64 n, .agg [.sli .u8 b0, .sli .u8 b1]] G Q := by
  have hsz : (∀ x ∈ [V.sli .u8 b0, V.sli .u8 b1], V.size x = 1) = True := eq_true (two_sz rfl rfl)
  by_cases c1 : (1000 : Int) < b0.length
  · simp (maxSteps := 1000000) (implicitDefEqProofs := false) only [pf5, hsz, c1, h0, SAv_eq, go_sem, ↓reduceIte, decide_eq_true_eq, decide_eq_false_iff_not, ge_iff_le, gt_iff_lt, Int.not_le, Int.not_lt, Bool.not_eq_true', Bool.not_eq_false', Bool.and_eq_true, Bool.and_eq_false_iff]
    exact h
  by_cases c2 : (1000 : Int) < b1.length
  · simp (maxSteps := 1000000) (implicitDefEqProofs := false) only [pf5, hsz, c1, c2, h0, SAv_eq, go_sem, ↓reduceIte, decide_eq_true_eq, decide_eq_false_iff_not, ge_iff_le, gt_iff_lt, Int.not_le, Int.not_lt, Bool.not_eq_true', Bool.not_eq_false', Bool.and_eq_true, Bool.and_eq_false_iff]
    exact h
  by_cases c3 : i < 1
  · simp (maxSteps := 1000000) (implicitDefEqProofs := false) only [pf5, hsz, c1, c2, c3, h0, SAv_eq, go_sem, ↓reduceIte, decide_eq_true_eq, decide_eq_false_iff_not, ge_iff_le, gt_iff_lt, Int.not_le, Int.not_lt, Bool.not_eq_true', Bool.not_eq_false', Bool.and_eq_true, Bool.and_eq_false_iff]
    exact h
  by_cases c4 : 21 < i
  · simp (maxSteps := 1000000) (implicitDefEqProofs := false) only [pf5, hsz, c1, c2, c3, c4, h0, SAv_eq, go_sem, ↓reduceIte, decide_eq_true_eq, decide_eq_false_iff_not, ge_iff_le, gt_iff_lt, Int.not_le, Int.not_lt, Bool.not_eq_true', Bool.not_eq_false', Bool.and_eq_true, Bool.and_eq_false_iff]
    exact h
  by_cases c5 : n < 1
  · simp (maxSteps := 1000000) (implicitDefEqProofs := false) only [pf5, hsz, c1, c2, c3, c4, c5, h0, SAv_eq, go_sem, ↓reduceIte, decide_eq_true_eq, decide_eq_false_iff_not, ge_iff_le, gt_iff_lt, Int.not_le, Int.not_lt, Bool.not_eq_true', Bool.not_eq_false', Bool.and_eq_true, Bool.and_eq_false_iff]
    exact h
  by_cases c6 : 1099511627776 < n
  · simp (maxSteps := 1000000) (implicitDefEqProofs := false) only [pf5, hsz, c1, c2, c3, c4, c5, c6, h0, SAv_eq, go_sem, ↓reduceIte, decide_eq_true_eq, decide_eq_false_iff_not, ge_iff_le, gt_iff_lt, Int.not_le, Int.not_lt, Bool.not_eq_true', Bool.not_eq_false', Bool.and_eq_true, Bool.and_eq_false_iff]
    exact h
  simp (maxSteps := 1000000) (implicitDefEqProofs := false) only [pf5, hsz, c1, c2, c3, c4, c5, c6, h1, SNew_eq, h5, go_sem, ↓reduceIte, decide_eq_true_eq, decide_eq_false_iff_not, ge_iff_le, gt_iff_lt, Int.not_le, Int.not_lt, Bool.not_eq_true', Bool.not_eq_false', Bool.and_eq_true, Bool.and_eq_false_iff]
  refine ⟨⟨⟨by omega, by omega⟩, by omega, by omega⟩, fun c hc id hid => ?_⟩
  have at0 := newV_at (i := i) (n := n) ⟨by omega, by omega⟩ hid
  generalize (id, (newV i n c id).val) :: (c, CT n true) :: G = G1 at *
  rw [SSw_eq]
  refine .inr ⟨_, b0, ⟨at0, .inl rfl, rfl, by omega⟩, ?_⟩
  have at1 := at0.put (k := 0) (b := b0) (.inl rfl)
  generalize upd G1 _ _ = G2 at *
  simp (maxSteps := 1000000) (implicitDefEqProofs := false) only [h5, hsz, go_sem, ↓reduceIte, decide_eq_true_eq, decide_eq_false_iff_not, ge_iff_le, gt_iff_lt, Int.not_le, Int.not_lt, Bool.not_eq_true', Bool.not_eq_false', Bool.and_eq_true, Bool.and_eq_false_iff]
  rw [SSw_eq]
  refine .inr ⟨_, b1, ⟨at1, .inr rfl, rfl, by omega⟩, ?_⟩
  have at2 := at1.put (k := 1) (b := b1) (.inr rfl)
  generalize upd G2 _ _ = G3 at *
  simp (maxSteps := 1000000) (implicitDefEqProofs := false) only [h7, SBh_eq, hsz, go_sem, ↓reduceIte, decide_eq_true_eq, decide_eq_false_iff_not, ge_iff_le, gt_iff_lt, Int.not_le, Int.not_lt, Bool.not_eq_true', Bool.not_eq_false', Bool.and_eq_true, Bool.and_eq_false_iff]
  rcases g0 : getBlob K256 i b0 with ⟨m, ⟨q1, q2, q3, q4⟩, f⟩
  have r0 : getR (m, ⟨q1, q2, q3, q4⟩, f) = .tup [.int .i64 m, .agg [.int .i64 q1, .int .i64 q2, .int .i64 q3, .arr .u8 32 q4], .int .i64 f] := rfl
  rw [r0]
  refine ⟨⟨y0, by omega⟩, ?_⟩
  simp (maxSteps := 1000000) (implicitDefEqProofs := false) only [h7, SBh_eq, hsz, go_sem, ↓reduceIte, decide_eq_true_eq, decide_eq_false_iff_not, ge_iff_le, gt_iff_lt, Int.not_le, Int.not_lt, Bool.not_eq_true', Bool.not_eq_false', Bool.and_eq_true, Bool.and_eq_false_iff]
  rcases g1 : getBlob K256 i b1 with ⟨m', ⟨p1, p2, p3, p4⟩, f'⟩
  have r1 : getR (m', ⟨p1, p2, p3, p4⟩, f') = .tup [.int .i64 m', .agg [.int .i64 p1, .int .i64 p2, .int .i64 p3, .arr .u8 32 p4], .int .i64 f'] := rfl
  rw [r1]
  refine ⟨⟨y1, by omega⟩, ?_⟩
  simp (maxSteps := 1000000) (implicitDefEqProofs := false) only [h4, go_sem, ↓reduceIte, decide_eq_true_eq, decide_eq_false_iff_not, ge_iff_le, gt_iff_lt, Int.not_le, Int.not_lt, Bool.not_eq_true', Bool.not_eq_false', Bool.and_eq_true, Bool.and_eq_false_iff]
  rw [SLd_eq]
  refine .inr ⟨_, b0, b1, ⟨at2, rfl, rfl, rfl, ⟨y0, y1⟩, by omega, by omega⟩, fun G4 e4 => ?_⟩
  rw [show (((newV i n c id).put 0 (.sli .u8 b0)).put 1 (.sli .u8 b1)).i = i from rfl, show (((newV i n c id).put 0 (.sli .u8 b0)).put 1 (.sli .u8 b1)).n = n from rfl]
  have hn0 : ¬ n = 0 := by omega
  unfold loadV
  rw [if_neg hn0, g0, g1]
  by_cases d0 : f = 0 ∧ m = n
  · obtain ⟨rfl, rfl⟩ := d0
    rw [if_pos ⟨rfl, rfl⟩]
    simp (maxSteps := 1000000) (implicitDefEqProofs := false) only [SealS.v, SealS.zero, h0, SAv_eq, go_sem, ↓reduceIte, decide_eq_true_eq, decide_eq_false_iff_not, ge_iff_le, gt_iff_lt, Int.not_le, Int.not_lt, Bool.not_eq_true', Bool.not_eq_false', Bool.and_eq_true, Bool.and_eq_false_iff]
    refine ⟨3, ?_⟩
    simp (maxSteps := 1000000) (implicitDefEqProofs := false) only [go_sem, ↓reduceIte, decide_eq_true_eq, decide_eq_false_iff_not, ge_iff_le, gt_iff_lt, Int.not_le, Int.not_lt, Bool.not_eq_true', Bool.not_eq_false', Bool.and_eq_true, Bool.and_eq_false_iff]
    refine nobody5 h2 h3 h4 h5 h6 h8 h9 h10 (fun ts L' G' => ?_)
    simp (maxSteps := 1000000) (implicitDefEqProofs := false) only [h0, SAv_eq, go_sem, ↓reduceIte, decide_eq_true_eq, decide_eq_false_iff_not, ge_iff_le, gt_iff_lt, Int.not_le, Int.not_lt, Bool.not_eq_true', Bool.not_eq_false', Bool.and_eq_true, Bool.and_eq_false_iff]
    exact h
  · rw [if_neg d0]
    by_cases d1 : f' = 0 ∧ m' = n
    · obtain ⟨rfl, rfl⟩ := d1
      rw [if_pos ⟨rfl, rfl⟩]
      simp (maxSteps := 1000000) (implicitDefEqProofs := false) only [SealS.v, SealS.zero, h0, SAv_eq, go_sem, ↓reduceIte, decide_eq_true_eq, decide_eq_false_iff_not, ge_iff_le, gt_iff_lt, Int.not_le, Int.not_lt, Bool.not_eq_true', Bool.not_eq_false', Bool.and_eq_true, Bool.and_eq_false_iff]
      repeat' first | (intro _) | (refine And.intro ?_ ?_)
      all_goals first | (exfalso; omega) | skip
      all_goals
        refine ⟨3, ?_⟩
        simp (maxSteps := 1000000) (implicitDefEqProofs := false) only [go_sem, ↓reduceIte, decide_eq_true_eq, decide_eq_false_iff_not, ge_iff_le, gt_iff_lt, Int.not_le, Int.not_lt, Bool.not_eq_true', Bool.not_eq_false', Bool.and_eq_true, Bool.and_eq_false_iff]
        refine nobody5 h2 h3 h4 h5 h6 h8 h9 h10 (fun ts L' G' => ?_)
        simp (maxSteps := 1000000) (implicitDefEqProofs := false) only [h0, SAv_eq, go_sem, ↓reduceIte, decide_eq_true_eq, decide_eq_false_iff_not, ge_iff_le, gt_iff_lt, Int.not_le, Int.not_lt, Bool.not_eq_true', Bool.not_eq_false', Bool.and_eq_true, Bool.and_eq_false_iff]
        exact h
    · rw [if_neg d1]
      have hz32 : (zero32 == [0, 0, 0, 0, 0, 0, 0, 0, 0, 0, 0, 0, 0, 0, 0, 0, 0, 0, 0, 0, 0, 0, 0, 0, 0, 0, 0, 0, 0, 0, 0, 0]) = true := by decide
      simp (maxSteps := 1000000) (implicitDefEqProofs := false) only [SealS.v, SealS.zero, h0, SAv_eq, hz32, go_sem, ↓reduceIte, decide_eq_true_eq, decide_eq_false_iff_not, ge_iff_le, gt_iff_lt, Int.not_le, Int.not_lt, Bool.not_eq_true', Bool.not_eq_false', Bool.and_eq_true, Bool.and_eq_false_iff]
      repeat' first | (intro _) | (refine And.intro ?_ ?_)
      all_goals first | (exfalso; omega) | skip
      all_goals
        refine ⟨3, ?_⟩
        simp (maxSteps := 1000000) (implicitDefEqProofs := false) only [go_sem, ↓reduceIte, decide_eq_true_eq, decide_eq_false_iff_not, ge_iff_le, gt_iff_lt, Int.not_le, Int.not_lt, Bool.not_eq_true', Bool.not_eq_false', Bool.and_eq_true, Bool.and_eq_false_iff]
        refine nobody5 h2 h3 h4 h5 h6 h8 h9 h10 (fun ts L' G' => ?_)
        simp (maxSteps := 1000000) (implicitDefEqProofs := false) only [h0, SAv_eq, go_sem, ↓reduceIte, decide_eq_true_eq, decide_eq_false_iff_not, ge_iff_le, gt_iff_lt, Int.not_le, Int.not_lt, Bool.not_eq_true', Bool.not_eq_false', Bool.and_eq_true, Bool.and_eq_false_iff]
        exact h
end Go.Proofs.YtjbglbhcbenhpaaDoor.Sha
