/- The vault: the theorem of keeping. -/
import Derived.Test.YtjbglbhcbenhpaaDoorTVlt6
namespace Go.Proofs.YtjbglbhcbenhpaaDoor.Sha
open Go Go.Abs Go.Abs.Sha
set_option linter.unusedSimpArgs false
set_option linter.unusedVariables false
set_option maxRecDepth 100000
def lp9_0 : PC :=
  ((PC.reg [mm 4 3, mm 5 0, nn (.t 6) (.len (.t 5)), nn (.t 7) (.bin .lss (.t 4) (.t 6)), nn (.t 8) (.mv false (.t 7)), gm 9 3 8 true, ⟨.t 10, .bin .leq
    (.t 9) (.c (.v (.int .i64 40))), some (.t 8, true)⟩, nn (.t 11) (.pick (.t 8) (.t 10) (.c (.v (.bool false))))]).seq (PC.cond (.t 11) PC.skip
    (PC.exit 0))).seq ((PC.block 1 ((PC.reg [mm 14 0, mm 15 3, nn (.t 16) (.iadrS 40 (.t 14) (.t 15)), nn (.t 17) (.fadr 5 39 (.t 16)), nn (.t 18) (.load
    1 false (.t 17)), nn (.t 19) (.len (.t 18)), nn (.t 20) (.bin .gtr (.t 19) (.c (.v (.int .i64 1200))))]).seq (PC.cond (.t 20) ((PC.reg [nn (.v 2)
    (.mv true (.c (.v (.bool false))))]).seq PC.ret) PC.skip))).seq (PC.reg [mm 12 3, nn (.t 13) (.bin .add (.t 12) (.c (.v (.int .i64 1)))), ma 3 13]))
def pf9 : PF :=
  PF.mk 1 4 24 ((PC.reg [nn (.v 2) (.mv true (.c (.v (.bool false))))]).seq (((PC.reg [nn (.v 3) (.mv true (.c (.v (.int .i64 0))))]).seq (PC.block 0
    (PC.loop [0, 3] lp9_0))).seq ((PC.reg [mm 21 0, nn (.t 22) (.len (.t 21)), nn (.t 23) (.bin .leq (.t 22) (.c (.v (.int .i64 40)))), ma 2 23]).seq
    PC.ret))) [(.v 2, none)]
def lp4_0 : PC :=
  ((PC.reg [nn (.v 41) (.mv false (.v 9)), nn (.v 42) (.mv false (.v 1)), nn (.v 43) (.len (.v 42)), nn (.v 44) (.bin .lss (.v 41) (.v 43))]).seq
    (PC.cond (.v 44) PC.skip (PC.exit 0))).seq ((PC.block 1 ((PC.reg [nn (.v 47) (.mv false (.v 1)), nn (.v 48) (.mv false (.v 9)), nn (.v 49) (.iadrS 40
    (.v 47) (.v 48)), nn (.v 50) (.load 40 true (.v 49)), nn (.v 10) (.alloc (.agg [.int .i64 0, .agg [.int .i64 0, .int .i64 0, .int .i64 0, .arr .u8 32
    [0, 0, 0, 0, 0, 0, 0, 0, 0, 0, 0, 0, 0, 0, 0, 0, 0, 0, 0, 0, 0, 0, 0, 0, 0, 0, 0, 0, 0, 0, 0, 0]], .int .i64 0, .int .i64 0, .int .i64 0, .nils])),
    nn .no (.store 40 (.v 10) (.v 50))]).seq (((PC.reg [nn (.v 51) (.fadr 0 0 (.v 10)), nn (.v 52) (.load 1 false (.v 51))]).seq (PC.block 2 ((PC.reg [nn
    (.t 54) (.bin .eql (.v 52) (.c (.v (.int .i64 0)))), nn (.t 53) (.mv true (.t 54))]).seq (PC.cond (.t 53) ((PC.reg [mm 55 5, nn (.t 56) (.fadr 1 1
    (.v 10)), nn (.t 57) (.load 35 true (.t 56)), nn (.t 58) (.call 15 [.t 55, .t 57]), ma 11 58]).seq (((PC.reg [mm 59 11, nn (.t 60) (.bin .eql (.t 59)
    (.c (.v (.int .i64 0))))]).seq (PC.cond (.t 60) (PC.reg [nn (.t 61) (.fadr 1 1 (.v 10)), nn (.t 62) (.load 35 true (.t 61)), nn .no (.store 35 (.v 7)
    (.t 62))]) PC.skip)).seq ((PC.reg [mm 63 11, nn (.t 64) (.bin .eql (.t 63) (.c (.v (.int .i64 6)))), nn (.t 65) (.mv false (.t 64)), ⟨.t 66, .fadr 1
    1 (.v 10), some (.t 65, true)⟩, ⟨.t 67, .load 35 true (.t 66), some (.t 65, true)⟩, ⟨.t 68, .call 16 [.t 67], some (.t 65, true)⟩, nn (.t 69) (.pick
    (.t 65) (.t 68) (.c (.v (.bool false)))), nn (.t 70) (.mv false (.t 69)), ⟨.t 71, .load 35 true (.v 8), some (.t 70, true)⟩, ⟨.t 72, .build (.agg
    [.int .i64 0, .int .i64 0, .int .i64 0, .arr .u8 32 [0, 0, 0, 0, 0, 0, 0, 0, 0, 0, 0, 0, 0, 0, 0, 0, 0, 0, 0, 0, 0, 0, 0, 0, 0, 0, 0, 0, 0, 0, 0,
    0]]) [], some (.t 70, true)⟩, ⟨.t 73, .eqa false (.agg (.cons 0 1 false .int (.cons 1 1 false .int (.cons 2 1 false .int (.cons 3 32 true (.arr 32)
    .nil))))) (.t 71) (.t 72), some (.t 70, true)⟩, nn (.t 74) (.pick (.t 70) (.t 73) (.c (.v (.bool false))))]).seq (PC.cond (.t 74) (PC.reg [nn (.t 75)
    (.fadr 1 1 (.v 10)), nn (.t 76) (.load 35 true (.t 75)), nn .no (.store 35 (.v 8) (.t 76))]) PC.skip)))) ((PC.reg [nn (.t 78) (.bin .eql (.v 52) (.c
    (.v (.int .i64 4)))), nn (.t 77) (.mv true (.t 78))]).seq (PC.cond (.t 77) (PC.reg [mm 79 5, nn (.t 80) (.fadr 2 36 (.v 10)), nn (.t 81) (.load 1
    false (.t 80)), nn (.t 82) (.call 17 [.t 79, .t 81])]) ((PC.reg [nn (.t 84) (.bin .eql (.v 52) (.c (.v (.int .i64 5)))), nn (.t 83) (.mv true (.t
    84))]).seq (PC.cond (.t 83) ((PC.reg [mm 85 5, nn (.t 86) (.fadr 2 36 (.v 10)), nn (.t 87) (.load 1 false (.t 86)), nn (.t 88) (.call 18 [.t 85, .t
    87])]).seq ((PC.reg [mm 90 5, nn (.t 91) (.call 19 [.t 90]), nn (.t 89) (.mv false (.t 91)), nn (.t 92) (.ext (.t 89) 0), nn (.t 93) (.ext (.t 89)
    1), nn (.v 12) (.alloc (.agg [.int .i64 0, .int .i64 0, .int .i64 0, .arr .u8 32 [0, 0, 0, 0, 0, 0, 0, 0, 0, 0, 0, 0, 0, 0, 0, 0, 0, 0, 0, 0, 0, 0,
    0, 0, 0, 0, 0, 0, 0, 0, 0, 0]])), nn .no (.store 35 (.v 12) (.t 92)), ma 13 93]).seq (((PC.reg [mm 94 13, nn (.t 95) (.bin .neq (.t 94) (.c (.v (.int
    .i64 0)))), nn (.t 96) (.mv false (.t 95)), ⟨.t 97, .load 35 true (.v 12), some (.t 96, false)⟩, ⟨.t 98, .load 35 true (.v 7), some (.t 96, false)⟩,
    ⟨.t 99, .eqa true (.agg (.cons 0 1 false .int (.cons 1 1 false .int (.cons 2 1 false .int (.cons 3 32 true (.arr 32) .nil))))) (.t 97) (.t 98), some
    (.t 96, false)⟩, ⟨.t 100, .mv false (.t 99), some (.t 96, false)⟩, ⟨.t 101, .load 35 true (.v 12), some (.t 100, true)⟩, ⟨.t 102, .load 35 true (.v
    8), some (.t 100, true)⟩, ⟨.t 103, .eqa true (.agg (.cons 0 1 false .int (.cons 1 1 false .int (.cons 2 1 false .int (.cons 3 32 true (.arr 32)
    .nil))))) (.t 101) (.t 102), some (.t 100, true)⟩, ⟨.t 104, .pick (.t 100) (.t 103) (.c (.v (.bool false))), some (.t 96, false)⟩, nn (.t 105) (.pick
    (.t 96) (.c (.v (.bool true))) (.t 104))]).seq (PC.cond (.t 105) ((PC.reg [nn (.v 4) (.mv true (.c (.v (.bool false))))]).seq PC.ret) PC.skip)).seq
    ((PC.reg [nn (.t 106) (.load 35 true (.v 12)), nn .no (.store 35 (.v 7) (.t 106))]).seq (PC.reg [nn (.t 107) (.build (.agg [.int .i64 0, .int .i64 0,
    .int .i64 0, .arr .u8 32 [0, 0, 0, 0, 0, 0, 0, 0, 0, 0, 0, 0, 0, 0, 0, 0, 0, 0, 0, 0, 0, 0, 0, 0, 0, 0, 0, 0, 0, 0, 0, 0]]) []), nn .no (.store 35
    (.v 8) (.t 107))]))))) PC.skip)))))))).seq ((PC.reg [mm 109 5, nn (.t 110) (.call 19 [.t 109]), nn (.t 108) (.mv false (.t 110)), nn (.t 111) (.ext
    (.t 108) 0), nn (.t 112) (.ext (.t 108) 1), nn (.v 14) (.alloc (.agg [.int .i64 0, .int .i64 0, .int .i64 0, .arr .u8 32 [0, 0, 0, 0, 0, 0, 0, 0, 0,
    0, 0, 0, 0, 0, 0, 0, 0, 0, 0, 0, 0, 0, 0, 0, 0, 0, 0, 0, 0, 0, 0, 0]])), nn .no (.store 35 (.v 14) (.t 111)), ma 15 112]).seq ((PC.reg [mm 113 5, nn
    (.t 114) (.call 20 [.t 113]), mm 115 15, nn (.t 116) (.bin .eql (.t 115) (.c (.v (.int .i64 6)))), nn (.t 117) (.binB .neq (.t 114) (.t 116)), nn (.t
    118) (.mv false (.t 117)), gm 119 5 118 false, ⟨.t 120, .call 20 [.t 119], some (.t 118, false)⟩, ⟨.t 121, .un .not (.t 120), some (.t 118, false)⟩,
    ⟨.t 122, .mv false (.t 121), some (.t 118, false)⟩, gm 123 15 122 true, ⟨.t 124, .bin .neq (.t 123) (.c (.v (.int .i64 0))), some (.t 122, true)⟩,
    ⟨.t 125, .mv false (.t 124), some (.t 122, true)⟩, ⟨.t 126, .load 35 true (.v 14), some (.t 125, false)⟩, ⟨.t 127, .load 35 true (.v 7), some (.t
    125, false)⟩, ⟨.t 128, .eqa true (.agg (.cons 0 1 false .int (.cons 1 1 false .int (.cons 2 1 false .int (.cons 3 32 true (.arr 32) .nil))))) (.t
    126) (.t 127), some (.t 125, false)⟩, ⟨.t 129, .pick (.t 125) (.c (.v (.bool true))) (.t 128), some (.t 122, true)⟩, ⟨.t 130, .pick (.t 122) (.t 129)
    (.c (.v (.bool false))), some (.t 118, false)⟩, nn (.t 131) (.pick (.t 118) (.c (.v (.bool true))) (.t 130))]).seq (PC.cond (.t 131) ((PC.reg [nn (.v
    4) (.mv true (.c (.v (.bool false))))]).seq PC.ret) PC.skip)))))).seq (PC.reg [nn (.v 45) (.mv false (.v 9)), nn (.v 46) (.bin .add (.v 45) (.c (.v
    (.int .i64 1)))), nn (.v 9) (.mv true (.v 46))]))
def pf4 : PF :=
  PF.mk 2 53 133 ((PC.reg [nn (.v 4) (.mv true (.c (.v (.bool false))))]).seq (((PC.reg [nn (.v 16) (.mv false (.v 1)), nn (.v 17) (.call 9 [.v 16]), nn
    (.v 18) (.un .not (.v 17)), nn (.v 19) (.mv false (.v 18)), ⟨.v 20, .mv false (.v 0), some (.v 19, false)⟩, ⟨.v 21, .bin .lss (.v 20) (.c (.v (.int
    .i64 1))), some (.v 19, false)⟩, nn (.v 22) (.pick (.v 19) (.c (.v (.bool true))) (.v 21)), nn (.v 23) (.mv false (.v 22)), ⟨.v 24, .mv false (.v 0),
    some (.v 23, false)⟩, ⟨.v 25, .bin .gtr (.v 24) (.c (.v (.int .i64 21))), some (.v 23, false)⟩, nn (.v 26) (.pick (.v 23) (.c (.v (.bool true))) (.v
    25))]).seq (PC.cond (.v 26) ((PC.reg [nn (.v 27) (.call 10 []), nn (.v 4) (.mv true (.v 27))]).seq PC.ret) PC.skip)).seq ((PC.reg [nn (.v 29) (.mv
    false (.v 0)), nn (.v 30) (.call 11 [.v 29, .c (.v (.int .i64 0))]), nn (.v 28) (.mv false (.v 30)), nn (.v 31) (.ext (.v 28) 0), nn (.v 32) (.ext
    (.v 28) 1), nn (.v 5) (.mv true (.v 31)), nn (.v 6) (.mv true (.v 32))]).seq (((PC.reg [nn (.v 33) (.mv false (.v 6)), nn (.v 34) (.bin .neq (.v 33)
    (.c (.v (.int .i64 0)))), nn (.v 35) (.mv false (.v 34)), ⟨.v 36, .mv false (.v 5), some (.v 35, false)⟩, ⟨.v 37, .binP .eql (.v 36) (.c (.v .nilp)),
    some (.v 35, false)⟩, nn (.v 38) (.pick (.v 35) (.c (.v (.bool true))) (.v 37))]).seq (PC.cond (.v 38) ((PC.reg [nn (.v 4) (.mv true (.c (.v (.bool
    false))))]).seq PC.ret) PC.skip)).seq ((PC.reg [nn (.v 39) (.build (.agg [.int .i64 0, .int .i64 0, .int .i64 0, .arr .u8 32 [0, 0, 0, 0, 0, 0, 0, 0,
    0, 0, 0, 0, 0, 0, 0, 0, 0, 0, 0, 0, 0, 0, 0, 0, 0, 0, 0, 0, 0, 0, 0, 0]]) []), nn (.v 7) (.alloc (.agg [.int .i64 0, .int .i64 0, .int .i64 0, .arr
    .u8 32 [0, 0, 0, 0, 0, 0, 0, 0, 0, 0, 0, 0, 0, 0, 0, 0, 0, 0, 0, 0, 0, 0, 0, 0, 0, 0, 0, 0, 0, 0, 0, 0]])), nn .no (.store 35 (.v 7) (.v 39))]).seq
    ((PC.reg [nn (.v 40) (.build (.agg [.int .i64 0, .int .i64 0, .int .i64 0, .arr .u8 32 [0, 0, 0, 0, 0, 0, 0, 0, 0, 0, 0, 0, 0, 0, 0, 0, 0, 0, 0, 0,
    0, 0, 0, 0, 0, 0, 0, 0, 0, 0, 0, 0]]) []), nn (.v 8) (.alloc (.agg [.int .i64 0, .int .i64 0, .int .i64 0, .arr .u8 32 [0, 0, 0, 0, 0, 0, 0, 0, 0, 0,
    0, 0, 0, 0, 0, 0, 0, 0, 0, 0, 0, 0, 0, 0, 0, 0, 0, 0, 0, 0, 0, 0]])), nn .no (.store 35 (.v 8) (.v 40))]).seq (((PC.reg [nn (.v 9) (.mv true (.c (.v
    (.int .i64 0))))]).seq (PC.block 0 (PC.loop [1, 5, 7, 8, 9] lp4_0))).seq ((PC.reg [nn (.t 132) (.call 10 []), ma 4 132]).seq PC.ret)))))))) [(.v 4,
    none)]
attribute [local irreducible] W Wops WopsD WL Wop WopD
variable {E : Env} {C : Abs.Spec} {l : List (Nat × Spec1)} {G : List (Nat × V)} {Q : R → List (Nat × V) → Prop}
set_option maxHeartbeats 1000000
/-- What is loaded, and what is told. -/
def loadD (kt : List Int) (s : VS) : SealS × Int := if s.d = true then (.zero, 6) else loadV kt s.i s.n (byB s.s0) (byB s.s1)
def SLd2 (kt : List Int) : Spec1
  | [x], G, Q => ∃ s : VS, (s.at G x ∧ s.good) ∧ ∀ G', Ext G G' → Q (.tup [(loadD kt s).1.v, .int .i64 (loadD kt s).2]) G'
  | _, _, _ => False
theorem SLd2_eq {kt x} : SLd2 kt [x] G Q = (∃ s : VS, (s.at G x ∧ s.good) ∧ ∀ G', Ext G G' → Q (.tup [(loadD kt s).1.v, .int .i64 (loadD kt s).2]) G') := rfl
def SKp2 (kt : List Int) : Spec1
  | [x, .agg [.int .i64 a1, .int .i64 a2, .int .i64 a3, .arr .u8 32 a4]], G, Q => ∃ s : VS, (s.at G x ∧ s.good ∧ s.n < 1099511627776 ∧ (⟨a1, a2, a3, a4⟩ : SealS).wf) ∧ Q (.v (.int .i64 (keepS kt s (⟨a1, a2, a3, a4⟩ : SealS)).2)) (setG G (keepS kt s (⟨a1, a2, a3, a4⟩ : SealS)).1)
  | _, _, _ => False
theorem SKp2_eq {kt x a1 a2 a3 a4} : SKp2 kt [x, .agg [.int .i64 a1, .int .i64 a2, .int .i64 a3, .arr .u8 32 a4]] G Q = (∃ s : VS, (s.at G x ∧ s.good ∧ s.n < 1099511627776 ∧ (⟨a1, a2, a3, a4⟩ : SealS).wf) ∧ Q (.v (.int .i64 (keepS kt s (⟨a1, a2, a3, a4⟩ : SealS)).2)) (setG G (keepS kt s (⟨a1, a2, a3, a4⟩ : SealS)).1)) := rfl
theorem byB_of {x : V} {b : List Int} (h : byV x = some b) : byB x = b := by unfold byB; rw [h]; rfl
theorem keepS_good {kt : List Int} {s : VS} {x : SealS} (h : s.good) (hw : x.wf) (hn : 0 ≤ s.n ∧ s.n < 1099511627776) : (keepS kt s x).1.good := by
  unfold keepS
  by_cases hd : s.d = true
  · rw [if_pos hd]; exact h
  rw [if_neg hd]
  by_cases hm : x.May
  · rw [if_neg (fun c => c hm)]
    obtain ⟨bb, bl⟩ := blob_byt (kt := kt) (i := s.i) hw hm (ve := s.n + 1) (by omega)
    have h1 := stepS_good h
    have hk : (s.n + 1).tmod 2 = 0 ∨ (s.n + 1).tmod 2 = 1 := by rw [Int.tmod_eq_emod_of_nonneg (by omega)]; omega
    generalize x.blob kt s.i (s.n + 1) = b at *
    split
    · exact ⟨⟨b, rfl, by omega, bb⟩, hk, h1.a, h1.i, h1.z0, h1.z1⟩
    · have h2 := stepS_good (put_good (k := (s.n + 1).tmod 2) h1 (by omega : b.length ≤ 1000) bb)
      split
      · exact h2
      · exact ⟨h2.h, h2.k, h2.a, h2.i, h2.z0, h2.z1⟩
  · rw [if_pos hm]; exact h
theorem am1 : -1 ≤ (-1 : Int) ∧ (-1 : Int) ≤ 9223372036854775807 := by decide
theorem torn_len (p o : List Int) (hp : p.length ≤ 1000) (ho : o.length ≤ 1000) : (torn p o).length ≤ 1000 := by
  unfold torn
  rw [List.length_append, List.length_drop]
  split <;> omega
theorem byt_take {b : List Int} (c : Nat) (h : Byt b) : Byt (b.take c) := fun x hx => h x (List.mem_of_mem_take hx)
theorem byt_drop {b : List Int} (c : Nat) (h : Byt b) : Byt (b.drop c) := fun x hx => h x (List.mem_of_mem_drop hx)
theorem crashS_good {s : VS} {m : Int} (h : s.good) : (crashS s m).good := by
  unfold crashS
  obtain ⟨bh, zh, lh, yh⟩ := h.h
  obtain ⟨b0, z0, l0, y0⟩ := h.z0
  obtain ⟨b1, z1, l1, y1⟩ := h.z1
  by_cases hz : (byB s.h).length = 0
  · rw [if_pos hz]
    exact ⟨⟨[], rfl, by simp, fun x hx => by simp at hx⟩, h.k, am1, h.i, h.z0, h.z1⟩
  · rw [if_neg hz, byB_of zh]
    have lp : (bh.take (cutN m bh.length).toNat).length ≤ 1000 := by rw [List.length_take]; omega
    have yp := byt_take (cutN m bh.length).toNat yh
    generalize bh.take (cutN m bh.length).toNat = p at *
    rcases h.k with hk | hk
    · have : byB (s.slot s.k) = b0 := by rw [hk]; exact byB_of z0
      rw [this, hk]
      exact ⟨⟨[], rfl, by simp, fun x hx => by simp at hx⟩, .inl hk, am1, h.i, ⟨_, rfl, torn_len _ _ lp l0, byt_app yp (byt_drop _ y0)⟩, h.z1⟩
    · have : byB (s.slot s.k) = b1 := by rw [hk]; exact byB_of z1
      rw [this, hk]
      exact ⟨⟨[], rfl, by simp, fun x hx => by simp at hx⟩, .inr hk, am1, h.i, h.z0, ⟨_, rfl, torn_len _ _ lp l1, byt_app yp (byt_drop _ y1)⟩⟩
theorem walk219 {kt : List Int} {x : V} (h1 : Abs.look l 42 = some SIs) (h3 : Abs.look l 24 = some SVat) (h4 : Abs.look l 49 = some (SBg kt)) (hh : SLd2 kt [x] G Q) : Wf E (specOf l) pf19 [x] G Q := by
  obtain ⟨s, ⟨hs, hg⟩, h⟩ := hh
  obtain ⟨b0, z0, l0, y0⟩ := hg.z0
  obtain ⟨b1, z1, l1, y1⟩ := hg.z1
  cases hd : s.d with
  | false =>
    refine walk19 h1 h3 h4 (.inr ⟨s, b0, b1, ⟨hs, hd, z0, z1, ⟨y0, y1⟩, by omega, by omega⟩, fun G' e => ?_⟩)
    have := h G' e
    unfold loadD at this
    rw [if_neg (by rw [hd]; simp), byB_of z0, byB_of z1] at this
    exact this
  | true =>
    have hs' := hs
    obtain ⟨rfl, hv, hc, hne, hok, _, _⟩ := hs
    have g0 := (by_size z0).1
    have g1 := (by_size z1).1
    unfold VS.val at hv
    rw [hd] at hv
    have := h G (Ext.refl G)
    unfold loadD at this
    rw [if_pos hd] at this
    simp (maxSteps := 1000000) (implicitDefEqProofs := false) only [pf19, h1, SIs_eq, go_sem, ↓reduceIte, decide_eq_true_eq, decide_eq_false_iff_not, ge_iff_le, gt_iff_lt, Int.not_le, Int.not_lt, Bool.not_eq_true', Bool.not_eq_false', Bool.and_eq_true, Bool.and_eq_false_iff]
    refine ⟨true, .inr ⟨s, hs', rfl⟩, ?_⟩
    simp (maxSteps := 1000000) (implicitDefEqProofs := false) only [hv, g0, g1, go_sem, ↓reduceIte, decide_eq_true_eq, decide_eq_false_iff_not, ge_iff_le, gt_iff_lt, Int.not_le, Int.not_lt, Bool.not_eq_true', Bool.not_eq_false', Bool.and_eq_true, Bool.and_eq_false_iff]
    exact this
/-- An act. -/
def AS (e : V) : Prop := ∃ do_ a1 a2 a3 a4 n m k bs, e = .agg [.int .i64 do_, .agg [.int .i64 a1, .int .i64 a2, .int .i64 a3, .arr .u8 32 a4], .int .i64 n, .int .i64 m, .int .i64 k, .sli .u8 bs] ∧ (⟨a1, a2, a3, a4⟩ : SealS).wf ∧ I64 n
def blen : V → Nat
  | .agg [_, _, _, _, _, .sli _ bs] => bs.length
  | _ => 0
def lightA (l : List V) : Bool := ((l.take 41).all fun e => decide (blen e ≤ 1200)) && decide (l.length ≤ 40)
def SLi : Spec1
  | [.sle 40 l], G, Q => ((∀ e ∈ l, AS e) ∧ l.length < 9223372036854775808) ∧ Q (.v (.bool (lightA l))) G
  | _, _, _ => False
theorem SLi_eq {a} : SLi [.sle 40 a] G Q = (((∀ e ∈ a, AS e) ∧ a.length < 9223372036854775808) ∧ Q (.v (.bool (lightA a))) G) := rfl
theorem loop9 {as : List V} {QQ : Ex → St → Prop} (hA : ∀ e ∈ as, AS e) (hl : as.length < 9223372036854775808)
    (hr : ∀ σ : St, σ.G = G → lightA as = false → St.ev σ (.v 2) = some (.v (.bool false)) → QQ .ret σ) (hx : ∀ i ts, ((as.take 41).all fun e => decide (blen e ≤ 1200)) = true → QQ (.exit 0) ⟨[some (.v (.sle 40 as)), none, none, some (.v (.int .i64 i))], ts, [], G⟩) :
    ∀ (r : List V) (i : Nat), (as.take 41).drop i = r → i ≤ (as.take 41).length → (∀ e ∈ (as.take 41).take i, blen e ≤ 1200) → WL (W E C lp9_0) [0, 3] QQ (r.length + 1) ⟨[some (.v (.sle 40 as)), none, none, some (.v (.int .i64 i))], [], [], G⟩ := by
  intro r
  have htl : (as.take 41).length = min 41 as.length := by rw [List.length_take]
  induction r with
  | nil =>
    intro i hr' hi hd
    have hi2 : i = (as.take 41).length := by
      have := congrArg List.length hr'
      rw [List.length_drop, List.length_nil] at this; omega
    refine WL_in lp9_0.eq_1 ?_
    simp (maxSteps := 1000000) (implicitDefEqProofs := false) only [go_sem, ↓reduceIte, decide_eq_true_eq, decide_eq_false_iff_not, ge_iff_le, gt_iff_lt, Int.not_le, Int.not_lt, Bool.not_eq_true', Bool.not_eq_false', Bool.and_eq_true, Bool.and_eq_false_iff]
    have hall : ((as.take 41).all fun e => decide (blen e ≤ 1200)) = true := by
      rw [List.all_eq_true]; intro e he
      rw [hi2, List.take_length] at hd
      exact decide_eq_true (hd e he)
    exact ⟨fun c => ⟨fun c2 => by omega, fun c2 => hx _ _ hall⟩, fun c => hx _ _ hall⟩
  | cons e r ih =>
    intro i hr' hi hd
    have hlen := congrArg List.length hr'
    rw [List.length_drop, List.length_cons] at hlen
    have hg : (as.take 41)[i]? = some e := by
      have : ((as.take 41).drop i)[0]? = some e := by rw [hr']; rfl
      rwa [List.getElem?_drop, Nat.add_zero] at this
    have he : e ∈ as.take 41 := List.mem_of_getElem? hg
    have hgd : as.getD i .nilp = e := by
      rw [List.getElem?_take, if_pos (by omega)] at hg
      rw [List.getD_eq_getElem?_getD, hg]; rfl
    have hr2 : (as.take 41).drop (i + 1) = r := by rw [← List.drop_drop, hr']; rfl
    obtain ⟨do_, a1, a2, a3, a4, n, m, k, bs, rfl, _, _⟩ := hA e (List.mem_of_mem_take he)
    have c1 : (i : Int) < as.length := by omega
    have c2 : (i : Int) ≤ 40 := by omega
    have ew : IntKind.i64.wrap ((i : Int) + 1) = ((i + 1 : Nat) : Int) := by rw [w64 (by omega) (by omega)]; simp
    refine WL_in lp9_0.eq_1 ?_
    by_cases c3 : (1200 : Int) < bs.length
    · simp (maxSteps := 1000000) (implicitDefEqProofs := false) only [c1, c2, hgd, Int.toNat_natCast, c3, go_sem, ↓reduceIte, decide_eq_true_eq, decide_eq_false_iff_not, ge_iff_le, gt_iff_lt, Int.not_le, Int.not_lt, Bool.not_eq_true', Bool.not_eq_false', Bool.and_eq_true, Bool.and_eq_false_iff]
      refine ⟨by omega, hr _ rfl ?_ rfl⟩
      have : ((as.take 41).all fun e => decide (blen e ≤ 1200)) = false := by
        rw [List.all_eq_false]
        exact ⟨_, he, by show ¬ (decide (bs.length ≤ 1200) = true); rw [decide_eq_true_eq]; omega⟩
      unfold lightA; rw [this]; rfl
    · simp (maxSteps := 1000000) (implicitDefEqProofs := false) only [c1, c2, hgd, Int.toNat_natCast, c3, ew, go_sem, ↓reduceIte, decide_eq_true_eq, decide_eq_false_iff_not, ge_iff_le, gt_iff_lt, Int.not_le, Int.not_lt, Bool.not_eq_true', Bool.not_eq_false', Bool.and_eq_true, Bool.and_eq_false_iff]
      refine ⟨by omega, ih (i + 1) hr2 (by omega) (fun e' he' => ?_)⟩
      rw [List.take_add_one, hg] at he'
      rcases List.mem_append.1 he' with h | h
      · exact hd e' h
      · simp only [Option.toList_some, List.mem_singleton] at h
        subst h
        simp only [blen]; omega
theorem walk9 {as : List V} (hA : ∀ e ∈ as, AS e) (hl : as.length < 9223372036854775808) (h : Q (.v (.bool (lightA as))) G) : Wf E C pf9 [.sle 40 as] G Q := by
  simp (maxSteps := 1000000) (implicitDefEqProofs := false) only [pf9, go_sem, ↓reduceIte, decide_eq_true_eq, decide_eq_false_iff_not, ge_iff_le, gt_iff_lt, Int.not_le, Int.not_lt, Bool.not_eq_true', Bool.not_eq_false', Bool.and_eq_true, Bool.and_eq_false_iff]
  refine ⟨(as.take 41).length + 1, ?_⟩
  simp (maxSteps := 1000000) (implicitDefEqProofs := false) only [go_sem, ↓reduceIte, decide_eq_true_eq, decide_eq_false_iff_not, ge_iff_le, gt_iff_lt, Int.not_le, Int.not_lt, Bool.not_eq_true', Bool.not_eq_false', Bool.and_eq_true, Bool.and_eq_false_iff]
  refine loop9 (G := G) hA hl (fun σ hG hf hv => ?_) (fun i ts hall => ?_) (as.take 41) 0 rfl (by omega) (fun e he => by simp at he)
  · show resQ Q σ.G (rD (St.ev σ (.v 2)))
    rw [hG, hv]
    rw [hf] at h
    exact h
  · simp (maxSteps := 1000000) (implicitDefEqProofs := false) only [go_sem, ↓reduceIte, decide_eq_true_eq, decide_eq_false_iff_not, ge_iff_le, gt_iff_lt, Int.not_le, Int.not_lt, Bool.not_eq_true', Bool.not_eq_false', Bool.and_eq_true, Bool.and_eq_false_iff]
    have e : decide ((as.length : Int) ≤ 40) = lightA as := by
      unfold lightA
      rw [hall, Bool.true_and]
      exact decide_eq_decide.2 (by omega)
    rw [e]
    exact h
end Go.Proofs.YtjbglbhcbenhpaaDoor.Sha
