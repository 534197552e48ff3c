/- Laws over plain values, and what functions of the program hand back; no conditions. -/
import Derived.Test.YtegamlopcdjiaaaDoorUSha5
namespace Go.Proofs.YtegamlopcdjiaaaDoor.Sha
open Go Go.Abs Go.Abs.Sha
set_option linter.unusedSimpArgs false
set_option linter.unusedVariables false
set_option maxRecDepth 100000
def lp115_0 : PC :=
  (PC.reg [nn (.t 37) (.bin .lss (.v 36) (.c (.v (.int .i64 8))))]).seq ((PC.cond (.t 37) PC.skip (PC.exit 4)).seq ((PC.block 5 ((PC.reg [mm 38 36, nn
    (.t 39) (.idxA 8 (.v 35) (.v 36)), ma 9 38, ma 10 39]).seq (PC.reg [mm 40 9, nn (.t 41) (.bin .mul (.c (.v (.int .i64 4))) (.t 40)), mm 42 9, nn (.t
    43) (.bin .mul (.c (.v (.int .i64 4))) (.t 42)), nn (.t 44) (.bin .add (.t 43) (.c (.v (.int .i64 1)))), mm 45 9, nn (.t 46) (.bin .mul (.c (.v (.int
    .i64 4))) (.t 45)), nn (.t 47) (.bin .add (.t 46) (.c (.v (.int .i64 2)))), mm 48 9, nn (.t 49) (.bin .mul (.c (.v (.int .i64 4))) (.t 48)), nn (.t
    50) (.bin .add (.t 49) (.c (.v (.int .i64 3)))), mm 51 10, nn (.t 52) (.bin .shr (.t 51) (.c (.v (.int .u64 24)))), nn (.t 53) (.conv .u8 (.t 52)),
    mm 54 10, nn (.t 55) (.bin .shr (.t 54) (.c (.v (.int .u64 16)))), nn (.t 56) (.conv .u8 (.t 55)), mm 57 10, nn (.t 58) (.bin .shr (.t 57) (.c (.v
    (.int .u64 8)))), nn (.t 59) (.conv .u8 (.t 58)), mm 60 10, nn (.t 61) (.conv .u8 (.t 60)), nn (.t 62) (.iadrA 32 (.v 8) (.t 41)), nn .no (.store 1
    (.t 62) (.t 53)), nn (.t 63) (.iadrA 32 (.v 8) (.t 44)), nn .no (.store 1 (.t 63) (.t 56)), nn (.t 64) (.iadrA 32 (.v 8) (.t 47)), nn .no (.store 1
    (.t 64) (.t 59)), nn (.t 65) (.iadrA 32 (.v 8) (.t 50)), nn .no (.store 1 (.t 65) (.t 61))]))).seq (PC.reg [nn (.t 66) (.bin .add (.v 36) (.c (.v
    (.int .i64 1)))), nn (.v 36) (.mv false (.t 66))])))
def lp115_1 : PC :=
  ((PC.reg [nn (.v 24) (.mv false (.v 7)), nn (.v 25) (.len (.v 24)), nn (.v 26) (.bin .gtr (.v 25) (.c (.v (.int .i64 0))))]).seq (PC.cond (.v 26)
    PC.skip (PC.exit 2))).seq ((PC.block 3 (PC.regD 0 [nn (.v 29) (.load 8 true (.v 6)), nn (.v 30) (.mv false (.v 7)), nn (.v 31) (.slcS 1 (.v 30) none
    (some (.c (.v (.int .i64 64)))) none), nn (.v 32) (.s2a 64 (.v 31)), nn (.v 33) (.load 64 true (.v 32)), nn (.v 34) (.call 125 [.v 29, .v 33]), nn
    .no (.store 8 (.v 6) (.v 34))] [])).seq (PC.reg [nn (.v 27) (.mv false (.v 7)), nn (.v 28) (.slcS 1 (.v 27) (some (.c (.v (.int .i64 64)))) none
    none), nn (.v 7) (.mv true (.v 28))]))
def lp115_2 : PC :=
  (PC.reg [nn (.v 14) (.bin .lss (.v 13) (.v 12))]).seq ((PC.cond (.v 14) PC.skip (PC.exit 0)).seq ((PC.block 1 ((PC.reg [nn (.v 15) (.iadrS 1 (.v 11)
    (.v 13)), nn (.v 16) (.load 1 false (.v 15)), nn (.v 5) (.mv true (.v 16))]).seq (PC.reg [nn (.v 17) (.mv true (.v 3)), nn (.v 18) (.mv false (.v
    5)), nn (.v 19) (.app (some .u8) 1 1 (.v 17) (.v 18)), nn (.v 3) (.mv true (.v 19))]))).seq (PC.reg [nn (.v 20) (.bin .add (.v 13) (.c (.v (.int .i64
    1)))), nn (.v 13) (.mv false (.v 20))])))
def pf115 : PF :=
  PF.mk 1 37 68 ((PC.reg [nn (.v 2) (.alloc (.arr .u8 32 [0, 0, 0, 0, 0, 0, 0, 0, 0, 0, 0, 0, 0, 0, 0, 0, 0, 0, 0, 0, 0, 0, 0, 0, 0, 0, 0, 0, 0, 0, 0,
    0]))]).seq ((PC.reg [nn (.v 3) (.mv true (.c (.own .nils)))]).seq (((PC.reg [nn (.v 11) (.mv false (.v 0)), nn (.v 12) (.len (.v 11)), nn (.v 13)
    (.mv false (.c (.v (.int .i64 0))))]).seq (PC.block 0 (PC.loop [2, 3, 11, 12, 13] lp115_2))).seq ((PC.reg [nn (.v 21) (.call 123 []), nn (.v 6)
    (.alloc (.arr .u32 8 [0, 0, 0, 0, 0, 0, 0, 0])), nn .no (.store 8 (.v 6) (.v 21))]).seq (((PC.reg [nn (.v 22) (.mv false (.v 3)), nn (.v 23) (.call
    124 [.v 22]), nn (.v 7) (.mv true (.v 23))]).seq (PC.block 2 (PC.loop [2, 6, 7] lp115_1))).seq ((PC.reg [nn (.v 8) (.alloc (.arr .u8 32 [0, 0, 0, 0,
    0, 0, 0, 0, 0, 0, 0, 0, 0, 0, 0, 0, 0, 0, 0, 0, 0, 0, 0, 0, 0, 0, 0, 0, 0, 0, 0, 0]))]).seq (((PC.reg [nn (.v 35) (.load 8 true (.v 6)), nn (.v 36)
    (.mv false (.c (.v (.int .i64 0))))]).seq (PC.block 4 (PC.loop [2, 8, 35, 36] lp115_0))).seq ((PC.reg [nn (.t 67) (.load 32 true (.v 8)), nn .no
    (.store 32 (.v 2) (.t 67))]).seq PC.ret)))))))) [(.v 2, some (32, true))]
attribute [local irreducible] W Wops WopsD WL Wop WopD
variable {E : Env} {C : Abs.Spec} {l : List (Nat × Spec1)} {G : List (Nat × V)} {Q : R → List (Nat × V) → Prop}
set_option maxHeartbeats 1000000
def STu (kt : List Int) : Spec1
  | [.arr .u32 8 s, .arr .u8 64 b], G, Q => (((∀ x ∈ s, Wd x) ∧ s.length = 8) ∧ Byt b ∧ b.length = 64) ∧ Q (.v (.arr .u32 8 (block kt s b))) G
  | _, _, _ => False
theorem STu_eq {kt s b} : STu kt [.arr .u32 8 s, .arr .u8 64 b] G Q = ((((∀ x ∈ s, Wd x) ∧ s.length = 8) ∧ Byt b ∧ b.length = 64) ∧ Q (.v (.arr .u32 8 (block kt s b))) G) := rfl
theorem parts115 {b : List Int} {L : List Bx} {l0 : List V} {QQ : Ex → St → Prop} (hb : b.length < 100000000000000) (hl1 : l0.length < 100000000000000)
    (hx : ∀ ts y, byV y = some b → QQ (.exit 0) ⟨[none, none, some (.lp 0 []), some (.own y), none, none, none, none, none, none, none, some (.v (.sle 1 l0)), some (.v (.int .i64 l0.length)), some (.v (.int .i64 l0.length)), some (.v (.bool false)), none, none, none, none, none, none, none, none, none, none, none, none, none, none, none, none, none, none, none, none, none, none], ts, L, G⟩) :
    ∀ (r : List V) (i : Nat) (y : V) (a c : List Int), l0.drop i = r → i + r.length = l0.length → byV y = some a → catL r = some c → b = a ++ c →
      WL (W E C lp115_2) [2, 3, 11, 12, 13] QQ (r.length + 1) ⟨[none, none, some (.lp 0 []), some (.own y), none, none, none, none, none, none, none, some (.v (.sle 1 l0)), some (.v (.int .i64 l0.length)), some (.v (.int .i64 i)), none, none, none, none, none, none, none, none, none, none, none, none, none, none, none, none, none, none, none, none, none, none, none], [], L, G⟩ := by
  intro r
  induction r with
  | nil =>
    intro i y a c hr hi hy hc hbc
    have hi2 : i = l0.length := by simpa using hi
    subst hi2
    cases hc
    rw [List.append_nil] at hbc; subst hbc
    have hno : ¬ (l0.length : Int) < (l0.length : Int) := by omega
    refine WL_in lp115_2.eq_1 ?_
    simp (maxSteps := 1000000) (implicitDefEqProofs := false) only [hno, go_sem, ↓reduceIte]
    exact hx _ y hy
  | cons e r ih =>
    intro i y a c hr hi hy hc hbc
    obtain ⟨a2, c2, he, hc2, rfl⟩ := catL_cons hc
    have hlt : i < l0.length := by simp only [List.length_cons] at hi; omega
    have hlt' : (i : Int) < (l0.length : Int) := by omega
    have hg : l0.getD i .nilp = e := by
      have : (l0.drop i)[0]? = some e := by rw [hr]; rfl
      rw [List.getElem?_drop, Nat.add_zero] at this
      rw [List.getD_eq_getElem?_getD, this]; rfl
    have hr2 : l0.drop (i + 1) = r := by rw [← List.drop_drop, hr]; rfl
    have ew : IntKind.i64.wrap ((i : Int) + 1) = ((i + 1 : Nat) : Int) := by rw [w64 (by omega) (by omega)]; simp
    subst hbc
    simp only [List.length_append] at hb
    have ihh := fun y' hy' => ih (i + 1) y' (a ++ a2) c2 hr2 (by simp only [List.length_cons] at hi; omega) hy' hc2 (by rw [List.append_assoc])
    refine WL_in lp115_2.eq_1 ?_
    rcases byV_cases hy with rfl | ⟨rfl, rfl⟩ <;> rcases byV_cases he with rfl | ⟨rfl, rfl⟩
    · simp (maxSteps := 1000000) (implicitDefEqProofs := false) only [hlt', hg, Int.toNat_natCast, ew, go_sem, ↓reduceIte]
      exact ⟨by omega, by omega, ihh _ rfl⟩
    · simp (maxSteps := 1000000) (implicitDefEqProofs := false) only [hlt', hg, Int.toNat_natCast, ew, go_sem, ↓reduceIte]
      exact ⟨by omega, by omega, ihh _ (by rw [List.append_nil]; rfl)⟩
    · simp (maxSteps := 1000000) (implicitDefEqProofs := false) only [hlt', hg, Int.toNat_natCast, ew, go_sem, ↓reduceIte]
      exact ⟨by omega, by omega, ihh _ rfl⟩
    · simp (maxSteps := 1000000) (implicitDefEqProofs := false) only [hlt', hg, Int.toNat_natCast, ew, go_sem, ↓reduceIte]
      exact ⟨by omega, ihh _ rfl⟩
theorem blocks115 {f kt : List Int} {z0 : Bx} {n : Nat} {QQ : Ex → St → Prop} (h73 : Abs.look l 125 = some (STu kt)) (hf : Byt f) (hn : f.length = 64 * n)
    (hx : ∀ ts d, QQ (.exit 2) ⟨[none, none, some (.lp 0 []), none, none, none, some (.lp 1 []), d, none, none, none, none, none, none, none, none, none, none, none, none, none, none, none, none, some (.v (.sli .u8 [])), some (.v (.int .i64 0)), some (.v (.bool false)), none, none, none, none, none, none, none, none, none, none], ts, [z0, ⟨false, .arr .u32 8 (iter kt f start8 n)⟩], G⟩) :
    ∀ (m i : Nat) (dd : D), i + m = n → dd = .own (.sli .u8 (f.drop (64 * i))) ∨ dd = .v (.sli .u8 (f.drop (64 * i))) →
      WL (W E (specOf l) lp115_1) [2, 6, 7] QQ (m + 1) ⟨[none, none, some (.lp 0 []), none, none, none, some (.lp 1 []), some dd, none, none, none, none, none, none, none, none, none, none, none, none, none, none, none, none, none, none, none, none, none, none, none, none, none, none, none, none, none], [], [z0, ⟨false, .arr .u32 8 (iter kt f start8 i)⟩], G⟩ := by
  intro m
  induction m with
  | zero =>
    intro i dd hi hd
    obtain rfl : i = n := by omega
    have he : f.drop (64 * i) = [] := List.drop_eq_nil_of_le (by omega)
    rw [he] at hd
    refine WL_in lp115_1.eq_1 ?_
    rcases hd with rfl | rfl
    · simp (maxSteps := 1000000) (implicitDefEqProofs := false) only [go_sem, ↓reduceIte]
      exact hx _ _
    · simp (maxSteps := 1000000) (implicitDefEqProofs := false) only [go_sem, ↓reduceIte]
      exact hx _ _
  | succ m ih =>
    intro i dd hi hd
    have hdl : (f.drop (64 * i)).length = 64 * (m + 1) := by rw [List.length_drop]; omega
    have hpos : (0 : Int) < ((f.drop (64 * i)).length : Int) := by omega
    have hit := iter_ok (k := kt) (f := f) (s := start8) rfl start8_ok i
    have ihh := fun dd h => ih (i + 1) dd (by omega) h
    have hdd : f.drop (64 * (i + 1)) = (f.drop (64 * i)).drop 64 := by rw [List.drop_drop]; congr 1
    rw [hdd] at ihh
    have hsame : iter kt f start8 (i + 1) = block kt (iter kt f start8 i) ((f.drop (64 * i)).take 64) := rfl
    rw [hsame] at ihh
    have hby := byt_drop hf (64 * i)
    generalize f.drop (64 * i) = g at *
    have ht : (g.take 64).take 64 = g.take 64 := by rw [List.take_take]; rfl
    have ht2 : g.take g.length = g := List.take_length
    refine WL_in lp115_1.eq_1 ?_
    rcases hd with rfl | rfl
    all_goals
      simp (maxSteps := 1000000) (implicitDefEqProofs := false) only [h73, STu_eq, hpos, ht, ht2, Int.toNat_natCast, List.drop_zero, go_sem, ↓reduceIte]
      refine ⟨by omega, by simp only [List.length_take]; omega, ⟨⟨hit.2, hit.1⟩, byt_take hby _, by simp only [List.length_take]; omega⟩, ⟨by omega, by omega⟩, ?_⟩
      exact ihh _ (Or.inr rfl)
theorem bytes115 {s : List Int} {s0 s1 s2 s3 s4 s5 s6 s7 : Int} {z0 z1 : Bx} {QQ : Ex → St → Prop} (hl : s.length = 8) (hw : ∀ x ∈ s, Wd x)
    (hx : ∀ ts, QQ (.exit 4) ⟨[none, none, some (.lp 0 []), none, none, none, none, none, some (.lp 2 []), none, none, none, none, none, none, none, none, none, none, none, none, none, none, none, none, none, none, none, none, none, none, none, none, none, none, some (.v (.arr .u32 8 [s0, s1, s2, s3, s4, s5, s6, s7])), some (.v (.int .i64 8))], ts, [z0, z1, ⟨false, .arr .u8 32 (s.flatMap bytes4)⟩], G⟩) (hs : s = [s0, s1, s2, s3, s4, s5, s6, s7]) :
    WL (W E C lp115_0) [2, 8, 35, 36] QQ 9 ⟨[none, none, some (.lp 0 []), none, none, none, none, none, some (.lp 2 []), none, none, none, none, none, none, none, none, none, none, none, none, none, none, none, none, none, none, none, none, none, none, none, none, none, none, some (.v (.arr .u32 8 [s0, s1, s2, s3, s4, s5, s6, s7])), some (.v (.int .i64 0))], [], [z0, z1, ⟨false, .arr .u8 32 [0, 0, 0, 0, 0, 0, 0, 0, 0, 0, 0, 0, 0, 0, 0, 0, 0, 0, 0, 0, 0, 0, 0, 0, 0, 0, 0, 0, 0, 0, 0, 0]⟩], G⟩ := by
  subst hs
  iterate 9
    refine WL_in lp115_0.eq_1 ?_
    simp (maxSteps := 1000000) (implicitDefEqProofs := false) (disch := omega) only [go_sem, ↓reduceIte, w64]
  have hb : ∀ x, x ∈ [s0, s1, s2, s3, s4, s5, s6, s7] → IntKind.u8.wrap (x.fdiv (2 ^ min 24 32)) = octOf x 0 ∧ IntKind.u8.wrap (x.fdiv (2 ^ min 16 32)) = octOf x 1 ∧ IntKind.u8.wrap (x.fdiv (2 ^ min 8 32)) = octOf x 2 ∧ IntKind.u8.wrap x = octOf x 3 := fun x hx => octOf_eq (hw x hx)
  obtain ⟨a0, a1, a2, a3⟩ := hb s0 (by simp)
  obtain ⟨b0, b1, b2, b3⟩ := hb s1 (by simp)
  obtain ⟨c0, c1, c2, c3⟩ := hb s2 (by simp)
  obtain ⟨d0, d1, d2, d3⟩ := hb s3 (by simp)
  obtain ⟨e0, e1, e2, e3⟩ := hb s4 (by simp)
  obtain ⟨f0, f1, f2, f3⟩ := hb s5 (by simp)
  obtain ⟨g0, g1, g2, g3⟩ := hb s6 (by simp)
  obtain ⟨h0, h1, h2, h3⟩ := hb s7 (by simp)
  rw [a0, a1, a2, a3, b0, b1, b2, b3, c0, c1, c2, c3, d0, d1, d2, d3, e0, e1, e2, e3, f0, f1, f2, f3, g0, g1, g2, g3, h0, h1, h2, h3]
  exact hx _
theorem walk115 {kt b : List Int} {x : V} (h71 : Abs.look l 123 = some SSt) (h72 : Abs.look l 124 = some SFi) (h73 : Abs.look l 125 = some (STu kt)) (hx : partsV x = some b) (hxl : x.len < 100000000000000) (hby : Byt b) (hb : b.length < 100000000000000)
    (h : Q (.v (.arr .u8 32 (sumB kt b))) G) : Wf E (specOf l) pf115 [x] G Q := by
  obtain ⟨n, hn, hsum⟩ : ∃ n, (fillB b).length = 64 * n ∧ sumB kt b = (iter kt (fillB b) start8 n).flatMap bytes4 := ⟨_, fillB_len b, rfl⟩
  have hok := iter_ok (k := kt) (f := fillB b) (s := start8) rfl start8_ok n
  rcases partsV_cases hx with ⟨l0, rfl, hc⟩ | ⟨rfl, rfl⟩
  · simp (maxSteps := 1000000) (implicitDefEqProofs := false) only [pf115, go_sem, ↓reduceIte]
    refine ⟨l0.length + 1, ?_⟩
    simp (maxSteps := 1000000) (implicitDefEqProofs := false) only [go_sem, ↓reduceIte]
    refine parts115 hb hxl (fun ts y hy => ?_) l0 0 .nils [] b rfl (by omega) rfl hc rfl
    rcases byV_cases hy with rfl | ⟨rfl, rfl⟩
    all_goals
      simp (maxSteps := 1000000) (implicitDefEqProofs := false) only [h71, h72, SSt_eq, SFi_eq, go_sem, ↓reduceIte]
      refine ⟨_, ⟨rfl, hb⟩, n + 1, ?_⟩
      simp (maxSteps := 1000000) (implicitDefEqProofs := false) only [go_sem, ↓reduceIte]
      refine blocks115 h73 (byt_fill hby) hn (fun ts d => ?_) n 0 _ (by omega) (Or.inl rfl)
      simp (maxSteps := 1000000) (implicitDefEqProofs := false) only [go_sem, ↓reduceIte]
      refine ⟨9, ?_⟩
      simp (maxSteps := 1000000) (implicitDefEqProofs := false) only [go_sem, ↓reduceIte]
      generalize iter kt (fillB _) start8 n = s at *
      obtain ⟨s0, s1, s2, s3, s4, s5, s6, s7, rfl⟩ : ∃ s0 s1 s2 s3 s4 s5 s6 s7, s = [s0, s1, s2, s3, s4, s5, s6, s7] := by
        match s, hok.1 with
        | [s0, s1, s2, s3, s4, s5, s6, s7], _ => exact ⟨_, _, _, _, _, _, _, _, rfl⟩
      refine bytes115 hok.1 hok.2 (fun ts => ?_) rfl
      simp (maxSteps := 1000000) (implicitDefEqProofs := false) only [go_sem, ↓reduceIte]
      rw [hsum] at h
      exact h
  · simp (maxSteps := 1000000) (implicitDefEqProofs := false) only [pf115, go_sem, ↓reduceIte]
    refine ⟨1, ?_⟩
    simp (maxSteps := 1000000) (implicitDefEqProofs := false) only [go_sem, ↓reduceIte]
    refine WL_in lp115_2.eq_1 ?_
    simp (maxSteps := 1000000) (implicitDefEqProofs := false) only [h71, h72, SSt_eq, SFi_eq, go_sem, ↓reduceIte]
    refine ⟨_, ⟨rfl, hb⟩, n + 1, ?_⟩
    simp (maxSteps := 1000000) (implicitDefEqProofs := false) only [go_sem, ↓reduceIte]
    refine blocks115 h73 (byt_fill hby) hn (fun ts d => ?_) n 0 _ (by omega) (Or.inl rfl)
    simp (maxSteps := 1000000) (implicitDefEqProofs := false) only [go_sem, ↓reduceIte]
    refine ⟨9, ?_⟩
    simp (maxSteps := 1000000) (implicitDefEqProofs := false) only [go_sem, ↓reduceIte]
    generalize iter kt (fillB _) start8 n = s at *
    obtain ⟨s0, s1, s2, s3, s4, s5, s6, s7, rfl⟩ : ∃ s0 s1 s2 s3 s4 s5 s6 s7, s = [s0, s1, s2, s3, s4, s5, s6, s7] := by
      match s, hok.1 with
      | [s0, s1, s2, s3, s4, s5, s6, s7], _ => exact ⟨_, _, _, _, _, _, _, _, rfl⟩
    refine bytes115 hok.1 hok.2 (fun ts => ?_) rfl
    simp (maxSteps := 1000000) (implicitDefEqProofs := false) only [go_sem, ↓reduceIte]
    rw [hsum] at h
    exact h
end Go.Proofs.YtegamlopcdjiaaaDoor.Sha
