/- Laws over plain values, and what functions of the program hand back; no conditions. -/
import Derived.Test.YtegamlopcdjiaaaDoorUSha6
namespace Go.Proofs.YtegamlopcdjiaaaDoor.Sha
open Go Go.Abs Go.Abs.Sha
set_option linter.unusedSimpArgs false
set_option linter.unusedVariables false
set_option maxRecDepth 100000
def lp119_0 : PC :=
  ((PC.reg [mm 36 9, nn (.t 37) (.bin .lss (.t 36) (.c (.v (.int .i64 32))))]).seq (PC.cond (.t 37) PC.skip (PC.exit 4))).seq ((PC.block 5 (PC.reg [mm 40
    9, mm 41 9, nn (.t 42) (.bin .quo (.t 41) (.c (.v (.int .i64 4)))), nn (.t 43) (.iadrA 8 (.v 3) (.t 42)), nn (.t 44) (.load 1 false (.t 43)), mm 45
    9, nn (.t 46) (.bin .rem (.t 45) (.c (.v (.int .i64 4)))), nn (.t 47) (.bin .mul (.c (.v (.int .i64 8))) (.t 46)), nn (.t 48) (.bin .sub (.c (.v
    (.int .i64 24))) (.t 47)), nn (.t 49) (.conv .u64 (.t 48)), nn (.t 50) (.bin .shr (.t 44) (.t 49)), nn (.t 51) (.conv .u8 (.t 50)), nn (.t 52)
    (.iadrA 32 (.v 8) (.t 40)), nn .no (.store 1 (.t 52) (.t 51))])).seq (PC.reg [mm 38 9, nn (.t 39) (.bin .add (.t 38) (.c (.v (.int .i64 1)))), ma 9
    39]))
def lp119_1 : PC :=
  ((PC.reg [mm 20 7, nn (.t 21) (.bin .lss (.t 20) (.c (.v (.int .i64 64))))]).seq (PC.cond (.t 21) PC.skip (PC.exit 2))).seq ((PC.block 3 (PC.reg [mm 24
    7, mm 25 4, mm 26 5, mm 27 7, nn (.t 28) (.bin .add (.t 26) (.t 27)), nn (.t 29) (.iadrS 1 (.t 25) (.t 28)), nn (.t 30) (.load 1 false (.t 29)), nn
    (.t 31) (.iadrA 64 (.v 6) (.t 24)), nn .no (.store 1 (.t 31) (.t 30))])).seq (PC.reg [mm 22 7, nn (.t 23) (.bin .add (.t 22) (.c (.v (.int .i64
    1)))), ma 7 23]))
def lp119_2 : PC :=
  ((PC.reg [mm 13 5, mm 14 4, nn (.t 15) (.len (.t 14)), nn (.t 16) (.bin .lss (.t 13) (.t 15))]).seq (PC.cond (.t 16) PC.skip (PC.exit 0))).seq
    ((PC.block 1 ((PC.reg [nn (.t 19) (.build (.arr .u8 64 [0, 0, 0, 0, 0, 0, 0, 0, 0, 0, 0, 0, 0, 0, 0, 0, 0, 0, 0, 0, 0, 0, 0, 0, 0, 0, 0, 0, 0, 0, 0,
    0, 0, 0, 0, 0, 0, 0, 0, 0, 0, 0, 0, 0, 0, 0, 0, 0, 0, 0, 0, 0, 0, 0, 0, 0, 0, 0, 0, 0, 0, 0, 0, 0]) []), nn (.v 6) (.alloc (.arr .u8 64 [0, 0, 0, 0,
    0, 0, 0, 0, 0, 0, 0, 0, 0, 0, 0, 0, 0, 0, 0, 0, 0, 0, 0, 0, 0, 0, 0, 0, 0, 0, 0, 0, 0, 0, 0, 0, 0, 0, 0, 0, 0, 0, 0, 0, 0, 0, 0, 0, 0, 0, 0, 0, 0, 0,
    0, 0, 0, 0, 0, 0, 0, 0, 0, 0])), nn .no (.store 64 (.v 6) (.t 19))]).seq (((PC.reg [nn (.v 7) (.mv true (.c (.v (.int .i64 0))))]).seq (PC.block 2
    (PC.loop [2, 3, 4, 5, 6, 7] lp119_1))).seq (PC.reg [nn (.t 32) (.load 8 true (.v 3)), nn (.t 33) (.load 64 true (.v 6)), nn (.t 34) (.call 127 [.t
    32, .t 33]), nn .no (.store 8 (.v 3) (.t 34))])))).seq (PC.reg [mm 17 5, nn (.t 18) (.bin .add (.t 17) (.c (.v (.int .i64 64)))), ma 5 18]))
def pf119 : PF :=
  PF.mk 1 10 54 ((PC.reg [nn (.v 2) (.alloc (.arr .u8 32 [0, 0, 0, 0, 0, 0, 0, 0, 0, 0, 0, 0, 0, 0, 0, 0, 0, 0, 0, 0, 0, 0, 0, 0, 0, 0, 0, 0, 0, 0, 0,
    0]))]).seq ((PC.reg [nn (.t 10) (.build (.arr .u32 8 [0, 0, 0, 0, 0, 0, 0, 0]) [(0, .c (.v (.int .u32 1779033703))), (1, .c (.v (.int .u32
    3144134277))), (2, .c (.v (.int .u32 1013904242))), (3, .c (.v (.int .u32 2773480762))), (4, .c (.v (.int .u32 1359893119))), (5, .c (.v (.int .u32
    2600822924))), (6, .c (.v (.int .u32 528734635))), (7, .c (.v (.int .u32 1541459225)))]), nn (.v 3) (.alloc (.arr .u32 8 [0, 0, 0, 0, 0, 0, 0, 0])),
    nn .no (.store 8 (.v 3) (.t 10))]).seq ((PC.reg [mm 11 0, nn (.t 12) (.call 126 [.t 11]), ma 4 12]).seq (((PC.reg [nn (.v 5) (.mv true (.c (.v (.int
    .i64 0))))]).seq (PC.block 0 (PC.loop [2, 3, 4, 5] lp119_2))).seq ((PC.reg [nn (.t 35) (.build (.arr .u8 32 [0, 0, 0, 0, 0, 0, 0, 0, 0, 0, 0, 0, 0,
    0, 0, 0, 0, 0, 0, 0, 0, 0, 0, 0, 0, 0, 0, 0, 0, 0, 0, 0]) []), nn (.v 8) (.alloc (.arr .u8 32 [0, 0, 0, 0, 0, 0, 0, 0, 0, 0, 0, 0, 0, 0, 0, 0, 0, 0,
    0, 0, 0, 0, 0, 0, 0, 0, 0, 0, 0, 0, 0, 0])), nn .no (.store 32 (.v 8) (.t 35))]).seq (((PC.reg [nn (.v 9) (.mv true (.c (.v (.int .i64 0))))]).seq
    (PC.block 4 (PC.loop [2, 3, 8, 9] lp119_0))).seq ((PC.reg [nn (.t 53) (.load 32 true (.v 8)), nn .no (.store 32 (.v 2) (.t 53))]).seq PC.ret)))))))
    [(.v 2, some (32, true))]
attribute [local irreducible] W Wops WopsD WL Wop WopD
variable {E : Env} {C : Abs.Spec} {l : List (Nat × Spec1)} {G : List (Nat × V)} {Q : R → List (Nat × V) → Prop}
set_option maxHeartbeats 1000000
theorem copy119 {f : List Int} {i n : Nat} {z0 z1 : Bx} {M : List Bx} {QQ : Ex → St → Prop} (hl : 64 * i + 64 ≤ f.length) (hf : f.length < 1000000000000000) (hn : n = M.length + 2)
    (hx : ∀ ts, QQ (.exit 2) ⟨[none, none, some (.lp 0 []), some (.lp 1 []), some (.own (.sli .u8 f)), some (.v (.int .i64 (64 * i : Nat))), some (.lp n []), some (.v (.int .i64 64)), none, none], ts, z0 :: z1 :: (M ++ [⟨false, .arr .u8 64 ((f.drop (64 * i)).take 64)⟩]), G⟩) :
    ∀ (m k : Nat), k + m = 64 → WL (W E C lp119_1) [2, 3, 4, 5, 6, 7] QQ (m + 1) ⟨[none, none, some (.lp 0 []), some (.lp 1 []), some (.own (.sli .u8 f)), some (.v (.int .i64 (64 * i : Nat))), some (.lp n []), some (.v (.int .i64 k)), none, none], [], z0 :: z1 :: (M ++ [⟨false, .arr .u8 64 ((f.drop (64 * i)).take k ++ List.replicate m 0)⟩]), G⟩ := by
  subst hn
  have gn : ∀ x : Bx, (z0 :: z1 :: (M ++ [x]))[M.length + 2]? = some x := fun x => by simp
  have gs : ∀ x y : Bx, (z0 :: z1 :: (M ++ [x])).set (M.length + 2) y = z0 :: z1 :: (M ++ [y]) := fun x y => by simp
  intro m
  induction m with
  | zero =>
    intro k hk
    obtain rfl : k = 64 := by omega
    simp only [List.replicate_zero, List.append_nil]
    refine WL_in lp119_1.eq_1 ?_
    simp (maxSteps := 1000000) (implicitDefEqProofs := false) only [go_sem, ↓reduceIte]
    exact hx _
  | succ m ih =>
    intro k hk
    have hlt : (k : Int) < 64 := by omega
    have hk64 : k < 64 := by omega
    have e1 : IntKind.i64.wrap (((64 * i : Nat) : Int) + (k : Int)) = ((64 * i + k : Nat) : Int) := by rw [w64 (by omega) (by omega)]; simp
    have ew : IntKind.i64.wrap ((k : Int) + 1) = ((k + 1 : Nat) : Int) := by rw [w64 (by omega) (by omega)]; simp
    have hgd : f.getD (64 * i + k) 0 = f[64 * i + k]'(by omega) := by rw [List.getD_eq_getElem?_getD, List.getElem?_eq_getElem (by omega)]; rfl
    have hset : ((f.drop (64 * i)).take k ++ List.replicate (m + 1) 0).set k (f.getD (64 * i + k) 0) = (f.drop (64 * i)).take (k + 1) ++ List.replicate m 0 := by
      have hkl : ((f.drop (64 * i)).take k).length = k := by rw [List.length_take, List.length_drop]; omega
      rw [List.set_append_right _ _ (by omega), hkl, Nat.sub_self, List.replicate_succ, List.set_cons_zero, List.take_add_one, List.getElem?_drop, List.getElem?_eq_getElem (by omega), hgd, List.append_assoc]
      rfl
    have ihh := ih (k + 1) (by omega)
    rw [← hset] at ihh
    generalize (f.drop (64 * i)).take k ++ List.replicate (m + 1) 0 = c at *
    refine WL_in lp119_1.eq_1 ?_
    simp (maxSteps := 1000000) (implicitDefEqProofs := false) only [gn, gs, hlt, hk64, e1, ew, Int.toNat_natCast, go_sem, ↓reduceIte]
    exact ⟨⟨by omega, by omega⟩, by omega, ihh⟩
theorem blocks119 {f kt : List Int} {z0 : Bx} {n : Nat} {QQ : Ex → St → Prop} (h75 : Abs.look l 127 = some (STu kt)) (hf : Byt f) (hn : f.length = 64 * n) (hfl : f.length < 1000000000000000)
    (hx : ∀ ts M, QQ (.exit 0) ⟨[none, none, some (.lp 0 []), some (.lp 1 []), some (.own (.sli .u8 f)), some (.v (.int .i64 (64 * n : Nat))), none, none, none, none], ts, z0 :: ⟨false, .arr .u32 8 (iter kt f start8 n)⟩ :: M, G⟩) :
    ∀ (m i : Nat) (M : List Bx), i + m = n → WL (W E (specOf l) lp119_2) [2, 3, 4, 5] QQ (m + 1) ⟨[none, none, some (.lp 0 []), some (.lp 1 []), some (.own (.sli .u8 f)), some (.v (.int .i64 (64 * i : Nat))), none, none, none, none], [], z0 :: ⟨false, .arr .u32 8 (iter kt f start8 i)⟩ :: M, G⟩ := by
  intro m
  induction m with
  | zero =>
    intro i M hi
    obtain rfl : i = n := by omega
    have hno : ¬ (((64 * i : Nat) : Int) < (f.length : Int)) := by omega
    refine WL_in lp119_2.eq_1 ?_
    simp (maxSteps := 1000000) (implicitDefEqProofs := false) only [hno, go_sem, ↓reduceIte]
    exact hx _ _
  | succ m ih =>
    intro i M hi
    have hlt : ((64 * i : Nat) : Int) < (f.length : Int) := by omega
    have hit := iter_ok (k := kt) (f := f) (s := start8) rfl start8_ok i
    have ew : IntKind.i64.wrap (((64 * i : Nat) : Int) + 64) = ((64 * (i + 1) : Nat) : Int) := by rw [w64 (by omega) (by omega)]; omega
    have gn : ∀ x y z : Bx, (y :: z :: (M ++ [x]))[M.length + 2]? = some x := fun x y z => by simp
    have gn1 : ∀ x y z : Bx, (y :: z :: (M ++ [x]))[M.length + 1 + 1]? = some x := fun x y z => by simp
    have gs : ∀ x y z w : Bx, (z :: w :: (M ++ [x])).set (M.length + 2) y = z :: w :: (M ++ [y]) := fun x y z w => by simp
    have gs1 : ∀ x y z w : Bx, (z :: w :: (M ++ [x])).set (M.length + 1 + 1) y = z :: w :: (M ++ [y]) := fun x y z w => by simp
    refine WL_in lp119_2.eq_1 ?_
    simp (maxSteps := 1000000) (implicitDefEqProofs := false) only [hlt, gn, gs, gn1, gs1, List.cons_append, List.length_cons, go_sem, ↓reduceIte]
    refine ⟨65, ?_⟩
    simp (maxSteps := 1000000) (implicitDefEqProofs := false) only [go_sem, ↓reduceIte]
    refine copy119 (i := i) (by omega) hfl rfl (fun ts => ?_) 64 0 (by omega)
    simp (maxSteps := 1000000) (implicitDefEqProofs := false) only [gn, gs, gn1, gs1, h75, STu_eq, ew, go_sem, ↓reduceIte]
    refine ⟨⟨⟨hit.2, hit.1⟩, byt_take (byt_drop hf _) _, by rw [List.length_take, List.length_drop]; omega⟩, ?_⟩
    exact ih (i + 1) _ (by omega)
theorem bytes119 {s : List Int} {n : Nat} {s0 s1 s2 s3 s4 s5 s6 s7 : Int} {z0 : Bx} {M : List Bx} {QQ : Ex → St → Prop} (hw : ∀ x ∈ s, Wd x) (hn : n = M.length + 2)
    (hx : ∀ ts, QQ (.exit 4) ⟨[none, none, some (.lp 0 []), some (.lp 1 []), none, none, none, none, some (.lp n []), some (.v (.int .i64 32))], ts, z0 :: ⟨false, .arr .u32 8 s⟩ :: (M ++ [⟨false, .arr .u8 32 (s.flatMap bytes4)⟩]), G⟩) (hs : s = [s0, s1, s2, s3, s4, s5, s6, s7]) :
    WL (W E C lp119_0) [2, 3, 8, 9] QQ 33 ⟨[none, none, some (.lp 0 []), some (.lp 1 []), none, none, none, none, some (.lp n []), some (.v (.int .i64 0))], [], z0 :: ⟨false, .arr .u32 8 s⟩ :: (M ++ [⟨false, .arr .u8 32 [0, 0, 0, 0, 0, 0, 0, 0, 0, 0, 0, 0, 0, 0, 0, 0, 0, 0, 0, 0, 0, 0, 0, 0, 0, 0, 0, 0, 0, 0, 0, 0]⟩]), G⟩ := by
  subst hs
  subst hn
  have gn : ∀ x y z : Bx, (y :: z :: (M ++ [x]))[M.length + 2]? = some x := fun x y z => by simp
  have gs : ∀ x y z w : Bx, (z :: w :: (M ++ [x])).set (M.length + 2) y = z :: w :: (M ++ [y]) := fun x y z w => by simp
  have u24 : IntKind.u64.wrap 24 = 24 := by decide
  have u16 : IntKind.u64.wrap 16 = 16 := by decide
  have u8 : IntKind.u64.wrap 8 = 8 := by decide
  have u0 : IntKind.u64.wrap 0 = 0 := by decide
  have f0' : ∀ x : Int, x.fdiv (2 ^ min 0 32) = x := fun x => by rw [show (2 : Int) ^ min 0 32 = 1 from rfl, Int.fdiv_one]
  iterate 33
    refine WL_in lp119_0.eq_1 ?_
    simp (maxSteps := 1000000) (implicitDefEqProofs := false) (disch := omega) only [gn, gs, u24, u16, u8, u0, Int.reduceTDiv, Int.reduceTMod, go_sem, ↓reduceIte, w64]
  have hb : ∀ x, x ∈ [s0, s1, s2, s3, s4, s5, s6, s7] → IntKind.u8.wrap (x.fdiv (2 ^ min 24 32)) = octOf x 0 ∧ IntKind.u8.wrap (x.fdiv (2 ^ min 16 32)) = octOf x 1 ∧ IntKind.u8.wrap (x.fdiv (2 ^ min 8 32)) = octOf x 2 ∧ IntKind.u8.wrap x = octOf x 3 := fun x hx => octOf_eq (hw x hx)
  obtain ⟨a0, a1, a2, a3⟩ := hb s0 (by simp)
  obtain ⟨b0, b1, b2, b3⟩ := hb s1 (by simp)
  obtain ⟨c0, c1, c2, c3⟩ := hb s2 (by simp)
  obtain ⟨d0, d1, d2, d3⟩ := hb s3 (by simp)
  obtain ⟨e0, e1, e2, e3⟩ := hb s4 (by simp)
  obtain ⟨f0, f1, f2, f3⟩ := hb s5 (by simp)
  obtain ⟨g0, g1, g2, g3⟩ := hb s6 (by simp)
  obtain ⟨h0, h1, h2, h3⟩ := hb s7 (by simp)
  simp only [f0', a0, a1, a2, a3, b0, b1, b2, b3, c0, c1, c2, c3, d0, d1, d2, d3, e0, e1, e2, e3, f0, f1, f2, f3, g0, g1, g2, g3, h0, h1, h2, h3]
  exact hx _
theorem walk119 {kt b : List Int} {x : V} (h74 : Abs.look l 126 = some SFi) (h75 : Abs.look l 127 = some (STu kt)) (hx : byV x = some b) (hby : Byt b) (hb : b.length < 100000000000000)
    (h : Q (.v (.arr .u8 32 (sumB kt b))) G) : Wf E (specOf l) pf119 [x] G Q := by
  obtain ⟨n, hn, hsum⟩ : ∃ n, (fillB b).length = 64 * n ∧ sumB kt b = (iter kt (fillB b) start8 n).flatMap bytes4 := ⟨_, fillB_len b, rfl⟩
  have hok := iter_ok (k := kt) (f := fillB b) (s := start8) rfl start8_ok n
  have hfl : (fillB b).length < 1000000000000000 := by rw [fillB_len]; omega
  rcases byV_cases hx with rfl | ⟨rfl, rfl⟩
  all_goals
    simp (maxSteps := 1000000) (implicitDefEqProofs := false) only [pf119, h74, SFi_eq, go_sem, ↓reduceIte]
    refine ⟨_, ⟨rfl, hb⟩, n + 1, ?_⟩
    simp (maxSteps := 1000000) (implicitDefEqProofs := false) only [go_sem, ↓reduceIte]
    refine blocks119 h75 (byt_fill hby) hn hfl (fun ts M => ?_) n 0 [] (by omega)
    have gn : ∀ x y z : Bx, (y :: z :: (M ++ [x]))[M.length + 2]? = some x := fun x y z => by simp
    have gn1 : ∀ x y z : Bx, (y :: z :: (M ++ [x]))[M.length + 1 + 1]? = some x := fun x y z => by simp
    have gs : ∀ x y z w : Bx, (z :: w :: (M ++ [x])).set (M.length + 2) y = z :: w :: (M ++ [y]) := fun x y z w => by simp
    have gs1 : ∀ x y z w : Bx, (z :: w :: (M ++ [x])).set (M.length + 1 + 1) y = z :: w :: (M ++ [y]) := fun x y z w => by simp
    simp (maxSteps := 1000000) (implicitDefEqProofs := false) only [gn, gs, gn1, gs1, List.cons_append, List.length_cons, go_sem, ↓reduceIte]
    refine ⟨33, ?_⟩
    simp (maxSteps := 1000000) (implicitDefEqProofs := false) only [go_sem, ↓reduceIte]
    generalize iter kt (fillB _) start8 n = s at *
    obtain ⟨s0, s1, s2, s3, s4, s5, s6, s7, rfl⟩ : ∃ s0 s1 s2 s3 s4 s5 s6 s7, s = [s0, s1, s2, s3, s4, s5, s6, s7] := by
      match s, hok.1 with
      | [s0, s1, s2, s3, s4, s5, s6, s7], _ => exact ⟨_, _, _, _, _, _, _, _, rfl⟩
    refine bytes119 hok.2 rfl (fun ts => ?_) rfl
    simp (maxSteps := 1000000) (implicitDefEqProofs := false) only [gn, gs, gn1, gs1, List.cons_append, List.length_cons, go_sem, ↓reduceIte]
    rw [hsum] at h
    exact h
end Go.Proofs.YtegamlopcdjiaaaDoor.Sha
