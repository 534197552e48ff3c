/- A function's text over plain values and its text in the model. -/
import Derived.Test.YtcicoepkmiahbaaPlain4
import Derived.ChangeArms
import Derived.OpenShut
import Derived.WalkKit
import Derived.ProofKit
import Derived.ChangeOld
import Derived.Handed
import Derived.Carry
import Derived.WideShapes
import Derived.Laws.BitsLemmas
namespace Go.Abs
open Go Go.RowKit
set_option linter.unusedVariables false
set_option linter.unusedSimpArgs false
section
variable {E : Env} {C : Spec} {c : Ctx} {m : Mem} {σ : St} {a : Act} {w : World}
def exm : Ex → Exit
  | .normal => .normal
  | .exit id => .exit id
  | .ret => .ret
theorem W_sound (hC : C.Sound E) (hdet : C.Det) (hP : c.P = E.P) (htab : c.tab = E.tab) : ∀ (code : Code) (ks : List (List Nat)) (pc : PC) (ks' : List (List Nat)), prepC c.P c.K c.N code ks = some (pc, ks') →
    ∀ (σ : St) (m : Mem) (a : Act) (w : World) (Q : Ex → St → Prop) (QQ : Exit → Act → World → Prop), InvW c m σ a w → W E C pc Q σ →
      (∀ e σ' m' a' w', InvW c m' σ' a' w' → Q e σ' → QQ (exm e) a' w') → code.wp c.P QQ a w
  | .skip, ks, pc, ks', hp, σ, m, a, w, Q, QQ, h, hW, hQ => by
    simp only [prepC] at hp; cases hp; exact wp_skip (hQ _ _ _ _ _ h hW)
  | .ret, ks, pc, ks', hp, σ, m, a, w, Q, QQ, h, hW, hQ => by
    simp only [prepC] at hp; cases hp; exact wp_ret (hQ _ _ _ _ _ h hW)
  | .exit id, ks, pc, ks', hp, σ, m, a, w, Q, QQ, h, hW, hQ => by
    simp only [prepC] at hp; cases hp; exact wp_exit (hQ _ _ _ _ _ h hW)
  | .seq x y, ks, pc, ks', hp, σ, m, a, w, Q, QQ, h, hW, hQ => by
    simp only [prepC] at hp
    cases h1 : prepC c.P c.K c.N x ks with
    | none => simp [h1] at hp
    | some r1 =>
      obtain ⟨px, k1⟩ := r1
      simp only [h1] at hp
      cases h2 : prepC c.P c.K c.N y k1 with
      | none => simp [h2] at hp
      | some r2 =>
        obtain ⟨py, k2⟩ := r2
        simp only [h2] at hp; cases hp
        refine wp_seq (W_sound hC hdet hP htab x ks px k1 h1 σ m a w _ _ h hW ?_)
        intro e σ' m' a' w' h' hq
        cases e with
        | normal => exact W_sound hC hdet hP htab y k1 py _ h2 σ' m' a' w' _ _ h' hq hQ
        | exit id => exact hQ _ _ _ _ _ h' hq
        | ret => exact hQ _ _ _ _ _ h' hq
  | .cond cc x y, ks, pc, ks', hp, σ, m, a, w, Q, QQ, h, hW, hQ => by
    simp only [prepC] at hp
    cases h0 : aoOf c.K cc with
    | none => simp [h0] at hp
    | some ac =>
    cases h1 : prepC c.P c.K c.N x ks with
    | none => simp [h0, h1] at hp
    | some r1 =>
      obtain ⟨px, k1⟩ := r1
      simp only [h0, h1] at hp
      cases h2 : prepC c.P c.K c.N y k1 with
      | none => simp [h2] at hp
      | some r2 =>
        obtain ⟨py, k2⟩ := r2
        simp only [h2] at hp; cases hp
        have hW : condO (asB (σ.ev ac)) (W E C px Q σ) (W E C py Q σ) := hW
        cases hb : asB (σ.ev ac) with
        | none => rw [hb] at hW; exact hW.elim
        | some b =>
          have hB := h.rdB h0 hb
          rw [hb] at hW
          cases b with
          | true => exact wp_cond_true hB (W_sound hC hdet hP htab x ks px k1 h1 σ m a w _ _ h hW hQ)
          | false => exact wp_cond_false hB (W_sound hC hdet hP htab y k1 py _ h2 σ m a w _ _ h hW hQ)
  | .block id x, ks, pc, ks', hp, σ, m, a, w, Q, QQ, h, hW, hQ => by
    simp only [prepC] at hp
    cases h1 : prepC c.P c.K c.N x ks with
    | none => simp [h1] at hp
    | some r1 =>
      obtain ⟨px, k1⟩ := r1
      simp only [h1] at hp; cases hp
      refine wp_block (W_sound hC hdet hP htab x ks px _ h1 σ m a w _ _ h hW ?_)
      intro e σ' m' a' w' h' hq
      cases e with
      | normal => exact hQ _ _ _ _ _ h' hq
      | exit id' =>
        simp only [blkK] at hq
        simp only [exm, Exit.inBlock]
        split at hq
        · rename_i e; rw [if_pos (beq_iff_eq.1 e)]; exact hQ _ _ _ _ _ h' hq
        · rename_i e; rw [if_neg (fun e' => e (beq_iff_eq.2 e'))]; exact hQ _ _ _ _ _ h' hq
      | ret => exact hQ _ _ _ _ _ h' hq
  | .loop x, ks, pc, ks', hp, σ, m, a, w, Q, QQ, h, hW, hQ => by
    cases ks with
    | nil => simp [prepC] at hp
    | cons k ks =>
      simp only [prepC] at hp
      cases h1 : prepC c.P c.K c.N x ks with
      | none => simp [h1] at hp
      | some r1 =>
        obtain ⟨px, k1⟩ := r1
        simp only [h1] at hp; cases hp
        obtain ⟨n, hn⟩ : loopK (W E C px) k Q σ := hW
        refine wp_loop_rounds n ?_
        have key : ∀ n σ m a w, InvW c m σ a w → WL (W E C px) k Q n σ → Code.rounds c.P x QQ n a w := by
          intro n
          induction n with
          | zero => intro σ m a w h hW; exact hW.elim
          | succ n ih =>
            intro σ m a w h hW
            rw [rounds_succ]
            refine W_sound hC hdet hP htab x ks px _ h1 σ m a w _ _ h hW ?_
            intro e σ' m' a' w' h' hq
            cases e with
            | normal => exact ih _ m' a' w' (h'.keep k) hq
            | exit id => exact hQ _ _ _ _ _ h' hq
            | ret => exact hQ _ _ _ _ _ h' hq
        exact key n _ m a w (h.keep k) hn
  | .region id ops draw, ks, pc, ks', hp, σ, m, a, w, Q, QQ, h, hW, hQ => by
    simp only [prepC] at hp
    cases h1 : prepIs c.P c.K c.N draw ops.toList ops.toList with
    | none => simp [h1] at hp
    | some is =>
      simp only [h1] at hp
      cases draw with
      | true =>
        rw [if_pos rfl] at hp
        cases h2 : depsOf ops.toList is with
        | none => simp [h2] at hp
        | some dep =>
          simp only [h2] at hp
          split at hp
          · rename_i hm; cases hp
            exact regD_sound hC hdet hP htab hm h1 h2 h hW (fun σ' m' a' w' h' hq => hQ .normal σ' m' a' w' h' hq)
          · cases hp
      | false =>
        cases hp
        refine wp_region ?_
        have := Wops_sound hC hP htab (QQ := QQ) (KK := Q .normal) (fun σ' m' a' w' h' hq => hQ .normal σ' m' a' w' h' hq) ops.toList 0 is _ m a w (by simp) h1 h.clear hW
        rw [List.range_eq_range']
        simpa using this
  | .scope _, _, _, _, hp, _, _, _, _, _, _, _, _, _ | .goto _, _, _, _, hp, _, _, _, _, _, _, _, _, _ | .label _, _, _, _, hp, _, _, _, _, _, _, _, _, _ => by simp [prepC] at hp
end
end Go.Abs
/- A function comes back where its text over plain values does. -/
namespace Go.Abs
open Go Go.RowKit
set_option linter.unusedVariables false
set_option linter.unusedSimpArgs false
def chkV (n : Nat) (g : Bool) : Option V → Option V
  | some y => if y.size = n ∧ y.isAgg = g then some y else none
  | none => none
def resV (tab : List (Nat × V)) (σ : St) (a : AO) : Option (Nat × Bool) → Option V
  | none => asV (σ.ev a)
  | some (n, g) => chkV n g (subO (atO tab σ (σ.ev a)))
def resVs (tab : List (Nat × V)) (σ : St) : List (AO × Option (Nat × Bool)) → Option (List V)
  | [] => some []
  | (a, q) :: l => consO (resV tab σ a q) (resVs tab σ l)
def rD : Option D → Option R
  | some (.v x) => some (.v x)
  | some (.own x) => some (.own x)
  | _ => none
def rV : Option V → Option R
  | some x => some (.v x)
  | none => none
def rT : Option (List V) → Option R
  | some l => some (.tup l)
  | none => none
def resR (tab : List (Nat × V)) (σ : St) : List (AO × Option (Nat × Bool)) → Option R
  | [] => some (.tup [])
  | [(a, none)] => rD (σ.ev a)
  | [(a, some q)] => rV (resV tab σ a (some q))
  | x :: y :: l => rT (resVs tab σ (x :: y :: l))
def resQ (Q : R → List (Nat × V) → Prop) (G : List (Nat × V)) : Option R → Prop
  | some r => Q r G
  | none => False
def retQ (E : Env) (f : PF) (Q : R → List (Nat × V) → Prop) (e : Ex) (σ : St) : Prop := match e with
  | .exit _ => False
  | .normal => resQ Q σ.G (resR E.tab σ f.res)
  | .ret => resQ Q σ.G (resR E.tab σ f.res)
def initV (K : Nat) (vs : List V) : List (Option D) := vs.map (fun x => some (.v x)) ++ List.replicate (K - vs.length) none
/-- What must hold for the function to come back with 'Q'. -/
def Wf (E : Env) (C : Spec) (f : PF) (vs : List V) (G : List (Nat × V)) (Q : R → List (Nat × V) → Prop) : Prop :=
  W E C f.body (retQ E f Q) ⟨initV f.K vs, [], [], G⟩
section
variable {E : Env} {C : Spec} {c : Ctx} {m : Mem} {σ : St} {a : Act} {w : World}
theorem resV_spec (h : InvW c m σ a w) (htab : c.tab = E.tab) {P : Program} (hP : c.P = P) {rv : ResultVar} {l : List ResultVar} {ar : AO × Option (Nat × Bool)} {l' : List (AO × Option (Nat × Bool))} {y : V}
    (hp : prepRes P c.K (rv :: l) = some (ar :: l')) (hy : resV E.tab σ ar.1 ar.2 = some y) :
    ∃ v, (match rv with
      | .tmp t => (pure (a.tmps.getD t undef) : Sem Value)
      | .cell q t => do loadVar t (← asAddr (a.tmps.getD q undef))).run P w = .ok v w ∧ RepW w (MM c.Mc m.ow m.lo) y v := by
  cases rv with
  | tmp t =>
    simp only [prepRes] at hp
    split at hp
    · rename_i ax r h1 h2; cases hp
      simp only [resV] at hy
      exact ⟨_, rfl, h.rdV h1 hy⟩
    · cases hp
  | cell q t =>
    simp only [prepRes] at hp
    split at hp
    · rename_i ax s r h1 h2 h3; cases hp
      obtain ⟨n, g⟩ := s
      simp only [resV] at hy
      cases hz : subO (atO E.tab σ (σ.ev ax)) with
      | none => simp [hz, chkV] at hy
      | some z =>
        simp only [hz, chkV] at hy
        split at hy
        · rename_i hc; cases hy
          obtain ⟨i, d, s1, s2, s3, s4⟩ := szAg_spec h2
          rw [← htab] at hz
          obtain ⟨q', cs, h5, h6, h7⟩ := h.place h1 hz
          obtain ⟨v, h8, h9⟩ := run_loadVar (P := P) s1 s2 (by rw [s3, hc.1]) (by rw [s4, hc.2]) h6 h7
          have h5 : a.tmps.getD q undef = .pointer (some q') := h5
          refine ⟨v, ?_, h9⟩
          simp only [h5]
          rw [run_bind (x := q') (w1 := w) rfl]; exact h8
        · cases hy
    · cases hp
def resRun (tmps : Array Value) (rv : ResultVar) : Sem Value := match rv with
  | .tmp t => (pure (tmps.getD t undef) : Sem Value)
  | .cell q t => do loadVar t (← asAddr (tmps.getD q undef))
theorem prepRes_cons {P : Program} {K : Nat} {rv : ResultVar} {l : List ResultVar} {ars} (hp : prepRes P K (rv :: l) = some ars) : ∃ ar l', ars = ar :: l' ∧ prepRes P K l = some l' ∧ (∀ t, rv = .tmp t → aoOf K (.tmp t) = some ar.1 ∧ ar.2 = none) ∧ (∀ q t, rv = .cell q t → ∃ s, ar.2 = some s) := by
  cases rv with
  | tmp t =>
    simp only [prepRes] at hp
    split at hp
    · rename_i ax r h1 h2; cases hp; exact ⟨_, _, rfl, h2, fun t' e => by cases e; exact ⟨h1, rfl⟩, fun _ _ e => by cases e⟩
    · cases hp
  | cell q t =>
    simp only [prepRes] at hp
    split at hp
    · rename_i ax s r h1 h2 h3; cases hp; exact ⟨_, _, rfl, h3, fun t' e => (by cases e), fun _ _ e => ⟨_, rfl⟩⟩
    · cases hp
theorem run_resVs (h : InvW c m σ a w) (htab : c.tab = E.tab) {P : Program} (hP : c.P = P) : ∀ {rvs : List ResultVar} {ars : List (AO × Option (Nat × Bool))} {ys : List V}, prepRes P c.K rvs = some ars → resVs E.tab σ ars = some ys →
    ∃ vs, (rvs.mapM (resRun a.tmps)).run P w = .ok vs w ∧ vs.length = ys.length ∧ ∀ (i : Nat) x, ys[i]? = some x → ∃ v, vs[i]? = some v ∧ RepW w (MM c.Mc m.ow m.lo) x v
  | [], ars, ys, hp, hy => by
    simp only [prepRes] at hp; cases hp
    simp only [resVs] at hy; cases hy
    exact ⟨[], rfl, rfl, fun i x hx => by simp at hx⟩
  | rv :: rvs, ars, ys, hp, hy => by
    obtain ⟨ar, l', rfl, hp', _⟩ := prepRes_cons hp
    obtain ⟨ax, q⟩ := ar
    simp only [resVs] at hy
    cases h1 : resV E.tab σ ax q with
    | none => simp [h1, consO] at hy
    | some y =>
      cases h2 : resVs E.tab σ l' with
      | none => simp [h1, h2, consO] at hy
      | some ys' =>
        simp only [h1, h2, consO] at hy; cases hy
        obtain ⟨v, h3, h4⟩ := resV_spec h htab hP hp h1
        obtain ⟨vs, h5, h6, h7⟩ := run_resVs h htab hP hp' h2
        refine ⟨v :: vs, ?_, by simp [h6], ?_⟩
        · have h3 : (resRun a.tmps rv).run P w = .ok v w := h3
          rw [List.mapM_cons, run_bind h3, run_bind h5]; rfl
        · intro i x hx
          cases i with
          | zero => simp at hx; subst hx; exact ⟨v, rfl, h4⟩
          | succ i => simpa using h7 i x (by simpa using hx)
theorem results_eq (fn : Func) (tmps : Array Value) : results fn tmps = (do let vs ← fn.results.mapM (resRun tmps); pure (if h : vs.size = 1 then vs[0] else .tuple vs)) := by
  unfold results; congr 1
theorem run_resR (h : InvW c m σ a w) (htab : c.tab = E.tab) {P : Program} (hP : c.P = P) {fn : Func} {ars : List (AO × Option (Nat × Bool))} {r : R} (hp : prepRes P c.K fn.results.toList = some ars) (hr : resR E.tab σ ars = some r) :
    ∃ v, (results fn a.tmps).run P w = .ok v w ∧ RepR w (MM c.Mc m.ow m.lo) m.ow m.lo r v := by
  have hone : ∀ {rv : ResultVar} {v : Value}, fn.results.toList = [rv] → (resRun a.tmps rv).run P w = .ok v w → (results fn a.tmps).run P w = .ok v w := by
    intro rv v hl hv
    rw [results_eq, Array.mapM_eq_mapM_toList, hl]
    simp only [List.mapM_cons, List.mapM_nil, Sem.run_bind, Sem.run_map, hv, Result.andThen_ok, Sem.run_pure]
    rfl
  have hmany : ∀ {ys : List V}, resVs E.tab σ ars = some ys → ys.length ≠ 1 → ∃ v, (results fn a.tmps).run P w = .ok v w ∧ RepR w (MM c.Mc m.ow m.lo) m.ow m.lo (.tup ys) v := by
    intro ys hy hn
    obtain ⟨vs, h1, h2, h3⟩ := run_resVs h htab hP hp hy
    refine ⟨.tuple vs.toArray, ?_, vs.toArray, rfl, by simp [h2], fun i x hx => by simpa using h3 i x hx⟩
    rw [results_eq, Array.mapM_eq_mapM_toList]
    simp only [Sem.run_bind, Sem.run_map, h1, Result.andThen_ok]
    have : ¬ vs.toArray.size = 1 := by simp; omega
    rw [dif_neg this]; rfl
  cases hl : fn.results.toList with
  | nil =>
    rw [hl] at hp; simp only [prepRes] at hp; cases hp
    simp only [resR] at hr; cases hr
    exact hmany rfl (by simp)
  | cons rv rvs =>
    have hp0 := hp
    rw [hl] at hp
    obtain ⟨ar, l', rfl, hp', ht, hcell⟩ := prepRes_cons hp
    obtain ⟨ax, q⟩ := ar
    cases rvs with
    | nil =>
      simp only [prepRes] at hp'; cases hp'
      cases q with
      | none =>
        cases rv with
        | cell q t => obtain ⟨s, hs⟩ := hcell q t rfl; cases hs
        | tmp t =>
          obtain ⟨h1, _⟩ := ht t rfl
          have hR : (resRun a.tmps (.tmp t)).run P w = .ok (a.tmps.getD t undef) w := rfl
          refine ⟨_, hone hl hR, ?_⟩
          simp only [resR] at hr
          cases hev : σ.ev ax with
          | none => simp [hev, rD] at hr
          | some d =>
            have hrd := h.rd h1 hev
            have e1 : a.eval (.tmp t) = a.tmps.getD t undef := rfl
            rw [e1] at hrd
            rw [hev] at hr
            cases d <;> simp only [rD] at hr <;> try (cases hr; done)
            · cases hr; exact hrd
            · cases hr; exact ⟨hrd.1, _, hrd.2⟩
      | some s =>
        simp only [resR] at hr
        cases hv : resV E.tab σ ax (some s) with
        | none => simp [hv, rV] at hr
        | some y =>
          simp only [hv, rV] at hr; cases hr
          obtain ⟨v, h3, h4⟩ := resV_spec h htab hP hp hv
          exact ⟨v, hone hl h3, h4⟩
    | cons rv2 rvs =>
      obtain ⟨ar2, l2, rfl, hp2, _⟩ := prepRes_cons hp'
      simp only [resR] at hr
      cases hv : resVs E.tab σ ((ax, q) :: ar2 :: l2) with
      | none => simp [hv, rT] at hr
      | some ys =>
        simp only [hv, rT] at hr; cases hr
        refine hmany hv ?_
        simp only [resVs] at hv
        cases e1 : resV E.tab σ ax q with
        | none => simp [e1, consO] at hv
        | some y1 => cases e2 : resV E.tab σ ar2.1 ar2.2 with
          | none => simp [e1, e2, consO] at hv
          | some y2 => cases e3 : resVs E.tab σ l2 with
            | none => simp [e1, e2, e3, consO] at hv
            | some y3 => simp only [e1, e2, e3, consO] at hv; cases hv; simp
end
theorem initV_get {K : Nat} {vs : List V} {t : Nat} {d : D} (h : (initV K vs)[t]? = some (some d)) : ∃ x, vs[t]? = some x ∧ d = .v x := by
  unfold initV at h
  by_cases ht : t < vs.length
  · rw [List.getElem?_append_left (by simpa using ht), List.getElem?_map] at h
    obtain ⟨x, h1, h2⟩ := Option.map_eq_some_iff.1 h
    cases h2; exact ⟨x, h1, rfl⟩
  · rw [List.getElem?_append_right (by simpa using ht)] at h
    obtain ⟨h1, h2⟩ := List.getElem?_eq_some_iff.1 h
    simp at h2
theorem start_inv {E : Env} {Mc : Nat → Nat → Prop} {B : Nat → Bool} {w : World} {args : Array Value} {G : List (Nat × V)} {vs : List V} (hs : Start E Mc B w G) (ha : args.size = vs.length)
    (hv : ∀ (i : Nat) x, vs[i]? = some x → ∃ v, args[i]? = some v ∧ RepW w (MB Mc B) x v) {K N : Nat} (hK : vs.length ≤ K) (hN : K ≤ N) :
    InvW { P := E.P, N := N, K := K, Mc := Mc, tab := E.tab, w0 := w, B0 := fun b => B b = true, G0 := G } { lam := [], ow := owB B, lo := fun _ => 0 } ⟨initV K vs, [], [], G⟩
      { tmps := args ++ Array.replicate (N - args.size) undef, defers := [] } w where
  defers := rfl
  size := by simp; omega
  os := rfl
  tape := rfl
  output := rfl
  grown := Nat.le_refl _
  old := fun _ _ _ => rfl
  oldB := fun _ _ _ hs => ⟨hs, fun _ => rfl⟩
  mine := fun b hb => by
    have hB : B b = true := by
      cases e : B b with
      | true => rfl
      | false => simp [owB, e] at hb
    exact ⟨hs.blk b hB, .inr hB, fun o ho => by have := hs.sep b o ho; rw [hB] at this; cases this⟩
  callers := hs.callers
  lamL := rfl
  holes := fun k hk => by simp at hk
  boxes := fun k r b hk _ => by simp at hk
  objs := fun id x hx => by
    obtain ⟨h1, h2⟩ := hs.objs id x hx
    exact ⟨h1, by simp [owB, h2], rfl⟩
  blks := fun b hb => by simp only [owB]; rw [if_pos hb]
  objlo := fun _ _ => rfl
  objs0 := fun id r hr => ⟨r, hr, V.same_refl _⟩
  tabs := hs.tabs
  vsN := by simp [initV]; omega
  vsK := by simp [initV]; omega
  envV := fun t d hd => by
    obtain ⟨x, h1, rfl⟩ := initV_get hd
    obtain ⟨v, h2, h3⟩ := hv t x h1
    have hlt := (Array.getElem?_eq_some_iff.1 h2).1
    have : (args ++ Array.replicate (N - args.size) undef).getD t undef = v := by
      rw [Array.getD_eq_getD_getElem?, Array.getElem?_append_left hlt, h2]; rfl
    simp only [this]; exact h3
  envT := fun t d hd => by simp [look] at hd
theorem Ret_of_W {E : Env} {C : Spec} (hC : C.Sound E) (hdet : C.Det) {g K : Nat} {ks : List (List Nat)} {f : PF} (hp : prepF E.P g K ks = some f) {vs : List V} {G : List (Nat × V)} {Q : R → List (Nat × V) → Prop} (hn : vs.length = f.n)
    (hW : Wf E C f vs G Q) : Ret E g vs G Q := by
  intro Mc B w args hs ha hv
  unfold prepF at hp
  split at hp
  · rename_i fn hf
    split at hp
    · rename_i code hb
      split at hp
      · rename_i pb pr hc hr
        split at hp
        · rename_i hcond; cases hp
          simp only at hn hW
          obtain ⟨k1, k2, k3⟩ := hcond
          have hi := start_inv hs ha hv (K := K) (N := fn.ntmps) (by omega) k2
          refine calls_of_wp hf hb ?_
          refine W_sound (E := E) (c := { P := E.P, N := fn.ntmps, K := K, Mc := Mc, tab := E.tab, w0 := w, B0 := fun b => B b = true, G0 := G }) hC hdet rfl rfl code ks pb [] hc _ _ _ _ _ _ hi hW ?_
          intro e σ' m' a' w' h' hq
          have hres : resQ Q σ'.G (resR E.tab σ' pr) → a'.defers = [] ∧ ∃ v, (results fn a'.tmps).run E.P w' = .ok v w' ∧ ∃ v' r G' m', (Ending.returned v) = .returned v' ∧ Q r G' ∧ Ended Mc B w G m' w' G' ∧ RepR w' (MM Mc m'.ow m'.lo) m'.ow m'.lo r v' := by
            intro hq
            cases hrr : resR E.tab σ' pr with
            | none => rw [hrr] at hq; exact hq.elim
            | some r =>
              rw [hrr] at hq
              obtain ⟨v, h1, h2⟩ := run_resR h' rfl rfl hr hrr
              refine ⟨h'.defers, v, h1, v, r, σ'.G, m', rfl, hq, ?_, h2⟩
              exact { os := h'.os, tape := h'.tape, output := h'.output, grown := h'.grown
                      old := fun b hb hB => h'.old b hb (by simp [hB])
                      oldB := fun b s hB hs => h'.oldB b s hB hs
                      mine := fun b hb => ⟨(h'.mine b hb).1, (h'.mine b hb).2.1⟩
                      blks := h'.blks, objlo := h'.objlo
                      objs := fun id x hx => ⟨(h'.objs id x hx).1, (h'.objs id x hx).2.1⟩
                      objs0 := h'.objs0 }
          cases e with
          | normal => exact hres hq
          | ret => exact hres hq
          | exit id => exact hq.elim
        · cases hp
      · cases hp
    · cases hp
  · cases hp
end Go.Abs
/- What comes in, as plain values. -/
namespace Go.Abs
open Go Go.RowKit
set_option linter.unusedVariables false
set_option linter.unusedSimpArgs false
def TyL (f : TypeId → V → Prop) : List Field → List V → Prop
  | [], l => l = []
  | fd :: fs, l => ∃ x l', l = x :: l' ∧ f fd.type x ∧ TyL f fs l'
/-- A plain value of a type. -/
def TyV (P : Program) : Nat → TypeId → V → Prop
  | 0, _, _ => False
  | n + 1, t, x => match P.underlying t with
    | some .bool => ∃ b, x = .bool b
    | some (.int k) => ∃ i, x = .int k i ∧ (Lit.int k i).wf = true
    | some .string => ∃ s, x = .str s ∧ s.size ≤ maxLen
    | some (.slice e) => match intK P e with
      | some k => ∃ xs, x = .sli k xs ∧ (∀ i ∈ xs, (Lit.int k i).wf = true) ∧ xs.length ≤ maxLen
      | none => ∃ l, x = .sle (P.cellsOf e) l ∧ (∀ y ∈ l, TyV P n e y) ∧ l.length ≤ maxLen
    | some (.struct fs) => ∃ l, x = .agg l ∧ TyL (TyV P n) fs.toList l
    | some (.array m e) => match intK P e with
      | some k => ∃ xs, x = .arr k m xs ∧ xs.length = m ∧ ∀ i ∈ xs, (Lit.int k i).wf = true
      | none => ∃ l, x = .agg l ∧ l.length = m ∧ ∀ y ∈ l, TyV P n e y
    | _ => False
def offsOk (P : Program) : Nat → List Field → Nat → Bool
  | o, [], n => o == n
  | o, f :: l, n => f.offset == o && offsOk P (o + P.cellsOf f.type) l n
/-- Is the type one of plain data? -/
def TyOk (P : Program) : Nat → TypeId → Bool
  | 0, _ => false
  | n + 1, t => match P.underlying t with
    | some .bool => true
    | some (.int _) => true
    | some .string => true
    | some (.slice e) => TyOk P n e && ((intK P e).isNone || P.cellsOf e == 1)
    | some (.struct fs) => fs.toList.all (fun f => TyOk P n f.type) && offsOk P 0 fs.toList (P.cellsOf t)
    | some (.array m e) => TyOk P n e && P.cellsOf t == m * P.cellsOf e && ((intK P e).isNone || P.cellsOf e == 1)
    | _ => false
section
variable {H : Type} {enc : TypeId × Value → H} {P : Program} {w : World} {sp : Nat → Bool} {held : Bool} {M : Nat → Nat → Prop}
theorem intK_spec {e : TypeId} {k : IntKind} (h : intK P e = some k) : P.underlying e = some (.int k) := by
  unfold intK at h; split at h
  · rename_i k' e'; cases h; exact e'
  · cases h
theorem cells_reads (hM : ∀ b o, ¬ M b o) {a : Addr} {n : Nat} {cs : List Value} (h : w.cells? 0 a n = some cs) : Reads w M a cs ∧ cs.length = n := by
  unfold World.cells? at h
  rw [if_pos (Nat.zero_le _)] at h
  have hl := mapM_some_length h
  refine ⟨fun i v hv => ⟨?_, hM _ _⟩, by simpa using hl⟩
  have hlt := (List.getElem?_eq_some_iff.1 hv).1
  rw [hl] at hlt
  have hlt : i < n := by simpa using hlt
  have := mapM_some_get h i i (by simp [hlt])
  rw [this, hv]
theorem RepE_of (hM : ∀ b o, ¬ M b o) {f : V → Prop} {sz : Nat} : ∀ {n : Nat} {a : Addr}, (∀ i, i < n → ∃ cs x, w.cells? 0 (a.add (i * sz)) sz = some cs ∧ f x ∧ RepV w M x cs) → ∃ l : List V, l.length = n ∧ (∀ y ∈ l, f y) ∧ RepE w M sz l a
  | 0, a, h => ⟨[], rfl, fun y hy => by simp at hy, trivial⟩
  | n + 1, a, h => by
    obtain ⟨cs, x, h1, h2, h3⟩ := h 0 (by omega)
    have h0 : a.add (0 * sz) = a := by simp [Addr.add]
    rw [h0] at h1
    obtain ⟨h4, h5⟩ := cells_reads hM h1
    obtain ⟨l, e1, e2, e3⟩ := RepE_of hM (n := n) (a := a.add sz) (fun i hi => by
      obtain ⟨cs, x, g1, g2, g3⟩ := h (i + 1) (by omega)
      refine ⟨cs, x, ?_, g2, g3⟩
      rw [Addr.add_add, show sz + i * sz = (i + 1) * sz by rw [Nat.add_mul]; omega]; exact g1)
    refine ⟨x :: l, by simp [e1], fun y hy => ?_, cs, h3, h5, h4, e3⟩
    rcases List.mem_cons.1 hy with rfl | hy
    · exact h2
    · exact e2 y hy
theorem RepL_of {f : TypeId → V → Prop} {cs : List Value} : ∀ {fs : List Field} {o : Nat}, offsOk P o fs cs.length = true → o ≤ cs.length →
    (∀ fd ∈ fs, ∃ x, f fd.type x ∧ RepV w M x ((cs.drop fd.offset).take (P.cellsOf fd.type)) ) → ∃ l, TyL f fs l ∧ RepL w M l (cs.drop o)
  | [], o, h, ho, hf => by
    simp only [offsOk, beq_iff_eq] at h
    exact ⟨[], rfl, by simp [RepL, h]⟩
  | fd :: fs, o, h, ho, hf => by
    simp only [offsOk, Bool.and_eq_true, beq_iff_eq] at h
    obtain ⟨x, h1, h2⟩ := hf fd (List.mem_cons_self ..)
    have hle : ∀ {fs : List Field} {o n : Nat}, offsOk P o fs n = true → o ≤ n := by
      intro fs
      induction fs with
      | nil => intro o n h; simp only [offsOk, beq_iff_eq] at h; omega
      | cons g gs ih => intro o n h; simp only [offsOk, Bool.and_eq_true, beq_iff_eq] at h; have := ih h.2; omega
    have h3 := hle h.2
    obtain ⟨l, h4, h5⟩ := RepL_of h.2 h3 (fun g hg => hf g (List.mem_cons_of_mem _ hg))
    rw [h.1] at h2
    refine ⟨x :: l, ⟨x, l, rfl, h1, h4⟩, (cs.drop o).take (P.cellsOf fd.type), cs.drop (o + P.cellsOf fd.type), ?_, h2, h5⟩
    rw [← List.drop_drop, List.take_append_drop]
theorem RepA_of {f : V → Prop} {sz : Nat} : ∀ {n : Nat} {cs : List Value}, cs.length = n * sz → (∀ i, i < n → ∃ x, f x ∧ RepV w M x ((cs.drop (i * sz)).take sz)) → ∃ l : List V, l.length = n ∧ (∀ y ∈ l, f y) ∧ RepL w M l cs
  | 0, cs, h, hf => by
    have : cs = [] := List.length_eq_zero_iff.1 (by omega)
    subst this; exact ⟨[], rfl, fun y hy => by simp at hy, rfl⟩
  | n + 1, cs, h, hf => by
    obtain ⟨x, h1, h2⟩ := hf 0 (by omega)
    simp only [Nat.zero_mul, List.drop_zero] at h2
    obtain ⟨l, e1, e2, e3⟩ := RepA_of (n := n) (sz := sz) (cs := cs.drop sz) (by simp [h, Nat.add_mul]) (fun i hi => by
      obtain ⟨y, g1, g2⟩ := hf (i + 1) (by omega)
      refine ⟨y, g1, ?_⟩
      rw [List.drop_drop, show sz + i * sz = (i + 1) * sz by rw [Nat.add_mul]; omega]; exact g2)
    refine ⟨x :: l, by simp [e1], fun y hy => ?_, cs.take sz, cs.drop sz, by simp, h2, e3⟩
    rcases List.mem_cons.1 hy with rfl | hy
    · exact h1
    · exact e2 y hy
theorem ints_of {k : IntKind} {l : List V} : ∀ {cs : List Value}, (∀ y ∈ l, ∃ i, y = .int k i ∧ (Lit.int k i).wf = true) → RepL w M l cs → ∃ xs : List Int, xs.length = l.length ∧ (∀ i ∈ xs, (Lit.int k i).wf = true) ∧ cs = xs.map (.int k) := by
  induction l with
  | nil => intro cs _ h; exact ⟨[], rfl, fun i hi => by simp at hi, h⟩
  | cons y l ih =>
    intro cs hy h
    obtain ⟨i, rfl, hw⟩ := hy y (List.mem_cons_self ..)
    obtain ⟨c1, c2, rfl, h1, h2⟩ := h
    simp only [RepV] at h1; subst h1
    obtain ⟨xs, e1, e2, rfl⟩ := ih (fun z hz => hy z (List.mem_cons_of_mem _ hz)) h2
    refine ⟨i :: xs, by simp [e1], fun j hj => ?_, rfl⟩
    rcases List.mem_cons.1 hj with rfl | hj
    · exact hw
    · exact e2 j hj
theorem RepE_ints {k : IntKind} : ∀ {l : List V} {a : Addr}, (∀ y ∈ l, ∃ i, y = .int k i ∧ (Lit.int k i).wf = true) → RepE w M 1 l a → ∃ xs : List Int, xs.length = l.length ∧ (∀ i ∈ xs, (Lit.int k i).wf = true) ∧ Reads w M a (xs.map (.int k))
  | [], a, hy, h => ⟨[], rfl, fun i hi => by simp at hi, fun i v hv => by simp at hv⟩
  | y :: l, a, hy, h => by
    obtain ⟨i, rfl, hw⟩ := hy y (List.mem_cons_self ..)
    obtain ⟨c, h1, h2, h3, h4⟩ := h
    simp only [RepV] at h1; subst h1
    obtain ⟨xs, e1, e2, e3⟩ := RepE_ints (fun z hz => hy z (List.mem_cons_of_mem _ hz)) h4
    refine ⟨i :: xs, by simp [e1], fun j hj => ?_, fun j v hv => ?_⟩
    · rcases List.mem_cons.1 hj with rfl | hj
      · exact hw
      · exact e2 j hj
    · cases j with
      | zero => exact h3 0 v (by simpa using hv)
      | succ j =>
        have := e3 j v (by simpa using hv)
        rw [Addr.add_add, Addr.add_block, Addr.add_off, show 1 + j = j + 1 by omega] at this
        rw [show a.off + (j + 1) = a.off + 1 + j by omega]
        exact this
theorem open_V (hM : ∀ b o, ¬ M b o) : ∀ (n : Nat) {fuel : Nat} {t : TypeId} {cs : List Value} {x : DataW H × List MemPlace}, DataW.trod enc P w 0 sp held fuel t cs = some x → TyOk P n t = true → ∃ y, TyV P n t y ∧ RepV w M y cs
  | 0, _, _, _, _, _, hok => by cases hok
  | n + 1, fuel, t, cs, x, h, hok => by
    simp only [TyOk] at hok
    have int : ∀ {k : IntKind} {e : TypeId}, intK P e = some k → ∀ y, TyV P n e y → ∃ i, y = .int k i ∧ (Lit.int k i).wf = true := by
      intro k e hk y hy
      cases n with
      | zero => cases hy
      | succ n => simp only [TyV, intK_spec hk] at hy; exact hy
    split at hok
    · rename_i hu
      obtain ⟨b, rfl, _⟩ := DataW.trod_bool hu h
      exact ⟨.bool b, by simp only [TyV, hu]; exact ⟨b, rfl⟩, rfl⟩
    · rename_i k hu
      obtain ⟨i, rfl, _, hw⟩ := DataW.trod_int hu h
      exact ⟨.int k i, by simp only [TyV, hu]; exact ⟨i, rfl, hw⟩, rfl⟩
    · rename_i hu
      obtain ⟨s, rfl, _, hw⟩ := DataW.trod_string hu h
      exact ⟨.str s, by simp only [TyV, hu]; exact ⟨s, rfl, hw⟩, rfl⟩
    · rename_i e hu
      simp only [Bool.and_eq_true, Bool.or_eq_true, beq_iff_eq] at hok
      obtain ⟨hoke, hsz⟩ := hok
      rcases DataW.trod_slice hu h with ⟨rfl, _⟩ | ⟨a, len, cap, elems, rest, m, _, rfl, _, _, hl, hc, hlen, hel, _, _⟩
      · cases hk : intK P e with
        | some k => exact ⟨.sli k [], by simp only [TyV, hu, hk]; exact ⟨[], rfl, fun i hi => by simp at hi, by simp⟩, none, 0, rfl, by simp, fun _ => rfl, fun p hp => by cases hp⟩
        | none => exact ⟨.sle (P.cellsOf e) [], by simp only [TyV, hu, hk]; exact ⟨[], rfl, fun i hi => by simp at hi, by simp⟩, none, 0, rfl, by simp, fun _ => rfl, fun p hp => by cases hp⟩
      · have key : ∀ i, i < len → ∃ cs x, w.cells? 0 (a.add (i * P.cellsOf e)) (P.cellsOf e) = some cs ∧ TyV P n e x ∧ RepV w M x cs := by
          intro i hi
          have h1 := hel i hi
          rw [List.getElem?_eq_getElem (by omega)] at h1
          obtain ⟨cs', h2, h3⟩ := Option.bind_eq_some_iff.1 h1
          obtain ⟨y, h4, h5⟩ := open_V hM n h3 hoke
          exact ⟨cs', y, h2, h4, h5⟩
        obtain ⟨l, e1, e2, e3⟩ := RepE_of hM key
        cases hk : intK P e with
        | some k =>
          have hs1 : P.cellsOf e = 1 := by rcases hsz with h | h
                                           · rw [hk] at h; cases h
                                           · exact h
          rw [hs1] at e3
          obtain ⟨xs, g1, g2, g3⟩ := RepE_ints (fun y hy => int hk y (e2 y hy)) e3
          refine ⟨.sli k xs, by simp only [TyV, hu, hk]; exact ⟨xs, rfl, g2, by omega⟩, some a, cap, by rw [g1, e1], by omega, (fun h => by cases h), fun p hp => by cases hp; exact g3⟩
        | none =>
          refine ⟨.sle (P.cellsOf e) l, by simp only [TyV, hu, hk]; exact ⟨l, rfl, e2, by omega⟩, some a, cap, by rw [e1], by omega, fun h => (by cases h), fun p hp => by cases hp; exact e3⟩
    · rename_i fs hu
      simp only [Bool.and_eq_true, List.all_eq_true] at hok
      obtain ⟨xs, m, _, _, hcl, hxl, hf⟩ := DataW.trod_struct hu h
      rw [← hcl] at hok
      obtain ⟨l, e1, e2⟩ := RepL_of (P := P) (f := TyV P n) (M := M) (w := w) hok.2 (Nat.zero_le _) (fun fd hfd => by
        obtain ⟨i, hi⟩ := List.mem_iff_getElem?.1 hfd
        have hi' : fs[i]? = some fd := by rw [← Array.getElem?_toList]; exact hi
        have h1 := hf i fd hi'
        have hlt := (Array.getElem?_eq_some_iff.1 hi').1
        rw [List.getElem?_eq_getElem (by omega)] at h1
        exact open_V hM n h1 (hok.1 fd hfd))
      exact ⟨.agg l, by simp only [TyV, hu]; exact ⟨l, rfl, e1⟩, by simpa [RepV] using e2⟩
    · rename_i m e hu
      simp only [Bool.and_eq_true, Bool.or_eq_true, beq_iff_eq] at hok
      obtain ⟨⟨hoke, hct⟩, hsz⟩ := hok
      obtain ⟨xs, q, _, _, hcl, hxl, hf⟩ := DataW.trod_array hu h
      obtain ⟨l, e1, e2, e3⟩ := RepA_of (n := m) (sz := P.cellsOf e) (f := TyV P n e) (M := M) (w := w) (by rw [hcl, hct]) (fun i hi => by
        have h1 := hf i hi
        rw [List.getElem?_eq_getElem (by omega)] at h1
        exact open_V hM n h1 hoke)
      cases hk : intK P e with
      | some k =>
        obtain ⟨xs, g1, g2, rfl⟩ := ints_of (fun y hy => int hk y (e2 y hy)) e3
        exact ⟨.arr k m xs, by simp only [TyV, hu, hk]; exact ⟨xs, rfl, by omega, g2⟩, by simp only [RepV]; exact ⟨by omega, trivial⟩⟩
      | none => exact ⟨.agg l, by simp only [TyV, hu, hk]; exact ⟨l, rfl, e1, e2⟩, by simpa [RepV] using e3⟩
    · cases hok
end
end Go.Abs
/- From what a law's function hands back over plain values to what the given statement asks. -/
namespace Go.Abs
open Go Go.RowKit Go.ChangeShapes Go.WideShapes Go.ChangeAt
set_option linter.unusedVariables false
set_option linter.unusedSimpArgs false
def TyAll (P : Program) (n : Nat) : List TypeId → List V → Prop
  | [], l => l = []
  | t :: ts, l => ∃ x l', l = x :: l' ∧ TyV P n t x ∧ TyAll P n ts l'
section
variable {H : Type} {enc : TypeId × Value → H} {P : Program} {w : World} {sp : Nat → Bool} {held : Bool} {M : Nat → Nat → Prop}
theorem open_W (hM : ∀ b o, ¬ M b o) {n : Nat} {r : Reach} {b0 : Nat} {t : TypeId} {v : Value} {d : DataW H} {ps : List MemPlace} (hv : Value.okWide P w r b0 t v) (h : DataW.Trod enc P w 0 sp held t v d ps) (hok : TyOk P n t = true) :
    ∃ y, TyV P n t y ∧ RepW w M y v := by
  obtain ⟨fuel, hf⟩ := h
  obtain ⟨y, h1, h2⟩ := open_V (M := M) hM n hf hok
  refine ⟨y, h1, ?_⟩
  cases n with
  | zero => cases hok
  | succ n =>
    simp only [TyV] at h1
    have plain : y.isAgg = false → v.cells.toList = [v] → RepW w M y v := by
      intro ha hc
      unfold RepW; rw [if_neg (by rw [ha]; exact Bool.false_ne_true), ← hc]; exact h2
    have agg : y.isAgg = true → (∃ cs, v = .agg cs) → RepW w M y v := by
      rintro ha ⟨cs, rfl⟩
      unfold RepW; rw [if_pos ha]; exact ⟨cs, rfl, h2⟩
    split at h1
    · rename_i hu
      obtain ⟨b, rfl⟩ := h1
      obtain ⟨b', rfl⟩ := okWide_bool hu hv
      exact plain rfl rfl
    · rename_i k hu
      obtain ⟨i, rfl, _⟩ := h1
      obtain ⟨i', rfl⟩ := okWide_int hu hv
      exact plain rfl rfl
    · rename_i hu
      obtain ⟨b, rfl, _⟩ := h1
      obtain ⟨b', rfl⟩ := okWide_string hu hv
      exact plain rfl rfl
    · rename_i e hu
      obtain ⟨a, len, cap, rfl⟩ := okWide_slice hu hv
      split at h1
      · obtain ⟨xs, rfl, _⟩ := h1; exact plain rfl rfl
      · obtain ⟨xs, rfl, _⟩ := h1; exact plain rfl rfl
    · rename_i fs hu
      obtain ⟨l, rfl, _⟩ := h1
      obtain ⟨cs, rfl, _⟩ := okWide_struct hu hv
      exact agg rfl ⟨cs, rfl⟩
    · rename_i m e hu
      have : ∃ cs, v = .agg cs := by
        unfold Value.okWide at hv; rw [hu] at hv
        obtain ⟨cs, rfl, _⟩ := hv; exact ⟨cs, rfl⟩
      split at h1
      · obtain ⟨xs, rfl, _⟩ := h1; exact agg rfl this
      · obtain ⟨xs, rfl, _⟩ := h1; exact agg rfl this
    · exact h1.elim
theorem open_all (hM : ∀ b o, ¬ M b o) {n : Nat} {r : Reach} {b0 : Nat} : ∀ {ts : List TypeId} {vs : List Value} {ds : List (DataW H)} {ps : List MemPlace}, (∀ (j : Nat) t v, ts[j]? = some t → vs[j]? = some v → Value.okWide P w r b0 t v) →
    DataW.TrodAll enc P w 0 sp held ts vs ds ps → (∀ t ∈ ts, TyOk P n t = true) → ∃ xs, TyAll P n ts xs ∧ vs.length = xs.length ∧ ds.length = ts.length ∧ ∀ (i : Nat) x, xs[i]? = some x → ∃ v, vs[i]? = some v ∧ RepW w M x v
  | [], vs, ds, ps, hv, h, hok => by
    obtain ⟨rfl, rfl, rfl⟩ := trodAll_nil h
    exact ⟨[], rfl, rfl, rfl, fun i x hx => by simp at hx⟩
  | t :: ts, vs, ds, ps, hv, h, hok => by
    obtain ⟨v, vs', d, ds', p, q, rfl, rfl, rfl, h1, h2⟩ := trodAll_cons h
    obtain ⟨y, h3, h4⟩ := open_W (M := M) hM (hv 0 t v rfl rfl) h1 (hok t (List.mem_cons_self ..))
    obtain ⟨xs, h5, h6, h7, h8⟩ := open_all hM (fun j t v h1 h2 => hv (j + 1) t v h1 h2) h2 (fun t ht => hok t (List.mem_cons_of_mem _ ht))
    refine ⟨y :: xs, ⟨y, xs, rfl, h3, h5⟩, by simp [h6], by simp [h7], fun i x hx => ?_⟩
    cases i with
    | zero => simp at hx; subst hx; exact ⟨v, rfl, h4⟩
    | succ i => exact h8 i x (by simpa using hx)
theorem stay_all (hl : laidOutB P = true) {W W' : World} (hb : Below W.heap.size W W') : ∀ {ts : List TypeId} {vs : List Value} {ds : List (DataW H)} {ps : List MemPlace}, (∀ t ∈ ts, P.readableRec t = true ∧ t < P.types.size) →
    DataW.TrodAll enc P W 0 (fun _ => true) true ts vs ds ps → DataW.TrodAll enc P W' 0 (fun b => decide (b < W.heap.size)) true ts vs ds ps
  | [], vs, ds, ps, hr, h => by
    obtain ⟨rfl, rfl, rfl⟩ := trodAll_nil h
    exact trodAll_mk0
  | t :: ts, vs, ds, ps, hr, h => by
    obtain ⟨v, vs', d, ds', p, q, rfl, rfl, rfl, h1, h2⟩ := trodAll_cons h
    have lt : ∀ x ∈ p, x.block < W.heap.size := by obtain ⟨m, hm⟩ := h1; exact DataW.trod_lt m _ _ _ hm
    have := hr t (List.mem_cons_self ..)
    exact trodAll_cons_mk (Below.trod hl this.1 this.2 h1 hb lt) (stay_all hl hb (fun t ht => hr t (List.mem_cons_of_mem _ ht)) h2)
end
theorem noM (b o : Nat) : ¬ MB (fun _ _ => False) (fun _ => false) b o := by
  rintro (h | ⟨h, _⟩)
  · exact h
  · simp [owB] at h
/-- What the statement asks of a law's function follows from what the function hands back over plain values. -/
theorem law_lifted {C : Checked} {f : FuncId} {fn : Func} {s : ChangeSpec} {os : Os} {H : Type} {enc : TypeId × Value → H} {conds : List PathCond} {tb : TypeId} {n : Nat} {tab : List (Nat × V)}
    (own : ownKnob C.prog.godebug = none) (started : os.Started) (noInit : C.prog.inits.idxOf? f = none) (hfn : C.prog.funcs[f]? = some fn)
    (hwit : ∃ (w : World) (tape : Tape) (i : Input), w.os = os ∧ (w.forCall tape i).Shaped C.prog ∧ i.vars = [] ∧ Input.okWide C.prog (w.forCall tape i) .any w.heap.size f i ∧
      s.pre6 enc C.prog fn conds false (w.forCall tape i).memory i.args ∧ ({} : Assume).holds C.prog (lone (Frame.enter C.prog f i.args .normal) [] (w.forCall tape i)))
    (hl : laidOutB C.prog = true) (hvars : s.vars = []) (hres : fn.resultTypes = #[tb]) (hb : C.prog.underlying tb = some .bool)
    (hspec : ∀ (H : Type) (ds : List (DataW H)), ds.length = fn.params.toList.length → s.fn H ds = { results := [.lit (.bool true)], args := ds })
    (hrow : ∀ t ∈ fn.params.toList, C.prog.readableRec t = true ∧ t < C.prog.types.size) (hok : ∀ t ∈ fn.params.toList, TyOk C.prog n t = true)
    (htab : ∀ W : World, ∀ g x, look tab g = some x → ∃ cs, Reads W (MB (fun _ _ => False) (fun _ => false)) ⟨g, 0, none⟩ cs ∧ RepV W (MB (fun _ _ => False) (fun _ => false)) x cs)
    (hlaw : ∀ vs : List V, TyAll C.prog n fn.params.toList vs → Ret ⟨C.prog, tab⟩ f vs [] (fun r _ => r = .v (.bool true))) :
    ReturnsInHanded {} C os f .any (s.pre6 enc C.prog fn conds false) (s.post enc C.prog fn false true false false) := by
  refine returnsInHanded_of_change own started noInit hfn hwit ?_
  intro W base args ds gs before hval hW hcnd _
  have hW' := hW
  obtain ⟨p, q, hA, hV, rfl, hfz, hnd⟩ := hW
  rw [hvars] at hV
  obtain ⟨rfl, rfl⟩ := trodVars_none hV
  obtain ⟨xs, h1, h2, h3, h4⟩ := open_all (M := MB (fun _ _ => False) (fun _ => false)) noM (n := n) (fun j t v e1 e2 => hval j t v (by rw [← Array.getElem?_toList]; exact e1) (by rw [← Array.getElem?_toList]; exact e2)) hA hok
  have hR := hlaw xs h1 (fun _ _ => False) (fun _ => false) W args
    { callers := fun _ _ h => h.elim, sep := fun _ _ _ => rfl, blk := fun _ h => by simp at h, objs := fun id x h => by simp [look] at h, tabs := htab W } (by simpa using h2)
    (fun i x hx => by
      obtain ⟨v, e1, e2⟩ := h4 i x hx
      exact ⟨v, by rw [← Array.getElem?_toList]; exact e1, e2⟩)
  refine Calls.mono hR ?_
  rintro e W' ⟨v, r, G', m', rfl, rfl, he, hrep⟩
  have hv : v = .bool true := by
    have : RepW W' _ (.bool true) v := hrep
    simp only [RepW, V.isAgg, Bool.false_eq_true, if_false, RepV, List.cons.injEq, and_true] at this
    exact this
  subst hv
  have bel : Below W.heap.size W W' := ⟨he.os, he.tape, he.output, he.grown, fun k hk => he.old k hk rfl⟩
  refine ⟨_, rfl, ds, [], p ++ [], [], p, [], hW', ?_, ?_, ?_, bel.frame _, fun h => (by cases h)⟩
  · rw [List.append_nil, hspec H ds h3, hres]; exact trodAll_mk1 (shut_bool hb _)
  · rw [List.append_nil, hspec H ds h3]; exact stay_all hl bel hrow hA
  · rw [hvars, List.append_nil, hspec H ds h3]; exact rfl
end Go.Abs
/- Tables of what functions hand back, and aids for going through texts over plain values. -/
namespace Go.Abs
open Go Go.RowKit
set_option linter.unusedVariables false
set_option linter.unusedSimpArgs false
abbrev Spec1 := List V → List (Nat × V) → (R → List (Nat × V) → Prop) → Prop
def Spec1.Det (s : Spec1) : Prop := ∀ vs G Q, s vs G Q → ∃ r G1, Q r G1 ∧ ∀ Q' : R → List (Nat × V) → Prop, Q' r G1 → s vs G Q'
def runO (o : Option Spec1) (vs : List V) (G : List (Nat × V)) (Q : R → List (Nat × V) → Prop) : Prop := match o with
  | some s => s vs G Q
  | none => False
def specOf (l : List (Nat × Spec1)) : Spec := fun g vs G Q => runO (look l g) vs G Q
theorem runO_some {s vs G Q} : runO (some s) vs G Q = s vs G Q := rfl
theorem callK_of {l g vs K σ t} : callK (specOf l) g vs K σ t = runO (look l g) vs σ.G (fun r G' => K (({ σ with G := G' } : St).put t r.D)) := rfl
theorem callD_of {l g vs K σ t} : callD (specOf l) g vs K σ t = runO (look l g) vs σ.G (fun r G' => G' = σ.G ∧ K (σ.put t r.D)) := rfl
/-- A table whose every function hands back what it says. -/
structure Good (E : Env) (l : List (Nat × Spec1)) : Prop where
  snd : (specOf l).Sound E
  det : (specOf l).Det
theorem Good.nil (E : Env) : Good E [] := ⟨fun _ _ _ _ h => False.elim h, fun _ _ _ _ h => False.elim h⟩
theorem Good.cons {E : Env} {l : List (Nat × Spec1)} {g : Nat} {s : Spec1} (h : Good E l) (hd : s.Det) (hs : ∀ vs G Q, s vs G Q → Ret E g vs G Q) : Good E ((g, s) :: l) := by
  refine ⟨fun g' vs G Q hq => ?_, fun g' vs G Q hq => ?_⟩
  · have hq : runO (look ((g, s) :: l) g') vs G Q := hq
    rw [look_cons] at hq
    by_cases e : g' = g
    · subst e; rw [if_pos rfl] at hq; exact hs vs G Q hq
    · rw [if_neg e] at hq; exact h.snd g' vs G Q hq
  · have hq : runO (look ((g, s) :: l) g') vs G Q := hq
    rw [look_cons] at hq
    by_cases e : g' = g
    · subst e; rw [if_pos rfl] at hq
      obtain ⟨r, G1, h1, h2⟩ := hd vs G Q hq
      refine ⟨r, G1, h1, fun Q' hQ' => ?_⟩
      show runO (look ((g', s) :: l) g') vs G Q'
      rw [look_cons, if_pos rfl]; exact h2 Q' hQ'
    · rw [if_neg e] at hq
      obtain ⟨r, G1, h1, h2⟩ := h.det g' vs G Q hq
      refine ⟨r, G1, h1, fun Q' hQ' => ?_⟩
      show runO (look ((g, s) :: l) g') vs G Q'
      rw [look_cons, if_neg e]; exact h2 Q' hQ'
/-- The function comes back where its text does. -/
theorem Good.ret {E : Env} {l : List (Nat × Spec1)} (h : Good E l) {g K : Nat} {ks : List (List Nat)} {f : PF} (hp : prepF E.P g K ks = some f) {vs : List V} {G : List (Nat × V)} {Q : R → List (Nat × V) → Prop} (hn : vs.length = f.n)
    (hW : Wf E (specOf l) f vs G Q) : Ret E g vs G Q := Ret_of_W h.snd h.det hp hn hW
theorem fin {Q : R → List (Nat × V) → Prop} {r r' : R} {G : List (Nat × V)} (h : Q r G) (e : r = r') : Q r' G := e ▸ h
theorem detIf {Q : R → List (Nat × V) → Prop} {c : Prop} {a b : R} {G : List (Nat × V)} (h : (c → Q a G) ∧ (¬ c → Q b G)) : ∃ r G1, Q r G1 ∧ ∀ Q' : R → List (Nat × V) → Prop, Q' r G1 → (c → Q' a G) ∧ (¬ c → Q' b G) := by
  by_cases hc : c
  · exact ⟨a, G, h.1 hc, fun Q' h' => ⟨fun _ => h', fun n => absurd hc n⟩⟩
  · exact ⟨b, G, h.2 hc, fun Q' h' => ⟨fun n => absurd n hc, fun _ => h'⟩⟩
theorem detIf2 {Q : R → List (Nat × V) → Prop} {c c2 : Prop} {a b b2 : R} {G : List (Nat × V)} (h : (c → Q a G) ∧ (¬ c → (c2 → Q b G) ∧ (¬ c2 → Q b2 G))) : ∃ r G1, Q r G1 ∧ ∀ Q' : R → List (Nat × V) → Prop, Q' r G1 → (c → Q' a G) ∧ (¬ c → (c2 → Q' b G) ∧ (¬ c2 → Q' b2 G)) := by
  by_cases hc : c
  · exact ⟨a, G, h.1 hc, fun Q' h' => ⟨fun _ => h', fun n => absurd hc n⟩⟩
  · obtain ⟨r, G1, h1, h2⟩ := detIf (h.2 hc)
    exact ⟨r, G1, h1, fun Q' h' => ⟨fun n => absurd n hc, fun _ => h2 Q' h'⟩⟩
theorem finB {Q : R → List (Nat × V) → Prop} {b b' : Bool} {G : List (Nat × V)} (h : Q (.v (.bool b)) G) (e : b = b') : Q (.v (.bool b')) G := e ▸ h
theorem finI {Q : R → List (Nat × V) → Prop} {k : IntKind} {b b' : Int} {G : List (Nat × V)} (h : Q (.v (.int k b)) G) (e : b = b') : Q (.v (.int k b')) G := e ▸ h
theorem w64 {x : Int} (h1 : -9223372036854775808 ≤ x) (h2 : x ≤ 9223372036854775807) : IntKind.i64.wrap x = x := by
  rw [IntKind.wrap_i64]; omega
theorem wf64 {x : Int} (h : (Lit.int .i64 x).wf = true) : -9223372036854775808 ≤ x ∧ x ≤ 9223372036854775807 := by
  simpa [Lit.wf, IntKind.min, IntKind.max, IntKind.bits, IntKind.signed] using h
theorem wf8 {x : Int} (h : (Lit.int .u8 x).wf = true) : 0 ≤ x ∧ x ≤ 255 := by
  simpa [Lit.wf, IntKind.min, IntKind.max, IntKind.bits, IntKind.signed] using h
theorem Wf_eq {E C f vs G Q} : Wf E C f vs G Q = W E C f.body (retQ E f Q) ⟨initV f.K vs, [], [], G⟩ := rfl
theorem retQ_n {E f Q σ} : retQ E f Q .normal σ = resQ Q σ.G (resR E.tab σ f.res) := rfl
theorem retQ_r {E f Q σ} : retQ E f Q .ret σ = resQ Q σ.G (resR E.tab σ f.res) := rfl
theorem retQ_e {E f Q i σ} : retQ E f Q (.exit i) σ = False := rfl
theorem resQ_some {Q G r} : resQ Q G (some r) = Q r G := rfl
theorem W_loop {E C ks c Q σ} : W E C (.loop ks c) Q σ = loopK (W E C c) ks Q σ := rfl
/-- One round. -/
def rndK (f : (Ex → St → Prop) → St → Prop) (ks : List Nat) (Q : Ex → St → Prop) (n : Nat) (e : Ex) (σ : St) : Prop := match e with
  | .normal => WL f ks Q n (σ.keep ks)
  | e => Q e σ
theorem WL_succ {f ks Q n σ} : WL f ks Q (n + 1) σ = f (rndK f ks Q n) σ := by
  have : (fun e σ' => rndK f ks Q n e σ') = rndK f ks Q n := rfl
  unfold WL
  congr 1
theorem WL_in {E C c c' ks Q n σ} (hc : c = c') (h : W E C c' (rndK (W E C c) ks Q n) σ) : WL (W E C c) ks Q (n + 1) σ := by
  rw [WL_succ]; subst hc; exact h
theorem rndK_n {f ks Q n σ} : rndK f ks Q n .normal σ = WL f ks Q n (σ.keep ks) := rfl
theorem rndK_r {f ks Q n σ} : rndK f ks Q n .ret σ = Q .ret σ := rfl
theorem rndK_e {f ks Q n i σ} : rndK f ks Q n (.exit i) σ = Q (.exit i) σ := rfl
theorem keep_mk {vs ts L G ks} : St.keep ⟨vs, ts, L, G⟩ ks = ⟨keepL 0 ks vs, [], L, G⟩ := rfl
theorem keepL_cons {n ks o l} : keepL n ks (o :: l) = (if ks.contains n = true then o else none) :: keepL (n + 1) ks l := rfl
theorem keepL_nil {n ks} : keepL n ks [] = [] := rfl
theorem get_app {L m : List Bx} {i : Nat} {x : Bx} (h : L[i]? = some x) : (L ++ m)[i]? = some x := by
  rw [List.getElem?_append_left (List.getElem?_eq_some_iff.1 h).1]; exact h
theorem get_set {L : List Bx} {i : Nat} {x y : Bx} (h : L[i]? = some x) : (L.set i y)[i]? = some y := List.getElem?_set_self (List.getElem?_eq_some_iff.1 h).1
theorem get_set_ne {L : List Bx} {i j : Nat} {x y : Bx} (hne : i ≠ j) (h : L[j]? = some x) : (L.set i y)[j]? = some x := by
  rw [List.getElem?_set_ne hne]; exact h
theorem get_last {l : List Bx} {x : Bx} : (l ++ [x])[l.length]? = some x := by simp
theorem set_last {l : List Bx} {x y : Bx} : (l ++ [x]).set l.length y = l ++ [y] := by simp
attribute [go_sem] List.append_nil Nat.add_one_sub_one Nat.add_sub_cancel List.length_append Nat.zero_add get_last set_last runO_some callK_of callD_of Wf_eq retQ_n retQ_r retQ_e resQ_some rndK_n rndK_r rndK_e keep_mk keepL_cons keepL_nil W_loop initV chkV resV resVs rD rV rT resR
attribute [go_sem] eq_self not_true_eq_false not_false_eq_true false_implies true_implies forall_const and_false false_and Bool.true_beq Bool.false_beq beq_true beq_false Bool.not_true Bool.not_false decide_true decide_false Int.reduceToNat Int.reduceLT Int.reduceLE Int.cast_ofNat_Int List.getD_cons_zero List.getD_cons_succ Nat.reduceLT Int.reduceAdd Int.reduceSub Int.reduceMul Nat.reduceSub List.isEmpty_nil List.isEmpty_cons ne_eq not_false_eq_true Int.reduceEq Int.reduceNe Nat.reduceAdd Nat.reduceBEq List.contains_cons List.contains_nil Option.map_some Nat.reduceEqDiff reduceCtorEq List.getElem?_cons_zero List.getElem?_cons_succ List.length_nil List.nil_append List.cons_append List.take_succ_cons List.take_zero true_and List.length_cons and_self Bool.false_eq_true List.set_cons_zero List.set_cons_succ Bool.or_true Bool.false_or Bool.not_true beq_self_eq_true Bool.and_true Bool.true_and Bool.true_or Bool.or_false Bool.and_self Bool.or_self Bool.not_false Bool.false_and Bool.and_false List.map_cons List.map_nil List.replicate_succ List.replicate_zero and_true
end Go.Abs
