/- What comes in, as plain values. -/
import Derived.Test.YtpedaeaikbmbnaaDoorPlain4
import Derived.ChangeArms
import Derived.OpenShut
import Derived.WalkKit
import Derived.ProofKit
import Derived.ChangeOld
import Derived.Handed
import Derived.Carry
import Derived.WideShapes
import Derived.Laws.BitsLemmas
import Derived.LaidMore
import Derived.MakeChecks
import Derived.FnData
import Derived.Stop.Joined
namespace Go.Abs
open Go Go.RowKit
set_option linter.unusedVariables false
set_option linter.unusedSimpArgs false
def TyL (f : TypeId → V → Prop) : List Field → List V → Prop
  | [], l => l = []
  | fd :: fs, l => ∃ x l', l = x :: l' ∧ f fd.type x ∧ TyL f fs l'
/-- A plain value of a type. -/
def TyV (P : Program) : Nat → TypeId → V → Prop
  | 0, _, _ => False
  | n + 1, t, x => match P.underlying t with
    | some .bool => ∃ b, x = .bool b
    | some (.int k) => ∃ i, x = .int k i ∧ (Lit.int k i).wf = true
    | some .string => ∃ s, x = .str s ∧ s.size ≤ maxLen
    | some (.slice e) => match intK P e with
      | some k => ∃ xs, x = .sli k xs ∧ (∀ i ∈ xs, (Lit.int k i).wf = true) ∧ xs.length ≤ maxLen
      | none => ∃ l, x = .sle (P.cellsOf e) l ∧ (∀ y ∈ l, TyV P n e y) ∧ l.length ≤ maxLen
    | some (.struct fs) => ∃ l, x = .agg l ∧ TyL (TyV P n) fs.toList l
    | some (.array m e) => match intK P e with
      | some k => ∃ xs, x = .arr k m xs ∧ xs.length = m ∧ ∀ i ∈ xs, (Lit.int k i).wf = true
      | none => ∃ l, x = .agg l ∧ l.length = m ∧ ∀ y ∈ l, TyV P n e y
    | _ => False
def offsOk (P : Program) : Nat → List Field → Nat → Bool
  | o, [], n => o == n
  | o, f :: l, n => f.offset == o && offsOk P (o + P.cellsOf f.type) l n
/-- Is the type one of plain data? -/
def TyOk (P : Program) : Nat → TypeId → Bool
  | 0, _ => false
  | n + 1, t => match P.underlying t with
    | some .bool => true
    | some (.int _) => true
    | some .string => true
    | some (.slice e) => TyOk P n e && ((intK P e).isNone || P.cellsOf e == 1)
    | some (.struct fs) => fs.toList.all (fun f => TyOk P n f.type) && offsOk P 0 fs.toList (P.cellsOf t)
    | some (.array m e) => TyOk P n e && P.cellsOf t == m * P.cellsOf e && ((intK P e).isNone || P.cellsOf e == 1)
    | _ => false
section
variable {H : Type} {enc : TypeId × Value → H} {P : Program} {w : World} {sp : Nat → Bool} {held : Bool} {M : Nat → Nat → Prop}
theorem intK_spec {e : TypeId} {k : IntKind} (h : intK P e = some k) : P.underlying e = some (.int k) := by
  unfold intK at h; split at h
  · rename_i k' e'; cases h; exact e'
  · cases h
theorem cells_reads (hM : ∀ b o, ¬ M b o) {a : Addr} {n : Nat} {cs : List Value} (h : w.cells? 0 a n = some cs) : Reads w M a cs ∧ cs.length = n := by
  unfold World.cells? at h
  rw [if_pos (Nat.zero_le _)] at h
  have hl := mapM_some_length h
  refine ⟨fun i v hv => ⟨?_, hM _ _⟩, by simpa using hl⟩
  have hlt := (List.getElem?_eq_some_iff.1 hv).1
  rw [hl] at hlt
  have hlt : i < n := by simpa using hlt
  have := mapM_some_get h i i (by simp [hlt])
  rw [this, hv]
theorem RepE_of (hM : ∀ b o, ¬ M b o) {f : V → Prop} {sz : Nat} : ∀ {n : Nat} {a : Addr}, (∀ i, i < n → ∃ cs x, w.cells? 0 (a.add (i * sz)) sz = some cs ∧ f x ∧ RepV w M x cs) → ∃ l : List V, l.length = n ∧ (∀ y ∈ l, f y) ∧ RepE w M sz l a
  | 0, a, h => ⟨[], rfl, fun y hy => by simp at hy, trivial⟩
  | n + 1, a, h => by
    obtain ⟨cs, x, h1, h2, h3⟩ := h 0 (by omega)
    have h0 : a.add (0 * sz) = a := by simp [Addr.add]
    rw [h0] at h1
    obtain ⟨h4, h5⟩ := cells_reads hM h1
    obtain ⟨l, e1, e2, e3⟩ := RepE_of hM (n := n) (a := a.add sz) (fun i hi => by
      obtain ⟨cs, x, g1, g2, g3⟩ := h (i + 1) (by omega)
      refine ⟨cs, x, ?_, g2, g3⟩
      rw [Addr.add_add, show sz + i * sz = (i + 1) * sz by rw [Nat.add_mul]; omega]; exact g1)
    refine ⟨x :: l, by simp [e1], fun y hy => ?_, cs, h3, h5, h4, e3⟩
    rcases List.mem_cons.1 hy with rfl | hy
    · exact h2
    · exact e2 y hy
theorem RepL_of {f : TypeId → V → Prop} {cs : List Value} : ∀ {fs : List Field} {o : Nat}, offsOk P o fs cs.length = true → o ≤ cs.length →
    (∀ fd ∈ fs, ∃ x, f fd.type x ∧ RepV w M x ((cs.drop fd.offset).take (P.cellsOf fd.type)) ) → ∃ l, TyL f fs l ∧ RepL w M l (cs.drop o)
  | [], o, h, ho, hf => by
    simp only [offsOk, beq_iff_eq] at h
    exact ⟨[], rfl, by simp [RepL, h]⟩
  | fd :: fs, o, h, ho, hf => by
    simp only [offsOk, Bool.and_eq_true, beq_iff_eq] at h
    obtain ⟨x, h1, h2⟩ := hf fd (List.mem_cons_self ..)
    have hle : ∀ {fs : List Field} {o n : Nat}, offsOk P o fs n = true → o ≤ n := by
      intro fs
      induction fs with
      | nil => intro o n h; simp only [offsOk, beq_iff_eq] at h; omega
      | cons g gs ih => intro o n h; simp only [offsOk, Bool.and_eq_true, beq_iff_eq] at h; have := ih h.2; omega
    have h3 := hle h.2
    obtain ⟨l, h4, h5⟩ := RepL_of h.2 h3 (fun g hg => hf g (List.mem_cons_of_mem _ hg))
    rw [h.1] at h2
    refine ⟨x :: l, ⟨x, l, rfl, h1, h4⟩, (cs.drop o).take (P.cellsOf fd.type), cs.drop (o + P.cellsOf fd.type), ?_, h2, h5⟩
    rw [← List.drop_drop, List.take_append_drop]
theorem RepA_of {f : V → Prop} {sz : Nat} : ∀ {n : Nat} {cs : List Value}, cs.length = n * sz → (∀ i, i < n → ∃ x, f x ∧ RepV w M x ((cs.drop (i * sz)).take sz)) → ∃ l : List V, l.length = n ∧ (∀ y ∈ l, f y) ∧ RepL w M l cs
  | 0, cs, h, hf => by
    have : cs = [] := List.length_eq_zero_iff.1 (by omega)
    subst this; exact ⟨[], rfl, fun y hy => by simp at hy, rfl⟩
  | n + 1, cs, h, hf => by
    obtain ⟨x, h1, h2⟩ := hf 0 (by omega)
    simp only [Nat.zero_mul, List.drop_zero] at h2
    obtain ⟨l, e1, e2, e3⟩ := RepA_of (n := n) (sz := sz) (cs := cs.drop sz) (by simp [h, Nat.add_mul]) (fun i hi => by
      obtain ⟨y, g1, g2⟩ := hf (i + 1) (by omega)
      refine ⟨y, g1, ?_⟩
      rw [List.drop_drop, show sz + i * sz = (i + 1) * sz by rw [Nat.add_mul]; omega]; exact g2)
    refine ⟨x :: l, by simp [e1], fun y hy => ?_, cs.take sz, cs.drop sz, by simp, h2, e3⟩
    rcases List.mem_cons.1 hy with rfl | hy
    · exact h1
    · exact e2 y hy
theorem ints_of {k : IntKind} {l : List V} : ∀ {cs : List Value}, (∀ y ∈ l, ∃ i, y = .int k i ∧ (Lit.int k i).wf = true) → RepL w M l cs → ∃ xs : List Int, xs.length = l.length ∧ (∀ i ∈ xs, (Lit.int k i).wf = true) ∧ cs = xs.map (.int k) := by
  induction l with
  | nil => intro cs _ h; exact ⟨[], rfl, fun i hi => by simp at hi, h⟩
  | cons y l ih =>
    intro cs hy h
    obtain ⟨i, rfl, hw⟩ := hy y (List.mem_cons_self ..)
    obtain ⟨c1, c2, rfl, h1, h2⟩ := h
    simp only [RepV] at h1; subst h1
    obtain ⟨xs, e1, e2, rfl⟩ := ih (fun z hz => hy z (List.mem_cons_of_mem _ hz)) h2
    refine ⟨i :: xs, by simp [e1], fun j hj => ?_, rfl⟩
    rcases List.mem_cons.1 hj with rfl | hj
    · exact hw
    · exact e2 j hj
theorem RepE_ints {k : IntKind} : ∀ {l : List V} {a : Addr}, (∀ y ∈ l, ∃ i, y = .int k i ∧ (Lit.int k i).wf = true) → RepE w M 1 l a → ∃ xs : List Int, xs.length = l.length ∧ (∀ i ∈ xs, (Lit.int k i).wf = true) ∧ Reads w M a (xs.map (.int k))
  | [], a, hy, h => ⟨[], rfl, fun i hi => by simp at hi, fun i v hv => by simp at hv⟩
  | y :: l, a, hy, h => by
    obtain ⟨i, rfl, hw⟩ := hy y (List.mem_cons_self ..)
    obtain ⟨c, h1, h2, h3, h4⟩ := h
    simp only [RepV] at h1; subst h1
    obtain ⟨xs, e1, e2, e3⟩ := RepE_ints (fun z hz => hy z (List.mem_cons_of_mem _ hz)) h4
    refine ⟨i :: xs, by simp [e1], fun j hj => ?_, fun j v hv => ?_⟩
    · rcases List.mem_cons.1 hj with rfl | hj
      · exact hw
      · exact e2 j hj
    · cases j with
      | zero => exact h3 0 v (by simpa using hv)
      | succ j =>
        have := e3 j v (by simpa using hv)
        rw [Addr.add_add, Addr.add_block, Addr.add_off, show 1 + j = j + 1 by omega] at this
        rw [show a.off + (j + 1) = a.off + 1 + j by omega]
        exact this
theorem open_V (hM : ∀ b o, ¬ M b o) : ∀ (n : Nat) {fuel : Nat} {t : TypeId} {cs : List Value} {x : DataW H × List MemPlace}, DataW.trod enc P w 0 sp held fuel t cs = some x → TyOk P n t = true → ∃ y, TyV P n t y ∧ RepV w M y cs
  | 0, _, _, _, _, _, hok => by cases hok
  | n + 1, fuel, t, cs, x, h, hok => by
    simp only [TyOk] at hok
    have int : ∀ {k : IntKind} {e : TypeId}, intK P e = some k → ∀ y, TyV P n e y → ∃ i, y = .int k i ∧ (Lit.int k i).wf = true := by
      intro k e hk y hy
      cases n with
      | zero => cases hy
      | succ n => simp only [TyV, intK_spec hk] at hy; exact hy
    split at hok
    · rename_i hu
      obtain ⟨b, rfl, _⟩ := DataW.trod_bool hu h
      exact ⟨.bool b, by simp only [TyV, hu]; exact ⟨b, rfl⟩, rfl⟩
    · rename_i k hu
      obtain ⟨i, rfl, _, hw⟩ := DataW.trod_int hu h
      exact ⟨.int k i, by simp only [TyV, hu]; exact ⟨i, rfl, hw⟩, rfl⟩
    · rename_i hu
      obtain ⟨s, rfl, _, hw⟩ := DataW.trod_string hu h
      exact ⟨.str s, by simp only [TyV, hu]; exact ⟨s, rfl, hw⟩, rfl⟩
    · rename_i e hu
      simp only [Bool.and_eq_true, Bool.or_eq_true, beq_iff_eq] at hok
      obtain ⟨hoke, hsz⟩ := hok
      rcases DataW.trod_slice hu h with ⟨rfl, _⟩ | ⟨a, len, cap, elems, rest, m, _, rfl, _, _, hl, hc, hlen, hel, _, _⟩
      · cases hk : intK P e with
        | some k => exact ⟨.sli k [], by simp only [TyV, hu, hk]; exact ⟨[], rfl, fun i hi => by simp at hi, by simp⟩, none, 0, rfl, by simp, fun _ => rfl, fun p hp => by cases hp⟩
        | none => exact ⟨.sle (P.cellsOf e) [], by simp only [TyV, hu, hk]; exact ⟨[], rfl, fun i hi => by simp at hi, by simp⟩, none, 0, rfl, by simp, fun _ => rfl, fun p hp => by cases hp⟩
      · have key : ∀ i, i < len → ∃ cs x, w.cells? 0 (a.add (i * P.cellsOf e)) (P.cellsOf e) = some cs ∧ TyV P n e x ∧ RepV w M x cs := by
          intro i hi
          have h1 := hel i hi
          rw [List.getElem?_eq_getElem (by omega)] at h1
          obtain ⟨cs', h2, h3⟩ := Option.bind_eq_some_iff.1 h1
          obtain ⟨y, h4, h5⟩ := open_V hM n h3 hoke
          exact ⟨cs', y, h2, h4, h5⟩
        obtain ⟨l, e1, e2, e3⟩ := RepE_of hM key
        cases hk : intK P e with
        | some k =>
          have hs1 : P.cellsOf e = 1 := by rcases hsz with h | h
                                           · rw [hk] at h; cases h
                                           · exact h
          rw [hs1] at e3
          obtain ⟨xs, g1, g2, g3⟩ := RepE_ints (fun y hy => int hk y (e2 y hy)) e3
          refine ⟨.sli k xs, by simp only [TyV, hu, hk]; exact ⟨xs, rfl, g2, by omega⟩, some a, cap, by rw [g1, e1], by omega, (fun h => by cases h), fun p hp => by cases hp; exact g3⟩
        | none =>
          refine ⟨.sle (P.cellsOf e) l, by simp only [TyV, hu, hk]; exact ⟨l, rfl, e2, by omega⟩, some a, cap, by rw [e1], by omega, fun h => (by cases h), fun p hp => by cases hp; exact e3⟩
    · rename_i fs hu
      simp only [Bool.and_eq_true, List.all_eq_true] at hok
      obtain ⟨xs, m, _, _, hcl, hxl, hf⟩ := DataW.trod_struct hu h
      rw [← hcl] at hok
      obtain ⟨l, e1, e2⟩ := RepL_of (P := P) (f := TyV P n) (M := M) (w := w) hok.2 (Nat.zero_le _) (fun fd hfd => by
        obtain ⟨i, hi⟩ := List.mem_iff_getElem?.1 hfd
        have hi' : fs[i]? = some fd := by rw [← Array.getElem?_toList]; exact hi
        have h1 := hf i fd hi'
        have hlt := (Array.getElem?_eq_some_iff.1 hi').1
        rw [List.getElem?_eq_getElem (by omega)] at h1
        exact open_V hM n h1 (hok.1 fd hfd))
      exact ⟨.agg l, by simp only [TyV, hu]; exact ⟨l, rfl, e1⟩, by simpa [RepV] using e2⟩
    · rename_i m e hu
      simp only [Bool.and_eq_true, Bool.or_eq_true, beq_iff_eq] at hok
      obtain ⟨⟨hoke, hct⟩, hsz⟩ := hok
      obtain ⟨xs, q, _, _, hcl, hxl, hf⟩ := DataW.trod_array hu h
      obtain ⟨l, e1, e2, e3⟩ := RepA_of (n := m) (sz := P.cellsOf e) (f := TyV P n e) (M := M) (w := w) (by rw [hcl, hct]) (fun i hi => by
        have h1 := hf i hi
        rw [List.getElem?_eq_getElem (by omega)] at h1
        exact open_V hM n h1 hoke)
      cases hk : intK P e with
      | some k =>
        obtain ⟨xs, g1, g2, rfl⟩ := ints_of (fun y hy => int hk y (e2 y hy)) e3
        exact ⟨.arr k m xs, by simp only [TyV, hu, hk]; exact ⟨xs, rfl, by omega, g2⟩, by simp only [RepV]; exact ⟨by omega, trivial⟩⟩
      | none => exact ⟨.agg l, by simp only [TyV, hu, hk]; exact ⟨l, rfl, e1, e2⟩, by simpa [RepV] using e3⟩
    · cases hok
end
end Go.Abs
namespace Go.Abs
open Go Go.RowKit Go.ChangeShapes Go.WideShapes Go.ChangeAt
set_option linter.unusedVariables false
set_option linter.unusedSimpArgs false
def TyAll (P : Program) (n : Nat) : List TypeId → List V → Prop
  | [], l => l = []
  | t :: ts, l => ∃ x l', l = x :: l' ∧ TyV P n t x ∧ TyAll P n ts l'
section
variable {H : Type} {enc : TypeId × Value → H} {P : Program} {w : World} {sp : Nat → Bool} {held : Bool} {M : Nat → Nat → Prop}
theorem open_W (hM : ∀ b o, ¬ M b o) {n : Nat} {r : Reach} {b0 : Nat} {t : TypeId} {v : Value} {d : DataW H} {ps : List MemPlace} (hv : Value.okWide P w r b0 t v) (h : DataW.Trod enc P w 0 sp held t v d ps) (hok : TyOk P n t = true) :
    ∃ y, TyV P n t y ∧ RepW w M y v := by
  obtain ⟨fuel, hf⟩ := h
  obtain ⟨y, h1, h2⟩ := open_V (M := M) hM n hf hok
  refine ⟨y, h1, ?_⟩
  cases n with
  | zero => cases hok
  | succ n =>
    simp only [TyV] at h1
    have plain : y.isAgg = false → v.cells.toList = [v] → RepW w M y v := by
      intro ha hc
      unfold RepW; rw [if_neg (by rw [ha]; exact Bool.false_ne_true), ← hc]; exact h2
    have agg : y.isAgg = true → (∃ cs, v = .agg cs) → RepW w M y v := by
      rintro ha ⟨cs, rfl⟩
      unfold RepW; rw [if_pos ha]; exact ⟨cs, rfl, h2⟩
    split at h1
    · rename_i hu
      obtain ⟨b, rfl⟩ := h1
      obtain ⟨b', rfl⟩ := okWide_bool hu hv
      exact plain rfl rfl
    · rename_i k hu
      obtain ⟨i, rfl, _⟩ := h1
      obtain ⟨i', rfl⟩ := okWide_int hu hv
      exact plain rfl rfl
    · rename_i hu
      obtain ⟨b, rfl, _⟩ := h1
      obtain ⟨b', rfl⟩ := okWide_string hu hv
      exact plain rfl rfl
    · rename_i e hu
      obtain ⟨a, len, cap, rfl⟩ := okWide_slice hu hv
      split at h1
      · obtain ⟨xs, rfl, _⟩ := h1; exact plain rfl rfl
      · obtain ⟨xs, rfl, _⟩ := h1; exact plain rfl rfl
    · rename_i fs hu
      obtain ⟨l, rfl, _⟩ := h1
      obtain ⟨cs, rfl, _⟩ := okWide_struct hu hv
      exact agg rfl ⟨cs, rfl⟩
    · rename_i m e hu
      have : ∃ cs, v = .agg cs := by
        unfold Value.okWide at hv; rw [hu] at hv
        obtain ⟨cs, rfl, _⟩ := hv; exact ⟨cs, rfl⟩
      split at h1
      · obtain ⟨xs, rfl, _⟩ := h1; exact agg rfl this
      · obtain ⟨xs, rfl, _⟩ := h1; exact agg rfl this
    · exact h1.elim
theorem open_all (hM : ∀ b o, ¬ M b o) {n : Nat} {r : Reach} {b0 : Nat} : ∀ {ts : List TypeId} {vs : List Value} {ds : List (DataW H)} {ps : List MemPlace}, (∀ (j : Nat) t v, ts[j]? = some t → vs[j]? = some v → Value.okWide P w r b0 t v) →
    DataW.TrodAll enc P w 0 sp held ts vs ds ps → (∀ t ∈ ts, TyOk P n t = true) → ∃ xs, TyAll P n ts xs ∧ vs.length = xs.length ∧ ds.length = ts.length ∧ ∀ (i : Nat) x, xs[i]? = some x → ∃ v, vs[i]? = some v ∧ RepW w M x v
  | [], vs, ds, ps, hv, h, hok => by
    obtain ⟨rfl, rfl, rfl⟩ := trodAll_nil h
    exact ⟨[], rfl, rfl, rfl, fun i x hx => by simp at hx⟩
  | t :: ts, vs, ds, ps, hv, h, hok => by
    obtain ⟨v, vs', d, ds', p, q, rfl, rfl, rfl, h1, h2⟩ := trodAll_cons h
    obtain ⟨y, h3, h4⟩ := open_W (M := M) hM (hv 0 t v rfl rfl) h1 (hok t (List.mem_cons_self ..))
    obtain ⟨xs, h5, h6, h7, h8⟩ := open_all hM (fun j t v h1 h2 => hv (j + 1) t v h1 h2) h2 (fun t ht => hok t (List.mem_cons_of_mem _ ht))
    refine ⟨y :: xs, ⟨y, xs, rfl, h3, h5⟩, by simp [h6], by simp [h7], fun i x hx => ?_⟩
    cases i with
    | zero => simp at hx; subst hx; exact ⟨v, rfl, h4⟩
    | succ i => exact h8 i x (by simpa using hx)
theorem stay_all (hl : laidOutB P = true) {W W' : World} (hb : Below W.heap.size W W') : ∀ {ts : List TypeId} {vs : List Value} {ds : List (DataW H)} {ps : List MemPlace}, (∀ t ∈ ts, P.readableRec t = true ∧ t < P.types.size) →
    DataW.TrodAll enc P W 0 (fun _ => true) true ts vs ds ps → DataW.TrodAll enc P W' 0 (fun b => decide (b < W.heap.size)) true ts vs ds ps
  | [], vs, ds, ps, hr, h => by
    obtain ⟨rfl, rfl, rfl⟩ := trodAll_nil h
    exact trodAll_mk0
  | t :: ts, vs, ds, ps, hr, h => by
    obtain ⟨v, vs', d, ds', p, q, rfl, rfl, rfl, h1, h2⟩ := trodAll_cons h
    have lt : ∀ x ∈ p, x.block < W.heap.size := by obtain ⟨m, hm⟩ := h1; exact DataW.trod_lt m _ _ _ hm
    have := hr t (List.mem_cons_self ..)
    exact trodAll_cons_mk (Below.trod hl this.1 this.2 h1 hb lt) (stay_all hl hb (fun t ht => hr t (List.mem_cons_of_mem _ ht)) h2)
end
theorem noM (b o : Nat) : ¬ MB (fun _ _ => False) (fun _ => false) b o := by
  rintro (h | ⟨h, _⟩)
  · exact h
  · simp [owB] at h
/-- What the statement asks of a law's function follows from what the function hands back over plain values. -/
theorem law_lifted {C : Checked} {f : FuncId} {fn : Func} {s : ChangeSpec} {os : Os} {H : Type} {enc : TypeId × Value → H} {conds : List PathCond} {tb : TypeId} {n : Nat} {tab : List (Nat × V)}
    (own : ownKnob C.prog.godebug = none) (started : os.Started) (noInit : C.prog.inits.idxOf? f = none) (hfn : C.prog.funcs[f]? = some fn)
    (hwit : ∃ (w : World) (tape : Tape) (i : Input), w.os = os ∧ (w.forCall tape i).Shaped C.prog ∧ i.vars = [] ∧ Input.okWide C.prog (w.forCall tape i) .any w.heap.size f i ∧
      s.pre6 enc C.prog fn conds false (w.forCall tape i).memory i.args ∧ ({} : Assume).holds C.prog (lone (Frame.enter C.prog f i.args .normal) [] (w.forCall tape i)))
    (hl : laidOutB C.prog = true) (hvars : s.vars = []) (hres : fn.resultTypes = #[tb]) (hb : C.prog.underlying tb = some .bool)
    (hspec : ∀ (H : Type) (ds : List (DataW H)), ds.length = fn.params.toList.length → s.fn H ds = { results := [.lit (.bool true)], args := ds })
    (hrow : ∀ t ∈ fn.params.toList, C.prog.readableRec t = true ∧ t < C.prog.types.size) (hok : ∀ t ∈ fn.params.toList, TyOk C.prog n t = true)
    (htab : ∀ W : World, ∀ g x, look tab g = some x → ∃ cs, Reads W (MB (fun _ _ => False) (fun _ => false)) ⟨g, 0, none⟩ cs ∧ RepV W (MB (fun _ _ => False) (fun _ => false)) x cs)
    (hlaw : ∀ vs : List V, TyAll C.prog n fn.params.toList vs → Ret ⟨C.prog, tab⟩ f vs [] (fun r _ => r = .v (.bool true))) :
    ReturnsInHanded {} C os f .any (s.pre6 enc C.prog fn conds false) (s.post enc C.prog fn false true false false) := by
  refine returnsInHanded_of_change own started noInit hfn hwit ?_
  intro W base args ds gs before hval hW hcnd _
  have hW' := hW
  obtain ⟨p, q, hA, hV, rfl, hfz, hnd⟩ := hW
  rw [hvars] at hV
  obtain ⟨rfl, rfl⟩ := trodVars_none hV
  obtain ⟨xs, h1, h2, h3, h4⟩ := open_all (M := MB (fun _ _ => False) (fun _ => false)) noM (n := n) (fun j t v e1 e2 => hval j t v (by rw [← Array.getElem?_toList]; exact e1) (by rw [← Array.getElem?_toList]; exact e2)) hA hok
  have hR := hlaw xs h1 (fun _ _ => False) (fun _ => false) W args
    { callers := fun _ _ h => h.elim, sep := fun _ _ _ => rfl, blk := fun _ h => by simp at h, objs := fun id x h => by simp [look] at h, tabs := htab W } (by simpa using h2)
    (fun i x hx => by
      obtain ⟨v, e1, e2⟩ := h4 i x hx
      exact ⟨v, by rw [← Array.getElem?_toList]; exact e1, e2⟩)
  refine Calls.mono hR ?_
  rintro e W' ⟨v, r, G', m', rfl, rfl, he, hrep⟩
  have hv : v = .bool true := by
    have : RepW W' _ (.bool true) v := hrep
    simp only [RepW, V.isAgg, Bool.false_eq_true, if_false, RepV, List.cons.injEq, and_true] at this
    exact this
  subst hv
  have bel : Below W.heap.size W W' := ⟨he.os, he.tape, he.output, he.grown, fun k hk => he.old k hk rfl⟩
  refine ⟨_, rfl, ds, [], p ++ [], [], p, [], hW', ?_, ?_, ?_, bel.frame _, fun h => (by cases h)⟩
  · rw [List.append_nil, hspec H ds h3, hres]; exact trodAll_mk1 (shut_bool hb _)
  · rw [List.append_nil, hspec H ds h3]; exact stay_all hl bel hrow hA
  · rw [hvars, List.append_nil, hspec H ds h3]; exact rfl
end Go.Abs
namespace Go.Abs
open Go Go.RowKit
set_option linter.unusedVariables false
set_option linter.unusedSimpArgs false
abbrev Spec1 := List V → List (Nat × V) → (R → List (Nat × V) → Prop) → Prop
def Spec1.Det (s : Spec1) : Prop := ∀ vs G (Q : R → Prop), s vs G (fun r G' => G' = G ∧ Q r) → ∃ r, Q r ∧ ∀ Q' : R → List (Nat × V) → Prop, Q' r G → s vs G Q'
def runO (o : Option Spec1) (vs : List V) (G : List (Nat × V)) (Q : R → List (Nat × V) → Prop) : Prop := match o with
  | some s => s vs G Q
  | none => False
def specOf (l : List (Nat × Spec1)) : Spec := fun g vs G Q => runO (look l g) vs G Q
theorem runO_some {s vs G Q} : runO (some s) vs G Q = s vs G Q := rfl
theorem callK_of {l g vs K σ t} : callK (specOf l) g vs K σ t = runO (look l g) vs σ.G (fun r G' => K (({ σ with G := G' } : St).put t r.D)) := rfl
theorem callD_of {l g vs K σ t} : callD (specOf l) g vs K σ t = runO (look l g) vs σ.G (fun r G' => G' = σ.G ∧ K (σ.put t r.D)) := rfl
/-- A table whose every function hands back what it says. -/
structure Good (E : Env) (l : List (Nat × Spec1)) : Prop where
  snd : (specOf l).Sound E
  det : (specOf l).Det
theorem Good.nil (E : Env) : Good E [] := ⟨fun _ _ _ _ h => False.elim h, fun _ _ _ _ h => False.elim h⟩
theorem Good.cons {E : Env} {l : List (Nat × Spec1)} {g : Nat} {s : Spec1} (h : Good E l) (hd : s.Det) (hs : ∀ vs G Q, s vs G Q → Ret E g vs G Q) : Good E ((g, s) :: l) := by
  refine ⟨fun g' vs G Q hq => ?_, fun g' vs G Q hq => ?_⟩
  · have hq : runO (look ((g, s) :: l) g') vs G Q := hq
    rw [look_cons] at hq
    by_cases e : g' = g
    · subst e; rw [if_pos rfl] at hq; exact hs vs G Q hq
    · rw [if_neg e] at hq; exact h.snd g' vs G Q hq
  · have hq : runO (look ((g, s) :: l) g') vs G (fun r G' => G' = G ∧ Q r) := hq
    rw [look_cons] at hq
    by_cases e : g' = g
    · subst e; rw [if_pos rfl] at hq
      obtain ⟨r, h1, h2⟩ := hd vs G Q hq
      refine ⟨r, h1, fun Q' hQ' => ?_⟩
      show runO (look ((g', s) :: l) g') vs G Q'
      rw [look_cons, if_pos rfl]; exact h2 Q' hQ'
    · rw [if_neg e] at hq
      obtain ⟨r, h1, h2⟩ := h.det g' vs G Q hq
      refine ⟨r, h1, fun Q' hQ' => ?_⟩
      show runO (look ((g, s) :: l) g') vs G Q'
      rw [look_cons, if_neg e]; exact h2 Q' hQ'
/-- The function comes back where its text does. -/
theorem Good.ret {E : Env} {l : List (Nat × Spec1)} (h : Good E l) {g K : Nat} {ks : List (List Nat)} {es : List Nat} {f : PF} (hp : prepF E.P g K ks es = some f) {vs : List V} {G : List (Nat × V)} {Q : R → List (Nat × V) → Prop} (hn : vs.length = f.n)
    (hW : Wf E (specOf l) f vs G Q) : Ret E g vs G Q := Ret_of_W h.snd h.det hp hn hW
theorem fin {Q : R → List (Nat × V) → Prop} {r r' : R} {G : List (Nat × V)} (h : Q r G) (e : r = r') : Q r' G := e ▸ h
theorem fresh_id (G : List (Nat × V)) : ∃ id, look G id = none := by
  have : ∀ (G : List (Nat × V)), ∃ n, ∀ id, n ≤ id → look G id = none := by
    intro G
    induction G with
    | nil => exact ⟨0, fun _ _ => rfl⟩
    | cons p G ih =>
      obtain ⟨k, x⟩ := p
      obtain ⟨n, hn⟩ := ih
      refine ⟨n + k + 1, fun id h => ?_⟩
      rw [look_cons, if_neg (by omega)]
      exact hn id (by omega)
  obtain ⟨n, hn⟩ := this G
  exact ⟨n, hn n (Nat.le_refl _)⟩
/-- A function that makes an object never leaves the objects. -/
theorem detN {α : Prop} {G : List (Nat × V)} {A : Nat → Prop} {x : Nat → V} (h : ∀ id, look G id = none → (((id, x id) :: G) = G ∧ A id)) : α := by
  obtain ⟨id, hid⟩ := fresh_id G
  have := congrArg List.length (h id hid).1
  simp at this
theorem detA {α : Prop} {G : List (Nat × V)} {A : List (Nat × V) → Prop} (h : ∀ G', G' = G ∧ A G') : α := by
  have := congrArg List.length (h ((0, .nilp) :: G)).1
  simp at this
theorem detIf {Q : R → Prop} {c : Prop} {a b : R} {G : List (Nat × V)} (h : (c → G = G ∧ Q a) ∧ (¬ c → G = G ∧ Q b)) : ∃ r, Q r ∧ ∀ Q' : R → List (Nat × V) → Prop, Q' r G → (c → Q' a G) ∧ (¬ c → Q' b G) := by
  by_cases hc : c
  · exact ⟨a, (h.1 hc).2, fun Q' h' => ⟨fun _ => h', fun n => absurd hc n⟩⟩
  · exact ⟨b, (h.2 hc).2, fun Q' h' => ⟨fun n => absurd n hc, fun _ => h'⟩⟩
theorem finB {Q : R → List (Nat × V) → Prop} {b b' : Bool} {G : List (Nat × V)} (h : Q (.v (.bool b)) G) (e : b = b') : Q (.v (.bool b')) G := e ▸ h
theorem finI {Q : R → List (Nat × V) → Prop} {k : IntKind} {b b' : Int} {G : List (Nat × V)} (h : Q (.v (.int k b)) G) (e : b = b') : Q (.v (.int k b')) G := e ▸ h
theorem w64 {x : Int} (h1 : -9223372036854775808 ≤ x) (h2 : x ≤ 9223372036854775807) : IntKind.i64.wrap x = x := by
  rw [IntKind.wrap_i64]; omega
theorem wf64 {x : Int} (h : (Lit.int .i64 x).wf = true) : -9223372036854775808 ≤ x ∧ x ≤ 9223372036854775807 := by
  simpa [Lit.wf, IntKind.min, IntKind.max, IntKind.bits, IntKind.signed] using h
theorem wf8 {x : Int} (h : (Lit.int .u8 x).wf = true) : 0 ≤ x ∧ x ≤ 255 := by
  simpa [Lit.wf, IntKind.min, IntKind.max, IntKind.bits, IntKind.signed] using h
theorem Wf_eq {E C f vs G Q} : Wf E C f vs G Q = W E C f.body (retQ E f Q) ⟨initV f.K vs, [], [], G⟩ := rfl
theorem retQ_n {E f Q σ} : retQ E f Q .normal σ = resQ Q σ.G (resR E.tab σ f.res) := rfl
theorem retQ_r {E f Q σ} : retQ E f Q .ret σ = resQ Q σ.G (resR E.tab σ f.res) := rfl
theorem retQ_e {E f Q i σ} : retQ E f Q (.exit i) σ = False := rfl
theorem resQ_some {Q G r} : resQ Q G (some r) = Q r G := rfl
theorem W_loop {E C ks c Q σ} : W E C (.loop ks c) Q σ = loopK (W E C c) ks Q σ := rfl
/-- One round. -/
def rndK (f : (Ex → St → Prop) → St → Prop) (ks : List Nat) (Q : Ex → St → Prop) (n : Nat) (e : Ex) (σ : St) : Prop := match e with
  | .normal => WL f ks Q n (σ.keep ks)
  | e => Q e σ
theorem WL_succ {f ks Q n σ} : WL f ks Q (n + 1) σ = f (rndK f ks Q n) σ := by
  have : (fun e σ' => rndK f ks Q n e σ') = rndK f ks Q n := rfl
  unfold WL
  congr 1
theorem WL_in {E C c c' ks Q n σ} (hc : c = c') (h : W E C c' (rndK (W E C c) ks Q n) σ) : WL (W E C c) ks Q (n + 1) σ := by
  rw [WL_succ]; subst hc; exact h
theorem rndK_n {f ks Q n σ} : rndK f ks Q n .normal σ = WL f ks Q n (σ.keep ks) := rfl
theorem rndK_r {f ks Q n σ} : rndK f ks Q n .ret σ = Q .ret σ := rfl
theorem rndK_e {f ks Q n i σ} : rndK f ks Q n (.exit i) σ = Q (.exit i) σ := rfl
theorem keep_mk {vs ts L G ks} : St.keep ⟨vs, ts, L, G⟩ ks = ⟨keepL 0 ks vs, [], L, G⟩ := rfl
theorem keepL_cons {n ks o l} : keepL n ks (o :: l) = (if ks.contains n = true then o else none) :: keepL (n + 1) ks l := rfl
theorem keepL_nil {n ks} : keepL n ks [] = [] := rfl
theorem get_app {L m : List Bx} {i : Nat} {x : Bx} (h : L[i]? = some x) : (L ++ m)[i]? = some x := by
  rw [List.getElem?_append_left (List.getElem?_eq_some_iff.1 h).1]; exact h
theorem get_set {L : List Bx} {i : Nat} {x y : Bx} (h : L[i]? = some x) : (L.set i y)[i]? = some y := List.getElem?_set_self (List.getElem?_eq_some_iff.1 h).1
theorem get_set_ne {L : List Bx} {i j : Nat} {x y : Bx} (hne : i ≠ j) (h : L[j]? = some x) : (L.set i y)[j]? = some x := by
  rw [List.getElem?_set_ne hne]; exact h
theorem get_last {l : List Bx} {x : Bx} : (l ++ [x])[l.length]? = some x := by simp
theorem set_last {l : List Bx} {x y : Bx} : (l ++ [x]).set l.length y = l ++ [y] := by simp
theorem look_upd_same {α : Type} {G : List (Nat × α)} {id : Nat} {x z : α} (h : look G id = some x) : look (upd G id z) id = some z := by
  induction G with
  | nil => simp [look] at h
  | cons p G ih =>
    obtain ⟨k, d⟩ := p
    by_cases e : id = k
    · subst e; simp [upd, look]
    · have : (id == k) = false := by simpa using e
      simp only [upd, look, this, cond_false] at h ⊢
      exact ih h
theorem look_upd_ne {α : Type} {G : List (Nat × α)} {id j : Nat} {z : α} (h : j ≠ id) : look (upd G id z) j = look G j := by
  induction G with
  | nil => rfl
  | cons p G ih =>
    obtain ⟨k, d⟩ := p
    by_cases e : id = k
    · subst e
      have : (j == id) = false := by simpa using h
      simp [upd, look, this]
    · have : (id == k) = false := by simpa using e
      simp only [upd, this, cond_false, look, ih]
theorem upd_upd {α : Type} {G : List (Nat × α)} {id : Nat} {y z : α} : upd (upd G id y) id z = upd G id z := by
  induction G with
  | nil => rfl
  | cons p G ih =>
    obtain ⟨k, d⟩ := p
    by_cases e : id = k
    · subst e; simp [upd]
    · have : (id == k) = false := by simpa using e
      simp only [upd, this, cond_false, ih]
theorem upd_self {α : Type} {G : List (Nat × α)} {id : Nat} {x : α} (h : look G id = some x) : upd G id x = G := by
  induction G with
  | nil => rfl
  | cons p G ih =>
    obtain ⟨k, d⟩ := p
    by_cases e : id = k
    · subst e; simp [look] at h; simp [upd, h]
    · have : (id == k) = false := by simpa using e
      simp only [look, this, cond_false] at h
      simp only [upd, this, cond_false, ih h]
theorem upd_cons_same {α : Type} {G : List (Nat × α)} {id : Nat} {x z : α} : upd ((id, x) :: G) id z = (id, z) :: G := by simp [upd]
theorem upd_cons_ne {α : Type} {G : List (Nat × α)} {id j : Nat} {x z : α} (h : j ≠ id) : upd ((id, x) :: G) j z = (id, x) :: upd G j z := by
  have : (j == id) = false := by simpa using h
  simp [upd, this]
theorem ne_of_look {α : Type} {G : List (Nat × α)} {a b : Nat} {x : α} (h : look G a = some x) (h2 : look G b = none) : a ≠ b := by
  rintro rfl; rw [h] at h2; cases h2
attribute [go_sem] upd_cons_same upd_upd cond_true cond_false true_or or_true false_or or_false
attribute [go_sem] Option.isNone_none Option.isNone_some Option.isSome_none Option.isSome_some List.append_nil Nat.add_one_sub_one Nat.add_sub_cancel List.length_append Nat.zero_add get_last set_last runO_some callK_of callD_of Wf_eq retQ_n retQ_r retQ_e resQ_some rndK_n rndK_r rndK_e keep_mk keepL_cons keepL_nil W_loop initV chkV resV resVs rD rV rT resR
attribute [go_sem] eq_self not_true_eq_false not_false_eq_true false_implies true_implies forall_const and_false false_and Bool.true_beq Bool.false_beq beq_true beq_false Bool.not_true Bool.not_false decide_true decide_false Int.reduceToNat Int.reduceLT Int.reduceLE Int.cast_ofNat_Int List.getD_cons_zero List.getD_cons_succ Nat.reduceLT Int.reduceAdd Int.reduceSub Int.reduceMul Nat.reduceSub List.isEmpty_nil List.isEmpty_cons ne_eq not_false_eq_true Int.reduceEq Int.reduceNe Nat.reduceAdd Nat.reduceBEq List.contains_cons List.contains_nil Option.map_some Nat.reduceEqDiff reduceCtorEq List.getElem?_cons_zero List.getElem?_cons_succ List.length_nil List.nil_append List.cons_append List.take_succ_cons List.take_zero true_and List.length_cons and_self Bool.false_eq_true List.set_cons_zero List.set_cons_succ Bool.or_true Bool.false_or Bool.not_true beq_self_eq_true Bool.and_true Bool.true_and Bool.true_or Bool.or_false Bool.and_self Bool.or_self Bool.not_false Bool.false_and Bool.and_false List.map_cons List.map_nil List.replicate_succ List.replicate_zero and_true
end Go.Abs
namespace Go.Abs
open Go Go.RowKit Go.ChangeShapes Go.WideShapes Go.ChangeAt
set_option linter.unusedVariables false
set_option linter.unusedSimpArgs false
/-- A listed table's cells. -/
theorem laid_row {H : Type} {enc : TypeId × Value → H} {P : Program} {w : World} {base : Nat} {sp : Nat → Bool} {held : Bool} {fuel n : Nat} {t e : TypeId} {k : IntKind} {cs : List Value} {xs : List Int} {p : List MemPlace}
    (ht : P.underlying t = some (.array n e)) (he : P.underlying e = some (.int k)) (hc : P.cellsOf e = 1) (hct : P.cellsOf t = n)
    (h : DataW.trod enc P w base sp held fuel t cs = some (.agg (xs.map fun x => .lit (.int k x)), p)) : xs.length = n ∧ cs = xs.map (.int k) := by
  obtain ⟨ys, m, rfl, hx, hlen, hn, hel⟩ := DataW.trod_array ht h
  simp only [Prod.mk.injEq, DataW.agg.injEq] at hx
  have hxl : xs.length = n := by rw [← hn]; have := congrArg List.length hx.1; simpa using this
  refine ⟨hxl, ?_⟩
  rw [hct] at hlen
  apply List.ext_getElem?
  intro i
  by_cases hi : i < n
  · have h1 := hel i hi
    rw [hc, Nat.mul_one] at h1
    have hyi : ys[i]? = some ys[i] := List.getElem?_eq_getElem (by omega)
    rw [hyi] at h1
    have hd : ys[i].1 = .lit (.int k (xs[i]'(by omega))) := by
      have := congrArg (·[i]?) hx.1
      simp only [List.getElem?_map, List.getElem?_eq_getElem (show i < ys.length by omega), List.getElem?_eq_getElem (show i < xs.length by omega), Option.map_some, Option.some.injEq] at this
      exact this.symm
    obtain ⟨k', e1, e2⟩ := DataW.trod_int he (x := ys[i]) h1
    have hk : k' = xs[i]'(by omega) := by
      have e3 : ys[i].1 = .lit (.int k k') := by rw [e2.1]
      rw [hd] at e3; simpa using e3.symm
    subst hk
    rw [List.getElem?_map, List.getElem?_eq_getElem (show i < xs.length by omega)]
    have h5 : ((cs.drop i).take 1)[0]? = some (Value.int k (xs[i]'(by omega))) := by rw [e1]; rfl
    rw [List.getElem?_take, if_pos (by omega), List.getElem?_drop, Nat.add_zero] at h5
    exact h5
  · rw [List.getElem?_eq_none (by omega), List.getElem?_eq_none (by simp; omega)]
theorem laidVars_mem {P : Program} {w : World} : ∀ {laid : List (String × DataW Unit)} {ps : List MemPlace} {nm : String} {d : DataW Unit}, DataW.LaidVars P w laid ps → (nm, d) ∈ laid →
    ∃ g t cs fuel p, P.globalNamed nm = some g ∧ (P.globals[g]?).map (·.type) = some t ∧ w.var? P nm = some cs ∧ DataW.trod (fun _ => ()) P w 0 (fun _ => true) false fuel t cs.toList = some (d, p)
  | [], _, _, _, _, hm => by cases hm
  | (n0, d0) :: r, ps, nm, d, h, hm => by
    obtain ⟨g, t, cs, fuel, p, q, h1, h2, h3, h4, h5, _⟩ := h
    rcases List.mem_cons.1 hm with e | hm
    · cases e; exact ⟨g, t, cs, fuel, p, h1, h2, h3, h4⟩
    · exact laidVars_mem h5 hm
/-- What the listed tables give. -/
theorem tabs_of_laid {P : Program} {laid : List (String × DataW Unit)} {W : World} {tab : List (Nat × V)} (hp : (laid.all fun x => x.2.handleName?.isNone) = true) (hm : laidMetH P laid W)
    (ht : ∀ g x, look tab g = some x → ∃ nm t e k n xs, (nm, DataW.agg (xs.map fun x => .lit (.int k x))) ∈ laid ∧ P.globalNamed nm = some g ∧ (P.globals[g]?).map (·.type) = some t ∧ P.underlying t = some (.array n e) ∧ P.underlying e = some (.int k) ∧ P.cellsOf e = 1 ∧ P.cellsOf t = n ∧ x = .arr k n xs) :
    ∀ g x, look tab g = some x → ∃ cs, Reads W (MB (fun _ _ => False) (fun _ => false)) ⟨g, 0, none⟩ cs ∧ RepV W (MB (fun _ _ => False) (fun _ => false)) x cs := by
  intro g x hx
  obtain ⟨nm, t, e, k, n, xs, h1, h2, h3, h4, h5, h6, h7, rfl⟩ := ht g x hx
  rw [MakeChecks.laidMetH_plain _ _ _ hp] at hm
  obtain ⟨ps, hv, _⟩ := hm
  obtain ⟨g', t', cs, fuel, p, e1, e2, e3, e4⟩ := laidVars_mem hv h1
  rw [h2] at e1; cases e1
  rw [h3] at e2; cases e2
  obtain ⟨h8, h9⟩ := laid_row h4 h5 h6 h7 e4
  refine ⟨xs.map (.int k), fun j v hj => ⟨?_, noM _ _⟩, ⟨h8, rfl⟩⟩
  have := World.var?_cell h2 e3 j
  rw [← Array.getElem?_toList, h9, hj] at this
  rw [addr_add, Nat.zero_add]; exact this
/-- What the statement asks of a law's function, where tables are listed. -/
theorem law_laid {C : Checked} {f : FuncId} {fn : Func} {s : ChangeSpec} {os : Os} {H : Type} {enc : TypeId × Value → H} {conds : List PathCond} {tb : TypeId} {n : Nat} {tab : List (Nat × V)} {laid : List (String × DataW Unit)}
    (own : ownKnob C.prog.godebug = none) (started : os.Started) (noInit : C.prog.inits.idxOf? f = none) (hfn : C.prog.funcs[f]? = some fn)
    (hwit : ∃ (w : World) (tape : Tape) (i : Input), w.os = os ∧ (w.forCall tape i).Shaped C.prog ∧ i.vars = [] ∧ Input.okWide C.prog (w.forCall tape i) .any w.heap.size f i ∧
      ((s.pre enc C.prog fn conds false (w.forCall tape i).memory i.args ∧ laidMetH C.prog laid (w.forCall tape i).memory) ∧ sizedMet enc C.prog fn (OpenSpec.ofChange s) false (w.forCall tape i).memory i.args) ∧ ({} : Assume).holds C.prog (lone (Frame.enter C.prog f i.args .normal) [] (w.forCall tape i)))
    (hl : laidOutB C.prog = true) (hvars : s.vars = []) (hres : fn.resultTypes = #[tb]) (hb : C.prog.underlying tb = some .bool)
    (hspec : ∀ (H : Type) (ds : List (DataW H)), ds.length = fn.params.toList.length → s.fn H ds = { results := [.lit (.bool true)], args := ds })
    (hrow : ∀ t ∈ fn.params.toList, C.prog.readableRec t = true ∧ t < C.prog.types.size) (hok : ∀ t ∈ fn.params.toList, TyOk C.prog n t = true)
    (htab : ∀ W : World, laidMetH C.prog laid W → ∀ g x, look tab g = some x → ∃ cs, Reads W (MB (fun _ _ => False) (fun _ => false)) ⟨g, 0, none⟩ cs ∧ RepV W (MB (fun _ _ => False) (fun _ => false)) x cs)
    (hlaw : ∀ vs : List V, TyAll C.prog n fn.params.toList vs → Ret ⟨C.prog, tab⟩ f vs [] (fun r _ => r = .v (.bool true))) :
    ReturnsInHanded {} C os f .any (fun w args => (s.pre enc C.prog fn conds false w args ∧ laidMetH C.prog laid w) ∧ sizedMet enc C.prog fn (OpenSpec.ofChange s) false w args) (s.post enc C.prog fn false true false false) := by
  refine returnsInHanded_of_change_and (X := fun w _ => laidMetH C.prog laid w) (fun _ _ _ hh h => h.of_heap hh) own started noInit hfn hwit ?_
  intro W base args ds gs before hval hW hcnd _ hL _
  have hW' := hW
  obtain ⟨p, q, hA, hV, rfl, hfz, hnd⟩ := hW
  rw [hvars] at hV
  obtain ⟨rfl, rfl⟩ := trodVars_none hV
  obtain ⟨xs, h1, h2, h3, h4⟩ := open_all (M := MB (fun _ _ => False) (fun _ => false)) noM (n := n) (fun j t v e1 e2 => hval j t v (by rw [← Array.getElem?_toList]; exact e1) (by rw [← Array.getElem?_toList]; exact e2)) hA hok
  have hR := hlaw xs h1 (fun _ _ => False) (fun _ => false) W args
    { callers := fun _ _ h => h.elim, sep := fun _ _ _ => rfl, blk := fun _ h => by simp at h, objs := fun id x h => by simp [look] at h, tabs := htab W hL } (by simpa using h2)
    (fun i x hx => by
      obtain ⟨v, e1, e2⟩ := h4 i x hx
      exact ⟨v, by rw [← Array.getElem?_toList]; exact e1, e2⟩)
  refine Calls.mono hR ?_
  rintro e W' ⟨v, r, G', m', rfl, rfl, he, hrep⟩
  have hv : v = .bool true := by
    have : RepW W' _ (.bool true) v := hrep
    simp only [RepW, V.isAgg, Bool.false_eq_true, if_false, RepV, List.cons.injEq, and_true] at this
    exact this
  subst hv
  have bel : Below W.heap.size W W' := ⟨he.os, he.tape, he.output, he.grown, fun k hk => he.old k hk rfl⟩
  refine ⟨_, rfl, ds, [], p ++ [], [], p, [], hW', ?_, ?_, ?_, bel.frame _, fun h => (by cases h)⟩
  · rw [List.append_nil, hspec H ds h3, hres]; exact trodAll_mk1 (shut_bool hb _)
  · rw [List.append_nil, hspec H ds h3]; exact stay_all hl bel hrow hA
  · rw [hvars, List.append_nil, hspec H ds h3]; exact rfl
/-! ### what stands for nil stands for no elements -/
def Wk (x x' : V) : Prop := x' = x ∨ (x = .nils ∧ ((∃ k, x' = .sli k []) ∨ ∃ sz, x' = .sle sz []))
theorem Wk.rep {w M x x' v} (h : Wk x x') (hr : RepW w M x v) : RepW w M x' v := by
  rcases h with rfl | ⟨rfl, ⟨k, rfl⟩ | ⟨sz, rfl⟩⟩
  · exact hr
  · have : v = .slice none 0 0 := by simpa [RepW, V.isAgg, RepV] using hr
    subst this
    simp only [RepW, V.isAgg, Bool.false_eq_true, if_false, RepV]
    exact ⟨none, 0, rfl, Nat.le_refl _, fun _ => rfl, fun p h => by cases h⟩
  · have : v = .slice none 0 0 := by simpa [RepW, V.isAgg, RepV] using hr
    subst this
    simp only [RepW, V.isAgg, Bool.false_eq_true, if_false, RepV]
    exact ⟨none, 0, rfl, Nat.le_refl _, fun _ => rfl, fun p h => by cases h⟩
theorem Ret.args {E g vs vs' G Q} (hl : vs.length = vs'.length) (hw : ∀ (i : Nat) x', vs'[i]? = some x' → ∃ x, vs[i]? = some x ∧ Wk x x') (h : Ret E g vs' G Q) : Ret E g vs G Q := by
  intro Mc B w args hs ha hr
  refine h Mc B w args hs (by rw [ha, hl]) (fun i x' hx' => ?_)
  obtain ⟨x, h1, h2⟩ := hw i x' hx'
  obtain ⟨v, h3, h4⟩ := hr i x h1
  exact ⟨v, h3, h2.rep h4⟩
def wkV (k : IntKind) : V → V
  | .nils => .sli k []
  | x => x
/-- A result that may be nil: as one that has no elements. -/
def wkR (k : IntKind) : R → R
  | .v x => .v (wkV k x)
  | .own x => .own (wkV k x)
  | r => r
theorem wkV_wk (k : IntKind) (x : V) : Wk x (wkV k x) := by
  cases x <;> first | exact .inl rfl | exact .inr ⟨rfl, .inl ⟨k, rfl⟩⟩
theorem Ret.res {E g vs G Q} (k : IntKind) (h : Ret E g vs G (fun r G' => Q (wkR k r) G')) : Ret E g vs G Q := by
  intro Mc B w args hs ha hr
  refine Calls.mono (h Mc B w args hs ha hr) ?_
  rintro e W' ⟨v, r, G', m', h1, h2, h3, h4⟩
  refine ⟨v, wkR k r, G', m', h1, h2, h3, ?_⟩
  cases r with
  | v x => exact (wkV_wk k x).rep h4
  | own x =>
    obtain ⟨h5, h6⟩ := h4
    refine ⟨(wkV_wk k x).rep h5, ?_⟩
    by_cases hx : x = .nils
    · subst hx
      have hv : v = .slice none 0 0 := by simpa [RepW, V.isAgg, RepV] using h5
      subst hv
      exact ⟨0, none, 0, rfl, .inl rfl⟩
    · have : wkV k x = x := by cases x <;> first | rfl | exact absurd rfl hx
      rw [this]; exact h6
  | tup l => exact h4
end Go.Abs
