/- Comparisons, greatest and least, arrays out of rows: they fit. -/
import Derived.Test.YtcicoepkmiahbaaPlain2
import Derived.DeepKeys
import Derived.Laws.Cover3
namespace Go.Abs
open Go Go.RowKit
set_option linter.unusedVariables false
set_option linter.unusedSimpArgs false
section ops
variable {c : Ctx} {m : Mem} {σ : St} {a : Act} {w : World} {o : Oper} {t : AD} {p : Prop} {σ' : St}
theorem snd_s2a {ty e : TypeId} {n : Nat} {g : Bool} {x : Operand} {ax : AO} (h : InvW c m σ a w) (ho : o.op = .sliceToArrayPointer ty x) (hu : c.P.underlying ty = some (.array n e)) (hn : n ≠ 0)
    (hx : aoOf σ.vs.length x = some ax) (hd : adOf σ.vs.length c.N o.dst = some t) (he : oS2a n σ t (asV (σ.ev ax)) = some (p, σ')) (hp : p) : Fits c o a w σ' := by
  cases hX : asV (σ.ev ax) with
  | none => simp [hX, oS2a] at he
  | some z =>
    have hr := h.rdV hx hX
    rw [hX] at he
    cases z <;> simp only [oS2a] at he <;> try (cases he; done)
    cases he; rename_i k xs
    simp only [RepW, V.isAgg, Bool.false_eq_true, if_false, RepV] at hr
    obtain ⟨ad, cap, h5, h6, h7, h8⟩ := hr
    have h5 : a.eval x = .slice ad xs.length cap := by simpa using h5
    have hnl : n ≤ xs.length := by omega
    cases ad with
    | none => have := h7 rfl; omega
    | some q =>
      refine Fits.val (v := .pointer (some q)) ?_ (h.put hd ?_)
      · unfold execOp; rw [ho]; refine run_v ?_
        unfold Instr.arrayAt
        rw [run_bind (run_underlying hu), h5]
        simp only []
        rw [if_neg (by omega)]; rfl
      · refine ⟨q, (xs.map (Value.int k)).take n, rfl, (h8 q rfl).take n, ?_⟩
        simp only [RepV]
        exact ⟨by simp; omega, by rw [List.map_take]⟩
theorem evs_spec (h : InvW c m σ a w) {K : Nat} : ∀ {xs : List Operand} {as : List AO} {vs : List V}, aosOf K xs = some as → σ.evs as = some vs → (xs.map a.eval).length = vs.length ∧ ∀ (j : Nat) x, vs[j]? = some x → ∃ v, (xs.map a.eval)[j]? = some v ∧ RepW w (MM c.Mc m.ow m.lo) x v
  | [], as, vs, hp, he => by
    simp only [aosOf] at hp; cases hp; simp only [St.evs] at he; cases he
    exact ⟨rfl, fun j x hj => by simp at hj⟩
  | x :: xs, as, vs, hp, he => by
    simp only [aosOf] at hp
    cases h1 : aoOf K x with
    | none => simp [h1, consO] at hp
    | some ax =>
      cases h2 : aosOf K xs with
      | none => simp [h1, h2, consO] at hp
      | some am =>
        simp only [h1, h2, consO] at hp; cases hp
        simp only [St.evs] at he
        cases hy : asV (σ.ev ax) with
        | none => simp [hy, consO] at he
        | some y =>
          cases hl : σ.evs am with
          | none => simp [hy, hl, consO] at he
          | some l =>
            simp only [hy, hl, consO] at he; cases he
            obtain ⟨h3, h4⟩ := evs_spec h h2 hl
            refine ⟨by simpa using h3, ?_⟩
            intro j u hj
            cases j with
            | zero => simp at hj; subst hj; exact ⟨_, rfl, h.rdV h1 hy⟩
            | succ j => simpa using h4 j u (by simpa using hj)
theorem fold_max {P : Program} {w : World} {M} : ∀ {l : List V} {vs : List Value} {k : IntKind} {n r : Int}, vs.length = l.length → (∀ (j : Nat) x, l[j]? = some x → ∃ v, vs[j]? = some v ∧ RepW w M x v) → foldMM true n l = some r →
    (vs.foldlM Builtin.max2 (.int k n)).run P w = .ok (.int k r) w
  | [], [], k, n, r, _, _, h => by simp only [foldMM] at h; cases h; rfl
  | [], _ :: _, _, _, _, h, _, _ => by simp at h
  | _ :: _, [], _, _, _, h, _, _ => by simp at h
  | x :: l, v :: vs, k, n, r, hl, hr, h => by
    obtain ⟨v', h1, h2⟩ := hr 0 x rfl
    simp at h1; subst h1
    cases x <;> simp only [foldMM] at h <;> try (cases h; done)
    rw [h2.int, List.foldlM_cons]
    simp only [if_true] at h
    rename_i k' n'
    rw [run_bind (x := .int k (if n' > n then n' else n)) (w1 := w) rfl]
    exact fold_max (by simpa using hl) (fun j x hj => by simpa using hr (j + 1) x (by simpa using hj)) h
theorem fold_min {P : Program} {w : World} {M} : ∀ {l : List V} {vs : List Value} {k : IntKind} {n r : Int}, vs.length = l.length → (∀ (j : Nat) x, l[j]? = some x → ∃ v, vs[j]? = some v ∧ RepW w M x v) → foldMM false n l = some r →
    (vs.foldlM Builtin.min2 (.int k n)).run P w = .ok (.int k r) w
  | [], [], k, n, r, _, _, h => by simp only [foldMM] at h; cases h; rfl
  | [], _ :: _, _, _, _, h, _, _ => by simp at h
  | _ :: _, [], _, _, _, h, _, _ => by simp at h
  | x :: l, v :: vs, k, n, r, hl, hr, h => by
    obtain ⟨v', h1, h2⟩ := hr 0 x rfl
    simp at h1; subst h1
    cases x <;> simp only [foldMM] at h <;> try (cases h; done)
    rw [h2.int, List.foldlM_cons]
    simp only [Bool.false_eq_true, if_false] at h
    rename_i k' n'
    rw [run_bind (x := .int k (if n' < n then n' else n)) (w1 := w) rfl]
    exact fold_min (by simpa using hl) (fun j x hj => by simpa using hr (j + 1) x (by simpa using hj)) h
theorem snd_mm {mx : Bool} {args : Array Operand} {tys : Array TypeId} {as : List AO} (h : InvW c m σ a w) (ho : o.op = .call { callee := .builtin (if mx then .max else .min), args := args, argTypes := tys })
    (hx : aosOf σ.vs.length args.toList = some as) (hd : adOf σ.vs.length c.N o.dst = some t) (he : oMM mx σ t (σ.evs as) = some (p, σ')) : Fits c o a w σ' := by
  cases hv : σ.evs as with
  | none => simp [hv, oMM] at he
  | some vs =>
    rw [hv] at he
    cases vs with
    | nil => simp [oMM] at he
    | cons y l =>
      cases y <;> simp only [oMM] at he <;> try (cases he; done)
      rename_i k n
      cases hf : foldMM mx n l with
      | none => simp [hf, putVO] at he
      | some r =>
        simp only [hf, Option.map_some, putVO] at he; cases he
        obtain ⟨h1, h2⟩ := evs_spec h hx hv
        have hA : (args.map a.eval).toList = args.toList.map a.eval := Array.toList_map
        cases hal : args.toList.map a.eval with
        | nil => rw [hal] at h1; simp at h1
        | cons u us =>
          rw [hal] at h1 h2
          obtain ⟨u', h3, h4⟩ := h2 0 _ rfl
          simp at h3; subst h3
          refine fits_put h hd (v := .int k r) ?_ repW_int
          unfold execOp; rw [ho]
          cases mx with
          | true =>
            simp only [resolve, invoke, Sem.run_bind, Sem.run_pure, Result.andThen_ok, builtin, if_true, Builtin.max_, hA, hal]
            rw [h4.int, fold_max (by simpa using h1) (fun j x hj => by simpa using h2 (j + 1) x (by simpa using hj)) hf]; rfl
          | false =>
            simp only [resolve, invoke, Sem.run_bind, Sem.run_pure, Result.andThen_ok, builtin, Bool.false_eq_true, if_false, Builtin.min_, hA, hal]
            rw [h4.int, fold_min (by simpa using h1) (fun j x hj => by simpa using h2 (j + 1) x (by simpa using hj)) hf]; rfl
theorem zerosV_elems {w : World} {M : Nat → Nat → Prop} {k : Option IntKind} {sz n : Nat} {z : V} {cs : List Value} (hz : RepV w M z cs) (hk : ∀ k', k = some k' → sz = 1 ∧ z = .int k' 0) (hs : z.size = sz) :
    Elems w M k sz (zerosV k sz z n) (List.replicate n cs).flatten ∧ (zerosV k sz z n).len = n ∧ (∀ s, zerosV k sz z n ≠ .str s) ∧ (zerosV k sz z n).stride = sz := by
  cases k with
  | none =>
    simp only [zerosV, Elems, V.len, V.stride]
    exact ⟨⟨trivial, trivial, repL_replicate hz n, fun x hx => by rw [List.eq_of_mem_replicate hx]; exact hs⟩, by simp, by simp, trivial⟩
  | some k' =>
    obtain ⟨h1, h2⟩ := hk k' rfl
    subst h2
    simp only [RepV] at hz; subst hz
    simp only [zerosV, Elems, V.len, V.stride]
    refine ⟨⟨trivial, ?_⟩, by simp, by simp, h1.symm⟩
    rw [List.flatten_replicate_singleton]; simp
theorem wrap_small {n : Int} (h : 0 ≤ n) (h2 : n ≤ 140737488355328) : IntKind.i64.wrap n = n := by
  simp only [IntKind.wrap, IntKind.bits, IntKind.signed, Bool.true_and]
  split
  · rename_i hq
    have := of_decide_eq_true hq; omega
  · omega
theorem snd_mkS {ty e : TypeId} {sz : Nat} {g : Bool} {l r : Operand} {al ar : AO} {k : Option IntKind} {i : TypeInfo} {z : V} (h : InvW c m σ a w) (ho : o.op = .makeSlice ty l r) (hu : c.P.underlying ty = some (.slice e)) (hq : szAg c.P e = some (sz, g)) (hi : c.P.info? e = some i) (hz : zeroOk c.P e = some z)
    (hsz : sz ≠ 0) (hzs : z.size = sz) (hb : i.bytes ≠ 0) (hk : ∀ k', k = some k' → sz = 1 ∧ z = .int k' 0) (hl : aoOf σ.vs.length l = some al) (hr : aoOf σ.vs.length r = some ar) (hd : adOf σ.vs.length c.N o.dst = some t)
    (he : oMkS k sz i.bytes z σ t (asI (σ.ev al)) (asI (σ.ev ar)) = some (p, σ')) (hp : p) : Fits c o a w σ' := by
  obtain ⟨i', dd, q1, q2, q3, q4⟩ := szAg_spec hq
  rw [hi] at q1; cases q1
  obtain ⟨i'', zv, z1, z2, z3⟩ := zeroOk_spec hz
  rw [hi] at z1; cases z1
  cases hL : asI (σ.ev al) with
  | none => simp [hL, oMkS] at he
  | some nl => cases hR : asI (σ.ev ar) with
    | none => simp [hL, hR, oMkS] at he
    | some nr =>
      simp only [hL, hR, oMkS] at he; cases he
      obtain ⟨kl, hkl⟩ := h.rdI hl hL
      obtain ⟨kr, hkr⟩ := h.rdI hr hR
      obtain ⟨p1, p2, p3⟩ := hp
      have hzl : zv.cells.size = sz := by have := (z3 w (fun _ _ => False)).cells.len; rw [hzs] at this; simpa using this
      have hb1 : (1 : Int) ≤ i.bytes := by omega
      have hnr : nr ≤ 140737488355328 := by
        have : nr * 1 ≤ (i.bytes : Int) * nr := by rw [Int.mul_comm (i.bytes : Int)]; exact Int.mul_le_mul_of_nonneg_left hb1 (by omega)
        omega
      have hwl : IntKind.i64.wrap nl = nl := by exact wrap_small (by omega) (by omega)
      have hwr : IntKind.i64.wrap nr = nr := by exact wrap_small (by omega) (by omega)
      obtain ⟨hfr, gfr⟩ := h.fresh (some (.slot t.slot)) (nl.toNat * sz) (.cells ((Array.range (nr.toNat * sz)).map (fun j => zv.cells[j % sz]!)) e) (fun _ h => by cases h) (fun h => by cases h)
      obtain ⟨hE, hEl, hEs, hEt⟩ := zerosV_elems (n := nl.toNat) ((z3 w (MM c.Mc m.ow m.lo)).cells) hk hzs
      have hflat := zeros_flat zv.cells (by rw [hzl]; exact hsz) nr.toNat
      rw [hzl] at hflat
      refine Fits.val (v := .slice (some ⟨w.heap.size, 0, none⟩) nl.toNat nr.toNat) ?_ (InvW.put hfr hd ?_)
      · unfold execOp; rw [ho]; refine run_v ?_
        unfold Instr.makeSlice
        have hc1 : (decide (nr < 0) || decide ((i.bytes : Int) * nr > 2 ^ 48) || decide (nl < 0) || decide (nl > nr)) = false := by
          simp only [Bool.or_eq_false_iff, decide_eq_false_iff_not]
          have : (2 : Int) ^ 48 = 281474976710656 := by decide
          refine ⟨⟨⟨by omega, by omega⟩, by omega⟩, by omega⟩
        have hask : ∀ (b : Nat) (w' : World), (askRoom b).run c.P w' = .ok () w' := by
          intro b w'; unfold askRoom; split <;> rfl
        simp only [hkl, hkr, Sem.run_bind, run_underlying hu, Result.andThen_ok, asInt, asIntOf, Sem.run_pure, run_typeInfo hi, hwl, hwr, hc1, Bool.false_eq_true, if_false, hask, run_sizeOf hi, q3]
        by_cases h0 : nr.toNat * sz = 0
        · simp only [h0, if_true, Sem.run_pure, Result.andThen_ok]
          have e1 : ∀ f : Nat → Value, (Array.range 0).map f = #[] := fun f => by apply Array.toList_inj.1; simp
          simp only [e1]; rfl
        · simp only [h0, if_false, Sem.run_bind, run_zeroValue hi z2, Result.andThen_ok, Sem.run_pure, hzl]; rfl
      · refine ⟨?_, _, nr.toNat, by rw [hEl], .inr ⟨w.heap.size, 0, e, by rw [hEt]; exact hsz, rfl, by simp [Mem.own1], by simp [Mem.own1, hEl, hEt], ?_, fun j _ => frozen_new⟩⟩
        · suffices hrow : Reads (w.alloc (.cells ((Array.range (nr.toNat * sz)).map (fun j => zv.cells[j % sz]!)) e)) (MM c.Mc (m.own1 w.heap.size (some (.slot t.slot)) (nl.toNat * sz)).ow (m.own1 w.heap.size (some (.slot t.slot)) (nl.toNat * sz)).lo) ⟨w.heap.size, 0, none⟩ (List.replicate nl.toNat zv.cells.toList).flatten by
            have := Elems.row (hE.goes gfr) hEs hrow (by rw [hEl]; omega : (zerosV k sz z nl.toNat).len ≤ nr.toNat)
            rw [hEl] at this; exact this
          intro j v hv
          rw [addr_add, Nat.zero_add]
          have hjl : j < nl.toNat * sz := by have := (List.getElem?_eq_some_iff.1 hv).1; simpa [hzl] using this
          refine ⟨cell_new ?_, ?_⟩
          · have e2 : nr.toNat = nl.toNat + (nr.toNat - nl.toNat) := by omega
            have : ((Array.range (nr.toNat * sz)).map (fun j => zv.cells[j % sz]!)).toList[j]? = some v := by
              rw [hflat, e2, ← List.replicate_append_replicate, List.flatten_append, List.getElem?_append_left (by simpa [hzl] using hjl)]; exact hv
            rw [Array.getElem?_toList] at this; exact this
          · rintro (h5 | ⟨_, h6⟩)
            · have := h.callers _ _ h5; have := h.grown; simp only at *; omega
            · simp only [Mem.own1, if_true] at h6; omega
        · rw [Nat.zero_add, hEt, shape_new]; simp
end ops
end Go.Abs
/- Values held against each other: they fit. -/
namespace Go.Abs
open Go Go.RowKit
set_option linter.unusedVariables false
set_option linter.unusedSimpArgs false
/-- The model's comparison at a type does what 'eqT' does. -/
def EqFits (P : Program) (dd : Nat) (t : TypeId) (e : ET) : Prop :=
  ∀ (w : World) M (x y : V) (v u : Value) (b : Bool), eqT e x y = some b → RepW w M x v → RepW w M y u → (Op.equalIn dd t v u).run P w = .ok b w
theorem run_eqItems {P : Program} {d : Nat} {e : TypeId} {k : IntKind} {w : World} (hu : P.underlying e = some (.int k)) {xs ys : Array Value} {k' : IntKind} {l m : List Int} (hx : xs.toList = l.map (.int k')) (hy : ys.toList = m.map (.int k')) :
    ∀ (n i : Nat), l.length = i + n → m.length = i + n → (Op.eqItems (d + 1) e 1 xs ys (List.range' i n)).run P w = .ok (l.drop i == m.drop i) w
  | 0, i, hl, hm => by
    rw [List.drop_eq_nil_of_le (by omega), List.drop_eq_nil_of_le (by omega)]; rfl
  | n + 1, i, hl, hm => by
    have h1 : l[i]? = some l[i] := List.getElem?_eq_getElem (by omega)
    have h2 : m[i]? = some m[i] := List.getElem?_eq_getElem (by omega)
    have hp : P.plainKey e = true := by simp [Program.plainKey, hu]
    have e1 : xs[i]? = some (.int k' l[i]) := by rw [← Array.getElem?_toList, hx, List.getElem?_map, h1]; rfl
    have e2 : ys[i]? = some (.int k' m[i]) := by rw [← Array.getElem?_toList, hy, List.getElem?_map, h2]; rfl
    rw [List.range'_succ]
    simp only [Op.eqItems, Nat.mul_one]
    rw [run_bind (run_part_plain w hp e1), run_bind (run_part_plain w hp e2), run_bind (run_equalIn_int w d e k' k _ _ hu), Sem.run_ite]
    rw [run_eqItems hu hx hy n (i + 1) (by omega) (by omega)]
    rw [List.drop_eq_getElem_cons (by omega : i < l.length), List.drop_eq_getElem_cons (by omega : i < m.length), List.cons_beq_cons]
    cases l[i] == m[i] <;> rfl
theorem eqL_cons {off n g e l o a b r} (h : eqL (.cons off n g e l) o a b = some r) : ∃ x a' y b' r1 r2, a = x :: a' ∧ b = y :: b' ∧ o = off ∧ x.size = n ∧ y.size = n ∧ x.isAgg = g ∧ y.isAgg = g ∧ eqT e x y = some r1 ∧ eqL l (o + n) a' b' = some r2 ∧ r = (r1 && r2) := by
  cases a with
  | nil => simp [eqL] at h
  | cons x a =>
    cases b with
    | nil => simp [eqL] at h
    | cons y b =>
      simp only [eqL] at h
      split at h
      · rename_i hc
        simp only [Bool.and_eq_true, beq_iff_eq] at hc
        obtain ⟨⟨⟨⟨c1, c2⟩, c3⟩, c4⟩, c5⟩ := hc
        cases h1 : eqT e x y with
        | none => simp [h1, andO] at h
        | some r1 =>
          cases h2 : eqL l (o + n) a b with
          | none => simp [h1, h2, andO] at h
          | some r2 => simp only [h1, h2, andO] at h; cases h; exact ⟨x, a, y, b, r1, r2, rfl, rfl, c1, c2, c3, c4, c5, h1, h2, rfl⟩
      · cases h
theorem run_eqFields {P : Program} {d : Nat} {f : TypeId → Option ET} {w : World} {M} {xs ys : Array Value} (ih : ∀ t e, f t = some e → EqFits P d t e) :
    ∀ (fs : List Field) (l : EL) (o : Nat) (a b : List V) (r : Bool), elOf P f fs = some l → eqL l o a b = some r → RepL w M a (xs.toList.drop o) → RepL w M b (ys.toList.drop o) → o ≤ xs.size → o ≤ ys.size → (Op.eqFields d xs ys fs).run P w = .ok r w
  | [], l, o, a, b, r, hl, he, ha, hb, oa, ob => by
    simp only [elOf] at hl; cases hl
    cases a <;> cases b <;> simp [eqL] at he
    subst he; rfl
  | fd :: fs, l, o, a, b, r, hl, he, ha, hb, oa, ob => by
    simp only [elOf] at hl
    split at hl
    · rename_i e n g l' h1 h2 h3
      split at hl
      · cases hl
      · rename_i hn
        cases hl
        obtain ⟨x, a, y, b, r1, r2, rfl, rfl, ho, hx, hy, gx, gy, he1, he2, rfl⟩ := eqL_cons he
        subst ho
        obtain ⟨i, dd, s1, s2, s3, s4⟩ := szAg_spec h2
        obtain ⟨c1, c2, q1, q2, q3⟩ := ha
        obtain ⟨d1, d2, p1, p2, p3⟩ := hb
        have hlx : fd.offset + x.size ≤ xs.size := by have := congrArg List.length q1; simp at this; have := q2.len; omega
        have hly : fd.offset + y.size ≤ ys.size := by have := congrArg List.length p1; simp at this; have := p2.len; omega
        obtain ⟨v, v1, v2⟩ := run_part (P := P) (cs := xs) s1 s2 (s3.trans hx.symm) (s4.trans gx.symm) (by rw [q1, ← q2.len, List.take_left]; exact q2) hlx
        obtain ⟨u, u1, u2⟩ := run_part (P := P) (cs := ys) s1 s2 (s3.trans hy.symm) (s4.trans gy.symm) (by rw [p1, ← p2.len, List.take_left]; exact p2) hly
        have hn' : fd.name ≠ "_" := by intro h; rw [h] at hn; exact hn rfl
        simp only [Op.eqFields, ne_eq, hn', not_false_eq_true, if_true]
        rw [run_bind v1, run_bind u1, run_bind (ih _ _ h1 w M x y v u r1 he1 v2 u2), Sem.run_ite]
        have hrest := run_eqFields (M := M) ih fs l' (fd.offset + n) a b r2 h3 he2 (by rw [← hx, ← q2.len, ← List.drop_drop, q1, List.drop_left]; exact q3) (by rw [← hy, ← p2.len, ← List.drop_drop, p1, List.drop_left]; exact p3) (by omega) (by omega)
        rw [hrest]
        cases r1 <;> rfl
    · cases hl
theorem etOf_fits {P : Program} {d : Nat} : ∀ (n : Nat) (t : TypeId) (e : ET), etOf P n t = some e → EqFits P (d + 1 + n) t e
  | 0, t, e, h => by simp [etOf] at h
  | n + 1, t, e, h => by
    intro w M x y v u b he hx hy
    simp only [etOf] at h
    split at h
    · rename_i hu; cases h
      simp only [eqT] at he
      cases x <;> simp only [eqB] at he <;> try (cases he; done)
      cases y <;> simp only [eqB] at he <;> try (cases he; done)
      cases he
      have e1 := hx; have e2 := hy
      simp only [RepW, V.isAgg, Bool.false_eq_true, if_false, RepV, List.cons.injEq, and_true] at e1 e2
      subst e1; subst e2
      exact run_equalIn_bool' w (d + 1 + n) t _ _ hu
    · rename_i k hu; cases h
      simp only [eqT] at he
      cases x <;> simp only [eqI] at he <;> try (cases he; done)
      cases y <;> simp only [eqI] at he <;> try (cases he; done)
      split at he
      · rename_i hk; cases he
        have hk := beq_iff_eq.1 hk; subst hk
        have e1 := hx; have e2 := hy
        simp only [RepW, V.isAgg, Bool.false_eq_true, if_false, RepV, List.cons.injEq, and_true] at e1 e2
        subst e1; subst e2
        rw [show d + 1 + (n + 1) = (d + 1 + n) + 1 from rfl, run_equalIn_int w (d + 1 + n) t _ k _ _ hu]; rfl
      · cases he
    · rename_i hu; cases h
      simp only [eqT] at he
      cases x <;> simp only [eqS] at he <;> try (cases he; done)
      cases y <;> simp only [eqS] at he <;> try (cases he; done)
      cases he
      have e1 := hx; have e2 := hy
      simp only [RepW, V.isAgg, Bool.false_eq_true, if_false, RepV, List.cons.injEq, and_true] at e1 e2
      subst e1; subst e2
      exact run_equalIn_string w (d + 1 + n) t _ _ hu
    · rename_i fs hu
      split at h
      · cases h
      · rename_i hst
        obtain ⟨l, hl, rfl⟩ := Option.map_eq_some_iff.1 h
        simp only [eqT] at he
        cases x <;> (try simp only [] at he) <;> try (cases he; done)
        cases y <;> (try simp only [] at he) <;> try (cases he; done)
        simp only [RepW, V.isAgg, if_true, RepV] at hx hy
        obtain ⟨cx, rfl, hx⟩ := hx
        obtain ⟨cy, rfl, hy⟩ := hy
        have hfs : P.fieldsOf t = fs := by simp [Program.fieldsOf, hu]
        rw [show d + 1 + (n + 1) = (d + 1 + n) + 1 from rfl, run_equalIn_struct w (d + 1 + n) t cx cy (by rw [hfs]; exact hu) (by simpa using hst), hfs]
        exact run_eqFields (M := M) (fun t e => etOf_fits n t e) fs.toList l 0 _ _ b hl he (by simpa using hx) (by simpa using hy) (by omega) (by omega)
    · rename_i m el hu
      split at h
      · rename_i k hk hs
        cases h
        obtain ⟨i, dd, s1, s2, s3, s4⟩ := szAg_spec hs
        simp only [eqT] at he
        cases x <;> simp only [eqA] at he <;> try (cases he; done)
        cases y <;> simp only [eqA] at he <;> try (cases he; done)
        split at he
        · rename_i hc; cases he
          simp only [Bool.and_eq_true, beq_iff_eq] at hc
          obtain ⟨⟨rfl, rfl⟩, rfl⟩ := hc
          simp only [RepW, V.isAgg, if_true, RepV] at hx hy
          obtain ⟨cx, rfl, hxl, hx⟩ := hx
          obtain ⟨cy, rfl, hyl, hy⟩ := hy
          have hci : P.cellsOf el = 1 := by simp [Program.cellsOf, s1, s3]
          rw [show d + 1 + (n + 1) = (d + 1 + n) + 1 from rfl, run_equalIn_array w (d + 1 + n) cx cy hu s1, hci, List.range_eq_range']
          rw [show d + 1 + n = (d + n) + 1 by omega]
          exact run_eqItems (d := d + n) hk hx hy _ 0 (by omega) (by omega)
        · cases he
      · cases h
    · cases h
section ops
variable {c : Ctx} {m : Mem} {σ : St} {a : Act} {w : World} {o : Oper} {t : AD} {p : Prop} {σ' : St}
theorem snd_eqa {neg : Bool} {e : ET} {ty ty' : TypeId} {x y : Operand} {ax ay : AO} (h : InvW c m σ a w) (ho : o.op = .binOp (if neg then .neq else .eql) ty x y ty') (hu : ∃ fs, c.P.underlying ty = some (.struct fs) ∨ ∃ n el, c.P.underlying ty = some (.array n el))
    (hE : etOf c.P 12 ty = some e) (hg : c.P.eqGuardType c.P.depth ty = false)
    (hx : aoOf σ.vs.length x = some ax) (hy : aoOf σ.vs.length y = some ay) (hd : adOf σ.vs.length c.N o.dst = some t)
    (he : oEqa neg e σ t (asV (σ.ev ax)) (asV (σ.ev ay)) = some (p, σ')) : Fits c o a w σ' := by
  cases hX : asV (σ.ev ax) with
  | none => simp [hX, oEqa] at he
  | some X =>
    cases hY : asV (σ.ev ay) with
    | none => simp [hX, hY, oEqa] at he
    | some Y =>
      cases hb : eqT e X Y with
      | none => simp [hX, hY, hb, oEqa, putVO] at he
      | some b =>
        simp only [hX, hY, hb, oEqa, putVO, Option.map_some] at he; cases he
        have rX := h.rdV hx hX
        have rY := h.rdV hy hY
        have key : (Op.equal ty (a.eval x) (a.eval y)).run c.P w = .ok b w := by
          unfold Op.equal Op.maxDepth
          exact etOf_fits (d := 9987) 12 ty e hE w _ X Y _ _ b hb rX rY
        have hag : X.isAgg = true ∧ Y.isAgg = true := by
          obtain ⟨fs, hu⟩ := hu
          have hee : (∃ l, e = .agg l) ∨ ∃ n, e = .arr n := by
            rcases hu with hu | ⟨n, el, hu⟩
            · rw [show (12 : Nat) = 11 + 1 from rfl, etOf.eq_2, hu] at hE
              simp only [] at hE
              split at hE
              · cases hE
              · obtain ⟨l, _, rfl⟩ := Option.map_eq_some_iff.1 hE; exact .inl ⟨l, rfl⟩
            · rw [show (12 : Nat) = 11 + 1 from rfl, etOf.eq_2, hu] at hE
              simp only [] at hE
              split at hE
              · cases hE; exact .inr ⟨_, rfl⟩
              · cases hE
          rcases hee with ⟨l, rfl⟩ | ⟨n, rfl⟩
          · simp only [eqT] at hb
            cases X <;> (try simp only [] at hb) <;> try (cases hb; done)
            cases Y <;> (try simp only [] at hb) <;> try (cases hb; done)
            exact ⟨rfl, rfl⟩
          · simp only [eqT] at hb
            cases X <;> simp only [eqA] at hb <;> try (cases hb; done)
            cases Y <;> simp only [eqA] at hb <;> try (cases hb; done)
            exact ⟨rfl, rfl⟩
        simp only [RepW, hag.1, hag.2, if_true] at rX rY
        obtain ⟨cx, hcx, _⟩ := rX
        obtain ⟨cy, hcy, _⟩ := rY
        refine fits_put h hd (v := .bool (neg ^^ b)) ?_ repW_bool
        unfold execOp; rw [ho]; refine run_v ?_
        rw [hcx, hcy] at key ⊢
        have hgd : ∀ op, (eqGuard op ty x y (.agg cx) (.agg cy)).run c.P w = .ok () w := by
          intro op; unfold eqGuard
          cases op <;> simp [hg, Sem.run_bind, run_program]
        rw [run_bind (hgd _)]
        cases neg
        · simp only [Bool.false_eq_true, if_false, binOp]; rw [run_bind key]; simp
        · simp only [if_true, binOp]; rw [run_bind key]; simp
end ops
end Go.Abs
/- Arrays that are built, copies, choices: they fit. -/
namespace Go.Abs
open Go Go.RowKit
set_option linter.unusedVariables false
set_option linter.unusedSimpArgs false
theorem setCell_same {w : World} {a : Addr} {v : Value} (h : w.cell? a = some v) : w.setCell a v = w := by
  obtain ⟨e, n, h1, h2, h3⟩ := cell_shape h
  have hh : (w.setCell a v).heap = w.heap := by
    unfold World.cell? at h
    split at h
    · rename_i c e' f hb
      split at h
      · cases h
      · apply Array.ext_getElem?
        intro i
        unfold World.setCell
        simp only [Array.getElem?_modify]
        by_cases hi : a.block = i
        · subst hi
          rw [if_pos rfl, hb]
          simp only [Option.map_some, h3, Option.isSome_none, Bool.false_eq_true, if_false]
          congr 2
          apply Array.ext_getElem?
          intro j
          rw [Array.getElem?_setIfInBounds]
          by_cases hj : a.off = j
          · subst hj
            have := (Array.getElem?_eq_some_iff.1 h).1
            rw [if_pos rfl, if_pos this, h]
          · rw [if_neg hj]
        · rw [if_neg hi]
    · cases h
  have : w.setCell a v = { w with heap := (w.setCell a v).heap } := rfl
  rw [this, hh]
theorem setCells_same {w : World} {a : Addr} : ∀ (l : List Value) (i : Nat), (∀ (j : Nat) v, l[j]? = some v → w.cell? (a.add (i + j)) = some v) → World.setCells w a l i = w
  | [], i, h => rfl
  | v :: l, i, h => by
    simp only [World.setCells]
    rw [setCell_same (by simpa using h 0 v rfl)]
    exact setCells_same l (i + 1) (fun j v hv => by have := h (j + 1) v (by simpa using hv); rwa [show i + 1 + j = i + (j + 1) by omega])
theorem setCells_append {a : Addr} : ∀ (l m : List Value) (w : World) (i : Nat), World.setCells w a (l ++ m) i = World.setCells (World.setCells w a l i) a m (i + l.length)
  | [], m, w, i => by simp [World.setCells]
  | v :: l, m, w, i => by
    simp only [List.cons_append, World.setCells, List.length_cons]
    rw [setCells_append l m]; congr 1; omega
section ops
variable {c : Ctx} {m : Mem} {σ : St} {a : Act} {w : World} {o : Oper} {t : AD} {p : Prop} {σ' : St}
theorem snd_copy {args : Array Operand} {tys : Array TypeId} {x y : Operand} {ax ay : AO} {ty e : TypeId} {g : Bool} (h : InvW c m σ a w) (ho : o.op = .call { callee := .builtin .copy, args := args, argTypes := tys }) (ha : args.toList = [x, y]) (h0 : tys[0]? = some ty) (hu : c.P.underlying ty = some (.slice e)) (hq : szAg c.P e = some (1, g))
    (hx : aoOf σ.vs.length x = some ax) (hy : aoOf σ.vs.length y = some ay) (hd : adOf σ.vs.length c.N o.dst = some t) (he : oCopy σ t (σ.ev ax) (asV (σ.ev ay)) = some (p, σ')) : Fits c o a w σ' := by
  obtain ⟨i, dd, q1, q2, q3, q4⟩ := szAg_spec hq
  have hargs : args.map a.eval = #[a.eval x, a.eval y] := by
    apply Array.toList_inj.1; simp [Array.toList_map, ha]
  have hrun : ∀ {v : Value} {w1 : World}, (Builtin.copy_ tys o.type #[a.eval x, a.eval y]).run c.P w = .ok v w1 → (execOp a.eval o).run c.P w = .ok (.value v) w1 := by
    intro v w1 hv
    unfold execOp; rw [ho]
    simp only [resolve, invoke, Sem.run_bind, Sem.run_pure, Result.andThen_ok, builtin, hargs]
    rw [hv]; rfl
  cases hX : σ.ev ax with
  | none => simp [hX, oCopy] at he
  | some X =>
    cases X with
    | vw k q n =>
      obtain ⟨b, r, of, kk', xs0, h5, h6, h7, h8, h9⟩ := h.rd hx hX
      cases hY : asV (σ.ev ay) with
      | none => simp [hX, hY, oCopy] at he
      | some Y =>
        have rY := h.rdV hy hY
        rw [hX, hY] at he
        cases Y <;> simp only [oCopy] at he <;> try (cases he; done)
        · rename_i kk ys
          rw [h6] at he; simp only [oCpy1] at he
          split at he
          · cases he
          · rename_i hfz
            rw [h8] at he; simp only [oCpy2] at he
            split at he
            · rename_i hkk
              have hkk := beq_iff_eq.1 hkk; subst hkk
              cases hup : r.x.upd q (.arr kk n (ys.take n ++ xs0.drop ys.length)) with
              | none => simp [hup, oCpy3] at he
              | some z =>
                simp only [hup, oCpy3] at he; cases he
                obtain ⟨hB, _, hB3, _⟩ := h.boxes k r b h6 h5
                obtain ⟨cs0, eb, b1, b2, b3, b4⟩ := hB
                obtain ⟨b5, b6⟩ := b4.sub h8 h7
                simp only [RepV, V.size] at b5 b6
                obtain ⟨hxl, hxc⟩ := b5
                let mm := min ys.length n
                have hrep : RepV w (MM c.Mc m.ow m.lo) (.arr kk n (ys.take n ++ xs0.drop ys.length)) ((ys.take n ++ xs0.drop ys.length).map (.int kk)) := by
                  simp only [RepV, and_true]
                  simp only [List.length_append, List.length_take, List.length_drop]; omega
                obtain ⟨s1, s2, s3⟩ := h.storeL h6 (by simpa using hfz) h5 h7 hup hrep
                have hsplit : (ys.take n ++ xs0.drop ys.length).map (Value.int kk) = (ys.take n).map (.int kk) ++ (xs0.drop ys.length).map (.int kk) := List.map_append
                have hone : World.setCells w ⟨b, of, none⟩ ((ys.take n ++ xs0.drop ys.length).map (Value.int kk)) 0 = World.setCells w ⟨b, of, none⟩ ((ys.take n).map (.int kk)) 0 := by
                  rw [hsplit, setCells_append]
                  apply setCells_same
                  intro j v hv
                  have hpre : ∀ j, j < ((ys.take n).map (Value.int kk)).length → ∃ u, w.cell? (({ block := b, off := of, spot := none } : Addr).add (0 + j)) = some u := by
                    intro j hj; apply s2; simp only [hsplit, List.length_append]; omega
                  obtain ⟨_, _, _, _, _, _, _, k8⟩ := setCells_spec ((ys.take n).map (Value.int kk)) w ⟨b, of, none⟩ 0 hpre
                  have hjx : j < (xs0.drop ys.length).length := by have := (List.getElem?_eq_some_iff.1 hv).1; simpa using this
                  have hjl : ys.length + j < n := by simp at hjx; omega
                  have hmin : (ys.take n).length = ys.length := by rw [List.length_take]; omega
                  have hcell : w.cell? ⟨b, of + (ys.length + j), none⟩ = some v := by
                    apply b2
                    have e1 : ((cs0.drop of).take n)[ys.length + j]? = cs0[of + (ys.length + j)]? := by
                      rw [List.getElem?_take_of_lt hjl, List.getElem?_drop]
                    rw [← e1, hxc, List.getElem?_map]
                    rw [List.getElem?_map, List.getElem?_drop] at hv; exact hv
                  rw [Nat.zero_add, addr_add, List.length_map, hmin, k8 _ _ hcell, if_neg]
                  rintro ⟨_, _, e3⟩; simp [hmin] at e3; omega
                obtain ⟨ad, cap, r1, r2, r3, r4⟩ := rY.slice ⟨_, rfl⟩
                have hcells : ad = none ∧ ys.length = 0 ∨ ∃ q, ad = some q ∧ Reads w (MM c.Mc m.ow m.lo) q (ys.map (.int kk)) := by
                  cases ad with
                  | none => left; refine ⟨rfl, ?_⟩; have := r3 rfl; simp only [V.len] at r2; omega
                  | some q =>
                    right; refine ⟨q, rfl, ?_⟩
                    simp only [RepW, V.isAgg, Bool.false_eq_true, if_false, RepV] at rY
                    obtain ⟨a', c', e1, _, _, e4⟩ := rY
                    rw [r1] at e1; simp at e1
                    exact e4 q e1.1.symm
                have hfirst : (Builtin.firstCells 1 (Nat.min ys.length n) (a.eval y)).run c.P w = .ok ((ys.take n).map (Value.int kk)).toArray w := by
                  rw [r1]
                  rcases hcells with ⟨rfl, h0⟩ | ⟨q', rfl, hrd⟩
                  · have : ys = [] := List.eq_nil_of_length_eq_zero h0
                    subst this; simp [Builtin.firstCells]
                  · simp only [Builtin.firstCells, Nat.mul_one]
                    have := run_loadCells (P := c.P) (hrd.take n)
                    rw [← List.map_take, List.length_map, List.length_take] at this
                    rw [show Nat.min ys.length n = min n ys.length from Nat.min_comm _ _]
                    exact this
                refine Fits.val (v := .int .i64 ((min ys.length n : Nat) : Int)) (w1 := World.setCells w ⟨b, of, none⟩ ((ys.take n).map (.int kk)) 0) (m' := m) (hrun ?_) ?_
                · unfold Builtin.copy_
                  rw [h9]
                  simp only [h0, show ∀ v u : Value, (#[v, u] : Array Value)[0]? = some v from fun _ _ => rfl, show ∀ v u : Value, (#[v, u] : Array Value)[1]? = some u from fun _ _ => rfl]
                  rw [run_bind (run_underlying hu)]
                  simp only []
                  have hlen : (Builtin.lenOf (a.eval y)).run c.P w = .ok ys.length w := by rw [r1]; rfl
                  rw [run_bind hlen, run_bind (run_sizeOf q1), q3]
                  rw [run_bind hfirst]
                  simp only []
                  rw [run_bind (run_storeCells _ w 0 (fun j hj => s2 j (by rw [hsplit, List.length_append]; omega)) (fun j hj => by rw [Nat.zero_add]; exact s3 j) (by
                    intro v hv; obtain ⟨z, _, rfl⟩ := List.mem_map.1 hv; rfl))]
                  rfl
                · rw [← hone]; exact s1.put hd repW_int
            · cases he
        · cases he
          obtain ⟨ad, cap, r1, r2, r3, r4⟩ := rY.slice ⟨_, rfl⟩
          refine fits_put h hd (v := .int .i64 0) (hrun ?_) repW_int
          unfold Builtin.copy_
          rw [h9]
          simp only [h0, show ∀ v u : Value, (#[v, u] : Array Value)[0]? = some v from fun _ _ => rfl, show ∀ v u : Value, (#[v, u] : Array Value)[1]? = some u from fun _ _ => rfl]
          rw [run_bind (run_underlying hu)]
          simp only []
          have hlen : (Builtin.lenOf (a.eval y)).run c.P w = .ok 0 w := by rw [r1]; rfl
          have hfirst : (Builtin.firstCells 1 (Nat.min 0 n) (a.eval y)).run c.P w = .ok #[] w := by
            rw [r1, show Nat.min 0 n = 0 from Nat.zero_min n]
            cases ad with
            | none => rfl
            | some q => simp [Builtin.firstCells]; exact run_loadCells' (cs := []) (fun i v hv => by simp at hv)
          rw [run_bind hlen, run_bind (run_sizeOf q1), q3]
          rw [run_bind hfirst]
          rfl
    | _ => rw [hX] at he; simp [oCopy] at he
end ops
end Go.Abs
/- Arrays that are built, choices, rows held against nil, calls: they fit. -/
namespace Go.Abs
open Go Go.RowKit
set_option linter.unusedVariables false
set_option linter.unusedSimpArgs false
section ops
variable {c : Ctx} {m : Mem} {σ : St} {a : Act} {w : World} {o : Oper} {t : AD} {p : Prop} {σ' : St}
theorem snd_buildA {ty e : TypeId} {g : Bool} {ps : Array (Nat × Operand)} {as : List (Nat × AO)} {kk : IntKind} {n n' : Nat} {xs : List Int} (h : InvW c m σ a w) (ho : o.op = .build ty ps) (hz : zeroOk c.P ty = some (.arr kk n xs)) (hu : c.P.underlying ty = some (.array n' e))
    (hs : szAg c.P e = some (1, g)) (hps : aopsOf σ.vs.length ps.toList = some as) (hd : adOf σ.vs.length c.N o.dst = some t) (he : oBuild (.arr kk n xs) σ t (σ.parts as) = some (p, σ')) : Fits c o a w σ' := by
  obtain ⟨i, v, h1, h2, h3⟩ := zeroOk_spec hz
  obtain ⟨j, dd, s1, s2, s3, s4⟩ := szAg_spec hs
  cases hv : σ.parts as with
  | none => simp [hv, oBuild] at he
  | some vs =>
    rw [hv] at he; simp only [oBuild] at he
    cases hf : fillV (some (.arr kk n xs)) vs with
    | none => simp [hf, putVO] at he
    | some z' =>
      rw [hf] at he; simp only [putVO] at he; cases he
      obtain ⟨h4, h5⟩ := parts_rep h hps hv
      have hplace : ∀ i y, (V.arr kk n xs).sub [i] = some y → ∃ o, (V.arr kk n xs).off [i] = some o ∧ (fun i => some (i * 1, 1) : Nat → Option (Nat × Nat)) i = some (o, y.size) := by
        intro i y hy
        simp only [V.sub] at hy
        split at hy
        · rename_i hlt; cases hy; exact ⟨i, by simp only [V.off, hlt, if_true], by simp [V.size]⟩
        · cases hy
      have hz0 := (h3 w (MM c.Mc m.ow m.lo)).cells
      obtain ⟨cells', h6, h7, h8⟩ := fill_rep (place := fun i => some (i * 1, 1)) hz0 hf hplace h4 h5
      have hagg : z'.isAgg = true := by rw [(V.same_size h8).2]; rfl
      refine fits_put h hd (v := .agg cells') ?_ (by simp only [RepW, hagg, if_true]; exact ⟨_, rfl, h7⟩)
      unfold execOp; rw [ho]; refine run_v ?_
      unfold Instr.build
      rw [run_bind (run_zeroValue h1 h2), run_bind (run_underlying hu)]
      simp only []
      rw [run_bind (run_sizeOf s1), s3]
      simp only [Array.toList_map]
      rw [h6]; rfl
theorem snd_pick {x y z : Operand} {ax ay az : AO} {K : St → Prop} (h : InvW c m σ a w) (ho : o.op = .pick x y z) (hx : aoOf σ.vs.length x = some ax) (hy : aoOf σ.vs.length y = some ay) (hz : aoOf σ.vs.length z = some az)
    (hd : adOf σ.vs.length c.N o.dst = some t) (he : pickO (asB (σ.ev ax)) (asV (σ.ev ay)) (asV (σ.ev az)) t K σ) : ∃ σ', K σ' ∧ Fits c o a w σ' := by
  cases hb : asB (σ.ev ax) with
  | none => rw [hb] at he; exact he.elim
  | some b =>
    have hB := h.rdB hx hb
    rw [hb] at he
    have hr : (execOp a.eval o).run c.P w = .ok (.value (if b = true then a.eval y else a.eval z)) w := by
      unfold execOp; rw [ho]; simp only [hB]; cases b <;> rfl
    cases b with
    | true =>
      simp only [pickO] at he
      split at he
      · rename_i Y hY; exact ⟨_, he, Fits.val hr (h.put hd (h.rdV hy hY))⟩
      · exact he.elim
    | false =>
      simp only [pickO] at he
      split at he
      · rename_i Z hZ; exact ⟨_, he, Fits.val (by rw [hr]; rfl) (h.put hd (h.rdV hz hZ))⟩
      · exact he.elim
theorem snd_nil {neg : Bool} {ty ty' e : TypeId} {x : Operand} {ax : AO} {K : St → Prop} (h : InvW c m σ a w) (ho : o.op = .binOp (if neg then .neq else .eql) ty x (.const (.slice none 0 0)) ty') (hu : c.P.underlying ty = some (.slice e))
    (hx : aoOf σ.vs.length x = some ax) (hd : adOf σ.vs.length c.N o.dst = some t) (he : nilO neg (lenV (asV (σ.ev ax))) t K σ) : ∃ σ', K σ' ∧ Fits c o a w σ' := by
  cases hX : asV (σ.ev ax) with
  | none => rw [hX] at he; exact he.elim
  | some X =>
    rw [hX] at he; simp only [lenV] at he
    have rX := h.rdV hx hX
    cases hsl : X.lenI with
    | none => rw [hsl] at he; exact he.elim
    | some n =>
    rw [hsl] at he; simp only [nilO] at he
    obtain ⟨ad, cap, r1, r2, r3, r4⟩ := rX.slice ⟨_, hsl⟩
    rw [hsl] at r4; cases r4
    refine ⟨_, he ad.isNone (fun hn => ?_), ?_⟩
    · have : ad = none := by cases ad <;> simp at hn ⊢
      have := r3 this
      omega
    · refine fits_put h hd ?_ repW_bool
      unfold execOp; rw [ho]; refine run_v ?_
      rw [r1]
      have hev : a.eval (.const (.slice none 0 0)) = .slice none 0 0 := rfl
      rw [hev]
      have hg : ∀ op, (eqGuard op ty x (.const (.slice none 0 0)) (.slice ad X.len cap) (.slice none 0 0)).run c.P w = .ok () w := by
        intro op; unfold eqGuard; split <;> rfl
      rw [run_bind (hg _)]
      cases neg
      · simp only [Bool.false_eq_true, if_false, binOp]; rw [run_bind (run_equal_slice_nil w ty e ad X.len cap hu)]; simp
      · simp only [if_true, binOp]; rw [run_bind (run_equal_slice_nil w ty e ad X.len cap hu)]; simp
theorem run_callOp {args : Array Operand} {tys : Array TypeId} {g : Nat} (ho : o.op = .call { callee := .value (.func g), args := args, argTypes := tys }) (hg : calleeOk c.P g = true) :
    (execOp a.eval o).run c.P w = .ok (.enter g (args.map a.eval)) w := by
  unfold calleeOk at hg
  split at hg
  · rename_i fn hf
    rw [Bool.and_eq_true] at hg
    obtain ⟨g1, g2⟩ := hg
    have g1 : (fn.name == "runtime.NumGoroutine") = false := by simpa using g1
    have g2 : fn.body.isNone = false := by cases hb : fn.body <;> simp [hb] at g2 ⊢
    unfold execOp; rw [ho]
    have hev : a.eval (.func g) = .func (.func g) #[] #[] := rfl
    simp only [resolve, hev, Deferred.ofValue, Sem.run_bind, Sem.run_pure, Result.andThen_ok, invoke]
    have : (#[] ++ Array.map a.eval args ++ #[] : Array Value) = args.map a.eval := by simp
    rw [this]
    unfold callFunc
    simp only [Sem.run_bind, run_program, Result.andThen_ok, hf]
    simp only [g1, g2, Bool.false_eq_true, if_false]; rfl
  · cases hg
end ops
end Go.Abs
/- What a function hands back, and the calls. -/
namespace Go.Abs
open Go Go.RowKit
set_option linter.unusedVariables false
set_option linter.unusedSimpArgs false
def RepR (w : World) (M : Nat → Nat → Prop) (ow : Nat → Option Place) (lo : Nat → Nat) : R → Value → Prop
  | .v x, v => RepW w M x v
  | .own x, v => RepW w M x v ∧ ∃ t, Spare w ow lo t x v
  | .tup l, v => ∃ vs, v = .tuple vs ∧ vs.size = l.length ∧ ∀ (i : Nat) x, l[i]? = some x → ∃ u, vs[i]? = some u ∧ RepW w M x u
def owB (B : Nat → Bool) (b : Nat) : Option Place := if B b = true then some .obj else none
def MB (Mc : Nat → Nat → Prop) (B : Nat → Bool) : Nat → Nat → Prop := MM Mc (owB B) (fun _ => 0)
/-- What holds where a function is called. -/
structure Start (E : Env) (Mc : Nat → Nat → Prop) (B : Nat → Bool) (w : World) (G : List (Nat × V)) : Prop where
  callers : ∀ b o, Mc b o → b < w.heap.size
  sep : ∀ b o, Mc b o → B b = false
  blk : ∀ b, B b = true → b < w.heap.size
  objs : ∀ id x, look G id = some x → BoxAt w (MB Mc B) id x ∧ B id = true
  tabs : ∀ g x, look E.tab g = some x → ∃ cs, Reads w (MB Mc B) ⟨g, 0, none⟩ cs ∧ RepV w (MB Mc B) x cs
/-- What holds where it has come back. -/
structure Ended (Mc : Nat → Nat → Prop) (B : Nat → Bool) (w : World) (G : List (Nat × V)) (m' : Mem) (w' : World) (G' : List (Nat × V)) : Prop where
  os : w'.os = w.os
  tape : w'.tape = w.tape
  output : w'.output = w.output
  grown : w.heap.size ≤ w'.heap.size
  old : ∀ b, b < w.heap.size → B b = false → w'.heap[b]? = w.heap[b]?
  oldB : ∀ b s, B b = true → w.shape? b = some s → w'.shape? b = some s ∧ ∀ j, w'.frozen? ⟨b, j, none⟩ = w.frozen? ⟨b, j, none⟩
  mine : ∀ b, (m'.ow b).isSome = true → b < w'.heap.size ∧ (w.heap.size ≤ b ∨ B b = true)
  blks : ∀ b, B b = true → m'.ow b = some .obj
  objlo : ∀ b, m'.ow b = some .obj → m'.lo b = 0
  objs : ∀ id x, look G' id = some x → BoxAt w' (MM Mc m'.ow m'.lo) id x ∧ m'.ow id = some .obj
  objs0 : ∀ id r, look G id = some r → ∃ r', look G' id = some r' ∧ r.same r' = true
/-- The function comes back, with 'Q' of what it hands back. -/
def Ret (E : Env) (g : Nat) (vs : List V) (G : List (Nat × V)) (Q : R → List (Nat × V) → Prop) : Prop :=
  ∀ (Mc : Nat → Nat → Prop) (B : Nat → Bool) (w : World) (args : Array Value), Start E Mc B w G → args.size = vs.length →
    (∀ (i : Nat) x, vs[i]? = some x → ∃ v, args[i]? = some v ∧ RepW w (MB Mc B) x v) →
    Calls E.P g args w (fun e w' => ∃ v r G' m', e = .returned v ∧ Q r G' ∧ Ended Mc B w G m' w' G' ∧ RepR w' (MM Mc m'.ow m'.lo) m'.ow m'.lo r v)
def Spec.Sound (E : Env) (C : Spec) : Prop := ∀ g vs G Q, C g vs G Q → Ret E g vs G Q
/-! ### a call -/
def backMem (m m' : Mem) (w : World) (t s : Nat) : Mem :=
  { lam := m.lam
    ow := fun b => if b < w.heap.size then m.ow b else match m'.ow b with
      | some .obj => some .obj
      | some (.slot t') => if t' = t then some (.slot s) else none
      | _ => none
    lo := fun b => if b < w.heap.size then m.lo b else m'.lo b }
def goB (m : Mem) (b : Nat) : Bool := decide (m.ow b = some .obj)
def goM (c : Ctx) (m : Mem) (b o : Nat) : Prop := MM c.Mc m.ow m.lo b o ∧ m.ow b ≠ some .obj
theorem goMM {c m σ a w} (h : InvW c m σ a w) : MB (goM c m) (goB m) = MM c.Mc m.ow m.lo := by
  funext b o
  simp only [MB, MM, goM, owB, goB, decide_eq_true_eq, Nat.zero_le, and_true, eq_iff_iff]
  by_cases hb : m.ow b = some .obj
  · simp [hb, h.objlo b hb]
  · simp [hb]
theorem start_of {E : Env} {c m σ a w} (h : InvW c m σ a w) (ht : c.tab = E.tab) : Start E (goM c m) (goB m) w σ.G where
  callers := by
    rintro b o ⟨h1 | ⟨h1, _⟩, _⟩
    · have := h.callers b o h1; have := h.grown; omega
    · exact (h.mine b h1).1
  sep := fun b o h1 => by simp only [goB, decide_eq_false_iff_not]; exact h1.2
  blk := fun b hb => by
    simp only [goB, decide_eq_true_eq] at hb
    exact (h.mine b (by simp [hb])).1
  objs := fun id x hx => by
    rw [goMM h]
    obtain ⟨h1, h2, _⟩ := h.objs id x hx
    exact ⟨h1, by simp [goB, h2]⟩
  tabs := fun g x hx => by rw [goMM h]; exact h.tabs g x (by rw [ht]; exact hx)
theorem cell_of_heap {w w' : World} {q : Addr} (h : w'.heap[q.block]? = w.heap[q.block]?) : w'.cell? q = w.cell? q := by simp [World.cell?, h]
theorem InvW.back {c m σ a w} (h : InvW c m σ a w) {m' : Mem} {w' : World} {G' : List (Nat × V)} (he : Ended (goM c m) (goB m) w σ.G m' w' G') (t s : Nat) :
    InvW c (backMem m m' w t s) { σ with G := G' } a w' ∧ Goes w' (MM (goM c m) m'.ow m'.lo) w' (MM c.Mc (backMem m m' w t s).ow (backMem m m' w t s).lo) := by
  have hB : ∀ b, goB m b = false ↔ m.ow b ≠ some .obj := fun b => by simp [goB]
  have hBt : ∀ b, goB m b = true ↔ m.ow b = some .obj := fun b => by simp [goB]
  have hMold : ∀ b o, b < w.heap.size → (MM c.Mc (backMem m m' w t s).ow (backMem m m' w t s).lo b o ↔ MM c.Mc m.ow m.lo b o) := by
    intro b o hb; simp only [MM, backMem, if_pos hb]
  have hnob : ∀ b o, ¬ MM c.Mc m.ow m.lo b o → m.ow b ≠ some .obj := fun b o hM hb => hM (.inr ⟨by simp [hb], by rw [h.objlo b hb]; exact Nat.zero_le _⟩)
  have hsub : ∀ b o, MM c.Mc (backMem m m' w t s).ow (backMem m m' w t s).lo b o → MM (goM c m) m'.ow m'.lo b o := by
    rintro b o (h1 | ⟨h1, h2⟩)
    · refine .inl ⟨.inl h1, fun hb => ?_⟩
      exact (h.mine b (by simp [hb])).2.2 o h1
    · simp only [backMem] at h1 h2
      by_cases hb : b < w.heap.size
      · rw [if_pos hb] at h1 h2
        by_cases ho : m.ow b = some .obj
        · have := he.blks b ((hBt b).2 ho)
          exact .inr ⟨by simp [this], by rw [he.objlo b this]; exact Nat.zero_le _⟩
        · exact .inl ⟨.inr ⟨h1, h2⟩, ho⟩
      · rw [if_neg hb] at h1 h2
        refine .inr ⟨?_, h2⟩
        split at h1 <;> rename_i e
        · simp [e]
        · simp [e]
        · simp at h1
  have gsub : Goes w' (MM (goM c m) m'.ow m'.lo) w' (MM c.Mc (backMem m m' w t s).ow (backMem m m' w t s).lo) := fun q v h1 h2 => ⟨h1, fun h3 => h2 (hsub _ _ h3)⟩
  have g : Goes w (MM c.Mc m.ow m.lo) w' (MM c.Mc (backMem m m' w t s).ow (backMem m m' w t s).lo) := by
    intro q v hq hM
    have hlt := cell_lt hq
    exact ⟨by rw [cell_of_heap (he.old _ hlt ((hB _).2 (hnob _ _ hM)))]; exact hq, fun h3 => hM ((hMold _ _ hlt).1 h3)⟩
  have hshape : ∀ b st, w.shape? b = some st → w'.shape? b = some st := by
    intro b st hs
    cases hb : goB m b with
    | true => exact (he.oldB b st hb hs).1
    | false => rw [shape_of_heap (he.old b (shape_lt hs) hb)]; exact hs
  have hfrz : ∀ b, (w.shape? b).isSome = true → ∀ j, w'.frozen? ⟨b, j, none⟩ = w.frozen? ⟨b, j, none⟩ := by
    intro b hb j
    cases hs : w.shape? b with
    | none => simp [hs] at hb
    | some st =>
      cases hb : goB m b with
      | true => exact (he.oldB b st hb hs).2 j
      | false => simp [World.frozen?, he.old b (shape_lt hs) hb]
  have hsame : ∀ b pl, m.ow b = some pl → (backMem m m' w t s).ow b = some pl ∧ (backMem m m' w t s).lo b = m.lo b := by
    intro b pl hb
    have := (h.mine b (by simp [hb])).1
    simp only [backMem, if_pos this]; exact ⟨hb, trivial⟩
  have T : Tr c m w σ.L σ.G (backMem m m' w t s) w' σ.L G' (fun _ => False) :=
    { goes := g
      shape := hshape
      frz := hfrz
      lam := fun _ _ h => h
      locs := fun _ r _ _ h => ⟨r, h, V.same_refl _⟩
      objs := he.objs0
      own := fun _ _ b hb => hsame b _ hb
      ob := fun b hb => hsame b _ hb
      obN := fun b hb => by
        simp only [backMem] at hb ⊢
        by_cases hlt : b < w.heap.size
        · rw [if_pos hlt] at hb; exact .inl hb
        · rw [if_neg hlt] at hb ⊢
          split at hb <;> rename_i e
          · exact .inr (he.objlo b e)
          · split at hb <;> cases hb
          · cases hb }
  refine ⟨?_, gsub⟩
  refine h.stepX T (fun b => m.ow b = some .obj) (fun b hb => by simp [hb]) (fun b hb hn => he.old b hb ((hB b).2 hn)) he.os he.tape he.output he.grown (fun b hb => ?_) h.lamL ?_ ?_ rfl ?_ ?_ h.holes
  · simp only [backMem] at hb
    by_cases hlt : b < w.heap.size
    · rw [if_pos hlt] at hb; exact .inl hb
    · rw [if_neg hlt] at hb
      refine .inr ⟨by omega, ?_⟩
      split at hb <;> rename_i e
      · exact (he.mine b (by simp [e])).1
      · exact (he.mine b (by simp [e])).1
      · simp at hb
  · intro k r b hk hb
    obtain ⟨h1, h2, h3, h4⟩ := h.boxes k r b hk hb
    have hbl := h1.lt
    have hno : m.ow b ≠ some .obj := by
      cases hf : r.fz with
      | false => rw [(h3 hf).1]; simp
      | true => exact hnob b 0 (h4 hf 0)
    have hh := he.old b hbl ((hB b).2 hno)
    refine ⟨h1.tr g (fun _ => hshape _ _) (fun j => by simp [World.frozen?, hh]) (fun i v hv => by rw [cell_of_heap hh]; exact hv), h2, fun hf => ?_, fun hf o hM => h4 hf o ((hMold _ _ hbl).1 hM)⟩
    obtain ⟨h5, h6⟩ := h3 hf
    obtain ⟨h7, h8⟩ := hsame b _ h5
    exact ⟨h7, h8.trans h6⟩
  · intro id x hx
    obtain ⟨h1, h2⟩ := he.objs id x hx
    have h3 := he.objlo id h2
    refine ⟨h1.tr gsub (fun _ h => h) (fun _ => rfl) (fun _ _ h => h), ?_⟩
    by_cases hlt : id < w.heap.size
    · have : goB m id = true := by
        rcases (he.mine id (by simp [h2])).2 with h4 | h4
        · omega
        · exact h4
      have ho := (hBt id).1 this
      obtain ⟨h7, h8⟩ := hsame id _ ho
      exact ⟨h7, h8.trans (h.objlo id ho)⟩
    · simp only [backMem, if_neg hlt, h2]; exact ⟨trivial, h3⟩
  · intro t d hd
    exact (h.envV t d hd).tr T (fun h => h)
  · intro t d hd
    obtain ⟨h1, h2, h3⟩ := h.envT t d hd
    exact ⟨h1, h2, h3.tr T (fun h => h)⟩
theorem call_sound {E : Env} {C : Spec} (hC : C.Sound E) {c m σ a w} (h : InvW c m σ a w) (hP : c.P = E.P) (ht : c.tab = E.tab) {g : Nat} {args : Array Operand} {as : List AO} {vs : List V} {dst : Option Tmp} {t : AD} {K : St → Prop}
    (ha : aosOf σ.vs.length args.toList = some as) (hv : σ.evs as = some vs) (hd : adOf σ.vs.length c.N dst = some t) (hc : callK C g vs K σ t) :
    Calls E.P g (args.map a.eval) w (fun e w' => ∃ v σ' m', e = .returned v ∧ K σ' ∧ InvW c m' σ' (a.put dst v) w') := by
  obtain ⟨h1, h2⟩ := evs_spec h ha hv
  have hr := hC g vs σ.G _ hc (goM c m) (goB m) w (args.map a.eval) (start_of h ht) (by rw [← h1]; simp) (fun i x hx => by
    rw [goMM h]
    obtain ⟨v, h3, h4⟩ := h2 i x hx
    refine ⟨v, ?_, h4⟩
    rw [← Array.getElem?_toList, Array.toList_map]; exact h3)
  refine Calls.mono hr ?_
  rintro e w' ⟨v, r, G', m', rfl, hK, he, hrep⟩
  have hrepD : ∃ t0, RepD c (backMem m m' w t0 t.slot) w' σ.L G' t.slot r.D v := by
    cases r with
    | v x => exact ⟨0, RepW.goes (h.back he 0 _).2 hrep⟩
    | own x =>
      obtain ⟨hx, t0, ad, cap, e1, e2⟩ := hrep
      refine ⟨t0, RepW.goes (h.back he t0 _).2 hx, ad, cap, e1, ?_⟩
      rcases e2 with e2 | ⟨b, o, e, k0, k1, k2, k3, k4, k5⟩
      · exact .inl e2
      · have hge : ¬ b < w.heap.size := by
          rcases (he.mine b (by simp [k2])).2 with h5 | h5
          · omega
          · have := he.blks b h5; rw [k2] at this; cases this
        exact .inr ⟨b, o, e, k0, k1, by simp only [backMem, if_neg hge, k2, if_true], by simp only [backMem, if_neg hge]; exact k3, k4, k5⟩
    | tup l =>
      obtain ⟨vs', e1, e2, e3⟩ := hrep
      exact ⟨0, vs', e1, e2, fun i x hx => let ⟨u, hu, hr⟩ := e3 i x hx; ⟨u, hu, RepW.goes (h.back he 0 _).2 hr⟩⟩
  obtain ⟨t0, hrepD⟩ := hrepD
  exact ⟨v, _, _, rfl, hK, InvW.put (h.back he t0 t.slot).1 hd hrepD⟩
end Go.Abs
/- An operation of a text over plain values and the model's operation. -/
namespace Go.Abs
open Go Go.RowKit
set_option linter.unusedVariables false
set_option linter.unusedSimpArgs false
theorem bin1_spec {K : Nat} {f : AO → PO} {x : Operand} {po : PO} (h : bin1 K f x = some po) : ∃ ax, aoOf K x = some ax ∧ f ax = po := by
  unfold bin1 at h; exact Option.map_eq_some_iff.1 h
theorem bin2_spec {K : Nat} {f : AO → AO → PO} {x y : Operand} {po : PO} (h : bin2 K f x y = some po) : ∃ ax ay, aoOf K x = some ax ∧ aoOf K y = some ay ∧ f ax ay = po := by
  unfold bin2 at h
  split at h
  · rename_i ax ay h1 h2; cases h; exact ⟨ax, ay, h1, h2, rfl⟩
  · cases h
theorem prepSlc_spec {K : Nat} {f : AO → Option AO → Option AO → Option AO → PO} {x : Operand} {lo hi mx : Option Operand} {po : PO} (h : prepSlc K f x lo hi mx = some po) :
    ∃ ax al ah am, aoOf K x = some ax ∧ aopOf K lo = some al ∧ aopOf K hi = some ah ∧ aopOf K mx = some am ∧ f ax al ah am = po := by
  unfold prepSlc at h
  split at h
  · rename_i ax al ah am h1 h2 h3 h4; cases h; exact ⟨ax, al, ah, am, h1, h2, h3, h4, rfl⟩
  · cases h
theorem kOk_spec {k : Option IntKind} {sz : Nat} {z : V} (h : kOk k sz z = true) (k' : IntKind) (hk : k = some k') : sz = 1 ∧ z = .int k' 0 := by
  subst hk
  simp only [kOk, Bool.and_eq_true, beq_iff_eq] at h
  obtain ⟨h1, h2⟩ := h
  split at h2
  · rename_i k2; have := beq_iff_eq.1 h2; subst this; exact ⟨h1, rfl⟩
  · cases h2
theorem partsOk_info {P : Program} {z : V} {fs : List Field} (h : partsOk P z fs = true) : ∀ f ∈ fs, ∃ i, P.info? f.type = some i := by
  intro f hf
  unfold partsOk at h
  rw [Bool.and_eq_true, List.all_eq_true] at h
  obtain ⟨i, hi⟩ := List.mem_iff_getElem?.1 hf
  have := h.2 (f, i) (by rw [List.mem_iff_getElem?]; exact ⟨i, by simp [hi]⟩)
  simp only [Bool.and_eq_true] at this
  obtain ⟨_, h2⟩ := this
  split at h2
  · rename_i j _ e2; exact ⟨j, e2⟩
  · cases h2
theorem bindU {P : Program} {tys : Array TypeId} {i : Nat} {d : TypeDesc} (h : (tys[i]?).bind P.underlying = some d) : ∃ t, tys[i]? = some t ∧ P.underlying t = some d := by
  cases ht : tys[i]? with
  | none => simp [ht] at h
  | some t => exact ⟨t, rfl, by simpa [ht] using h⟩
theorem ranO_spec {o : Res} {K : St → Prop} (h : ranO o K) : ∃ p σ', o = some (p, σ') ∧ p ∧ K σ' := by
  unfold ranO at h
  split at h
  · rename_i p σ'; exact ⟨p, σ', rfl, h.1, h.2⟩
  · exact h.elim
section ops
variable {c : Ctx} {m : Mem} {σ : St} {a : Act} {w : World} {o : Oper} {t : AD} {p : Prop} {σ' : St}
theorem Fits.wp {next : Act → World → Prop} {QQ : Exit → Act → World → Prop} (hf : Fits c o a w σ') (hK : ∀ m' a' w', InvW c m' σ' a' w' → next a' w') : o.wp c.P a w next QQ := by
  obtain ⟨res, w1, m', hr, h⟩ := hf
  unfold Oper.wp; rw [hr]
  rcases h with ⟨v, rfl, hi⟩ | ⟨rfl, hi⟩
  · exact hK m' _ _ hi
  · exact hK m' _ _ hi
theorem Wop_sound {E : Env} {C : Spec} (hC : C.Sound E) {K : St → Prop} {po : PO} {all : List Oper} {rr : Option Nat} {next : Act → World → Prop} {QQ : Exit → Act → World → Prop} (h : InvW c m σ a w) (hP : c.P = E.P) (htab : c.tab = E.tab)
    (hp : prepOp c.P σ.vs.length all rr o = some po) (hd : adOf σ.vs.length c.N o.dst = some t) (hW : Wop E C t po K σ)
    (hK : ∀ σ' m' a' w', InvW c m' σ' a' w' → K σ' → next a' w') : o.wp c.P a w next QQ := by
  have fin : ∀ {r : Res}, ranO r K → (∀ p σ', r = some (p, σ') → p → Fits c o a w σ') → o.wp c.P a w next QQ := by
    intro r hr hf
    obtain ⟨p, σ', h1, h2, h3⟩ := ranO_spec hr
    exact (hf p σ' h1 h2).wp (fun m' a' w' hi => hK σ' m' a' w' hi h3)
  have fin2 : (∃ σ', K σ' ∧ Fits c o a w σ') → o.wp c.P a w next QQ := fun ⟨σ', h1, h2⟩ => h2.wp (fun m' a' w' hi => hK σ' m' a' w' hi h1)
  unfold prepOp at hp
  split at hp
  · rename_i x ho
    obtain ⟨ax, hx, rfl⟩ := bin1_spec hp
    exact fin hW (fun p σ' he hpp => snd_mv h (by unfold execOp; rw [ho]) hx hd he)
  · rename_i x ho
    obtain ⟨ax, hx, rfl⟩ := bin1_spec hp
    exact fin hW (fun p σ' he hpp => snd_mv h (by unfold execOp; rw [ho]) hx hd he)
  · rename_i x y z ho
    split at hp
    · rename_i ax ay az hx hy hz; cases hp
      exact fin2 (snd_pick h ho hx hy hz hd hW)
    · cases hp
  · rename_i ty ho
    obtain ⟨z, hz, rfl⟩ := Option.map_eq_some_iff.1 hp
    cases rr with
    | none => exact fin (r := oBox σ t (some z)) hW (fun p σ' he hpp => snd_alloc h ho hz hd he)
    | some k => exact fin (r := oBoxAt k σ t (some z)) hW (fun p σ' he hpp => snd_allocAt h ho hz hd he)
  · rename_i ty x ho
    obtain ⟨ax, hx, rfl⟩ := bin1_spec hp
    cases rr with
    | none => exact fin (r := oBox σ t (asV (σ.ev ax))) hW (fun p σ' he hpp => snd_box h ho hx hd he)
    | some k => exact fin (r := oBoxAt k σ t (asV (σ.ev ax))) hW (fun p σ' he hpp => snd_boxAt h ho hx hd he)
  · rename_i ty ps ho
    split at hp
    · rename_i z fs as hz hu hps
      split at hp
      · rename_i hk; cases hp
        exact fin hW (fun p σ' he hpp => snd_build h ho hz hu hk hps hd he (partsOk_info hk))
      · cases hp
    · rename_i k n xs n' e as hz hu hps
      split at hp
      · rename_i g hs; cases hp
        exact fin hW (fun p σ' he hpp => snd_buildA h ho hz hu hs hps hd he)
      · cases hp
    · cases hp
  · rename_i ty len ps ho
    split at hp
    · rename_i e hu
      split at hp
      · rename_i z sz g as hz hq hps
        split at hp
        · rename_i hc; cases hp
          exact fin hW (fun p σ' he hpp => snd_buildS h ho hu hz hq hc.1 hc.2.1 hc.2.2 hps hd he)
        · cases hp
      · cases hp
    · cases hp
  · rename_i ty x ho
    split at hp
    · rename_i n g hs
      obtain ⟨ax, hx, rfl⟩ := bin1_spec hp
      exact fin hW (fun p σ' he hpp => snd_load h ho hs hx hd (by rw [htab]; exact he))
    · cases hp
  · rename_i ty x y ho
    split at hp
    · rename_i n g hs hn
      obtain ⟨ax, ay, hx, hy, rfl⟩ := bin2_spec hp
      exact fin hW (fun p σ' he hpp => snd_store h ho hs hn hx hy he)
    · cases hp
  · rename_i x ho
    obtain ⟨ax, hx, rfl⟩ := bin1_spec hp
    exact fin hW (fun p σ' he hpp => snd_nilc h ho hx hd he)
  · rename_i op ty x y ty' ho
    split at hp
    · obtain ⟨ax, ay, hx, hy, rfl⟩ := bin2_spec hp
      exact fin hW (fun p σ' he hpp => snd_bin h ho hx hy hd he hpp)
    · obtain ⟨ax, ay, hx, hy, rfl⟩ := bin2_spec hp
      exact fin hW (fun p σ' he hpp => snd_bin h ho hx hy hd he hpp)
    · rename_i hu
      obtain ⟨ax, ay, hx, hy, rfl⟩ := bin2_spec hp
      exact fin hW (fun p σ' he hpp => snd_binB h ho hu hx hy hd he hpp)
    · rename_i e hu
      obtain ⟨ax, ay, hx, hy, rfl⟩ := bin2_spec hp
      exact fin hW (fun p σ' he hpp => snd_binP h ho hu hx hy hd he hpp)
    · rename_i e hu
      split at hp
      · obtain ⟨ax, hx, rfl⟩ := bin1_spec hp
        exact fin2 (snd_nil (neg := false) h ho hu hx hd hW)
      · obtain ⟨ax, hx, rfl⟩ := bin1_spec hp
        exact fin2 (snd_nil (neg := true) h ho hu hx hd hW)
      · cases hp
    · rename_i fs hu
      split at hp
      · rename_i e hE
        split at hp
        · cases hp
        · rename_i hg
          split at hp
          · obtain ⟨ax, ay, hx, hy, rfl⟩ := bin2_spec hp
            exact fin hW (fun p σ' he hpp => snd_eqa (neg := false) h ho ⟨fs, .inl hu⟩ hE (by simpa using hg) hx hy hd he)
          · obtain ⟨ax, ay, hx, hy, rfl⟩ := bin2_spec hp
            exact fin hW (fun p σ' he hpp => snd_eqa (neg := true) h ho ⟨fs, .inl hu⟩ hE (by simpa using hg) hx hy hd he)
          · cases hp
      · cases hp
    · rename_i n el hu
      split at hp
      · rename_i e hE
        split at hp
        · cases hp
        · rename_i hg
          split at hp
          · obtain ⟨ax, ay, hx, hy, rfl⟩ := bin2_spec hp
            exact fin hW (fun p σ' he hpp => snd_eqa (neg := false) h ho ⟨#[], .inr ⟨n, el, hu⟩⟩ hE (by simpa using hg) hx hy hd he)
          · obtain ⟨ax, ay, hx, hy, rfl⟩ := bin2_spec hp
            exact fin hW (fun p σ' he hpp => snd_eqa (neg := true) h ho ⟨#[], .inr ⟨n, el, hu⟩⟩ hE (by simpa using hg) hx hy hd he)
          · cases hp
      · cases hp
    · cases hp
  · rename_i op ty x ho
    obtain ⟨ax, hx, rfl⟩ := bin1_spec hp
    exact fin hW (fun p σ' he hpp => snd_un h ho hx hd he)
  · rename_i s ty x ho
    split at hp
    · rename_i ks k hs hk
      obtain ⟨ax, hx, rfl⟩ := bin1_spec hp
      exact fin hW (fun p σ' he hpp => snd_conv h ho hs hk hx hd he)
    · cases hp
  · rename_i s x f ho
    split at hp
    · rename_i fs hs
      split at hp
      · rename_i fd hf
        split at hp
        · rename_i i hi
          split at hp
          · cases hp
          · rename_i hn
            obtain ⟨ax, hx, rfl⟩ := bin1_spec hp
            exact fin hW (fun p σ' he hpp => snd_fadr h ho hs hf hi hn hx hd (by rw [htab]; exact he))
        · cases hp
      · cases hp
    · cases hp
  · rename_i s x f ho
    split at hp
    · rename_i fs hs
      split at hp
      · rename_i fd hf
        split at hp
        · rename_i n g hq
          obtain ⟨ax, hx, rfl⟩ := bin1_spec hp
          exact fin hW (fun p σ' he hpp => snd_fld h ho hs hf hq hx hd he)
        · cases hp
      · cases hp
    · cases hp
  · rename_i ty x y ho
    split at hp
    · rename_i n e hu
      split at hp
      · rename_i hs
        obtain ⟨ax, ay, hx, hy, rfl⟩ := bin2_spec hp
        exact fin hW (fun p σ' he hpp => snd_iadrA h ho hu hs hx hy hd (by rw [htab]; exact he) hpp)
      · rename_i sz hs
        obtain ⟨ax, ay, hx, hy, rfl⟩ := bin2_spec hp
        exact fin hW (fun p σ' he hpp => snd_iadrG h ho hu hs hx hy hd (by rw [htab]; exact he) hpp)
      · cases hp
    · rename_i e hu
      split at hp
      · rename_i n g hs
        obtain ⟨ax, ay, hx, hy, rfl⟩ := bin2_spec hp
        exact fin hW (fun p σ' he hpp => snd_iadrS h ho hu hs hx hy hd he hpp)
      · cases hp
    · cases hp
  · rename_i ty x y ho
    split at hp
    · rename_i hu
      obtain ⟨ax, ay, hx, hy, rfl⟩ := bin2_spec hp
      exact fin hW (fun p σ' he hpp => snd_idxS h ho hu hx hy hd he hpp)
    · rename_i n e hu
      split at hp
      · rename_i hs
        obtain ⟨ax, ay, hx, hy, rfl⟩ := bin2_spec hp
        exact fin hW (fun p σ' he hpp => snd_idxA h ho hu hs hx hy hd he hpp)
      · cases hp
    · cases hp
  · rename_i ty x lo hi mx ho
    split at hp
    · rename_i n e hu
      split at hp
      · rename_i g hs
        obtain ⟨ax, al, ah, am, hx, hlo, hhi, hmx, rfl⟩ := prepSlc_spec hp
        exact fin hW (fun p σ' he hpp => snd_slcA h ho hu hs hx hlo hhi hmx hd he hpp)
      · cases hp
    · rename_i e hu
      split at hp
      · rename_i n g hs
        obtain ⟨ax, al, ah, am, hx, hlo, hhi, hmx, rfl⟩ := prepSlc_spec hp
        exact fin hW (fun p σ' he hpp => snd_slcS h ho hu hs hx hlo hhi hmx hd he hpp)
      · cases hp
    · rename_i hu
      split at hp
      · obtain ⟨ax, al, ah, am, hx, hlo, hhi, hmx, rfl⟩ := prepSlc_spec hp
        exact fin hW (fun p σ' he hpp => snd_slcT h ho hu hx hlo hhi hd he hpp)
      · cases hp
    · cases hp
  · rename_i x i ho
    obtain ⟨ax, hx, rfl⟩ := bin1_spec hp
    exact fin hW (fun p σ' he hpp => snd_ext h ho hx hd he)
  · rename_i ty x ho
    split at hp
    · rename_i n e hu
      split at hp
      · split at hp
        · cases hp
        · rename_i hn
          obtain ⟨ax, hx, rfl⟩ := bin1_spec hp
          exact fin hW (fun p σ' he hpp => snd_s2a (g := false) h ho hu hn hx hd he hpp)
      · cases hp
    · cases hp
  · rename_i ty l r ho
    split at hp
    · rename_i e hu
      split at hp
      · rename_i z sz g i hz hq hi
        split at hp
        · rename_i hc
          obtain ⟨ax, ay, hx, hy, rfl⟩ := bin2_spec hp
          exact fin hW (fun p σ' he hpp => snd_mkS h ho hu hq hi hz hc.1 hc.2.1 hc.2.2.1 (kOk_spec hc.2.2.2) hx hy hd he hpp)
        · cases hp
      · cases hp
    · cases hp
  · rename_i args tys ho
    split at hp
    · rename_i x ha hb
      obtain ⟨ty, hty, hu⟩ := bindU hb
      obtain ⟨ax, hx, rfl⟩ := bin1_spec hp
      exact fin hW (fun p σ' he hpp => snd_lenT h ho ha hty hu hx hd he)
    · rename_i x e ha hb
      obtain ⟨ty, hty, hu⟩ := bindU hb
      obtain ⟨ax, hx, rfl⟩ := bin1_spec hp
      exact fin hW (fun p σ' he hpp => snd_len h ho ha hty hu hx hd he)
    · cases hp
  · rename_i args tys ho
    split at hp
    · rename_i x y e e2 ha hb hb2
      obtain ⟨ty, hty, hu⟩ := bindU hb
      obtain ⟨ty2, hty2, hu2⟩ := bindU hb2
      split at hp
      · rename_i sz g i z hq hi hz
        split at hp
        · cases hp
        · rename_i hc
          simp only [not_or, Bool.not_eq_false] at hc
          obtain ⟨ax, ay, hx, hy, rfl⟩ := bin2_spec hp
          exact fin hW (fun p σ' he hpp => snd_app h ho ha hty hty2 hu hu2 (.inl ⟨e2, rfl⟩) hq hi hz hc.1 (by omega) hc.2.2.1 (fun k' hk => (kOk_spec hc.2.2.2 k' hk).1) hx hy hd he hpp)
      · cases hp
    · rename_i x y e ha hb hb2
      obtain ⟨ty, hty, hu⟩ := bindU hb
      obtain ⟨ty2, hty2, hu2⟩ := bindU hb2
      split at hp
      · rename_i sz g i z hq hi hz
        split at hp
        · cases hp
        · rename_i hc
          simp only [not_or, Bool.not_eq_false] at hc
          obtain ⟨ax, ay, hx, hy, rfl⟩ := bin2_spec hp
          exact fin hW (fun p σ' he hpp => snd_app h ho ha hty hty2 hu hu2 (.inr rfl) hq hi hz hc.1 (by omega) hc.2.2.1 (fun k' hk => (kOk_spec hc.2.2.2 k' hk).1) hx hy hd he hpp)
      · cases hp
    · cases hp
  · rename_i args tys ho
    split at hp
    · rename_i x y e ha hb
      obtain ⟨ty, hty, hu⟩ := bindU hb
      split at hp
      · rename_i g hq
        obtain ⟨ax, ay, hx, hy, rfl⟩ := bin2_spec hp
        exact fin hW (fun p σ' he hpp => snd_copy h ho ha hty hu hq hx hy hd he)
      · cases hp
    · cases hp
  · rename_i args tys ho
    obtain ⟨as, hx, rfl⟩ := Option.map_eq_some_iff.1 hp
    exact fin hW (fun p σ' he hpp => snd_mm (mx := true) h ho hx hd he)
  · rename_i args tys ho
    obtain ⟨as, hx, rfl⟩ := Option.map_eq_some_iff.1 hp
    exact fin hW (fun p σ' he hpp => snd_mm (mx := false) h ho hx hd he)
  · rename_i g args tys ho
    split at hp
    · rename_i hg
      obtain ⟨as, hx, rfl⟩ := Option.map_eq_some_iff.1 hp
      have hW : callO C g (σ.evs as) K σ t := hW
      cases hv : σ.evs as with
      | none => rw [hv] at hW; exact hW.elim
      | some vs =>
        rw [hv] at hW
        have hc := call_sound hC h hP htab hx hv hd hW
        unfold Oper.wp; rw [run_callOp ho hg, Oper.upon_enter]
        rw [hP]
        refine Calls.mono hc ?_
        rintro e w' ⟨v, σ', m', rfl, h1, h2⟩
        exact hK σ' m' _ _ h2 h1
    · cases hp
  · cases hp
end ops
end Go.Abs
/- A function's text over plain values and its text in the model. -/
namespace Go.Abs
open Go Go.RowKit
set_option linter.unusedVariables false
set_option linter.unusedSimpArgs false
theorem keepL_len : ∀ (n : Nat) (ks : List Nat) (l : List (Option D)), (keepL n ks l).length = l.length
  | n, ks, [] => rfl
  | n, ks, o :: l => by simp [keepL, keepL_len (n + 1) ks l]
theorem keepL_get : ∀ (n : Nat) (ks : List Nat) (l : List (Option D)) (t : Nat) d, (keepL n ks l)[t]? = some (some d) → l[t]? = some (some d)
  | n, ks, [], t, d, h => by simp [keepL] at h
  | n, ks, o :: l, 0, d, h => by
    simp only [keepL, List.getElem?_cons_zero, Option.some.injEq] at h ⊢
    split at h
    · exact h
    · cases h
  | n, ks, o :: l, t + 1, d, h => by
    simp only [keepL, List.getElem?_cons_succ] at h ⊢
    exact keepL_get (n + 1) ks l t d h
theorem InvW.keep {c m σ a w} (h : InvW c m σ a w) (ks : List Nat) : InvW c m (σ.keep ks) a w :=
  { h with
    vsN := by simpa [St.keep, keepL_len] using h.vsN
    vsK := by simpa [St.keep, keepL_len] using h.vsK
    envV := fun t d hd => h.envV t d (keepL_get 0 ks σ.vs t d hd)
    envT := fun t d hd => by simp [St.keep, look] at hd }
theorem InvW.clear {c m σ a w} (h : InvW c m σ a w) : InvW c m { σ with ts := [] } a w :=
  { h with envT := fun t d hd => by simp [look] at hd }
theorem InvW.again {c m σ a w} (h : InvW c m σ a w) {ao : AO} {d : D} (he : σ.ev ao = some d) : InvW c m (σ.put ao.ad d) a w := h.reset he fun _ _ hr => hr
section
variable {E : Env} {C : Spec} {c : Ctx} {m : Mem} {σ : St} {a : Act} {w : World}
theorem prepG_spec {K : Nat} {ops : Array Oper} {j : Nat} {want : Bool} {g : Option (AO × Bool)} (h : prepG K ops.toList (some (j, want)) = some g) :
    ∃ t, (ops[j]?).bind (·.dst) = some t ∧ g = some (if t < K then .v t else .t t, want) := by
  simp only [prepG, Array.getElem?_toList] at h
  split at h
  · rename_i t ht; cases h; exact ⟨t, ht, rfl⟩
  · cases h
theorem tmps_get {a : Act} {t N : Nat} (hs : a.tmps.size = N) (ht : t < N) : a.tmps[t]? = some (a.tmps.getD t undef) := by
  rw [Array.getD_eq_getD_getElem?, Array.getElem?_eq_getElem (by omega)]; rfl
theorem ev_tmp (h : InvW c m σ a w) {K t : Nat} {d : D} (he : σ.ev (if t < K then .v t else .t t) = some d) : t < c.N ∧ RepD c m w σ.L σ.G t d (a.tmps.getD t undef) := by
  split at he
  · simp only [St.ev] at he
    have hg := getv_get _ _ _ he
    have := (List.getElem?_eq_some_iff.1 hg).1
    exact ⟨Nat.lt_of_lt_of_le this h.vsN, h.envV t d hg⟩
  · simp only [St.ev] at he
    obtain ⟨h1, h2, h3⟩ := h.envT t d he
    exact ⟨h2, h3⟩
theorem Wops_sound (hC : C.Sound E) (hP : c.P = E.P) (htab : c.tab = E.tab) {ops : Array Oper} {QQ : Exit → Act → World → Prop} {KK : St → Prop}
    (hQ : ∀ σ' m' a' w', InvW c m' σ' a' w' → KK σ' → QQ .normal a' w') : ∀ (l : List Oper) (i : Nat) (is : List PI) (σ : St) (m : Mem) (a : Act) (w : World),
    ops.toList.drop i = l → prepIs c.P c.K c.N false ops.toList l = some is → InvW c m σ a w → Wops E C is KK σ → wpOps c.P ops QQ (List.range' i l.length) a w
  | [], i, is, σ, m, a, w, hl, hp, h, hW => by
    simp only [prepIs] at hp; cases hp
    simp only [List.length_nil, List.range'_zero, wpOps]
    exact hQ σ m a w h hW
  | o :: l, i, is, σ, m, a, w, hl, hp, h, hW => by
    simp only [prepIs] at hp
    cases h1 : prepI c.P c.K c.N ops.toList none o with
    | none => simp [h1, consO] at hp
    | some pi =>
      cases h2 : prepIs c.P c.K c.N false ops.toList l with
      | none => simp [h1, h2, consO] at hp
      | some is' =>
        simp only [Bool.false_eq_true, if_false, h1, h2, consO] at hp; cases hp
        have hlt : i < ops.toList.length := by
          apply Classical.byContradiction; intro hn
          rw [List.drop_eq_nil_of_le (by omega)] at hl; cases hl
        have hoi : ops[i]? = some o := by
          rw [List.drop_eq_getElem_cons hlt] at hl
          simp only [List.cons.injEq] at hl
          rw [← Array.getElem?_toList, List.getElem?_eq_getElem hlt, hl.1]
        have hl' : ops.toList.drop (i + 1) = l := by
          rw [List.drop_eq_getElem_cons hlt] at hl
          simp only [List.cons.injEq] at hl; exact hl.2
        unfold prepI at h1
        split at h1
        · rename_i t g hd hg
          cases h1
          simp only [List.length_cons, List.range'_succ, wpOps, hoi]
          have ih : ∀ σ' m' a' w', InvW c m' σ' a' w' → Wops E C is' KK σ' → wpOps c.P ops QQ (List.range' (i + 1) l.length) a' w' := fun σ' m' a' w' h' hW' => Wops_sound hC hP htab hQ l (i + 1) is' σ' m' a' w' hl' h2 h' hW'
          have go : ∀ σ, InvW c m σ a w → Wop E C t ((prepOp c.P c.K ops.toList none o).getD .bad) (Wops E C is' KK) σ → o.wp c.P a w (wpOps c.P ops QQ (List.range' (i + 1) l.length)) QQ := by
            intro σ h hW
            cases hpo : prepOp c.P c.K ops.toList none o with
            | none => rw [hpo] at hW; exact False.elim hW
            | some po =>
              rw [hpo] at hW
              exact Wop_sound hC h hP htab (by rw [h.vsK]; exact hpo) (by rw [h.vsK]; exact hd) hW ih
          have skip : ∀ σ, InvW c m σ a w → skipK t (Wops E C is' KK) σ → wpOps c.P ops QQ (List.range' (i + 1) l.length) (a.put o.dst undef) w := by
            intro σ h hW
            exact ih _ m _ w (h.put (by rw [h.vsK]; exact hd) (d := .un) (v := undef) rfl) hW
          cases hgd : o.guard with
          | none =>
            rw [hgd] at hg; simp only [prepG] at hg; cases hg
            have hwant : Region.wanted o (yielded ops a.tmps) = true := by simp [Region.wanted, hgd]
            rw [if_pos hwant]
            exact .inl (go σ h hW)
          | some jw =>
            obtain ⟨j, want⟩ := jw
            rw [hgd] at hg
            obtain ⟨s, hs, rfl⟩ := prepG_spec hg
            replace hW : guardO (if s < c.K then .v s else .t s) want (σ.ev (if s < c.K then .v s else .t s)) (Wop E C t ((prepOp c.P c.K ops.toList none o).getD .bad) (Wops E C is' KK)) (skipK t (Wops E C is' KK)) σ := hW
            have hy : ∀ d, σ.ev (if s < c.K then .v s else .t s) = some d → (∀ b, d = .v (.bool b) → yielded ops a.tmps j = some b) ∧ (d = .un → yielded ops a.tmps j = none) := by
              intro d hd
              obtain ⟨e1, e2⟩ := ev_tmp h hd
              have e3 := tmps_get h.size e1
              refine ⟨fun b hb => ?_, fun hb => ?_⟩
              · subst hb
                have e2 : RepW w _ (.bool b) _ := e2
                simp only [RepW, V.isAgg, Bool.false_eq_true, if_false, RepV, List.cons.injEq, and_true] at e2
                simp only [yielded, hs, Option.bind_some, e3, e2]
              · subst hb
                have e2 : _ = undef := e2
                simp only [yielded, hs, Option.bind_some, e3]; rw [e2]; rfl
            cases hev : σ.ev (if s < c.K then .v s else .t s) with
            | none => rw [hev] at hW; exact hW.elim
            | some d =>
              obtain ⟨y1, y2⟩ := hy d hev
              rw [hev] at hW
              simp only [guardO] at hW
              split at hW
              · rename_i e; cases e
                have y := y1 true rfl
                have h' := h.again hev
                split at hW
                · rename_i hw; subst hw
                  have hwant : Region.wanted o (yielded ops a.tmps) = true := by simp [Region.wanted, hgd, y]
                  rw [if_pos hwant]; exact .inl (go _ h' hW)
                · rename_i hw
                  have hwant : Region.wanted o (yielded ops a.tmps) = false := by cases want <;> simp_all [Region.wanted]
                  rw [if_neg (by rw [hwant]; exact Bool.false_ne_true)]; exact skip _ h' hW
              · rename_i e; cases e
                have y := y1 false rfl
                have h' := h.again hev
                split at hW
                · rename_i hw; subst hw
                  have hwant : Region.wanted o (yielded ops a.tmps) = false := by simp [Region.wanted, hgd, y]
                  rw [if_neg (by rw [hwant]; exact Bool.false_ne_true)]; exact skip _ h' hW
                · rename_i hw
                  have hwant : Region.wanted o (yielded ops a.tmps) = true := by cases want <;> simp_all [Region.wanted]
                  rw [if_pos hwant]; exact .inl (go _ h' hW)
              · rename_i e; cases e
                have y := y2 rfl
                have hwant : Region.wanted o (yielded ops a.tmps) = false := by simp [Region.wanted, hgd, y]
                rw [if_neg (by rw [hwant]; exact Bool.false_ne_true)]; exact skip _ h hW
              · exact hW.elim
        · cases h1
end
end Go.Abs
/- What an operation changes, and what that depends on. -/
namespace Go.Abs
open Go Go.RowKit
set_option linter.unusedVariables false
set_option linter.unusedSimpArgs false
/-- What an operation changes. -/
structure Dl where
  f : AD × D
  d : AD × D
  L : Option (Nat × Bx)
  G : Option (Nat × V)
def memL : Option (Nat × Bx) → List Bx → List Bx
  | none, l => l
  | some (k, b), l => l.set k b
def memG : Option (Nat × V) → List (Nat × V) → List (Nat × V)
  | none, g => g
  | some (id, x), g => upd g id x
def Dl.app (δ : Dl) (σ : St) : St := (({ σ with L := memL δ.L σ.L, G := memG δ.G σ.G } : St).put δ.f.1 δ.f.2).put δ.d.1 δ.d.2
def Dl.slot (t : AD) (d : D) : Dl := ⟨(.no, .un), (t, d), none, none⟩
theorem app_slot (t : AD) (d : D) (σ : St) : (Dl.slot t d).app σ = σ.put t d := rfl
structure Agree (rd : List Nat) (F : Foot) (σ σ2 : St) : Prop where
  v : ∀ t ∈ rd, getv σ2.vs t = getv σ.vs t ∧ look σ2.ts t = look σ.ts t
  len : σ2.L.length = σ.L.length
  eq : ∀ k, F.r = some k ∨ F.w = some k ∨ F.n = some k → σ2.L[k]? = σ.L[k]?
  sh : ∀ k r, F.s = some k → σ.L[k]? = some r → ∃ r', σ2.L[k]? = some r' ∧ r.x.same r'.x = true
  g : F.gr = true ∨ F.gw = true → σ2.G = σ.G
  gs : ∀ id r, look σ.G id = some r → ∃ r', look σ2.G id = some r' ∧ r.same r' = true
theorem Agree.ev {rd F σ σ2} (h : Agree rd F σ σ2) {x : AO} (hx : ∀ t ∈ aoN x, t ∈ rd) : σ2.ev x = σ.ev x := by
  cases x with
  | v t => exact (h.v t (hx t (by simp [aoN]))).1
  | t t => exact (h.v t (hx t (by simp [aoN]))).2
  | c d => rfl
/-- What an operation does at a state, wherever else it is done. -/
structure Local (tab : List (Nat × V)) (o : PO) (t : AD) (σ : St) (δ : Dl) : Prop where
  dst : δ.d.1 = t ∨ δ.d.1 = .no
  feed : ∀ s ∈ adN δ.f.1, s ∈ fdO o
  mem : ∀ k b, δ.L = some (k, b) → (foot σ o).w = some k ∨ (foot σ o).n = some k
  shp : ∀ k b r, δ.L = some (k, b) → (foot σ o).n ≠ some k → σ.L[k]? = some r → r.x.same b.x = true
  obj : δ.G.isSome = true → (foot σ o).gw = true
  gsh : ∀ id x, δ.G = some (id, x) → ∃ r, look σ.G id = some r ∧ r.same x = true
  go : ∀ σ2, Agree (rdO o) (foot σ o) σ σ2 → ∃ p2, evalOp tab o t σ2 = some (p2, δ.app σ2) ∧ p2
theorem Local.slot {tab o t σ d} (h : ∀ σ2, Agree (rdO o) (foot σ o) σ σ2 → ∃ p2, evalOp tab o t σ2 = some (p2, σ2.put t d) ∧ p2) : Local tab o t σ (Dl.slot t d) where
  dst := .inl rfl
  feed := fun s hs => by simp [Dl.slot, adN] at hs
  mem := fun k b h => by cases h
  shp := fun k b r h => by cases h
  obj := fun h => by simp [Dl.slot] at h
  gsh := fun id x h => by cases h
  go := h
theorem Agree.refl (rd F σ) : Agree rd F σ σ := ⟨fun _ _ => ⟨rfl, rfl⟩, rfl, fun _ _ => rfl, fun k r _ h => ⟨r, h, V.same_refl _⟩, fun _ => rfl, fun id r h => ⟨r, h, V.same_refl _⟩⟩
theorem evs_agree {rd F σ σ2} (h : Agree rd F σ σ2) : ∀ {xs : List AO}, (∀ t ∈ xs.flatMap aoN, t ∈ rd) → σ2.evs xs = σ.evs xs
  | [], _ => rfl
  | x :: xs, hx => by
    simp only [St.evs]
    rw [h.ev (fun t ht => hx t (by simp only [List.flatMap_cons, List.mem_append]; exact .inl ht)), evs_agree h (fun t ht => hx t (by simp only [List.flatMap_cons, List.mem_append]; exact .inr ht))]
theorem parts_agree {rd F σ σ2} (h : Agree rd F σ σ2) : ∀ {ps : List (Nat × AO)}, (∀ t ∈ ps.flatMap (fun p => aoN p.2), t ∈ rd) → σ2.parts ps = σ.parts ps
  | [], _ => rfl
  | (i, x) :: ps, hx => by
    simp only [St.parts]
    rw [h.ev (fun t ht => hx t (by simp only [List.flatMap_cons, List.mem_append]; exact .inl ht)), parts_agree h (fun t ht => hx t (by simp only [List.flatMap_cons, List.mem_append]; exact .inr ht))]
theorem opt_agree {rd F σ σ2} (h : Agree rd F σ σ2) {x : Option AO} (hx : ∀ t ∈ opN x, t ∈ rd) (d : Int) : σ2.opt x d = σ.opt x d := by
  cases x with
  | none => rfl
  | some y => simp only [St.opt]; rw [h.ev hx]
theorem opt2_agree {rd F σ σ2} (h : Agree rd F σ σ2) {x : Option AO} (hx : ∀ t ∈ opN x, t ∈ rd) : σ2.opt2 x = σ.opt2 x := by
  cases x with
  | none => rfl
  | some y => simp only [St.opt2]; rw [h.ev hx]
/-! results that are put in a slot -/
theorem putPV_loc {σ σ' t o p} (h : putPV σ t o = some (p, σ')) : ∃ d, σ' = σ.put t d ∧ ∀ σ2 : St, putPV σ2 t o = some (p, σ2.put t d) := by
  cases o with
  | none => cases h
  | some q => obtain ⟨q, x⟩ := q; simp only [putPV] at h ⊢; cases h; exact ⟨_, rfl, fun _ => rfl⟩
theorem putVO_loc {σ σ' t o p} (h : putVO σ t o = some (p, σ')) : ∃ d, σ' = σ.put t d ∧ ∀ σ2 : St, putVO σ2 t o = some (p, σ2.put t d) := by
  cases o with
  | none => cases h
  | some q => simp only [putVO] at h ⊢; cases h; exact ⟨_, rfl, fun _ => rfl⟩
theorem putO_loc {σ σ' t q o p} (h : putO σ t q o = some (p, σ')) : ∃ d, σ' = σ.put t d ∧ ∀ σ2 : St, putO σ2 t q o = some (p, σ2.put t d) := by
  cases o with
  | none => cases h
  | some x => simp only [putO] at h ⊢; cases h; exact ⟨_, rfl, fun _ => rfl⟩
end Go.Abs
/- What the operations change, and what that depends on. -/
namespace Go.Abs
open Go Go.RowKit
set_option linter.unusedVariables false
set_option linter.unusedSimpArgs false
theorem l1 {a b : List Nat} : ∀ t ∈ a, t ∈ a ++ b := fun t h => List.mem_append_left _ h
theorem l2 {a b : List Nat} : ∀ t ∈ b, t ∈ a ++ b := fun t h => List.mem_append_right _ h
theorem Local.of_putPV {tab : List (Nat × V)} {o : PO} {t : AD} {σ σ' : St} {p : Prop} {f : St → Option (Prop × V)} (hf : ∀ σ, evalOp tab o t σ = putPV σ t (f σ)) (hag : ∀ σ2, Agree (rdO o) (foot σ o) σ σ2 → f σ2 = f σ)
    (he : evalOp tab o t σ = some (p, σ')) (hp : p) : ∃ δ : Dl, σ' = δ.app σ ∧ Local tab o t σ δ := by
  rw [hf] at he
  obtain ⟨d, h1, h2⟩ := putPV_loc he
  exact ⟨.slot t d, h1, .slot fun σ2 h => ⟨p, by rw [hf, hag σ2 h]; exact h2 σ2, hp⟩⟩
theorem Local.of_putVO {tab : List (Nat × V)} {o : PO} {t : AD} {σ σ' : St} {p : Prop} {f : St → Option V} (hf : ∀ σ, evalOp tab o t σ = putVO σ t (f σ)) (hag : ∀ σ2, Agree (rdO o) (foot σ o) σ σ2 → f σ2 = f σ)
    (he : evalOp tab o t σ = some (p, σ')) (hp : p) : ∃ δ : Dl, σ' = δ.app σ ∧ Local tab o t σ δ := by
  rw [hf] at he
  obtain ⟨d, h1, h2⟩ := putVO_loc he
  exact ⟨.slot t d, h1, .slot fun σ2 h => ⟨p, by rw [hf, hag σ2 h]; exact h2 σ2, hp⟩⟩
/-- A result that is put in a slot, and is made of things that agree. -/
theorem Local.of_fun {tab : List (Nat × V)} {o : PO} {t : AD} {σ σ' : St} {p : Prop} {α : Type} {g : α → St → Res} {f : St → α} (hf : ∀ σ, evalOp tab o t σ = g (f σ) σ) (hag : ∀ σ2, Agree (rdO o) (foot σ o) σ σ2 → f σ2 = f σ)
    (hg : ∀ x σ p σ', g x σ = some (p, σ') → ∃ d, σ' = σ.put t d ∧ ∀ σ2 : St, g x σ2 = some (p, σ2.put t d))
    (he : evalOp tab o t σ = some (p, σ')) (hp : p) : ∃ δ : Dl, σ' = δ.app σ ∧ Local tab o t σ δ := by
  rw [hf] at he
  obtain ⟨d, h1, h2⟩ := hg _ _ _ _ he
  exact ⟨.slot t d, h1, .slot fun σ2 h => ⟨p, by rw [hf, hag σ2 h]; exact h2 σ2, hp⟩⟩
theorem oConv_loc (k : IntKind) (t : AD) : ∀ (x : Option V) σ p σ', oConv k σ t x = some (p, σ') → ∃ d, σ' = σ.put t d ∧ ∀ σ2 : St, oConv k σ2 t x = some (p, σ2.put t d) := by
  intro x σ p σ' h
  unfold oConv at *; split at h <;> cases h; exact ⟨_, rfl, fun _ => rfl⟩
theorem oNilc_loc (t : AD) : ∀ (x : Option D) σ p σ', oNilc σ t x = some (p, σ') → ∃ d, σ' = σ.put t d ∧ ∀ σ2 : St, oNilc σ2 t x = some (p, σ2.put t d) := by
  intro x σ p σ' h
  unfold oNilc at *; split at h <;> cases h <;> exact ⟨_, rfl, fun _ => rfl⟩
theorem oElems_loc (k : Option IntKind) (sz : Nat) (t : AD) : ∀ (x : Option V) σ p σ', oElems k sz σ t x = some (p, σ') → ∃ d, σ' = σ.put t d ∧ ∀ σ2 : St, oElems k sz σ2 t x = some (p, σ2.put t d) := by
  intro x σ p σ' h
  unfold oElems at *; split at h
  · exact putO_loc h
  · cases h
theorem oBuild_loc (z : V) (t : AD) : ∀ (x : Option (List (Nat × V))) σ p σ', oBuild z σ t x = some (p, σ') → ∃ d, σ' = σ.put t d ∧ ∀ σ2 : St, oBuild z σ2 t x = some (p, σ2.put t d) := by
  intro x σ p σ' h
  unfold oBuild at *; split at h
  · exact putVO_loc h
  · cases h
theorem oBuildS_loc (k : Option IntKind) (sz : Nat) (z : V) (len : Nat) (t : AD) : ∀ (x : Option (List (Nat × V))) σ p σ', oBuildS k sz z len σ t x = some (p, σ') → ∃ d, σ' = σ.put t d ∧ ∀ σ2 : St, oBuildS k sz z len σ2 t x = some (p, σ2.put t d) := by
  intro x σ p σ' h
  unfold oBuildS at *; split at h
  · exact oElems_loc _ _ _ _ _ _ _ h
  · cases h
theorem oEqa_loc (neg : Bool) (e : ET) (t : AD) : ∀ (x : Option V × Option V) σ p σ', oEqa neg e σ t x.1 x.2 = some (p, σ') → ∃ d, σ' = σ.put t d ∧ ∀ σ2 : St, oEqa neg e σ2 t x.1 x.2 = some (p, σ2.put t d) := by
  intro x σ p σ' h
  unfold oEqa at *; split at h
  · exact putVO_loc h
  · cases h
theorem oField_loc (f off n : Nat) (ag : Bool) (t : AD) : ∀ (x : Option V) σ p σ', oField f off n ag σ t x = some (p, σ') → ∃ d, σ' = σ.put t d ∧ ∀ σ2 : St, oField f off n ag σ2 t x = some (p, σ2.put t d) := by
  intro x σ p σ' h
  unfold oField at *; split at h
  · unfold oFld at *; split at h
    · split at h
      · rename_i hc; cases h; exact ⟨_, rfl, fun _ => if_pos hc⟩
      · cases h
    · cases h
  · cases h
theorem oIadrS_loc (sz : Nat) (t : AD) : ∀ (x : Option V × Option Int) σ p σ', oIadrS sz σ t x.1 x.2 = some (p, σ') → ∃ d, σ' = σ.put t d ∧ ∀ σ2 : St, oIadrS sz σ2 t x.1 x.2 = some (p, σ2.put t d) := by
  intro x σ p σ' h
  unfold oIadrS at *; split at h
  · split at h
    · rename_i hc; cases h; exact ⟨_, rfl, fun _ => if_pos hc⟩
    · cases h
  · split at h
    · rename_i hc; cases h; exact ⟨_, rfl, fun _ => if_pos hc⟩
    · cases h
  · cases h
theorem oIdxS_loc (t : AD) : ∀ (x : Option V × Option Int) σ p σ', oIdxS σ t x.1 x.2 = some (p, σ') → ∃ d, σ' = σ.put t d ∧ ∀ σ2 : St, oIdxS σ2 t x.1 x.2 = some (p, σ2.put t d) := by
  intro x σ p σ' h
  unfold oIdxS at *; split at h
  · cases h; exact ⟨_, rfl, fun _ => rfl⟩
  · cases h
theorem oIdxA_loc (n : Nat) (t : AD) : ∀ (x : Option V × Option Int) σ p σ', oIdxA n σ t x.1 x.2 = some (p, σ') → ∃ d, σ' = σ.put t d ∧ ∀ σ2 : St, oIdxA n σ2 t x.1 x.2 = some (p, σ2.put t d) := by
  intro x σ p σ' h
  unfold oIdxA at *; split at h
  · split at h
    · rename_i hc; cases h; exact ⟨_, rfl, fun _ => if_pos hc⟩
    · cases h
  · cases h
theorem oExt_loc (i : Nat) (t : AD) : ∀ (x : Option D) σ p σ', oExt i σ t x = some (p, σ') → ∃ d, σ' = σ.put t d ∧ ∀ σ2 : St, oExt i σ2 t x = some (p, σ2.put t d) := by
  intro x σ p σ' h
  unfold oExt at *; split at h
  · exact putVO_loc h
  · cases h
theorem oS2a_loc (n : Nat) (t : AD) : ∀ (x : Option V) σ p σ', oS2a n σ t x = some (p, σ') → ∃ d, σ' = σ.put t d ∧ ∀ σ2 : St, oS2a n σ2 t x = some (p, σ2.put t d) := by
  intro x σ p σ' h
  unfold oS2a at *; split at h
  · cases h; exact ⟨_, rfl, fun _ => rfl⟩
  · cases h
theorem oMM_loc (mx : Bool) (t : AD) : ∀ (x : Option (List V)) σ p σ', oMM mx σ t x = some (p, σ') → ∃ d, σ' = σ.put t d ∧ ∀ σ2 : St, oMM mx σ2 t x = some (p, σ2.put t d) := by
  intro x σ p σ' h
  unfold oMM at *; split at h
  · exact putVO_loc h
  · cases h
theorem oMkS_loc (k : Option IntKind) (sz bytes : Nat) (z : V) (t : AD) : ∀ (x : Option Int × Option Int) σ p σ', oMkS k sz bytes z σ t x.1 x.2 = some (p, σ') → ∃ d, σ' = σ.put t d ∧ ∀ σ2 : St, oMkS k sz bytes z σ2 t x.1 x.2 = some (p, σ2.put t d) := by
  intro x σ p σ' h
  unfold oMkS at *; split at h
  · cases h; exact ⟨_, rfl, fun _ => rfl⟩
  · cases h
theorem oSlcT2_loc (s : ByteArray) (t : AD) : ∀ (x : Option Int × Option Int) σ p σ', oSlcT2 s σ t x.1 x.2 = some (p, σ') → ∃ d, σ' = σ.put t d ∧ ∀ σ2 : St, oSlcT2 s σ2 t x.1 x.2 = some (p, σ2.put t d) := by
  intro x σ p σ' h
  unfold oSlcT2 at *; split at h
  · cases h; exact ⟨_, rfl, fun _ => rfl⟩
  · cases h
theorem oSlcS3_loc (sz : Nat) (y : V) (n : Int) (t : AD) (l h' : Option Int) (q : Option (Option Int)) (z : Option V) : ∀ σ p σ', oSlcS3 sz y n σ t l h' q z = some (p, σ') → ∃ d, σ' = σ.put t d ∧ ∀ σ2 : St, oSlcS3 sz y n σ2 t l h' q z = some (p, σ2.put t d) := by
  intro σ p σ' h
  unfold oSlcS3 at *; split at h
  · split at h
    · rename_i hc; cases h; exact ⟨_, rfl, fun _ => if_pos hc⟩
    · cases h
  · split at h
    · rename_i hc; cases h; exact ⟨_, rfl, fun _ => if_pos hc⟩
    · cases h
  · cases h
end Go.Abs
