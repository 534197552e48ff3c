/- The same, where package-level tables read as listed. And: what stands for nil stands for no elements. -/
import Derived.Test.YtjbglbhcbenhpaaDoorPlain5
import Derived.LaidMore
import Derived.MakeChecks
import Derived.OpenShut
import Derived.FnData
import Derived.Stop.Joined
namespace Go.Abs
open Go Go.RowKit Go.ChangeShapes Go.WideShapes Go.ChangeAt
set_option linter.unusedVariables false
set_option linter.unusedSimpArgs false
/-- A listed table's cells. -/
theorem laid_row {H : Type} {enc : TypeId × Value → H} {P : Program} {w : World} {base : Nat} {sp : Nat → Bool} {held : Bool} {fuel n : Nat} {t e : TypeId} {k : IntKind} {cs : List Value} {xs : List Int} {p : List MemPlace}
    (ht : P.underlying t = some (.array n e)) (he : P.underlying e = some (.int k)) (hc : P.cellsOf e = 1) (hct : P.cellsOf t = n)
    (h : DataW.trod enc P w base sp held fuel t cs = some (.agg (xs.map fun x => .lit (.int k x)), p)) : xs.length = n ∧ cs = xs.map (.int k) := by
  obtain ⟨ys, m, rfl, hx, hlen, hn, hel⟩ := DataW.trod_array ht h
  simp only [Prod.mk.injEq, DataW.agg.injEq] at hx
  have hxl : xs.length = n := by rw [← hn]; have := congrArg List.length hx.1; simpa using this
  refine ⟨hxl, ?_⟩
  rw [hct] at hlen
  apply List.ext_getElem?
  intro i
  by_cases hi : i < n
  · have h1 := hel i hi
    rw [hc, Nat.mul_one] at h1
    have hyi : ys[i]? = some ys[i] := List.getElem?_eq_getElem (by omega)
    rw [hyi] at h1
    have hd : ys[i].1 = .lit (.int k (xs[i]'(by omega))) := by
      have := congrArg (·[i]?) hx.1
      simp only [List.getElem?_map, List.getElem?_eq_getElem (show i < ys.length by omega), List.getElem?_eq_getElem (show i < xs.length by omega), Option.map_some, Option.some.injEq] at this
      exact this.symm
    obtain ⟨k', e1, e2⟩ := DataW.trod_int he (x := ys[i]) h1
    have hk : k' = xs[i]'(by omega) := by
      have e3 : ys[i].1 = .lit (.int k k') := by rw [e2.1]
      rw [hd] at e3; simpa using e3.symm
    subst hk
    rw [List.getElem?_map, List.getElem?_eq_getElem (show i < xs.length by omega)]
    have h5 : ((cs.drop i).take 1)[0]? = some (Value.int k (xs[i]'(by omega))) := by rw [e1]; rfl
    rw [List.getElem?_take, if_pos (by omega), List.getElem?_drop, Nat.add_zero] at h5
    exact h5
  · rw [List.getElem?_eq_none (by omega), List.getElem?_eq_none (by simp; omega)]
theorem laidVars_mem {P : Program} {w : World} : ∀ {laid : List (String × DataW Unit)} {ps : List MemPlace} {nm : String} {d : DataW Unit}, DataW.LaidVars P w laid ps → (nm, d) ∈ laid →
    ∃ g t cs fuel p, P.globalNamed nm = some g ∧ (P.globals[g]?).map (·.type) = some t ∧ w.var? P nm = some cs ∧ DataW.trod (fun _ => ()) P w 0 (fun _ => true) false fuel t cs.toList = some (d, p)
  | [], _, _, _, _, hm => by cases hm
  | (n0, d0) :: r, ps, nm, d, h, hm => by
    obtain ⟨g, t, cs, fuel, p, q, h1, h2, h3, h4, h5, _⟩ := h
    rcases List.mem_cons.1 hm with e | hm
    · cases e; exact ⟨g, t, cs, fuel, p, h1, h2, h3, h4⟩
    · exact laidVars_mem h5 hm
/-- What the listed tables give. -/
theorem tabs_of_laid {P : Program} {laid : List (String × DataW Unit)} {W : World} {tab : List (Nat × V)} (hp : (laid.all fun x => x.2.handleName?.isNone) = true) (hm : laidMetH P laid W)
    (ht : ∀ g x, look tab g = some x → ∃ nm t e k n xs, (nm, DataW.agg (xs.map fun x => .lit (.int k x))) ∈ laid ∧ P.globalNamed nm = some g ∧ (P.globals[g]?).map (·.type) = some t ∧ P.underlying t = some (.array n e) ∧ P.underlying e = some (.int k) ∧ P.cellsOf e = 1 ∧ P.cellsOf t = n ∧ x = .arr k n xs) :
    ∀ g x, look tab g = some x → ∃ cs, Reads W (MB (fun _ _ => False) (fun _ => false)) ⟨g, 0, none⟩ cs ∧ RepV W (MB (fun _ _ => False) (fun _ => false)) x cs := by
  intro g x hx
  obtain ⟨nm, t, e, k, n, xs, h1, h2, h3, h4, h5, h6, h7, rfl⟩ := ht g x hx
  rw [MakeChecks.laidMetH_plain _ _ _ hp] at hm
  obtain ⟨ps, hv, _⟩ := hm
  obtain ⟨g', t', cs, fuel, p, e1, e2, e3, e4⟩ := laidVars_mem hv h1
  rw [h2] at e1; cases e1
  rw [h3] at e2; cases e2
  obtain ⟨h8, h9⟩ := laid_row h4 h5 h6 h7 e4
  refine ⟨xs.map (.int k), fun j v hj => ⟨?_, noM _ _⟩, ⟨h8, rfl⟩⟩
  have := World.var?_cell h2 e3 j
  rw [← Array.getElem?_toList, h9, hj] at this
  rw [addr_add, Nat.zero_add]; exact this
/-- What the statement asks of a law's function, where tables are listed. -/
theorem law_laid {C : Checked} {f : FuncId} {fn : Func} {s : ChangeSpec} {os : Os} {H : Type} {enc : TypeId × Value → H} {conds : List PathCond} {tb : TypeId} {n : Nat} {tab : List (Nat × V)} {laid : List (String × DataW Unit)}
    (own : ownKnob C.prog.godebug = none) (started : os.Started) (noInit : C.prog.inits.idxOf? f = none) (hfn : C.prog.funcs[f]? = some fn)
    (hwit : ∃ (w : World) (tape : Tape) (i : Input), w.os = os ∧ (w.forCall tape i).Shaped C.prog ∧ i.vars = [] ∧ Input.okWide C.prog (w.forCall tape i) .any w.heap.size f i ∧
      ((s.pre enc C.prog fn conds false (w.forCall tape i).memory i.args ∧ laidMetH C.prog laid (w.forCall tape i).memory) ∧ sizedMet enc C.prog fn (OpenSpec.ofChange s) false (w.forCall tape i).memory i.args) ∧ ({} : Assume).holds C.prog (lone (Frame.enter C.prog f i.args .normal) [] (w.forCall tape i)))
    (hl : laidOutB C.prog = true) (hvars : s.vars = []) (hres : fn.resultTypes = #[tb]) (hb : C.prog.underlying tb = some .bool)
    (hspec : ∀ (H : Type) (ds : List (DataW H)), ds.length = fn.params.toList.length → s.fn H ds = { results := [.lit (.bool true)], args := ds })
    (hrow : ∀ t ∈ fn.params.toList, C.prog.readableRec t = true ∧ t < C.prog.types.size) (hok : ∀ t ∈ fn.params.toList, TyOk C.prog n t = true)
    (htab : ∀ W : World, laidMetH C.prog laid W → ∀ g x, look tab g = some x → ∃ cs, Reads W (MB (fun _ _ => False) (fun _ => false)) ⟨g, 0, none⟩ cs ∧ RepV W (MB (fun _ _ => False) (fun _ => false)) x cs)
    (hlaw : ∀ vs : List V, TyAll C.prog n fn.params.toList vs → Ret ⟨C.prog, tab⟩ f vs [] (fun r _ => r = .v (.bool true))) :
    ReturnsInHanded {} C os f .any (fun w args => (s.pre enc C.prog fn conds false w args ∧ laidMetH C.prog laid w) ∧ sizedMet enc C.prog fn (OpenSpec.ofChange s) false w args) (s.post enc C.prog fn false true false false) := by
  refine returnsInHanded_of_change_and (X := fun w _ => laidMetH C.prog laid w) (fun _ _ _ hh h => h.of_heap hh) own started noInit hfn hwit ?_
  intro W base args ds gs before hval hW hcnd _ hL _
  have hW' := hW
  obtain ⟨p, q, hA, hV, rfl, hfz, hnd⟩ := hW
  rw [hvars] at hV
  obtain ⟨rfl, rfl⟩ := trodVars_none hV
  obtain ⟨xs, h1, h2, h3, h4⟩ := open_all (M := MB (fun _ _ => False) (fun _ => false)) noM (n := n) (fun j t v e1 e2 => hval j t v (by rw [← Array.getElem?_toList]; exact e1) (by rw [← Array.getElem?_toList]; exact e2)) hA hok
  have hR := hlaw xs h1 (fun _ _ => False) (fun _ => false) W args
    { callers := fun _ _ h => h.elim, sep := fun _ _ _ => rfl, blk := fun _ h => by simp at h, objs := fun id x h => by simp [look] at h, tabs := htab W hL } (by simpa using h2)
    (fun i x hx => by
      obtain ⟨v, e1, e2⟩ := h4 i x hx
      exact ⟨v, by rw [← Array.getElem?_toList]; exact e1, e2⟩)
  refine Calls.mono hR ?_
  rintro e W' ⟨v, r, G', m', rfl, rfl, he, hrep⟩
  have hv : v = .bool true := by
    have : RepW W' _ (.bool true) v := hrep
    simp only [RepW, V.isAgg, Bool.false_eq_true, if_false, RepV, List.cons.injEq, and_true] at this
    exact this
  subst hv
  have bel : Below W.heap.size W W' := ⟨he.os, he.tape, he.output, he.grown, fun k hk => he.old k hk rfl⟩
  refine ⟨_, rfl, ds, [], p ++ [], [], p, [], hW', ?_, ?_, ?_, bel.frame _, fun h => (by cases h)⟩
  · rw [List.append_nil, hspec H ds h3, hres]; exact trodAll_mk1 (shut_bool hb _)
  · rw [List.append_nil, hspec H ds h3]; exact stay_all hl bel hrow hA
  · rw [hvars, List.append_nil, hspec H ds h3]; exact rfl
/-! ### what stands for nil stands for no elements -/
def Wk (x x' : V) : Prop := x' = x ∨ (x = .nils ∧ ((∃ k, x' = .sli k []) ∨ ∃ sz, x' = .sle sz []))
theorem Wk.rep {w M x x' v} (h : Wk x x') (hr : RepW w M x v) : RepW w M x' v := by
  rcases h with rfl | ⟨rfl, ⟨k, rfl⟩ | ⟨sz, rfl⟩⟩
  · exact hr
  · have : v = .slice none 0 0 := by simpa [RepW, V.isAgg, RepV] using hr
    subst this
    simp only [RepW, V.isAgg, Bool.false_eq_true, if_false, RepV]
    exact ⟨none, 0, rfl, Nat.le_refl _, fun _ => rfl, fun p h => by cases h⟩
  · have : v = .slice none 0 0 := by simpa [RepW, V.isAgg, RepV] using hr
    subst this
    simp only [RepW, V.isAgg, Bool.false_eq_true, if_false, RepV]
    exact ⟨none, 0, rfl, Nat.le_refl _, fun _ => rfl, fun p h => by cases h⟩
theorem Ret.args {E g vs vs' G Q} (hl : vs.length = vs'.length) (hw : ∀ (i : Nat) x', vs'[i]? = some x' → ∃ x, vs[i]? = some x ∧ Wk x x') (h : Ret E g vs' G Q) : Ret E g vs G Q := by
  intro Mc B w args hs ha hr
  refine h Mc B w args hs (by rw [ha, hl]) (fun i x' hx' => ?_)
  obtain ⟨x, h1, h2⟩ := hw i x' hx'
  obtain ⟨v, h3, h4⟩ := hr i x h1
  exact ⟨v, h3, h2.rep h4⟩
def wkV (k : IntKind) : V → V
  | .nils => .sli k []
  | x => x
/-- A result that may be nil: as one that has no elements. -/
def wkR (k : IntKind) : R → R
  | .v x => .v (wkV k x)
  | .own x => .own (wkV k x)
  | r => r
theorem wkV_wk (k : IntKind) (x : V) : Wk x (wkV k x) := by
  cases x <;> first | exact .inl rfl | exact .inr ⟨rfl, .inl ⟨k, rfl⟩⟩
theorem Ret.res {E g vs G Q} (k : IntKind) (h : Ret E g vs G (fun r G' => Q (wkR k r) G')) : Ret E g vs G Q := by
  intro Mc B w args hs ha hr
  refine Calls.mono (h Mc B w args hs ha hr) ?_
  rintro e W' ⟨v, r, G', m', h1, h2, h3, h4⟩
  refine ⟨v, wkR k r, G', m', h1, h2, h3, ?_⟩
  cases r with
  | v x => exact (wkV_wk k x).rep h4
  | own x =>
    obtain ⟨h5, h6⟩ := h4
    refine ⟨(wkV_wk k x).rep h5, ?_⟩
    by_cases hx : x = .nils
    · subst hx
      have hv : v = .slice none 0 0 := by simpa [RepW, V.isAgg, RepV] using h5
      subst hv
      exact ⟨0, none, 0, rfl, .inl rfl⟩
    · have : wkV k x = x := by cases x <;> first | rfl | exact absurd rfl hx
      rw [this]; exact h6
  | tup l => exact h4
end Go.Abs
