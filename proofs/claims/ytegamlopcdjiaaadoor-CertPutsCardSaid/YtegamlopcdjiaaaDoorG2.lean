/- Laws over plain values, and what functions of the program hand back; no conditions. -/
import Derived.Test.YtegamlopcdjiaaaDoorG1
namespace Go.Proofs.YtegamlopcdjiaaaDoor.Sha
open Go Go.Abs Go.Abs.Sha Go.Abs.Srt
set_option linter.unusedSimpArgs false
set_option linter.unusedVariables false
set_option maxRecDepth 100000
def lp121_0:PC:=
 ((PC.regD 0 [mm 18 9,mm 19 1,nn (.t 20) (.bin .gtr (.t 18) (.t 19)),nn (.t 21) (.mv false (.t 20)),gm 22 3 21 true,gm 23 0 21 true,gm 24 9 21
  true,⟨.t 25,.iadrS 101 (.t 23) (.t 24),some (.t 21,true)⟩,⟨.t 26,.load 101 true (.t 25),some (.t 21,true)⟩,gm 27 0 21 true,gm 28 9 21 true,
  ⟨.t 29,.bin .sub (.t 28) (.c (.v (.int .i64 1))),some (.t 21,true)⟩,⟨.t 30,.iadrS 101 (.t 27) (.t 29),some (.t 21,true)⟩,⟨.t 31,.load 101
  true (.t 30),some (.t 21,true)⟩,⟨.t 32,.callV (.t 22) [.t 26,.t 31],some (.t 21,true)⟩,⟨.t 33,.bin .lss (.t 32) (.c (.v (.int .i64 0))),
  some (.t 21,true)⟩,nn (.t 34) (.pick (.t 21) (.t 33) (.c (.v (.bool false))))] []).seq (PC.cond (.t 34) PC.skip (PC.exit 2))).seq ((PC.block 3
  (PC.regD 0 [mm 37 0,mm 38 9,mm 39 0,mm 40 9,nn (.t 41) (.bin .sub (.t 40) (.c (.v (.int .i64 1)))),mm 42 0,mm 43 9,nn (.t 44) (.bin .sub (.t
  43) (.c (.v (.int .i64 1)))),nn (.t 45) (.iadrS 101 (.t 42) (.t 44)),nn (.t 46) (.load 101 true (.t 45)),mm 47 0,mm 48 9,nn (.t 49) (.iadrS 101
  (.t 47) (.t 48)),nn (.t 50) (.load 101 true (.t 49)),nn (.t 51) (.iadrS 101 (.t 37) (.t 38)),nn .no (.store 101 (.t 51) (.t 46)),nn (.t 52)
  (.iadrS 101 (.t 39) (.t 41)),nn .no (.store 101 (.t 52) (.t 50))] [])).seq (PC.reg [mm 35 9,nn (.t 36) (.bin .sub (.t 35) (.c (.v (.int .i64 1)))),
  ma 9 36]))
def lp121_1:PC:=
 ((PC.reg [mm 12 8,mm 13 2,nn (.t 14) (.bin .lss (.t 12) (.t 13))]).seq (PC.cond (.t 14) PC.skip (PC.exit 0))).seq ((PC.block 1 ((PC.reg [nn (.t 17)
  (.mv true (.v 8)),ma 9 17]).seq (PC.block 2 (PC.loop [0,1,2,3,8,9] lp121_0)))).seq (PC.reg [mm 15 8,nn (.t 16) (.bin .add (.t 15) (.c (.v
  (.int .i64 1)))),ma 8 16]))
def pf121:PF:=
 PF.mk 4 10 53 ((PC.reg [mm 10 1,nn (.t 11) (.bin .add (.t 10) (.c (.v (.int .i64 1)))),ma 8 11]).seq (PC.block 0 (PC.loop [0,1,2,3,8] lp121_1)))
  []
attribute [local irreducible] W Wops WopsD WL Wop WopD
variable {E:Env} {C:Abs.Spec} {l:List (Nat×Spec1)} {G:List (Nat×V)} {Q:R→List (Nat×V)→Prop}
set_option maxHeartbeats 1000000
theorem loopA121 {T:List (Nat×Spec1)} (hT:Sub T l) (hok:(T.all fun p=>calleeOk E.P p.1)=true) {id n c a b i f:Nat} {caps:List V} {P:V→Prop} {key:V→Int} {z:V} {QQ:Ex→St→Prop} (hf:KeyFn T f caps P key) {L0:List V} (hG:Abs.look G id=some (.agg L0)) (hn:n < 1000000000000000) (hnL:n≤L0.length)
  {TL U S0:List V} {x:V} (hTL:TL.length=a) (hPx:P x)
  (hx:∀(A B:List V) (j:Nat) ts,(∀y∈A,key y≤key x)→(∀y∈B,key x < key y)→A++B=S0→QQ (.exit 2) ⟨[some (.v (.sob id 101 0 n c)),some (.v (.int .i64 (a:Nat))),some (.v (.int .i64 (b:Nat))),some (.v (.fn f caps)),none,none,none,none,some (.v (.int .i64 (i:Nat))),some (.v (.int .i64 (j:Nat)))],ts,[],Abs.upd G id (.agg (TL++(A++x::B)++U))⟩):
  ∀(k:Nat) (A B:List V) (j:Nat),A.length=k→j=a+A.length→A++B=S0→Up key A→(∀y∈A,P y)→(∀y∈B,key x < key y)→RowOk 101 z (TL++(A++x::B)++U)→(TL++(A++x::B)++U).length=L0.length→a+A.length < n→
   WL (W E (specOf l) lp121_0) [0,1,2,3,8,9] QQ (k+1) ⟨[some (.v (.sob id 101 0 n c)),some (.v (.int .i64 (a:Nat))),some (.v (.int .i64 (b:Nat))),some (.v (.fn f caps)),none,none,none,none,some (.v (.int .i64 (i:Nat))),some (.v (.int .i64 (j:Nat)))],[],[],Abs.upd G id (.agg (TL++(A++x::B)++U))⟩:=by
 intro k
 induction k with
 |zero=>
  rintro A B j hk rfl hS hu hP hB hR hlen hlt
  have:A=[]:=List.eq_nil_of_length_eq_zero hk
  subst this
  have c1:¬((a+0:Nat):Int) > (a:Int):=by omega
  refine WL_in lp121_0.eq_1 ?_
  have hq:=hx [] B (a+0)
  simp only[List.length_nil]at hq⊢
  simp (maxSteps:=1000000) (implicitDefEqProofs:=false) only[c1,Int.lt_irrefl,go_sem,↓reduceIte]
  exact hq _ (fun y hy=>by simp at hy) hB hS
 |succ k ih=>
  rintro A B j hk rfl hS hu hP hB hR hlen hlt
  rcases concat_cases A with rfl|⟨A',y,rfl⟩
  ·simp at hk
  have hA':A'.length=k:=by simpa using hk
  have hq:=hx (A'++[y]) B (a+(A'.length+1))
  have ih2:=ih A' (y::B) (a+A'.length) hA' rfl
  have hl:(A'++[y]).length=A'.length+1:=by simp
  rw[hl]at hlt⊢
  have e0:TL++((A'++[y])++x::B)++U=(TL++A')++y::x::(B++U):=by simp
  have e1:TL++(A'++x::y::B)++U=(TL++A')++x::y::(B++U):=by simp
  rw[e1]at ih2
  rw[e0]at hq hR hlen⊢
  have lTA:(TL++A').length=a+A'.length:=by simp[hTL]
  have g1:((TL++A')++y::x::(B++U))[a+(A'.length+1)]? =some x:=get_mid2 (by omega)
  have g0:((TL++A')++y::x::(B++U))[a+A'.length]? =some y:=get_mid (by omega)
  have sw:(((TL++A')++y::x::(B++U)).set (a+(A'.length+1)) y).set (a+A'.length) x=(TL++A')++x::y::(B++U):=swap_mid (by omega) (by omega)
  have hRs:RowOk 101 z ((TL++A')++x::y::(B++U)):=hR.mem fun w hw=>by
   simp only[List.mem_append,List.mem_cons]at hw⊢
   rcases hw with h|h|h|h<;>simp[h]
  have hls:((TL++A')++x::y::(B++U)).length=L0.length:=by rw[←hlen];simp
  have hPy:P y:=hP y (by simp)
  generalize hL:(TL++A')++y::x::(B++U)=L at*
  have hcur:Abs.look (Abs.upd G id (.agg L)) id=some (.agg L):=look_upd_same hG
  have s1:=hR.get g1
  have s0:=hR.get g0
  have m01:=hR.same g0 g1
  have m10:=hR.same g1 g0
  have g1':(L.set (a+(A'.length+1)) y)[a+A'.length]? =some y:=by rw[List.getElem?_set_ne (by omega)];exact g0
  have hcur2:Abs.look (Abs.upd G id (.agg (L.set (a+(A'.length+1)) y))) id=some (.agg (L.set (a+(A'.length+1)) y)):=look_upd_same hG
  have c1:((a+(A'.length+1):Nat):Int) > (a:Int):=by omega
  have hln:a+(A'.length+1) < L.length:=by omega
  have ew:IntKind.i64.wrap (((a+(A'.length+1):Nat):Int)-1)=((a+A'.length:Nat):Int):=by rw[show (((a+(A'.length+1):Nat):Int)-1)=((a+A'.length:Nat):Int)by omega];exact w64 (by omega) (by omega)
  have hsz:=hR.sizes
  refine WL_in lp121_0.eq_1 ?_
  have a1:=s1.2.1
  have a0:=s0.2.1
  unfold V.isAgg at a1 a0
  simp (maxSteps:=1000000) (implicitDefEqProofs:=false) only[c1,ew,hcur,g1,g0,s1.1,s0.1,a1,a0,Int.toNat_natCast,go_sem,↓reduceIte]
  refine⟨⟨⟨by omega,by omega⟩,by omega,hsz⟩,⟨⟨by omega,by omega⟩,by omega,hsz⟩,ok_of hok hf.1,hT.run hf.1 (hf.2 x y _ _ hPx hPy fun r hr=>⟨rfl,?_⟩)⟩
  by_cases hk:key x < key y
  ·have hr1:r < 0:=hr.2 hk
   have ew2:IntKind.i64.wrap (((a+(A'.length+1):Nat):Int)-1)=((a+A'.length:Nat):Int):=ew
   have hsz2:=(hR.set (i:=a+(A'.length+1)) g0).sizes
   simp (maxSteps:=1000000) (implicitDefEqProofs:=false) only[hr1,ew,hcur,hcur2,g1,g0,g1',s1.1,s0.1,a1,a0,m01,m10,sw,Int.toNat_natCast,upd_upd,go_sem,↓reduceIte]
   exact⟨⟨⟨by omega,by omega⟩,by omega,hsz⟩,⟨⟨by omega,by omega⟩,by omega,hsz⟩,⟨⟨by omega,by omega⟩,by omega,hsz⟩,⟨⟨by omega,by omega⟩,by rw[List.length_set];omega,hsz2⟩,ih2 (by rw[←hS];simp) (up_init hu) (fun w hw=>hP w (by simp[hw])) (fun w hw=>(List.mem_cons.1 hw).elim (fun e=>e▸hk) (hB w)) hRs hls (by omega)⟩
  ·have hr1:¬r < 0:=fun h=>hk (hr.1 h)
   simp (maxSteps:=1000000) (implicitDefEqProofs:=false) only[hr1,go_sem,↓reduceIte]
   exact hq _ (up_last hu (by omega)) hB hS
theorem loopB121 {T:List (Nat×Spec1)} (hT:Sub T l) (hok:(T.all fun p=>calleeOk E.P p.1)=true) {id n c a b f:Nat} {caps:List V} {P:V→Prop} {key:V→Int} {z:V} {QQ:Ex→St→Prop} (hf:KeyFn T f caps P key) {L0:List V} (hG:Abs.look G id=some (.agg L0)) (hn:n < 1000000000000000) (hnL:n≤L0.length)
  {TL:List V} (hTL:TL.length=a) (hbn:b≤n)
  (hx:∀(L:List V) ts,(∃S R,L=TL++srt key S++R∧L0=TL++S++R∧(a+S.length=b∨b < a∧S=[]))→QQ (.exit 0) ⟨[some (.v (.sob id 101 0 n c)),some (.v (.int .i64 (a:Nat))),some (.v (.int .i64 (b:Nat))),some (.v (.fn f caps)),none,none,none,none,some (.v (.int .i64 (b:Nat))),none],ts,[],Abs.upd G id (.agg L)⟩):
  ∀(k:Nat) (S R:List V) (G2:List (Nat×V)),G2=Abs.upd G id (.agg (TL++srt key S++R))→0 < S.length→a+S.length+k=b→L0=TL++S++R→(∀y∈L0,P y)→RowOk 101 z L0→
   WL (W E (specOf l) lp121_1) [0,1,2,3,8] QQ (k+1) ⟨[some (.v (.sob id 101 0 n c)),some (.v (.int .i64 (a:Nat))),some (.v (.int .i64 (b:Nat))),some (.v (.fn f caps)),none,none,none,none,some (.v (.int .i64 ((a+S.length:Nat):Int))),none],[],[],G2⟩:=by
 intro k
 induction k with
 |zero=>
  rintro S R G2 rfl h0 hk hL hP hR
  have c1:¬((a+S.length:Nat):Int) < (b:Int):=by omega
  have hq:=hx (TL++srt key S++R)
  have e:a+S.length=b:=by omega
  refine WL_in lp121_1.eq_1 ?_
  rw[e]at c1⊢
  simp (maxSteps:=1000000) (implicitDefEqProofs:=false) only[Int.lt_irrefl,go_sem,↓reduceIte]
  exact hq _ ⟨S,R,rfl,hL,.inl e⟩
 |succ k ih=>
  rintro S R G2 rfl h0 hk hL hP hR
  have c1:((a+S.length:Nat):Int) < (b:Int):=by omega
  have hll:=congrArg List.length hL
  simp only[List.length_append]at hll
  obtain⟨x,U,rfl⟩:∃x U,R=x::U:=by
   cases R with
   |nil=>simp at hll;omega
   |cons x U=>exact⟨x,U,rfl⟩
  have hm:∀w∈TL++(srt key S++[]++x::[])++U,w∈L0:=by
   intro w hw
   rw[hL]
   simp only[List.append_nil,List.mem_append,List.mem_cons,List.mem_singleton,List.not_mem_nil,or_false,mem_srt]at hw⊢
   rcases hw with (h|h|h)|h<;>simp[h]
  have hl2:(TL++(srt key S++x::[])++U).length=L0.length:=by
   simp only[List.length_append,srt_length,List.length_cons,List.length_nil]at hll⊢;omega
  have ew:IntKind.i64.wrap (((a+S.length:Nat):Int)+1)=((a+(S++[x]).length:Nat):Int):=by
   rw[show (((a+S.length:Nat):Int)+1)=((a+(S++[x]).length:Nat):Int)by rw[List.length_append];simp;omega];exact w64 (by omega) (by rw[List.length_append];simp;omega)
  have next:=ih (S++[x]) U _ rfl (by simp) (by rw[List.length_append];simp;omega) (by rw[hL];simp) hP hR
  have el:(S++[x]).length=S.length+1:=by simp
  rw[el]at next ew
  have e1:TL++srt key S++x::U=TL++(srt key S++x::[])++U:=by simp
  refine WL_in lp121_1.eq_1 ?_
  simp (maxSteps:=1000000) (implicitDefEqProofs:=false) only[c1,go_sem,↓reduceIte]
  refine⟨(srt key S).length+1,?_⟩
  simp (maxSteps:=1000000) (implicitDefEqProofs:=false) only[go_sem,↓reduceIte]
  rw[e1]
  refine loopA121 (E:=E) (G:=G) (c:=c) (b:=b) (i:=a+S.length) (U:=U) (z:=z) (TL:=TL) (x:=x) (S0:=srt key S) hT hok hf hG hn hnL hTL (hP x (by rw[hL];simp)) ?_ (srt key S).length (srt key S) [] (a+S.length) rfl (by rw[srt_length]) (by simp) (up_srt _) (fun y hy=>hP y (by rw[hL];simp[mem_srt.1 hy])) (fun y hy=>by simp at hy) (hR.mem fun w hw=>hm w (by simpa using hw)) hl2 (by rw[srt_length];omega)
  intro A B j ts hA hB hAB
  have e3:A++x::B=srt key (S++[x]):=srt_put hAB hA hB
  simp (maxSteps:=1000000) (implicitDefEqProofs:=false) only[ew,go_sem,↓reduceIte]
  rw[e3]
  exact next
theorem walk121 {T:List (Nat×Spec1)} (hT:Sub T l) (hok:(T.all fun p=>calleeOk E.P p.1)=true) {id n c a b f:Nat} {caps:List V} {P:V→Prop} {key:V→Int} {z:V} (hf:KeyFn T f caps P key) {L0:List V} (hG:Abs.look G id=some (.agg L0)) (hn:n < 1000000000000000) (hnL:n≤L0.length)
  (hab:a≤b) (hbn:b≤n) (hP:∀y∈L0,P y) (hR:RowOk 101 z L0) (h:Q (.tup []) (Abs.upd G id (.agg (L0.take a++srt key ((L0.take b).drop a)++L0.drop b)))):
  Wf E (specOf l) pf121 [.sob id 101 0 n c,.int .i64 (a:Nat),.int .i64 (b:Nat),.fn f caps] G Q:=by
 have hb:b≤L0.length:=by omega
 have dec:∀S R,L0=L0.take a++S++R→a+S.length=b→L0.take a++srt key S++R=L0.take a++srt key ((L0.take b).drop a)++L0.drop b:=by
  intro S R e1 e2
  have lt:(L0.take a).length=a:=by rw[List.length_take];omega
  have e3:L0.take b=L0.take a++S:=by
   conv=>lhs;rw[e1]
   rw[List.take_append_of_le_length (by rw[List.length_append,lt];omega),List.take_of_length_le (by rw[List.length_append,lt];omega)]
  have e4:L0.drop b=R:=by
   conv=>lhs;rw[e1]
   rw[List.drop_append_of_le_length (by rw[List.length_append,lt];omega),List.drop_of_length_le (by rw[List.length_append,lt];omega),List.nil_append]
  rw[e3,e4,List.drop_append_of_le_length (by omega),List.drop_of_length_le (by omega),List.nil_append]
 have ew:IntKind.i64.wrap ((a:Int)+1)=((a+1:Nat):Int):=by rw[show ((a:Int)+1)=((a+1:Nat):Int)by omega];exact w64 (by omega) (by omega)
 simp (maxSteps:=1000000) (implicitDefEqProofs:=false) only[pf121,ew,go_sem,↓reduceIte]
 by_cases hab2:a < b
 ·refine⟨b-(a+1)+1,?_⟩
  simp (maxSteps:=1000000) (implicitDefEqProofs:=false) only[go_sem,↓reduceIte]
  have hx:L0.drop a=L0[a]::L0.drop (a+1):=List.drop_eq_getElem_cons (by omega)
  have eL:L0=L0.take a++[L0[a]]++L0.drop (a+1):=by
   conv=>lhs;rw[←List.take_append_drop a L0,hx]
   simp
  refine loopB121 (E:=E) (G:=G) (c:=c) (b:=b) (z:=z) hT hok hf hG hn hnL (TL:=L0.take a) (List.length_take_of_le (by omega)) hbn ?_ (b-(a+1)) [L0[a]] (L0.drop (a+1)) G ?_ (by simp) (by simp only[List.length_cons,List.length_nil];omega) eL hP hR
  ·intro L ts hh
   obtain⟨S,R,rfl,e1,e2⟩:=hh
   rcases e2 with e2|e2
   ·simp (maxSteps:=1000000) (implicitDefEqProofs:=false) only[go_sem,↓reduceIte]
    rw[dec S R e1 e2]
    exact h
   ·omega
  ·show G=Abs.upd G id (.agg (L0.take a++[L0[a]]++L0.drop (a+1)))
   rw[←eL,upd_self hG]
 ·obtain rfl:a=b:=by omega
  refine⟨1,?_⟩
  refine WL_in lp121_1.eq_1 ?_
  have c1:¬((a+1:Nat):Int) < (a:Int):=by omega
  simp (maxSteps:=1000000) (implicitDefEqProofs:=false) only[c1,go_sem,↓reduceIte]
  have e:=dec [] (L0.drop a) (by simp) (by simp)
  rw[←e]at h
  have e5:L0.take a++srt key ([]:List V)++L0.drop a=L0:=by
   show L0.take a++[]++L0.drop a=L0
   simp
  rw[e5,upd_self hG]at h
  exact h
end Go.Proofs.YtegamlopcdjiaaaDoor.Sha
namespace Go.Proofs.YtegamlopcdjiaaaDoor.Sha
open Go Go.Abs Go.Abs.Sha Go.Abs.Srt
set_option linter.unusedSimpArgs false
set_option linter.unusedVariables false
set_option maxRecDepth 100000
def lp134_0:PC:=
 ((PC.reg [mm 11 10,mm 12 3,nn (.t 13) (.bin .lss (.t 11) (.t 12))]).seq (PC.cond (.t 13) PC.skip (PC.exit 0))).seq ((PC.block 1 (PC.regD 0 [mm 16 0,
  mm 17 1,mm 18 10,nn (.t 19) (.bin .add (.t 17) (.t 18)),mm 20 0,mm 21 2,mm 22 10,nn (.t 23) (.bin .add (.t 21) (.t 22)),mm 24 0,mm 25 2,mm
  26 10,nn (.t 27) (.bin .add (.t 25) (.t 26)),nn (.t 28) (.iadrS 101 (.t 24) (.t 27)),nn (.t 29) (.load 101 true (.t 28)),mm 30 0,mm 31 1,mm 32
  10,nn (.t 33) (.bin .add (.t 31) (.t 32)),nn (.t 34) (.iadrS 101 (.t 30) (.t 33)),nn (.t 35) (.load 101 true (.t 34)),nn (.t 36) (.iadrS 101 (.t
  16) (.t 19)),nn .no (.store 101 (.t 36) (.t 29)),nn (.t 37) (.iadrS 101 (.t 20) (.t 23)),nn .no (.store 101 (.t 37) (.t 35))] [])).seq (PC.reg [mm
  14 10,nn (.t 15) (.bin .add (.t 14) (.c (.v (.int .i64 1)))),ma 10 15]))
def pf134:PF:=
 PF.mk 5 11 38 ((PC.reg [nn (.v 10) (.mv true (.c (.v (.int .i64 0))))]).seq (PC.block 0 (PC.loop [0,1,2,3,10] lp134_0))) []
def lp128_0:PC:=
 ((PC.reg [mm 18 10,mm 19 11,nn (.t 20) (.bin .neq (.t 18) (.t 19))]).seq (PC.cond (.t 20) PC.skip (PC.exit 0))).seq (PC.block 1 ((PC.reg [mm 21 10,
  mm 22 11,nn (.t 23) (.bin .gtr (.t 21) (.t 22))]).seq (PC.cond (.t 23) ((PC.reg [mm 24 0,mm 25 2,mm 26 10,nn (.t 27) (.bin .sub (.t 25) (.t 26)),
  mm 28 2,mm 29 11,mm 30 4,nn (.t 31) (.call 134 [.t 24,.t 27,.t 28,.t 29,.t 30])]).seq (PC.reg [mm 32 10,mm 33 11,nn (.t 34) (.bin .sub (.t
  32) (.t 33)),ma 10 34])) ((PC.reg [mm 35 0,mm 36 2,mm 37 10,nn (.t 38) (.bin .sub (.t 36) (.t 37)),mm 39 2,mm 40 11,nn (.t 41) (.bin .add (.t
  39) (.t 40)),mm 42 10,nn (.t 43) (.bin .sub (.t 41) (.t 42)),mm 44 10,mm 45 4,nn (.t 46) (.call 134 [.t 35,.t 38,.t 43,.t 44,.t 45])]).seq
  (PC.reg [mm 47 11,mm 48 10,nn (.t 49) (.bin .sub (.t 47) (.t 48)),ma 11 49])))))
def pf128:PF:=
 PF.mk 5 12 58 ((PC.reg [mm 12 2,mm 13 1,nn (.t 14) (.bin .sub (.t 12) (.t 13)),ma 10 14]).seq ((PC.reg [mm 15 3,mm 16 2,nn (.t 17) (.bin .sub (.t
  15) (.t 16)),ma 11 17]).seq ((PC.block 0 (PC.loop [0,2,4,10,11] lp128_0)).seq (PC.reg [mm 50 0,mm 51 2,mm 52 10,nn (.t 53) (.bin .sub (.t 51)
  (.t 52)),mm 54 2,mm 55 10,mm 56 4,nn (.t 57) (.call 134 [.t 50,.t 53,.t 54,.t 55,.t 56])])))) []
attribute [local irreducible] W Wops WopsD WL Wop WopD
variable {E:Env} {C:Abs.Spec} {l:List (Nat×Spec1)} {G:List (Nat×V)} {Q:R→List (Nat×V)→Prop}
set_option maxHeartbeats 1000000
def ZIs (T:List (Nat×Spec1)):Spec1
 |[.sob id 101 0 n c,.int .i64 a,.int .i64 b,.fn f caps],G,Q=>∃A S B key P z,(Abs.look G id=some (.agg (A++S++B))∧(a=(A.length:Nat)∧b=((A++S).length:Nat))∧((A++S).length≤n∧n≤(A++S++B).length∧n < 1000000000000000)∧(∀y∈A++S++B,P y)∧RowOk 101 z (A++S++B)∧KeyFn T f caps P key)∧Q (.tup []) (Abs.upd G id (.agg (A++srt key S++B)))
 |[.sle 101 [],.int .i64 a,.int .i64 b,.fn f caps],G,Q=>(a=0∧b=0)∧Q (.tup []) G
 |_,_,_=>False
theorem ZIs_nil {T a b f caps}:ZIs T [.sle 101 [],.int .i64 a,.int .i64 b,.fn f caps] G Q=((a=0∧b=0)∧Q (.tup []) G):=rfl
theorem ZIs_eq {T id n c a b f caps}:ZIs T [.sob id 101 0 n c,.int .i64 a,.int .i64 b,.fn f caps] G Q=(∃A S B key P z,(Abs.look G id=some (.agg (A++S++B))∧(a=(A.length:Nat)∧b=((A++S).length:Nat))∧((A++S).length≤n∧n≤(A++S++B).length∧n < 1000000000000000)∧(∀y∈A++S++B,P y)∧RowOk 101 z (A++S++B)∧KeyFn T f caps P key)∧Q (.tup []) (Abs.upd G id (.agg (A++srt key S++B)))):=rfl
def ZSr:Spec1
 |[.sob id 101 0 n c,.int .i64 a,.int .i64 b,.int .i64 k,.fn f caps],G,Q=>∃A X M Y B z,(Abs.look G id=some (.agg (A++X++M++Y++B))∧(a=(A.length:Nat)∧b=((A++X++M).length:Nat)∧k=(X.length:Nat)∧Y.length=X.length)∧((A++X++M++Y).length≤n∧n≤(A++X++M++Y++B).length∧n < 1000000000000000)∧RowOk 101 z (A++X++M++Y++B))∧Q (.tup []) (Abs.upd G id (.agg (A++Y++M++X++B)))
 |_,_,_=>False
theorem ZSr_eq {id n c a b k f caps}:ZSr [.sob id 101 0 n c,.int .i64 a,.int .i64 b,.int .i64 k,.fn f caps] G Q=(∃A X M Y B z,(Abs.look G id=some (.agg (A++X++M++Y++B))∧(a=(A.length:Nat)∧b=((A++X++M).length:Nat)∧k=(X.length:Nat)∧Y.length=X.length)∧((A++X++M++Y).length≤n∧n≤(A++X++M++Y++B).length∧n < 1000000000000000)∧RowOk 101 z (A++X++M++Y++B))∧Q (.tup []) (Abs.upd G id (.agg (A++Y++M++X++B)))):=rfl
def ZRt:Spec1
 |[.sob id 101 0 n c,.int .i64 a,.int .i64 m,.int .i64 b,.fn f caps],G,Q=>∃A X Y B z,(Abs.look G id=some (.agg (A++X++Y++B))∧(a=(A.length:Nat)∧m=((A++X).length:Nat)∧b=((A++X++Y).length:Nat)∧0 < X.length∧0 < Y.length)∧((A++X++Y).length≤n∧n≤(A++X++Y++B).length∧n < 1000000000000000)∧RowOk 101 z (A++X++Y++B))∧Q (.tup []) (Abs.upd G id (.agg (A++Y++X++B)))
 |_,_,_=>False
theorem ZRt_eq {id n c a m b f caps}:ZRt [.sob id 101 0 n c,.int .i64 a,.int .i64 m,.int .i64 b,.fn f caps] G Q=(∃A X Y B z,(Abs.look G id=some (.agg (A++X++Y++B))∧(a=(A.length:Nat)∧m=((A++X).length:Nat)∧b=((A++X++Y).length:Nat)∧0 < X.length∧0 < Y.length)∧((A++X++Y).length≤n∧n≤(A++X++Y++B).length∧n < 1000000000000000)∧RowOk 101 z (A++X++Y++B))∧Q (.tup []) (Abs.upd G id (.agg (A++Y++X++B)))):=rfl
theorem wc {x:Int} {k:Nat} (h:x=(k:Int)) (h2:k < 9000000000000000000):IntKind.i64.wrap x=(k:Int):=by rw[h];exact w64 (by omega) (by omega)
theorem loop134 {id n c a b k:Nat} {z:V} {QQ:Ex→St→Prop} {L0 A X0 M Y0 B:List V} (hG:Abs.look G id=some (.agg L0)) (hn:n < 1000000000000000) (ha:a=A.length) (hb:b=A.length+X0.length+M.length) (hk:k=X0.length) (hY:Y0.length=X0.length)
  (hbn:A.length+X0.length+M.length+Y0.length≤n) (hnL:n≤L0.length)
  (hx:∀(i:Nat) ts,QQ (.exit 0) ⟨[some (.v (.sob id 101 0 n c)),some (.v (.int .i64 (a:Nat))),some (.v (.int .i64 (b:Nat))),some (.v (.int .i64 (k:Nat))),none,none,none,none,none,none,some (.v (.int .i64 (i:Nat)))],ts,[],Abs.upd G id (.agg (A++Y0++M++X0++B))⟩):
  ∀(r:Nat) (X1 X2 Y1 Y2:List V) (i:Nat) (G2:List (Nat×V)),G2=Abs.upd G id (.agg (A++(Y1++X2)++M++(X1++Y2)++B))→X1++X2=X0→Y1++Y2=Y0→X1.length=i→Y1.length=i→X2.length=r→RowOk 101 z (A++(Y1++X2)++M++(X1++Y2)++B)→(A++(Y1++X2)++M++(X1++Y2)++B).length=L0.length→
   WL (W E C lp134_0) [0,1,2,3,10] QQ (r+1) ⟨[some (.v (.sob id 101 0 n c)),some (.v (.int .i64 (a:Nat))),some (.v (.int .i64 (b:Nat))),some (.v (.int .i64 (k:Nat))),none,none,none,none,none,none,some (.v (.int .i64 (i:Nat)))],[],[],G2⟩:=by
 intro r
 induction r with
 |zero=>
  rintro X1 X2 Y1 Y2 i G2 rfl hX hY2 h1 h2 h3 hR hl
  have e1:X2=[]:=List.eq_nil_of_length_eq_zero h3
  subst e1
  have e2:Y2=[]:=by
   have k1:=congrArg List.length hX;have k2:=congrArg List.length hY2
   simp only[List.length_append,List.length_nil]at k1 k2
   exact List.eq_nil_of_length_eq_zero (by omega)
  subst e2
  have k1:=congrArg List.length hX
  simp only[List.length_append,List.length_nil]at k1
  simp only[List.append_nil]at hX hY2⊢
  subst hX;subst hY2
  have c1:¬(i:Int) < (k:Int):=by omega
  refine WL_in lp134_0.eq_1 ?_
  simp (maxSteps:=1000000) (implicitDefEqProofs:=false) only[c1,go_sem,↓reduceIte]
  exact hx i _
 |succ r ih=>
  rintro X1 X2 Y1 Y2 i G2 rfl hX hY2 h1 h2 h3 hR hl
  have k1:=congrArg List.length hX;have k2:=congrArg List.length hY2
  simp only[List.length_append]at k1 k2
  obtain⟨x,X2,rfl⟩:∃x U,X2=x::U:=by
   cases X2 with
   |nil=>simp at h3
   |cons x U=>exact⟨x,U,rfl⟩
  obtain⟨y,Y2,rfl⟩:∃x U,Y2=x::U:=by
   cases Y2 with
   |nil=>simp only[List.length_cons,List.length_nil]at h3 k1 k2;omega
   |cons x U=>exact⟨x,U,rfl⟩
  simp only[List.length_cons]at h3 k1 k2
  have next:=ih (X1++[x]) X2 (Y1++[y]) Y2 (i+1) _ rfl (by rw[←hX];simp) (by rw[←hY2];simp) (by simp[h1]) (by simp[h2]) (by omega)
  have f1:A++(Y1++x::X2)++M++(X1++y::Y2)++B=(A++Y1)++x::(X2++M++X1++y::(Y2++B)):=by simp
  have f2:A++(Y1++x::X2)++M++(X1++y::Y2)++B=(A++Y1++x::(X2++M++X1))++y::(Y2++B):=by simp
  have l1:(A++Y1).length=a+i:=by simp[ha,h2]
  have l2:(A++Y1++x::(X2++M++X1)).length=b+i:=by first|omega|(simp only[List.length_append,List.length_cons,List.length_nil];omega)
  have l2y:(A++Y1++y::(X2++M++X1)).length=b+i:=by first|omega|(simp only[List.length_append,List.length_cons,List.length_nil];omega)
  have g1:(A++(Y1++x::X2)++M++(X1++y::Y2)++B)[a+i]? =some x:=by rw[f1];exact get_mid l1.symm
  have g2:(A++(Y1++x::X2)++M++(X1++y::Y2)++B)[b+i]? =some y:=by rw[f2];exact get_mid l2.symm
  have s1':(A++(Y1++x::X2)++M++(X1++y::Y2)++B).set (a+i) y=(A++Y1++y::(X2++M++X1))++y::(Y2++B):=by rw[f1,set_mid l1.symm];simp
  have s2':((A++Y1++y::(X2++M++X1))++y::(Y2++B)).set (b+i) x=A++((Y1++[y])++X2)++M++((X1++[x])++Y2)++B:=by rw[set_mid l2y.symm];simp
  have hRn:RowOk 101 z (A++((Y1++[y])++X2)++M++((X1++[x])++Y2)++B):=hR.mem fun w hw=>by
   simp only[List.mem_append,List.mem_cons,List.not_mem_nil,or_false]at hw⊢
   rcases hw with (((h|(h|h)|h)|h)|(h|h)|h)|h<;>simp[h]
  have hln:(A++((Y1++[y])++X2)++M++((X1++[x])++Y2)++B).length=L0.length:=by rw[←hl];simp only[List.length_append,List.length_cons,List.length_nil];omega
  replace next:=next hRn hln
  rw[←s1']at s2'
  have hRs:=hR.set (i:=a+i) g2
  rw[←s2']at next
  generalize hL:A++(Y1++x::X2)++M++(X1++y::Y2)++B=L at*
  have hcur:Abs.look (Abs.upd G id (.agg L)) id=some (.agg L):=look_upd_same hG
  have hcur2:Abs.look (Abs.upd G id (.agg (L.set (a+i) y))) id=some (.agg (L.set (a+i) y)):=look_upd_same hG
  have t1:=hR.get g1
  have t2:=hR.get g2
  have m12:=hR.same g1 g2
  have m21:=hR.same g2 g1
  have hab:a+i≠b+i:=by omega
  have g2':(L.set (a+i) y)[b+i]? =some y:=by rw[List.getElem?_set_ne hab];exact g2
  have a1:=t1.2.1
  have a2:=t2.2.1
  unfold V.isAgg at a1 a2
  have hsz:=hR.sizes
  have hsz2:=hRs.sizes
  have wa:IntKind.i64.wrap ((a:Int)+(i:Int))=((a+i:Nat):Int):=wc (by omega) (by omega)
  have wb:IntKind.i64.wrap ((b:Int)+(i:Int))=((b+i:Nat):Int):=wc (by omega) (by omega)
  have wi:IntKind.i64.wrap ((i:Int)+1)=((i+1:Nat):Int):=wc (by omega) (by omega)
  have c1:(i:Int) < (k:Int):=by omega
  refine WL_in lp134_0.eq_1 ?_
  simp (maxSteps:=1000000) (implicitDefEqProofs:=false) only[c1,wa,wb,wi,hcur,hcur2,g1,g2,g2',t1.1,t2.1,a1,a2,m12,m21,Int.toNat_natCast,upd_upd,go_sem,↓reduceIte]
  exact⟨⟨⟨by omega,by omega⟩,by omega,hsz⟩,⟨⟨by omega,by omega⟩,by omega,hsz⟩,⟨⟨by omega,by omega⟩,by omega,hsz⟩,⟨⟨by omega,by omega⟩,by rw[List.length_set];omega,hsz2⟩,next⟩
theorem walk134 {id n c f:Nat} {a b k:Int} {caps:List V} (h:ZSr [.sob id 101 0 n c,.int .i64 a,.int .i64 b,.int .i64 k,.fn f caps] G Q):Wf E C pf134 [.sob id 101 0 n c,.int .i64 a,.int .i64 b,.int .i64 k,.fn f caps] G Q:=by
 obtain⟨A,X,M,Y,B,z,⟨hG,⟨rfl,rfl,rfl,hY⟩,⟨hb,hnL,hn⟩,hR⟩,h⟩:=h
 simp only[List.length_append]at hb hnL
 simp (maxSteps:=1000000) (implicitDefEqProofs:=false) only[pf134,go_sem,↓reduceIte]
 refine⟨X.length+1,?_⟩
 simp (maxSteps:=1000000) (implicitDefEqProofs:=false) only[go_sem,↓reduceIte]
 refine loop134 (z:=z) (A:=A) (X0:=X) (M:=M) (Y0:=Y) (B:=B) hG hn rfl (by simp) rfl hY (by omega) (by first|omega|(simp only[List.length_append,List.length_cons,List.length_nil];omega)) (fun i ts=> ?_) X.length [] X [] Y 0 G ?_ rfl rfl rfl rfl rfl hR rfl
 ·simp (maxSteps:=1000000) (implicitDefEqProofs:=false) only[go_sem,↓reduceIte]
  exact h
 ·exact (upd_self hG).symm
theorem loop128 {id n c m f:Nat} {caps:List V} {z:V} {QQ:Ex→St→Prop} (hS:Abs.look l 134=some ZSr) {L0 F:List V} (hG:Abs.look G id=some (.agg L0)) (hn:n < 1000000000000000) (hnL:n≤L0.length)
  (hx:∀(i:Nat) ts (A X Y B:List V),A++Y++X++B=F→X.length=i→Y.length=i→A.length+i=m→m+i≤n→RowOk 101 z (A++X++Y++B)→(A++X++Y++B).length=L0.length→QQ (.exit 0) ⟨[some (.v (.sob id 101 0 n c)),none,some (.v (.int .i64 (m:Nat))),none,some (.v (.fn f caps)),none,none,none,none,none,some (.v (.int .i64 (i:Nat))),some (.v (.int .i64 (i:Nat)))],ts,[],Abs.upd G id (.agg (A++X++Y++B))⟩):
  ∀(r:Nat) (A X Y B:List V) (i j:Nat) (G2:List (Nat×V)),i+j≤r→G2=Abs.upd G id (.agg (A++X++Y++B))→A++Y++X++B=F→X.length=i→Y.length=j→0 < i→0 < j→A.length+i=m→m+j≤n→RowOk 101 z (A++X++Y++B)→(A++X++Y++B).length=L0.length→
   WL (W E (specOf l) lp128_0) [0,2,4,10,11] QQ (r+1) ⟨[some (.v (.sob id 101 0 n c)),none,some (.v (.int .i64 (m:Nat))),none,some (.v (.fn f caps)),none,none,none,none,none,some (.v (.int .i64 (i:Nat))),some (.v (.int .i64 (j:Nat)))],[],[],G2⟩:=by
 intro r
 induction r with
 |zero=>intro A X Y B i j G2 h0 _ _ _ _ h1 h2;omega
 |succ r ih=>
  rintro A X Y B i j G2 h0 rfl hF hX hY h1 h2 hA hm hR hl
  refine WL_in lp128_0.eq_1 ?_
  by_cases e:i=j
  ·subst e
   simp (maxSteps:=1000000) (implicitDefEqProofs:=false) only[go_sem,↓reduceIte]
   exact hx i _ A X Y B hF hX hY hA hm hR hl
  ·have c0:¬((i:Int)=(j:Int)):=by omega
   have hcur:Abs.look (Abs.upd G id (.agg (A++X++Y++B))) id=some (.agg (A++X++Y++B)):=look_upd_same hG
   have wmi:IntKind.i64.wrap ((m:Int)-(i:Int))=((A.length:Nat):Int):=wc (by omega) (by omega)
   have hlen:=hl
   simp only[List.length_append]at hlen
   by_cases hij:j < i
   ·have c1:(i:Int) > (j:Int):=by omega
    have wij:IntKind.i64.wrap ((i:Int)-(j:Int))=((i-j:Nat):Int):=wc (by omega) (by omega)
    obtain⟨X1,X2,rfl,hX1⟩:∃X1 X2,X=X1++X2∧X1.length=j:=⟨X.take j,X.drop j,(List.take_append_drop j X).symm,List.length_take_of_le (by omega)⟩
    simp only[List.length_append]at hX hlen
    have next:=ih (A++Y) X2 X1 B (i-j) j _ (by omega) rfl (by rw[←hF];simp) (by omega) hX1 (by omega) h2 (by first|omega|(simp only[List.length_append,List.length_cons,List.length_nil];omega)) hm (hR.mem fun w hw=>by
     simp only[List.mem_append]at hw⊢
     rcases hw with (((h|h)|h)|h)|h<;>simp[h]) (by rw[←hl];simp;omega)
    simp (maxSteps:=1000000) (implicitDefEqProofs:=false) only[c0,c1,wmi,wij,hS,ZSr_eq,go_sem,↓reduceIte]
    refine⟨A,X1,X2,Y,B,z,⟨by rw[hcur];simp,⟨rfl,by first|omega|(simp only[List.length_append,List.length_cons,List.length_nil];omega),by rw[hX1],by omega⟩,⟨by first|omega|(simp only[List.length_append,List.length_cons,List.length_nil];omega),by first|omega|(simp only[List.length_append,List.length_cons,List.length_nil];omega),hn⟩,by simpa [List.append_assoc]using hR⟩,?_⟩
    try simp (maxSteps:=1000000) (implicitDefEqProofs:=false) only[wij,upd_upd,go_sem,↓reduceIte]
    rw[show A++Y++X2++X1++B=(A++Y)++X2++X1++B from rfl]
    exact next
   ·have c1:¬(i:Int) > (j:Int):=by omega
    have wji:IntKind.i64.wrap ((j:Int)-(i:Int))=((j-i:Nat):Int):=wc (by omega) (by omega)
    have wmj:IntKind.i64.wrap ((m:Int)+(j:Int))=((m+j:Nat):Int):=wc (by omega) (by omega)
    have wmji:IntKind.i64.wrap (((m+j:Nat):Int)-(i:Int))=((m+j-i:Nat):Int):=wc (by omega) (by omega)
    obtain⟨Y1,Y2,rfl,hY1⟩:∃X1 X2,Y=X1++X2∧X1.length=j-i:=⟨Y.take (j-i),Y.drop (j-i),(List.take_append_drop _ Y).symm,List.length_take_of_le (by omega)⟩
    simp only[List.length_append]at hY hlen
    have next:=ih A Y2 Y1 (X++B) i (j-i) _ (by omega) rfl (by rw[←hF];simp) (by omega) hY1 h1 (by omega) hA (by omega) (hR.mem fun w hw=>by
     simp only[List.mem_append]at hw⊢
     rcases hw with ((h|h)|h)|(h|h)<;>simp[h]) (by rw[←hl];simp;omega)
    simp (maxSteps:=1000000) (implicitDefEqProofs:=false) only[c0,c1,wmi,wji,wmj,wmji,hS,ZSr_eq,go_sem,↓reduceIte]
    refine⟨A,X,Y1,Y2,B,z,⟨by rw[hcur];simp,⟨rfl,by first|omega|(simp only[List.length_append,List.length_cons,List.length_nil];omega),by rw[hX],by omega⟩,⟨by first|omega|(simp only[List.length_append,List.length_cons,List.length_nil];omega),by first|omega|(simp only[List.length_append,List.length_cons,List.length_nil];omega),hn⟩,by simpa [List.append_assoc]using hR⟩,?_⟩
    try simp (maxSteps:=1000000) (implicitDefEqProofs:=false) only[wji,upd_upd,go_sem,↓reduceIte]
    rw[show A++Y2++Y1++X++B=A++Y2++Y1++(X++B)by simp]
    exact next
theorem walk128 {id n c f:Nat} {a m b:Int} {caps:List V} (hS:Abs.look l 134=some ZSr) (h:ZRt [.sob id 101 0 n c,.int .i64 a,.int .i64 m,.int .i64 b,.fn f caps] G Q):Wf E (specOf l) pf128 [.sob id 101 0 n c,.int .i64 a,.int .i64 m,.int .i64 b,.fn f caps] G Q:=by
 obtain⟨A,X,Y,B,z,⟨hG,⟨rfl,rfl,rfl,h1,h2⟩,⟨hb,hnL,hn⟩,hR⟩,h⟩:=h
 have hb':=hb
 have hnL':=hnL
 simp only[List.length_append]at hb' hnL'
 have w1:IntKind.i64.wrap (((A++X).length:Int)-(A.length:Int))=((X.length:Nat):Int):=wc (by first|omega|(simp only[List.length_append,List.length_cons,List.length_nil];omega)) (by omega)
 have w2:IntKind.i64.wrap (((A++X++Y).length:Int)-((A++X).length:Int))=((Y.length:Nat):Int):=wc (by first|omega|(simp only[List.length_append,List.length_cons,List.length_nil];omega)) (by omega)
 generalize hm:(A++X).length=m at*
 generalize hbb:(A++X++Y).length=b at*
 have hm':=hm
 simp only[List.length_append]at hm'
 simp (maxSteps:=1000000) (implicitDefEqProofs:=false) only[pf128,w1,w2,go_sem,↓reduceIte]
 refine⟨X.length+Y.length+1,?_⟩
 simp (maxSteps:=1000000) (implicitDefEqProofs:=false) only[go_sem,↓reduceIte]
 refine loop128 (z:=z) (F:=A++Y++X++B) hS hG hn hnL (fun i ts A' X' Y' B' e1 e2 e3 e4 e5 e6 e7=> ?_) _ A X Y B X.length Y.length G (Nat.le_refl _) (upd_self hG).symm rfl rfl rfl h1 h2 (by omega) (by omega) hR rfl
 have hcur:Abs.look (Abs.upd G id (.agg (A'++X'++Y'++B'))) id=some (.agg (A'++X'++Y'++B')):=look_upd_same hG
 have wmi:IntKind.i64.wrap ((m:Int)-(i:Int))=((A'.length:Nat):Int):=wc (by omega) (by omega)
 have e7':=e7
 simp only[List.length_append]at e7'
 simp (maxSteps:=1000000) (implicitDefEqProofs:=false) only[wmi,hS,ZSr_eq,go_sem,↓reduceIte]
 refine⟨A',X',[],Y',B',z,⟨by rw[hcur];simp,⟨rfl,by first|omega|(simp only[List.length_append,List.length_cons,List.length_nil];omega),by rw[e2],by omega⟩,⟨by first|omega|(simp only[List.length_append,List.length_cons,List.length_nil];omega),by first|omega|(simp only[List.length_append,List.length_cons,List.length_nil];omega),hn⟩,by simpa [List.append_assoc]using e6⟩,?_⟩
 simp (maxSteps:=1000000) (implicitDefEqProofs:=false) only[upd_upd,go_sem,↓reduceIte]
 rw[e1]
 exact h
end Go.Proofs.YtegamlopcdjiaaaDoor.Sha
namespace Go.Proofs.YtegamlopcdjiaaaDoor.Sha
open Go Go.Abs Go.Abs.Sha
set_option linter.unusedSimpArgs false
set_option linter.unusedVariables false
set_option maxRecDepth 100000
def pf123:PF:=
 PF.mk 0 1 2 ((PC.reg [nn (.v 0) (.alloc (.arr .u32 8 [0,0,0,0,0,0,0,0]))]).seq ((PC.reg [nn (.t 1) (.build (.arr .u32 8 [0,0,0,0,0,0,0,
  0]) [(0,.c (.v (.int .u32 1779033703))),(1,.c (.v (.int .u32 3144134277))),(2,.c (.v (.int .u32 1013904242))),(3,.c (.v (.int .u32
  2773480762))),(4,.c (.v (.int .u32 1359893119))),(5,.c (.v (.int .u32 2600822924))),(6,.c (.v (.int .u32 528734635))),(7,.c (.v (.int .u32
  1541459225)))]),nn .no (.store 8 (.v 0) (.t 1))]).seq PC.ret)) [(.v 0,some (8,true))]
def lp129_0:PC:=
 ((PC.reg [mm 11 4,nn (.t 12) (.bin .geq (.t 11) (.c (.v (.int .i64 0))))]).seq (PC.cond (.t 12) PC.skip (PC.exit 0))).seq ((PC.block 1 (PC.reg [nn (.t
  15) (.mv true (.v 3)),mm 16 0,nn (.t 17) (.conv .u64 (.t 16)),nn (.t 18) (.bin .mul (.t 17) (.c (.v (.int .u64 8)))),mm 19 4,nn (.t 20) (.bin
  .mul (.c (.v (.int .i64 8))) (.t 19)),nn (.t 21) (.bin .shr (.t 18) (.t 20)),nn (.t 22) (.conv .u8 (.t 21)),nn (.t 23) (.buildS (some .u8) 1 (.int
  .u8 0) 1 [(0,.t 22)]),nn (.t 24) (.app (some .u8) 1 1 (.t 15) (.t 23)),ma 3 24])).seq (PC.reg [mm 13 4,nn (.t 14) (.bin .sub (.t 13) (.c (.v
  (.int .i64 1)))),ma 4 14]))
def pf129:PF:=
 PF.mk 1 5 26 ((PC.reg [nn (.v 2) (.mv true (.c (.own .nils)))]).seq ((PC.reg [nn (.t 5) (.buildS (some .u8) 1 (.int .u8 0) 1 [(0,.c (.v (.int .u8
  128)))]),mm 6 0,nn (.t 7) (.bin .rem (.t 6) (.c (.v (.int .i64 64)))),nn (.t 8) (.bin .sub (.c (.v (.int .i64 119))) (.t 7)),nn (.t 9) (.bin .rem
  (.t 8) (.c (.v (.int .i64 64)))),nn (.t 10) (.appZ (some .u8) 1 1 (.int .u8 0) (.t 5) (.t 9)),ma 3 10]).seq (((PC.reg [nn (.v 4) (.mv true (.c (.v
  (.int .i64 7))))]).seq (PC.block 0 (PC.loop [0,3,4] lp129_0))).seq ((PC.reg [nn (.t 25) (.mv true (.v 3)),ma 2 25]).seq PC.ret)))) [(.v 2,none)]
def pf124:PF:=
 PF.mk 1 4 15 ((PC.reg [nn (.v 2) (.mv true (.c (.own .nils)))]).seq ((PC.reg [mm 4 0,nn (.t 5) (.len (.t 4)),nn (.t 6) (.bin .add (.t 5) (.c (.v
  (.int .i64 128)))),nn (.t 7) (.mkS (some .u8) 1 1 (.int .u8 0) (.c (.v (.int .i64 0))) (.t 6)),ma 3 7]).seq ((PC.reg [nn (.t 8) (.mv true (.v 3)),
  mm 9 0,nn (.t 10) (.app (some .u8) 1 1 (.t 8) (.t 9)),mm 11 0,nn (.t 12) (.len (.t 11)),nn (.t 13) (.call 129 [.t 12]),nn (.t 14) (.app (some
  .u8) 1 1 (.t 10) (.t 13)),ma 2 14]).seq PC.ret))) [(.v 2,none)]
attribute [local irreducible] W Wops WopsD WL Wop WopD
variable {E:Env} {C:Abs.Spec} {l:List (Nat×Spec1)} {G:List (Nat×V)} {Q:R→List (Nat×V)→Prop}
set_option maxHeartbeats 1000000
def SSt:Spec1
 |[],G,Q=>Q (.v (.arr .u32 8 start8)) G
 |_,_,_=>False
theorem SSt_eq {G:List (Nat×V)} {Q:R→List (Nat×V)→Prop}:SSt [] G Q=(Q (.v (.arr .u32 8 start8)) G):=rfl
def SEn:Spec1
 |[.int .i64 n],G,Q=>(0≤n∧n < 100000000000000)∧Q (.own (.sli .u8 (ending n.toNat))) G
 |_,_,_=>False
theorem SEn_eq {n}:SEn [.int .i64 n] G Q=((0≤n∧n < 100000000000000)∧Q (.own (.sli .u8 (ending n.toNat))) G):=rfl
def SFi:Spec1
 |[x],G,Q=>∃b,(byV x=some b∧b.length < 100000000000000)∧Q (.own (.sli .u8 (fillB b))) G
 |_,_,_=>False
theorem SFi_eq {x}:SFi [x] G Q=(∃b,(byV x=some b∧b.length < 100000000000000)∧Q (.own (.sli .u8 (fillB b))) G):=rfl
theorem walk123 (h:Q (.v (.arr .u32 8 start8)) G):Wf E C pf123 [] G Q:=by
 simp (maxSteps:=1000000) (implicitDefEqProofs:=false) only[pf123,go_sem,↓reduceIte]
 exact h
theorem walk129 {n:Nat} (hn:n < 100000000000000) (h:Q (.own (.sli .u8 (ending n))) G):Wf E C pf129 [.int .i64 n] G Q:=by
 have e1:(n:Int).tmod 64=((n % 64:Nat):Int):=by rw[Int.tmod_eq_emod_of_nonneg (by omega)];simp
 have e2:IntKind.i64.wrap (119-((n % 64:Nat):Int))=((119-n % 64:Nat):Int):=by rw[w64 (by omega) (by omega)];omega
 have e3:((119-n % 64:Nat):Int).tmod 64=(((119-n % 64) % 64:Nat):Int):=by rw[Int.tmod_eq_emod_of_nonneg (by omega)];simp
 have l0:=lenB_eq (n:=n) (by omega) (i:=0) (by omega)
 have l1:=lenB_eq (n:=n) (by omega) (i:=1) (by omega)
 have l2:=lenB_eq (n:=n) (by omega) (i:=2) (by omega)
 have l3:=lenB_eq (n:=n) (by omega) (i:=3) (by omega)
 have l4:=lenB_eq (n:=n) (by omega) (i:=4) (by omega)
 have l5:=lenB_eq (n:=n) (by omega) (i:=5) (by omega)
 have l6:=lenB_eq (n:=n) (by omega) (i:=6) (by omega)
 have l7:=lenB_eq (n:=n) (by omega) (i:=7) (by omega)
 simp only[Nat.reduceMul]at l0 l1 l2 l3 l4 l5 l6 l7
 simp (maxSteps:=1000000) (implicitDefEqProofs:=false) only[pf129,e1,e2,e3,go_sem,↓reduceIte]
 have hd:ending n=128::(List.replicate ((119-n % 64) % 64) 0++lens n):=rfl
 have hz:(((119-n % 64) % 64:Nat):Int).toNat=(119-n % 64) % 64:=Int.toNat_natCast _
 rw[hz]
 have hzl:(List.replicate ((119-n % 64) % 64) (0:Int)).length=(119-n % 64) % 64:=List.length_replicate
 generalize hzs:List.replicate ((119-n % 64) % 64) (0:Int)=zs at*
 have hzb:zs.length < 64:=by omega
 refine⟨⟨by omega,by omega⟩,9,?_⟩
 simp (maxSteps:=1000000) (implicitDefEqProofs:=false) only[go_sem,↓reduceIte]
 iterate 8
  refine WL_in lp129_0.eq_1 ?_
  simp (maxSteps:=1000000) (implicitDefEqProofs:=false) (disch:=omega) only[l0,l1,l2,l3,l4,l5,l6,l7,go_sem,↓reduceIte,w64]
  refine⟨by omega,?_⟩
 refine WL_in lp129_0.eq_1 ?_
 simp (maxSteps:=1000000) (implicitDefEqProofs:=false) (disch:=omega) only[l0,l1,l2,l3,l4,l5,l6,l7,go_sem,↓reduceIte,w64]
 rw[hd]at h
 simpa only[lens,List.append_assoc,List.cons_append,List.nil_append]using h
theorem walk124 {x:V} {b:List Int} (h76:Abs.look l 129=some SEn) (hx:byV x=some b) (hb:b.length < 100000000000000) (h:Q (.own (.sli .u8 (fillB b))) G):Wf E (specOf l) pf124 [x] G Q:=by
 have e1:IntKind.i64.wrap ((b.length:Int)+128)=((b.length+128:Nat):Int):=by rw[w64 (by omega) (by omega)];simp
 have hl:(ending b.length).length=9+(119-b.length % 64) % 64:=ending_len _
 rcases byV_cases hx with rfl|⟨rfl,rfl⟩
 ·simp (maxSteps:=1000000) (implicitDefEqProofs:=false) only[pf124,h76,SEn_eq,e1,Int.toNat_natCast,go_sem,↓reduceIte]
  refine⟨⟨by omega,by omega⟩,by omega,⟨by omega,by omega⟩,by omega,?_⟩
  exact h
 ·simp (maxSteps:=1000000) (implicitDefEqProofs:=false) only[pf124,h76,SEn_eq,e1,Int.toNat_natCast,go_sem,↓reduceIte]
  exact⟨⟨by decide,by decide⟩,by decide,h⟩
end Go.Proofs.YtegamlopcdjiaaaDoor.Sha
namespace Go.Proofs.YtegamlopcdjiaaaDoor.Sha
open Go Go.Abs Go.Abs.Sha
set_option linter.unusedSimpArgs false
set_option linter.unusedVariables false
set_option maxRecDepth 100000
def lp115_0:PC:=
 (PC.reg [nn (.t 37) (.bin .lss (.v 36) (.c (.v (.int .i64 8))))]).seq ((PC.cond (.t 37) PC.skip (PC.exit 4)).seq ((PC.block 5 ((PC.reg [mm 38 36,nn
  (.t 39) (.idxA 8 (.v 35) (.v 36)),ma 9 38,ma 10 39]).seq (PC.reg [mm 40 9,nn (.t 41) (.bin .mul (.c (.v (.int .i64 4))) (.t 40)),mm 42 9,nn (.t
  43) (.bin .mul (.c (.v (.int .i64 4))) (.t 42)),nn (.t 44) (.bin .add (.t 43) (.c (.v (.int .i64 1)))),mm 45 9,nn (.t 46) (.bin .mul (.c (.v (.int
  .i64 4))) (.t 45)),nn (.t 47) (.bin .add (.t 46) (.c (.v (.int .i64 2)))),mm 48 9,nn (.t 49) (.bin .mul (.c (.v (.int .i64 4))) (.t 48)),nn (.t
  50) (.bin .add (.t 49) (.c (.v (.int .i64 3)))),mm 51 10,nn (.t 52) (.bin .shr (.t 51) (.c (.v (.int .u64 24)))),nn (.t 53) (.conv .u8 (.t 52)),
  mm 54 10,nn (.t 55) (.bin .shr (.t 54) (.c (.v (.int .u64 16)))),nn (.t 56) (.conv .u8 (.t 55)),mm 57 10,nn (.t 58) (.bin .shr (.t 57) (.c (.v
  (.int .u64 8)))),nn (.t 59) (.conv .u8 (.t 58)),mm 60 10,nn (.t 61) (.conv .u8 (.t 60)),nn (.t 62) (.iadrA 32 (.v 8) (.t 41)),nn .no (.store 1
  (.t 62) (.t 53)),nn (.t 63) (.iadrA 32 (.v 8) (.t 44)),nn .no (.store 1 (.t 63) (.t 56)),nn (.t 64) (.iadrA 32 (.v 8) (.t 47)),nn .no (.store 1
  (.t 64) (.t 59)),nn (.t 65) (.iadrA 32 (.v 8) (.t 50)),nn .no (.store 1 (.t 65) (.t 61))]))).seq (PC.reg [nn (.t 66) (.bin .add (.v 36) (.c (.v
  (.int .i64 1)))),nn (.v 36) (.mv false (.t 66))])))
def lp115_1:PC:=
 ((PC.reg [nn (.v 24) (.mv false (.v 7)),nn (.v 25) (.len (.v 24)),nn (.v 26) (.bin .gtr (.v 25) (.c (.v (.int .i64 0))))]).seq (PC.cond (.v 26)
  PC.skip (PC.exit 2))).seq ((PC.block 3 (PC.regD 0 [nn (.v 29) (.load 8 true (.v 6)),nn (.v 30) (.mv false (.v 7)),nn (.v 31) (.slcS 1 (.v 30) none
  (some (.c (.v (.int .i64 64)))) none),nn (.v 32) (.s2a 64 (.v 31)),nn (.v 33) (.load 64 true (.v 32)),nn (.v 34) (.call 125 [.v 29,.v 33]),nn
  .no (.store 8 (.v 6) (.v 34))] [])).seq (PC.reg [nn (.v 27) (.mv false (.v 7)),nn (.v 28) (.slcS 1 (.v 27) (some (.c (.v (.int .i64 64)))) none
  none),nn (.v 7) (.mv true (.v 28))]))
def lp115_2:PC:=
 (PC.reg [nn (.v 14) (.bin .lss (.v 13) (.v 12))]).seq ((PC.cond (.v 14) PC.skip (PC.exit 0)).seq ((PC.block 1 ((PC.reg [nn (.v 15) (.iadrS 1 (.v 11)
  (.v 13)),nn (.v 16) (.load 1 false (.v 15)),nn (.v 5) (.mv true (.v 16))]).seq (PC.reg [nn (.v 17) (.mv true (.v 3)),nn (.v 18) (.mv false (.v
  5)),nn (.v 19) (.app (some .u8) 1 1 (.v 17) (.v 18)),nn (.v 3) (.mv true (.v 19))]))).seq (PC.reg [nn (.v 20) (.bin .add (.v 13) (.c (.v (.int .i64
  1)))),nn (.v 13) (.mv false (.v 20))])))
def pf115:PF:=
 PF.mk 1 37 68 ((PC.reg [nn (.v 2) (.alloc (.arr .u8 32 [0,0,0,0,0,0,0,0,0,0,0,0,0,0,0,0,0,0,0,0,0,0,0,0,0,0,0,0,0,0,0,
  0]))]).seq ((PC.reg [nn (.v 3) (.mv true (.c (.own .nils)))]).seq (((PC.reg [nn (.v 11) (.mv false (.v 0)),nn (.v 12) (.len (.v 11)),nn (.v 13)
  (.mv false (.c (.v (.int .i64 0))))]).seq (PC.block 0 (PC.loop [2,3,11,12,13] lp115_2))).seq ((PC.reg [nn (.v 21) (.call 123 []),nn (.v 6)
  (.alloc (.arr .u32 8 [0,0,0,0,0,0,0,0])),nn .no (.store 8 (.v 6) (.v 21))]).seq (((PC.reg [nn (.v 22) (.mv false (.v 3)),nn (.v 23) (.call
  124 [.v 22]),nn (.v 7) (.mv true (.v 23))]).seq (PC.block 2 (PC.loop [2,6,7] lp115_1))).seq ((PC.reg [nn (.v 8) (.alloc (.arr .u8 32 [0,0,0,0,
  0,0,0,0,0,0,0,0,0,0,0,0,0,0,0,0,0,0,0,0,0,0,0,0,0,0,0,0]))]).seq (((PC.reg [nn (.v 35) (.load 8 true (.v 6)),nn (.v 36)
  (.mv false (.c (.v (.int .i64 0))))]).seq (PC.block 4 (PC.loop [2,8,35,36] lp115_0))).seq ((PC.reg [nn (.t 67) (.load 32 true (.v 8)),nn .no
  (.store 32 (.v 2) (.t 67))]).seq PC.ret)))))))) [(.v 2,some (32,true))]
attribute [local irreducible] W Wops WopsD WL Wop WopD
variable {E:Env} {C:Abs.Spec} {l:List (Nat×Spec1)} {G:List (Nat×V)} {Q:R→List (Nat×V)→Prop}
set_option maxHeartbeats 1000000
def STu (kt:List Int):Spec1
 |[.arr .u32 8 s,.arr .u8 64 b],G,Q=>(((∀x∈s,Wd x)∧s.length=8)∧Byt b∧b.length=64)∧Q (.v (.arr .u32 8 (block kt s b))) G
 |_,_,_=>False
theorem STu_eq {kt s b}:STu kt [.arr .u32 8 s,.arr .u8 64 b] G Q=((((∀x∈s,Wd x)∧s.length=8)∧Byt b∧b.length=64)∧Q (.v (.arr .u32 8 (block kt s b))) G):=rfl
theorem parts115 {b:List Int} {L:List Bx} {l0:List V} {QQ:Ex→St→Prop} (hb:b.length < 100000000000000) (hl1:l0.length < 100000000000000)
  (hx:∀ts y,byV y=some b→QQ (.exit 0) ⟨[none,none,some (.lp 0 []),some (.own y),none,none,none,none,none,none,none,some (.v (.sle 1 l0)),some (.v (.int .i64 l0.length)),some (.v (.int .i64 l0.length)),some (.v (.bool false)),none,none,none,none,none,none,none,none,none,none,none,none,none,none,none,none,none,none,none,none,none,none],ts,L,G⟩):
  ∀(r:List V) (i:Nat) (y:V) (a c:List Int),l0.drop i=r→i+r.length=l0.length→byV y=some a→catL r=some c→b=a++c→
   WL (W E C lp115_2) [2,3,11,12,13] QQ (r.length+1) ⟨[none,none,some (.lp 0 []),some (.own y),none,none,none,none,none,none,none,some (.v (.sle 1 l0)),some (.v (.int .i64 l0.length)),some (.v (.int .i64 i)),none,none,none,none,none,none,none,none,none,none,none,none,none,none,none,none,none,none,none,none,none,none,none],[],L,G⟩:=by
 intro r
 induction r with
 |nil=>
  intro i y a c hr hi hy hc hbc
  have hi2:i=l0.length:=by simpa using hi
  subst hi2
  cases hc
  rw[List.append_nil]at hbc;subst hbc
  have hno:¬(l0.length:Int) < (l0.length:Int):=by omega
  refine WL_in lp115_2.eq_1 ?_
  simp (maxSteps:=1000000) (implicitDefEqProofs:=false) only[hno,go_sem,↓reduceIte]
  exact hx _ y hy
 |cons e r ih=>
  intro i y a c hr hi hy hc hbc
  obtain⟨a2,c2,he,hc2,rfl⟩:=catL_cons hc
  have hlt:i < l0.length:=by simp only[List.length_cons]at hi;omega
  have hlt':(i:Int) < (l0.length:Int):=by omega
  have hg:l0.getD i .nilp=e:=by
   have:(l0.drop i)[0]? =some e:=by rw[hr];rfl
   rw[List.getElem?_drop,Nat.add_zero]at this
   rw[List.getD_eq_getElem?_getD,this];rfl
  have hr2:l0.drop (i+1)=r:=by rw[←List.drop_drop,hr];rfl
  have ew:IntKind.i64.wrap ((i:Int)+1)=((i+1:Nat):Int):=by rw[w64 (by omega) (by omega)];simp
  subst hbc
  simp only[List.length_append]at hb
  have ihh:=fun y' hy'=>ih (i+1) y' (a++a2) c2 hr2 (by simp only[List.length_cons]at hi;omega) hy' hc2 (by rw[List.append_assoc])
  refine WL_in lp115_2.eq_1 ?_
  rcases byV_cases hy with rfl|⟨rfl,rfl⟩<;>rcases byV_cases he with rfl|⟨rfl,rfl⟩
  ·simp (maxSteps:=1000000) (implicitDefEqProofs:=false) only[hlt',hg,Int.toNat_natCast,ew,go_sem,↓reduceIte]
   exact⟨by omega,by omega,ihh _ rfl⟩
  ·simp (maxSteps:=1000000) (implicitDefEqProofs:=false) only[hlt',hg,Int.toNat_natCast,ew,go_sem,↓reduceIte]
   exact⟨by omega,by omega,ihh _ (by rw[List.append_nil];rfl)⟩
  ·simp (maxSteps:=1000000) (implicitDefEqProofs:=false) only[hlt',hg,Int.toNat_natCast,ew,go_sem,↓reduceIte]
   exact⟨by omega,by omega,ihh _ rfl⟩
  ·simp (maxSteps:=1000000) (implicitDefEqProofs:=false) only[hlt',hg,Int.toNat_natCast,ew,go_sem,↓reduceIte]
   exact⟨by omega,ihh _ rfl⟩
theorem blocks115 {f kt:List Int} {z0:Bx} {n:Nat} {QQ:Ex→St→Prop} (h73:Abs.look l 125=some (STu kt)) (hf:Byt f) (hn:f.length=64*n)
  (hx:∀ts d,QQ (.exit 2) ⟨[none,none,some (.lp 0 []),none,none,none,some (.lp 1 []),d,none,none,none,none,none,none,none,none,none,none,none,none,none,none,none,none,some (.v (.sli .u8 [])),some (.v (.int .i64 0)),some (.v (.bool false)),none,none,none,none,none,none,none,none,none,none],ts,[z0,⟨false,.arr .u32 8 (iter kt f start8 n)⟩],G⟩):
  ∀(m i:Nat) (dd:D),i+m=n→dd= .own (.sli .u8 (f.drop (64*i)))∨dd= .v (.sli .u8 (f.drop (64*i)))→
   WL (W E (specOf l) lp115_1) [2,6,7] QQ (m+1) ⟨[none,none,some (.lp 0 []),none,none,none,some (.lp 1 []),some dd,none,none,none,none,none,none,none,none,none,none,none,none,none,none,none,none,none,none,none,none,none,none,none,none,none,none,none,none,none],[],[z0,⟨false,.arr .u32 8 (iter kt f start8 i)⟩],G⟩:=by
 intro m
 induction m with
 |zero=>
  intro i dd hi hd
  obtain rfl:i=n:=by omega
  have he:f.drop (64*i)=[]:=List.drop_eq_nil_of_le (by omega)
  rw[he]at hd
  refine WL_in lp115_1.eq_1 ?_
  rcases hd with rfl|rfl
  ·simp (maxSteps:=1000000) (implicitDefEqProofs:=false) only[go_sem,↓reduceIte]
   exact hx _ _
  ·simp (maxSteps:=1000000) (implicitDefEqProofs:=false) only[go_sem,↓reduceIte]
   exact hx _ _
 |succ m ih=>
  intro i dd hi hd
  have hdl:(f.drop (64*i)).length=64*(m+1):=by rw[List.length_drop];omega
  have hpos:(0:Int) < ((f.drop (64*i)).length:Int):=by omega
  have hit:=iter_ok (k:=kt) (f:=f) (s:=start8) rfl start8_ok i
  have ihh:=fun dd h=>ih (i+1) dd (by omega) h
  have hdd:f.drop (64*(i+1))=(f.drop (64*i)).drop 64:=by rw[List.drop_drop];congr 1
  rw[hdd]at ihh
  have hsame:iter kt f start8 (i+1)=block kt (iter kt f start8 i) ((f.drop (64*i)).take 64):=rfl
  rw[hsame]at ihh
  have hby:=byt_drop hf (64*i)
  generalize f.drop (64*i)=g at*
  have ht:(g.take 64).take 64=g.take 64:=by rw[List.take_take];rfl
  have ht2:g.take g.length=g:=List.take_length
  refine WL_in lp115_1.eq_1 ?_
  rcases hd with rfl|rfl
  all_goals
   simp (maxSteps:=1000000) (implicitDefEqProofs:=false) only[h73,STu_eq,hpos,ht,ht2,Int.toNat_natCast,List.drop_zero,go_sem,↓reduceIte]
   refine⟨by omega,by simp only[List.length_take];omega,⟨⟨hit.2,hit.1⟩,byt_take hby _,by simp only[List.length_take];omega⟩,⟨by omega,by omega⟩,?_⟩
   exact ihh _ (Or.inr rfl)
theorem bytes115 {s:List Int} {s0 s1 s2 s3 s4 s5 s6 s7:Int} {z0 z1:Bx} {QQ:Ex→St→Prop} (hl:s.length=8) (hw:∀x∈s,Wd x)
  (hx:∀ts,QQ (.exit 4) ⟨[none,none,some (.lp 0 []),none,none,none,none,none,some (.lp 2 []),none,none,none,none,none,none,none,none,none,none,none,none,none,none,none,none,none,none,none,none,none,none,none,none,none,none,some (.v (.arr .u32 8 [s0,s1,s2,s3,s4,s5,s6,s7])),some (.v (.int .i64 8))],ts,[z0,z1,⟨false,.arr .u8 32 (s.flatMap bytes4)⟩],G⟩) (hs:s=[s0,s1,s2,s3,s4,s5,s6,s7]):
  WL (W E C lp115_0) [2,8,35,36] QQ 9 ⟨[none,none,some (.lp 0 []),none,none,none,none,none,some (.lp 2 []),none,none,none,none,none,none,none,none,none,none,none,none,none,none,none,none,none,none,none,none,none,none,none,none,none,none,some (.v (.arr .u32 8 [s0,s1,s2,s3,s4,s5,s6,s7])),some (.v (.int .i64 0))],[],[z0,z1,⟨false,.arr .u8 32 [0,0,0,0,0,0,0,0,0,0,0,0,0,0,0,0,0,0,0,0,0,0,0,0,0,0,0,0,0,0,0,0]⟩],G⟩:=by
 subst hs
 iterate 9
  refine WL_in lp115_0.eq_1 ?_
  simp (maxSteps:=1000000) (implicitDefEqProofs:=false) (disch:=omega) only[go_sem,↓reduceIte,w64]
 have hb:∀x,x∈[s0,s1,s2,s3,s4,s5,s6,s7]→IntKind.u8.wrap (x.fdiv (2 ^ min 24 32))=octOf x 0∧IntKind.u8.wrap (x.fdiv (2 ^ min 16 32))=octOf x 1∧IntKind.u8.wrap (x.fdiv (2 ^ min 8 32))=octOf x 2∧IntKind.u8.wrap x=octOf x 3:=fun x hx=>octOf_eq (hw x hx)
 obtain⟨a0,a1,a2,a3⟩:=hb s0 (by simp)
 obtain⟨b0,b1,b2,b3⟩:=hb s1 (by simp)
 obtain⟨c0,c1,c2,c3⟩:=hb s2 (by simp)
 obtain⟨d0,d1,d2,d3⟩:=hb s3 (by simp)
 obtain⟨e0,e1,e2,e3⟩:=hb s4 (by simp)
 obtain⟨f0,f1,f2,f3⟩:=hb s5 (by simp)
 obtain⟨g0,g1,g2,g3⟩:=hb s6 (by simp)
 obtain⟨h0,h1,h2,h3⟩:=hb s7 (by simp)
 rw[a0,a1,a2,a3,b0,b1,b2,b3,c0,c1,c2,c3,d0,d1,d2,d3,e0,e1,e2,e3,f0,f1,f2,f3,g0,g1,g2,g3,h0,h1,h2,h3]
 exact hx _
theorem walk115 {kt b:List Int} {x:V} (h71:Abs.look l 123=some SSt) (h72:Abs.look l 124=some SFi) (h73:Abs.look l 125=some (STu kt)) (hx:partsV x=some b) (hxl:x.len < 100000000000000) (hby:Byt b) (hb:b.length < 100000000000000)
  (h:Q (.v (.arr .u8 32 (sumB kt b))) G):Wf E (specOf l) pf115 [x] G Q:=by
 obtain⟨n,hn,hsum⟩:∃n,(fillB b).length=64*n∧sumB kt b=(iter kt (fillB b) start8 n).flatMap bytes4:=⟨_,fillB_len b,rfl⟩
 have hok:=iter_ok (k:=kt) (f:=fillB b) (s:=start8) rfl start8_ok n
 rcases partsV_cases hx with⟨l0,rfl,hc⟩|⟨rfl,rfl⟩
 ·simp (maxSteps:=1000000) (implicitDefEqProofs:=false) only[pf115,go_sem,↓reduceIte]
  refine⟨l0.length+1,?_⟩
  simp (maxSteps:=1000000) (implicitDefEqProofs:=false) only[go_sem,↓reduceIte]
  refine parts115 hb hxl (fun ts y hy=> ?_) l0 0 .nils [] b rfl (by omega) rfl hc rfl
  rcases byV_cases hy with rfl|⟨rfl,rfl⟩
  all_goals
   simp (maxSteps:=1000000) (implicitDefEqProofs:=false) only[h71,h72,SSt_eq,SFi_eq,go_sem,↓reduceIte]
   refine⟨_,⟨rfl,hb⟩,n+1,?_⟩
   simp (maxSteps:=1000000) (implicitDefEqProofs:=false) only[go_sem,↓reduceIte]
   refine blocks115 h73 (byt_fill hby) hn (fun ts d=> ?_) n 0 _ (by omega) (Or.inl rfl)
   simp (maxSteps:=1000000) (implicitDefEqProofs:=false) only[go_sem,↓reduceIte]
   refine⟨9,?_⟩
   simp (maxSteps:=1000000) (implicitDefEqProofs:=false) only[go_sem,↓reduceIte]
   generalize iter kt (fillB _) start8 n=s at*
   obtain⟨s0,s1,s2,s3,s4,s5,s6,s7,rfl⟩:∃s0 s1 s2 s3 s4 s5 s6 s7,s=[s0,s1,s2,s3,s4,s5,s6,s7]:=by
    match s,hok.1 with
    |[s0,s1,s2,s3,s4,s5,s6,s7],_=>exact⟨_,_,_,_,_,_,_,_,rfl⟩
   refine bytes115 hok.1 hok.2 (fun ts=> ?_) rfl
   simp (maxSteps:=1000000) (implicitDefEqProofs:=false) only[go_sem,↓reduceIte]
   rw[hsum]at h
   exact h
 ·simp (maxSteps:=1000000) (implicitDefEqProofs:=false) only[pf115,go_sem,↓reduceIte]
  refine⟨1,?_⟩
  simp (maxSteps:=1000000) (implicitDefEqProofs:=false) only[go_sem,↓reduceIte]
  refine WL_in lp115_2.eq_1 ?_
  simp (maxSteps:=1000000) (implicitDefEqProofs:=false) only[h71,h72,SSt_eq,SFi_eq,go_sem,↓reduceIte]
  refine⟨_,⟨rfl,hb⟩,n+1,?_⟩
  simp (maxSteps:=1000000) (implicitDefEqProofs:=false) only[go_sem,↓reduceIte]
  refine blocks115 h73 (byt_fill hby) hn (fun ts d=> ?_) n 0 _ (by omega) (Or.inl rfl)
  simp (maxSteps:=1000000) (implicitDefEqProofs:=false) only[go_sem,↓reduceIte]
  refine⟨9,?_⟩
  simp (maxSteps:=1000000) (implicitDefEqProofs:=false) only[go_sem,↓reduceIte]
  generalize iter kt (fillB _) start8 n=s at*
  obtain⟨s0,s1,s2,s3,s4,s5,s6,s7,rfl⟩:∃s0 s1 s2 s3 s4 s5 s6 s7,s=[s0,s1,s2,s3,s4,s5,s6,s7]:=by
   match s,hok.1 with
   |[s0,s1,s2,s3,s4,s5,s6,s7],_=>exact⟨_,_,_,_,_,_,_,_,rfl⟩
  refine bytes115 hok.1 hok.2 (fun ts=> ?_) rfl
  simp (maxSteps:=1000000) (implicitDefEqProofs:=false) only[go_sem,↓reduceIte]
  rw[hsum]at h
  exact h
end Go.Proofs.YtegamlopcdjiaaaDoor.Sha
