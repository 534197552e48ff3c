/- Rows, certificates, accumulations. -/
import Derived.Test.YtegamlopcdjiaaaDoorG5
namespace Go.Proofs.YtegamlopcdjiaaaDoor.Sha
open Go Go.Abs Go.Abs.Sha Go.Abs.Srt
set_option linter.unusedSimpArgs false
set_option linter.unusedVariables false
set_option maxRecDepth 100000
def rest122:PC:=
 ((PC.reg [mm 175 19,mm 176 20,nn (.t 177) (.bin .sub (.t 175) (.t 176)),ma 24 177]).seq (((PC.reg [mm 178 20,mm 179 2,nn (.t 180) (.bin .lss (.t 178) (.t 179)),nn (.t 181) (.mv false (.t 180)),gm 182 2 181 true,gm 183 24 181 true,⟨.t 184,.bin .lss (.t 182) (.t 183),some (.t 181,true)⟩,nn (.t 185) (.pick (.t 181) (.t 184) (.c (.v (.bool false))))]).seq (PC.cond (.t 185) (PC.reg [mm 186 0,mm 187 20,mm 188 2,mm 189 24,mm 190 4,nn (.t 191) (.call 128 [.t 186,.t 187,.t 188,.t 189,.t 190])]) PC.skip)).seq (((PC.reg [mm 192 1,mm 193 20,nn (.t 194) (.bin .lss (.t 192) (.t 193)),nn (.t 195) (.mv false (.t 194)),gm 196 20 195 true,gm 197 18 195 true,⟨.t 198,.bin .lss (.t 196) (.t 197),some (.t 195,true)⟩,nn (.t 199) (.pick (.t 195) (.t 198) (.c (.v (.bool false))))]).seq (PC.cond (.t 199) (PC.reg [mm 200 0,mm 201 1,mm 202 20,mm 203 18,mm 204 4,nn (.t 205) (.call 122 [.t 200,.t 201,.t 202,.t 203,.t 204])]) PC.skip)).seq ((PC.reg [mm 206 18,mm 207 24,nn (.t 208) (.bin .lss (.t 206) (.t 207)),nn (.t 209) (.mv false (.t 208)),gm 210 24 209 true,gm 211 3 209 true,⟨.t 212,.bin .lss (.t 210) (.t 211),some (.t 209,true)⟩,nn (.t 213) (.pick (.t 209) (.t 212) (.c (.v (.bool false))))]).seq (PC.cond (.t 213) (PC.reg [mm 214 0,mm 215 18,mm 216 24,mm 217 3,mm 218 4,nn (.t 219) (.call 122 [.t 214,.t 215,.t 216,.t 217,.t 218])]) PC.skip)))))
def pf122:PF:=PF.mk 5 25 220 (((PC.reg [mm 25 2,mm 26 1,nn (.t 27) (.bin .sub (.t 25) (.t 26)),nn (.t 28) (.bin .eql (.t 27) (.c (.v (.int .i64 1))))]).seq (PC.cond (.t 28) ((PC.reg [nn (.t 29) (.mv true (.v 2)),ma 10 29]).seq ((PC.reg [nn (.t 30) (.mv true (.v 3)),ma 11 30]).seq ((PC.block 0 (PC.loop [0,1,4,10,11] lp122_4)).seq (((PC.reg [nn (.t 54) (.mv true (.v 1)),ma 13 54]).seq (PC.block 2 (PC.loop [0,10,13] lp122_3))).seq PC.ret)))) PC.skip)).seq (((PC.reg [mm 77 3,mm 78 2,nn (.t 79) (.bin .sub (.t 77) (.t 78)),nn (.t 80) (.bin .eql (.t 79) (.c (.v (.int .i64 1))))]).seq (PC.cond (.t 80) ((PC.reg [nn (.t 81) (.mv true (.v 1)),ma 14 81]).seq ((PC.reg [nn (.t 82) (.mv true (.v 2)),ma 15 82]).seq ((PC.block 4 (PC.loop [0,2,4,14,15] lp122_2)).seq (((PC.reg [nn (.t 107) (.mv true (.v 2)),ma 17 107]).seq (PC.block 6 (PC.loop [0,14,17] lp122_1))).seq PC.ret)))) PC.skip)).seq ((PC.reg [mm 129 1,mm 130 3,nn (.t 131) (.bin .add (.t 129) (.t 130)),nn (.t 132) (.conv .u64 (.t 131)),nn (.t 133) (.bin .shr (.t 132) (.c (.v (.int .u64 1)))),nn (.t 134) (.conv .i64 (.t 133)),ma 18 134]).seq ((PC.reg [mm 135 18,mm 136 2,nn (.t 137) (.bin .add (.t 135) (.t 136)),ma 19 137]).seq ((PC.reg [nn (.v 20) (.mv true (.c (.v (.int .i64 0)))),nn (.v 21) (.mv true (.c (.v (.int .i64 0))))]).seq (((PC.reg [mm 138 2,mm 139 18,nn (.t 140) (.bin .gtr (.t 138) (.t 139))]).seq (PC.cond (.t 140) ((PC.reg [mm 141 19,mm 142 3,nn (.t 143) (.bin .sub (.t 141) (.t 142)),ma 20 143]).seq (PC.reg [nn (.t 144) (.mv true (.v 18)),ma 21 144])) ((PC.reg [nn (.t 145) (.mv true (.v 1)),ma 20 145]).seq (PC.reg [nn (.t 146) (.mv true (.v 2)),ma 21 146])))).seq ((PC.reg [mm 147 19,nn (.t 148) (.bin .sub (.t 147) (.c (.v (.int .i64 1)))),ma 22 148]).seq ((PC.block 8 (PC.loop [0,1,2,3,4,18,19,20,21,22] lp122_0)).seq rest122)))))))) []
attribute [local irreducible] W Wops WopsD WL Wop WopD
variable {E:Env} {C:Abs.Spec} {l:List (Nat×Spec1)} {G:List (Nat×V)} {Q:R→List (Nat×V)→Prop}
set_option maxHeartbeats 1000000
theorem sym_facts {key:V→Int} {P A B S:List V} {a m b mid nn s p s0 r0 e:Nat} (ha:a=P.length) (hm:m=a+A.length) (hb:b=m+B.length) (hA0:1 < A.length) (hB0:1 < B.length) (hmid:mid=(a+b) / 2) (hnn:nn=mid+m) (hp:p=nn-1) (he:e=nn-s)
  (hc:(s0=a∧r0=m∧m≤mid)∨(s0=nn-b∧r0=mid∧mid < m)) (h1:s0≤s) (h2:s≤r0) (uA:Up key A) (uB:Up key B)
  (h4:s0 < s→∀x y,(P++A++B++S)[p-(s-1)]? =some x→(P++A++B++S)[s-1]? =some y→¬key x < key y) (h5:s < r0→∀x y,(P++A++B++S)[p-s]? =some x→(P++A++B++S)[s]? =some y→key x < key y):
  ∃A1 A2 B1 B2,A=A1++A2∧B=B1++B2∧A1.length=s-a∧A2.length=m-s∧B1.length=e-m∧B2.length=b-e∧a≤s∧s≤m∧m≤e∧e≤b∧s+(e-m)=mid∧srt key (A1++B1)++srt key (A2++B2)=srt key (A++B):=by
 have b1:a≤s∧s≤m∧m≤e∧e≤b∧s+(e-m)=mid:=by omega
 obtain⟨q1,q2,q3,q4,q5⟩:=b1
 refine⟨A.take (s-a),A.drop (s-a),B.take (e-m),B.drop (e-m),(List.take_append_drop _ _).symm,(List.take_append_drop _ _).symm,by rw[List.length_take];omega,by rw[List.length_drop];omega,by rw[List.length_take];omega,by rw[List.length_drop];omega,q1,q2,q3,q4,q5,?_⟩
 have gA:∀i,i < A.length→(P++A++B++S)[a+i]? =A[i]? :=fun i hi=>by
  rw[List.append_assoc,List.append_assoc,List.getElem?_append_right (by omega),show a+i-P.length=i by omega,List.getElem?_append_left hi]
 have gB:∀i,i < B.length→(P++A++B++S)[m+i]? =B[i]? :=fun i hi=>by
  rw[List.append_assoc,List.getElem?_append_right (by rw[List.length_append];omega),show m+i-(P++A).length=i by rw[List.length_append];omega,List.getElem?_append_left hi]
 conv=>rhs;rw[←List.take_append_drop (s-a) A,←List.take_append_drop (e-m) B]
 refine srt_split (by rw[List.take_append_drop];exact uA) (by rw[List.take_append_drop];exact uB) (fun x hx y hy=> ?_) (fun y hy x hx=> ?_)
 ·-- the first of the one, the others of the other
  by_cases hs:s0 < s
  ·obtain⟨u,hu⟩:∃u,A[s-1-a]? =some u:=⟨A[s-1-a]'(by omega),List.getElem?_eq_getElem (by omega)⟩
   by_cases heb:e=b
   ·rw[List.drop_of_length_le (by omega)]at hy;cases hy
   obtain⟨v,hv⟩:∃v,B[e-m]? =some v:=⟨B[e-m]'(by omega),List.getElem?_eq_getElem (by omega)⟩
   have hk:=h4 hs v u (by rw[show p-(s-1)=m+(e-m)by omega,gB _ (by omega)];exact hv) (by rw[show s-1=a+(s-1-a)by omega,gA _ (by omega)];exact hu)
   have k1:=(up_at uA hu).1 x (by rw[show s-1-a+1=s-a by omega];exact hx)
   have k2:=(up_at uB hv).2 y hy
   omega
  ·rcases hc with⟨c1,c2,c3⟩|⟨c1,c2,c3⟩
   ·rw[show s-a=0 by omega]at hx;simp at hx
   ·rw[List.drop_of_length_le (by omega)]at hy;cases hy
 ·by_cases hs:s < r0
  ·obtain⟨u,hu⟩:∃u,A[s-a]? =some u:=⟨A[s-a]'(by omega),List.getElem?_eq_getElem (by omega)⟩
   by_cases hem:e=m
   ·rw[show e-m=0 by omega]at hy;simp at hy
   obtain⟨v,hv⟩:∃v,B[e-m-1]? =some v:=⟨B[e-m-1]'(by omega),List.getElem?_eq_getElem (by omega)⟩
   have hk:=h5 hs v u (by rw[show p-s=m+(e-m-1)by omega,gB _ (by omega)];exact hv) (by rw[show (P++A++B++S)[s]? =(P++A++B++S)[a+(s-a)]? by rw[show a+(s-a)=s by omega],gA _ (by omega)];exact hu)
   have k1:=(up_at uA hu).2 x hx
   have k2:=(up_at uB hv).1 y (by rw[show e-m-1+1=e-m by omega];exact hy)
   omega
  ·rcases hc with⟨c1,c2,c3⟩|⟨c1,c2,c3⟩
   ·rw[List.drop_of_length_le (by omega)]at hx;cases hx
   ·rw[show e-m=0 by omega]at hy;simp at hy
theorem restW122 {T:List (Nat×Spec1)} {kk:Nat} {ts:List (Nat×D)} {id n c a m b mid nn s r p f e:Nat} {caps:List V} {pr:V→Prop} {key:V→Int} {z:V} (hSelf:Abs.look l 122=some (ZSy T kk)) (hRT:Abs.look l 128=some ZRt) (hf:KeyFn T f caps pr key)
  {P A1 A2 B1 B2 S:List V} (hG:Abs.look G id=some (.agg (P++(A1++A2)++(B1++B2)++S))) (hn:n < 1000000000000000) (hnL:n≤(P++(A1++A2)++(B1++B2)++S).length) (hbn:b≤n) (hP:∀y∈P++(A1++A2)++(B1++B2)++S,pr y) (hR:RowOk 101 z (P++(A1++A2)++(B1++B2)++S))
  (ha:a=P.length) (q1:a≤s) (q2:s≤m) (q3:m≤e) (q4:e≤b) (he:nn-s=e) (hsn:s≤nn) (hmid:s+(e-m)=mid) (hmidb:a < mid∧mid < b) (l1:A1.length=s-a) (l2:A2.length=m-s) (l3:B1.length=e-m) (l4:B2.length=b-e) (hkk:b-a≤kk+1) (hnn:nn < 3000000000000000)
  (uA1:Up key A1) (uA2:Up key A2) (uB1:Up key B1) (uB2:Up key B2)
  {f0:PF} (hres:f0.res=[]) (h:Q (.tup []) (Abs.upd G id (.agg (P++(srt key (A1++B1)++srt key (A2++B2))++S)))):
  W E (specOf l) rest122 (retQ E f0 Q) ⟨[some (.v (.sob id 101 0 n c)),some (.v (.int .i64 (a:Nat))),some (.v (.int .i64 (m:Nat))),some (.v (.int .i64 (b:Nat))),some (.v (.fn f caps)),none,none,none,none,none,none,none,none,none,none,none,none,none,some (.v (.int .i64 (mid:Nat))),some (.v (.int .i64 (nn:Nat))),some (.v (.int .i64 (s:Nat))),some (.v (.int .i64 (r:Nat))),some (.v (.int .i64 (p:Nat))),none,none],ts,[],G⟩:=by
 have w1:IntKind.i64.wrap ((nn:Int)-(s:Int))=(e:Int):=wc (by omega) (by omega)
 have mem:∀w∈P++A1++B1++(A2++B2++S),w∈P++(A1++A2)++(B1++B2)++S:=fun w hw=>by
  simp only[List.mem_append]at hw⊢
  rcases hw with ((h|h)|h)|((h|h)|h)<;>simp[h]
 have hR1:RowOk 101 z (P++A1++B1++(A2++B2++S)):=hR.mem mem
 have len1:(P++A1++B1++(A2++B2++S)).length=(P++(A1++A2)++(B1++B2)++S).length:=by simp only[List.length_append];omega
 have hP1:∀y∈P++A1++B1++(A2++B2++S),pr y:=fun y hy=>hP y (mem y hy)
 have mem2:∀w∈(P++srt key (A1++B1))++A2++B2++S,w∈P++(A1++A2)++(B1++B2)++S:=fun w hw=>by
  simp only[List.mem_append,mem_srt]at hw⊢
  rcases hw with (((h|(h|h))|h)|h)|h<;>simp[h]
 have hR2:RowOk 101 z ((P++srt key (A1++B1))++A2++B2++S):=hR.mem mem2
 have len2:((P++srt key (A1++B1))++A2++B2++S).length=(P++(A1++A2)++(B1++B2)++S).length:=by simp only[List.length_append,srt_length];omega
 have hnL':=hnL
 simp only[List.length_append]at hnL'
 have look1:Abs.look (Abs.upd G id (.agg (P++A1++B1++(A2++B2++S)))) id=some (.agg (P++A1++B1++(A2++B2++S))):=look_upd_same hG
 have look2:Abs.look (Abs.upd G id (.agg ((P++srt key (A1++B1))++A2++B2++S))) id=some (.agg ((P++srt key (A1++B1))++A2++B2++S)):=look_upd_same hG
 -- the steps from the end to the beginning
 have right:∀(hh:¬(mid < e∧e < b)),srt key (A2++B2)=A2++B2:=by
  intro hh
  by_cases hx:mid < e
  ·have:B2=[]:=List.eq_nil_of_length_eq_zero (by omega)
   rw[this,List.append_nil,srt_up uA2]
  ·have:A2=[]:=List.eq_nil_of_length_eq_zero (by omega)
   rw[this,List.nil_append,srt_up uB2]
 have left:∀(hh:¬(a < s∧s < mid)),srt key (A1++B1)=A1++B1:=by
  intro hh
  by_cases hx:a < s
  ·have:B1=[]:=List.eq_nil_of_length_eq_zero (by omega)
   rw[this,List.append_nil,srt_up uA1]
  ·have:A1=[]:=List.eq_nil_of_length_eq_zero (by omega)
   rw[this,List.nil_append,srt_up uB1]
 have G1eq:¬(s < m∧m < e)→Abs.upd G id (.agg (P++A1++B1++(A2++B2++S)))=G:=by
  intro hh
  have:P++A1++B1++(A2++B2++S)=P++(A1++A2)++(B1++B2)++S:=by
   by_cases hx:s < m
   ·have:B1=[]:=List.eq_nil_of_length_eq_zero (by omega)
    rw[this];simp
   ·have:A2=[]:=List.eq_nil_of_length_eq_zero (by omega)
    rw[this];simp
  rw[this,upd_self hG]
 have G2eq:¬(a < s∧s < mid)→Abs.upd G id (.agg (P++A1++B1++(A2++B2++S)))=Abs.upd G id (.agg ((P++srt key (A1++B1))++A2++B2++S)):=by
  intro hh
  rw[left hh];simp
 have G3eq:¬(mid < e∧e < b)→Abs.upd G id (.agg ((P++srt key (A1++B1))++A2++B2++S))=Abs.upd G id (.agg (P++(srt key (A1++B1)++srt key (A2++B2))++S)):=by
  intro hh
  rw[right hh];simp
 have callR:∀{K:R→List (Nat×V)→Prop},s < m→m < e→K (.tup []) (Abs.upd G id (.agg (P++A1++B1++(A2++B2++S))))→ZRt [.sob id 101 0 n c,.int .i64 (s:Nat),.int .i64 (m:Nat),.int .i64 (e:Nat),.fn f caps] G K:=by
  intro K h1 h2 hK
  rw[ZRt_eq]
  refine⟨P++A1,A2,B1,B2++S,z,⟨by rw[hG];simp,⟨by simp only[List.length_append];omega,by simp only[List.length_append];omega,by simp only[List.length_append];omega,by omega,by omega⟩,⟨by simp only[List.length_append];omega,by simp only[List.length_append];omega,hn⟩,?_⟩,?_⟩
  ·have:P++A1++A2++B1++(B2++S)=P++(A1++A2)++(B1++B2)++S:=by simp
   rw[this];exact hR
  ·have:P++A1++B1++A2++(B2++S)=P++A1++B1++(A2++B2++S):=by simp
   rw[this];exact hK
 have callL:∀{K:R→List (Nat×V)→Prop},a < s→s < mid→K (.tup []) (Abs.upd G id (.agg ((P++srt key (A1++B1))++A2++B2++S)))→ZSy T kk [.sob id 101 0 n c,.int .i64 (a:Nat),.int .i64 (s:Nat),.int .i64 (mid:Nat),.fn f caps] (Abs.upd G id (.agg (P++A1++B1++(A2++B2++S)))) K:=by
  intro K h1 h2 hK
  rw[ZSy_eq]
  refine⟨P,A1,B1,A2++B2++S,key,pr,z,⟨look1,⟨by omega,by simp only[List.length_append];omega,by simp only[List.length_append];omega,by omega,by omega,by omega⟩,⟨by simp only[List.length_append];omega,by rw[len1];exact hnL,hn⟩,⟨uA1,uB1,hP1⟩,hR1,hf⟩,?_⟩
  have:P++srt key (A1++B1)++(A2++B2++S)=(P++srt key (A1++B1))++A2++B2++S:=by simp
  rw[this,upd_upd];exact hK
 have callE:∀{K:R→List (Nat×V)→Prop},mid < e→e < b→K (.tup []) (Abs.upd G id (.agg (P++(srt key (A1++B1)++srt key (A2++B2))++S)))→ZSy T kk [.sob id 101 0 n c,.int .i64 (mid:Nat),.int .i64 (e:Nat),.int .i64 (b:Nat),.fn f caps] (Abs.upd G id (.agg ((P++srt key (A1++B1))++A2++B2++S))) K:=by
  intro K h1 h2 hK
  rw[ZSy_eq]
  refine⟨P++srt key (A1++B1),A2,B2,S,key,pr,z,⟨look2,⟨by simp only[List.length_append,srt_length];omega,by simp only[List.length_append,srt_length];omega,by simp only[List.length_append,srt_length];omega,by omega,by omega,by omega⟩,⟨by simp only[List.length_append,srt_length];omega,by rw[len2];exact hnL,hn⟩,⟨uA2,uB2,fun y hy=>hP y (mem2 y hy)⟩,hR2,hf⟩,?_⟩
  rw[upd_upd,show P++srt key (A1++B1)++srt key (A2++B2)++S=P++(srt key (A1++B1)++srt key (A2++B2))++S by simp];exact hK
 generalize Abs.upd G id (.agg (P++A1++B1++(A2++B2++S)))=GA at*
 generalize Abs.upd G id (.agg ((P++srt key (A1++B1))++A2++B2++S))=GB at*
 generalize Abs.upd G id (.agg (P++(srt key (A1++B1)++srt key (A2++B2))++S))=GC at*
 have i1:((s:Int) < (m:Int))=(s < m):=by simp
 have i2:((m:Int) < (e:Int))=(m < e):=by simp
 have i3:((a:Int) < (s:Int))=(a < s):=by simp
 have i4:((s:Int) < (mid:Int))=(s < mid):=by simp
 have i5:((mid:Int) < (e:Int))=(mid < e):=by simp
 have i6:((e:Int) < (b:Int))=(e < b):=by simp
 have tri:∀p q:Prop,(p∧q)∨(p∧¬q)∨¬p:=fun p q=>by by_cases hp:p<;>by_cases hq:q<;>simp[hp,hq]
 rcases tri (s < m) (m < e)with hr|hr|hr<;>rcases tri (a < s) (s < mid)with hl|hl|hl<;>rcases tri (mid < e) (e < b)with hg|hg|hg
 ·simp (maxSteps:=1000000) (implicitDefEqProofs:=false) only[rest122,w1,i1,i2,i3,i4,i5,i6,hr.1,hr.2,hl.1,hl.2,hg.1,hg.2,hRT,hSelf,hres,go_sem,↓reduceIte]
  refine callR hr.1 hr.2 ?_
  refine callL hl.1 hl.2 ?_
  refine callE hg.1 hg.2 ?_
  exact h
 ·have g3:=G3eq (fun h=>hg.2 h.2)
  simp (maxSteps:=1000000) (implicitDefEqProofs:=false) only[rest122,w1,i1,i2,i3,i4,i5,i6,hr.1,hr.2,hl.1,hl.2,hg.1,hg.2,hRT,hSelf,hres,go_sem,↓reduceIte]
  refine callR hr.1 hr.2 ?_
  refine callL hl.1 hl.2 ?_
  rw[g3]
  exact h
 ·have g3:=G3eq (fun h=>hg h.1)
  simp (maxSteps:=1000000) (implicitDefEqProofs:=false) only[rest122,w1,i1,i2,i3,i4,i5,i6,hr.1,hr.2,hl.1,hl.2,hg,hRT,hSelf,hres,go_sem,↓reduceIte]
  refine callR hr.1 hr.2 ?_
  refine callL hl.1 hl.2 ?_
  rw[g3]
  exact h
 ·have g2:=G2eq (fun h=>hl.2 h.2)
  simp (maxSteps:=1000000) (implicitDefEqProofs:=false) only[rest122,w1,i1,i2,i3,i4,i5,i6,hr.1,hr.2,hl.1,hl.2,hg.1,hg.2,hRT,hSelf,hres,go_sem,↓reduceIte]
  refine callR hr.1 hr.2 ?_
  rw[g2]
  refine callE hg.1 hg.2 ?_
  exact h
 ·have g2:=G2eq (fun h=>hl.2 h.2)
  have g3:=G3eq (fun h=>hg.2 h.2)
  simp (maxSteps:=1000000) (implicitDefEqProofs:=false) only[rest122,w1,i1,i2,i3,i4,i5,i6,hr.1,hr.2,hl.1,hl.2,hg.1,hg.2,hRT,hSelf,hres,go_sem,↓reduceIte]
  refine callR hr.1 hr.2 ?_
  rw[g2]
  rw[g3]
  exact h
 ·have g2:=G2eq (fun h=>hl.2 h.2)
  have g3:=G3eq (fun h=>hg h.1)
  simp (maxSteps:=1000000) (implicitDefEqProofs:=false) only[rest122,w1,i1,i2,i3,i4,i5,i6,hr.1,hr.2,hl.1,hl.2,hg,hRT,hSelf,hres,go_sem,↓reduceIte]
  refine callR hr.1 hr.2 ?_
  rw[g2]
  rw[g3]
  exact h
 ·have g2:=G2eq (fun h=>hl h.1)
  simp (maxSteps:=1000000) (implicitDefEqProofs:=false) only[rest122,w1,i1,i2,i3,i4,i5,i6,hr.1,hr.2,hl,hg.1,hg.2,hRT,hSelf,hres,go_sem,↓reduceIte]
  refine callR hr.1 hr.2 ?_
  rw[g2]
  refine callE hg.1 hg.2 ?_
  exact h
 ·have g2:=G2eq (fun h=>hl h.1)
  have g3:=G3eq (fun h=>hg.2 h.2)
  simp (maxSteps:=1000000) (implicitDefEqProofs:=false) only[rest122,w1,i1,i2,i3,i4,i5,i6,hr.1,hr.2,hl,hg.1,hg.2,hRT,hSelf,hres,go_sem,↓reduceIte]
  refine callR hr.1 hr.2 ?_
  rw[g2]
  rw[g3]
  exact h
 ·have g2:=G2eq (fun h=>hl h.1)
  have g3:=G3eq (fun h=>hg h.1)
  simp (maxSteps:=1000000) (implicitDefEqProofs:=false) only[rest122,w1,i1,i2,i3,i4,i5,i6,hr.1,hr.2,hl,hg,hRT,hSelf,hres,go_sem,↓reduceIte]
  refine callR hr.1 hr.2 ?_
  rw[g2]
  rw[g3]
  exact h
 ·have g1:=G1eq (fun h=>hr.2 h.2)
  simp (maxSteps:=1000000) (implicitDefEqProofs:=false) only[rest122,w1,i1,i2,i3,i4,i5,i6,hr.1,hr.2,hl.1,hl.2,hg.1,hg.2,hRT,hSelf,hres,go_sem,↓reduceIte]
  rw[←g1]
  refine callL hl.1 hl.2 ?_
  refine callE hg.1 hg.2 ?_
  exact h
 ·have g1:=G1eq (fun h=>hr.2 h.2)
  have g3:=G3eq (fun h=>hg.2 h.2)
  simp (maxSteps:=1000000) (implicitDefEqProofs:=false) only[rest122,w1,i1,i2,i3,i4,i5,i6,hr.1,hr.2,hl.1,hl.2,hg.1,hg.2,hRT,hSelf,hres,go_sem,↓reduceIte]
  rw[←g1]
  refine callL hl.1 hl.2 ?_
  rw[g3]
  exact h
 ·have g1:=G1eq (fun h=>hr.2 h.2)
  have g3:=G3eq (fun h=>hg h.1)
  simp (maxSteps:=1000000) (implicitDefEqProofs:=false) only[rest122,w1,i1,i2,i3,i4,i5,i6,hr.1,hr.2,hl.1,hl.2,hg,hRT,hSelf,hres,go_sem,↓reduceIte]
  rw[←g1]
  refine callL hl.1 hl.2 ?_
  rw[g3]
  exact h
 ·have g1:=G1eq (fun h=>hr.2 h.2)
  have g2:=G2eq (fun h=>hl.2 h.2)
  simp (maxSteps:=1000000) (implicitDefEqProofs:=false) only[rest122,w1,i1,i2,i3,i4,i5,i6,hr.1,hr.2,hl.1,hl.2,hg.1,hg.2,hRT,hSelf,hres,go_sem,↓reduceIte]
  rw[←g1]
  rw[g2]
  refine callE hg.1 hg.2 ?_
  exact h
 ·have g1:=G1eq (fun h=>hr.2 h.2)
  have g2:=G2eq (fun h=>hl.2 h.2)
  have g3:=G3eq (fun h=>hg.2 h.2)
  simp (maxSteps:=1000000) (implicitDefEqProofs:=false) only[rest122,w1,i1,i2,i3,i4,i5,i6,hr.1,hr.2,hl.1,hl.2,hg.1,hg.2,hRT,hSelf,hres,go_sem,↓reduceIte]
  rw[←g1]
  rw[g2]
  rw[g3]
  exact h
 ·have g1:=G1eq (fun h=>hr.2 h.2)
  have g2:=G2eq (fun h=>hl.2 h.2)
  have g3:=G3eq (fun h=>hg h.1)
  simp (maxSteps:=1000000) (implicitDefEqProofs:=false) only[rest122,w1,i1,i2,i3,i4,i5,i6,hr.1,hr.2,hl.1,hl.2,hg,hRT,hSelf,hres,go_sem,↓reduceIte]
  rw[←g1]
  rw[g2]
  rw[g3]
  exact h
 ·have g1:=G1eq (fun h=>hr.2 h.2)
  have g2:=G2eq (fun h=>hl h.1)
  simp (maxSteps:=1000000) (implicitDefEqProofs:=false) only[rest122,w1,i1,i2,i3,i4,i5,i6,hr.1,hr.2,hl,hg.1,hg.2,hRT,hSelf,hres,go_sem,↓reduceIte]
  rw[←g1]
  rw[g2]
  refine callE hg.1 hg.2 ?_
  exact h
 ·have g1:=G1eq (fun h=>hr.2 h.2)
  have g2:=G2eq (fun h=>hl h.1)
  have g3:=G3eq (fun h=>hg.2 h.2)
  simp (maxSteps:=1000000) (implicitDefEqProofs:=false) only[rest122,w1,i1,i2,i3,i4,i5,i6,hr.1,hr.2,hl,hg.1,hg.2,hRT,hSelf,hres,go_sem,↓reduceIte]
  rw[←g1]
  rw[g2]
  rw[g3]
  exact h
 ·have g1:=G1eq (fun h=>hr.2 h.2)
  have g2:=G2eq (fun h=>hl h.1)
  have g3:=G3eq (fun h=>hg h.1)
  simp (maxSteps:=1000000) (implicitDefEqProofs:=false) only[rest122,w1,i1,i2,i3,i4,i5,i6,hr.1,hr.2,hl,hg,hRT,hSelf,hres,go_sem,↓reduceIte]
  rw[←g1]
  rw[g2]
  rw[g3]
  exact h
 ·have g1:=G1eq (fun h=>hr h.1)
  simp (maxSteps:=1000000) (implicitDefEqProofs:=false) only[rest122,w1,i1,i2,i3,i4,i5,i6,hr,hl.1,hl.2,hg.1,hg.2,hRT,hSelf,hres,go_sem,↓reduceIte]
  rw[←g1]
  refine callL hl.1 hl.2 ?_
  refine callE hg.1 hg.2 ?_
  exact h
 ·have g1:=G1eq (fun h=>hr h.1)
  have g3:=G3eq (fun h=>hg.2 h.2)
  simp (maxSteps:=1000000) (implicitDefEqProofs:=false) only[rest122,w1,i1,i2,i3,i4,i5,i6,hr,hl.1,hl.2,hg.1,hg.2,hRT,hSelf,hres,go_sem,↓reduceIte]
  rw[←g1]
  refine callL hl.1 hl.2 ?_
  rw[g3]
  exact h
 ·have g1:=G1eq (fun h=>hr h.1)
  have g3:=G3eq (fun h=>hg h.1)
  simp (maxSteps:=1000000) (implicitDefEqProofs:=false) only[rest122,w1,i1,i2,i3,i4,i5,i6,hr,hl.1,hl.2,hg,hRT,hSelf,hres,go_sem,↓reduceIte]
  rw[←g1]
  refine callL hl.1 hl.2 ?_
  rw[g3]
  exact h
 ·have g1:=G1eq (fun h=>hr h.1)
  have g2:=G2eq (fun h=>hl.2 h.2)
  simp (maxSteps:=1000000) (implicitDefEqProofs:=false) only[rest122,w1,i1,i2,i3,i4,i5,i6,hr,hl.1,hl.2,hg.1,hg.2,hRT,hSelf,hres,go_sem,↓reduceIte]
  rw[←g1]
  rw[g2]
  refine callE hg.1 hg.2 ?_
  exact h
 ·have g1:=G1eq (fun h=>hr h.1)
  have g2:=G2eq (fun h=>hl.2 h.2)
  have g3:=G3eq (fun h=>hg.2 h.2)
  simp (maxSteps:=1000000) (implicitDefEqProofs:=false) only[rest122,w1,i1,i2,i3,i4,i5,i6,hr,hl.1,hl.2,hg.1,hg.2,hRT,hSelf,hres,go_sem,↓reduceIte]
  rw[←g1]
  rw[g2]
  rw[g3]
  exact h
 ·have g1:=G1eq (fun h=>hr h.1)
  have g2:=G2eq (fun h=>hl.2 h.2)
  have g3:=G3eq (fun h=>hg h.1)
  simp (maxSteps:=1000000) (implicitDefEqProofs:=false) only[rest122,w1,i1,i2,i3,i4,i5,i6,hr,hl.1,hl.2,hg,hRT,hSelf,hres,go_sem,↓reduceIte]
  rw[←g1]
  rw[g2]
  rw[g3]
  exact h
 ·have g1:=G1eq (fun h=>hr h.1)
  have g2:=G2eq (fun h=>hl h.1)
  simp (maxSteps:=1000000) (implicitDefEqProofs:=false) only[rest122,w1,i1,i2,i3,i4,i5,i6,hr,hl,hg.1,hg.2,hRT,hSelf,hres,go_sem,↓reduceIte]
  rw[←g1]
  rw[g2]
  refine callE hg.1 hg.2 ?_
  exact h
 ·have g1:=G1eq (fun h=>hr h.1)
  have g2:=G2eq (fun h=>hl h.1)
  have g3:=G3eq (fun h=>hg.2 h.2)
  simp (maxSteps:=1000000) (implicitDefEqProofs:=false) only[rest122,w1,i1,i2,i3,i4,i5,i6,hr,hl,hg.1,hg.2,hRT,hSelf,hres,go_sem,↓reduceIte]
  rw[←g1]
  rw[g2]
  rw[g3]
  exact h
 ·have g1:=G1eq (fun h=>hr h.1)
  have g2:=G2eq (fun h=>hl h.1)
  have g3:=G3eq (fun h=>hg h.1)
  simp (maxSteps:=1000000) (implicitDefEqProofs:=false) only[rest122,w1,i1,i2,i3,i4,i5,i6,hr,hl,hg,hRT,hSelf,hres,go_sem,↓reduceIte]
  rw[←g1]
  rw[g2]
  rw[g3]
  exact h
theorem walk122 {T:List (Nat×Spec1)} {kk:Nat} (hT:Sub T l) (hok:(T.all fun p=>calleeOk E.P p.1)=true) (hSelf:Abs.look l 122=some (ZSy T kk)) (hRT:Abs.look l 128=some ZRt) {id n c f:Nat} {a m b:Int} {caps:List V} (h:ZSy T (kk+1) [.sob id 101 0 n c,.int .i64 a,.int .i64 m,.int .i64 b,.fn f caps] G Q):
  Wf E (specOf l) pf122 [.sob id 101 0 n c,.int .i64 a,.int .i64 m,.int .i64 b,.fn f caps] G Q:=by
 obtain⟨P,A,B,S,key,pr,z,⟨hG,⟨rfl,rfl,rfl,hA0,hB0,hk⟩,⟨hbn,hnL,hn⟩,⟨uA,uB,hP⟩,hR,hf⟩,h⟩:=h
 have hnL':=hnL
 have hbn':=hbn
 simp only[List.length_append]at hnL' hbn'
 obtain⟨a,ha⟩:∃a,a=P.length:=⟨_,rfl⟩
 obtain⟨m,hm⟩:∃m,m=a+A.length:=⟨_,rfl⟩
 obtain⟨b,hb⟩:∃b,b=m+B.length:=⟨_,rfl⟩
 have em:(P++A).length=m:=by rw[List.length_append];omega
 have eb:(P++A++B).length=b:=by rw[List.length_append,List.length_append];omega
 rw[em,eb,←ha]
 have w1:IntKind.i64.wrap ((m:Int)-(a:Int))=(A.length:Int):=wc (by omega) (by omega)
 have w2:IntKind.i64.wrap ((b:Int)-(m:Int))=(B.length:Int):=wc (by omega) (by omega)
 by_cases hA1:A.length=1
 ·obtain⟨x,rfl⟩:∃x,A=[x]:=by
   match A,hA1 with
   |[x],_=>exact⟨x,rfl⟩
  have c1:(([x]:List V).length:Int)=1:=rfl
  have eL:P++[x]++B++S=P++x::(B++S):=by simp
  rw[eL]at hG hnL hP hR
  simp only[List.length_cons,List.length_nil]at hm
  simp (maxSteps:=1000000) (implicitDefEqProofs:=false) only[pf122,w1,c1,go_sem,↓reduceIte]
  refine⟨B.length+1,?_⟩
  simp (maxSteps:=1000000) (implicitDefEqProofs:=false) only[go_sem,↓reduceIte]
  refine bs4122 (a:=a) (z:=z) (A:=P) (B:=B) (S:=S) (x:=x) hT hok hf hG hn ha (by omega) hnL hP hR uB (fun p i j ts e1 e2 e3 e4 e5=> ?_) B.length 0 B.length m b (by omega) (by omega) (by omega) (by omega) (by omega) (fun y hy=>by simp at hy) (fun y hy=>by rw[List.drop_of_length_le (Nat.le_refl _)]at hy;cases hy)
  simp (maxSteps:=1000000) (implicitDefEqProofs:=false) only[go_sem,↓reduceIte]
  refine⟨p+1,?_⟩
  simp (maxSteps:=1000000) (implicitDefEqProofs:=false) only[go_sem,↓reduceIte]
  have eF:P++B.take p++x::(B.drop p++S)=P++srt key ([x]++B)++S:=by
   have:B.take p++x::B.drop p=srt key ([x]++B):=by
    have uu:Up key (B.take p++B.drop p):=by rw[List.take_append_drop];exact uB
    refine srt_of (up_append (up_init uu) (List.pairwise_cons.2 ⟨fun y hy=> ?_,(List.pairwise_append.1 uu).2.1⟩) fun u hu v hv=> ?_) fun k=> ?_
    ·have:=e5 y hy;omega
    ·rcases List.mem_cons.1 hv with rfl|hv
     ·have:=e4 u hu;omega
     ·exact (List.pairwise_append.1 uu).2.2 u hu v hv
    ·have e6:at_ key k B=at_ key k (B.take p)++at_ key k (B.drop p):=by rw[←at_append,List.take_append_drop]
     rw[at_append,at_append,e6,at_cons,at_cons,at_nil]
     split
     ·rename_i hx
      have:at_ key k (B.take p)=[]:=by
       apply List.eq_nil_iff_forall_not_mem.2
       intro y hy
       obtain⟨h2,h3⟩:=mem_at.1 hy
       have:=e4 y h2;omega
      rw[this];rfl
     ·rfl
   rw[←this];simp
  refine mv3122 (z:=z) (F:=P++srt key ([x]++B)++S) hG hn hnL (fun k ts=> ?_) p P (B.take p) (B.drop p++S) x a G (List.length_take_of_le e3) ?_ (by rw[←eF]) ha.symm (by omega) (by omega) ?_ ?_
  ·simp (maxSteps:=1000000) (implicitDefEqProofs:=false) only[go_sem,↓reduceIte]
   exact h
  ·rw[←List.append_assoc,List.take_append_drop,upd_self hG]
  ·rw[←List.append_assoc,List.take_append_drop];exact hR
  ·rw[←List.append_assoc,List.take_append_drop]
 ·by_cases hB1:B.length=1
  ·obtain⟨x,rfl⟩:∃x,B=[x]:=by
    match B,hB1 with
    |[x],_=>exact⟨x,rfl⟩
   have c0:¬((A.length:Int)=1):=by omega
   have c1:(([x]:List V).length:Int)=1:=rfl
   have eL:P++A++[x]++S=P++A++x::S:=by simp
   rw[eL]at hG hnL hP hR
   simp only[List.length_cons,List.length_nil]at hb
   simp (maxSteps:=1000000) (implicitDefEqProofs:=false) only[pf122,w1,w2,c0,c1,go_sem,↓reduceIte]
   refine⟨A.length+1,?_⟩
   simp (maxSteps:=1000000) (implicitDefEqProofs:=false) only[go_sem,↓reduceIte]
   refine bs2122 (a:=a) (z:=z) (P:=P) (A:=A) (S:=S) (x:=x) hT hok hf hG hn ha hm (by omega) hnL hP hR uA (fun p i j ts e1 e2 e3 e4 e5=> ?_) A.length 0 A.length a m (by omega) (by omega) (by omega) (by omega) (by omega) (fun y hy=>by simp at hy) (fun y hy=>by rw[List.drop_of_length_le (Nat.le_refl _)]at hy;cases hy)
   simp (maxSteps:=1000000) (implicitDefEqProofs:=false) only[go_sem,↓reduceIte]
   refine⟨A.length-p+1,?_⟩
   simp (maxSteps:=1000000) (implicitDefEqProofs:=false) only[go_sem,↓reduceIte]
   have eF:P++A.take p++x::(A.drop p++S)=P++srt key (A++[x])++S:=by
    have:A.take p++x::A.drop p=srt key (A++[x]):=srt_put (by rw[List.take_append_drop,srt_up uA]) (fun y hy=>by have:=e4 y hy;omega) e5
    rw[←this];simp
   have eM:P++A.take p++A.drop p++x::S=P++A++x::S:=by rw[List.append_assoc P,List.take_append_drop]
   refine mv1122 (z:=z) (F:=P++srt key (A++[x])++S) hG hn hnL (fun k ts=> ?_) (A.length-p) (P++A.take p) (A.drop p) S x m G (by rw[List.length_drop]) ?_ (by rw[←eF]) (by rw[List.length_append,List.length_take];omega) (by omega) (by omega) ?_ ?_
   ·simp (maxSteps:=1000000) (implicitDefEqProofs:=false) only[go_sem,↓reduceIte]
    exact h
   ·rw[eM,upd_self hG]
   ·rw[eM];exact hR
   ·rw[eM]
  ·have c0:¬((A.length:Int)=1):=by omega
   have c2:¬((B.length:Int)=1):=by omega
   obtain⟨mid,hmid⟩:∃mid,mid=(a+b) / 2:=⟨_,rfl⟩
   obtain⟨nn,hnn⟩:∃nn,nn=mid+m:=⟨_,rfl⟩
   obtain⟨p,hp⟩:∃p,p=nn-1:=⟨_,rfl⟩
   have v1:IntKind.i64.wrap ((a:Int)+(b:Int))=((a+b:Nat):Int):=wc (by omega) (by omega)
   have v2:=uwc (k:=a+b) (by omega)
   have v3:(((a+b:Nat):Int)).fdiv (2 ^ min 1 64)=(mid:Int):=by rw[half rfl,hmid]
   have v4:IntKind.i64.wrap (mid:Int)=(mid:Int):=wc rfl (by omega)
   have v5:IntKind.i64.wrap ((mid:Int)+(m:Int))=(nn:Int):=wc (by omega) (by omega)
   have v6:IntKind.i64.wrap ((nn:Int)-1)=(p:Int):=wc (by omega) (by omega)
   by_cases hmm:mid < m
   ·have c3:(m:Int) > (mid:Int):=by omega
    have v7:IntKind.i64.wrap ((nn:Int)-(b:Int))=((nn-b:Nat):Int):=wc (by omega) (by omega)
    simp (maxSteps:=1000000) (implicitDefEqProofs:=false) only[pf122,w1,w2,c0,c2,c3,v1,v2,v3,v4,v5,v6,v7,go_sem,↓reduceIte]
    refine⟨mid-(nn-b)+1,?_⟩
    simp (maxSteps:=1000000) (implicitDefEqProofs:=false) only[go_sem,↓reduceIte]
    refine bs0122 (a:=a) (m:=m) (b:=b) (mid:=mid) (nn:=nn) (p:=p) (s0:=nn-b) (r0:=mid) (z:=z) hT hok hf hG hn hnL hP hR (by omega) (fun c h1 h2=>by omega) (by omega) (fun s r ts e0 e1 e2 e3 e4=> ?_) (mid-(nn-b)) (nn-b) mid (by omega) (by omega) (by omega) (by omega) (fun h=>by omega) (fun h=>by omega)
    obtain⟨A1,A2,B1,B2,rfl,rfl,l1,l2,l3,l4,q1,q2,q3,q4,q5,he⟩:=sym_facts (key:=key) (P:=P) (A:=A) (B:=B) (S:=S) ha hm hb (by omega) (by omega) hmid hnn hp rfl (.inr ⟨rfl,rfl,hmm⟩) e1 e2 uA uB e3 e4
    rw[←he]at h
    simp (maxSteps:=1000000) (implicitDefEqProofs:=false) only[go_sem,↓reduceIte]
    exact restW122 (f0:=pf122) (e:=nn-s) hSelf hRT hf hG hn hnL (by omega) hP hR ha q1 q2 q3 q4 rfl (by omega) q5 (by omega) l1 l2 l3 l4 (by omega) (by omega) (up_init uA) (List.pairwise_append.1 uA).2.1 (up_init uB) (List.pairwise_append.1 uB).2.1 (by rfl) h
   ·have c3:¬(m:Int) > (mid:Int):=by omega
    simp (maxSteps:=1000000) (implicitDefEqProofs:=false) only[pf122,w1,w2,c0,c2,c3,v1,v2,v3,v4,v5,v6,go_sem,↓reduceIte]
    refine⟨m-a+1,?_⟩
    simp (maxSteps:=1000000) (implicitDefEqProofs:=false) only[go_sem,↓reduceIte]
    refine bs0122 (a:=a) (m:=m) (b:=b) (mid:=mid) (nn:=nn) (p:=p) (s0:=a) (r0:=m) (z:=z) hT hok hf hG hn hnL hP hR (by omega) (fun c h1 h2=>by omega) (by omega) (fun s r ts e0 e1 e2 e3 e4=> ?_) (m-a) a m (by omega) (by omega) (by omega) (by omega) (fun h=>by omega) (fun h=>by omega)
    obtain⟨A1,A2,B1,B2,rfl,rfl,l1,l2,l3,l4,q1,q2,q3,q4,q5,he⟩:=sym_facts (key:=key) (P:=P) (A:=A) (B:=B) (S:=S) ha hm hb (by omega) (by omega) hmid hnn hp rfl (.inl ⟨rfl,rfl,by omega⟩) e1 e2 uA uB e3 e4
    rw[←he]at h
    simp (maxSteps:=1000000) (implicitDefEqProofs:=false) only[go_sem,↓reduceIte]
    exact restW122 (f0:=pf122) (e:=nn-s) hSelf hRT hf hG hn hnL (by omega) hP hR ha q1 q2 q3 q4 rfl (by omega) q5 (by omega) l1 l2 l3 l4 (by omega) (by omega) (up_init uA) (List.pairwise_append.1 uA).2.1 (up_init uB) (List.pairwise_append.1 uB).2.1 (by rfl) h
end Go.Proofs.YtegamlopcdjiaaaDoor.Sha
