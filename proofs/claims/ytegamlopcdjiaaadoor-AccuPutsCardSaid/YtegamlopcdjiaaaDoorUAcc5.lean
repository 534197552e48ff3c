/- Rows, certificates, accumulations. -/
import Derived.Test.YtegamlopcdjiaaaDoorUAcc4
import Derived.Test.YtegamlopcdjiaaaDoorG10
namespace Go.Proofs.YtegamlopcdjiaaaDoor.Sha
open Go Go.Abs Go.Abs.Sha Go.Abs.Srt
set_option linter.unusedSimpArgs false
set_option linter.unusedVariables false
set_option maxRecDepth 100000
def pf9:PF:=
 PF.mk 0 5 40 ((PC.reg [nn (.v 0) (.mv true (.c (.v (.bool false))))]).seq ((PC.reg [nn (.t 5) (.build (.agg [.int .i64 0,.int .i64 0,.int .i64 0,
  .int .i64 0,.arr .u8 32 [0,0,0,0,0,0,0,0,0,0,0,0,0,0,0,0,0,0,0,0,0,0,0,0,0,0,0,0,0,0,0,0],.int .i64 0,.arr .u8 32
  [0,0,0,0,0,0,0,0,0,0,0,0,0,0,0,0,0,0,0,0,0,0,0,0,0,0,0,0,0,0,0,0],.arr .u8 32 [0,0,0,0,0,0,0,0,0,0,0,0,0,
  0,0,0,0,0,0,0,0,0,0,0,0,0,0,0,0,0,0,0]]) [(0,.c (.v (.int .i64 2))),(1,.c (.v (.int .i64 1))),(2,.c (.v (.int .i64 3))),(3,
  .c (.v (.int .i64 1))),(5,.c (.v (.int .i64 2)))]),nn (.v 1) (.alloc (.agg [.int .i64 0,.int .i64 0,.int .i64 0,.int .i64 0,.arr .u8 32 [0,0,
  0,0,0,0,0,0,0,0,0,0,0,0,0,0,0,0,0,0,0,0,0,0,0,0,0,0,0,0,0,0],.int .i64 0,.arr .u8 32 [0,0,0,0,0,0,0,0,0,0,0,
  0,0,0,0,0,0,0,0,0,0,0,0,0,0,0,0,0,0,0,0,0],.arr .u8 32 [0,0,0,0,0,0,0,0,0,0,0,0,0,0,0,0,0,0,0,0,0,0,0,0,
  0,0,0,0,0,0,0,0]])),nn .no (.store 101 (.v 1) (.t 5))]).seq ((PC.reg [nn (.t 6) (.build (.agg [.int .i64 0,.int .i64 0,.int .i64 0,.int
  .i64 0,.arr .u8 32 [0,0,0,0,0,0,0,0,0,0,0,0,0,0,0,0,0,0,0,0,0,0,0,0,0,0,0,0,0,0,0,0],.int .i64 0,.arr .u8 32 [0,0,
  0,0,0,0,0,0,0,0,0,0,0,0,0,0,0,0,0,0,0,0,0,0,0,0,0,0,0,0,0,0],.arr .u8 32 [0,0,0,0,0,0,0,0,0,0,0,0,0,0,0,
  0,0,0,0,0,0,0,0,0,0,0,0,0,0,0,0,0]]) [(0,.c (.v (.int .i64 1))),(1,.c (.v (.int .i64 1))),(2,.c (.v (.int .i64 3))),(3,.c (.v
  (.int .i64 1)))]),nn (.v 2) (.alloc (.agg [.int .i64 0,.int .i64 0,.int .i64 0,.int .i64 0,.arr .u8 32 [0,0,0,0,0,0,0,0,0,0,0,0,0,
  0,0,0,0,0,0,0,0,0,0,0,0,0,0,0,0,0,0,0],.int .i64 0,.arr .u8 32 [0,0,0,0,0,0,0,0,0,0,0,0,0,0,0,0,0,0,0,0,0,0,
  0,0,0,0,0,0,0,0,0,0],.arr .u8 32 [0,0,0,0,0,0,0,0,0,0,0,0,0,0,0,0,0,0,0,0,0,0,0,0,0,0,0,0,0,0,0,0]])),nn
  .no (.store 101 (.v 2) (.t 6))]).seq ((PC.regD 1 [nn (.t 8) (.load 101 true (.v 1)),nn (.t 9) (.call 43 [.t 8]),nn (.t 10) (.load 101 true (.v 2)),
  nn (.t 11) (.call 43 [.t 10]),nn (.t 12) (.buildS none 101 (.agg [.int .i64 0,.int .i64 0,.int .i64 0,.int .i64 0,.arr .u8 32 [0,0,0,0,0,0,
  0,0,0,0,0,0,0,0,0,0,0,0,0,0,0,0,0,0,0,0,0,0,0,0,0,0],.int .i64 0,.arr .u8 32 [0,0,0,0,0,0,0,0,0,0,0,0,0,0,0,
  0,0,0,0,0,0,0,0,0,0,0,0,0,0,0,0,0],.arr .u8 32 [0,0,0,0,0,0,0,0,0,0,0,0,0,0,0,0,0,0,0,0,0,0,0,0,0,0,0,0,
  0,0,0,0]]) 2 [(0,.t 9),(1,.t 11)]),nn (.t 13) (.call 42 [.c (.v (.int .i64 3)),.c (.v (.int .i64 3)),.c (.v (.int .i64 3)),.t 12]),nn (.t
  7) (.mv false (.t 13)),nn (.t 14) (.ext (.t 7) 0),nn (.t 15) (.ext (.t 7) 1),nn (.v 3) (.allocAt 1 (.agg [.int .i64 0,.int .i64 0,.int .i64 0,
  .arr .u8 32 [0,0,0,0,0,0,0,0,0,0,0,0,0,0,0,0,0,0,0,0,0,0,0,0,0,0,0,0,0,0,0,0],.nils,.arr .u8 32 [0,0,0,0,0,0,
  0,0,0,0,0,0,0,0,0,0,0,0,0,0,0,0,0,0,0,0,0,0,0,0,0,0]])),nn .no (.store 68 (.v 3) (.t 14)),ma 4 15] [(0,9),(2,9)]).seq
  ((PC.reg [mm 16 4,nn (.t 17) (.bin .eql (.t 16) (.c (.v (.int .i64 0)))),nn (.t 18) (.mv false (.t 17)),⟨.t 19,.fadr 2 2 (.v 3),some (.t 18,
  true)⟩,⟨.t 20,.load 1 false (.t 19),some (.t 18,true)⟩,⟨.t 21,.bin .eql (.t 20) (.c (.v (.int .i64 2))),some (.t 18,true)⟩,nn (.t 22) (.pick
  (.t 18) (.t 21) (.c (.v (.bool false)))),nn (.t 23) (.mv false (.t 22)),⟨.t 24,.load 68 true (.v 3),some (.t 23,true)⟩,⟨.t 25,.call 10 [.c (.v
  (.int .i64 3)),.t 24],some (.t 23,true)⟩,nn (.t 26) (.pick (.t 23) (.t 25) (.c (.v (.bool false)))),nn (.t 27) (.mv false (.t 26)),⟨.t 28,
  .fadr 4 35 (.v 3),some (.t 27,true)⟩,⟨.t 29,.load 1 false (.t 28),some (.t 27,true)⟩,⟨.t 30,.len (.t 29),some (.t 27,true)⟩,⟨.t 31,.bin
  .eql (.t 30) (.c (.v (.int .i64 2))),some (.t 27,true)⟩,nn (.t 32) (.pick (.t 27) (.t 31) (.c (.v (.bool false)))),nn (.t 33) (.mv false (.t
  32)),⟨.t 34,.fadr 4 35 (.v 3),some (.t 33,true)⟩,⟨.t 35,.load 1 false (.t 34),some (.t 33,true)⟩,⟨.t 36,.iadrS 1 (.t 35) (.c (.v (.int .i64
  0))),some (.t 33,true)⟩,⟨.t 37,.load 1 false (.t 36),some (.t 33,true)⟩,⟨.t 38,.bin .eql (.t 37) (.c (.v (.int .i64 1))),some (.t 33,
  true)⟩,nn (.t 39) (.pick (.t 33) (.t 38) (.c (.v (.bool false)))),ma 0 39]).seq PC.ret))))) [(.v 0,none)]
attribute [local irreducible] W Wops WopsD WL Wop WopD
variable {E:Env} {C:Abs.Spec} {l:List (Nat×Spec1)} {G:List (Nat×V)} {Q:R→List (Nat×V)→Prop}
set_option maxHeartbeats 1000000
theorem walk81 (hL:Abs.look l 91=some ZCn) (hS:Abs.look l 92=some (ZSf TT)) (hM:Abs.look l 95=some (ZCm TT)) {ll:List V} (h:ZFi [.sle 101 ll] G Q):Wf E (specOf l) pf81 [.sle 101 ll] G Q:=by
 obtain⟨as,n,⟨rfl,hw,hwho,hl⟩,h1,h2⟩:=h
 cases as with
 |nil=>
  simp (maxSteps:=1000000) (implicitDefEqProofs:=false) only[pf81,hL,ZCn_eq,List.map_nil,go_sem,↓reduceIte]
  refine⟨(fun x hx=>by cases hx),?_⟩
  simp (maxSteps:=1000000) (implicitDefEqProofs:=false) only[hS,ZSf_nil,hM,ZCm_nil,go_sem,↓reduceIte]
  exact h1 rfl
 |cons a as=>
  have hlen:as.length+1≤39:=hl
  simp (maxSteps:=1000000) (implicitDefEqProofs:=false) only[pf81,hL,ZCn_eq,go_sem,↓reduceIte]
  refine⟨⟨fun x hx=>((rowOk_atts (as:=a::as)).all x hx).1,by rw[List.length_map];omega⟩,.inr fun i3 c hi3 hc=> ?_⟩
  rw[List.length_map]at hc
  rw[List.length_map,show ∀k,a.v::(as.map AttS.v++List.replicate k (.agg [.int .i64 0,.int .i64 0,.int .i64 0,.int .i64 0,.arr .u8 32 [0,0,0,0,0,0,0,0,0,0,0,0,0,0,0,0,0,0,0,0,0,0,0,0,0,0,0,0,0,0,0,0],.int .i64 0,.arr .u8 32 [0,0,0,0,0,0,0,0,0,0,0,0,0,0,0,0,0,0,0,0,0,0,0,0,0,0,0,0,0,0,0,0],.arr .u8 32 [0,0,0,0,0,0,0,0,0,0,0,0,0,0,0,0,0,0,0,0,0,0,0,0,0,0,0,0,0,0,0,0]]))=(a::as).map AttS.v++(List.replicate k AttS.zero).map AttS.v from fun k=>by rw[List.map_replicate];rfl]
  generalize hZ:List.replicate (c-(as.length+1)) AttS.zero=Z
  have hZl:(a::as).length+Z.length=c:=by rw[←hZ];simp;omega
  have hZw:∀x∈a::as++Z,x.wf:=fun x hx=>by
   rcases List.mem_append.1 hx with hx|hx
   ·exact hw x hx
   ·rw[←hZ]at hx;rw[List.eq_of_mem_replicate hx];exact AttS.zero_wf
  have g3:Abs.look ((i3,V.agg ((a::as).map AttS.v++Z.map AttS.v))::G) i3=some (.agg ((a::as).map AttS.v++Z.map AttS.v)):=by rw[look_cons,if_pos rfl]
  have hu:∀y,Abs.upd ((i3,V.agg ((a::as).map AttS.v++Z.map AttS.v))::G) i3 y=(i3,y)::G:=fun y=>upd_cons_same
  generalize ((i3,V.agg ((a::as).map AttS.v++Z.map AttS.v))::G)=G2 at g3 hu⊢
  simp (maxSteps:=1000000) (implicitDefEqProofs:=false) only[hS,ZSf_eq,go_sem,↓reduceIte]
  refine⟨(a::as).map AttS.v,Z.map AttS.v,keyBy,IsAtt,AttS.zero.v,⟨g3,⟨by simp,by simp;omega⟩,?_,?_,key_accu⟩,?_⟩
  ·rw[←List.map_append];exact isAtt_map hZw
  ·rw[←List.map_append];exact rowOk_atts
  have g4:=look_upd_same (z:=V.agg (srt keyBy ((a::as).map AttS.v)++Z.map AttS.v)) g3
  have hm:∀x∈srt keyBy ((a::as).map AttS.v)++Z.map AttS.v,x∈(a::as++Z).map AttS.v:=fun x hx=>by
   rw[List.map_append]
   rcases List.mem_append.1 hx with hx|hx
   ·exact List.mem_append.2 (.inl (mem_srt.1 hx))
   ·exact List.mem_append.2 (.inr hx)
  simp (maxSteps:=1000000) (implicitDefEqProofs:=false) only[hM,ZCm_eq,go_sem,↓reduceIte]
  refine⟨srt keyBy ((a::as).map AttS.v),Z.map AttS.v,keyBy,IsAtt,⟨g4,⟨by rw[srt_length];simp,by simp at hZl;omega,by omega⟩,fun y hy=>isAtt_map hZw y (hm y hy),rowOk_atts.mem hm,eq_accu⟩,?_⟩
  rw[cpt_atts hwho,hu]
  have h2:=h2 (by simp) i3 c (List.replicate ((a::as).length-(firstsA n (a::as)).length) (.agg [.int .i64 0,.int .i64 0,.int .i64 0,.int .i64 0,.arr .u8 32 [0,0,0,0,0,0,0,0,0,0,0,0,0,0,0,0,0,0,0,0,0,0,0,0,0,0,0,0,0,0,0,0],.int .i64 0,.arr .u8 32 [0,0,0,0,0,0,0,0,0,0,0,0,0,0,0,0,0,0,0,0,0,0,0,0,0,0,0,0,0,0,0,0],.arr .u8 32 [0,0,0,0,0,0,0,0,0,0,0,0,0,0,0,0,0,0,0,0,0,0,0,0,0,0,0,0,0,0,0,0]])++Z.map AttS.v) hi3
  have hfl:(firstsA n (a::as)).length≤as.length+1:=by
   have:=cpt_length (key:=keyBy) (l:=srt keyBy ((a::as).map AttS.v))
   rw[cpt_atts hwho,srt_length]at this;simpa using this
  have h2:=h2 (by simp at hZl;omega) (by simp at hZl⊢;omega) (fun x hx=>by
   rcases List.mem_append.1 hx with hx|hx
   ·rw[List.eq_of_mem_replicate hx];rfl
   ·exact (rowOk_atts.all x hx).1)
  rw[List.length_map]
  first|exact h2|(simp only[List.append_assoc]at h2⊢;exact h2)
def att10 (k p:Int):AttS:=⟨k,1,3,1,zero32,p,zero32,zero32⟩
theorem may10:(att10 2 2).may=true∧(att10 1 0).may=true:=⟨by decide,by decide⟩
theorem aw_accu {kt:List Int}:(mkAccu kt 3 3 3 [(att10 2 2).signed kt,(att10 1 0).signed kt]).2=0∧(mkAccu kt 3 3 3 [(att10 2 2).signed kt,(att10 1 0).signed kt]).1.pv=2∧(mkAccu kt 3 3 3 [(att10 2 2).signed kt,(att10 1 0).signed kt]).1.fr=[1,2]:=by
 have q:quo 3=2:=by decide
 have n0:¬((2:Int)=0∨(3:Int) < 1∨(3:Int) < 3∨(3:Int) < 1∨(1099511627776:Int) < 3):=by decide
 have c1:([(att10 2 2).signed kt,(att10 1 0).signed kt].any (badA kt 3 3))=false:=by
  unfold badA
  simp only[List.any_cons,List.any_nil,right_signed,may10.1,may10.2];rfl
 have c3:¬((firstsA 3 [(att10 2 2).signed kt,(att10 1 0).signed kt]).length:Int) < 2:=by
  show ¬((2:Nat):Int) < 2
  decide
 unfold mkAccu
 simp only[q,c1,c3,if_neg n0,Bool.false_eq_true,↓reduceIte]
 exact⟨trivial,rfl,rfl⟩
def ZAx:Spec1
 |[],G,Q=>Q (.v (.bool true)) G
 |_,_,_=>False
theorem ZAx_eq:ZAx [] G Q=Q (.v (.bool true)) G:=rfl
theorem walk9 (hS:Abs.look l 43=some (SSi K256)) (hM:Abs.look l 42=some (ZAm K256)) (hR:Abs.look l 10=some (ZRa K256)) (h:Q (.v (.bool true)) G):Wf E (specOf l) pf9 [] G Q:=by
 simp (maxSteps:=1000000) (implicitDefEqProofs:=false) only[pf9,hS,SSi_eq,go_sem,↓reduceIte]
 have s2:(AttS.sign K256 ⟨2,1,3,1,[0,0,0,0,0,0,0,0,0,0,0,0,0,0,0,0,0,0,0,0,0,0,0,0,0,0,0,0,0,0,0,0],2,[0,0,0,0,0,0,0,0,0,0,0,0,0,0,0,0,0,0,0,0,0,0,0,0,0,0,0,0,0,0,0,0],[0,0,0,0,0,0,0,0,0,0,0,0,0,0,0,0,0,0,0,0,0,0,0,0,0,0,0,0,0,0,0,0]⟩).v= .agg [.int .i64 2,.int .i64 1,.int .i64 3,.int .i64 1,.arr .u8 32 [0,0,0,0,0,0,0,0,0,0,0,0,0,0,0,0,0,0,0,0,0,0,0,0,0,0,0,0,0,0,0,0],.int .i64 2,.arr .u8 32 [0,0,0,0,0,0,0,0,0,0,0,0,0,0,0,0,0,0,0,0,0,0,0,0,0,0,0,0,0,0,0,0],.arr .u8 32 ((att10 2 2).tag K256)]:=by
  show (AttS.sign K256 (att10 2 2)).v=_
  unfold AttS.sign;rw[if_pos may10.1];rfl
 have s1:(AttS.sign K256 ⟨1,1,3,1,[0,0,0,0,0,0,0,0,0,0,0,0,0,0,0,0,0,0,0,0,0,0,0,0,0,0,0,0,0,0,0,0],0,[0,0,0,0,0,0,0,0,0,0,0,0,0,0,0,0,0,0,0,0,0,0,0,0,0,0,0,0,0,0,0,0],[0,0,0,0,0,0,0,0,0,0,0,0,0,0,0,0,0,0,0,0,0,0,0,0,0,0,0,0,0,0,0,0]⟩).v= .agg [.int .i64 1,.int .i64 1,.int .i64 3,.int .i64 1,.arr .u8 32 [0,0,0,0,0,0,0,0,0,0,0,0,0,0,0,0,0,0,0,0,0,0,0,0,0,0,0,0,0,0,0,0],.int .i64 0,.arr .u8 32 [0,0,0,0,0,0,0,0,0,0,0,0,0,0,0,0,0,0,0,0,0,0,0,0,0,0,0,0,0,0,0,0],.arr .u8 32 ((att10 1 0).tag K256)]:=by
  show (AttS.sign K256 (att10 1 0)).v=_
  unfold AttS.sign;rw[if_pos may10.2];rfl
 have wz:∀k p,I64 k→I64 p→(att10 k p).wf:=fun k p hk hp=>⟨hk,(by decide:I64 1),(by decide:I64 3),(by decide:I64 1),hp,h32_zero,h32_zero,h32_zero⟩
 refine⟨wz 2 2 (by decide) (by decide),wz 1 0 (by decide) (by decide),?_⟩
 simp (maxSteps:=1000000) (implicitDefEqProofs:=false) only[s1,s2,hM,ZAm_eq,go_sem,↓reduceIte]
 refine⟨[(att10 2 2).signed K256,(att10 1 0).signed K256],⟨rfl,by decide,by decide,by decide,fun a ha=> ?_,by decide⟩,?_⟩
 ·rcases List.mem_cons.1 ha with rfl|ha
  ·exact AttS.signed_wf (wz 2 2 (by decide) (by decide))
  ·rw[List.mem_singleton]at ha;subst ha;exact AttS.signed_wf (wz 1 0 (by decide) (by decide))
 obtain⟨e1,e2,e3⟩:=aw_accu (kt:=K256)
 obtain⟨fs,hok⟩:=mk_okA e1
 have hwf:=mk_wfA (kt:=K256) (by_:=3) (n:=3) (view:=3) (l:=[(att10 2 2).signed K256,(att10 1 0).signed K256]) (fun a ha=>by
  rcases List.mem_cons.1 ha with rfl|ha
  ·exact AttS.signed_wf (wz 2 2 (by decide) (by decide))
  ·rw[List.mem_singleton]at ha;subst ha;exact AttS.signed_wf (wz 1 0 (by decide) (by decide))) (by decide) (by decide)
 have hright:=hok.right
 clear hok
 generalize mkAccu K256 3 3 3 [(att10 2 2).signed K256,(att10 1 0).signed K256]=ce at*
 obtain⟨c,e⟩:=ce
 dsimp only at*
 subst e1
 obtain⟨w,vi,pv,ph,fr,ta⟩:=c
 dsimp only at e2 e3
 subst e2
 subst e3
 simp (maxSteps:=1000000) (implicitDefEqProofs:=false) only[AccS.v,hR,ZRa_eq,go_sem,↓reduceIte]
 refine⟨⟨w,vi,2,ph,[1,2],ta⟩,⟨rfl,hwf.1,by show (2:Nat) < 1000000;decide,by decide⟩,?_⟩
 rw[hright]
 simp (maxSteps:=1000000) (implicitDefEqProofs:=false) only[go_sem,↓reduceIte]
 exact h
end Go.Proofs.YtegamlopcdjiaaaDoor.Sha
