/- Laws over plain values, and what functions of the program hand back; no conditions. -/
import Derived.Test.YtjbglbhcbenhpaaDoorG10
namespace Go.Proofs.YtjbglbhcbenhpaaDoor.Sha
open Go Go.Abs Go.Abs.Sha
set_option linter.unusedSimpArgs false
set_option linter.unusedVariables false
set_option maxRecDepth 100000
def pf14:PF:=
 PF.mk 2 5 43 ((PC.reg [nn (.v 3) (.box (.v 1)),nn (.v 4) (.mv true (.c (.v (.bool false))))]).seq ((PC.regD 0 [mm 5 0,nn (.t 6) (.binP .neq (.t 5)
  (.c (.v .nilp))),nn (.t 7) (.mv false (.t 6)),gm 8 0 7 true,⟨.t 9,.call 20 [.t 8],some (.t 7,true)⟩,⟨.t 10,.fadr 4 5 (.v 3),some (.t 7,
  true)⟩,⟨.t 11,.load 1 false (.t 10),some (.t 7,true)⟩,⟨.t 12,.binB .eql (.t 9) (.t 11),some (.t 7,true)⟩,nn (.t 13) (.pick (.t 7) (.t 12)
  (.c (.v (.bool false)))),nn (.t 14) (.mv false (.t 13)),gm 15 0 14 true,⟨.t 16,.call 24 [.t 15],some (.t 14,true)⟩,⟨.t 17,.fadr 2 3 (.v 3),
  some (.t 14,true)⟩,⟨.t 18,.load 1 false (.t 17),some (.t 14,true)⟩,⟨.t 19,.bin .eql (.t 16) (.t 18),some (.t 14,true)⟩,nn (.t 20) (.pick
  (.t 14) (.t 19) (.c (.v (.bool false)))),nn (.t 21) (.mv false (.t 20)),gm 22 0 21 true,⟨.t 23,.call 23 [.t 22,.c (.v (.int .i64 0))],some (.t
  21,true)⟩,⟨.t 24,.fadr 1 1 (.v 3),some (.t 21,true)⟩,⟨.t 25,.iadrG 2 1 (.t 24) (.c (.v (.int .i64 0))),some (.t 21,true)⟩,⟨.t 26,.load 1
  false (.t 25),some (.t 21,true)⟩,⟨.t 27,.call 41 [.t 23,.t 26],some (.t 21,true)⟩,nn (.t 28) (.pick (.t 21) (.t 27) (.c (.v (.bool false)))),
  nn (.t 29) (.mv false (.t 28)),gm 30 0 29 true,⟨.t 31,.call 23 [.t 30,.c (.v (.int .i64 1))],some (.t 29,true)⟩,⟨.t 32,.fadr 1 1 (.v 3),some
  (.t 29,true)⟩,⟨.t 33,.iadrG 2 1 (.t 32) (.c (.v (.int .i64 1))),some (.t 29,true)⟩,⟨.t 34,.load 1 false (.t 33),some (.t 29,true)⟩,⟨.t 35,
  .call 41 [.t 31,.t 34],some (.t 29,true)⟩,nn (.t 36) (.pick (.t 29) (.t 35) (.c (.v (.bool false)))),nn (.t 37) (.mv false (.t 36)),gm 38 0 37
  true,⟨.t 39,.call 23 [.t 38,.c (.v (.int .i64 2))],some (.t 37,true)⟩,⟨.t 40,.len (.t 39),some (.t 37,true)⟩,⟨.t 41,.bin .eql (.t 40) (.c
  (.v (.int .i64 0))),some (.t 37,true)⟩,nn (.t 42) (.pick (.t 37) (.t 41) (.c (.v (.bool false)))),ma 4 42] []).seq PC.ret)) [(.v 4,none)]
def pf13:PF:=
 PF.mk 4 20 145 ((PC.reg [nn (.v 5) (.box (.v 1)),nn (.v 6) (.box (.v 2)),nn (.v 8) (.alloc (.agg [.int .i64 0,.agg [.nils,.nils],.int .i64 0,.int
  .i64 0,.bool false,.nils,.int .i64 0])),nn (.v 9) (.mv true (.c (.v (.bool false))))]).seq (((PC.reg [nn (.v 18) (.fadr 0 0 (.v 6)),nn (.v 19)
  (.load 1 false (.v 18))]).seq (PC.block 0 ((PC.reg [nn (.t 21) (.bin .eql (.v 19) (.c (.v (.int .i64 0)))),nn (.t 20) (.mv true (.t 21))]).seq
  (PC.cond (.t 20) ((PC.reg [nn (.t 23) (.load 8 true (.v 5)),nn (.t 24) (.fadr 1 1 (.v 6)),nn (.t 25) (.load 35 true (.t 24)),nn (.t 26) (.call 38
  [.t 23,.t 25]),nn (.t 22) (.mv false (.t 26)),nn (.t 27) (.ext (.t 22) 0),nn (.t 28) (.ext (.t 22) 1),nn (.v 10) (.alloc (.agg [.int .i64 0,
  .agg [.nils,.nils],.int .i64 0,.int .i64 0,.bool false,.nils,.int .i64 0])),nn .no (.store 8 (.v 10) (.t 27)),ma 11 28]).seq ((PC.regW 0 [(0,
  nn (.t 29) (.load 8 true (.v 10))),(1,mm 30 0),(2,nn (.t 31) (.fadr 1 1 (.v 6))),(3,nn (.t 32) (.load 35 true (.t 31))),(5,mm 34 11),(4,nn
  (.t 33) (.callW 15 [.t 30,.t 32])),(6,nn (.t 35) (.bin .eql (.t 33) (.t 34))),(7,nn .no (.store 8 (.v 8) (.t 29))),(8,ma 9 35)] [(0,4)]).seq
  PC.ret)) ((PC.reg [nn (.t 37) (.bin .eql (.v 19) (.c (.v (.int .i64 1)))),nn (.t 36) (.mv true (.t 37))]).seq (PC.cond (.t 36) ((PC.reg [nn (.t 39)
  (.load 8 true (.v 5)),nn (.t 40) (.call 39 [.t 39]),nn (.t 38) (.mv false (.t 40)),nn (.t 41) (.ext (.t 38) 0),nn (.t 42) (.ext (.t 38) 1),nn
  (.v 12) (.alloc (.agg [.int .i64 0,.int .i64 0,.int .i64 0,.arr .u8 32 [0,0,0,0,0,0,0,0,0,0,0,0,0,0,0,0,0,0,0,0,0,0,0,0,0,
  0,0,0,0,0,0,0]])),nn .no (.store 35 (.v 12) (.t 41)),ma 13 42]).seq ((PC.reg [mm 44 0,nn (.t 45) (.call 19 [.t 44]),nn (.t 43) (.mv false
  (.t 45)),nn (.t 46) (.ext (.t 43) 0),nn (.t 47) (.ext (.t 43) 1),nn (.v 14) (.alloc (.agg [.int .i64 0,.int .i64 0,.int .i64 0,.arr .u8 32 [0,
  0,0,0,0,0,0,0,0,0,0,0,0,0,0,0,0,0,0,0,0,0,0,0,0,0,0,0,0,0,0,0]])),nn .no (.store 35 (.v 14) (.t 46)),ma 15 47]).seq
  ((PC.regD 0 [nn (.t 48) (.load 8 true (.v 5)),nn (.t 49) (.load 35 true (.v 12)),nn (.t 50) (.load 35 true (.v 14)),nn (.t 51) (.eqa false (.agg
  (.cons 0 1 false .int (.cons 1 1 false .int (.cons 2 1 false .int (.cons 3 32 true (.arr 32) .nil))))) (.t 49) (.t 50)),nn (.t 52) (.mv false (.t
  51)),gm 53 13 52 true,gm 54 15 52 true,⟨.t 55,.bin .eql (.t 53) (.t 54),some (.t 52,true)⟩,nn (.t 56) (.pick (.t 52) (.t 55) (.c (.v (.bool
  false)))),nn .no (.store 8 (.v 8) (.t 48)),ma 9 56] []).seq PC.ret))) (((PC.reg [nn (.t 58) (.bin .eql (.v 19) (.c (.v (.int .i64 2)))),nn (.t 57)
  (.mv true (.t 58))]).seq (PC.cond (.t 57) PC.skip (PC.reg [nn (.t 59) (.bin .eql (.v 19) (.c (.v (.int .i64 3)))),nn (.t 57) (.mv true (.t
  59))]))).seq (PC.cond (.t 57) ((PC.reg [nn (.t 60) (.fadr 5 39 (.v 6)),nn (.t 61) (.load 1 false (.t 60)),ma 16 61]).seq (((PC.reg [nn (.t 62)
  (.fadr 0 0 (.v 6)),nn (.t 63) (.load 1 false (.t 62)),nn (.t 64) (.bin .eql (.t 63) (.c (.v (.int .i64 3)))),nn (.t 65) (.mv false (.t 64)),⟨.t
  66,.fadr 4 38 (.v 6),some (.t 65,true)⟩,⟨.t 67,.load 1 false (.t 66),some (.t 65,true)⟩,⟨.t 68,.bin .geq (.t 67) (.c (.v (.int .i64 0))),
  some (.t 65,true)⟩,nn (.t 69) (.pick (.t 65) (.t 68) (.c (.v (.bool false)))),nn (.t 70) (.mv false (.t 69)),⟨.t 71,.fadr 4 38 (.v 6),some (.t
  70,true)⟩,⟨.t 72,.load 1 false (.t 71),some (.t 70,true)⟩,gm 73 3 70 true,⟨.t 74,.len (.t 73),some (.t 70,true)⟩,⟨.t 75,.bin .lss (.t 72)
  (.t 74),some (.t 70,true)⟩,nn (.t 76) (.pick (.t 70) (.t 75) (.c (.v (.bool false))))]).seq (PC.cond (.t 76) (PC.regD 0 [mm 77 3,nn (.t 78)
  (.fadr 4 38 (.v 6)),nn (.t 79) (.load 1 false (.t 78)),nn (.t 80) (.fadr 3 37 (.v 6)),nn (.t 81) (.load 1 false (.t 80)),nn (.t 82) (.bin .rem
  (.t 81) (.c (.v (.int .i64 2)))),nn (.t 83) (.bin .add (.t 82) (.c (.v (.int .i64 2)))),nn (.t 84) (.bin .rem (.t 83) (.c (.v (.int .i64 2)))),nn
  (.t 85) (.iadrS 2 (.t 77) (.t 79)),nn (.t 86) (.iadrG 2 1 (.t 85) (.t 84)),nn (.t 87) (.load 1 false (.t 86)),ma 16 87] []) PC.skip)).seq
  ((PC.regW 0 [(0,mm 88 0),(1,nn (.t 89) (.fadr 2 36 (.v 6))),(2,nn (.t 90) (.load 1 false (.t 89))),(3,nn (.t 91) (.buildS (some .u8) 1 (.int
  .u8 0) 0 [])),(4,mm 92 16),(5,nn (.t 93) (.app (some .u8) 1 1 (.t 91) (.t 92))),(6,nn (.t 94) (.callW 21 [.t 88,.t 90,.t 93])),(7,ma 17
  94)] []).seq (((PC.reg [nn (.t 95) (.fadr 2 36 (.v 6)),nn (.t 96) (.load 1 false (.t 95)),nn (.t 97) (.bin .lss (.t 96) (.c (.v (.int .i64 0)))),
  nn (.t 98) (.mv false (.t 97)),⟨.t 99,.fadr 2 36 (.v 6),some (.t 98,false)⟩,⟨.t 100,.load 1 false (.t 99),some (.t 98,false)⟩,⟨.t 101,.bin
  .gtr (.t 100) (.c (.v (.int .i64 1))),some (.t 98,false)⟩,nn (.t 102) (.pick (.t 98) (.c (.v (.bool true))) (.t 101)),nn (.t 103) (.mv false (.t
  102)),gm 104 16 103 false,⟨.t 105,.len (.t 104),some (.t 103,false)⟩,⟨.t 106,.bin .gtr (.t 105) (.c (.v (.int .i64 1000))),some (.t 103,
  false)⟩,nn (.t 107) (.pick (.t 103) (.c (.v (.bool true))) (.t 106))]).seq (PC.cond (.t 107) ((PC.reg [nn (.t 108) (.load 8 true (.v 5)),mm 109 17,
  nn (.t 110) (.bin .eql (.t 109) (.c (.v (.int .i64 1)))),nn .no (.store 8 (.v 8) (.t 108)),ma 9 110]).seq PC.ret) PC.skip)).seq ((PC.regD 0 [nn (.t
  111) (.fadr 2 36 (.v 6)),nn (.t 112) (.load 1 false (.t 111)),nn (.t 113) (.buildS (some .u8) 1 (.int .u8 0) 0 []),mm 114 16,nn (.t 115) (.app
  (some .u8) 1 1 (.t 113) (.t 114)),nn (.t 116) (.fadr 1 1 (.v 5)),nn (.t 117) (.iadrG 2 1 (.t 116) (.t 112)),nn .no (.store 1 (.t 117) (.t 115))]
  []).seq ((PC.reg [nn (.t 118) (.load 8 true (.v 5)),mm 119 17,nn (.t 120) (.bin .eql (.t 119) (.c (.v (.int .i64 0)))),nn .no (.store 8 (.v 8) (.t
  118)),ma 9 120]).seq PC.ret)))))) ((PC.reg [nn (.t 122) (.bin .eql (.v 19) (.c (.v (.int .i64 4)))),nn (.t 121) (.mv true (.t 122))]).seq (PC.cond
  (.t 121) ((PC.reg [mm 123 0,nn (.t 124) (.fadr 2 36 (.v 6)),nn (.t 125) (.load 1 false (.t 124)),nn (.t 126) (.call 17 [.t 123,.t 125])]).seq
  ((PC.reg [nn (.t 127) (.fadr 2 36 (.v 6)),nn (.t 128) (.load 1 false (.t 127)),nn (.t 129) (.fadr 3 4 (.v 5)),nn .no (.store 1 (.t 129) (.t
  128))]).seq ((PC.reg [nn (.t 130) (.fadr 2 36 (.v 6)),nn (.t 131) (.load 1 false (.t 130)),nn (.t 132) (.bin .lss (.t 131) (.c (.v (.int .i64
  0))))]).seq (PC.cond (.t 132) (PC.reg [nn (.t 133) (.fadr 3 4 (.v 5)),nn .no (.store 1 (.t 133) (.c (.v (.int .i64 ((-1))))))]) PC.skip)))) ((PC.reg
  [nn (.t 135) (.bin .eql (.v 19) (.c (.v (.int .i64 5)))),nn (.t 134) (.mv true (.t 135))]).seq (PC.cond (.t 134) ((PC.reg [mm 136 0,nn (.t 137)
  (.fadr 2 36 (.v 6)),nn (.t 138) (.load 1 false (.t 137)),nn (.t 139) (.call 18 [.t 136,.t 138])]).seq ((PC.reg [nn (.t 140) (.load 8 true (.v 5)),
  nn (.t 141) (.fadr 2 36 (.v 6)),nn (.t 142) (.load 1 false (.t 141)),nn (.t 143) (.call 40 [.t 140,.t 142]),nn .no (.store 8 (.v 8) (.t 143)),nn
  (.v 9) (.mv true (.c (.v (.bool true))))]).seq PC.ret)) PC.skip)))))))))))).seq ((PC.reg [nn (.t 144) (.load 8 true (.v 5)),nn .no (.store 8 (.v 8)
  (.t 144)),nn (.v 9) (.mv true (.c (.v (.bool true))))]).seq PC.ret))) [(.v 8,some (8,true)),(.v 9,none)]
attribute [local irreducible] W Wops WopsD WL Wop WopD
variable {E:Env} {C:Abs.Spec} {l:List (Nat×Spec1)} {G:List (Nat×V)} {Q:R→List (Nat×V)→Prop}
set_option maxHeartbeats 1000000
def SNew2:Spec1
 |[.int .i64 i,.int .i64 n],G,Q=>SNew [.int .i64 i,.int .i64 n] G Q∨(¬(okC n∧1≤i∧i≤21)∧∀G',Ext G G'→Q (.tup [.nilp,.int .i64 1]) G')
 |_,_,_=>False
theorem SNew2_eq {i n}:SNew2 [.int .i64 i,.int .i64 n] G Q=(SNew [.int .i64 i,.int .i64 n] G Q∨(¬(okC n∧1≤i∧i≤21)∧∀G',Ext G G'→Q (.tup [.nilp,.int .i64 1]) G')):=rfl
theorem detSNew2:SNew2.Det:=by
 intro vs G Q h
 unfold SNew2 at h
 split at h
 ·rcases h with h|⟨_,h⟩
  ·obtain⟨hp,h⟩:=h
   obtain⟨c,hc⟩:=fresh_id _
   obtain⟨id,hid⟩:=fresh_id _
   have e:=congrArg List.length (h c hc id hid).1
   simp only[List.length_cons]at e
   omega
  ·obtain⟨id,hid⟩:=fresh_id _
   have e:=congrArg List.length (h ((id,.nilp)::_) (Ext.cons hid)).1
   simp only[List.length_cons]at e
   omega
 ·exact h.elim
theorem walk311 {i n:Int} (h1:Abs.look l 36=some S26) (h2:Abs.look l 37=some SNo) (hh:SNew2 [.int .i64 i,.int .i64 n] G Q):Wf E (specOf l) pf11 [.int .i64 i,.int .i64 n] G Q:=by
 rcases hh with⟨⟨hn,hi⟩,h⟩|⟨hc,h⟩
 ·exact walk11 h1 h2 hn hi h
 ·by_cases hn:okC n
  ·have hi:¬(1≤i∧i≤21):=fun c=>hc ⟨hn,c⟩
   have hb:(decide (1≤i)&&decide (i≤21))=false:=by
    rw[Bool.and_eq_false_iff,decide_eq_false_iff_not,decide_eq_false_iff_not];omega
   simp (maxSteps:=1000000) (implicitDefEqProofs:=false) only[pf11,h1,S26_eq,h2,SNo_eq,hi,hb,go_sem,↓reduceIte]
   first|exact⟨fun _ id hid=>h _ (Ext.cons hid),fun c=>absurd hn c⟩|(trace_state;sorry)
  ·simp (maxSteps:=1000000) (implicitDefEqProofs:=false) only[pf11,h1,S26_eq,h2,SNo_eq,go_sem,↓reduceIte]
   exact⟨fun c=>absurd c hn,fun _=>h G (Ext.refl G)⟩
theorem walk310 (h1:Abs.look l 11=some SNew2) (h2:Abs.look l 15=some (SKp3 K256)) (h3:Abs.look l 23=some SSlo2) (h4:Abs.look l 19=some (SLd2 K256))
  (h5:Abs.look l 21=some SSw2) (h6:Abs.look l 24=some SVat) (h:∀G',Q (.v (.bool true)) G'):Wf E (specOf l) pf10 [] G Q:=by
 simp (maxSteps:=1000000) (implicitDefEqProofs:=false) only[pf10,h1,go_sem,↓reduceIte]
 rw[SNew2_eq]
 refine .inl ?_
 rw[SNew_eq]
 refine⟨by decide,fun c hc id hid=> ?_⟩
 rw[look_cons]at hid
 simp (maxSteps:=1000000) (implicitDefEqProofs:=false) only[h2,go_sem,↓reduceIte]
 have at0:=newV_at (i:=2) (n:=0) (by decide) hid
 generalize (id,(newV 2 0 c id).val)::(c,CT 0 true)::G=G1 at*
 have gd0:=newV_good (n:=0) (c:=c) (id:=id) (i:=2) (by decide)
 obtain⟨bb1,bl1⟩:=blob_byt (kt:=K256) (i:=2) wfS1 mayS1 (ve:=1) (by decide)
 have gb1:=getBlob_of (kt:=K256) (i:=2) (ve:=1) wfS1 mayS1 (by decide) (by decide)
 have k1:keepS K256 (newV 2 0 c id) ⟨1,1,0,[0,0,0,0,0,0,0,0,0,0,0,0,0,0,0,0,0,0,0,0,0,0,0,0,0,0,0,0,0,0,0,0]⟩=({ (newV 2 0 c id).put 1 (.sli .u8 ((⟨1,1,0,[0,0,0,0,0,0,0,0,0,0,0,0,0,0,0,0,0,0,0,0,0,0,0,0,0,0,0,0,0,0,0,0]⟩:SealS).blob K256 2 1))with n:=1 },0):=keep_live rfl rfl mayS1
 have gd1:=keepS_good (kt:=K256) gd0 wfS1 ⟨by show (0:Int)≤0;decide,by show (0:Int) < 1099511627776;decide⟩
 rw[SKp3_eq]
 refine⟨newV 2 0 c id,⟨at0,gd0,wfS1⟩,?_⟩
 rw[keepT_lt (by show (0:Int) < 1099511627776;decide)]
 rw[k1]at gd1⊢
 generalize (⟨1,1,0,[0,0,0,0,0,0,0,0,0,0,0,0,0,0,0,0,0,0,0,0,0,0,0,0,0,0,0,0,0,0,0,0]⟩:SealS).blob K256 2 1=b1 at*
 have at1:=at_setG (t:={ (newV 2 0 c id).put 1 (.sli .u8 b1)with n:=1 }) at0 rfl rfl (by show okC 1;decide) ⟨_,rfl⟩ ⟨_,rfl⟩
 generalize hs1:({ (newV 2 0 c id).put 1 (.sli .u8 b1)with n:=1 }:VS)=s1 at*
 generalize setG G1 s1=G2 at*
 have n1:s1.n=1:=by rw[←hs1]
 have i1:s1.i=2:=by rw[←hs1];rfl
 have z1:byV s1.s1=some b1:=by rw[←hs1];rfl
 have d1:s1.d=false:=by rw[←hs1];rfl
 have a1:s1.a= -1:=by rw[←hs1];rfl
 simp only
 simp (maxSteps:=1000000) (implicitDefEqProofs:=false) only[h3,go_sem,↓reduceIte]
 rw[SSlo2_eq]
 refine .inl (Or.inr ⟨s1,b1,⟨at1,.inr rfl,z1,by omega⟩,?_⟩)
 simp (maxSteps:=1000000) (implicitDefEqProofs:=false) only[h2,go_sem,↓reduceIte]
 rw[SKp3_eq]
 have gd1:s1.good:=gd1
 have k2:=keep_live (kt:=K256) (s:=s1) (x:=⟨2,1,0,[0,0,0,0,0,0,0,0,0,0,0,0,0,0,0,0,0,0,0,0,0,0,0,0,0,0,0,0,0,0,0,0]⟩) d1 a1 mayS2
 have gd2:=keepS_good (kt:=K256) (x:=⟨2,1,0,[0,0,0,0,0,0,0,0,0,0,0,0,0,0,0,0,0,0,0,0,0,0,0,0,0,0,0,0,0,0,0,0]⟩) gd1 wfS2 ⟨by omega,by omega⟩
 refine⟨s1,⟨at1,gd1,wfS2⟩,?_⟩
 rw[keepT_lt (by omega)]
 rw[k2]at gd2⊢
 rw[n1,i1,show ((1:Int)+1).tmod 2=0 from rfl,show (1:Int)+1=2 from rfl]at gd2⊢
 obtain⟨bb2,bl2⟩:=blob_byt (kt:=K256) (i:=2) wfS2 mayS2 (ve:=2) (by decide)
 have gb2:=getBlob_of (kt:=K256) (i:=2) (ve:=2) wfS2 mayS2 (by decide) (by decide)
 generalize (⟨2,1,0,[0,0,0,0,0,0,0,0,0,0,0,0,0,0,0,0,0,0,0,0,0,0,0,0,0,0,0,0,0,0,0,0]⟩:SealS).blob K256 2 2=b2 at*
 have at2:=at_setG (t:={ s1.put 0 (.sli .u8 b2)with n:=2 }) at1 rfl rfl (by show okC 2;decide) ⟨_,rfl⟩ ⟨_,z1⟩
 have l1:loadD K256 { s1.put 0 (.sli .u8 b2)with n:=2 }=(⟨2,1,0,[0,0,0,0,0,0,0,0,0,0,0,0,0,0,0,0,0,0,0,0,0,0,0,0,0,0,0,0,0,0,0,0]⟩,0):=by
  unfold loadD
  rw[if_neg (by show ¬s1.d=true;rw[d1];simp)]
  show loadV K256 s1.i 2 b2 (byB s1.s1)=_
  unfold loadV;rw[i1,gb2,if_neg (by decide),if_pos ⟨rfl,rfl⟩]
 simp only
 generalize setG G2 { s1.put 0 (.sli .u8 b2)with n:=2 }=G3 at*
 simp (maxSteps:=1000000) (implicitDefEqProofs:=false) only[h4,go_sem,↓reduceIte]
 rw[SLd2_eq]
 refine⟨_,⟨at2,gd2⟩,fun G4 e4=> ?_⟩
 have at4:=at2.ext e4
 rw[l1]
 simp (maxSteps:=1000000) (implicitDefEqProofs:=false) only[h5,SealS.v,go_sem,↓reduceIte]
 rw[SSw2_eq]
 refine .inl (Or.inr ⟨_,b1,⟨at4,.inl rfl,rfl,by omega⟩,?_⟩)
 have at5:=at4.put (k:=0) (b:=b1) (.inl rfl)
 have gd5:=put_good (k:=0) gd2 (by omega:b1.length≤1000) bb1
 generalize hs2:({ s1.put 0 (.sli .u8 b2)with n:=2 }:VS).put 0 (.sli .u8 b1)=s2 at*
 have n2:s2.n=2:=by rw[←hs2];rfl
 have i2:s2.i=2:=by rw[←hs2];exact i1
 have z2:byB s2.s0=b1:=by rw[←hs2];rfl
 have y2:byB s2.s1=b1:=by rw[←hs2];exact byB_of z1
 have d2:s2.d=false:=by rw[←hs2];exact d1
 generalize upd G4 _ s2.val=G5 at*
 simp (maxSteps:=1000000) (implicitDefEqProofs:=false) only[h4,go_sem,↓reduceIte]
 rw[SLd2_eq]
 refine⟨s2,⟨at5,gd5⟩,fun G6 e6=> ?_⟩
 have l2:loadD K256 s2=(.zero,8):=by
  unfold loadD
  rw[if_neg (by rw[d2];simp),z2,y2]
  unfold loadV;rw[i2,n2,gb1,if_neg (by decide),if_neg (by decide),if_neg (by decide)]
 have at6:=at5.ext e6
 rw[l2]
 simp (maxSteps:=1000000) (implicitDefEqProofs:=false) only[h6,SVat_eq,SealS.v,SealS.zero,go_sem,↓reduceIte]
 exact⟨2,.inr ⟨s2,at6,n2.symm⟩,h G6⟩
def SLk:Spec1
 |[x,y],G,Q=>∃s t:VS,(s.at G x∧s.good∧y=t.ref∧t.good∧Rel s t)∧Q (.v (.bool true)) G
 |_,_,_=>False
theorem SLk_eq {x y}:SLk [x,y] G Q=(∃s t:VS,(s.at G x∧s.good∧y=t.ref∧t.good∧Rel s t)∧Q (.v (.bool true)) G):=rfl
def Olds (l:List V):Prop:=∀e∈l,∃z0 z1 b0 b1,e= .agg [z0,z1]∧(byV z0=some b0∧b0.length≤1000∧Byt b0)∧(byV z1=some b1∧b1.length≤1000∧Byt b1)
def SDo (kt:List Int):Spec1
 |[x,y,.agg [.int .i64 do_,.agg [.int .i64 a1,.int .i64 a2,.int .i64 a3,.arr .u8 32 a4],.int .i64 n,.int .i64 m,.int .i64 k,.sli .u8 bs],.sle 2 olds],G,Q=>∃s t:VS,(s.at G x∧s.good∧y=t.ref∧t.good∧Rel s t∧(⟨a1,a2,a3,a4⟩:SealS).wf∧(I64 n∧I64 m)∧Byt bs∧bs.length≤1200∧Olds olds∧olds.length < 1000000)∧∀(s' t':VS) G',(s'.at G' x∧s'.good∧t'.good∧Rel s' t'∧True)→Q (.tup [t'.ref,.bool true]) G'
 |_,_,_=>False
theorem SDo_eq {kt x y do_ a1 a2 a3 a4 n m k bs olds}:SDo kt [x,y,.agg [.int .i64 do_,.agg [.int .i64 a1,.int .i64 a2,.int .i64 a3,.arr .u8 32 a4],.int .i64 n,.int .i64 m,.int .i64 k,.sli .u8 bs],.sle 2 olds] G Q=(∃s t:VS,(s.at G x∧s.good∧y=t.ref∧t.good∧Rel s t∧(⟨a1,a2,a3,a4⟩:SealS).wf∧(I64 n∧I64 m)∧Byt bs∧bs.length≤1200∧Olds olds∧olds.length < 1000000)∧∀(s' t':VS) G',(s'.at G' x∧s'.good∧t'.good∧Rel s' t'∧True)→Q (.tup [t'.ref,.bool true]) G'):=rfl
theorem detSDo (kt:List Int):(SDo kt).Det:=by
 intro vs G Q h
 unfold SDo at h
 split at h
 ·obtain⟨s,t,⟨h1,h2,h3,h4,h5,_⟩,h⟩:=h
  obtain⟨id,hid⟩:=fresh_id _
  have e:=congrArg List.length (h s t ((id,.nilp)::_) ⟨h1.ext (Ext.cons hid),h2,h4,h5,trivial⟩).1
  simp only[List.length_cons]at e
  omega
 ·exact h.elim
theorem walk14 {x y:V} {s t:VS} (h1:Abs.look l 20=some SDead) (h2:Abs.look l 24=some SVat) (h3:Abs.look l 23=some SSlo2) (h4:Abs.look l 41=some SSm)
  (hs:s.at G x) (hg:s.good) (hy:y=t.ref) (ht:t.good) (r:Rel s t) (h:Q (.v (.bool true)) G):Wf E (specOf l) pf14 [x,y] G Q:=by
 subst hy
 have hx:=hs.x
 subst hx
 obtain⟨⟨z0,_⟩,⟨z1,_⟩,⟨z2,_⟩⟩:=ht.sz
 have a0:=ht.sz.1.2
 have a1:=ht.sz.2.1.2
 unfold V.isAgg at a0 a1
 obtain⟨b0,e0,l0,y0⟩:=hg.z0
 obtain⟨b1,e1,l1,y1⟩:=hg.z1
 obtain⟨c0,f0,_⟩:=ht.z0
 obtain⟨c1,f1,_⟩:=ht.z1
 have q0:b0=c0:=by have:=r.z0;rw[byB_of e0,byB_of f0]at this;exact this
 have q1:b1=c1:=by have:=r.z1;rw[byB_of e1,byB_of f1]at this;exact this
 subst q0 q1
 simp (maxSteps:=1000000) (implicitDefEqProofs:=false) only[pf14,h1,SDead_eq,z0,z1,z2,go_sem,↓reduceIte]
 refine⟨s.d,.inr ⟨s,hs,rfl⟩,?_⟩
 rw[r.d]
 simp (maxSteps:=1000000) (implicitDefEqProofs:=false) only[h2,SVat_eq,z0,z1,z2,go_sem,↓reduceIte]
 refine⟨s.n,.inr ⟨s,hs,rfl⟩,?_⟩
 rw[r.n]
 simp (maxSteps:=1000000) (implicitDefEqProofs:=false) only[h3,z0,z1,z2,a0,a1,go_sem,↓reduceIte]
 rw[SSlo2_eq]
 refine .inl (Or.inr ⟨s,b0,⟨hs,.inl rfl,e0,by omega⟩,?_⟩)
 simp (maxSteps:=1000000) (implicitDefEqProofs:=false) only[z0,z1,z2,a0,a1,h4,SSm_eq,go_sem,↓reduceIte]
 refine⟨two_sz z0 z1,b0,b0,⟨rfl,f0,by omega,by omega⟩,?_⟩
 simp (maxSteps:=1000000) (implicitDefEqProofs:=false) only[h3,z0,z1,z2,a0,a1,go_sem,↓reduceIte]
 rw[SSlo2_eq]
 refine .inl (Or.inr ⟨s,b1,⟨hs,.inr rfl,e1,by omega⟩,?_⟩)
 simp (maxSteps:=1000000) (implicitDefEqProofs:=false) only[z0,z1,z2,a0,a1,h4,SSm_eq,go_sem,↓reduceIte]
 refine⟨two_sz z0 z1,b1,b1,⟨rfl,f1,by omega,by omega⟩,?_⟩
 simp (maxSteps:=1000000) (implicitDefEqProofs:=false) only[h3,z0,z1,z2,go_sem,↓reduceIte]
 rw[SSlo2_eq]
 refine .inr ⟨s,⟨hs,.inr (by decide)⟩,?_⟩
 simp (maxSteps:=1000000) (implicitDefEqProofs:=false) only[go_sem,↓reduceIte]
 exact h
theorem walk13 {x y:V} {do_ a1 a2 a3 n m k:Int} {a4 bs:List Int} {olds:List V} {s t:VS} (h1:Abs.look l 15=some (SKp3 K256)) (h2:Abs.look l 38=some (SVk K256)) (h3:Abs.look l 19=some (SLd2 K256)) (h4:Abs.look l 39=some (SVl K256))
  (h5:Abs.look l 21=some SSw2) (h6:Abs.look l 17=some SArm2) (h7:Abs.look l 18=some SCr2) (h8:Abs.look l 40=some SVc)
  (hs:s.at G x) (hg:s.good) (hy:y=t.ref) (ht:t.good) (r:Rel s t) (hw:(⟨a1,a2,a3,a4⟩:SealS).wf) (hn:I64 n∧I64 m) (hb:Byt bs) (hbl:bs.length≤1200) (ho:Olds olds) (hol:olds.length < 1000000)
  (h:∀(s' t':VS) G',(s'.at G' x∧s'.good∧t'.good∧Rel s' t'∧True)→Q (.tup [t'.ref,.bool true]) G'):Wf E (specOf l) pf13 [x,y,.agg [.int .i64 do_,.agg [.int .i64 a1,.int .i64 a2,.int .i64 a3,.arr .u8 32 a4],.int .i64 n,.int .i64 m,.int .i64 k,.sli .u8 bs],.sle 2 olds] G Q:=by
 subst hy
 have hx:=hs.x
 subst hx
 have hok:=hs.ok
 obtain⟨⟨z0,_⟩,⟨z1,_⟩,⟨z2,_⟩⟩:=ht.sz
 obtain⟨m0,m1,m2⟩:=ht.sm
 have a0:=ht.sz.1.2
 have a1':=ht.sz.2.1.2
 unfold V.isAgg at a0 a1'
 have done:∀(s':VS) (t':VS),Like s s'→okC s'.n→s'.good→t'.good→Rel s' t'→Q (.tup [t'.ref,.bool true]) (setG G s'):=fun s' t' lk hk g1 g2 rr=>
  h s' t' _ ⟨at_setG hs lk.id lk.c hk (let ⟨b,e,_⟩:=g1.z0;⟨b,e⟩) (let ⟨b,e,_⟩:=g1.z1;⟨b,e⟩),g1,g2,rr,trivial⟩
 by_cases d0:do_=0
 ·subst d0
  obtain⟨g1,k1,lk1⟩:=keepT_good (kt:=K256) (x:=(⟨a1,a2,a3,a4⟩:SealS)) hg hw hok
  obtain⟨g2,k2,lk2⟩:=keepT_good (kt:=K256) (x:=(⟨a1,a2,a3,a4⟩:SealS)) ht hw (by rw[←r.n];exact hok)
  obtain⟨rr,ee⟩:=r.keep (kt:=K256) (x:=(⟨a1,a2,a3,a4⟩:SealS))
  have fin:=done _ _ lk1 k1 g1 g2 rr
  simp (maxSteps:=1000000) (implicitDefEqProofs:=false) only[pf13,h2,SVk_eq,z0,z1,z2,go_sem,↓reduceIte]
  refine⟨t,⟨rfl,ht,by rw[←r.n];exact hok,hw⟩,?_⟩
  rw[←ee]
  obtain⟨⟨x0,_⟩,⟨x1,_⟩,⟨x2,_⟩⟩:=g2.sz
  obtain⟨n0,n1,n2⟩:=g2.sm
  generalize (keepT K256 t (⟨a1,a2,a3,a4⟩:SealS)).1=t1 at*
  simp (maxSteps:=1000000) (implicitDefEqProofs:=false) only[h1,SKp3_eq,x0,x1,x2,n0,n1,n2,go_sem,↓reduceIte]
  refine⟨s,⟨hs,hg,hw⟩,?_⟩
  rw[decide_eq_true rfl]
  exact fin
 by_cases d1:do_=1
 ·subst d1
  simp (maxSteps:=1000000) (implicitDefEqProofs:=false) only[pf13,h4,SVl_eq,z0,z1,z2,m0,m1,m2,go_sem,↓reduceIte]
  refine⟨t,⟨rfl,ht⟩,?_⟩
  have el:=r.load (kt:=K256)
  rcases hL:loadD K256 t with⟨⟨q1,q2,q3,q4⟩,e⟩
  rw[hL]at el
  unfold SealS.v
  simp (maxSteps:=1000000) (implicitDefEqProofs:=false) only[h3,SLd2_eq,go_sem,↓reduceIte]
  refine⟨s,⟨hs,hg⟩,fun G' eG=> ?_⟩
  rw[el]
  unfold SealS.v
  simp (maxSteps:=1000000) (implicitDefEqProofs:=false) only[z0,z1,z2,m0,m1,m2,beq_self_eq_true,go_sem,↓reduceIte]
  exact h s t G' ⟨hs.ext eG,hg,ht,r,trivial⟩
 by_cases d4:do_=4
 ·subst d4
  simp (maxSteps:=1000000) (implicitDefEqProofs:=false) only[pf13,h6,SArm2_eq,z0,z1,z2,m0,m1,m2,go_sem,↓reduceIte]
  refine .inr ⟨s,⟨hs,hg⟩,?_⟩
  have I:=hn.1
  unfold I64 at I
  have gd:∀u:VS,u.good→VS.good { u with a:=if n < -1 then -1 else n }:=fun u hg=>⟨hg.h,hg.k,(by show -1≤(if n < -1 then (-1:Int)else n)∧(if n < -1 then (-1:Int)else n)≤9223372036854775807;split<;>omega),hg.i,hg.z0,hg.z1⟩
  have fin:=done { s with a:=if n < -1 then -1 else n } { t with a:=if n < -1 then -1 else n } ⟨rfl,rfl,rfl⟩ hok (gd s hg) (gd t ht) (r.arm _)
  by_cases c0:n < 0
  ·have:(if n < -1 then (-1:Int)else n)= -1:=by split<;>omega
   rw[this]at fin⊢
   simp (maxSteps:=1000000) (implicitDefEqProofs:=false) only[z0,z1,z2,m0,m1,m2,c0,go_sem,↓reduceIte]
   first|exact fin|exact⟨fin,fun c=>by omega⟩|exact⟨fun _=>fin,fun c=>by omega⟩
  ·have:(if n < -1 then (-1:Int)else n)=n:=by rw[if_neg (by omega)]
   rw[this]at fin⊢
   simp (maxSteps:=1000000) (implicitDefEqProofs:=false) only[z0,z1,z2,m0,m1,m2,c0,go_sem,↓reduceIte]
   first|exact fin|exact fun _=>fin|exact⟨fun c=>by omega,fun _=>fin⟩
 by_cases d5:do_=5
 ·subst d5
  obtain⟨lk,nk⟩:=crashS_like s n
  have fin:=done (crashS s n) (crashS t n) lk (by rw[nk];exact hok) (crashS_good hg) (crashS_good ht) (r.crash n)
  simp (maxSteps:=1000000) (implicitDefEqProofs:=false) only[pf13,h7,SCr2_eq,z0,z1,z2,m0,m1,m2,go_sem,↓reduceIte]
  refine⟨s,⟨hs,hg⟩,?_⟩
  simp (maxSteps:=1000000) (implicitDefEqProofs:=false) only[h8,SVc_eq,z0,z1,z2,m0,m1,m2,go_sem,↓reduceIte]
  refine⟨t,⟨rfl,ht,hn.1⟩,?_⟩
  have g2:=crashS_good (m:=n) ht
  obtain⟨⟨x0,_⟩,⟨x1,_⟩,⟨x2,_⟩⟩:=g2.sz
  obtain⟨n0,n1,n2⟩:=g2.sm
  generalize crashS t n=t1 at*
  simp (maxSteps:=1000000) (implicitDefEqProofs:=false) only[x0,x1,x2,n0,n1,n2,go_sem,↓reduceIte]
  exact fin
 have swp:=fun (kk:Int) (hk:kk=0∨kk=1) (bb:List Int) (h1:bb.length≤1000) (h2:Byt bb)=>h (s.put kk (.sli .u8 bb)) (t.put kk (.sli .u8 bb)) _ ⟨hs.put hk,put_good hg h1 h2,put_good ht h1 h2,r.put _ _,trivial⟩
 have bad:=h s t G ⟨hs,hg,ht,r,trivial⟩
 by_cases d2:do_=2
 ·subst d2
  simp (maxSteps:=1000000) (implicitDefEqProofs:=false) only[pf13,h5,z0,z1,z2,m0,m1,m2,go_sem,↓reduceIte]
  by_cases c:n < 0∨2≤n∨1000 < bs.length
  ·refine⟨by omega,.inr ⟨s,bs,⟨hs,rfl,by omega,c⟩,?_⟩⟩
   simp (maxSteps:=1000000) (implicitDefEqProofs:=false) only[z0,z1,z2,m0,m1,m2,go_sem,↓reduceIte]
   by_cases g1:n < 0
   ·have g1':¬0≤n:=by omega
    simp (maxSteps:=1000000) (implicitDefEqProofs:=false) only[z0,z1,z2,m0,m1,m2,g1,g1',go_sem,↓reduceIte]
    exact bad
   have g1':0≤n:=by omega
   by_cases g2:(1:Int) < n
   ·have g2':¬n≤1:=by omega
    simp (maxSteps:=1000000) (implicitDefEqProofs:=false) only[z0,z1,z2,m0,m1,m2,g1,g1',g2,g2',go_sem,↓reduceIte]
    exact bad
   have g2':n≤1:=by omega
   have g3:(1000:Int) < (bs.length:Int):=by omega
   have g3':¬(bs.length:Int)≤1000:=by omega
   simp (maxSteps:=1000000) (implicitDefEqProofs:=false) only[z0,z1,z2,m0,m1,m2,g1,g1',g2,g2',g3,g3',go_sem,↓reduceIte]
   exact bad
  ·have hk:n=0∨n=1:=by omega
   refine⟨by omega,.inl (Or.inr ⟨s,bs,⟨hs,hk,rfl,by omega⟩,?_⟩)⟩
   have g3:¬(1000:Int) < (bs.length:Int):=by omega
   have fin:=swp n hk bs (by omega) hb
   rcases hk with rfl|rfl
   ·simp only[VS.put,VS.ref,if_true,if_false,reduceIte,Int.reduceEq]at fin
    simp (maxSteps:=1000000) (implicitDefEqProofs:=false) only[z0,z1,z2,m0,m1,m2,a0,a1',g3,go_sem,↓reduceIte]
    first|exact⟨by omega,two_sz z0 z1,fin⟩|exact⟨two_sz z0 z1,fin⟩
   ·simp only[VS.put,VS.ref,if_true,if_false,reduceIte,Int.reduceEq]at fin
    simp (maxSteps:=1000000) (implicitDefEqProofs:=false) only[z0,z1,z2,m0,m1,m2,a0,a1',g3,go_sem,↓reduceIte]
    first|exact⟨by omega,two_sz z0 z1,fin⟩|exact⟨two_sz z0 z1,fin⟩
 by_cases d3:do_=3
 ·subst d3
  have hidx:(IntKind.i64.wrap (m.tmod 2+2)).tmod 2=0∨(IntKind.i64.wrap (m.tmod 2+2)).tmod 2=1:=by
   have h1:=Int.tmod_lt_of_pos m (show (0:Int) < 2 by decide)
   have h2:=Int.lt_tmod_of_pos m (show (0:Int) < 2 by decide)
   rw[w64 (by omega) (by omega),Int.tmod_eq_emod_of_nonneg (by omega)];omega
  by_cases q1:0≤k
  ·by_cases q2:k < (olds.length:Int)
   ·obtain⟨kk,rfl⟩:∃kk:Nat,k=(kk:Int):=⟨k.toNat,by omega⟩
    have hlt:kk < olds.length:=by omega
    have hget:olds.getD kk .nilp=olds[kk]:=by rw[List.getD_eq_getElem?_getD,List.getElem?_eq_getElem hlt];rfl
    obtain⟨y0,y1,c0,c1,ee,⟨f0,w0,u0⟩,⟨f1,w1,u1⟩⟩:=ho _ (List.getElem_mem hlt)
    rw[ee]at hget
    simp (maxSteps:=1000000) (implicitDefEqProofs:=false) only[pf13,h5,z0,z1,z2,m0,m1,m2,q1,q2,hget,Int.toNat_natCast,go_sem,↓reduceIte]
    rcases hidx with ei|ei
    ·rw[ei]
     rcases byV_cases f0 with e0|⟨e0,rfl⟩
     ·simp (maxSteps:=1000000) (implicitDefEqProofs:=false) only[e0,h5,go_sem,↓reduceIte]
      refine⟨two_sz rfl (by_size f1).1,?_⟩
      by_cases c:n < 0∨2≤n∨1000 < c0.length
      ·refine⟨by omega,.inr ⟨s,c0,⟨hs,rfl,by omega,c⟩,?_⟩⟩
       simp (maxSteps:=1000000) (implicitDefEqProofs:=false) only[z0,z1,z2,m0,m1,m2,go_sem,↓reduceIte]
       by_cases g1:n < 0
       ·have g1':¬0≤n:=by omega
        simp (maxSteps:=1000000) (implicitDefEqProofs:=false) only[z0,z1,z2,m0,m1,m2,g1,g1',go_sem,↓reduceIte]
        exact bad
       have g1':0≤n:=by omega
       by_cases g2:(1:Int) < n
       ·have g2':¬n≤1:=by omega
        simp (maxSteps:=1000000) (implicitDefEqProofs:=false) only[z0,z1,z2,m0,m1,m2,g1,g1',g2,g2',go_sem,↓reduceIte]
        exact bad
       have g2':n≤1:=by omega
       have g3:(1000:Int) < (c0.length:Int):=by omega
       have g3':¬(c0.length:Int)≤1000:=by omega
       simp (maxSteps:=1000000) (implicitDefEqProofs:=false) only[z0,z1,z2,m0,m1,m2,g1,g1',g2,g2',g3,g3',go_sem,↓reduceIte]
       exact bad
      ·have hk:n=0∨n=1:=by omega
       refine⟨by omega,.inl (Or.inr ⟨s,c0,⟨hs,hk,rfl,by omega⟩,?_⟩)⟩
       have g3:¬(1000:Int) < (c0.length:Int):=by omega
       have fin:=swp n hk c0 (by omega) u0
       rcases hk with rfl|rfl
       ·simp only[VS.put,VS.ref,if_true,if_false,reduceIte,Int.reduceEq]at fin
        simp (maxSteps:=1000000) (implicitDefEqProofs:=false) only[z0,z1,z2,m0,m1,m2,a0,a1',g3,go_sem,↓reduceIte]
        first|exact⟨by omega,two_sz z0 z1,fin⟩|exact⟨two_sz z0 z1,fin⟩
       ·simp only[VS.put,VS.ref,if_true,if_false,reduceIte,Int.reduceEq]at fin
        simp (maxSteps:=1000000) (implicitDefEqProofs:=false) only[z0,z1,z2,m0,m1,m2,a0,a1',g3,go_sem,↓reduceIte]
        first|exact⟨by omega,two_sz z0 z1,fin⟩|exact⟨two_sz z0 z1,fin⟩
     ·simp (maxSteps:=1000000) (implicitDefEqProofs:=false) only[e0,h5,go_sem,↓reduceIte]
      refine⟨two_sz rfl (by_size f1).1,?_⟩
      by_cases c:n < 0∨2≤n∨1000 < ([]:List Int).length
      ·refine .inr ⟨s,([]:List Int),⟨hs,rfl,by simp,c⟩,?_⟩
       simp (maxSteps:=1000000) (implicitDefEqProofs:=false) only[z0,z1,z2,m0,m1,m2,go_sem,↓reduceIte]
       by_cases g1:n < 0
       ·have g1':¬0≤n:=by omega
        simp (maxSteps:=1000000) (implicitDefEqProofs:=false) only[z0,z1,z2,m0,m1,m2,g1,g1',go_sem,↓reduceIte]
        exact bad
       have g1':0≤n:=by omega
       by_cases g2:(1:Int) < n
       ·have g2':¬n≤1:=by omega
        simp (maxSteps:=1000000) (implicitDefEqProofs:=false) only[z0,z1,z2,m0,m1,m2,g1,g1',g2,g2',go_sem,↓reduceIte]
        exact bad
       have g2':n≤1:=by omega
       exfalso
       simp only[List.length_nil]at c;omega
      ·have hk:n=0∨n=1:=by omega
       refine .inl (Or.inr ⟨s,([]:List Int),⟨hs,hk,rfl,by simp⟩,?_⟩)
       have g3:¬(1000:Int) < (([]:List Int).length:Int):=by simp
       have fin:=swp n hk ([]:List Int) (by simp) u0
       rcases hk with rfl|rfl
       ·simp only[VS.put,VS.ref,if_true,if_false,reduceIte,Int.reduceEq]at fin
        simp (maxSteps:=1000000) (implicitDefEqProofs:=false) only[z0,z1,z2,m0,m1,m2,a0,a1',g3,go_sem,↓reduceIte]
        first|exact⟨by omega,two_sz z0 z1,fin⟩|exact⟨two_sz z0 z1,fin⟩
       ·simp only[VS.put,VS.ref,if_true,if_false,reduceIte,Int.reduceEq]at fin
        simp (maxSteps:=1000000) (implicitDefEqProofs:=false) only[z0,z1,z2,m0,m1,m2,a0,a1',g3,go_sem,↓reduceIte]
        first|exact⟨by omega,two_sz z0 z1,fin⟩|exact⟨two_sz z0 z1,fin⟩
    ·rw[ei]
     rcases byV_cases f1 with e0|⟨e0,rfl⟩
     ·simp (maxSteps:=1000000) (implicitDefEqProofs:=false) only[e0,h5,go_sem,↓reduceIte]
      refine⟨two_sz (by_size f0).1 rfl,?_⟩
      by_cases c:n < 0∨2≤n∨1000 < c1.length
      ·refine⟨by omega,.inr ⟨s,c1,⟨hs,rfl,by omega,c⟩,?_⟩⟩
       simp (maxSteps:=1000000) (implicitDefEqProofs:=false) only[z0,z1,z2,m0,m1,m2,go_sem,↓reduceIte]
       by_cases g1:n < 0
       ·have g1':¬0≤n:=by omega
        simp (maxSteps:=1000000) (implicitDefEqProofs:=false) only[z0,z1,z2,m0,m1,m2,g1,g1',go_sem,↓reduceIte]
        exact bad
       have g1':0≤n:=by omega
       by_cases g2:(1:Int) < n
       ·have g2':¬n≤1:=by omega
        simp (maxSteps:=1000000) (implicitDefEqProofs:=false) only[z0,z1,z2,m0,m1,m2,g1,g1',g2,g2',go_sem,↓reduceIte]
        exact bad
       have g2':n≤1:=by omega
       have g3:(1000:Int) < (c1.length:Int):=by omega
       have g3':¬(c1.length:Int)≤1000:=by omega
       simp (maxSteps:=1000000) (implicitDefEqProofs:=false) only[z0,z1,z2,m0,m1,m2,g1,g1',g2,g2',g3,g3',go_sem,↓reduceIte]
       exact bad
      ·have hk:n=0∨n=1:=by omega
       refine⟨by omega,.inl (Or.inr ⟨s,c1,⟨hs,hk,rfl,by omega⟩,?_⟩)⟩
       have g3:¬(1000:Int) < (c1.length:Int):=by omega
       have fin:=swp n hk c1 (by omega) u1
       rcases hk with rfl|rfl
       ·simp only[VS.put,VS.ref,if_true,if_false,reduceIte,Int.reduceEq]at fin
        simp (maxSteps:=1000000) (implicitDefEqProofs:=false) only[z0,z1,z2,m0,m1,m2,a0,a1',g3,go_sem,↓reduceIte]
        first|exact⟨by omega,two_sz z0 z1,fin⟩|exact⟨two_sz z0 z1,fin⟩
       ·simp only[VS.put,VS.ref,if_true,if_false,reduceIte,Int.reduceEq]at fin
        simp (maxSteps:=1000000) (implicitDefEqProofs:=false) only[z0,z1,z2,m0,m1,m2,a0,a1',g3,go_sem,↓reduceIte]
        first|exact⟨by omega,two_sz z0 z1,fin⟩|exact⟨two_sz z0 z1,fin⟩
     ·simp (maxSteps:=1000000) (implicitDefEqProofs:=false) only[e0,h5,go_sem,↓reduceIte]
      refine⟨two_sz (by_size f0).1 rfl,?_⟩
      by_cases c:n < 0∨2≤n∨1000 < ([]:List Int).length
      ·refine .inr ⟨s,([]:List Int),⟨hs,rfl,by simp,c⟩,?_⟩
       simp (maxSteps:=1000000) (implicitDefEqProofs:=false) only[z0,z1,z2,m0,m1,m2,go_sem,↓reduceIte]
       by_cases g1:n < 0
       ·have g1':¬0≤n:=by omega
        simp (maxSteps:=1000000) (implicitDefEqProofs:=false) only[z0,z1,z2,m0,m1,m2,g1,g1',go_sem,↓reduceIte]
        exact bad
       have g1':0≤n:=by omega
       by_cases g2:(1:Int) < n
       ·have g2':¬n≤1:=by omega
        simp (maxSteps:=1000000) (implicitDefEqProofs:=false) only[z0,z1,z2,m0,m1,m2,g1,g1',g2,g2',go_sem,↓reduceIte]
        exact bad
       have g2':n≤1:=by omega
       exfalso
       simp only[List.length_nil]at c;omega
      ·have hk:n=0∨n=1:=by omega
       refine .inl (Or.inr ⟨s,([]:List Int),⟨hs,hk,rfl,by simp⟩,?_⟩)
       have g3:¬(1000:Int) < (([]:List Int).length:Int):=by simp
       have fin:=swp n hk ([]:List Int) (by simp) u1
       rcases hk with rfl|rfl
       ·simp only[VS.put,VS.ref,if_true,if_false,reduceIte,Int.reduceEq]at fin
        simp (maxSteps:=1000000) (implicitDefEqProofs:=false) only[z0,z1,z2,m0,m1,m2,a0,a1',g3,go_sem,↓reduceIte]
        first|exact⟨by omega,two_sz z0 z1,fin⟩|exact⟨two_sz z0 z1,fin⟩
       ·simp only[VS.put,VS.ref,if_true,if_false,reduceIte,Int.reduceEq]at fin
        simp (maxSteps:=1000000) (implicitDefEqProofs:=false) only[z0,z1,z2,m0,m1,m2,a0,a1',g3,go_sem,↓reduceIte]
        first|exact⟨by omega,two_sz z0 z1,fin⟩|exact⟨two_sz z0 z1,fin⟩
   ·simp (maxSteps:=1000000) (implicitDefEqProofs:=false) only[pf13,h5,z0,z1,z2,m0,m1,m2,q1,q2,go_sem,↓reduceIte]
    by_cases c:n < 0∨2≤n∨1000 < bs.length
    ·refine⟨by omega,.inr ⟨s,bs,⟨hs,rfl,by omega,c⟩,?_⟩⟩
     simp (maxSteps:=1000000) (implicitDefEqProofs:=false) only[z0,z1,z2,m0,m1,m2,go_sem,↓reduceIte]
     by_cases g1:n < 0
     ·have g1':¬0≤n:=by omega
      simp (maxSteps:=1000000) (implicitDefEqProofs:=false) only[z0,z1,z2,m0,m1,m2,g1,g1',go_sem,↓reduceIte]
      exact bad
     have g1':0≤n:=by omega
     by_cases g2:(1:Int) < n
     ·have g2':¬n≤1:=by omega
      simp (maxSteps:=1000000) (implicitDefEqProofs:=false) only[z0,z1,z2,m0,m1,m2,g1,g1',g2,g2',go_sem,↓reduceIte]
      exact bad
     have g2':n≤1:=by omega
     have g3:(1000:Int) < (bs.length:Int):=by omega
     have g3':¬(bs.length:Int)≤1000:=by omega
     simp (maxSteps:=1000000) (implicitDefEqProofs:=false) only[z0,z1,z2,m0,m1,m2,g1,g1',g2,g2',g3,g3',go_sem,↓reduceIte]
     exact bad
    ·have hk:n=0∨n=1:=by omega
     refine⟨by omega,.inl (Or.inr ⟨s,bs,⟨hs,hk,rfl,by omega⟩,?_⟩)⟩
     have g3:¬(1000:Int) < (bs.length:Int):=by omega
     have fin:=swp n hk bs (by omega) hb
     rcases hk with rfl|rfl
     ·simp only[VS.put,VS.ref,if_true,if_false,reduceIte,Int.reduceEq]at fin
      simp (maxSteps:=1000000) (implicitDefEqProofs:=false) only[z0,z1,z2,m0,m1,m2,a0,a1',g3,go_sem,↓reduceIte]
      first|exact⟨by omega,two_sz z0 z1,fin⟩|exact⟨two_sz z0 z1,fin⟩
     ·simp only[VS.put,VS.ref,if_true,if_false,reduceIte,Int.reduceEq]at fin
      simp (maxSteps:=1000000) (implicitDefEqProofs:=false) only[z0,z1,z2,m0,m1,m2,a0,a1',g3,go_sem,↓reduceIte]
      first|exact⟨by omega,two_sz z0 z1,fin⟩|exact⟨two_sz z0 z1,fin⟩
  ·simp (maxSteps:=1000000) (implicitDefEqProofs:=false) only[pf13,h5,z0,z1,z2,m0,m1,m2,q1,go_sem,↓reduceIte]
   by_cases c:n < 0∨2≤n∨1000 < bs.length
   ·refine⟨by omega,.inr ⟨s,bs,⟨hs,rfl,by omega,c⟩,?_⟩⟩
    simp (maxSteps:=1000000) (implicitDefEqProofs:=false) only[z0,z1,z2,m0,m1,m2,go_sem,↓reduceIte]
    by_cases g1:n < 0
    ·have g1':¬0≤n:=by omega
     simp (maxSteps:=1000000) (implicitDefEqProofs:=false) only[z0,z1,z2,m0,m1,m2,g1,g1',go_sem,↓reduceIte]
     exact bad
    have g1':0≤n:=by omega
    by_cases g2:(1:Int) < n
    ·have g2':¬n≤1:=by omega
     simp (maxSteps:=1000000) (implicitDefEqProofs:=false) only[z0,z1,z2,m0,m1,m2,g1,g1',g2,g2',go_sem,↓reduceIte]
     exact bad
    have g2':n≤1:=by omega
    have g3:(1000:Int) < (bs.length:Int):=by omega
    have g3':¬(bs.length:Int)≤1000:=by omega
    simp (maxSteps:=1000000) (implicitDefEqProofs:=false) only[z0,z1,z2,m0,m1,m2,g1,g1',g2,g2',g3,g3',go_sem,↓reduceIte]
    exact bad
   ·have hk:n=0∨n=1:=by omega
    refine⟨by omega,.inl (Or.inr ⟨s,bs,⟨hs,hk,rfl,by omega⟩,?_⟩)⟩
    have g3:¬(1000:Int) < (bs.length:Int):=by omega
    have fin:=swp n hk bs (by omega) hb
    rcases hk with rfl|rfl
    ·simp only[VS.put,VS.ref,if_true,if_false,reduceIte,Int.reduceEq]at fin
     simp (maxSteps:=1000000) (implicitDefEqProofs:=false) only[z0,z1,z2,m0,m1,m2,a0,a1',g3,go_sem,↓reduceIte]
     first|exact⟨by omega,two_sz z0 z1,fin⟩|exact⟨two_sz z0 z1,fin⟩
    ·simp only[VS.put,VS.ref,if_true,if_false,reduceIte,Int.reduceEq]at fin
     simp (maxSteps:=1000000) (implicitDefEqProofs:=false) only[z0,z1,z2,m0,m1,m2,a0,a1',g3,go_sem,↓reduceIte]
     first|exact⟨by omega,two_sz z0 z1,fin⟩|exact⟨two_sz z0 z1,fin⟩
 ·simp (maxSteps:=1000000) (implicitDefEqProofs:=false) only[pf13,z0,z1,z2,m0,m1,m2,d0,d1,d2,d3,d4,d5,go_sem,↓reduceIte]
  exact h s t G ⟨hs,hg,ht,r,trivial⟩
end Go.Proofs.YtjbglbhcbenhpaaDoor.Sha
namespace Go.Proofs.YtjbglbhcbenhpaaDoor.Sha
open Go Go.Abs Go.Abs.Sha
set_option linter.unusedSimpArgs false
set_option linter.unusedVariables false
set_option maxRecDepth 100000
def lp3_0:PC:=
 ((PC.reg [mm 57 11,mm 58 2,nn (.t 59) (.len (.t 58)),nn (.t 60) (.bin .lss (.t 57) (.t 59))]).seq (PC.cond (.t 60) PC.skip (PC.exit 0))).seq
  ((PC.block 1 ((PC.reg [nn (.t 63) (.mv true (.v 10)),nn (.t 64) (.fadr 1 1 (.v 9)),nn (.t 65) (.load 2 true (.t 64)),nn (.t 66) (.buildS none 2
  (.agg [.nils,.nils]) 1 [(0,.t 65)]),nn (.t 67) (.app none 2 48 (.t 63) (.t 66)),ma 10 67]).seq ((PC.regW 1 [(0,mm 69 7),(1,nn (.t 70) (.load 8
  true (.v 9))),(2,mm 71 2),(3,mm 72 11),(4,nn (.t 73) (.iadrS 40 (.t 71) (.t 72))),(5,nn (.t 74) (.load 40 true (.t 73))),(6,mm 75 10),(11,
  nn (.v 12) (.allocAt 1 (.agg [.int .i64 0,.agg [.nils,.nils],.int .i64 0,.int .i64 0,.bool false,.nils,.int .i64 0]))),(7,nn (.t 76) (.callW
  13 [.t 69,.t 70,.t 74,.t 75])),(8,nn (.t 68) (.mv false (.t 76))),(9,nn (.t 77) (.ext (.t 68) 0)),(10,nn (.t 78) (.ext (.t 68) 1)),(12,nn
  .no (.store 8 (.v 12) (.t 77))),(13,ma 13 78)] [(5,11),(1,11),(11,7)]).seq ((PC.reg [nn (.t 79) (.load 8 true (.v 12)),nn .no (.store 8 (.v
  9) (.t 79))]).seq ((PC.reg [mm 80 13,nn (.t 81) (.un .not (.t 80)),nn (.t 82) (.mv false (.t 81)),gm 83 7 82 false,⟨.t 84,.load 8 true (.v 9),
  some (.t 82,false)⟩,⟨.t 85,.call 14 [.t 83,.t 84],some (.t 82,false)⟩,⟨.t 86,.un .not (.t 85),some (.t 82,false)⟩,nn (.t 87) (.pick (.t
  82) (.c (.v (.bool true))) (.t 86))]).seq (PC.cond (.t 87) ((PC.reg [nn (.v 6) (.mv true (.c (.v (.bool false))))]).seq PC.ret) PC.skip)))))).seq
  (PC.reg [mm 61 11,nn (.t 62) (.bin .add (.t 61) (.c (.v (.int .i64 1)))),ma 11 62]))
def pf3:PF:=
 PF.mk 3 14 89 ((PC.reg [nn (.v 6) (.mv true (.c (.v (.bool false))))]).seq (((PC.reg [mm 14 2,nn (.t 15) (.call 9 [.t 14]),nn (.t 16) (.un .not (.t
  15))]).seq (PC.cond (.t 16) ((PC.reg [nn (.t 17) (.call 10 []),ma 6 17]).seq PC.ret) PC.skip)).seq ((PC.reg [mm 19 0,mm 20 1,nn (.t 21) (.call 11
  [.t 19,.t 20]),nn (.t 18) (.mv false (.t 21)),nn (.t 22) (.ext (.t 18) 0),nn (.t 23) (.ext (.t 18) 1),ma 7 22,ma 8 23]).seq (((PC.reg [mm 24 0,
  nn (.t 25) (.bin .lss (.t 24) (.c (.v (.int .i64 1)))),nn (.t 26) (.mv false (.t 25)),gm 27 0 26 false,⟨.t 28,.bin .gtr (.t 27) (.c (.v (.int
  .i64 21))),some (.t 26,false)⟩,nn (.t 29) (.pick (.t 26) (.c (.v (.bool true))) (.t 28)),nn (.t 30) (.mv false (.t 29)),gm 31 1 30 false,⟨.t
  32,.bin .lss (.t 31) (.c (.v (.int .i64 0))),some (.t 30,false)⟩,nn (.t 33) (.pick (.t 30) (.c (.v (.bool true))) (.t 32)),nn (.t 34) (.mv false
  (.t 33)),gm 35 1 34 false,⟨.t 36,.bin .gtr (.t 35) (.c (.v (.int .i64 1099511627776))),some (.t 34,false)⟩,nn (.t 37) (.pick (.t 34) (.c (.v
  (.bool true))) (.t 36))]).seq (PC.cond (.t 37) ((PC.reg [mm 38 8,nn (.t 39) (.bin .eql (.t 38) (.c (.v (.int .i64 1)))),nn (.t 40) (.mv false (.t
  39)),gm 41 7 40 true,⟨.t 42,.binP .eql (.t 41) (.c (.v .nilp)),some (.t 40,true)⟩,nn (.t 43) (.pick (.t 40) (.t 42) (.c (.v (.bool false)))),
  nn (.t 44) (.mv false (.t 43)),⟨.t 45,.call 10 [],some (.t 44,true)⟩,nn (.t 46) (.pick (.t 44) (.t 45) (.c (.v (.bool false)))),ma 6 46]).seq
  PC.ret) PC.skip)).seq (((PC.reg [mm 47 8,nn (.t 48) (.bin .neq (.t 47) (.c (.v (.int .i64 0)))),nn (.t 49) (.mv false (.t 48)),gm 50 7 49 false,
  ⟨.t 51,.binP .eql (.t 50) (.c (.v .nilp)),some (.t 49,false)⟩,nn (.t 52) (.pick (.t 49) (.c (.v (.bool true))) (.t 51))]).seq (PC.cond (.t 52)
  ((PC.reg [nn (.v 6) (.mv true (.c (.v (.bool false))))]).seq PC.ret) PC.skip)).seq ((PC.reg [mm 53 0,mm 54 1,nn (.t 55) (.call 12 [.t 53,.t 54]),
  nn (.v 9) (.alloc (.agg [.int .i64 0,.agg [.nils,.nils],.int .i64 0,.int .i64 0,.bool false,.nils,.int .i64 0])),nn .no (.store 8 (.v 9) (.t
  55))]).seq ((PC.reg [nn (.t 56) (.buildS none 2 (.agg [.nils,.nils]) 0 []),ma 10 56]).seq (((PC.reg [nn (.v 11) (.mv true (.c (.v (.int .i64
  0))))]).seq (PC.block 0 (PC.loop [2,7,9,10,11] lp3_0))).seq ((PC.reg [nn (.t 88) (.call 10 []),ma 6 88]).seq PC.ret))))))))) [(.v 6,none)]
attribute [local irreducible] W Wops WopsD WL Wop WopD
variable {E:Env} {C:Abs.Spec} {l:List (Nat×Spec1)} {G:List (Nat×V)} {Q:R→List (Nat×V)→Prop}
set_option maxHeartbeats 1000000
def AS2 (e:V):Prop:=∃do_ a1 a2 a3 a4 n m k bs,e= .agg [.int .i64 do_,.agg [.int .i64 a1,.int .i64 a2,.int .i64 a3,.arr .u8 32 a4],.int .i64 n,.int .i64 m,.int .i64 k,.sli .u8 bs]∧(⟨a1,a2,a3,a4⟩:SealS).wf∧(I64 n∧I64 m)∧Byt bs
theorem AS2.as {e:V} (h:AS2 e):AS e:=by
 obtain⟨do_,a1,a2,a3,a4,n,m,k,bs,rfl,hw,hn,hb⟩:=h
 exact⟨do_,a1,a2,a3,a4,n,m,k,bs,rfl,hw,hn.1⟩
theorem olds_snoc {l:List V} {t:VS} (h:Olds l) (ht:t.good):Olds (l++[.agg [t.s0,t.s1]]):=by
 intro e he
 rcases List.mem_append.1 he with he|he
 ·exact h e he
 ·rw[List.mem_singleton.1 he]
  obtain⟨b0,e0,l0,y0⟩:=ht.z0
  obtain⟨b1,e1,l1,y1⟩:=ht.z1
  exact⟨_,_,b0,b1,rfl,⟨e0,l0,y0⟩,⟨e1,l1,y1⟩⟩
theorem loop3 {as_:List V} {id:Nat} {QQ:Ex→St→Prop} (h13:Abs.look l 13=some (SDo K256)) (h14:Abs.look l 14=some SLk) (hA:∀e∈as_,AS2 e) (hB:∀e∈as_,blen e≤1200) (hl:as_.length≤40)
  (hx:∀j ts L G' olds,QQ (.exit 0) ⟨[none,none,some (.v (.sle 40 as_)),none,none,none,none,some (.v (.ptr id)),none,some (.lp 0 []),some (.own (.sle 2 olds)),some (.v (.int .i64 j)),none,none],ts,L,G'⟩):
  ∀(r:List V) (j:Nat) (s t:VS) (olds:List V) (Lt:List Bx) (G:List (Nat×V)),as_.drop j=r→j≤as_.length→s.at G (.ptr id)→s.good→t.good→Rel s t→Olds olds→olds.length=j→
   WL (W E (specOf l) lp3_0) [2,7,9,10,11] QQ (r.length+1) ⟨[none,none,some (.v (.sle 40 as_)),none,none,none,none,some (.v (.ptr id)),none,some (.lp 0 []),some (.own (.sle 2 olds)),some (.v (.int .i64 (j:Nat))),none,none],[],⟨false,t.ref⟩::Lt,G⟩:=by
 intro r
 induction r with
 |nil=>
  intro j s t olds Lt G hr hj hs hg ht rr ho hol
  have hj2:j=as_.length:=by
   have:=congrArg List.length hr
   rw[List.length_drop,List.length_nil]at this;omega
  subst hj2
  refine WL_in lp3_0.eq_1 ?_
  simp (maxSteps:=1000000) (implicitDefEqProofs:=false) only[Int.lt_irrefl,go_sem,↓reduceIte]
  exact hx _ _ _ _ _
 |cons e r ih=>
  intro j s t olds Lt G hr hj hs hg ht rr ho hol
  have hlen:=congrArg List.length hr
  rw[List.length_drop,List.length_cons]at hlen
  have hge:as_[j]? =some e:=by
   have:(as_.drop j)[0]? =some e:=by rw[hr];rfl
   rwa [List.getElem?_drop,Nat.add_zero]at this
  have he:e∈as_:=List.mem_of_getElem? hge
  have hgd:as_.getD j .nilp=e:=by rw[List.getD_eq_getElem?_getD,hge];rfl
  have hr2:as_.drop (j+1)=r:=by rw[←List.drop_drop,hr];rfl
  have hbl:=hB e he
  obtain⟨do_,a1,a2,a3,a4,n,m,k,bs,rfl,hw,hn,hb⟩:=hA e he
  have c1:(j:Int) < as_.length:=by omega
  have ew:IntKind.i64.wrap ((j:Int)+1)=((j+1:Nat):Int):=by rw[w64 (by omega) (by omega)];simp
  obtain⟨⟨z0,_⟩,⟨z1,_⟩,⟨z2,_⟩⟩:=ht.sz
  obtain⟨m0,m1,m2⟩:=ht.sm
  have a0:=ht.sz.1.2
  have a1':=ht.sz.2.1.2
  unfold V.isAgg at a0 a1'
  have ho2:=olds_snoc ho ht
  refine WL_in lp3_0.eq_1 ?_
  simp (maxSteps:=1000000) (implicitDefEqProofs:=false) only[c1,hgd,Int.toNat_natCast,z0,z1,z2,m0,m1,m2,a0,a1',h13,SDo_eq,go_sem,↓reduceIte]
  refine⟨by omega,by omega,by rfl,s,t,⟨hs,hg,rfl,ht,rr,hw,hn,hb,hbl,ho2,by omega⟩,fun s' t' G' hh=> ?_⟩
  obtain⟨p1,p2,p3,p4⟩:=hh
  obtain⟨⟨x0,_⟩,⟨x1,_⟩,⟨x2,_⟩⟩:=p3.sz
  obtain⟨n0,n1,n2⟩:=p3.sm
  have q:=ih (j+1) s' t' (olds++[.agg [t.s0,t.s1]]) (Lt++[⟨false,t'.ref⟩]) G' hr2 (by omega) p1 p2 p3 p4 ho2 (by rw[List.length_append,hol];rfl)
  have w0:=p3.sz.1.2
  have w1:=p3.sz.2.1.2
  have w2:=p3.sz.2.2.2
  unfold V.isAgg at w0 w1 w2
  have k0:=V.same_trans' n0 (V.same_symm m0)
  have k1:=V.same_trans' n1 (V.same_symm m1)
  have k2:=V.same_trans' n2 (V.same_symm m2)
  simp (maxSteps:=1000000) (implicitDefEqProofs:=false) only[x0,x1,x2,n0,n1,n2,k0,k1,k2,w0,w1,w2,ew,h14,SLk_eq,go_sem,↓reduceIte]
  refine⟨s',t',⟨p1,p2,rfl,p3,p4⟩,?_⟩
  try simp (maxSteps:=1000000) (implicitDefEqProofs:=false) only[go_sem,↓reduceIte]
  exact q
theorem walk3 {as_:List V} {i n:Int} (h9:Abs.look l 9=some SLi) (h10:Abs.look l 10=some SAv) (h11:Abs.look l 11=some SNew2) (h12:Abs.look l 12=some SVn) (h13:Abs.look l 13=some (SDo K256)) (h14:Abs.look l 14=some SLk)
  (hA:∀e∈as_,AS2 e) (hl:as_.length < 9223372036854775808) (h:∀G',Q (.v (.bool true)) G'):Wf E (specOf l) pf3 [.int .i64 i,.int .i64 n,.sle 40 as_] G Q:=by
 have hA1:∀e∈as_,AS e:=fun e he=>(hA e he).as
 cases hli:lightA as_ with
 |false=>
  simp (maxSteps:=1000000) (implicitDefEqProofs:=false) only[pf3,h9,SLi_eq,hli,h10,SAv_eq,go_sem,↓reduceIte]
  exact⟨⟨hA1,hl⟩,h⟩
 |true=>
  have hl40:as_.length≤40:=by
   unfold lightA at hli
   rw[Bool.and_eq_true]at hli
   exact of_decide_eq_true hli.2
  have hB:∀e∈as_,blen e≤1200:=by
   intro e he
   unfold lightA at hli
   rw[Bool.and_eq_true,List.all_eq_true]at hli
   rw[List.take_of_length_le (by omega)]at hli
   exact of_decide_eq_true (hli.1 e he)
  simp (maxSteps:=1000000) (implicitDefEqProofs:=false) only[pf3,h9,SLi_eq,hli,h11,go_sem,↓reduceIte]
  refine⟨⟨hA1,hl⟩,?_⟩
  rw[SNew2_eq]
  by_cases ok:okC n∧1≤i∧i≤21
  ·have ok2:=ok.1
   unfold okC at ok2
   refine .inl ?_
   rw[SNew_eq]
   refine⟨ok,fun c hc id hid=> ?_⟩
   rw[look_cons]at hid
   have at0:=newV_at (i:=i) (n:=n) ok.1 hid
   have gd0:=newV_good (n:=n) (c:=c) (id:=id) (i:=i) ok.2
   have c1:¬i < 1:=by omega
   have c2:¬21 < i:=by omega
   have c3:¬n < 0:=by omega
   have c4:¬(1099511627776:Int) < n:=by omega
   generalize (id,(newV i n c id).val)::(c,CT n true)::G=G1 at*
   have gt0:(newV i n 0 0).good:=newV_good ok.2
   have rel0:Rel (newV i n c id) (newV i n 0 0):=⟨rfl,rfl,rfl,rfl,rfl,rfl,rfl,rfl⟩
   obtain⟨⟨x0,_⟩,⟨x1,_⟩,⟨x2,_⟩⟩:=gt0.sz
   obtain⟨n0,n1,n2⟩:=gt0.sm
   simp (maxSteps:=1000000) (implicitDefEqProofs:=false) only[c1,c2,c3,c4,h12,SVn_eq,go_sem,↓reduceIte]
   generalize newV i n 0 0=t0 at*
   simp (maxSteps:=1000000) (implicitDefEqProofs:=false) only[x0,x1,x2,n0,n1,n2,go_sem,↓reduceIte]
   refine⟨as_.length+1,?_⟩
   simp (maxSteps:=1000000) (implicitDefEqProofs:=false) only[go_sem,↓reduceIte]
   refine loop3 h13 h14 hA hB hl40 (fun j ts L G' olds=> ?_) as_ 0 _ t0 [] [] G1 rfl (by omega) at0 gd0 gt0 rel0 (fun e he=>by simp at he) rfl
   simp (maxSteps:=1000000) (implicitDefEqProofs:=false) only[h10,SAv_eq,go_sem,↓reduceIte]
   exact h
  ·refine .inr ⟨ok,fun G' eG=> ?_⟩
   unfold okC at ok
   by_cases c1:i < 1
   ·simp (maxSteps:=1000000) (implicitDefEqProofs:=false) only[c1,h10,SAv_eq,go_sem,↓reduceIte]
    exact h
   by_cases c2:21 < i
   ·simp (maxSteps:=1000000) (implicitDefEqProofs:=false) only[c1,c2,h10,SAv_eq,go_sem,↓reduceIte]
    exact h
   by_cases c3:n < 0
   ·simp (maxSteps:=1000000) (implicitDefEqProofs:=false) only[c1,c2,c3,h10,SAv_eq,go_sem,↓reduceIte]
    exact h
   have c4:(1099511627776:Int) < n:=by omega
   simp (maxSteps:=1000000) (implicitDefEqProofs:=false) only[c1,c2,c3,c4,h10,SAv_eq,go_sem,↓reduceIte]
   exact h
end Go.Proofs.YtjbglbhcbenhpaaDoor.Sha
