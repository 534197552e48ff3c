/- Laws over plain values, and what functions of the program hand back; no conditions. -/
import Derived.RangeFuncBox
import Derived.RangeFuncLeaves
import Derived.Shelf.Abstract
import Derived.WalkKit
import Derived.OwnWalkIn
import Derived.TacticsInMore
import Derived.LoopNIn
import Derived.LoopIn
import Derived.Maps.AppendAt
import Derived.Shelf.SlIterI.Sorted
import Derived.Shelf.SortM.Plain
import Derived.Shelf.SortM.SortNone
import Derived.Shelf.SlLaysM
import Derived.Test.YtjbglbhcbenhpaaProg
import Derived.Test.YtjbglbhcbenhpaaPlain6
import Derived.Test.YtjbglbhcbenhpaaG1
namespace Go.Proofs
open Go.RowKit Go.Shelf Go.Sort
attribute [local go_sem] Oper.semAt_some
namespace Try
def sortV_ren:Ren where
 f:=fun x=>match x with|5=>90|8=>113|7=>112|19=>140|20=>141|10=>131|11=>132|12=>133|13=>134|14=>135|15=>136|16=>137|17=>138|18=>139|30=>159|31=>160|32=>161|33=>162|34=>163|35=>164|40=>169|n=>n
 t:=fun x=>match x with|23=>41|25=>3|3=>3|32=>147|22=>41|0=>0|44=>170|46=>153|4=>4|36=>164|35=>163|41=>155|5=>5|9=>9|53=>183|57=>187|63=>190|64=>191|n=>n
 g:=fun x=>x
theorem sortV:SlLaysM.n5 Try.prog sortV_ren where
 mixed:=by kernel_rfl
 f5:=Exists.intro "slices.Sort[[]int,int]" ⟨by decide,by kernel_rfl⟩
 f7:=Exists.intro "slices.pdqsortOrdered[int]" ⟨by decide,by kernel_rfl⟩
 f10:=Exists.intro "slices.insertionSortOrdered[int]" ⟨by decide,by kernel_rfl⟩
 f11:=Exists.intro "slices.heapSortOrdered[int]" ⟨by decide,by kernel_rfl⟩
 f12:=Exists.intro "slices.breakPatternsOrdered[int]" ⟨by decide,by kernel_rfl⟩
 f13:=Exists.intro "slices.choosePivotOrdered[int]" ⟨by decide,by kernel_rfl⟩
 f14:=Exists.intro "slices.reverseRangeOrdered[int]" ⟨by decide,by kernel_rfl⟩
 f15:=Exists.intro "slices.partialInsertionSortOrdered[int]" ⟨by decide,by kernel_rfl⟩
 f16:=Exists.intro "cmp.Less[int]" ⟨by decide,by kernel_rfl⟩
 f17:=Exists.intro "slices.partitionEqualOrdered[int]" ⟨by decide,by kernel_rfl⟩
 f18:=Exists.intro "slices.partitionOrdered[int]" ⟨by decide,by kernel_rfl⟩
 f30:=Exists.intro "slices.siftDownOrdered[int]" ⟨by decide,by kernel_rfl⟩
 f33:=Exists.intro "slices.medianAdjacentOrdered[int]" ⟨by decide,by kernel_rfl⟩
 f34:=Exists.intro "slices.medianOrdered[int]" ⟨by decide,by kernel_rfl⟩
 f35:=Exists.intro "cmp.isNaN[int]" ⟨by decide,by kernel_rfl⟩
 f40:=Exists.intro "slices.order2Ordered[int]" ⟨by decide,by kernel_rfl⟩
 f8:=by kernel_rfl
 f19:=by kernel_rfl
 f20:=by kernel_rfl
 f31:=by kernel_rfl
 f32:=by kernel_rfl
 t0:=Try.underlying0
 a0:=Try.isAgg0
 z0:=Try.sizeOf0
 v0:=Try.zeroValue0
 t3:=Try.underlying3
 a3:=Try.isAgg3
 z3:=Try.sizeOf3
 v3:=Try.zeroValue3
 t4:=Try.underlying4
 a4:=Try.isAgg4
 z4:=Try.sizeOf4
 v4:=Try.zeroValue4
 t5:=Try.underlying5
 a5:=Try.isAgg5
 z5:=Try.sizeOf5
 v5:=Try.zeroValue5
 t9:=Try.underlying9
 a9:=Try.isAgg9
 z9:=Try.sizeOf9
 v9:=Try.zeroValue9
 t22:=Try.underlying41
 a22:=Try.isAgg41
 z22:=Try.sizeOf41
 v22:=Try.zeroValue41
 t23:=Try.underlying41
 a23:=Try.isAgg41
 z23:=Try.sizeOf41
 v23:=Try.zeroValue41
 t25:=Try.underlying3
 a25:=Try.isAgg3
 z25:=Try.sizeOf3
 v25:=Try.zeroValue3
 t32:=Try.underlying147
 a32:=Try.isAgg147
 z32:=Try.sizeOf147
 v32:=Try.zeroValue147
 t35:=Try.underlying163
 a35:=Try.isAgg163
 z35:=Try.sizeOf163
 v35:=Try.zeroValue163
 t36:=Try.underlying164
 a36:=Try.isAgg164
 z36:=Try.sizeOf164
 v36:=Try.zeroValue164
 t41:=Try.underlying155
 a41:=Try.isAgg155
 z41:=Try.sizeOf155
 v41:=Try.zeroValue155
 t44:=Try.underlying170
 a44:=Try.isAgg170
 z44:=Try.sizeOf170
 v44:=Try.zeroValue170
 t46:=Try.underlying153
 a46:=Try.isAgg153
 z46:=Try.sizeOf153
 v46:=Try.zeroValue153
 t53:=Try.underlying183
 a53:=Try.isAgg183
 z53:=Try.sizeOf183
 v53:=Try.zeroValue183
 t57:=Try.underlying187
 a57:=Try.isAgg187
 z57:=Try.sizeOf187
 v57:=Try.zeroValue187
 t63:=Try.underlying190
 a63:=Try.isAgg190
 z63:=Try.sizeOf190
 v63:=Try.zeroValue190
 t64:=Try.underlying191
 a64:=Try.isAgg191
 z64:=Try.sizeOf191
 v64:=Try.zeroValue191
def upto (zs:List Int) (k:Nat):List Int:=(List.range k).map fun j=>zs[j]?.getD 0
theorem upto_succ (zs:List Int) (k:Nat):upto zs (k+1)=upto zs k++[zs[k]?.getD 0]:=by simp[upto,List.range_succ]
theorem upto_length (zs:List Int) (k:Nat):(upto zs k).length=k:=by simp[upto]
theorem upto_take (zs:List Int) {k:Nat} (hk:k≤zs.length):upto zs k=zs.take k:=by
 apply List.ext_getElem
 ·simp[upto,hk]
 ·intro i h1 h2
  have:i < zs.length:=by simp[upto]at h1;omega
  simp[upto,this]
theorem upto_all (zs:List Int):upto zs zs.length=zs:=by rw[upto_take zs (Nat.le_refl _),List.take_length]
set_option maxRecDepth 100000 in
set_option maxHeartbeats 2000000 in
theorem values1 (F:Fence) (n:Nat) (hf:F.fn 91) (hro:F.round=none) (hn:1≤n) (l Bs n₀ b off len cap:Nat) (zs:List Int) (hreach:len*8≤140737488351232) (hb:b < n₀) (J Jx:List Int→World→Prop)
  (hY:∀pre x W,J pre W→pre.length < len→YieldAt F (n-1) Try.prog l #[.int .i64 x] W fun e W'=>
   (e= .returned (.bool true)∧J (pre++[x]) W'∧Below n₀ W W')∨(e= .returned (.bool false)∧Jx (pre++[x]) W'))
  (W:World) (hBs:W.cell? ⟨Bs,0,none⟩=some (.slice (some ⟨b,off,none⟩) len cap)) (hc:∀j,j < len→W.cell? ⟨b,off+j,none⟩=some (.int .i64 (zs[j]?.getD 0))) (h0:J [] W):
  CallsIn F n Try.prog 91 #[.func (.yield l) #[] #[],.pointer (some ⟨Bs,0,none⟩)] W fun e W'=>(∃v,e= .returned v)∧
   ((∃ys,ys=upto zs len∧J ys W')∨(∃pre,(∃k,k≤len∧pre=upto zs k)∧Jx pre W')):=by
 refine callsIn_of_wp Try.func91 rfl hf ?_ hro
 simp only[Try.ntmps91,List.size_toArray,List.length_cons,List.length_nil,Nat.reduceAdd,Nat.reduceSub,Array.replicate_succ,Array.replicate_zero,List.push_toArray,List.append_toArray,List.nil_append,List.cons_append]
 gi_wp2
 gi_loopw [7] (fun i wr=>∃k:Nat,k≤len∧i= .int .i64 k∧J (upto zs k) wr∧Below n₀ W wr)
  (fun i _=>len-(intOf i).toNat)
 case atStart=>exact⟨0,Nat.zero_le _,rfl,h0,Below.refl _ _⟩
 case round=>
  obtain⟨k,hk,rfl,hJs,hnx⟩:=hrel
  have hcx:k < len→wr.cell? ⟨b,off+k,none⟩=some (.int .i64 (zs[k]?.getD 0)):=fun h=>(hnx.cell (p:=⟨b,off+k,none⟩) hb).trans (hc k h)
  by_cases hlt:k < len
  ·obtain⟨fn,tmps,assign,body,hy,hR⟩:=hY _ (zs[k]?.getD 0) wr hJs (by rw[upto_length];exact hlt)
   have hcx':=hcx hlt
   gi_wp2
   refine hR.mono ?_
   rintro e W3 (⟨rfl,hJ3,hk3⟩|⟨rfl,hJx3⟩)
   ·gi_wp2
    go_roundw
    case rel=>exact⟨k+1,by omega,by simp,by rw[upto_succ];exact hJ3,hnx.trans hk3⟩
    case measure=>simp[intOf];omega
   ·gi_wp2
    refine bodyPost_ret (results_none rfl _ _ _) rfl ?_
    exact⟨⟨_,rfl⟩,.inr ⟨_,⟨k+1,by omega,(upto_succ _ _).symm⟩,hJx3⟩⟩
  ·obtain rfl:k=len:=by omega
   gi_wp2
   go_end0
   exact⟨⟨_,rfl⟩,.inl ⟨_,rfl,hJs⟩⟩
def HasInts (n₀:Nat) (W:World) (sv:Value) (zs:List Int):Prop:=
 (sv= .slice none 0 0∧zs=[])∨∃b off cap,sv= .slice (some ⟨b,off,none⟩) zs.length cap∧b < n₀∧∀j,j < zs.length→W.cell? ⟨b,off+j,none⟩=some (.int .i64 (zs[j]?.getD 0))
theorem HasInts.below {n₀:Nat} {A B:World} (h:Below n₀ A B) {sv:Value} {zs:List Int}:HasInts n₀ A sv zs→HasInts n₀ B sv zs
 | .inl e=> .inl e
 | .inr ⟨b,off,cap,e,hb,hc⟩=> .inr ⟨b,off,cap,e,hb,fun j hj=>(h.cell (p:=⟨b,off+j,none⟩) hb).trans (hc j hj)⟩
set_option maxRecDepth 100000 in
set_option maxHeartbeats 1000000 in
theorem values1_nil (F:Fence) (n:Nat) (hf:F.fn 91) (hro:F.round=none) (l Bs:Nat) (J:List Int→World→Prop) (W:World) (hBs:W.cell? ⟨Bs,0,none⟩=some (.slice none 0 0)) (h0:J [] W):
  CallsIn F n Try.prog 91 #[.func (.yield l) #[] #[],.pointer (some ⟨Bs,0,none⟩)] W fun e W'=>(∃v,e= .returned v)∧J [] W':=by
 refine callsIn_of_wp Try.func91 rfl hf ?_ hro
 simp only[Try.ntmps91,List.size_toArray,List.length_cons,List.length_nil,Nat.reduceAdd,Nat.reduceSub,Array.replicate_succ,Array.replicate_zero,List.push_toArray,List.append_toArray,List.nil_append,List.cons_append]
 gi_wp2
 gi_loopw [7] (fun i wr=>i= .int .i64 0∧J [] wr) (fun _ _=>0)
 case atStart=>exact⟨rfl,h0⟩
 case round=>
  obtain⟨rfl,hJs⟩:=hrel
  gi_wp2
  go_end0
  exact⟨⟨_,rfl⟩,hJs⟩
theorem values_stops (F:Fence) (n:Nat) (hf:F.fn 91) (hro:F.round=none) (hn:1≤n) (Bs n₀:Nat) (sv:Value) (zs:List Int) (hreach:zs.length*8≤140737488351232) (w:World) (hBs:Bs < w.heap.size) (hn₀:n₀≤w.heap.size)
  (hc:w.cell? ⟨Bs,0,none⟩=some sv) (hI:HasInts n₀ w sv zs):
  SeqStopsK F n Try.prog 91 #[.pointer (some ⟨Bs,0,none⟩)] (fun x:Int=> #[Value.int .i64 x]) (Below n₀) (fun ys=>ys=zs) (fun pre=>pre <+:zs) zs.length w:=fun l J Jx W hW _ _ hY h0=>by
 have hc':=(hW.cell (p:=⟨Bs,0,none⟩) hBs).trans hc
 rcases hI.below (hW.mono hn₀)with⟨rfl,rfl⟩|⟨b,off,cap,rfl,hb,hcs⟩
 ·exact (values1_nil F n hf hro l Bs J W hc' h0).mono fun e W' ⟨he,hj⟩=>⟨he,.inl ⟨_,rfl,hj⟩⟩
 ·refine (values1 F n hf hro hn l Bs n₀ b off zs.length cap zs hreach hb J Jx hY W hc' hcs h0).mono ?_
  rintro e W' ⟨he,⟨ys,rfl,hj⟩|⟨pre,⟨k,hk,rfl⟩,hj⟩⟩
  ·exact⟨he,.inl ⟨_,upto_all zs,hj⟩⟩
  ·exact⟨he,.inr ⟨_,by rw[upto_take zs hk];exact List.take_prefix _ _,hj⟩⟩
theorem infoI:(Try.prog.info? 3).map (fun i=>(i.zero,i.size,i.bytes))=some (some (.int .i64 0),1,8):=by kernel_rfl
set_option maxRecDepth 100000 in
set_option maxHeartbeats 2000000 in
theorem appendSeq (F:Fence) (n:Nat) (h1f:F.fn 111) (h9f:F.fn 91) (hro:F.round=none) (hn:3≤n) (id:Nat) (sv:Value) (zs:List Int) (hlen:zs.length≤maxLen) (hbytes:zs.length*8≤140737488351232) (w:World)
  (hid:id < w.heap.size) (hc0:w.cell? ⟨id,0,none⟩=some sv) (hI:HasInts w.heap.size w sv zs):
  CallsIn F n Try.prog 111 #[.slice none 0 0,.func (.func 91) #[] #[.pointer (some ⟨id,0,none⟩)]] w fun e W'=>∃v,e= .returned v∧W'.ownsRow w.heap.size 3 1 v zs.length (zs.map (Value.int .i64))∧(v= .slice none 0 0↔zs=[])∧Below w.heap.size w W':=by
 have h1:1≤n:=by omega
 obtain⟨i0,hi,hz0,hz1,hz2⟩:=info_parts infoI
 refine callsIn_of_wp_marks Try.func111 rfl h1f ?_ hro
 simp only[Try.ntmps111,List.size_toArray,List.length_cons,List.length_nil,Nat.reduceAdd,Nat.reduceSub,Array.replicate_succ,Array.replicate_zero,List.push_toArray,List.append_toArray,List.nil_append,List.cons_append]
 gi_wp2
 have bO:=Boxed.new w 41 (.slice none 0 0)
 have hB0:Below w.heap.size w (w.alloc (.cells #[.slice none 0 0] 41)):=(Below.refl _ w).alloc (Nat.le_refl _) _
 refine wpIn_rangeFunc_ownG hro h1 (gf:=91) (lb:= #[.pointer (some ⟨id,0,none⟩)]) rfl h9f (enters_of Try.func91 (by kernel_rfl) rfl)
  (values_stops F (n-1) h9f hro (by omega) id w.heap.size sv zs hbytes _ (by simp;omega) (by simp) ((hB0.cell (p:=⟨id,0,none⟩) hid).trans hc0) (hI.below hB0)) belowK_t (belowK_b (by simp)) (Below.refl _ _) (fun _=>rfl)
  (fun pre W=>(∃v,Boxed W w.heap.size 41 v∧W.ownsRow w.heap.size 3 1 v pre.length (pre.map (Value.int .i64))∧(v= .slice none 0 0↔pre=[]))∧Below w.heap.size w W)
  (fun _ _ _=>False)
  (OwnFrom.and (Own.from (holdsRow_own w.heap.size w.heap.size 41 3 1 (fun pre=>pre.length) (fun pre=>pre.map (Value.int .i64)) (fun pre v=>v= .slice none 0 0↔pre=[])) _) (ownFrom_below (Nat.le_refl _) (by simp)))
  (fun _ _ _ _ _ hs _ _=>hs)
  ⟨⟨_,bO,World.ownsRow_nil _ _ _ _,by simp⟩,hB0⟩
  (fun x=>{ tmps:= #[.slice none 0 0,.func (.func 91) #[] #[.pointer (some ⟨id,0,none⟩)],.pointer (some ⟨w.heap.size,0,none⟩),undef,.slice none 0 0,.int .i64 x,.func (.func 91) #[] #[.pointer (some ⟨id,0,none⟩)],.int .i64 x,undef,undef,undef,undef,undef],defers:=[] }) ?assign ?body ?done ?stop
 case assign=>
  intro l x W K hK
  gi_wp2
  exact hK
 case body=>
  rintro l pre x W ⟨⟨v,hv,hrow,hnil⟩,hB⟩ hlt
  have hc:=hv.cell
  gi_wp2_with (gi_at_builtin;refine wpListIn_append_own _ rfl _ _ 41 rfl w.heap.size 3 i0 (.int .i64 0) 1 8 Try.underlying41 hi hz0 hz1 hz2 rfl (by decide) _ _ _ rfl (hrow.alloc _) ⟨W.heap.size,0,none⟩ 1 1 [.int .i64 x] rfl rfl (cell_one_new _ _ _) (by simp[Value.oneCell']) (by omega) (by omega) (by have:=hB.size;simp;omega) ?_;intro v' w1 hown' hgrow _;obtain⟨g',cap',rfl⟩:=ownsRow_succ hown';obtain⟨hv1,hv2,hr2,hk2,hb2⟩:=hv.appended (by decide) hrow hB.size (Nat.le_refl _) hown' hgrow;have hc1:=hv1.cell;have hf1:=hv1.frozen)
  exact⟨hk2.from _,hb2,⟨_,hv2,by simpa using hr2,by simp⟩,hB.trans hb2⟩
 case done=>
  rintro D ys W hD rfl ⟨⟨v,hv,hrow,hnil⟩,hB⟩ hK
  have hc:=hv.cell
  gi_wp2
  refine⟨by simp,.inl ⟨_,_,rfl,run_takeDeferred hK,?_⟩⟩
  exact⟨_,results_tmp rfl _ _ _,v,rfl,ownsRow_putObj hrow _ hK rfl,hnil,hB.trans (belowK_b (w:=w) (Nat.le_refl _) W D _ _ (by simp at hD;omega) hK rfl rfl)⟩
 case stop=>
  rintro D c pre W _ _ h _
  exact h.elim
set_option maxRecDepth 100000 in
set_option maxHeartbeats 2000000 in
theorem collect (F:Fence) (n:Nat) (h8f:F.fn 89) (h1f:F.fn 111) (h9f:F.fn 91) (hro:F.round=none) (hn:4≤n) (id:Nat) (sv:Value) (zs:List Int) (hlen:zs.length≤maxLen) (hbytes:zs.length*8≤140737488351232) (w:World)
  (hid:id < w.heap.size) (hc0:w.cell? ⟨id,0,none⟩=some sv) (hI:HasInts w.heap.size w sv zs):
  CallsIn F n Try.prog 89 #[.func (.func 91) #[] #[.pointer (some ⟨id,0,none⟩)]] w fun e W'=>∃v,e= .returned v∧W'.ownsRow w.heap.size 3 1 v zs.length (zs.map (Value.int .i64))∧(v= .slice none 0 0↔zs=[])∧Below w.heap.size w W':=by
 have h1:1≤n:=by omega
 refine callsIn_of_wp Try.func89 rfl h8f ?_ hro
 simp only[Try.ntmps89,List.size_toArray,List.length_cons,List.length_nil,Nat.reduceAdd,Nat.reduceSub,Array.replicate_succ,Array.replicate_zero,List.push_toArray,List.append_toArray,List.nil_append,List.cons_append]
 gi_wp2_with (gi_at_call 111;refine (appendSeq F (n-1) h1f h9f hro (by omega) id sv zs hlen hbytes _ hid hc0 hI).mono ?_;rintro e W ⟨v,rfl,hrow,hnil,hb⟩)
 go_ret
 exact⟨v,rfl,hrow,hnil,hb⟩
def asc (zs:List Int):List Int:=zs.mergeSort fun x y=>decide (x≤y)
set_option maxRecDepth 100000 in
set_option maxHeartbeats 2000000 in
theorem sorted (n:Nat) (hn:5≤n) (id:Nat) (sv:Value) (zs:List Int) (hlen:zs.length≤1000000) (w:World)
  (hid:id < w.heap.size) (hc0:w.cell? ⟨id,0,none⟩=some sv) (hI:HasInts w.heap.size w sv zs):
  CallsIn Fence.wide n Try.prog 67 #[.func (.func 91) #[] #[.pointer (some ⟨id,0,none⟩)]] w fun e W'=>∃v,e= .returned v∧W'.ownsRow w.heap.size 3 1 v zs.length ((asc zs).map (Value.int .i64))∧(v= .slice none 0 0↔zs=[])∧Below w.heap.size w W':=by
 have h1:1≤n:=by omega
 have hf9:Fence.wide.fn 90:=trivial
 have hf8:Fence.wide.fn 89:=trivial
 refine callsIn_of_wp Try.func67 rfl trivial ?_ rfl
 simp only[Try.ntmps67,List.size_toArray,List.length_cons,List.length_nil,Nat.reduceAdd,Nat.reduceSub,Array.replicate_succ,Array.replicate_zero,List.push_toArray,List.append_toArray,List.nil_append,List.cons_append]
 gi_wp2_with (gi_at_call 89;refine (collect Fence.wide (n-1) trivial trivial trivial rfl (by omega) id sv zs (by simp only[maxLen];omega) (by omega) _ hid hc0 hI).mono ?_;rintro e W ⟨v,rfl,hrow,hnil,hb⟩)
 rcases hrow.2 with⟨rfl,hz⟩|⟨gb,cap,cur,rfl,hbase,hgb,r1,r2,r3,r4⟩
 ·obtain rfl:zs=[]:=List.eq_nil_of_length_eq_zero hz
  have cN:CallsIn Fence.wide (n-1) Try.prog 90 #[.slice none 0 0] W _:=callsIn_wide.2 (AnyM.slices_Sort_int_none Try.sortV none 0 W)
  gi_wp2_with (gi_at_call 90;refine cN.mono ?_;rintro e w' ⟨rfl,rfl⟩)
  go_ret
  exact⟨.slice none 0 0,rfl,by simpa [asc]using hrow,by simp,hb⟩
 ·have hH:Holds encZ W gb 0 zs.toArray:=holds_of_block_i hgb (by simpa using r4)
  have hgl:gb < W.heap.size:=(Array.getElem?_eq_some_iff.1 hgb).1
  have hsz:zs.length < 4611686018427387904:=by omega
  have cS:CallsIn Fence.wide (n-1) Try.prog 90 #[.slice (some ⟨gb,0,none⟩) zs.length cap] W _:=callsIn_wide.2 (AnyM.slices_Sort_int Try.sortV gb 0 cap zs W hH hgl hsz)
  gi_wp2_with (gi_at_call 90;refine cS.mono ?_;rintro e w' ⟨rfl,nn,os,rfl⟩)
  go_ret
  exact⟨_,rfl,ownsRow_sorted_i (by simp) hbase hgb r1 r2 r3,hnil,hb.grown (grownBy_sorted_i _) hb.size (fun j hj=>by cases hj;exact hbase)⟩
end Try
#print axioms Try.sorted
end Go.Proofs
namespace Go.Proofs.Ytjbglbhcbenhpaa.Sha
open Go Go.Abs Go.RowKit
set_option linter.unusedSimpArgs false
set_option linter.unusedVariables false
theorem shape_below {B:Nat} {w w':World} (h:Below B w w') {b:Nat} (hb:b < B):w'.shape? b=w.shape? b:=by unfold World.shape?;rw[h.block b hb]
theorem goes_below {w w':World} {M:Nat→Nat→Prop} (h:Below w.heap.size w w'):Goes w M w' M:=by
 intro a v hc hm
 have hb:a.block < w.heap.size:=by
  unfold World.cell? at hc
  cases hh:w.heap[a.block]? with
  |none=>rw[hh]at hc;simp at hc
  |some o=>exact (Array.getElem?_eq_some_iff.1 hh).1
 exact⟨(h.cell hb).trans hc,hm⟩
theorem ended_below {E:Env} {Mc:Nat→Nat→Prop} {B:Nat→Bool} {w w':World} {G:List (Nat×V)} (hs:Abs.Start E Mc B w G) (h:Below w.heap.size w w'):
  Ended Mc B w G { lam:=[],ow:=owB B,lo:=fun _=>0 } w' G where
 os:=h.os
 tape:=h.tape
 output:=h.output
 grown:=h.size
 old:=fun b hb _=>h.block b hb
 oldB:=fun b s hB hsh=>by
  have hb:=hs.blk b hB
  exact⟨(shape_below h hb).trans hsh,fun j=>h.frozen (p:=⟨b,j,none⟩) hb⟩
 mine:=fun b hb=>by
  have hB:B b=true:=by
   simp only[owB]at hb
   split at hb
   ·assumption
   ·simp at hb
  exact⟨Nat.lt_of_lt_of_le (hs.blk b hB) h.size,.inr hB⟩
 blks:=fun b hb=>by simp[owB,hb]
 objlo:=fun _ _=>rfl
 objs:=fun id x hl=>by
  obtain⟨hb,hB⟩:=hs.objs id x hl
  have hlt:=hs.blk id hB
  exact⟨BoxAt.tr (goes_below h) (fun s hsh=>(shape_below h hlt).trans hsh) (fun j=>h.frozen (p:=⟨id,j,none⟩) hlt) (fun i v hv=>(h.cell (p:=⟨id,i,none⟩) hlt).trans hv) hb,by simp[owB,hB]⟩
 objs0:=fun id r hl=>⟨r,hl,V.same_refl r⟩
def ZSo:Spec1
 |[.fn 91 [.ptr id]],G,Q=>∃zs,Abs.look G id=some (.sli .i64 zs)∧zs≠[]∧zs.length≤1000000∧Q (.v (.sli .i64 (Try.asc zs))) G
 |_,_,_=>False
theorem asc_length (zs:List Int):(Try.asc zs).length=zs.length:=List.length_mergeSort zs
theorem ret_sorted {E:Env} (hP:E.P=Try.prog):∀{vs:List V} {G:List (Nat×V)} {Q:R→List (Nat×V)→Prop},ZSo vs G Q→Ret E 67 vs G Q:=by
 intro vs G Q hz
 unfold ZSo at hz
 split at hz
 ·rename_i id
  obtain⟨zs,hl,hne,hlen,hq⟩:=hz
  intro Mc B w args hs ha hv
  obtain⟨v,hv0,hrep⟩:=hv 0 _ rfl
  obtain rfl:args= #[v]:=by
   apply Array.ext
   ·simpa using ha
   ·intro i h1 h2
    have:i=0:=by simp at h2;omega
    subst this
    simpa using (Array.getElem?_eq_some_iff.1 hv0).2
  simp only[RepW,V.isAgg,Bool.false_eq_true,if_false,RepV,RepC]at hrep
  obtain⟨us,e1,v1,r1,rfl,hc,rfl⟩:=hrep
  rcases hc with⟨hc,_⟩|⟨_,hc⟩
  ·simp[V.isAgg]at hc
  ·simp only[RepV,List.cons.injEq,and_true]at hc
   subst hc
   obtain rfl:v= .func (.func 91) #[] #[.pointer (some ⟨id,0,none⟩)]:=by simpa using e1
   obtain⟨hb,hB⟩:=hs.objs id _ hl
   have hlt:=hs.blk id hB
   obtain⟨cs,e,h1,h2,h3,h4⟩:=hb
   simp only[RepV]at h4
   obtain⟨a,cap,rfl,hcap,hnone,hrd⟩:=h4
   have hpos:0 < zs.length:=List.length_pos_iff.2 hne
   cases a with
   |none=>have:=hnone rfl;omega
   |some p=>
    have hr:=hrd p rfl
    have hz0:(zs.map (Value.int .i64))[0]? =some (.int .i64 (zs[0]?.getD 0)):=by
     rw[List.getElem?_map,List.getElem?_eq_getElem hpos];rfl
    have hspot:p.spot=none:=by
     have:=(hr 0 _ hz0).1
     unfold World.cell? at this
     rw[Addr.add_block]at this
     split at this
     ·split at this
      ·simp at this
      ·rename_i hsp
       unfold Addr.add at hsp
       cases hps:p.spot with
       |none=>rfl
       |some q=>simp[hps]at hsp
     ·simp at this
    obtain⟨b,off,spot⟩:=p
    simp only at hspot
    subst hspot
    have hcell:∀j,j < zs.length→w.cell? ⟨b,off+j,none⟩=some (.int .i64 (zs[j]?.getD 0)):=by
     intro j hj
     have:=(hr j (.int .i64 (zs[j]?.getD 0)) (by rw[List.getElem?_map,List.getElem?_eq_getElem hj];rfl)).1
     have ha:(⟨b,off,none⟩:Addr).add j=⟨b,off+j,none⟩:=by
      unfold Addr.add;split
      ·subst_vars;rfl
      ·rfl
     rwa [ha]at this
    have hbl:b < w.heap.size:=by
     have hc:=hcell 0 hpos
     unfold World.cell? at hc
     cases hh:w.heap[b]? with
     |none=>simp[hh]at hc
     |some o=>exact (Array.getElem?_eq_some_iff.1 hh).1
    have hcall:=(callsIn_wide (n:=5)).1 (Try.sorted 5 (Nat.le_refl _) id _ zs hlen w hlt (h2 0 _ rfl) (.inr ⟨b,off,cap,rfl,hbl,hcell⟩))
    rw[hP]
    refine Calls.mono hcall ?_
    rintro e' w' ⟨v,rfl,hrow,hnil,hbelow⟩
    refine⟨v,_,G,{ lam:=[],ow:=owB B,lo:=fun _=>0 },rfl,hq,ended_below hs hbelow,?_⟩
    rcases hrow.2 with⟨_,hz⟩|⟨g,cp,cur,rfl,hbase,hg,q1,q2,q3,q4⟩
    ·omega
    ·simp only[RepR,RepW,V.isAgg,Bool.false_eq_true,if_false,RepV]
     refine⟨some ⟨g,0,none⟩,cp,by rw[asc_length],by rw[asc_length];exact q1,by simp,?_⟩
     rintro p hp i u hu
     cases hp
     have ha:(⟨g,0,none⟩:Addr).add i=⟨g,i,none⟩:=by
      unfold Addr.add;split
      ·subst_vars;rfl
      ·simp
     have hi:i < zs.length:=by
      have:=(List.getElem?_eq_some_iff.1 hu).1
      rw[List.length_map,asc_length]at this;exact this
     refine⟨?_,?_⟩
     ·rw[ha]
      rw[←q4,List.getElem?_take]at hu
      split at hu
      ·unfold World.cell?;rw[hg];simpa using hu
      ·simp at hu
     ·intro hM
      rcases hM with hM|⟨hM,_⟩
      ·have:=hs.callers _ _ hM
       simp only at this;omega
      ·simp only[owB]at hM
       split at hM
       ·rename_i hBg
        have:=hs.blk _ hBg
        omega
       ·simp at hM
 ·exact hz.elim
end Go.Proofs.Ytjbglbhcbenhpaa.Sha
#print axioms Go.Proofs.Ytjbglbhcbenhpaa.Sha.ret_sorted
namespace Go.Proofs.Ytjbglbhcbenhpaa.Sha
open Go Go.Abs Go.Abs.Sha Go.Abs.Srt
set_option linter.unusedSimpArgs false
set_option linter.unusedVariables false
set_option maxRecDepth 100000
def pf68:PF:=
 PF.mk 1 3 4 ((PC.reg [nn (.v 1) (.newB (.v 0)),nn (.v 2) (.mv true (.c .jk))]).seq ((PC.reg [nn (.t 3) (.mkFn 91 [.v 1]),ma 2 3]).seq PC.ret)) [(.v
  2,none)]
def pf39:PF:=
 PF.mk 1 4 19 ((PC.reg [nn (.v 2) (.mv true (.c (.v (.int .i64 0))))]).seq (((PC.reg [mm 4 0,nn (.t 5) (.call 64 [.t 4]),nn (.t 6) (.un .not (.t
  5))]).seq (PC.cond (.t 6) ((PC.reg [nn (.v 2) (.mv true (.c (.v (.int .i64 0))))]).seq PC.ret) PC.skip)).seq ((PC.reg [mm 7 0,nn (.t 8) (.call 68
  [.t 7]),nn (.t 9) (.call 67 [.t 8]),ma 3 9]).seq ((PC.reg [mm 10 3,mm 11 3,nn (.t 12) (.len (.t 11)),mm 13 3,nn (.t 14) (.len (.t 13)),nn (.t
  15) (.call 66 [.t 14]),nn (.t 16) (.bin .sub (.t 12) (.t 15)),nn (.t 17) (.iadrS 1 (.t 10) (.t 16)),nn (.t 18) (.load 1 false (.t 17)),ma 2
  18]).seq PC.ret)))) [(.v 2,none)]
def pf33:PF:=
 PF.mk 3 9 39 ((PC.reg [nn (.v 6) (.mv true (.c (.own .nils))),nn (.v 7) (.mv true (.c (.v (.int .i64 0))))]).seq ((PC.block 0 (((PC.reg [mm 10 0,nn
  (.t 11) (.call 64 [.t 10]),nn (.t 12) (.un .not (.t 11)),nn (.t 9) (.mv true (.t 12))]).seq (PC.cond (.t 9) PC.skip ((PC.reg [mm 13 1,nn (.t 14)
  (.bin .lss (.t 13) (.c (.v (.int .i64 1)))),nn (.t 9) (.mv true (.t 14))]).seq (PC.cond (.t 9) PC.skip ((PC.reg [mm 15 1,mm 16 0,nn (.t 17) (.len
  (.t 16)),nn (.t 18) (.bin .gtr (.t 15) (.t 17)),nn (.t 9) (.mv true (.t 18))]).seq (PC.cond (.t 9) PC.skip ((PC.reg [mm 19 2,nn (.t 20) (.bin .lss
  (.t 19) (.c (.v (.int .i64 1)))),nn (.t 9) (.mv true (.t 20))]).seq (PC.cond (.t 9) PC.skip (PC.reg [mm 21 2,nn (.t 22) (.bin .gtr (.t 21) (.c (.v
  (.int .i64 1099511627776)))),nn (.t 9) (.mv true (.t 22))]))))))))).seq (PC.cond (.t 9) ((PC.reg [nn (.v 6) (.mv true (.c (.own .nils))),nn (.v 7)
  (.mv true (.c (.v (.int .i64 1))))]).seq PC.ret) ((PC.reg [mm 24 2,mm 25 0,mm 26 1,nn (.t 27) (.bin .sub (.t 26) (.c (.v (.int .i64 1)))),nn (.t
  28) (.iadrS 1 (.t 25) (.t 27)),nn (.t 29) (.load 1 false (.t 28)),nn (.t 30) (.bin .leq (.t 24) (.t 29)),nn (.t 23) (.mv true (.t 30))]).seq
  (PC.cond (.t 23) ((PC.reg [nn (.v 6) (.mv true (.c (.own .nils))),nn (.v 7) (.mv true (.c (.v (.int .i64 11))))]).seq PC.ret) PC.skip))))).seq
  ((PC.reg [mm 31 0,nn (.t 32) (.call 65 [.t 31]),ma 8 32]).seq ((PC.reg [mm 33 8,mm 34 1,nn (.t 35) (.bin .sub (.t 34) (.c (.v (.int .i64 1)))),
  mm 36 2,nn (.t 37) (.iadrS 1 (.t 33) (.t 35)),nn .no (.store 1 (.t 37) (.t 36))]).seq ((PC.reg [mm 38 8,ma 6 38,nn (.v 7) (.mv true (.c (.v (.int
  .i64 0))))]).seq PC.ret))))) [(.v 6,none),(.v 7,none)]
def pf65:PF:=
 PF.mk 1 3 8 ((PC.reg [nn (.v 2) (.mv true (.c (.own .nils)))]).seq (((PC.reg [mm 3 0,nn (.t 4) (.nileq false (.t 3))]).seq (PC.cond (.t 4) ((PC.reg
  [nn (.v 2) (.mv true (.c (.own .nils)))]).seq PC.ret) PC.skip)).seq ((PC.reg [nn (.t 5) (.slcZ (.c (.own .nils))),mm 6 0,nn (.t 7) (.appR 1 8 (.int
  .i64 0) (.t 5) (.t 6)),ma 2 7]).seq PC.ret))) [(.v 2,none)]
attribute [local irreducible] W Wops WopsD WL Wop WopD
variable {E:Env} {C:Abs.Spec} {l:List (Nat×Spec1)} {G:List (Nat×V)} {Q:R→List (Nat×V)→Prop}
set_option maxHeartbeats 1000000
def ZVv:Spec1
 |[.nils],G,Q=>∀id,Abs.look G id=none→Q (.v (.fn 91 [.ptr id])) ((id,.nils)::G)
 |[.sli .i64 xs],G,Q=>∀id,Abs.look G id=none→Q (.v (.fn 91 [.ptr id])) ((id,.sli .i64 xs)::G)
 |_,_,_=>False
theorem walk68n (h:∀id,Abs.look G id=none→Q (.v (.fn 91 [.ptr id])) ((id,.nils)::G)):Wf E C pf68 [.nils] G Q:=by
 simp -implicitDefEqProofs only[pf68,go_sem,↓reduceIte]
 exact fun id hid=>h id hid
theorem walk68s {xs:List Int} (h:∀id,Abs.look G id=none→Q (.v (.fn 91 [.ptr id])) ((id,.sli .i64 xs)::G)):Wf E C pf68 [.sli .i64 xs] G Q:=by
 simp -implicitDefEqProofs only[pf68,go_sem,↓reduceIte]
 exact fun id hid=>h id hid
def jmpV (xs:List Int):Int:=if mayV xs=true then (Try.asc xs).getD (xs.length-(quo xs.length).toNat) 0 else 0
def ZJv:Spec1
 |[x],G,Q=>∃xs:List Int,(NV x xs∧xs.length < 1000000)∧Q (.v (.int .i64 (jmpV xs))) G
 |_,_,_=>False
theorem ZJv_eq {x}:ZJv [x] G Q=(∃xs:List Int,(NV x xs∧xs.length < 1000000)∧Q (.v (.int .i64 (jmpV xs))) G):=rfl
theorem mayV_q {xs:List Int} (h:mayV xs=true):1≤(xs.length:Int)∧(xs.length:Int)≤21∧(xs.length:Int) % 2=1∧quo xs.length=(xs.length:Int) / 2+1:=by
 unfold mayV at h
 rw[Bool.and_eq_true,decide_eq_true_eq]at h
 exact quo_le (by omega)
theorem walk39 {x:V} {xs:List Int} (hM:Abs.look l 64=some ZMv) (hV:Abs.look l 68=some ZVv) (hS:Abs.look l 67=some ZSo) (hQ:Abs.look l 66=some ZQu) (hx:NV x xs) (hl:xs.length < 1000000)
  (h:∀G',Ext G G'→Q (.v (.int .i64 (jmpV xs))) G'):Wf E (specOf l) pf39 [x] G Q:=by
 have hx0:=hx
 unfold jmpV at h
 rcases hx with rfl|⟨rfl,rfl⟩
 ·simp -implicitDefEqProofs only[pf39,hM,ZMv_eq,go_sem,↓reduceIte]
  refine⟨xs,⟨hx0,hl⟩,fun h1=> ?_,fun h1=> ?_⟩
  ·rw[h1,if_neg Bool.false_ne_true]at h;exact h _ (fun _ _ h=>h)
  ·rw[h1,if_pos rfl]at h
   have hq:=mayV_q h1
   simp -implicitDefEqProofs only[hV,ZVv,hS,ZSo,go_sem,↓reduceIte]
   intro id hid
   refine⟨xs,rfl,fun e=>by rw[e]at hq;simp at hq,by omega,?_⟩
   have c1:IntKind.i64.wrap ((xs.length:Int)-quo xs.length)=((xs.length-(quo xs.length).toNat:Nat):Int):=by rw[w64 (by omega) (by omega)];omega
   have c2:((xs.length-(quo xs.length).toNat:Nat):Int) < xs.length:=by omega
   have c3:(0:Int)≤((xs.length-(quo xs.length).toNat:Nat):Int):=by omega
   simp -implicitDefEqProofs only[asc_length,hQ,ZQu_eq,c1,c2,c3,Int.toNat_natCast,go_sem,↓reduceIte]
   refine⟨I64_len hl,h _ (fun j v hj=> ?_)⟩
   rw[look_cons,if_neg (fun e=>by rw[e,hid]at hj;cases hj)];exact hj
 ·simp -implicitDefEqProofs only[pf39,hM,ZMv_eq,go_sem,↓reduceIte]
  refine⟨[],⟨hx0,hl⟩,fun h1=> ?_,fun h1=> ?_⟩
  ·rw[h1,if_neg Bool.false_ne_true]at h;exact h _ (fun _ _ h=>h)
  ·exact (Bool.false_ne_true h1).elim
end Go.Proofs.Ytjbglbhcbenhpaa.Sha
namespace Go.Abs.Sha
open Go Go.Abs Go.Abs.Srt
set_option linter.unusedVariables false
set_option linter.unusedSimpArgs false
structure AccS where
 who:Int
 vi:Int
 pv:Int
 ph:List Int
 fr:List Int
 ta:List Int
def AccS.v (a:AccS):V:= .agg [.int .i64 a.who,.int .i64 a.vi,.int .i64 a.pv,.arr .u8 32 a.ph,.sli .i64 a.fr,.arr .u8 32 a.ta]
def AccS.zero:AccS:=⟨0,0,0,zero32,[],zero32⟩
structure AccS.wf (a:AccS):Prop where
 who:I64 a.who
 vi:I64 a.vi
 pv:I64 a.pv
 ph:H32 a.ph
 fr:∀x∈a.fr,I64 x
 ta:H32 a.ta
def riseI (n:Int):Int→List Int→Bool
 |_,[]=>true
 |low,w::ws=>if w≤low∨n < w then false else riseI n w ws
def AccS.May (a:AccS):Prop:=(1≤a.who∧a.who≤21)∧(1≤a.vi∧a.vi≤1099511627776)∧(0≤a.pv∧a.pv < a.vi)∧a.fr≠[]∧riseI 21 0 a.fr=true
instance decMayA (a:AccS):Decidable a.May:=by unfold AccS.May;infer_instance
def AccS.may (a:AccS):Bool:=decide a.May
def nums:List Int→List Int
 |[]=>[]
 |x::l=>num x.toNat++nums l
def AccS.said (a:AccS):List Int:=num a.vi.toNat++num a.pv.toNat++a.ph++num a.fr.length++nums a.fr
def AccS.tag (kt:List Int) (a:AccS):List Int:=tagH kt a.who 2 a.said
def AccS.right (kt:List Int) (n:Int) (a:AccS):Bool:=
 decide (quo n≠0)&&a.may&&decide (a.who≤n)&&decide ((a.fr.length:Int)=quo n)&&decide (a.fr.getLast?.getD 0≤n)&&decide (a.ta=a.tag kt)
structure MkOk (kt:List Int) (by_ n view:Int) (l:List AttS) (a:AccS) (fs:List AttS):Prop where
 q0:quo n≠0
 ne:fs≠[]
 fr:a.fr=fs.map (·.who)
 len:(a.fr.length:Int)=quo n
 find:∀x∈fs,l.find? (fun y=>decide (y.who=x.who))=some x
 ge:∀x∈fs,x.pv≤a.pv
 told:∃x∈fs,x.pv=a.pv∧x.pa=a.ph
 right:a.right kt n=true
 may:a.May
 who:a.who=by_
end Go.Abs.Sha
namespace Go.Abs
open Go Go.RowKit
set_option linter.unusedVariables false
set_option linter.unusedSimpArgs false
theorem intsV_map {k:IntKind}:∀{l:List Int},intsV k (l.map (V.int k))=some l
 |[]=>rfl
 |x::l=>by
  simp only[List.map_cons,intsV]
  rw[if_pos (by simp),intsV_map];rfl
theorem Row.fzI {G0 G:List (Nat×V)} {k:IntKind} {z x:V} {els:List Int} (h:Row G0 G 1 z x (els.map (V.int k))) (ctx:V→R) (hf:∀id L k y,V.Fz id L k x y→R.Fz id L k (ctx x) (ctx y)) (hw:∀y,V.Wk x y→R.Wk (ctx x) (ctx y)):Low G0 (ctx x) G (ctx (.sli k els)) G0:=by
 obtain⟨he,⟨rfl,e0⟩|⟨id,c,L,rfl,h1,h2,h3,h4,h5,h6⟩⟩:=h
 ·have:els=[]:=by simpa using e0
  subst this
  refine .wk (r1:=ctx (.sli k [])) (hw _ ?_) (WkG.refl _) (.dropAll he)
  unfold V.Wk;exact .inr (.inl ⟨_,rfl⟩)
 ·refine .fz id L (some k) h1 h2 (hf id L (some k) _ ?_) (fun j y hj=> ?_) (fun j r hj=>⟨r,hj,V.same_refl r⟩) (.refl _ _)
  ·unfold V.Fz
   refine .inr ⟨rfl,h3,by omega,fun y hy=>(h6 y hy).1,?_,fun k e=>rfl⟩
   unfold elemsV;rw[List.drop_zero,h5]
   simp only[intsV_map,Option.map_some]
  ·have hne:j≠id:=by rintro rfl;rw[h1]at hj;cases hj
   exact⟨hne,y,he j y hj,V.Fz.refl y⟩
namespace Sha
end Sha
end Go.Abs
namespace Go.Abs.Sha
open Go Go.Abs
set_option linter.unusedVariables false
set_option linter.unusedSimpArgs false
abbrev Rd:=List Int×Bool
def Rd.v (s:Rd):V:= .agg [.sli .u8 s.1,.bool s.2]
structure Rd.Ok (s:Rd):Prop where
 byt:Byt s.1
end Go.Abs.Sha
namespace Go.Abs
namespace Sha
open Go
end Sha
end Go.Abs
namespace Go.Abs.Sha
open Go
set_option linter.unusedVariables false
end Go.Abs.Sha
namespace Go.Abs.Sha
open Go
set_option linter.unusedVariables false
structure RdAtt (b:List Int) (w:Bool) (a:AttS) (r:List Int) (w':Bool):Prop where
 wf:a.wf
 byt:Byt r
 len:r.length≤b.length
 suf:∃u,b=u++r
 right:w'=false→w=false∧b=num a.who.toNat++a.said++a.ta++r
def AttS.bytes (a:AttS):List Int:=num a.who.toNat++a.said++a.ta
structure SealS where
 vi:Int
 ph:Int
 pv:Int
 pa:List Int
def SealS.v (s:SealS):V:= .agg [.int .i64 s.vi,.int .i64 s.ph,.int .i64 s.pv,.arr .u8 32 s.pa]
structure SealS.wf (s:SealS):Prop where
 vi:I64 s.vi
 ph:I64 s.ph
 pv:I64 s.pv
 pa:H32 s.pa
def SealS.zero:SealS:=⟨0,0,0,zero32⟩
def SealS.May (s:SealS):Prop:=(s.vi=0∧s.ph=0∧s.pv=0∧s.pa=zero32)∨((1≤s.vi∧s.vi≤1099511627776)∧(1≤s.ph∧s.ph≤3)∧0≤s.pv∧(s.pv < s.vi∨s.pv=s.vi∧s.ph=3))
instance (s:SealS):Decidable s.May:=by unfold SealS.May;infer_instance
def SealS.may (s:SealS):Bool:=decide s.May
def SealS.said (ve:Int) (s:SealS):List Int:=num ve.toNat++num s.vi.toNat++num s.ph.toNat++num s.pv.toNat++s.pa
theorem SealS.bounds {s:SealS} (h:s.May):(0≤s.vi∧s.vi≤1099511627776)∧(0≤s.ph∧s.ph≤3)∧0≤s.pv∧s.pv≤1099511627776:=by
 rcases h with⟨h1,h2,h3,_⟩|⟨h1,h2,h3,h4⟩<;>omega
structure RdBlob (b:List Int) (w:Bool) (ve:Int) (s:SealS) (ta r:List Int) (w':Bool):Prop where
 wf:s.wf
 vr:0≤ve∧ve≤1099511627776
 tg:H32 ta
 byt:Byt r
 len:r.length≤b.length
 suf:∃u,b=u++r
 right:w'=false→w=false∧b=s.said ve++ta++r
end Go.Abs.Sha
namespace Go.Abs
open Go Go.RowKit
set_option linter.unusedVariables false
set_option linter.unusedSimpArgs false
theorem Low.rebase {G Gr:List (Nat×V)} (hd:∀j,look Gr j=none→look G j=none) (hs:∀j r,look G j=some r→∃r',look Gr j=some r'∧r.same r'=true) {r:R} {G':List (Nat×V)} {r2:R} {G2:List (Nat×V)} (h:Low Gr r G' r2 G2):Low G r G' r2 G2:=by
 induction h with
 |refl r G'=>exact .refl r G'
 |fz id L k h0 h1 h2 h3 h4 h ih=>
  refine .fz id L k (hd id h0) h1 h2 h3 (fun j r hj=> ?_) ih
  obtain⟨r',e1,e2⟩:=hs j r hj
  obtain⟨r2,e3,e4⟩:=h4 j r' e1
  exact⟨r2,e3,V.same_trans' e2 e4⟩
 |wk h1 h2 h ih=>exact .wk h1 h2 ih
 |drop h1 h2 h ih=>
  refine .drop h1 (fun j r hj=> ?_) ih
  obtain⟨r',e1,e2⟩:=hs j r hj
  obtain⟨r2,e3,e4⟩:=h2 j r' e1
  exact⟨r2,e3,V.same_trans' e2 e4⟩
theorem look_upd_none {G:List (Nat×V)} {id j:Nat} {y:V}:look (upd G id y) j=none→look G j=none:=by
 intro h
 by_cases e:j=id
 ·subst e
  cases hx:look G j with
  |none=>rfl
  |some x=>rw[look_upd_same hx]at h;cases h
 ·rwa [look_upd_ne e]at h
theorem Low.upd {G:List (Nat×V)} {id:Nat} {x y:V} (hx:look G id=some x) (hxy:x.same y=true) {r:R} {G':List (Nat×V)} {r2:R} {G2:List (Nat×V)} (h:Low (upd G id y) r G' r2 G2):Low G r G' r2 G2:=by
 refine h.rebase (fun j=>look_upd_none) (fun j r hj=> ?_)
 by_cases e:j=id
 ·subst e
  rw[hx]at hj;cases hj
  exact⟨y,look_upd_same hx,hxy⟩
 ·exact⟨r,by rw[look_upd_ne e];exact hj,V.same_refl r⟩
theorem Row.upd {G0 G:List (Nat×V)} {sz:Nat} {z x:V} {els:List V} (h:Row G0 G sz z x els) {id:Nat} {u y:V} (hid:look G0 id=some u):Row (upd G0 id y) (upd G id y) sz z x els:=by
 obtain⟨he,h⟩:=h
 have hG:=he id u hid
 refine⟨fun j w hj=> ?_,?_⟩
 ·by_cases e:j=id
  ·subst e;rw[look_upd_same hid]at hj;rw[look_upd_same hG];exact hj
  ·rw[look_upd_ne e]at hj⊢;exact he j w hj
 ·rcases h with h|⟨i,c,L,h1,h2,h3,h4⟩
  ·exact .inl h
  ·have ne:i≠id:=by rintro rfl;rw[hid]at h2;cases h2
   exact .inr ⟨i,c,L,h1,by rw[look_upd_ne ne];exact h2,by rw[look_upd_ne ne];exact h3,h4⟩
namespace Sha
structure RdMany (b:List Int) (w:Bool) (k:Nat) (l r:List Int) (w':Bool):Prop where
 num:∀x∈l,0≤x∧x≤21
 cnt:l.length=k
 byt:Byt r
 len:r.length≤b.length
 suf:∃u,b=u++r
 right:w'=false→w=false∧b=nums l++r
def AccS.bytes (a:AccS):List Int:=num a.who.toNat++a.said++a.ta
structure RdAccu (b:List Int) (w:Bool) (a:AccS) (r:List Int) (w':Bool):Prop where
 wf:a.wf
 cnt:a.fr.length≤21
 byt:Byt r
 len:r.length≤b.length
 suf:∃u,b=u++r
end Sha
end Go.Abs
namespace Go.Proofs.Ytjbglbhcbenhpaa.Sha
open Go Go.Abs Go.Abs.Sha Go.Abs.Srt
set_option linter.unusedSimpArgs false
set_option linter.unusedVariables false
set_option maxRecDepth 100000
attribute [local irreducible] W Wops WopsD WL Wop WopD
variable {E:Env} {C:Abs.Spec} {l:List (Nat×Spec1)} {G:List (Nat×V)} {Q:R→List (Nat×V)→Prop}
set_option maxHeartbeats 1000000
def hdE (xs:List Int) (i v:Int):Int:=if mayV xs=true∧1≤i∧i≤xs.length∧1≤v∧v≤1099511627776 then (if v≤xs.getD (i-1).toNat 0 then 11 else 0)else 1
def hdV (xs:List Int) (i v:Int):V:=if hdE xs i v=0 then .sli .i64 (xs.set (i-1).toNat v)else .nils
def ZLv:Spec1
 |[.sli .i64 xs],G,Q=>(1≤xs.length∧xs.length < 1000000)∧∀id c,Abs.look G id=none→xs.length≤c→Q (.v (.sob id 1 0 xs.length c)) ((id,.agg (xs.map (V.int .i64)++List.replicate (c-xs.length) (.int .i64 0)))::G)
 |_,_,_=>False
theorem detLvx {α:Prop} {A:Prop} {G:List (Nat×V)} {n:Nat} {x:Nat→Nat→V} {B:Nat→Nat→Prop} (h:A∧∀id c,Abs.look G id=none→n≤c→(((id,x id c)::G)=G∧B id c)):α:=by
 obtain⟨id,hid⟩:=fresh_id G
 have:=congrArg List.length (h.2 id n hid (Nat.le_refl _)).1
 simp at this
theorem ZLv_eq {xs}:ZLv [.sli .i64 xs] G Q=((1≤xs.length∧xs.length < 1000000)∧∀id c,Abs.look G id=none→xs.length≤c→Q (.v (.sob id 1 0 xs.length c)) ((id,.agg (xs.map (V.int .i64)++List.replicate (c-xs.length) (.int .i64 0)))::G)):=rfl
def ZHv:Spec1
 |[x,.int .i64 i,.int .i64 v],G,Q=>∃xs:List Int,(NV x xs∧xs.length < 1000000∧I64 i∧I64 v)∧Q (.tup [hdV xs i v,.int .i64 (hdE xs i v)]) G
 |_,_,_=>False
theorem ZHv_eq {x i v}:ZHv [x,.int .i64 i,.int .i64 v] G Q=(∃xs:List Int,(NV x xs∧xs.length < 1000000∧I64 i∧I64 v)∧Q (.tup [hdV xs i v,.int .i64 (hdE xs i v)]) G):=rfl
theorem walk65 {xs:List Int} (hp:1≤xs.length) (hl:xs.length < 1000000) (h:∀id c,Abs.look G id=none→xs.length≤c→Q (.v (.sob id 1 0 xs.length c)) ((id,.agg (xs.map (V.int .i64)++List.replicate (c-xs.length) (.int .i64 0)))::G)):Wf E C pf65 [.sli .i64 xs] G Q:=by
 have hne:¬List.map (V.int .i64) xs=[]:=fun e=>by rw[List.map_eq_nil_iff]at e;rw[e]at hp;simp at hp
 simp -implicitDefEqProofs only[pf65,List.length_map,go_sem,↓reduceIte]
 refine fun b hb=>⟨fun h1=> ?_,fun h1=>⟨⟨by omega,fun x hx=> ?_⟩,fun e=>(hne e).elim,fun _ id c h2 h3=>h id c h2 h3⟩⟩
 ·have:=hb h1
  omega
 ·obtain⟨y,_,rfl⟩:=List.mem_map.1 hx
  rfl
theorem row_set {xs:List Int} {k:Nat} {v:Int} {id c:Nat} (h2:Abs.look G id=none) (h3:xs.length≤c):
  Row G ((id,.agg ((xs.set k v).map (V.int .i64)++List.replicate (c-xs.length) (.int .i64 0)))::G) 1 (.int .i64 0) (.sob id 1 0 xs.length c) ((xs.set k v).map (V.int .i64)):=by
 refine⟨fun j x hj=> ?_,.inr ⟨id,c,_,by simp,h2,by rw[look_cons,if_pos rfl],by simpa using h3,by simp;omega,by simp,fun y hy=> ?_⟩⟩
 ·rw[look_cons,if_neg (fun e=>by rw[e,h2]at hj;cases hj)];exact hj
 ·rcases List.mem_append.1 hy with hy|hy
  ·obtain⟨z,_,rfl⟩:=List.mem_map.1 hy
   exact⟨rfl,rfl⟩
  ·rw[(List.mem_replicate.1 hy).2];exact⟨rfl,rfl⟩
theorem low_tupI {G0 G:List (Nat×V)} {z x e:V} {els:List Int} (h:Row G0 G 1 z x (els.map (V.int .i64))):Low G0 (.tup [x,e]) G (.tup [.sli .i64 els,e]) G0:=by
 refine h.fzI (fun y=> .tup [y,e]) (fun id L k y hy=> ?_) (fun y hy=> ?_)
 ·simp only[R.Fz]
  refine⟨_,rfl,?_⟩
  unfold V.FzL;exact⟨_,_,rfl,hy,V.FzL.refl _⟩
 ·simp only[R.Wk]
  refine⟨_,rfl,?_⟩
  unfold V.WkL;exact⟨_,_,rfl,hy,V.WkL.refl _⟩
theorem at_rep {xs:List Int} {k m:Nat} (hk:k < xs.length):(List.map (V.int .i64) xs++List.replicate m (V.int .i64 0))[k]? =some (.int .i64 (xs.getD k 0)):=by
 rw[List.getElem?_append_left (by simpa using hk),List.getElem?_map,List.getD_eq_getElem?_getD,List.getElem?_eq_getElem hk];rfl
theorem set_rep {xs:List Int} {k m:Nat} {v:Int} (hk:k < xs.length):(List.map (V.int .i64) xs++List.replicate m (V.int .i64 0)).set k (.int .i64 v)=(xs.set k v).map (V.int .i64)++List.replicate m (V.int .i64 0):=by
 rw[List.set_append_left _ _ (by simpa using hk),List.map_set]
theorem sz_rep {xs:List Int} {m:Nat}:∀(x:V),x∈List.map (V.int .i64) xs++List.replicate m (V.int .i64 0)→x.size=1:=by
 intro x hx
 rcases List.mem_append.1 hx with hx|hx
 ·obtain⟨z,_,rfl⟩:=List.mem_map.1 hx;rfl
 ·rw[(List.mem_replicate.1 hx).2];rfl
theorem hd_no {xs:List Int} {i v:Int} (h:¬(mayV xs=true∧1≤i∧i≤xs.length∧1≤v∧v≤1099511627776)):hdE xs i v=1∧hdV xs i v= .nils:=by
 have e:hdE xs i v=1:=by unfold hdE;rw[if_neg h]
 exact⟨e,by unfold hdV;rw[e,if_neg (by decide)]⟩
theorem hd_old {xs:List Int} {i v:Int} (h:mayV xs=true∧1≤i∧i≤xs.length∧1≤v∧v≤1099511627776) (h2:v≤xs.getD (i-1).toNat 0):hdE xs i v=11∧hdV xs i v= .nils:=by
 have e:hdE xs i v=11:=by unfold hdE;rw[if_pos h,if_pos h2]
 exact⟨e,by unfold hdV;rw[e,if_neg (by decide)]⟩
theorem hd_ok {xs:List Int} {i v:Int} (h:mayV xs=true∧1≤i∧i≤xs.length∧1≤v∧v≤1099511627776) (h2:¬v≤xs.getD (i-1).toNat 0):hdE xs i v=0∧hdV xs i v= .sli .i64 (xs.set (i-1).toNat v):=by
 have e:hdE xs i v=0:=by unfold hdE;rw[if_pos h,if_neg h2]
 exact⟨e,by unfold hdV;rw[e,if_pos rfl]⟩
theorem walk33 {x:V} {xs:List Int} {i v:Int} (hM:Abs.look l 64=some ZMv) (hC:Abs.look l 65=some ZLv) (hx:NV x xs) (hl:xs.length < 1000000) (hi:I64 i) (hv:I64 v) (h:Q (.tup [hdV xs i v,.int .i64 (hdE xs i v)]) G):Wf E (specOf l) pf33 [x,.int .i64 i,.int .i64 v] G (fun r G'=>∃r2 G2,Low G r G' r2 G2∧Q r2 G2):=by
 have hx0:=hx
 unfold I64 at hi hv
 have t1:mayV xs=false∨i < 1∨(xs.length:Int) < i∨v < 1∨1099511627776 < v→Q (.tup [.nils,.int .i64 1]) G:=fun hn=>by
  have:=hd_no (xs:=xs) (i:=i) (v:=v) (fun e=>by
   rcases hn with hn|hn|hn|hn|hn
   ·rw[hn]at e;exact Bool.false_ne_true e.1
   all_goals omega)
  rw[this.1,this.2]at h;exact h
 by_cases c0:mayV xs=true∧1≤i∧i≤xs.length∧1≤v∧v≤1099511627776
 ·have c00:=c0
  obtain⟨q0,q1,q2,q3,q4⟩:=c0
  rcases hx with rfl|⟨rfl,rfl⟩
  ·have w1:IntKind.i64.wrap (i-1)=i-1:=w64 (by omega) (by omega)
   have r1:¬i < 1:=by omega
   have r2:¬(xs.length:Int) < i:=by omega
   have r3:¬v < 1:=by omega
   have r4:¬1099511627776 < v:=by omega
   have r5:(0:Int)≤i-1:=by omega
   have r6:i-1 < (xs.length:Int):=by omega
   have hk:(i-1).toNat < xs.length:=by omega
   simp -implicitDefEqProofs only[pf33,hM,ZMv_eq,go_sem,↓reduceIte]
   refine⟨xs,⟨hx0,hl⟩,?_⟩
   simp -implicitDefEqProofs only[q0,r1,r2,r3,r4,r5,r6,w1,hC,ZLv_eq,go_sem,↓reduceIte]
   refine fun _ _ _ _=>⟨fun h1=> ?_,fun h1=>⟨⟨by omega,hl⟩,fun id c h2 h3=> ?_⟩⟩
   ·obtain⟨e1,e2⟩:=hd_old c00 h1
    rw[e1,e2]at h
    exact⟨_,_,.refl _ _,h⟩
   ·obtain⟨e1,e2⟩:=hd_ok c00 (by omega)
    rw[e1,e2]at h
    simp -implicitDefEqProofs only[at_rep hk,set_rep hk,r5,r6,w1,List.length_map,List.length_replicate,go_sem,↓reduceIte]
    refine⟨⟨by omega,sz_rep⟩,⟨_,_,low_tupI (row_set h2 h3),h⟩⟩
  ·simp at q2;omega
 ·have n1:Q (.tup [.nils,.int .i64 1]) G:=t1 (by
   by_cases e:mayV xs=true
   ·right
    by_cases e1:i < 1
    ·exact .inl e1
    ·by_cases e2:(xs.length:Int) < i
     ·exact .inr (.inl e2)
     ·by_cases e3:v < 1
      ·exact .inr (.inr (.inl e3))
      ·by_cases e4:1099511627776 < v
       ·exact .inr (.inr (.inr e4))
       ·exact (c0 ⟨e,by omega,by omega,by omega,by omega⟩).elim
   ·exact .inl (by simpa using e))
  have n2:∃r2 G2,Low G (.tup [.nils,.int .i64 1]) G r2 G2∧Q r2 G2:=⟨_,_,.refl _ _,n1⟩
  by_cases e:mayV xs=true
  ·rcases hx with rfl|⟨rfl,rfl⟩
   ·by_cases e1:i < 1
    ·have f1:¬1≤i:=by omega
     simp -implicitDefEqProofs only[pf33,hM,ZMv_eq,go_sem,↓reduceIte]
     refine⟨xs,⟨hx0,hl⟩,?_⟩
     simp -implicitDefEqProofs only[e,e1,f1,go_sem,↓reduceIte]
     first|exact n2|exact fun _=>n2|exact fun _ _=>n2|exact fun _ _ _=>n2|exact fun _ _ _ _=>n2
    ·have f1:1≤i:=by omega
     by_cases e2:(xs.length:Int) < i
     ·have f2:¬i≤xs.length:=by omega
      simp -implicitDefEqProofs only[pf33,hM,ZMv_eq,go_sem,↓reduceIte]
      refine⟨xs,⟨hx0,hl⟩,?_⟩
      simp -implicitDefEqProofs only[e,e1,f1,e2,f2,go_sem,↓reduceIte]
      first|exact n2|exact fun _=>n2|exact fun _ _=>n2|exact fun _ _ _=>n2|exact fun _ _ _ _=>n2
     ·have f2:i≤xs.length:=by omega
      by_cases e3:v < 1
      ·have f3:¬1≤v:=by omega
       simp -implicitDefEqProofs only[pf33,hM,ZMv_eq,go_sem,↓reduceIte]
       refine⟨xs,⟨hx0,hl⟩,?_⟩
       simp -implicitDefEqProofs only[e,e1,f1,e2,f2,e3,f3,go_sem,↓reduceIte]
       first|exact n2|exact fun _=>n2|exact fun _ _=>n2|exact fun _ _ _=>n2|exact fun _ _ _ _=>n2
      ·have f3:1≤v:=by omega
       have e4:1099511627776 < v:=by
        apply Decidable.byContradiction
        intro e4
        exact c0 ⟨e,f1,f2,f3,by omega⟩
       have f4:¬v≤1099511627776:=by omega
       simp -implicitDefEqProofs only[pf33,hM,ZMv_eq,go_sem,↓reduceIte]
       refine⟨xs,⟨hx0,hl⟩,?_⟩
       simp -implicitDefEqProofs only[e,e1,f1,e2,f2,e3,f3,e4,f4,go_sem,↓reduceIte]
       first|exact n2|exact fun _=>n2|exact fun _ _=>n2|exact fun _ _ _=>n2|exact fun _ _ _ _=>n2
   ·exact (Bool.false_ne_true e).elim
  ·have e:mayV xs=false:=by simpa using e
   simp -implicitDefEqProofs only[pf33,hM,ZMv_eq,go_sem,↓reduceIte]
   refine⟨xs,⟨hx0,hl⟩,?_⟩
   simp -implicitDefEqProofs only[e,go_sem,↓reduceIte]
   first|exact n2|exact fun _=>n2|exact fun _ _=>n2|exact fun _ _ _=>n2|exact fun _ _ _ _=>n2
def rjF (xs:List Int):Int→List Int→Int
 |b,[]=>b
 |b,p::r=>if b < p∧quo xs.length≤cntE p xs then rjF xs p r else rjF xs b r
end Go.Proofs.Ytjbglbhcbenhpaa.Sha
