/- From the program's own text to the text over plain values. -/
import Derived.Test.YtjbglbhcbenhpaaPlain1
namespace Go.Abs
open Go Go.RowKit
set_option linter.unusedVariables false
mutual
/-- The cells of a zero value. -/
def V.zc:V→Option (List Value)
 | .int k n=>if n=0 then some [.int k 0]else none
 | .bool b=>if b=false then some [.bool false]else none
 | .str s=>if s.data.toList.length=0 then some [.string ⟨#[]⟩]else none
 | .arr k n xs=>if xs.length=n∧xs.all (·==0)then some (List.replicate n (.int k 0))else none
 | .agg l=>V.zcL l
 | .nils=>some [.slice none 0 0]
 | .nilp=>some [.pointer none]
 | .nili=>some [.nilIface]
 |_=>none
def V.zcL:List V→Option (List Value)
 |[]=>some []
 |x::l=>match x.zc,V.zcL l with
  |some a,some b=>some (a++b)
  |_,_=>none
end
def sameZ:Value→Value→Bool
 | .bool a,.bool b=>a==b
 | .int k a,.int k' b=>k==k'&&a==b
 | .string a,.string b=>a.data.toList.length==0&&b.data.toList.length==0
 | .slice none 0 0,.slice none 0 0=>true
 | .pointer none,.pointer none=>true
 | .nilIface,.nilIface=>true
 |_,_=>false
def sameZs:List Value→List Value→Bool
 |[],[]=>true
 |a::l,b::m=>sameZ a b&&sameZs l m
 |_,_=>false
def zeroOf (P:Program):Nat→TypeId→Option V
 |0,_=>none
 |n+1,t=>match P.underlying t with
  |some .bool=>some (.bool false)
  |some (.int k)=>some (.int k 0)
  |some .string=>some (.str ⟨#[]⟩)
  |some (.slice _)=>some .nils
  |some (.pointer _)=>some .nilp
  |some (.interface _)=>some .nili
  |some (.struct fs)=>(fs.toList.mapM fun f=>zeroOf P n f.type).map .agg
  |some (.array m e)=>match P.underlying e with
   |some (.int k)=>some (.arr k m (List.replicate m 0))
   |_=>(zeroOf P n e).map fun z=> .agg (List.replicate m z)
  |_=>none
def zeroOk (P:Program) (t:TypeId):Option V:=match zeroOf P 12 t,P.info? t with
 |some z,some i=>match z.zc,i.zero with
  |some cs,some v=>if sameZs cs v.cells.toList=true∧z.isAgg=(match v with| .agg _=>true|_=>false)then some z else none
  |_,_=>none
 |_,_=>none
def intK (P:Program) (t:TypeId):Option IntKind:=match P.underlying t with
 |some (.int k)=>some k
 |_=>none
def szAg (P:Program) (t:TypeId):Option (Nat×Bool):=match P.info? t,P.underlying t with
 |some i,some d=>some (i.size,aggB d)
 |_,_=>none
def fstArg (f:Operand) (t:Tmp):Bool:=match f with
 | .tmp u=>u==t
 |_=>false
def feedsApp (ops:List Oper) (dst:Option Tmp):Bool:=match dst with
 |none=>false
 |some t=>ops.any fun o=>match o.op with
  | .call { callee:= .builtin .append,args,.. }=>fstArg (args.getD 0 (.global 0)) t
  |_=>false
def feedsCopy (ops:List Oper) (dst:Option Tmp):Bool:=match dst with
 |none=>false
 |some t=>ops.any fun o=>match o.op with
  | .call { callee:= .builtin .copy,args,.. }=>fstArg (args.getD 0 (.global 0)) t
  |_=>false
def partsOk (P:Program) (z:V) (fs:List Field):Bool:=(match z with| .agg l=>l.length==fs.length|_=>false)&&(fs.zipIdx.all fun (f,i)=>decide (z.off [i]=some f.offset)&&match z.sub [i],P.info? f.type with
 |some y,some j=>y.size==j.size
 |_,_=>false)
def constD:Value→Option D
 | .int k n=>some (.v (.int k n))
 | .bool b=>some (.v (.bool b))
 | .string s=>some (.v (.str s))
 | .slice none 0 0=>some (.own .nils)
 | .pointer none=>some (.v .nilp)
 | .nilIface=>some (.v .nili)
 | .nilFunc=>some .jk
 |_=>none
def aoOf (K:Nat):Operand→Option AO
 | .tmp t=>some (if t < K then .v t else .t t)
 | .const v=>(constD v).map .c
 | .global g=>some (.c (.gl g))
 | .func f=>some (.c (.fn f))
def aosOf (K:Nat):List Operand→Option (List AO)
 |[]=>some []
 |x::l=>consO (aoOf K x) (aosOf K l)
def aopOf (K:Nat):Option Operand→Option (Option AO)
 |none=>some none
 |some x=>(aoOf K x).map some
def aopsOf (K:Nat):List (Nat×Operand)→Option (List (Nat×AO))
 |[]=>some []
 |(i,x)::l=>match aoOf K x,aopsOf K l with
  |some a,some m=>some ((i,a)::m)
  |_,_=>none
def elOf (P:Program) (f:TypeId→Option ET):List Field→Option EL
 |[]=>some .nil
 |fd::l=>match f fd.type,szAg P fd.type,elOf P f l with
  |some e,some (n,g),some r=>if (fd.name== "_")=true then none else some (.cons fd.offset n g e r)
  |_,_,_=>none
def etOf (P:Program):Nat→TypeId→Option ET
 |0,_=>none
 |n+1,t=>match P.underlying t with
  |some .bool=>some .bool
  |some (.int _)=>some .int
  |some .string=>some .str
  |some (.struct fs)=>if P.stoodInHeld t=true then none else (elOf P (etOf P n) fs.toList).map .agg
  |some (.array m e)=>match P.underlying e,szAg P e with
   |some (.int _),some (1,false)=>some (.arr m)
   |_,_=>none
  |_=>none
def kOk (k:Option IntKind) (sz:Nat) (z:V):Bool:=match k with
 |none=>true
 |some k=>sz==1&&(match z with| .int k' 0=>k==k'|_=>false)
def cvtOf (t:Nat) (o:Oper):Bool:=match o.op with
 | .convert _ _ x=>fstArg x t
 |_=>false
def feedsCvt (ops:List Oper) (dst:Option Tmp):Bool:=match dst with
 |none=>false
 |some t=>ops.any (cvtOf t)
def feedsRes (ops:List Oper) (dst:Option Tmp):Bool:=match dst,ops with
 |some t,[_,o]=>match o.op with
  | .assign x=>fstArg x t
  |_=>false
 |_,_=>false
def cutOf (t:Nat) (o:Oper):Bool:=match o.op with
 | .slice _ x none (some _) none=>fstArg x t
 |_=>false
def feedsCut (ops:List Oper) (dst:Option Tmp):Bool:=match dst with
 |none=>false
 |some t=>ops.any (cutOf t)
def isAppZ (P:Program) (t:Nat) (o:Oper):Bool:=match o.dst,o.op with
 |some u,.call { callee:= .builtin .append,argTypes,.. }=>u==t&&(match (argTypes[1]?).bind P.underlying with
  |some (.int _)=>true
  |_=>false)
 |_,_=>false
def fromApp (P:Program) (ops:List Oper):Operand→Bool
 | .tmp t=>ops.any (isAppZ P t)
 |_=>false
def bin2 (K:Nat) (f:AO→AO→PO) (x y:Operand):Option PO:=match aoOf K x,aoOf K y with
 |some a,some b=>some (f a b)
 |_,_=>none
def bin1 (K:Nat) (f:AO→PO) (x:Operand):Option PO:=(aoOf K x).map f
def feedsCall (P:Program) (ops:List Oper) (dst:Option Tmp):Bool:=match dst with
 |none=>false
 |some t=>ops.any fun o=>match o.op with
  | .call { callee:= .value (.func g),args,.. }=>calleeOk P g&&args.toList.any fun a=>fstArg a t
  |_=>false
def prepSlc (K:Nat) (f:AO→Option AO→Option AO→Option AO→PO) (x:Operand) (lo hi mx:Option Operand):Option PO:=match aoOf K x,aopOf K lo,aopOf K hi,aopOf K mx with
 |some x,some lo,some hi,some mx=>some (f x lo hi mx)
 |_,_,_,_=>none
def isZ3 (r:Option Nat) (lo hi mx:Option Operand):Bool:=match r,lo,hi,mx with
 |some 0,none,some (.const (.int _ 0)),some (.const (.int _ 0))=>true
 |_,_,_,_=>false
def appOf (r:Option Nat) (k:Option IntKind) (sz bytes:Nat) (z:V) (x y:AO):PO:=match r with
 |some 0=> .appR sz bytes z x y
 |some 1000001=> .appI sz x y
 |_=> .app k sz bytes x y
def atomK (P:Program) (g:Nat):Option Nat:=match P.funcs[g]? with
 |some fn=>if (fn.body.isNone&& !(fn.name== "runtime.NumGoroutine"))=true then (if (fn.origin== "")=false then none else if (fn.name== "sync/atomic.LoadInt64")=true then some 0 else if (fn.name== "sync/atomic.StoreInt64")=true then some 1 else if (fn.name== "sync/atomic.AddInt64")=true then some 2 else none)else none
 |none=>none
def prepAtom (K:Nat):Option Nat→List Operand→Option PO
 |some 0,[x]=>bin1 K .atLd x
 |some 1,[x,y]=>bin2 K .atSt x y
 |some 2,[x,y]=>bin2 K .atAdd x y
 |_,_=>none
def prepOp (P : Program) (K : Nat) (ops : List Oper) (r : Option Nat) (o : Oper) : Option PO := match o.op with
  | .move x => bin1 K (.mv (feedsApp ops o.dst || feedsRes ops o.dst)) x
  | .assign x => bin1 K (.mv true) x
  | .pick c a b => match aoOf K c, aoOf K a, aoOf K b with
    | some c, some a, some b => some (.pick c a b)
    | _, _, _ => none
  | .alloc t => (zeroOk P t).map (match r with | none => .alloc | some 0 => .new | some (r + 1) => .allocAt (r + 1))
  | .box t x => bin1 K (match r with | none => .box | some 0 => .newB | some (r + 1) => .boxAt (r + 1)) x
  | .build t ps => match zeroOk P t, P.underlying t, aopsOf K ps.toList with
    | some z, some (.struct fs), some ps => if partsOk P z fs.toList = true then some (.build z ps) else none
    | some (.arr k n xs), some (.array _ e), some ps => match szAg P e with
      | some (1, _) => some (.build (.arr k n xs) ps)
      | _ => none
    | _, _, _ => none
  | .buildSlice t len ps => match P.underlying t with
    | some (.slice e) => match zeroOk P e, szAg P e, aopsOf K ps.toList with
      | some z, some (sz, _), some ps => if len * sz ≤ 16777216 ∧ sz ≠ 0 ∧ z.size = sz then (if r = some 0 ∧ len = 0 ∧ ps.isEmpty = true then some (.slcZ (.c (.own .nils))) else if feedsCvt ops o.dst = true then some (.buildR (intK P e) sz z len ps) else some (.buildS (intK P e) sz z len ps)) else none
      | _, _, _ => none
    | _ => none
  | .load t a => match szAg P t with
    | some (n, g) => bin1 K (.load n g) a
    | none => none
  | .store t a x => match szAg P t, o.dst with
    | some (n, _), none => bin2 K (.store n) a x
    | _, _ => none
  | .nilCheck x => bin1 K .nilc x
  | .binOp op t x y _ => match P.underlying t with
    | some (.int _) | some .string => bin2 K (.bin op) x y
    | some .bool => bin2 K (.binB op) x y
    | some (.pointer _) => bin2 K (.binP op) x y
    | some (.slice _) => (match op, x, y with
      | .eql, _, .const (.slice none 0 0) => bin1 K (.nileq false) x
      | .neq, _, .const (.slice none 0 0) => bin1 K (.nileq true) x
      | _, _, _ => none)
    | some (.struct _) | some (.array _ _) => match etOf P 12 t with
      | some e => if P.eqGuardType P.depth t = true then none else (match op with
        | .eql => bin2 K (.eqa false e) x y
        | .neq => bin2 K (.eqa true e) x y
        | _ => none)
      | none => none
    | _ => none
  | .unOp op _ x => bin1 K (.un op) x
  | .convert s t x => match P.underlying s, P.underlying t with
    | some (.int _), some (.int k) => bin1 K (.conv k) x
    | some (.slice _), some (.slice e) => match P.underlying e with
      | some (.int .u8) => if s = t then bin1 K .cvt x else none
      | _ => none
    | some .string, some (.slice e) => match P.underlying e with
      | some (.int .u8) => bin1 K (.s2b false) x
      | _ => none
    | some (.slice e), some .string => match P.underlying e with
      | some (.int .u8) => bin1 K (.s2b true) x
      | _ => none
    | _, _ => none
  | .fieldAddr s x f => match P.underlying s with
    | some (.struct fs) => match fs[f]? with
      | some fd => match P.info? fd.type with
        | some i => if i.size = 0 then none else if feedsCall P ops o.dst = true ∧ fd.offset = 0 then bin1 K .fad0 x else bin1 K (.fadr f fd.offset) x
        | none => none
      | none => none
    | _ => none
  | .field s x f => match P.underlying s with
    | some (.struct fs) => match fs[f]? with
      | some fd => match szAg P fd.type with
        | some (n, g) => bin1 K (.fld f fd.offset n g) x
        | none => none
      | none => none
    | _ => none
  | .indexAddr t x i => match P.underlying t with
    | some (.array n e) => match szAg P e with
      | some (1, false) => bin2 K (if (intK P e).isSome = true then .iadrA n else .iadrG n 1) x i
      | some (sz, true) => bin2 K (.iadrG n sz) x i
      | _ => none
    | some (.slice e) => match szAg P e with
      | some (n, _) => bin2 K (.iadrS n) x i
      | none => none
    | _ => none
  | .index t x i => match P.underlying t with
    | some .string => bin2 K .idxS x i
    | some (.array n e) => match szAg P e with
      | some (1, false) => bin2 K (.idxA n) x i
      | _ => none
    | _ => none
  | .slice t x lo hi mx => match P.underlying t with
    | some (.array n e) => match szAg P e with
      | some (1, _) => prepSlc K (.slcA n (feedsCopy ops o.dst)) x lo hi mx
      | _ => none
    | some (.slice e) => match szAg P e with
      | some (n, _) => if isZ3 r lo hi mx = true then bin1 K .slcZ x else (match lo, hi, mx with
        | none, some h, none => if fromApp P ops x = true then bin2 K (.cutG n) x h else prepSlc K (.slcS n) x none (some h) none
        | lo, hi, mx => prepSlc K (.slcS n) x lo hi mx)
      | none => none
    | some .string => match mx with
      | none => prepSlc K (fun x lo hi _ => .slcT x lo hi) x lo hi none
      | some _ => none
    | _ => none
  | .extract x i => bin1 K (.ext · i) x
  | .sliceToArrayPointer t x => match P.underlying t with
    | some (.array n e) => match szAg P e with
      | some (1, _) => if n = 0 then none else bin1 K (.s2a n) x
      | _ => none
    | _ => none
  | .makeSlice t l c => match P.underlying t with
    | some (.slice e) => match zeroOk P e, szAg P e, P.info? e with
      | some z, some (sz, _), some i => if sz ≠ 0 ∧ z.size = sz ∧ i.bytes ≠ 0 ∧ kOk (intK P e) sz z = true then bin2 K (.mkS (intK P e) sz i.bytes z) l c else none
      | _, _, _ => none
    | _ => none
  | .call { callee := .builtin .len, args, argTypes } => match args.toList, (argTypes[0]?).bind P.underlying with
    | [x], some .string => bin1 K .lenT x
    | [x], some (.slice _) => bin1 K .len x
    | _, _ => none
  | .call { callee := .builtin .cap, args, argTypes } => match args.toList, (argTypes[0]?).bind P.underlying with
    | [x], some (.slice _) => bin1 K .capN x
    | _, _ => none
  | .call { callee := .builtin .append, args, argTypes } => match args.toList, (argTypes[0]?).bind P.underlying, (argTypes[1]?).bind P.underlying with
    | [x, y], some (.slice e), some (.slice _) | [x, y], some (.slice e), some .string => match szAg P e, P.info? e, zeroOk P e with
      | some (sz, _), some i, some z => if sz = 0 ∨ z.size ≠ sz ∨ i.bytes = 0 ∨ kOk (intK P e) sz z = false then none else bin2 K (appOf r (intK P e) sz i.bytes z) x y
      | _, _, _ => none
    | [x, y], some (.slice e), some (.int _) => match szAg P e, P.info? e, zeroOk P e with
      | some (sz, _), some i, some z => if sz = 0 ∨ z.size ≠ sz ∨ i.bytes = 0 ∨ kOk (intK P e) sz z = false then none else bin2 K (if feedsCut ops o.dst = true then .appG (intK P e) sz i.bytes z else .appZ (intK P e) sz i.bytes z) x y
      | _, _, _ => none
    | _, _, _ => none
  | .call { callee := .builtin .copy, args, argTypes } => match args.toList, (argTypes[0]?).bind P.underlying with
    | [x, y], some (.slice e) => match szAg P e with
      | some (1, _) => bin2 K .copy x y
      | _ => none
    | _, _ => none
  | .call { callee := .builtin .max, args, .. } => (aosOf K args.toList).map (.mm true)
  | .call { callee := .builtin .min, args, .. } => (aosOf K args.toList).map (.mm false)
  | .call { callee := .value (.func g), args, .. } => if calleeOk P g = true then (aosOf K args.toList).map (if r = some 2000001 then .callW g else .call g) else prepAtom K (atomK P g) args.toList
  | .call { callee := .value (.tmp f), args, .. } => match aoOf K (.tmp f), aosOf K args.toList with
    | some x, some as => some (.callV x as)
    | _, _ => none
  | .call { callee := .builtin .clear, args, argTypes } => match args.toList, (argTypes[0]?).bind P.underlying, o.dst with
    | [x], some (.slice e), none => match szAg P e, zeroOk P e with
      | some (sz, _), some z => if sz = 0 then none else bin1 K (.clr sz z) x
      | _, _ => none
    | _, _, _ => none
  | .makeFunc (.func f) first captured => if first.isEmpty = true then (aosOf K captured.toList).map (.mkFn f) else none
  | _ => none
def adOf (K N:Nat):Option Tmp→Option AD
 |none=>some .no
 |some t=>if t < K then some (.v t)else if t < N then some (.t t)else none
def prepG (K:Nat) (ops:List Oper):Option (Nat×Bool)→Option (Option (AO×Bool))
 |none=>some none
 |some (j,w)=>match (ops[j]?).bind (·.dst)with
  |some t=>some (some (if t < K then .v t else .t t,w))
  |none=>none
def prepI (P:Program) (K N:Nat) (ops:List Oper) (r:Option Nat) (o:Oper):Option PI:=match adOf K N o.dst,prepG K ops o.guard with
 |some d,some g=>some ⟨d,(prepOp P K ops r o).getD .bad,g⟩
 |_,_=>none
def cntA:List Oper→Nat
 |[]=>0
 |o::l=>match o.op with
  | .alloc _=>cntA l+1
  | .box _ _=>cntA l+1
  |_=>cntA l
def rOf (es:List Nat) (d:Bool) (n:Nat):Option Nat→Option Nat
 |some t=>if es.contains t=true then some 0 else if es.contains (t+1000000)=true then some 1000001 else if es.contains (t+2000000)=true then some 2000001 else if d=true∧n≠0 then some n else none
 |none=>if d=true∧n≠0 then some n else none
def prepIs (P:Program) (K N:Nat) (es:List Nat) (d:Bool) (all:List Oper):List Oper→Option (List PI)
 |[]=>some []
 |o::l=>consO (prepI P K N all (rOf es d (cntA (o::l)) o.dst) o) (prepIs P K N es d all l)
def aoN:AO→List Nat
 | .v t=>[t]
 | .t t=>[t]
 | .c _=>[]
def adN:AD→List Nat
 | .v t=>[t]
 | .t t=>[t]
 | .no=>[]
def opN:Option AO→List Nat
 |some x=>aoN x
 |none=>[]
def rdO:PO→List Nat
 | .mv _ x=>aoN x
 | .pick c a b=>aoN c++aoN a++aoN b
 | .alloc _=>[]
 | .box x=>aoN x
 | .allocAt _ _=>[]
 | .boxAt _ x=>aoN x
 | .build _ ps=>ps.flatMap fun p=>aoN p.2
 | .buildS _ _ _ _ ps=>ps.flatMap fun p=>aoN p.2
 | .buildR _ _ _ _ ps=>ps.flatMap fun p=>aoN p.2
 | .cvt x=>aoN x
 | .capN x=>aoN x
 | .appZ _ _ _ _ x n=>aoN x++aoN n
 | .appG _ _ _ _ x n=>aoN x++aoN n
 | .cutG _ x h=>aoN x++aoN h
 | .load _ _ x=>aoN x
 | .store _ a x=>aoN a++aoN x
 | .nilc x=>aoN x
 | .bin _ x y=>aoN x++aoN y
 | .binB _ x y=>aoN x++aoN y
 | .binP _ x y=>aoN x++aoN y
 | .eqa _ _ x y=>aoN x++aoN y
 | .un _ x=>aoN x
 | .conv _ x=>aoN x
 | .fadr _ _ x=>aoN x
 | .fld _ _ _ _ x=>aoN x
 | .iadrA _ x i=>aoN x++aoN i
 | .iadrG _ _ x i=>aoN x++aoN i
 | .iadrS _ x i=>aoN x++aoN i
 | .idxS x i=>aoN x++aoN i
 | .idxA _ x i=>aoN x++aoN i
 | .slcA _ _ x lo hi mx=>aoN x++opN lo++opN hi++opN mx
 | .slcS _ x lo hi mx=>aoN x++opN lo++opN hi++opN mx
 | .slcT x lo hi=>aoN x++opN lo++opN hi
 | .ext x _=>aoN x
 | .len x=>aoN x
 | .lenT x=>aoN x
 | .app _ _ _ x y=>aoN x++aoN y
 | .copy x y=>aoN x++aoN y
 | .mkS _ _ _ _ l c=>aoN l++aoN c
 | .s2a _ x=>aoN x
 | .mm _ xs=>xs.flatMap aoN
 | .call _ xs=>xs.flatMap aoN
 | .callW _ xs=>xs.flatMap aoN
 | .nileq _ x=>aoN x
 | .new _=>[]
 | .newB x=>aoN x
 | .mkFn _ xs=>xs.flatMap aoN
 | .callV x xs=>aoN x++xs.flatMap aoN
 | .appR _ _ _ x y=>aoN x++aoN y
 | .appI _ x y=>aoN x++aoN y
 | .clr _ _ x=>aoN x
 | .slcZ x=>aoN x
 | .s2b _ x=>aoN x
 | .fad0 x=>aoN x
 | .atLd x=>aoN x
 | .atSt a x=>aoN a++aoN x
 | .atAdd a x=>aoN a++aoN x
 | .bad=>[]
def fdO:PO→List Nat
 | .mv true x=>aoN x
 | .app _ _ _ x _=>aoN x
 | .appZ _ _ _ _ x _=>aoN x
 | .cvt x=>aoN x
 | .cutG _ x _=>aoN x
 |_=>[]
def PI.rd (i:PI):List Nat:=rdO i.op++(match i.guard with|some (t,_)=>aoN t|none=>[])
def PI.wr (i:PI):List Nat:=adN i.dst++fdO i.op
def disj (a b:List Nat):Bool:=a.all fun t=> !b.contains t
def apartI (x y:PI):Bool:=disj x.wr (y.rd++y.wr)&&disj y.wr x.rd
def clsO:PO→Bool×Bool×Bool×Bool×Bool
 | .load .. =>(true,false,false,false,false)
 | .store .. =>(false,true,false,false,false)
 | .copy .. =>(false,true,false,false,false)
 | .slcA _ vw _ _ _ _=>if vw=true then (false,false,true,false,false)else (false,true,false,false,false)
 | .fadr .. =>(false,false,true,false,false)
 | .iadrA .. =>(false,false,true,false,false)
 | .iadrG .. =>(false,false,true,false,false)
 | .allocAt .. =>(false,false,false,true,false)
 | .boxAt .. =>(false,false,false,true,false)
 | .call .. =>(false,false,false,false,true)
 | .callV .. =>(false,false,false,false,true)
 | .callW .. =>(false,true,false,false,true)
 | .appR .. =>(false,true,false,false,true)
 | .new _=>(false,true,false,false,true)
 | .newB _=>(false,true,false,false,true)
 | .appI .. =>(false,true,false,false,true)
 | .clr .. =>(false,true,false,false,true)
 | .atLd .. =>(true,false,false,false,false)
 |_=>(false,false,false,false,false)
def apartC:Bool×Bool×Bool×Bool×Bool→Bool×Bool×Bool×Bool×Bool→Bool
 |(r,w,s,n,g),(r',w',s',n',g')=> !(n&&(n' ||r' ||w' ||s'))&& !(n'&&(r ||w ||s))&& !(w&&(w' ||r' ||g'))&& !(w'&&(r ||g))
def predsOf (o:Oper):List Nat:=o.after.toList.filterMap fun e=>if Region.binds .any e=true then some e.on else none
def insN (l:List Nat) (x:Nat):List Nat:=if l.contains x=true then l else x::l
def getW:List (List Nat)→Nat→List Nat
 |[],_=>[]
 |w::_,0=>w
 |_::l,n+1=>getW l n
def waitTab:List Oper→List (List Nat)→List (List Nat)
 |[],acc=>acc
 |o::l,acc=>waitTab l (acc++[(predsOf o).foldl (fun w j=>(j::getW acc j).foldl insN w) []])
def depsJ (x:PI) (i:Nat) (ws:List Nat):Nat→List PI→Option (List (Nat×Nat))
 |_,[]=>some []
 |j,y::l=>if i≤j then some []else match depsJ x i ws (j+1) l with
  |none=>none
  |some r=>if ws.contains j=true then some r else if apartI y x=false then none else if apartC (clsO y.op) (clsO x.op)=true then some r else some ((j,i)::r)
def depsI (tab:List (List Nat)) (all:List PI):Nat→List Oper→List PI→Option (List (Nat×Nat))
 |i,o::l,x::m=>if (predsOf o).all (fun j=>decide (j < i))=true then (match depsJ x i (getW tab i) 0 all,depsI tab all (i+1) l m with
   |some a,some b=>some (a++b)
   |_,_=>none)else none
 |_,[],[]=>some []
 |_,_,_=>none
def depsOf (ops:List Oper) (is:List PI):Option (List (Nat×Nat)):=depsI (waitTab ops []) is 0 ops is
def wilds:List (Nat×PI)→List Nat
 |[]=>[]
 |(j,x)::l=>if wild x.op=true then j::wilds l else wilds l
def ordW (tab:List (List Nat)):List Nat→List (Nat×PI)→List (Nat×PI)
 |[],l=>l
 |w::ws,l=>l.filter (fun x=> !(x.1==w)&& !(getW tab x.1).contains w)++(l.filter (fun x=>x.1==w)++ordW tab ws (l.filter fun x=>(getW tab x.1).contains w))
def enum:Nat→List PI→List (Nat×PI)
 |_,[]=>[]
 |n,x::l=>(n,x)::enum (n+1) l
def depsJW (x:PI) (i:Nat) (ws:List Nat):List (Nat×PI)→Option (List (Nat×Nat))
 |[]=>some []
 |(j,y)::l=>match depsJW x i ws l with
  |none=>none
  |some r=>if (j==i)=true then none else if ws.contains j=true then some r else if wild y.op=true then none else if apartI y x=false then none else if apartC (clsO y.op) (clsO x.op)=true then some r else some ((j,i)::r)
def predsAt (ops:List Oper) (i:Nat):List Nat:=match ops[i]? with
 |some o=>predsOf o
 |none=>[]
def depsW (ops:List Oper) (tab:List (List Nat)):List (Nat×PI)→List (Nat×PI)→Option (List (Nat×Nat))
 |_,[]=>some []
 |acc,(i,x)::l=>if (predsAt ops i).all (fun p=>decide (p < i)&&acc.any fun y=>y.1==p)=true then (match depsJW x i (getW tab i) acc,depsW ops tab ((i,x)::acc) l with
   |some a,some b=>some (a++b)
   |_,_=>none)else none
def allIn (n:Nat) (l:List (Nat×PI)):Bool:=(List.range n).all fun j=>l.any fun x=>x.1==j
def prepW (ops:List Oper) (is:List PI):Option (List (Nat×PI)×List (Nat×Nat)):=
 let l:=ordW (waitTab ops []) (wilds (enum 0 is)) (enum 0 is)
 match depsW ops (waitTab ops []) [] l with
 |some dep=>if allIn ops.length l=true∧l.length=ops.length then some (l,dep)else none
 |none=>none
def prepC (P:Program) (K N:Nat) (es:List Nat):Code→List (List Nat)→Option (PC×List (List Nat))
 | .skip,ks=>some (.skip,ks)
 | .ret,ks=>some (.ret,ks)
 | .exit id,ks=>some (.exit id,ks)
 | .seq a b,ks=>match prepC P K N es a ks with
  |some (x,ks)=>match prepC P K N es b ks with
   |some (y,ks)=>some (.seq x y,ks)
   |none=>none
  |none=>none
 | .cond c a b,ks=>match aoOf K c,prepC P K N es a ks with
  |some c,some (x,ks)=>match prepC P K N es b ks with
   |some (y,ks)=>some (.cond c x y,ks)
   |none=>none
  |_,_=>none
 | .block id c,ks=>match prepC P K N es c ks with
  |some (x,ks)=>some (.block id x,ks)
  |none=>none
 | .loop c,k::ks=>match prepC P K N es c ks with
  |some (x,ks)=>some (.loop k x,ks)
  |none=>none
 | .region _ ops draw,ks=>match prepIs P K N es draw ops.toList ops.toList with
  |some is=>if draw=true then (if (wilds (enum 0 is)).isEmpty=true then (match depsOf ops.toList is with
    |some dep=>if P.follows .mixedOrders=true then some (.regD (cntA ops.toList) is dep,ks)else none
    |none=>none)else (match prepW ops.toList is with
    |some (l,dep)=>if P.follows .mixedOrders=true then some (.regW (cntA ops.toList) l dep,ks)else none
    |none=>none))else some (.reg is,ks)
  |none=>none
 |_,_=>none
structure PF where
 n:Nat
 K:Nat
 N:Nat
 body:PC
 res:List (AO×Option (Nat×Bool))
def prepRes (P:Program) (K:Nat):List ResultVar→Option (List (AO×Option (Nat×Bool)))
 |[]=>some []
 | .tmp t::l=>match aoOf K (.tmp t),prepRes P K l with
  |some a,some r=>some ((a,none)::r)
  |_,_=>none
 | .cell t ty::l=>match aoOf K (.tmp t),szAg P ty,prepRes P K l with
  |some a,some q,some r=>some ((a,some q)::r)
  |_,_,_=>none
def prepF (P:Program) (g K:Nat) (ks:List (List Nat)) (es:List Nat):Option PF:=match P.funcs[g]? with
 |some fn=>match fn.body with
  |some c=>match prepC P K fn.ntmps es c ks,prepRes P K fn.results.toList with
   |some (b,[]),some r=>if fn.params.size+fn.nfree≤K∧K≤fn.ntmps∧(fn.name== "runtime.NumGoroutine")=false then some ⟨fn.params.size+fn.nfree,K,fn.ntmps,b,r⟩else none
   |_,_=>none
  |none=>none
 |none=>none
end Go.Abs
namespace Go.Abs
open Go Go.RowKit
section
variable {E:Env} {C:Spec}
theorem W_skip {Q σ}:W E C .skip Q σ=Q .normal σ:=rfl
theorem W_ret {Q σ}:W E C .ret Q σ=Q .ret σ:=rfl
theorem W_exit {id Q σ}:W E C (.exit id) Q σ=Q (.exit id) σ:=rfl
theorem W_seq {a b Q σ}:W E C (.seq a b) Q σ=W E C a (seqK (W E C b) Q) σ:=rfl
theorem W_cond {c a b Q σ}:W E C (.cond c a b) Q σ=condO (asB (σ.ev c)) (W E C a Q σ) (W E C b Q σ):=rfl
theorem W_block {id c Q σ}:W E C (.block id c) Q σ=W E C c (blkK id Q) σ:=rfl
theorem W_reg {ops Q vs ts L G}:W E C (.reg ops) Q ⟨vs,ts,L,G⟩=Wops E C ops (Q .normal) ⟨vs,[],L,G⟩:=rfl
theorem Wops_nil {K σ}:Wops E C [] K σ=K σ:=rfl
theorem Wops_cons {d o r K σ}:Wops E C (⟨d,o,none⟩::r) K σ=Wop E C d o (Wops E C r K) σ:=rfl
theorem Wops_guard {d o t w r K σ}:Wops E C (⟨d,o,some (t,w)⟩::r) K σ=guardO t w (σ.ev t) (Wop E C d o (Wops E C r K)) (skipK d (Wops E C r K)) σ:=rfl
def nn (d:AD) (o:PO):PI:=⟨d,o,none⟩
def mm (t v:Nat):PI:=⟨.t t,.mv false (.v v),none⟩
def ma (v t:Nat):PI:=⟨.v v,.mv true (.t t),none⟩
def gm (t v g:Nat) (b:Bool):PI:=⟨.t t,.mv false (.v v),some (.t g,b)⟩
theorem Wops_nn {d o r K σ}:Wops E C (nn d o::r) K σ=Wop E C d o (Wops E C r K) σ:=rfl
theorem Wops_mm {t v r K σ}:Wops E C (mm t v::r) K σ=Wop E C (.t t) (.mv false (.v v)) (Wops E C r K) σ:=rfl
theorem Wops_ma {v t r K σ}:Wops E C (ma v t::r) K σ=Wop E C (.v v) (.mv true (.t t)) (Wops E C r K) σ:=rfl
theorem Wops_gm {t v g b r K σ}:Wops E C (gm t v g b::r) K σ=guardO (.t g) b (σ.ev (.t g)) (Wop E C (.t t) (.mv false (.v v)) (Wops E C r K)) (skipK (.t t) (Wops E C r K)) σ:=rfl
theorem WopsD_nn {d o r fs K σ}:WopsD E C (nn d o::r) fs K σ=WopD E C d o (WopsD E C r (fs++[foot σ o]) K) σ:=rfl
theorem WopsD_mm {t v r fs K σ}:WopsD E C (mm t v::r) fs K σ=WopD E C (.t t) (.mv false (.v v)) (WopsD E C r (fs++[noF]) K) σ:=rfl
theorem WopsD_ma {v t r fs K σ}:WopsD E C (ma v t::r) fs K σ=WopD E C (.v v) (.mv true (.t t)) (WopsD E C r (fs++[noF]) K) σ:=rfl
theorem WopsD_gm {t v g b r fs K σ}:WopsD E C (gm t v g b::r) fs K σ=guardO (.t g) b (σ.ev (.t g)) (WopD E C (.t t) (.mv false (.v v)) (WopsD E C r (fs++[noF]) K)) (skipK (.t t) (WopsD E C r (fs++[noF]) K)) σ:=rfl
theorem condO_some {q:Bool} {A B:Prop}:condO (some q) A B=((q=true→A)∧(q=false→B)):=by cases q<;>simp[condO]
theorem condO_t {A B:Prop}:condO (some true) A B=A:=rfl
theorem condO_f {A B:Prop}:condO (some false) A B=B:=rfl
theorem guardO_bt {t:AO} {q:Bool} {f h:St→Prop} {σ:St}:guardO t true (some (.v (.bool q))) f h σ=
  ((q=true→f (σ.put t.ad (.v (.bool true))))∧(q=false→h (σ.put t.ad (.v (.bool false))))):=by
 cases q<;>simp[guardO]
theorem guardO_bf {t:AO} {q:Bool} {f h:St→Prop} {σ:St}:guardO t false (some (.v (.bool q))) f h σ=
  ((q=true→h (σ.put t.ad (.v (.bool true))))∧(q=false→f (σ.put t.ad (.v (.bool false))))):=by
 cases q<;>simp[guardO]
theorem guardO_tt {t:AO} {f h:St→Prop} {σ:St}:guardO t true (some (.v (.bool true))) f h σ=f (σ.put t.ad (.v (.bool true))):=rfl
theorem guardO_tf {t:AO} {f h:St→Prop} {σ:St}:guardO t false (some (.v (.bool true))) f h σ=h (σ.put t.ad (.v (.bool true))):=rfl
theorem guardO_ft {t:AO} {f h:St→Prop} {σ:St}:guardO t true (some (.v (.bool false))) f h σ=h (σ.put t.ad (.v (.bool false))):=rfl
theorem guardO_ff {t:AO} {f h:St→Prop} {σ:St}:guardO t false (some (.v (.bool false))) f h σ=f (σ.put t.ad (.v (.bool false))):=rfl
theorem guardO_un {t:AO} {w:Bool} {f h:St→Prop} {σ:St}:guardO t w (some .un) f h σ=h σ:=rfl
theorem pickO_b {q:Bool} {x y:V} {t:AD} {K:St→Prop} {σ:St}:pickO (some q) (some x) (some y) t K σ=((q=true→K (σ.put t (.v x)))∧(q=false→K (σ.put t (.v y)))):=by cases q<;>simp[pickO]
theorem pickO_t {x:V} {y:Option V} {t:AD} {K:St→Prop} {σ:St}:pickO (some true) (some x) y t K σ=K (σ.put t (.v x)):=rfl
theorem pickO_f {x:Option V} {y:V} {t:AD} {K:St→Prop} {σ:St}:pickO (some false) x (some y) t K σ=K (σ.put t (.v y)):=rfl
theorem seqK_n {f Q σ}:seqK f Q .normal σ=f Q σ:=rfl
theorem seqK_r {f Q σ}:seqK f Q .ret σ=Q .ret σ:=rfl
theorem seqK_e {f Q id σ}:seqK f Q (.exit id) σ=Q (.exit id) σ:=rfl
theorem blkK_n {id Q σ}:blkK id Q .normal σ=Q .normal σ:=rfl
theorem blkK_r {id Q σ}:blkK id Q .ret σ=Q .ret σ:=rfl
theorem blkK_e {id j Q σ}:blkK id Q (.exit j) σ=(if j=id then Q .normal σ else Q (.exit j) σ):=by simp[blkK]
theorem ranO_some {p σ' K}:ranO (some (p,σ')) K=(p∧K σ'):=rfl
theorem ranO_T {σ' K}:ranO (some (True,σ')) K=K σ':=propext ⟨fun h=>h.2,fun h=>⟨trivial,h⟩⟩
theorem skipK_eq {d K σ}:skipK d K σ=K (σ.put d .un):=rfl
theorem Wop_pick {d c a b K σ}:Wop E C d (.pick c a b) K σ=pickO (asB (σ.ev c)) (asV (σ.ev a)) (asV (σ.ev b)) d K σ:=rfl
theorem Wop_call {d g xs K σ}:Wop E C d (.call g xs) K σ=callO C g (σ.evs xs) K σ d:=rfl
theorem Wop_nileq {d n x K σ}:Wop E C d (.nileq n x) K σ=nilO n (lenV (asV (σ.ev x))) d K σ:=rfl
theorem Wop_new {d z K σ}:Wop E C d (.new z) K σ=newK (some z) d K σ:=rfl
theorem Wop_newB {d x K σ}:Wop E C d (.newB x) K σ=newK (asV (σ.ev x)) d K σ:=rfl
theorem newK_some {x d K σ}:newK (some x) d K σ=∀id,look σ.G id=none→K (({ σ with G:=(id,x)::σ.G }:St).put d (.v (.ptr id))):=rfl
theorem nilO_eq {n y d K σ}:nilO n (some y) d K σ=∀b:Bool,(b=true→y=0)→K (σ.put d (.v (.bool (n ^^ b)))):=rfl
theorem callO_some {g vs K σ d}:callO C g (some vs) K σ d=callK C g vs K σ d:=rfl
theorem Wop_mv {d feeds x K σ}:Wop E C d (.mv feeds x) K σ=ranO (oMv feeds x σ d (σ.ev x)) K:=rfl
theorem Wop_alloc {d z K σ}:Wop E C d (.alloc z) K σ=ranO (oBox σ d (some z)) K:=rfl
theorem Wop_box {d x K σ}:Wop E C d (.box x) K σ=ranO (oBox σ d (asV (σ.ev x))) K:=rfl
theorem Wop_allocAt {d r z K σ}:Wop E C d (.allocAt r z) K σ=ranO (oBoxAt r σ d (some z)) K:=rfl
theorem Wop_boxAt {d r x K σ}:Wop E C d (.boxAt r x) K σ=ranO (oBoxAt r σ d (asV (σ.ev x))) K:=rfl
theorem Wop_build {d z ps K σ}:Wop E C d (.build z ps) K σ=ranO (oBuild z σ d (σ.parts ps)) K:=rfl
theorem Wop_buildS {d k sz z len ps K σ}:Wop E C d (.buildS k sz z len ps) K σ=ranO (oBuildS k sz z len σ d (σ.parts ps)) K:=rfl
theorem Wop_load {d n ag x K σ}:Wop E C d (.load n ag x) K σ=ranO (oLoad n ag σ d (subO (atO E.tab σ (σ.ev x)))) K:=rfl
theorem Wop_store {d n a x K σ}:Wop E C d (.store n a x) K σ=ranO (oStore n σ (σ.ev a) (asV (σ.ev x))) K:=rfl
theorem Wop_nilc {d x K σ}:Wop E C d (.nilc x) K σ=ranO (oNilc σ d (σ.ev x)) K:=rfl
theorem Wop_bin {d op x y K σ}:Wop E C d (.bin op x y) K σ=ranO (putPV σ d (binV op (asV (σ.ev x)) (asV (σ.ev y)))) K:=rfl
theorem Wop_binB {d op x y K σ}:Wop E C d (.binB op x y) K σ=ranO (putPV σ d (binVB op (asV (σ.ev x)) (asV (σ.ev y)))) K:=rfl
theorem Wop_binP {d op x y K σ}:Wop E C d (.binP op x y) K σ=ranO (putPV σ d (binVP op (asV (σ.ev x)) (asV (σ.ev y)))) K:=rfl
theorem Wop_eqa {d neg e x y K σ}:Wop E C d (.eqa neg e x y) K σ=ranO (oEqa neg e σ d (asV (σ.ev x)) (asV (σ.ev y))) K:=rfl
theorem Wop_un {d op x K σ}:Wop E C d (.un op x) K σ=ranO (putVO σ d (unV op (asV (σ.ev x)))) K:=rfl
theorem Wop_conv {d k x K σ}:Wop E C d (.conv k x) K σ=ranO (oConv k σ d (asV (σ.ev x))) K:=rfl
theorem Wop_fadr {d f off x K σ}:Wop E C d (.fadr f off x) K σ=ranO (oFad E.tab f off σ d (σ.ev x)) K:=rfl
theorem Wop_fld {d f off n ag x K σ}:Wop E C d (.fld f off n ag x) K σ=ranO (oField f off n ag σ d (asV (σ.ev x))) K:=rfl
theorem Wop_iadrA {d n x i K σ}:Wop E C d (.iadrA n x i) K σ=ranO (oIadrA E.tab n σ d (σ.ev x) (asI (σ.ev i))) K:=rfl
theorem Wop_iadrG {d n sz x i K σ}:Wop E C d (.iadrG n sz x i) K σ=ranO (oIadrG E.tab n sz σ d (σ.ev x) (asI (σ.ev i))) K:=rfl
theorem Wop_iadrS {d sz x i K σ}:Wop E C d (.iadrS sz x i) K σ=ranO (oIadrS sz σ d (asV (σ.ev x)) (asI (σ.ev i))) K:=rfl
theorem Wop_idxS {d x i K σ}:Wop E C d (.idxS x i) K σ=ranO (oIdxS σ d (asV (σ.ev x)) (asI (σ.ev i))) K:=rfl
theorem Wop_idxA {d n x i K σ}:Wop E C d (.idxA n x i) K σ=ranO (oIdxA n σ d (asV (σ.ev x)) (asI (σ.ev i))) K:=rfl
theorem Wop_slcA {d n vw x lo hi mx K σ}:Wop E C d (.slcA n vw x lo hi mx) K σ=ranO (oSlcA n vw lo hi mx σ d (σ.ev x)) K:=rfl
theorem Wop_slcS {d sz x lo hi mx K σ}:Wop E C d (.slcS sz x lo hi mx) K σ=ranO (oSlcS sz lo hi mx σ d (asV (σ.ev x))) K:=rfl
theorem Wop_slcT {d x lo hi K σ}:Wop E C d (.slcT x lo hi) K σ=ranO (oSlcT lo hi σ d (asV (σ.ev x))) K:=rfl
theorem Wop_ext {d x i K σ}:Wop E C d (.ext x i) K σ=ranO (oExt i σ d (σ.ev x)) K:=rfl
theorem Wop_len {d x K σ}:Wop E C d (.len x) K σ=ranO (putVO σ d (lenO (asV (σ.ev x)))) K:=rfl
theorem Wop_lenT {d x K σ}:Wop E C d (.lenT x) K σ=ranO (putVO σ d (lenT (asV (σ.ev x)))) K:=rfl
theorem Wop_app {d k sz bytes x y K σ}:Wop E C d (.app k sz bytes x y) K σ=ranO (oApp k sz bytes x σ d (σ.ev x) (asV (σ.ev y))) K:=rfl
theorem Wop_copy {d x y K σ}:Wop E C d (.copy x y) K σ=ranO (oCopy σ d (σ.ev x) (asV (σ.ev y))) K:=rfl
theorem Wop_mkS {d k sz bytes z l c K σ}:Wop E C d (.mkS k sz bytes z l c) K σ=ranO (oMkS k sz bytes z σ d (asI (σ.ev l)) (asI (σ.ev c))) K:=rfl
theorem Wop_s2a {d n x K σ}:Wop E C d (.s2a n x) K σ=ranO (oS2a n σ d (asV (σ.ev x))) K:=rfl
theorem Wop_mm {d mx xs K σ}:Wop E C d (.mm mx xs) K σ=ranO (oMM mx σ d (σ.evs xs)) K:=rfl
theorem Wop_buildR {d k sz z len ps K σ}:Wop E C d (.buildR k sz z len ps) K σ=ranO (oBuildR k sz z len σ d (σ.parts ps)) K:=rfl
theorem Wop_cvt {d x K σ}:Wop E C d (.cvt x) K σ=ranO (oCvt x σ d (σ.ev x)) K:=rfl
theorem Wop_capN {d x K σ}:Wop E C d (.capN x) K σ=ranO (putVO σ d (capO (asV (σ.ev x)))) K:=rfl
theorem Wop_appZ {d k sz bytes z x n K σ}:Wop E C d (.appZ k sz bytes z x n) K σ=ranO (oAppZ k sz bytes z x σ d (σ.ev x) (asI (σ.ev n))) K:=rfl
theorem Wop_appG {d k sz bytes z x n K σ}:Wop E C d (.appG k sz bytes z x n) K σ=ranO (oAppG k sz bytes z σ d (asV (σ.ev x)) (asI (σ.ev n))) K:=rfl
theorem Wop_cutG {d sz x h K σ}:Wop E C d (.cutG sz x h) K σ=ranO (oCutG sz x σ d (σ.ev x) (asI (σ.ev h))) K:=rfl
theorem WopD_appG {d k sz bytes z x n K σ}:WopD E C d (.appG k sz bytes z x n) K σ=Wop E C d (.appG k sz bytes z x n) K σ:=rfl
theorem WopD_cutG {d sz x h K σ}:WopD E C d (.cutG sz x h) K σ=Wop E C d (.cutG sz x h) K σ:=rfl
theorem WopD_buildR {d k sz z len ps K σ}:WopD E C d (.buildR k sz z len ps) K σ=Wop E C d (.buildR k sz z len ps) K σ:=rfl
theorem WopD_cvt {d x K σ}:WopD E C d (.cvt x) K σ=Wop E C d (.cvt x) K σ:=rfl
theorem WopD_capN {d x K σ}:WopD E C d (.capN x) K σ=Wop E C d (.capN x) K σ:=rfl
theorem WopD_appZ {d k sz bytes z x n K σ}:WopD E C d (.appZ k sz bytes z x n) K σ=Wop E C d (.appZ k sz bytes z x n) K σ:=rfl
theorem Wop_atLd {d x K σ}:Wop E C d (.atLd x) K σ=ranO (oAtLd σ d (subO (atO E.tab σ (σ.ev x)))) K:=rfl
theorem Wop_atSt {d a x K σ}:Wop E C d (.atSt a x) K σ=ranO (oAtSt σ d (σ.ev a) (asV (σ.ev x))) K:=rfl
theorem Wop_atAdd {d a x K σ}:Wop E C d (.atAdd a x) K σ=ranO (oAtAdd σ d (σ.ev a) (subO (atO E.tab σ (σ.ev a))) (asV (σ.ev x))) K:=rfl
theorem Wop_fad0 {d x K σ}:Wop E C d (.fad0 x) K σ=ranO (oFad0 σ d (asV (σ.ev x))) K:=rfl
theorem Wop_mkFn {d f xs K σ}:Wop E C d (.mkFn f xs) K σ=ranO (oMkFn f σ d (σ.evs xs)) K:=rfl
theorem Wop_s2b {d r x K σ}:Wop E C d (.s2b r x) K σ=ranO (oS2b r σ d (asV (σ.ev x))) K:=rfl
theorem Wop_slcZ {d x K σ}:Wop E C d (.slcZ x) K σ=ranO (oSlcZ σ d (lenIO (asV (σ.ev x)))) K:=rfl
theorem Wop_appI {d sz x y K σ}:Wop E C d (.appI sz x y) K σ=ranO (oAppI sz σ d (asV (σ.ev x)) (rowO σ.G sz (asV (σ.ev y)))) K:=rfl
theorem Wop_callV {d x xs K σ}:Wop E C d (.callV x xs) K σ=callVK C (calleeOk E.P) K σ d (asV (σ.ev x)) (σ.evs xs):=rfl
theorem WopD_callV {d x xs K σ}:WopD E C d (.callV x xs) K σ=callVD C (calleeOk E.P) K σ d (asV (σ.ev x)) (σ.evs xs):=rfl
theorem callVK_fn {ok f caps vs K σ d}:callVK C ok K σ d (some (.fn f caps)) (some vs)=(ok f=true∧callK C f (vs++caps) K σ d):=rfl
theorem callVD_fn {ok f caps vs K σ d}:callVD C ok K σ d (some (.fn f caps)) (some vs)=(ok f=true∧callD C f (vs++caps) K σ d):=rfl
theorem Wop_callW {d g xs K σ}:Wop E C d (.callW g xs) K σ=callO C g (σ.evs xs) K σ d:=rfl
theorem W_regW {n ops dep Q vs ts L G}:W E C (.regW n ops dep) Q ⟨vs,ts,L,G⟩=WopsW E C ops [] dep (Q .normal) ⟨vs,[],L++List.replicate n Bx.hole,G⟩:=rfl
theorem WopsW_nil {fs dep K σ}:WopsW E C [] fs dep K σ=K σ:=rfl
theorem WopsW_cons {j d o r fs dep K σ}:WopsW E C ((j,⟨d,o,none⟩)::r) fs dep K σ=(chkL dep j fs (foot σ o)∧WopW E C d o (WopsW E C r ((j,foot σ o)::fs) dep K) σ):=rfl
theorem WopsW_nn {j d o r fs dep K σ}:WopsW E C ((j,nn d o)::r) fs dep K σ=(chkL dep j fs (foot σ o)∧WopW E C d o (WopsW E C r ((j,foot σ o)::fs) dep K) σ):=rfl
theorem WopsW_mm {j t v r fs dep K σ}:WopsW E C ((j,mm t v)::r) fs dep K σ=(chkL dep j fs noF∧WopW E C (.t t) (.mv false (.v v)) (WopsW E C r ((j,noF)::fs) dep K) σ):=rfl
theorem WopsW_ma {j v t r fs dep K σ}:WopsW E C ((j,ma v t)::r) fs dep K σ=(chkL dep j fs noF∧WopW E C (.v v) (.mv true (.t t)) (WopsW E C r ((j,noF)::fs) dep K) σ):=rfl
theorem WopsW_guard {j d o t w r fs dep K σ}:WopsW E C ((j,⟨d,o,some (t,w)⟩)::r) fs dep K σ=guardO t w (σ.ev t) (fun τ=>chkL dep j fs (foot σ o)∧WopW E C d o (WopsW E C r ((j,foot σ o)::fs) dep K) τ) (skipK d (WopsW E C r ((j,noF)::fs) dep K)) σ:=rfl
theorem WopsW_gm {j t v g b r fs dep K σ}:WopsW E C ((j,gm t v g b)::r) fs dep K σ=guardO (.t g) b (σ.ev (.t g)) (fun τ=>chkL dep j fs noF∧WopW E C (.t t) (.mv false (.v v)) (WopsW E C r ((j,noF)::fs) dep K) τ) (skipK (.t t) (WopsW E C r ((j,noF)::fs) dep K)) σ:=rfl
theorem WopW_mv {d feeds x K σ}:WopW E C d (.mv feeds x) K σ=WopD E C d (.mv feeds x) K σ:=rfl
theorem WopW_pick {d c a b K σ}:WopW E C d (.pick c a b) K σ=WopD E C d (.pick c a b) K σ:=rfl
theorem WopW_allocAt {d r z K σ}:WopW E C d (.allocAt r z) K σ=WopD E C d (.allocAt r z) K σ:=rfl
theorem WopW_boxAt {d r x K σ}:WopW E C d (.boxAt r x) K σ=WopD E C d (.boxAt r x) K σ:=rfl
theorem WopW_build {d z ps K σ}:WopW E C d (.build z ps) K σ=WopD E C d (.build z ps) K σ:=rfl
theorem WopW_buildS {d k sz z len ps K σ}:WopW E C d (.buildS k sz z len ps) K σ=WopD E C d (.buildS k sz z len ps) K σ:=rfl
theorem WopW_buildR {d k sz z len ps K σ}:WopW E C d (.buildR k sz z len ps) K σ=WopD E C d (.buildR k sz z len ps) K σ:=rfl
theorem WopW_cvt {d x K σ}:WopW E C d (.cvt x) K σ=WopD E C d (.cvt x) K σ:=rfl
theorem WopW_capN {d x K σ}:WopW E C d (.capN x) K σ=WopD E C d (.capN x) K σ:=rfl
theorem WopW_appZ {d k sz bytes z x n K σ}:WopW E C d (.appZ k sz bytes z x n) K σ=WopD E C d (.appZ k sz bytes z x n) K σ:=rfl
theorem WopW_appG {d k sz bytes z x n K σ}:WopW E C d (.appG k sz bytes z x n) K σ=WopD E C d (.appG k sz bytes z x n) K σ:=rfl
theorem WopW_cutG {d sz x h K σ}:WopW E C d (.cutG sz x h) K σ=WopD E C d (.cutG sz x h) K σ:=rfl
theorem WopW_load {d n ag x K σ}:WopW E C d (.load n ag x) K σ=WopD E C d (.load n ag x) K σ:=rfl
theorem WopW_store {d n a x K σ}:WopW E C d (.store n a x) K σ=WopD E C d (.store n a x) K σ:=rfl
theorem WopW_nilc {d x K σ}:WopW E C d (.nilc x) K σ=WopD E C d (.nilc x) K σ:=rfl
theorem WopW_bin {d op x y K σ}:WopW E C d (.bin op x y) K σ=WopD E C d (.bin op x y) K σ:=rfl
theorem WopW_binB {d op x y K σ}:WopW E C d (.binB op x y) K σ=WopD E C d (.binB op x y) K σ:=rfl
theorem WopW_binP {d op x y K σ}:WopW E C d (.binP op x y) K σ=WopD E C d (.binP op x y) K σ:=rfl
theorem WopW_eqa {d neg e x y K σ}:WopW E C d (.eqa neg e x y) K σ=WopD E C d (.eqa neg e x y) K σ:=rfl
theorem WopW_un {d op x K σ}:WopW E C d (.un op x) K σ=WopD E C d (.un op x) K σ:=rfl
theorem WopW_conv {d k x K σ}:WopW E C d (.conv k x) K σ=WopD E C d (.conv k x) K σ:=rfl
theorem WopW_fadr {d f off x K σ}:WopW E C d (.fadr f off x) K σ=WopD E C d (.fadr f off x) K σ:=rfl
theorem WopW_fld {d f off n ag x K σ}:WopW E C d (.fld f off n ag x) K σ=WopD E C d (.fld f off n ag x) K σ:=rfl
theorem WopW_iadrA {d n x i K σ}:WopW E C d (.iadrA n x i) K σ=WopD E C d (.iadrA n x i) K σ:=rfl
theorem WopW_iadrG {d n sz x i K σ}:WopW E C d (.iadrG n sz x i) K σ=WopD E C d (.iadrG n sz x i) K σ:=rfl
theorem WopW_iadrS {d sz x i K σ}:WopW E C d (.iadrS sz x i) K σ=WopD E C d (.iadrS sz x i) K σ:=rfl
theorem WopW_idxS {d x i K σ}:WopW E C d (.idxS x i) K σ=WopD E C d (.idxS x i) K σ:=rfl
theorem WopW_idxA {d n x i K σ}:WopW E C d (.idxA n x i) K σ=WopD E C d (.idxA n x i) K σ:=rfl
theorem WopW_slcA {d n vw x lo hi mx K σ}:WopW E C d (.slcA n vw x lo hi mx) K σ=WopD E C d (.slcA n vw x lo hi mx) K σ:=rfl
theorem WopW_slcS {d sz x lo hi mx K σ}:WopW E C d (.slcS sz x lo hi mx) K σ=WopD E C d (.slcS sz x lo hi mx) K σ:=rfl
theorem WopW_slcT {d x lo hi K σ}:WopW E C d (.slcT x lo hi) K σ=WopD E C d (.slcT x lo hi) K σ:=rfl
theorem WopW_ext {d x i K σ}:WopW E C d (.ext x i) K σ=WopD E C d (.ext x i) K σ:=rfl
theorem WopW_len {d x K σ}:WopW E C d (.len x) K σ=WopD E C d (.len x) K σ:=rfl
theorem WopW_lenT {d x K σ}:WopW E C d (.lenT x) K σ=WopD E C d (.lenT x) K σ:=rfl
theorem WopW_app {d k sz bytes x y K σ}:WopW E C d (.app k sz bytes x y) K σ=WopD E C d (.app k sz bytes x y) K σ:=rfl
theorem WopW_copy {d x y K σ}:WopW E C d (.copy x y) K σ=WopD E C d (.copy x y) K σ:=rfl
theorem WopW_mkS {d k sz bytes z l c K σ}:WopW E C d (.mkS k sz bytes z l c) K σ=WopD E C d (.mkS k sz bytes z l c) K σ:=rfl
theorem WopW_s2a {d n x K σ}:WopW E C d (.s2a n x) K σ=WopD E C d (.s2a n x) K σ:=rfl
theorem WopW_mm {d max xs K σ}:WopW E C d (.mm max xs) K σ=WopD E C d (.mm max xs) K σ:=rfl
theorem WopW_call {d g xs K σ}:WopW E C d (.call g xs) K σ=WopD E C d (.call g xs) K σ:=rfl
theorem WopW_mkFn {d f xs K σ}:WopW E C d (.mkFn f xs) K σ=WopD E C d (.mkFn f xs) K σ:=rfl
theorem WopW_callV {d x xs K σ}:WopW E C d (.callV x xs) K σ=WopD E C d (.callV x xs) K σ:=rfl
theorem WopW_slcZ {d x K σ}:WopW E C d (.slcZ x) K σ=WopD E C d (.slcZ x) K σ:=rfl
theorem WopW_s2b {d r x K σ}:WopW E C d (.s2b r x) K σ=WopD E C d (.s2b r x) K σ:=rfl
theorem WopW_fad0 {d x K σ}:WopW E C d (.fad0 x) K σ=WopD E C d (.fad0 x) K σ:=rfl
theorem WopW_callW {d g xs K σ}:WopW E C d (.callW g xs) K σ=callO C g (σ.evs xs) K σ d:=rfl
theorem WopW_appR {d sz bytes z x y K σ}:WopW E C d (.appR sz bytes z x y) K σ=appRK sz bytes z K σ d (σ.ev x) (rowO σ.G sz (asV (σ.ev y))):=rfl
theorem WopW_new {d z K σ}:WopW E C d (.new z) K σ=newK (some z) d K σ:=rfl
theorem WopW_newB {d x K σ}:WopW E C d (.newB x) K σ=newK (asV (σ.ev x)) d K σ:=rfl
theorem chkL_nil {j fs f}:chkL [] j fs f=True:=rfl
theorem chkL_cons {a b l j fs f}:chkL ((a,b)::l) j fs f=((b=j→apartF (getA fs a) f=true)∧chkL l j fs f):=rfl
theorem getA_cons {k f l a}:getA ((k,f)::l) a=if a=k then f else getA l a:=by
 by_cases h:a=k
 ·subst h;simp[getA]
 ·have:(a==k)=false:=by simpa using h
  simp[getA,h,this]
theorem Wop_clr {d sz z x K σ}:Wop E C d (.clr sz z x) K σ=ranO (oClr sz z σ d (asV (σ.ev x))) K:=rfl
theorem appRK_n {sz bytes z K σ dst ys}:appRK sz bytes z K σ dst (some (.v .nils)) (some ys)=appR0 sz bytes z (.v .nils) ys K σ dst:=rfl
theorem appRK_o {sz bytes z K σ dst ys}:appRK sz bytes z K σ dst (some (.own .nils)) (some ys)=appR0 sz bytes z (.v .nils) ys K σ dst:=rfl
theorem appRK_e {sz bytes z K σ dst ys}:appRK sz bytes z K σ dst (some .e0) (some ys)=appR0 sz bytes z (e0D sz z) ys K σ dst:=rfl
theorem e0D_u {sz n}:e0D sz (.int .u8 n)= .e0:=rfl
theorem e0D_i {sz n}:e0D sz (.int .i64 n)= .v (.sle sz []):=rfl
theorem e0D_a {sz l}:e0D sz (.agg l)= .v (.sle sz []):=rfl
theorem appRK_s {sz bytes z K σ dst id sz' off n c ys}:appRK sz bytes z K σ dst (some (.v (.sob id sz' off n c))) (some ys)=(sz=sz'∧appR1 sz bytes z id off n c ys K σ dst (look σ.G id)):=rfl
theorem Wop_appR {d sz bytes z x y K σ}:Wop E C d (.appR sz bytes z x y) K σ=appRK sz bytes z K σ d (σ.ev x) (rowO σ.G sz (asV (σ.ev y))):=rfl
theorem WopD_fad0 {d x K σ}:WopD E C d (.fad0 x) K σ=Wop E C d (.fad0 x) K σ:=rfl
theorem WopD_mkFn {d f xs K σ}:WopD E C d (.mkFn f xs) K σ=Wop E C d (.mkFn f xs) K σ:=rfl
theorem WopD_s2b {d r x K σ}:WopD E C d (.s2b r x) K σ=Wop E C d (.s2b r x) K σ:=rfl
theorem WopD_slcZ {d x K σ}:WopD E C d (.slcZ x) K σ=Wop E C d (.slcZ x) K σ:=rfl
theorem orR_some {r r'}:orR (some r) r'=some r:=rfl
theorem orR_none {r'}:orR none r'=r':=rfl
theorem WopD_pick {d c a b K σ}:WopD E C d (.pick c a b) K σ=Wop E C d (.pick c a b) K σ:=rfl
theorem WopD_mv {d feeds x K σ}:WopD E C d (.mv feeds x) K σ=Wop E C d (.mv feeds x) K σ:=rfl
theorem WopD_allocAt {d r z K σ}:WopD E C d (.allocAt r z) K σ=Wop E C d (.allocAt r z) K σ:=rfl
theorem WopD_boxAt {d r x K σ}:WopD E C d (.boxAt r x) K σ=Wop E C d (.boxAt r x) K σ:=rfl
theorem WopD_build {d z ps K σ}:WopD E C d (.build z ps) K σ=Wop E C d (.build z ps) K σ:=rfl
theorem WopD_buildS {d k sz z len ps K σ}:WopD E C d (.buildS k sz z len ps) K σ=Wop E C d (.buildS k sz z len ps) K σ:=rfl
theorem WopD_load {d n ag x K σ}:WopD E C d (.load n ag x) K σ=Wop E C d (.load n ag x) K σ:=rfl
theorem WopD_store {d n a x K σ}:WopD E C d (.store n a x) K σ=Wop E C d (.store n a x) K σ:=rfl
theorem WopD_nilc {d x K σ}:WopD E C d (.nilc x) K σ=Wop E C d (.nilc x) K σ:=rfl
theorem WopD_bin {d op x y K σ}:WopD E C d (.bin op x y) K σ=Wop E C d (.bin op x y) K σ:=rfl
theorem WopD_binB {d op x y K σ}:WopD E C d (.binB op x y) K σ=Wop E C d (.binB op x y) K σ:=rfl
theorem WopD_binP {d op x y K σ}:WopD E C d (.binP op x y) K σ=Wop E C d (.binP op x y) K σ:=rfl
theorem WopD_eqa {d neg e x y K σ}:WopD E C d (.eqa neg e x y) K σ=Wop E C d (.eqa neg e x y) K σ:=rfl
theorem WopD_un {d op x K σ}:WopD E C d (.un op x) K σ=Wop E C d (.un op x) K σ:=rfl
theorem WopD_conv {d k x K σ}:WopD E C d (.conv k x) K σ=Wop E C d (.conv k x) K σ:=rfl
theorem WopD_fadr {d f off x K σ}:WopD E C d (.fadr f off x) K σ=Wop E C d (.fadr f off x) K σ:=rfl
theorem WopD_fld {d f off n ag x K σ}:WopD E C d (.fld f off n ag x) K σ=Wop E C d (.fld f off n ag x) K σ:=rfl
theorem WopD_iadrA {d n x i K σ}:WopD E C d (.iadrA n x i) K σ=Wop E C d (.iadrA n x i) K σ:=rfl
theorem WopD_iadrG {d n sz x i K σ}:WopD E C d (.iadrG n sz x i) K σ=Wop E C d (.iadrG n sz x i) K σ:=rfl
theorem WopD_iadrS {d sz x i K σ}:WopD E C d (.iadrS sz x i) K σ=Wop E C d (.iadrS sz x i) K σ:=rfl
theorem WopD_idxS {d x i K σ}:WopD E C d (.idxS x i) K σ=Wop E C d (.idxS x i) K σ:=rfl
theorem WopD_idxA {d n x i K σ}:WopD E C d (.idxA n x i) K σ=Wop E C d (.idxA n x i) K σ:=rfl
theorem WopD_slcA {d n vw x lo hi mx K σ}:WopD E C d (.slcA n vw x lo hi mx) K σ=Wop E C d (.slcA n vw x lo hi mx) K σ:=rfl
theorem WopD_slcS {d sz x lo hi mx K σ}:WopD E C d (.slcS sz x lo hi mx) K σ=Wop E C d (.slcS sz x lo hi mx) K σ:=rfl
theorem WopD_slcT {d x lo hi K σ}:WopD E C d (.slcT x lo hi) K σ=Wop E C d (.slcT x lo hi) K σ:=rfl
theorem WopD_ext {d x i K σ}:WopD E C d (.ext x i) K σ=Wop E C d (.ext x i) K σ:=rfl
theorem WopD_len {d x K σ}:WopD E C d (.len x) K σ=Wop E C d (.len x) K σ:=rfl
theorem WopD_lenT {d x K σ}:WopD E C d (.lenT x) K σ=Wop E C d (.lenT x) K σ:=rfl
theorem WopD_app {d k sz bytes x y K σ}:WopD E C d (.app k sz bytes x y) K σ=Wop E C d (.app k sz bytes x y) K σ:=rfl
theorem WopD_copy {d x y K σ}:WopD E C d (.copy x y) K σ=Wop E C d (.copy x y) K σ:=rfl
theorem WopD_mkS {d k sz bytes z l c K σ}:WopD E C d (.mkS k sz bytes z l c) K σ=Wop E C d (.mkS k sz bytes z l c) K σ:=rfl
theorem WopD_s2a {d n x K σ}:WopD E C d (.s2a n x) K σ=Wop E C d (.s2a n x) K σ:=rfl
theorem WopD_mm {d mx xs K σ}:WopD E C d (.mm mx xs) K σ=Wop E C d (.mm mx xs) K σ:=rfl
theorem WopD_call {d g xs K σ}:WopD E C d (.call g xs) K σ=callDO C g (σ.evs xs) K σ d:=rfl
theorem callDO_some {g vs K σ d}:callDO C g (some vs) K σ d=callD C g vs K σ d:=rfl
theorem WopsD_nil {fs K σ}:WopsD E C [] fs K σ=K fs σ:=rfl
theorem WopsD_cons {d o r fs K σ}:WopsD E C (⟨d,o,none⟩::r) fs K σ=WopD E C d o (WopsD E C r (fs++[foot σ o]) K) σ:=rfl
theorem WopsD_guard {d o t w r fs K σ}:WopsD E C (⟨d,o,some (t,w)⟩::r) fs K σ=guardO t w (σ.ev t) (WopD E C d o (WopsD E C r (fs++[foot σ o]) K)) (skipK d (WopsD E C r (fs++[noF]) K)) σ:=rfl
theorem W_regD {n ops dep Q vs ts L G}:W E C (.regD n ops dep) Q ⟨vs,ts,L,G⟩=WopsD E C ops [] (endD dep (Q .normal)) ⟨vs,[],L++List.replicate n Bx.hole,G⟩:=rfl
theorem endD_eq {dep K fs σ}:endD dep K fs σ=(pairsOk dep fs∧K σ):=rfl
theorem getF_z {o l}:getF (o::l) 0=o:=rfl
theorem getF_s {o l n}:getF (o::l) (n+1)=getF l n:=rfl
/-! readings -/
theorem ev_v {vs ts L G t}:St.ev ⟨vs,ts,L,G⟩ (.v t)=getv vs t:=rfl
theorem ev_t {vs ts L G t}:St.ev ⟨vs,ts,L,G⟩ (.t t)=look ts t:=rfl
theorem ev_c {σ d}:St.ev σ (.c d)=some d:=rfl
theorem getv_z {o l}:getv (o::l) 0=o:=rfl
theorem getv_s {o l n}:getv (o::l) (n+1)=getv l n:=rfl
theorem look_b {α:Type} {k:Nat} {d:α} {e:List (Nat×α)} {t:Nat}:look ((k,d)::e) t=if t=k then some d else look e t:=look_cons k d e t
theorem putV_mk {vs ts L G t d}:St.put ⟨vs,ts,L,G⟩ (.v t) d=⟨vs.set t (some d),ts,L,G⟩:=rfl
theorem putT_mk {vs ts L G t d}:St.put ⟨vs,ts,L,G⟩ (.t t) d=⟨vs,(t,d)::ts,L,G⟩:=rfl
theorem putN {σ d}:St.put σ .no d=σ:=rfl
theorem ad_v {t}:AO.ad (.v t)= .v t:=rfl
theorem ad_t {t}:AO.ad (.t t)= .t t:=rfl
theorem ad_c {d}:AO.ad (.c d)= .no:=rfl
theorem xor_f {b:Bool}:(false ^^ b)=b:=by cases b<;>rfl
theorem xor_t {b:Bool}:(true ^^ b)= !b:=by cases b<;>rfl
end
attribute [go_sem] condO_t condO_f W_skip W_ret W_exit W_seq W_cond W_block W_reg Wops_nil Wops_cons Wops_guard guardO_tt guardO_tf guardO_ft guardO_ff guardO_un pickO_t pickO_f seqK_n seqK_r seqK_e blkK_n blkK_r blkK_e ranO_T skipK_eq Wop_pick Wop_call Wop_nileq nilO_eq callO_some Wop_mv Wop_alloc Wop_box Wop_build Wop_buildS Wop_load Wop_store Wop_nilc Wop_bin Wop_binB Wop_binP Wop_eqa Wop_un Wop_conv Wop_fadr Wop_fld Wop_iadrA Wop_iadrG Wop_iadrS Wop_idxS Wop_idxA Wop_slcA Wop_slcS Wop_slcT Wop_ext Wop_len Wop_lenT Wop_app Wop_copy Wop_mkS Wop_s2a Wop_mm ev_v ev_t ev_c getv_z getv_s look_b putV_mk putT_mk putN ad_v ad_t ad_c xor_f xor_t
attribute [go_sem] asV asB asI consO consP St.evs St.parts bxO vO atO subO arith isShift strOp eqOp binV binVV binI binT binVB binVP unV fillV catV lenV V.lenI intsV elemsV putO putPV putVO oMv oBox oBuild oElems oBuildS oLoad oStoL oStoG oStoB oStoH oStore oNilc oEqa oConv oFadr oFadE oFad oFld oField oIdA oIdT oIadrA oIdG oIdE oIadrG oIadrS oIdxS oIdxA St.opt oSlcF oSlcB oSlcX oSlcA cutV strideOk oSlcS3 cutO St.opt2 oSlcS2 oSlcS oSlcT2 oSlcT oExt lenO lenT oApp2 oApp oS2a oCpy3 oCpy2 oCpy1 oCopy foldMM oMM zerosV oMkS V.sub V.upd V.size V.sizeL V.isAgg V.same V.sameL eqI eqB eqS eqA andO eqT eqL V.len upd R.D
attribute [go_sem] WopD_pick WopD_mv WopD_allocAt WopD_boxAt WopD_build WopD_buildS WopD_load WopD_store WopD_nilc WopD_bin WopD_binB WopD_binP WopD_eqa WopD_un WopD_conv WopD_fadr WopD_fld WopD_iadrA WopD_iadrG WopD_iadrS WopD_idxS WopD_idxA WopD_slcA WopD_slcS WopD_slcT WopD_ext WopD_len WopD_lenT WopD_app WopD_copy WopD_mkS WopD_s2a WopD_mm WopD_call callDO_some WopsD_nil WopsD_cons WopsD_guard W_regD endD_eq getF_z getF_s Wop_allocAt Wop_boxAt
attribute [go_sem] Wop_appG Wop_cutG WopD_appG WopD_cutG oAppG oCutG strideOk
attribute [go_sem] Wop_buildR Wop_cvt Wop_capN Wop_appZ WopD_buildR WopD_cvt WopD_capN WopD_appZ oElemsR oBuildR oCvt capO sliD oAppZ2 oAppZ
attribute [go_sem] Wop_callW W_regW WopsW_nil WopsW_cons WopsW_nn WopsW_mm WopsW_ma WopsW_guard WopsW_gm chkL_nil chkL_cons getA_cons WopW_mv WopW_pick WopW_allocAt WopW_boxAt WopW_build WopW_buildS WopW_buildR WopW_cvt WopW_capN WopW_appZ WopW_appG WopW_cutG WopW_load WopW_store WopW_nilc WopW_bin WopW_binB WopW_binP WopW_eqa WopW_un WopW_conv WopW_fadr WopW_fld WopW_iadrA WopW_iadrG WopW_iadrS WopW_idxS WopW_idxA WopW_slcA WopW_slcS WopW_slcT WopW_ext WopW_len WopW_lenT WopW_app WopW_copy WopW_mkS WopW_s2a WopW_mm WopW_call WopW_mkFn WopW_callV WopW_slcZ WopW_s2b WopW_fad0 WopW_callW WopW_appR WopW_new WopW_newB
attribute [go_sem] Wops_nn Wops_mm Wops_ma Wops_gm WopsD_nn WopsD_mm WopsD_ma WopsD_gm
attribute [go_sem] Wop_new Wop_newB newK_some Wop_callV WopD_callV callVK_fn callVD_fn
theorem bsV_s {s}:bsV false (some (.str s))=some (.sli .u8 (byS s)):=rfl
theorem bsV_b {xs}:bsV true (some (.sli .u8 xs))=some (.str (stS xs)):=rfl
theorem bsV_n:bsV true (some .nils)=some (.str ⟨⟨[]⟩⟩):=rfl
attribute [go_sem] Wop_s2b WopD_s2b oS2b bsV_s bsV_b bsV_n Wop_atLd Wop_atSt Wop_atAdd Wop_fad0 Wop_mkFn Wop_slcZ Wop_appI Wop_clr Wop_appR WopD_fad0 WopD_mkFn WopD_slcZ orR_some orR_none oFadP oFad0 oAtAdd putR oAtSt oAtLd oMkFn oSlcZ lenIO oAppI oAppI3 oClr oClr3 rowO rowL appRK_n appRK_o appRK_e e0D_u e0D_i e0D_a appRK_s appR0 appR1 appNew putL V.off
attribute [go_sem] oFill oBoxAt Bx.hole noF footR footW footS foot neO apartF pairsOk
attribute [go_sem low] ranO_some guardO_bt guardO_bf condO_some pickO_b
end Go.Abs
namespace Go.Abs
open Go Go.RowKit
set_option linter.unusedVariables false
set_option linter.unusedSimpArgs false
def AO.slot:AO→Nat
 | .v i=>i
 | .t i=>i
 | .c _=>0
theorem getv_get:∀(l:List (Option D)) (t:Nat) (d:D),getv l t=some d→l[t]? =some (some d)
 |[],t,d,h=>by simp[getv]at h
 |o::l,0,d,h=>by simp[getv]at h;simp[h]
 |o::l,t+1,d,h=>by simp only[getv]at h;simpa using getv_get l t d h
theorem constD_rep {c m w L G t v d} (h:constD v=some d):RepD c m w L G t d v:=by
 unfold constD at h
 split at h<;>first|cases h|skip
 ·simp[RepD,RepW,V.isAgg,RepV]
 ·simp[RepD,RepW,V.isAgg,RepV]
 ·simp[RepD,RepW,V.isAgg,RepV]
 ·refine⟨?_,none,0,rfl,.inl rfl⟩
  simp only[RepW,V.isAgg,Bool.false_eq_true,if_false,RepV]
 ·simp[RepD,RepW,V.isAgg,RepV]
 ·simp[RepD,RepW,V.isAgg,RepV]
 ·trivial
theorem InvW.rd {c m σ a w} (h:InvW c m σ a w) {K:Nat} {x:Operand} {ao:AO} {d:D} (hx:aoOf K x=some ao) (he:σ.ev ao=some d):RepD c m w σ.L σ.G ao.slot d (a.eval x):=by
 cases x with
 |tmp t=>
  simp only[aoOf]at hx;cases hx
  split at he
  ·rename_i hlt;simp only[hlt,if_true,AO.slot]
   simp only[St.ev]at he;exact h.envV t d (getv_get _ _ _ he)
  ·rename_i hlt;simp only[hlt,if_false,AO.slot]
   simp only[St.ev]at he;exact (h.envT t d he).2.2
 |const v=>
  simp only[aoOf]at hx
  cases hc:constD v with
  |none=>simp[hc]at hx
  |some d'=>simp[hc]at hx;subst hx;simp only[St.ev]at he;cases he;exact constD_rep hc
 |global g=>simp only[aoOf]at hx;cases hx;simp only[St.ev]at he;cases he;rfl
 |func f=>simp only[aoOf]at hx;cases hx;simp only[St.ev]at he;cases he;rfl
theorem InvW.rdV {c m σ a w} (h:InvW c m σ a w) {K:Nat} {x:Operand} {ao:AO} {y:V} (hx:aoOf K x=some ao) (he:asV (σ.ev ao)=some y):RepW w (MM c.Mc m.ow m.lo) y (a.eval x):=by
 cases hd:σ.ev ao with
 |none=>simp[hd,asV]at he
 |some d=>
  have hr:=h.rd hx hd
  cases d<;>simp[hd,asV]at he
  ·subst he;exact hr
  ·subst he;exact hr.1
  ·subst he
   have hr:a.eval x=_:=hr
   unfold RepW;rw[if_neg (by simp[V.isAgg])]
   simp only[RepV]
   exact⟨[],by rw[hr],by simp[RepC]⟩
  ·subst he
   obtain⟨ad,hv⟩:=hr
   unfold RepW;rw[if_neg (by simp[V.isAgg])]
   simp only[RepV]
   exact⟨ad,0,by rw[hv];rfl,Nat.le_refl _,fun _=>rfl,fun p _ i v hi=>by simp at hi⟩
theorem InvW.rdI {c m σ a w} (h:InvW c m σ a w) {K:Nat} {x:Operand} {ao:AO} {n:Int} (hx:aoOf K x=some ao) (he:asI (σ.ev ao)=some n):∃k,a.eval x= .int k n:=by
 cases hd:σ.ev ao with
 |none=>simp[hd,asI]at he
 |some d=>
  have hr:=h.rd hx hd
  cases d<;>simp only[hd,asI]at he<;>first|(cases he;done)|skip
  rename_i y
  cases y<;>simp only[]at he<;>first|(cases he;done)|skip
  cases he
  simp only[RepD,RepW,V.isAgg,Bool.false_eq_true,if_false,RepV]at hr
  rename_i k;exact⟨k,by simpa using hr⟩
theorem InvW.rdB {c m σ a w} (h:InvW c m σ a w) {K:Nat} {x:Operand} {ao:AO} {b:Bool} (hx:aoOf K x=some ao) (he:asB (σ.ev ao)=some b):a.eval x= .bool b:=by
 cases hd:σ.ev ao with
 |none=>simp[hd,asB]at he
 |some d=>
  have hr:=h.rd hx hd
  cases d<;>simp only[hd,asB]at he<;>first|(cases he;done)|skip
  rename_i y
  cases y<;>simp only[]at he<;>first|(cases he;done)|skip
  cases he
  simpa [RepD,RepW,V.isAgg,RepV]using hr
def AD.slot:AD→Nat
 | .v i=>i
 | .t i=>i
 | .no=>0
theorem St.put_L (σ:St) (t:AD) (d:D):(σ.put t d).L=σ.L:=by cases t<;>rfl
theorem St.put_G (σ:St) (t:AD) (d:D):(σ.put t d).G=σ.G:=by cases t<;>rfl
theorem St.put_len (σ:St) (t:AD) (d:D):(σ.put t d).vs.length=σ.vs.length:=by cases t<;>simp[St.put,St.putV,St.putT]
theorem InvW.put {c m σ a w} (h:InvW c m σ a w) {t:Option Tmp} {ad:AD} {d:D} {v:Value} (ht:adOf σ.vs.length c.N t=some ad) (hd:RepD c m w σ.L σ.G ad.slot d v):InvW c m (σ.put ad d) (a.put t v) w:=by
 cases t with
 |none=>simp only[adOf]at ht;cases ht;exact h
 |some t=>
  simp only[adOf]at ht
  split at ht
  ·rename_i hlt;cases ht;exact h.putV hlt hd
  ·rename_i hlt
   split at ht
   ·rename_i hN;cases ht;exact h.putT hN (Nat.le_of_not_lt hlt) hd
   ·cases ht
theorem InvW.reset {c m σ a w} (h:InvW c m σ a w) {ao:AO} {d d':D} (he:σ.ev ao=some d) (hdd:∀t v,RepD c m w σ.L σ.G t d v→RepD c m w σ.L σ.G t d' v):InvW c m (σ.put ao.ad d') a w:=by
 cases ao with
 |v t=>
  simp only[St.ev]at he
  have hg:=getv_get _ _ _ he
  have hr:=h.envV t _ hg
  have hlt:=(List.getElem?_eq_some_iff.1 hg).1
  refine { h with vsN:=by simpa [St.put,St.putV,AO.ad]using h.vsN,vsK:=by simpa [St.put,St.putV,AO.ad]using h.vsK,envV:= ?_,envT:= ?_ }
  ·intro t' d' hg'
   simp only[St.put,St.putV,AO.ad]at hg'
   by_cases e:t'=t
   ·subst e;rw[List.getElem?_set_self hlt]at hg';cases hg';exact hdd _ _ hr
   ·rw[List.getElem?_set_ne (fun h=>e h.symm)]at hg';exact h.envV t' d' hg'
  ·intro t' d' hg'
   obtain⟨h1,h2,h3⟩:=h.envT t' d' hg'
   exact⟨by simpa [St.put,St.putV,AO.ad]using h1,h2,h3⟩
 |t t=>
  simp only[St.ev]at he
  obtain⟨h1,h2,h3⟩:=h.envT t _ he
  refine { h with envT:= ?_ }
  intro t' d' hg'
  simp only[St.put,St.putT,AO.ad,look_cons]at hg'
  by_cases e:t'=t
  ·subst e;rw[if_pos rfl]at hg';cases hg';exact⟨h1,h2,hdd _ _ h3⟩
  ·rw[if_neg e]at hg';exact h.envT t' d' hg'
 |c d=>exact h
theorem InvW.drop {c m σ a w} (h:InvW c m σ a w) {ao:AO} {y:V} (he:σ.ev ao=some (.own y)):InvW c m (σ.put ao.ad (.v y)) a w:=
 h.reset he fun _ _ hr=>hr.1
def Mem.give (m:Mem) (i s:Nat):Mem:={ m with ow:=fun b=>if m.ow b=some (.slot i)then some (.slot s)else m.ow b }
theorem Mem.give_isSome (m:Mem) (i s b:Nat):((m.give i s).ow b).isSome=(m.ow b).isSome:=by
 simp only[Mem.give];split
 ·rename_i h;simp[h]
 ·rfl
theorem MM_give (Mc:Nat→Nat→Prop) (m:Mem) (i s:Nat):MM Mc (m.give i s).ow (m.give i s).lo=MM Mc m.ow m.lo:=by
 funext b o;simp only[MM,Mem.give_isSome];rfl
theorem tr_give {c m w L G} (i s:Nat):Tr c m w L G (m.give i s) w L G (fun t=>t=i) where
 goes:=by rw[MM_give];exact Goes.refl _ _
 shape:=fun _ _ h=>h
 frz:=fun _ _ _ _=>rfl
 lam:=fun _ _ h=>h
 locs:=fun _ r _ _ h=>⟨r,h,V.same_refl _⟩
 objs:=fun _ r h=>⟨r,h,V.same_refl _⟩
 own:=fun t ht b hb=>by
  simp only[Mem.give]
  rw[if_neg (by rw[hb];simpa using ht)];exact⟨hb,trivial⟩
 ob:=fun b hb=>by
  simp only[Mem.give]
  rw[if_neg (by rw[hb];simp)];exact⟨hb,trivial⟩
 obN:=fun b hb=>by
  simp only[Mem.give]at hb
  split at hb
  ·cases hb
  ·exact .inl hb
theorem own_give {c m w L G i s y v} (h:RepD c m w L G i (.own y) v):RepD c (m.give i s) w L G s (.own y) v:=by
 obtain⟨h1,a,cap,h2,h3⟩:=h
 refine⟨by rw[MM_give];exact h1,a,cap,h2,?_⟩
 rcases h3 with h3|⟨b,o,e,h0,h4,h5,h6,h7,h8⟩
 ·exact .inl h3
 ·exact .inr ⟨b,o,e,h0,h4,by simp[Mem.give,h5],h6,h7,h8⟩
theorem InvW.give {c m σ a w} (h:InvW c m σ a w) {ao:AO} {y:V} (hn:∀d,ao≠.c d) (he:σ.ev ao=some (.own y)) (s:Nat):
  InvW c (m.give ao.slot s) (σ.put ao.ad (.v y)) a w:=by
 have h':=h.drop he
 have T:Tr c m w (σ.put ao.ad (.v y)).L (σ.put ao.ad (.v y)).G (m.give ao.slot s) w (σ.put ao.ad (.v y)).L (σ.put ao.ad (.v y)).G (fun t=>t=ao.slot):=tr_give _ _
 have hM:=MM_give c.Mc m ao.slot s
 refine h'.step T none (fun _ h=>by cases h) (fun _ _ _=>rfl) rfl rfl rfl (Nat.le_refl _) (fun b hb=> .inl (by rw[Mem.give_isSome]at hb;exact hb)) h'.lamL ?_ ?_ rfl ?_ ?_ h'.holes
 ·intro k r b hk hb
  obtain⟨h1,h2,h3,h4⟩:=h'.boxes k r b hk hb
  rw[hM]
  refine⟨h1,h2,fun hf=> ?_,h4⟩
  obtain⟨h5,h6⟩:=h3 hf
  simp only[Mem.give];rw[if_neg (by rw[h5];simp)];exact⟨h5,h6⟩
 ·intro id x hx
  obtain⟨h1,h2,h3⟩:=h'.objs id x hx
  rw[hM]
  refine⟨h1,?_,h3⟩
  simp only[Mem.give];rw[if_neg (by rw[h2];simp)];exact h2
 ·intro t d hd
  have hr:=h'.envV t d hd
  by_cases e:t=ao.slot
  ·cases ao with
   |c d=>exact absurd rfl (hn d)
   |v i=>
    simp only[AO.slot]at e;subst e
    simp only[St.ev]at he
    have hlt:=(List.getElem?_eq_some_iff.1 (getv_get _ _ _ he)).1
    simp only[St.put,St.putV,AO.ad]at hd
    rw[List.getElem?_set_self hlt]at hd;cases hd
    exact RepW.goes T.goes hr
   |t i=>
    simp only[AO.slot]at e;subst e
    simp only[St.ev]at he
    have hlt:=(List.getElem?_eq_some_iff.1 hd).1
    have:=(h.envT t _ he).1
    simp only[St.put,St.putT,AO.ad]at hlt;omega
  ·exact hr.tr T e
 ·intro t d hd
  obtain⟨h1,h2,h3⟩:=h'.envT t d hd
  refine⟨h1,h2,?_⟩
  by_cases e:t=ao.slot
  ·cases ao with
   |c d=>exact absurd rfl (hn d)
   |v i=>
    simp only[AO.slot]at e;subst e
    simp only[St.ev]at he
    have hlt:=(List.getElem?_eq_some_iff.1 (getv_get _ _ _ he)).1
    rw[St.put_len]at h1;omega
   |t i=>
    simp only[AO.slot]at e;subst e
    simp only[St.put,St.putT,AO.ad,look_cons,if_true]at hd;cases hd
    exact RepW.goes T.goes h3
  ·exact h3.tr T e
def Fits (c:Ctx) (o:Oper) (a:Act) (w:World) (σ':St):Prop:=∃res w1 m',(execOp a.eval o).run c.P w= .ok res w1∧
 ((∃v,res= .value v∧InvW c m' σ' (a.put o.dst v) w1)∨(res= .skip∧InvW c m' σ' (a.put o.dst undef) w1))
theorem Fits.val {c o a w σ' v w1 m'} (h:(execOp a.eval o).run c.P w= .ok (.value v) w1) (hi:InvW c m' σ' (a.put o.dst v) w1):Fits c o a w σ':=⟨_,_,_,h,.inl ⟨v,rfl,hi⟩⟩
theorem run_v {P:Program} {s:Sem Value} {w w1:World} {v:Value} (h:s.run P w= .ok v w1):(do pure (Next.value (←s)):Sem Next).run P w= .ok (.value v) w1:=by
 rw[run_bind h];rfl
section ops
variable {c:Ctx} {m:Mem} {σ:St} {a:Act} {w:World} {o:Oper} {t:AD} {p:Prop} {σ':St}
theorem snd_mv {feeds:Bool} {x:Operand} {ao:AO} (h:InvW c m σ a w) (ho:(execOp a.eval o)=pure (.value (a.eval x))) (hx:aoOf σ.vs.length x=some ao) (hd:adOf σ.vs.length c.N o.dst=some t)
  (he:oMv feeds ao σ t (σ.ev ao)=some (p,σ')):Fits c o a w σ':=by
 have hrun:(execOp a.eval o).run c.P w= .ok (.value (a.eval x)) w:=by rw[ho];rfl
 cases hv:σ.ev ao with
 |none=>simp[hv,oMv]at he
 |some d=>
  have hr:=h.rd hx hv
  have hother:∀d',(∀y,d≠.own y∧d≠.row y∧d≠.gro y)→d'=d→InvW c m (σ.put t d') (a.put o.dst (a.eval x)) w:=by
   intro d' hn e;subst e
   refine h.put hd ?_
   cases d'<;>first|exact hr|exact absurd rfl (hn _).1|exact absurd rfl (hn _).2.1|exact absurd rfl (hn _).2.2
  cases d with
  |own y=>
   rw[hv]at he
   simp only[oMv]at he
   split at he
   ·cases he
    cases ao with
    |c d=>
     simp only[St.ev]at hv;cases hv
     refine Fits.val hrun (InvW.put (m:=m) (σ:=σ.put AD.no _) ?_ (by exact hd) ?_)
     ·exact h
     ·cases x with
      |const v=>
       simp only[aoOf]at hx
       cases hc:constD v with
       |none=>simp[hc]at hx
       |some d'=>simp[hc]at hx;subst hx;exact constD_rep hc
      |tmp t=>simp only[aoOf]at hx;split at hx<;>simp at hx
      |global g=>simp[aoOf]at hx
      |func f=>simp[aoOf]at hx
    |v i=>
     have hg:=h.give (ao:= .v i) (fun d e=>by cases e) hv t.slot
     refine Fits.val hrun (InvW.put hg (by rw[St.put_len];exact hd) ?_)
     rw[St.put_L,St.put_G];exact own_give hr
    |t i=>
     have hg:=h.give (ao:= .t i) (fun d e=>by cases e) hv t.slot
     refine Fits.val hrun (InvW.put hg (by rw[St.put_len];exact hd) ?_)
     rw[St.put_L,St.put_G];exact own_give hr
   ·cases he
    exact Fits.val hrun (h.put hd hr.1)
  |row y=>rw[hv]at he;cases he;exact Fits.val hrun (h.put hd hr.1)
  |gro y=>rw[hv]at he;cases he;exact Fits.val hrun (h.put hd trivial)
  |jk=>rw[hv]at he;cases he;exact Fits.val hrun (h.put hd trivial)
  |v y=>rw[hv]at he;cases he;exact Fits.val hrun (hother _ (fun _=>⟨(by intro e;cases e),(by intro e;cases e),(by intro e;cases e)⟩) rfl)
  |lp k q=>rw[hv]at he;cases he;exact Fits.val hrun (hother _ (fun _=>⟨(by intro e;cases e),(by intro e;cases e),(by intro e;cases e)⟩) rfl)
  |gp k q=>rw[hv]at he;cases he;exact Fits.val hrun (hother _ (fun _=>⟨(by intro e;cases e),(by intro e;cases e),(by intro e;cases e)⟩) rfl)
  |ep y=>rw[hv]at he;cases he;exact Fits.val hrun (hother _ (fun _=>⟨(by intro e;cases e),(by intro e;cases e),(by intro e;cases e)⟩) rfl)
  |vw k q n=>rw[hv]at he;cases he;exact Fits.val hrun (hother _ (fun _=>⟨(by intro e;cases e),(by intro e;cases e),(by intro e;cases e)⟩) rfl)
  |tup l=>rw[hv]at he;cases he;exact Fits.val hrun (hother _ (fun _=>⟨(by intro e;cases e),(by intro e;cases e),(by intro e;cases e)⟩) rfl)
  |fn f=>rw[hv]at he;cases he;exact Fits.val hrun (hother _ (fun _=>⟨(by intro e;cases e),(by intro e;cases e),(by intro e;cases e)⟩) rfl)
  |gl g=>rw[hv]at he;cases he;exact Fits.val hrun (hother _ (fun _=>⟨(by intro e;cases e),(by intro e;cases e),(by intro e;cases e)⟩) rfl)
  |e0=>rw[hv]at he;cases he;exact Fits.val hrun (hother _ (fun _=>⟨(by intro e;cases e),(by intro e;cases e),(by intro e;cases e)⟩) rfl)
  |un=>rw[hv]at he;cases he;exact Fits.val hrun (hother _ (fun _=>⟨(by intro e;cases e),(by intro e;cases e),(by intro e;cases e)⟩) rfl)
end ops
end Go.Abs
namespace Go.Abs
open Go Go.RowKit
set_option linter.unusedVariables false
set_option linter.unusedSimpArgs false
theorem RepW.int {w M k n v} (h:RepW w M (.int k n) v):v= .int k n:=by simpa [RepW,V.isAgg,RepV]using h
theorem RepW.bool {w M b v} (h:RepW w M (.bool b) v):v= .bool b:=by simpa [RepW,V.isAgg,RepV]using h
theorem RepW.str {w M s v} (h:RepW w M (.str s) v):v= .string s:=by simpa [RepW,V.isAgg,RepV]using h
theorem RepW.nilp {w M v} (h:RepW w M .nilp v):v= .pointer none:=by simpa [RepW,V.isAgg,RepV]using h
theorem RepW.ptr {w M i v} (h:RepW w M (.ptr i) v):v= .pointer (some ⟨i,0,none⟩):=by simpa [RepW,V.isAgg,RepV]using h
theorem repW_int {w M k n}:RepW w M (.int k n) (.int k n):=by simp[RepW,V.isAgg,RepV]
theorem repW_bool {w M b}:RepW w M (.bool b) (.bool b):=by simp[RepW,V.isAgg,RepV]
theorem repW_str {w M s}:RepW w M (.str s) (.string s):=by simp[RepW,V.isAgg,RepV]
section ops
variable {c:Ctx} {m:Mem} {σ:St} {a:Act} {w:World} {o:Oper} {t:AD} {p:Prop} {σ':St}
theorem fits_put {x:V} {v:Value} (h:InvW c m σ a w) (hd:adOf σ.vs.length c.N o.dst=some t) (hr:(execOp a.eval o).run c.P w= .ok (.value v) w) (hx:RepW w (MM c.Mc m.ow m.lo) x v):
  Fits c o a w (σ.put t (.v x)):=Fits.val hr (h.put hd hx)
theorem repD_sli {L:List Bx} {G:List (Nat×V)} {s:Nat} {x:V} {v:Value} (hx:RepW w (MM c.Mc m.ow m.lo) x v):RepD c m w L G s (sliD x) v:=by
 cases x<;>first|exact hx|skip
 refine⟨hx,none,0,?_,.inl rfl⟩
 simpa [RepW,V.isAgg,RepV,V.len]using hx
theorem fits_putS {x:V} {v:Value} (h:InvW c m σ a w) (hd:adOf σ.vs.length c.N o.dst=some t) (hr:(execOp a.eval o).run c.P w= .ok (.value v) w) (hx:RepW w (MM c.Mc m.ow m.lo) x v):
  Fits c o a w (σ.put t (sliD x)):=Fits.val hr (h.put hd (repD_sli hx))
theorem int_run {P:Program} {op:BinOp} {ty:TypeId} {x y:Operand} {k k':IntKind} {n n':Int} {q:Prop} {r:V} {w:World} (hk:(isShift op ||k==k')=true) (he:arith op k n n'=some (q,r)) (hq:q):
  ∃v,(do eqGuard op ty x y (.int k n) (.int k' n');binOp op ty (.int k n) (.int k' n'):Sem Value).run P w= .ok v w∧∀M,RepW w M r v:=by
 have hg:∀op',(eqGuard op' ty x y (.int k n) (.int k' n')).run P w= .ok () w:=by
  intro op';unfold eqGuard;split<;>rfl
 rw[run_bind (hg op)]
 cases op<;>simp only[arith]at he<;>cases he<;>simp only[isShift,Bool.true_or,Bool.false_or,beq_iff_eq]at hk<;>
  (try subst hk)<;>simp only[binOp,ne_eq,not_true_eq_false,if_false,Op.intArith,Op.intDiv,Op.intBits,Op.intCmp,Op.shift]
 ·exact⟨_,rfl,fun M=>repW_int⟩
 ·exact⟨_,rfl,fun M=>repW_int⟩
 ·exact⟨_,rfl,fun M=>repW_int⟩
 ·rw[if_neg hq];exact⟨_,rfl,fun M=>repW_int⟩
 ·rw[if_neg hq];exact⟨_,rfl,fun M=>repW_int⟩
 ·exact⟨_,rfl,fun M=>repW_int⟩
 ·exact⟨_,rfl,fun M=>repW_int⟩
 ·exact⟨_,rfl,fun M=>repW_int⟩
 ·rw[if_neg (by omega)];exact⟨_,rfl,fun M=>repW_int⟩
 ·rw[if_neg (by omega)];exact⟨_,rfl,fun M=>repW_int⟩
 ·exact⟨_,rfl,fun M=>repW_int⟩
 ·refine⟨_,rfl,fun M=> ?_⟩;exact repW_bool
 ·refine⟨_,rfl,fun M=> ?_⟩;exact repW_bool
 ·exact⟨_,rfl,fun M=>repW_bool⟩
 ·exact⟨_,rfl,fun M=>repW_bool⟩
 ·exact⟨_,rfl,fun M=>repW_bool⟩
 ·exact⟨_,rfl,fun M=>repW_bool⟩
theorem str_run {P:Program} {op:BinOp} {ty:TypeId} {x y:Operand} {s s':ByteArray} {q:Prop} {r:V} {w:World} (he:strOp op s s'=some (q,r)) (hq:q):
  ∃v,(do eqGuard op ty x y (.string s) (.string s');binOp op ty (.string s) (.string s'):Sem Value).run P w= .ok v w∧∀M,RepW w M r v:=by
 have hg:∀op',(eqGuard op' ty x y (.string s) (.string s')).run P w= .ok () w:=by
  intro op';unfold eqGuard;split<;>rfl
 rw[run_bind (hg op)]
 cases op<;>simp only[strOp]at he<;>cases he<;>simp only[binOp,Op.stringOp]
 ·rw[if_neg (by simp only[IntKind.max,IntKind.bits,IntKind.signed];have:=hq;omega)];exact⟨_,rfl,fun M=>repW_str⟩
 ·exact⟨_,rfl,fun M=>repW_bool⟩
 ·exact⟨_,rfl,fun M=>repW_bool⟩
 ·exact⟨_,rfl,fun M=>repW_bool⟩
 ·exact⟨_,rfl,fun M=>repW_bool⟩
 ·exact⟨_,rfl,fun M=>repW_bool⟩
 ·exact⟨_,rfl,fun M=>repW_bool⟩
theorem snd_bin {op:BinOp} {ty ty':TypeId} {x y:Operand} {ax ay:AO} (h:InvW c m σ a w) (ho:o.op= .binOp op ty x y ty')
  (hx:aoOf σ.vs.length x=some ax) (hy:aoOf σ.vs.length y=some ay) (hd:adOf σ.vs.length c.N o.dst=some t)
  (he:putPV σ t (binV op (asV (σ.ev ax)) (asV (σ.ev ay)))=some (p,σ')) (hp:p):Fits c o a w σ':=by
 have hrun:∀v,(do eqGuard op ty x y (a.eval x) (a.eval y);binOp op ty (a.eval x) (a.eval y):Sem Value).run c.P w= .ok v w→(execOp a.eval o).run c.P w= .ok (.value v) w:=by
  intro v hv;unfold execOp;rw[ho];exact run_v hv
 cases hX:asV (σ.ev ax)with
 |none=>simp[hX,binV,putPV]at he
 |some X=>
  cases hY:asV (σ.ev ay)with
  |none=>simp[hX,hY,binV,putPV]at he
  |some Y=>
   have rX:=h.rdV hx hX
   have rY:=h.rdV hy hY
   rw[hX,hY]at he
   cases X<;>cases Y<;>simp only[binV,binVV,binI,binT,putPV]at he<;>try (cases he;done)
   ·split at he
    ·rename_i q x' hq
     split at hq
     ·rename_i hk
      cases he
      obtain⟨v,hv,hr⟩:=int_run (P:=c.P) (op:=op) (ty:=ty) (x:=x) (y:=y) (w:=w) hk hq hp
      rw[←rX.int,←rY.int]at hv
      exact fits_put h hd (hrun v hv) (hr _)
     ·cases hq
    ·cases he
   ·split at he
    ·rename_i q x' hq
     cases he
     obtain⟨v,hv,hr⟩:=str_run (P:=c.P) (op:=op) (ty:=ty) (x:=x) (y:=y) (w:=w) hq hp
     rw[←rX.str,←rY.str]at hv
     exact fits_put h hd (hrun v hv) (hr _)
    ·cases he
theorem snd_binB {op:BinOp} {ty ty':TypeId} {x y:Operand} {ax ay:AO} (h:InvW c m σ a w) (ho:o.op= .binOp op ty x y ty') (hu:c.P.underlying ty=some .bool)
  (hx:aoOf σ.vs.length x=some ax) (hy:aoOf σ.vs.length y=some ay) (hd:adOf σ.vs.length c.N o.dst=some t)
  (he:putPV σ t (binVB op (asV (σ.ev ax)) (asV (σ.ev ay)))=some (p,σ')) (hp:p):Fits c o a w σ':=by
 have hrun:∀v,(do eqGuard op ty x y (a.eval x) (a.eval y);binOp op ty (a.eval x) (a.eval y):Sem Value).run c.P w= .ok v w→(execOp a.eval o).run c.P w= .ok (.value v) w:=by
  intro v hv;unfold execOp;rw[ho];exact run_v hv
 cases hX:asV (σ.ev ax)with
 |none=>simp[hX,binVB,putPV]at he
 |some X=>
  cases hY:asV (σ.ev ay)with
  |none=>simp[hX,hY,binVB,putPV]at he
  |some Y=>
   have rX:=h.rdV hx hX
   have rY:=h.rdV hy hY
   rw[hX,hY]at he
   cases X<;>cases Y<;>simp only[binVB,putPV]at he<;>try (cases he;done)
   rename_i b b'
   have hg:(eqGuard op ty x y (.bool b) (.bool b')).run c.P w= .ok () w:=by unfold eqGuard;split<;>rfl
   have heq:(Op.equal ty (.bool b) (.bool b')).run c.P w= .ok (b==b') w:=by
    unfold Op.equal Op.maxDepth;rw[Op.equalIn,run_bind (run_underlying hu)];rfl
   split at he
   ·rename_i q x' hq
    cases he
    cases op<;>simp only[eqOp]at hq<;>cases hq
    ·refine fits_put h hd (hrun (.bool (b==b')) ?_) repW_bool
     rw[rX.bool,rY.bool,run_bind hg];simp only[binOp];rw[run_bind heq];rfl
    ·refine fits_put h hd (hrun (.bool (!(b==b'))) ?_) repW_bool
     rw[rX.bool,rY.bool,run_bind hg];simp only[binOp];rw[run_bind heq];rfl
   ·cases he
theorem snd_binP {op:BinOp} {ty ty' e:TypeId} {x y:Operand} {ax ay:AO} (h:InvW c m σ a w) (ho:o.op= .binOp op ty x y ty') (hu:c.P.underlying ty=some (.pointer e))
  (hx:aoOf σ.vs.length x=some ax) (hy:aoOf σ.vs.length y=some ay) (hd:adOf σ.vs.length c.N o.dst=some t)
  (he:putPV σ t (binVP op (asV (σ.ev ax)) (asV (σ.ev ay)))=some (p,σ')) (hp:p):Fits c o a w σ':=by
 have hrun:∀v,(do eqGuard op ty x y (a.eval x) (a.eval y);binOp op ty (a.eval x) (a.eval y):Sem Value).run c.P w= .ok v w→(execOp a.eval o).run c.P w= .ok (.value v) w:=by
  intro v hv;unfold execOp;rw[ho];exact run_v hv
 have key:∀(A B:Option Addr) (b:Bool),(A.isNone=true∨B.isNone=true)→b=(A.isNone&&B.isNone)→(a.eval x= .pointer A)→(a.eval y= .pointer B)→
   ∀r q,eqOp op b=some (q,r)→σ'=σ.put t (.v r)→Fits c o a w σ':=by
  intro A B b hAB hb hxA hyB r q hq hs
  subst hs
  have hg:(eqGuard op ty x y (.pointer A) (.pointer B)).run c.P w= .ok () w:=by unfold eqGuard;split<;>rfl
  have heq:(Op.equal ty (.pointer A) (.pointer B)).run c.P w= .ok b w:=by
   unfold Op.equal Op.maxDepth;rw[Op.equalIn,run_bind (run_underlying hu)]
   cases A<;>cases B<;>simp_all [samePointer]
  cases op<;>simp only[eqOp]at hq<;>cases hq
  ·refine fits_put h hd (hrun (.bool b) ?_) repW_bool
   rw[hxA,hyB,run_bind hg];simp only[binOp];rw[run_bind heq];rfl
  ·refine fits_put h hd (hrun (.bool (!b)) ?_) repW_bool
   rw[hxA,hyB,run_bind hg];simp only[binOp];rw[run_bind heq];rfl
 cases hX:asV (σ.ev ax)with
 |none=>simp[hX,binVP,putPV]at he
 |some X=>
  cases hY:asV (σ.ev ay)with
  |none=>simp[hX,hY,binVP,putPV]at he
  |some Y=>
   have rX:=h.rdV hx hX
   have rY:=h.rdV hy hY
   rw[hX,hY]at he
   cases X<;>cases Y<;>simp only[binVP,putPV]at he<;>try (cases he;done)
   ·split at he
    ·rename_i q x' hq;cases he;exact key _ _ _ (.inr rfl) rfl rX.ptr rY.nilp _ _ hq rfl
    ·cases he
   ·split at he
    ·rename_i q x' hq;cases he;exact key _ _ _ (.inl rfl) rfl rX.nilp rY.ptr _ _ hq rfl
    ·cases he
   ·split at he
    ·rename_i q x' hq;cases he;exact key _ _ _ (.inl rfl) rfl rX.nilp rY.nilp _ _ hq rfl
    ·cases he
theorem snd_un {op:UnOp} {ty:TypeId} {x:Operand} {ax:AO} (h:InvW c m σ a w) (ho:o.op= .unOp op ty x)
  (hx:aoOf σ.vs.length x=some ax) (hd:adOf σ.vs.length c.N o.dst=some t) (he:putVO σ t (unV op (asV (σ.ev ax)))=some (p,σ')):Fits c o a w σ':=by
 cases hX:asV (σ.ev ax)with
 |none=>cases op<;>simp[hX,unV,putVO]at he
 |some X=>
  have rX:=h.rdV hx hX
  rw[hX]at he
  cases X<;>cases op<;>simp only[unV,putVO]at he<;>try (cases he;done)
  ·cases he;rename_i k n
   refine fits_put h hd (v:= .int k (k.wrap (0-n))) ?_ repW_int
   unfold execOp;rw[ho];exact run_v (by rw[rX.int];rfl)
  ·cases he;rename_i k n
   refine fits_put h hd (v:= .int k (k.wrap (BitVec.ofInt k.bits (if k.signed then -1 else k.max) ^^^ BitVec.ofInt k.bits n).toNat)) ?_ repW_int
   unfold execOp;rw[ho];exact run_v (by rw[rX.int];rfl)
  ·cases he;rename_i b
   refine fits_put h hd (v:= .bool (!b)) ?_ repW_bool
   unfold execOp;rw[ho];exact run_v (by rw[rX.bool];rfl)
theorem snd_conv {s ty:TypeId} {k ks:IntKind} {x:Operand} {ax:AO} (h:InvW c m σ a w) (ho:o.op= .convert s ty x) (hs:c.P.underlying s=some (.int ks)) (ht:c.P.underlying ty=some (.int k))
  (hx:aoOf σ.vs.length x=some ax) (hd:adOf σ.vs.length c.N o.dst=some t) (he:oConv k σ t (asV (σ.ev ax))=some (p,σ')):Fits c o a w σ':=by
 cases hX:asV (σ.ev ax)with
 |none=>simp[hX,oConv]at he
 |some X=>
  have rX:=h.rdV hx hX
  rw[hX]at he
  cases X<;>simp only[oConv]at he<;>try (cases he;done)
  cases he;rename_i k' n
  refine fits_put h hd (v:= .int k (k.wrap n)) ?_ repW_int
  unfold execOp;rw[ho];refine run_v ?_
  unfold convert;rw[run_bind (run_underlying hs),run_bind (run_underlying ht),rX.int];rfl
end ops
end Go.Abs
namespace Go.Abs
open Go Go.RowKit
set_option linter.unusedVariables false
set_option linter.unusedSimpArgs false
theorem BoxAt.part {w M b x p y o} (hb:BoxAt w M b x) (hs:x.sub p=some y) (ho:x.off p=some o):
  ∃cs,Cells w ⟨b,o,none⟩ cs∧RepV w M y cs:=by
 obtain⟨cs0,e,h1,h2,h3,h4⟩:=hb
 obtain⟨h5,h6⟩:=h4.sub hs ho
 refine⟨_,?_,h5⟩
 intro i v hv
 rw[addr_add]
 rw[List.getElem?_take]at hv
 split at hv
 ·rw[List.getElem?_drop]at hv;exact h2 _ _ hv
 ·cases hv
theorem off_nil (x:V):x.off []=some 0:=by simp[V.off]
theorem InvW.place {c m σ a w} (h:InvW c m σ a w) {K:Nat} {x:Operand} {ao:AO} {y:V} (hx:aoOf K x=some ao) (he:subO (atO c.tab σ (σ.ev ao))=some y):
  ∃q cs,a.eval x= .pointer (some q)∧Cells w q cs∧RepV w (MM c.Mc m.ow m.lo) y cs:=by
 cases hd:σ.ev ao with
 |none=>simp[hd,atO,subO]at he
 |some d=>
  have hr:=h.rd hx hd
  rw[hd]at he
  cases d<;>simp only[atO]at he<;>try (simp[subO]at he;done)
  ·rename_i z
   cases z<;>simp only[atO]at he<;>try (simp[subO]at he;done)
   rename_i id
   cases hG:look σ.G id with
   |none=>simp[hG,vO,subO]at he
   |some r0=>
    simp only[hG,vO,subO]at he
    obtain⟨cs,h1,h2⟩:=(h.objs id r0 hG).1.part he (off_nil r0)
    exact⟨_,cs,RepW.ptr hr,h1,h2⟩
  ·rename_i k q
   obtain⟨b,r,of,h1,h2,h3,h4⟩:=hr
   simp only[h2,bxO,subO]at he
   obtain⟨cs,h5,h6⟩:=(h.boxes k r b h2 h1).1.part he h3
   exact⟨_,cs,h4,h5,h6⟩
  ·rename_i id q
   obtain⟨r,of,h2,h3,h4⟩:=hr
   simp only[h2,vO,subO]at he
   obtain⟨cs,h5,h6⟩:=(h.objs id r h2).1.part he h3
   exact⟨_,cs,h4,h5,h6⟩
  ·rename_i z
   obtain⟨q,cs,h1,h2,h3⟩:=hr
   simp only[subO,V.sub]at he;cases he
   exact⟨q,cs,h1,h2.cells,h3⟩
  ·rename_i g
   cases hT:look c.tab g with
   |none=>simp[hT,vO,subO]at he
   |some r=>
    simp only[hT,vO,subO,V.sub]at he;cases he
    obtain⟨cs,h1,h2⟩:=h.tabs g _ hT
    exact⟨_,cs,hr,h1.cells,h2⟩
theorem szAg_spec {P:Program} {t:TypeId} {n:Nat} {g:Bool} (h:szAg P t=some (n,g)):∃i d,P.info? t=some i∧P.underlying t=some d∧i.size=n∧aggB d=g:=by
 unfold szAg at h
 split at h
 ·rename_i i d h1 h2;cases h;exact⟨i,d,h1,h2,rfl,rfl⟩
 ·cases h
section ops
variable {c:Ctx} {m:Mem} {σ:St} {a:Act} {w:World} {o:Oper} {t:AD} {p:Prop} {σ':St}
theorem snd_load {ty:TypeId} {n:Nat} {g:Bool} {x:Operand} {ax:AO} (h:InvW c m σ a w) (ho:o.op= .load ty x) (hs:szAg c.P ty=some (n,g))
  (hx:aoOf σ.vs.length x=some ax) (hd:adOf σ.vs.length c.N o.dst=some t) (he:oLoad n g σ t (subO (atO c.tab σ (σ.ev ax)))=some (p,σ')):Fits c o a w σ':=by
 obtain⟨i,d,h1,h2,h3,h4⟩:=szAg_spec hs
 cases hY:subO (atO c.tab σ (σ.ev ax))with
 |none=>simp[hY,oLoad]at he
 |some y=>
  rw[hY]at he;simp only[oLoad]at he
  split at he
  ·rename_i hc;cases he
   obtain⟨q,cs,h5,h6,h7⟩:=h.place hx hY
   obtain⟨v,h8,h9⟩:=run_loadVar (P:=c.P) h1 h2 (by rw[h3,hc.1]) (by rw[h4,hc.2]) h6 h7
   refine fits_put h hd (v:=v) ?_ h9
   unfold execOp;rw[ho];refine run_v ?_
   unfold Instr.loadAt;rw[h5]
   rw[run_bind (x:=q) (w1:=w) rfl];exact h8
  ·cases he
theorem run_storeAt {P:Program} {ty:TypeId} {i:TypeInfo} {w:World} {q:Addr} {v:Value} {M} {y:V} (hi:P.info? ty=some i) (hy:RepW w M y v) (hn:y.size=i.size)
  (hc:∀j,j < v.cells.toList.length→∃u,w.cell? (q.add (0+j))=some u) (hf:∀j,w.frozen? (q.add j)=false):
  (Instr.storeAt ty (.pointer (some q)) v).run P w= .ok () (World.setCells w q v.cells.toList 0):=by
 have hr:=hy.cells
 have hlen:=hr.len
 unfold Instr.storeAt
 rw[run_bind (x:=q) (w1:=w) rfl]
 unfold storeVar
 rw[run_bind (run_sizeOf hi),if_neg (by rw[←hn,←hlen];simp)]
 exact run_storeCells _ _ _ hc (fun j _=>by rw[Nat.zero_add];exact hf j) (fun u hu=>hr.plain u hu)
theorem run_u {P:Program} {s:Sem Unit} {w w1:World} (h:s.run P w= .ok () w1):(do s;pure Next.skip:Sem Next).run P w= .ok .skip w1:=by
 rw[run_bind h];rfl
theorem InvW.put_none {c m σ a w} (h:InvW c m σ a w) {d:Option Tmp} {v:Value} (hd:d=none):InvW c m σ (a.put d v) w:=by subst hd;exact h
theorem snd_storeL {ty:TypeId} {n k:Nat} {g:Bool} {x y:Operand} {ax ay:AO} {q:List Nat} {z:V} (h:InvW c m σ a w) (ho:o.op= .store ty x y) (hs:szAg c.P ty=some (n,g)) (hn:o.dst=none)
  (hx:aoOf σ.vs.length x=some ax) (hy:aoOf σ.vs.length y=some ay) (hX:σ.ev ax=some (.lp k q)) (hY:asV (σ.ev ay)=some z) (he:oStoB n k q σ z σ.L[k]? =some (p,σ')):Fits c o a w σ':=by
 obtain⟨i,d,h1,h2,h3,h4⟩:=szAg_spec hs
 obtain⟨b,r,of,h5,h6,h7,h8⟩:=h.rd hx hX
 simp only[h6,oStoB]at he
 split at he
 ·cases he
 ·rename_i hfz
  cases hu:r.x.upd q z with
  |none=>simp[hu,oStoL]at he
  |some z'=>
   simp only[hu,oStoL]at he
   split at he
   ·rename_i hsz;cases he
    have hz:=h.rdV hy hY
    obtain⟨h9,h10,h11⟩:=h.storeL h6 (by simpa using hfz) h5 h7 hu hz.cells
    refine⟨.skip,_,m,?_,.inr ⟨rfl,h9.put_none hn⟩⟩
    unfold execOp;rw[ho]
    refine run_u ?_
    rw[h8];exact run_storeAt h1 hz (by rw[hsz,h3]) h10 h11
   ·cases he
end ops
/-! objects -/
theorem look_upd {α:Type}:∀(l:List (Nat×α)) (i:Nat) (x:α) (j:Nat),look (upd l i x) j=if j=i then (look l j).map (fun _=>x)else look l j
 |[],i,x,j=>by simp[upd,look]
 |(k,d)::l,i,x,j=>by
  by_cases h1:i=k
  ·have e:upd ((k,d)::l) i x=(k,x)::l:=by simp[upd,h1]
   rw[e,look_cons,look_cons,h1]
   by_cases h2:j=k<;>simp[h2]
  ·have e:upd ((k,d)::l) i x=(k,d)::upd l i x:=by
    have:(i==k)=false:=by simpa using h1
    simp[upd,this]
   rw[e,look_cons,look_cons,look_upd l i x j]
   by_cases h2:j=k
   ·have:¬k=i:=fun e=>h1 e.symm
    simp[h2,this]
   ·simp[h2]
theorem InvW.storeG {c m σ a w} (h : InvW c m σ a w) {id o : Nat} {r : V} {p : List Nat} {y x' : V} {d : List Value}
    (hk : look σ.G id = some r) (ho : r.off p = some o) (hu : V.upd r p y = some x') (hy : RepV w (MM c.Mc m.ow m.lo) y d) :
    InvW c m { σ with G := upd σ.G id x' } a (World.setCells w ⟨id, o, none⟩ d 0) ∧ (∀ j, j < d.length → ∃ u, w.cell? (({ block := id, off := o, spot := none } : Addr).add (0 + j)) = some u) ∧
      (∀ j, w.frozen? (({ block := id, off := o, spot := none } : Addr).add j) = false) := by
  obtain ⟨hB, how, hlo⟩ := h.objs id r hk
  have hc := hB.cells hy ho hu
  obtain ⟨k1, k2, k3, k4, k5, k6, k7, k8⟩ := setCells_spec d w ⟨id, o, none⟩ 0 hc
  have T : Tr c m w σ.L σ.G m (World.setCells w ⟨id, o, none⟩ d 0) σ.L (upd σ.G id x') (fun _ => False) :=
    { goes := fun q u hq hM => by
        have hne : q.block ≠ id := fun e => hM (.inr ⟨by simp [e, how], by rw [e, hlo]; exact Nat.zero_le _⟩)
        exact ⟨by rw [k8 q u hq, if_neg (by rintro ⟨e1, _⟩; exact hne e1)], hM⟩
      shape := fun b' s hs => by rw [k5]; exact hs
      frz := fun b' _ _ j => k6 _
      lam := fun _ _ h => h
      locs := fun k' r' _ _ hk' => ⟨r', hk', V.same_refl _⟩
      objs := fun id' r' hr => by
        rw [look_upd]
        by_cases e : id' = id
        · subst e; rw [hk] at hr; cases hr
          exact ⟨x', by simp [hk], V.same_symm (V.upd_same hu)⟩
        · exact ⟨r', by rw [if_neg e]; exact hr, V.same_refl _⟩
      own := fun t _ b' hb' => ⟨hb', rfl⟩
      ob := fun _ h => ⟨h, rfl⟩
      obN := fun _ h => .inl h }
  have hnew := hB.write hy ho hu T.goes
  refine ⟨?_, hc, fun j => ?_⟩
  · refine h.step T (some id) (fun b' e => by cases e; simp [how]) (fun b' hb' hne => k7 b' (fun e => hne (by rw [e]))) k1 k2 k3 (by rw [k4]; exact Nat.le_refl _) (fun _ h => .inl h) h.lamL ?_ ?_ rfl ?_ ?_ h.holes
    · intro k' r' b' hk' hb'
      obtain ⟨h1, h2, h3, h4⟩ := h.boxes k' r' b' hk' hb'
      have hne : b' ≠ id := by
        intro e'; subst e'
        cases hfz : r'.fz with
        | false => have := (h3 hfz).1; rw [how] at this; cases this
        | true => exact h4 hfz 0 (.inr ⟨by simp [how], by rw [hlo]; exact Nat.le_refl _⟩)
      refine ⟨h1.tr T.goes (fun s hs => by rw [k5]; exact hs) (fun j => k6 _) (fun i v hv => ?_), h2, h3, h4⟩
      rw [k8 _ _ hv, if_neg (by rintro ⟨e1, _⟩; exact hne e1)]
    · intro id' x hx
      rw [look_upd] at hx
      by_cases e : id' = id
      · subst e; rw [if_pos rfl, hk] at hx; simp at hx; subst hx
        exact ⟨hnew, how, hlo⟩
      · rw [if_neg e] at hx
        obtain ⟨h1, h2, h3⟩ := h.objs id' x hx
        refine ⟨h1.tr T.goes (fun s hs => by rw [k5]; exact hs) (fun j => k6 _) (fun i v hv => ?_), h2, h3⟩
        rw [k8 _ _ hv, if_neg (by rintro ⟨e1, _⟩; exact e e1)]
    · intro t d hd
      exact (h.envV t d hd).tr T (fun h => h)
    · intro t d hd
      obtain ⟨h1, h2, h3⟩ := h.envT t d hd
      exact ⟨h1, h2, h3.tr T (fun h => h)⟩
  · obtain ⟨_, _, _, _, h3, _⟩ := hB
    rw [frozen_addr, Addr.add_block, Addr.add_off]; exact h3 _
theorem InvW.storeG2 {c m σ a w} (h : InvW c m σ a w) {id o : Nat} {r x' : V} {d : List Value}
    (hk : look σ.G id = some r) (hsame : r.same x' = true) (H : ∀ cs, RepV w (MM c.Mc m.ow m.lo) r cs → RepV w (MM c.Mc m.ow m.lo) x' (patch cs o d) ∧ o + d.length ≤ cs.length) :
    InvW c m { σ with G := upd σ.G id x' } a (World.setCells w ⟨id, o, none⟩ d 0) ∧ (∀ j, j < d.length → ∃ u, w.cell? (({ block := id, off := o, spot := none } : Addr).add (0 + j)) = some u) ∧
      (∀ j, w.frozen? (({ block := id, off := o, spot := none } : Addr).add j) = false) := by
  obtain ⟨hB, how, hlo⟩ := h.objs id r hk
  have hc := hB.cells2 H
  obtain ⟨k1, k2, k3, k4, k5, k6, k7, k8⟩ := setCells_spec d w ⟨id, o, none⟩ 0 hc
  have T : Tr c m w σ.L σ.G m (World.setCells w ⟨id, o, none⟩ d 0) σ.L (upd σ.G id x') (fun _ => False) :=
    { goes := fun q u hq hM => by
        have hne : q.block ≠ id := fun e => hM (.inr ⟨by simp [e, how], by rw [e, hlo]; exact Nat.zero_le _⟩)
        exact ⟨by rw [k8 q u hq, if_neg (by rintro ⟨e1, _⟩; exact hne e1)], hM⟩
      shape := fun b' s hs => by rw [k5]; exact hs
      frz := fun b' _ _ j => k6 _
      lam := fun _ _ h => h
      locs := fun k' r' _ _ hk' => ⟨r', hk', V.same_refl _⟩
      objs := fun id' r' hr => by
        rw [look_upd]
        by_cases e : id' = id
        · subst e; rw [hk] at hr; cases hr
          exact ⟨x', by simp [hk], hsame⟩
        · exact ⟨r', by rw [if_neg e]; exact hr, V.same_refl _⟩
      own := fun t _ b' hb' => ⟨hb', rfl⟩
      ob := fun _ h => ⟨h, rfl⟩
      obN := fun _ h => .inl h }
  have hnew := hB.write2 H T.goes
  refine ⟨?_, hc, fun j => ?_⟩
  · refine h.step T (some id) (fun b' e => by cases e; simp [how]) (fun b' hb' hne => k7 b' (fun e => hne (by rw [e]))) k1 k2 k3 (by rw [k4]; exact Nat.le_refl _) (fun _ h => .inl h) h.lamL ?_ ?_ rfl ?_ ?_ h.holes
    · intro k' r' b' hk' hb'
      obtain ⟨h1, h2, h3, h4⟩ := h.boxes k' r' b' hk' hb'
      have hne : b' ≠ id := by
        intro e'; subst e'
        cases hfz : r'.fz with
        | false => have := (h3 hfz).1; rw [how] at this; cases this
        | true => exact h4 hfz 0 (.inr ⟨by simp [how], by rw [hlo]; exact Nat.le_refl _⟩)
      refine ⟨h1.tr T.goes (fun s hs => by rw [k5]; exact hs) (fun j => k6 _) (fun i v hv => ?_), h2, h3, h4⟩
      rw [k8 _ _ hv, if_neg (by rintro ⟨e1, _⟩; exact hne e1)]
    · intro id' x hx
      rw [look_upd] at hx
      by_cases e : id' = id
      · subst e; rw [if_pos rfl, hk] at hx; simp at hx; subst hx
        exact ⟨hnew, how, hlo⟩
      · rw [if_neg e] at hx
        obtain ⟨h1, h2, h3⟩ := h.objs id' x hx
        refine ⟨h1.tr T.goes (fun s hs => by rw [k5]; exact hs) (fun j => k6 _) (fun i v hv => ?_), h2, h3⟩
        rw [k8 _ _ hv, if_neg (by rintro ⟨e1, _⟩; exact e e1)]
    · intro t d hd
      exact (h.envV t d hd).tr T (fun h => h)
    · intro t d hd
      obtain ⟨h1, h2, h3⟩ := h.envT t d hd
      exact ⟨h1, h2, h3.tr T (fun h => h)⟩
  · obtain ⟨_, _, _, _, h3, _⟩ := hB
    rw [frozen_addr, Addr.add_block, Addr.add_off]; exact h3 _
section ops
variable {c:Ctx} {m:Mem} {σ:St} {a:Act} {w:World} {o:Oper} {t:AD} {p:Prop} {σ':St}
theorem snd_storeG {ty:TypeId} {n id of:Nat} {g:Bool} {x y:Operand} {ay:AO} {q:List Nat} {z r:V} (h:InvW c m σ a w) (ho:o.op= .store ty x y) (hs:szAg c.P ty=some (n,g)) (hn:o.dst=none)
  (hy:aoOf σ.vs.length y=some ay) (hG:look σ.G id=some r) (hof:r.off q=some of) (hX:a.eval x= .pointer (some ⟨id,of,none⟩)) (hY:asV (σ.ev ay)=some z) (he:oStoG n id σ z (r.upd q z)=some (p,σ')):Fits c o a w σ':=by
 obtain⟨i,d,h1,h2,h3,h4⟩:=szAg_spec hs
 cases hu:r.upd q z with
 |none=>simp[hu,oStoG]at he
 |some z'=>
  simp only[hu,oStoG]at he
  split at he
  ·rename_i hsz;cases he
   have hz:=h.rdV hy hY
   obtain⟨h9,h10,h11⟩:=h.storeG hG hof hu hz.cells
   refine⟨.skip,_,m,?_,.inr ⟨rfl,h9.put_none hn⟩⟩
   unfold execOp;rw[ho]
   refine run_u ?_
   rw[hX];exact run_storeAt h1 hz (by rw[hsz,h3]) h10 h11
  ·cases he
theorem snd_store {ty:TypeId} {n:Nat} {g:Bool} {x y:Operand} {ax ay:AO} (h:InvW c m σ a w) (ho:o.op= .store ty x y) (hs:szAg c.P ty=some (n,g)) (hn:o.dst=none)
  (hx:aoOf σ.vs.length x=some ax) (hy:aoOf σ.vs.length y=some ay) (he:oStore n σ (σ.ev ax) (asV (σ.ev ay))=some (p,σ')):Fits c o a w σ':=by
 cases hX:σ.ev ax with
 |none=>simp[hX,oStore]at he
 |some d=>
  cases hY:asV (σ.ev ay)with
  |none=>simp[hX,hY,oStore]at he
  |some z=>
   rw[hX,hY]at he
   have hr:=h.rd hx hX
   cases d<;>simp only[oStore]at he<;>try (cases he;done)
   ·rename_i u
    cases u<;>simp only[oStore]at he<;>try (cases he;done)
    rename_i id
    cases hG:look σ.G id with
    |none=>simp[hG,oStoH]at he
    |some r=>
     simp only[hG,oStoH]at he
     exact snd_storeG h ho hs hn hy hG (off_nil r) (RepW.ptr hr) hY he
   ·rename_i k q;exact snd_storeL h ho hs hn hx hy hX hY he
   ·rename_i id q
    obtain⟨r,of,h2,h3,h4⟩:=hr
    simp only[h2,oStoH]at he
    exact snd_storeG h ho hs hn hy h2 h3 h4 hY he
end ops
end Go.Abs
namespace Go.Abs
open Go Go.RowKit
set_option linter.unusedVariables false
set_option linter.unusedSimpArgs false
theorem V.off_snoc_agg:∀{p:List Nat} {x:V} {l:List V} {o f:Nat},x.sub p=some (.agg l)→x.off p=some o→f < l.length→x.off (p++[f])=some (o+V.sizeL (l.take f))
 |[],x,l,o,f,hs,ho,hf=>by
  simp[V.sub]at hs;simp[V.off]at ho;subst hs ho
  have:l[f]? =some l[f]:=by simp[hf]
  simp[V.off,this]
 |i::p,.agg l',l,o,f,hs,ho,hf=>by
  simp only[V.sub]at hs;simp only[V.off]at ho
  cases hz:l'[i]? with
  |none=>simp[hz]at hs
  |some z=>
   simp only[hz]at hs ho
   obtain⟨o',h1,rfl⟩:=Option.map_eq_some_iff.1 ho
   have:=V.off_snoc_agg hs h1 hf
   simp only[List.cons_append,V.off,hz,this,Option.map_some]
   congr 1;omega
 |[i],.arr k n xs,l,o,f,hs,ho,hf=>by simp[V.sub]at hs
 |i::j::p,.arr ..,l,o,f,hs,ho,hf=>by simp[V.sub]at hs
 |i::p,.int ..,_,_,_,hs,_,_|i::p,.bool ..,_,_,_,hs,_,_|i::p,.str ..,_,_,_,hs,_,_|i::p,.sli ..,_,_,_,hs,_,_|i::p,.sle ..,_,_,_,hs,_,_|i::p,.nils,_,_,_,hs,_,_|i::p,.ptr ..,_,_,_,hs,_,_|i::p,.nilp,_,_,_,hs,_,_|i::p,.nili,_,_,_,hs,_,_|i::p,.fn ..,_,_,_,hs,_,_|i::p,.sob ..,_,_,_,hs,_,_=>by simp[V.sub]at hs
theorem V.off_snoc_arr:∀{p:List Nat} {x:V} {k:IntKind} {n:Nat} {xs:List Int} {o f:Nat},x.sub p=some (.arr k n xs)→x.off p=some o→f < n→x.off (p++[f])=some (o+f)
 |[],x,k,n,xs,o,f,hs,ho,hf=>by
  simp[V.sub]at hs;simp[V.off]at ho;subst hs ho
  simp[V.off,hf]
 |i::p,.agg l',k,n,xs,o,f,hs,ho,hf=>by
  simp only[V.sub]at hs;simp only[V.off]at ho
  cases hz:l'[i]? with
  |none=>simp[hz]at hs
  |some z=>
   simp only[hz]at hs ho
   obtain⟨o',h1,rfl⟩:=Option.map_eq_some_iff.1 ho
   have:=V.off_snoc_arr hs h1 hf
   simp only[List.cons_append,V.off,hz,this,Option.map_some]
   congr 1;omega
 |[i],.arr ..,_,_,_,o,f,hs,ho,hf=>by simp[V.sub]at hs
 |i::j::p,.arr ..,_,_,_,o,f,hs,ho,hf=>by simp[V.sub]at hs
 |i::p,.int ..,_,_,_,_,_,hs,_,_|i::p,.bool ..,_,_,_,_,_,hs,_,_|i::p,.str ..,_,_,_,_,_,hs,_,_|i::p,.sli ..,_,_,_,_,_,hs,_,_|i::p,.sle ..,_,_,_,_,_,hs,_,_|i::p,.nils,_,_,_,_,_,hs,_,_|i::p,.ptr ..,_,_,_,_,_,hs,_,_|i::p,.nilp,_,_,_,_,_,hs,_,_|i::p,.nili,_,_,_,_,_,hs,_,_|i::p,.fn ..,_,_,_,_,_,hs,_,_|i::p,.sob ..,_,_,_,_,_,hs,_,_=>by simp[V.sub]at hs
theorem sub_nil (x:V):x.sub []=some x:=by simp[V.sub]
theorem Reads.part {w M q cs} (h:Reads w M q cs) (o n:Nat):Reads w M (q.add o) ((cs.drop o).take n):=by
 intro i v hv
 rw[List.getElem?_take]at hv
 split at hv
 ·rw[List.getElem?_drop]at hv
  have:=h _ _ hv
  rw[Addr.add_add,Addr.add_block,Addr.add_off,Nat.add_assoc];exact this
 ·cases hv
theorem run_fieldAt {P:Program} {s:TypeId} {q:Addr} {f:Nat} {w:World} {fs:Array Field} {fd:Field} {i:TypeInfo} (hs:P.underlying s=some (.struct fs)) (hf:fs[f]? =some fd) (hi:P.info? fd.type=some i) (hn:i.size≠0):
  (Instr.fieldAt s (.pointer (some q)) f).run P w= .ok (.pointer (some (q.add fd.offset))) w:=by
 unfold Instr.fieldAt
 rw[run_bind (run_underlying hs)]
 simp only[hf]
 rw[run_bind (x:=q) (w1:=w) rfl]
 rw[run_bind (x:=q.add fd.offset) (w1:=w)];·rfl
 unfold fieldPlace
 rw[run_bind (run_sizeOf hi),if_neg hn];rfl
section ops
variable {c:Ctx} {m:Mem} {σ:St} {a:Act} {w:World} {o:Oper} {t:AD} {p:Prop} {σ':St}
theorem snd_fadr {s:TypeId} {f:Nat} {fs:Array Field} {fd:Field} {i:TypeInfo} {x:Operand} {ax:AO} (h:InvW c m σ a w) (ho:o.op= .fieldAddr s x f) (hs:c.P.underlying s=some (.struct fs)) (hf:fs[f]? =some fd)
  (hi:c.P.info? fd.type=some i) (hn:i.size≠0) (hx:aoOf σ.vs.length x=some ax) (hd:adOf σ.vs.length c.N o.dst=some t) (he:oFad c.tab f fd.offset σ t (σ.ev ax)=some (p,σ')):Fits c o a w σ':=by
 have hrun:∀q,a.eval x= .pointer (some q)→(execOp a.eval o).run c.P w= .ok (.value (.pointer (some (q.add fd.offset)))) w:=by
  intro q hq;unfold execOp;rw[ho];refine run_v ?_;rw[hq];exact run_fieldAt hs hf hi hn
 cases hX:σ.ev ax with
 |none=>simp[hX,oFad]at he
 |some d=>
  have hr:=h.rd hx hX
  rw[hX]at he
  cases d<;>simp only[oFad]at he<;>try (cases he;done)
  ·rename_i u
   cases u<;>simp only[oFad]at he<;>try (cases he;done)
   rename_i id
   cases hG:look σ.G id with
   |none=>simp[hG,oFadP,oFadr,vO,subO,orR]at he
   |some r=>
    rw[hG]at he
    have two:∀(q:List Nat) (of:Nat),r.off q=some of→of=0→oFadr f fd.offset (.gp id (q++[f])) σ t (r.sub q)=some (p,σ')→Fits c o a w σ':=by
     intro q of hof h0 he
     subst h0
     cases hS:r.sub q with
     |none=>simp[hS,oFadr]at he
     |some y=>
      rw[hS]at he
      cases y<;>simp only[oFadr]at he<;>try (cases he;done)
      rename_i l
      split at he
      ·rename_i hc;cases he
       refine Fits.val (hrun _ (RepW.ptr hr)) (h.put hd ?_)
       refine⟨_,_,hG,V.off_snoc_agg hS hof hc.2,?_⟩
       rw[addr_add,hc.1]
      ·cases he
    unfold oFadP at he
    cases hf:oFadr f fd.offset (.gp id [f]) σ t (some r)with
    |some q=>
     rw[hf]at he;simp only[orR]at he;cases he
     exact two [] 0 (off_nil _) rfl (by rw[sub_nil];exact hf)
    |none=>
     rw[hf]at he;simp only[orR,vO]at he
     cases hs0:r.sub [0]with
     |none=>simp[hs0,subO,oFadr]at he
     |some y0=>
      have hoff:∃of,r.off [0]=some of∧of=0:=by
       cases r<;>simp only[V.sub]at hs0<;>try (cases hs0;done)
       ·split at hs0
        ·rename_i hn;exact⟨0,by simp[V.off,hn],rfl⟩
        ·cases hs0
       ·rename_i l
        cases hl:l[0]? with
        |none=>simp[hl]at hs0
        |some z=>exact⟨0,by simp[V.off,hl,V.sizeL],rfl⟩
      obtain⟨of,h1,h2⟩:=hoff
      exact two [0] of h1 h2 he
  ·rename_i k q
   obtain⟨b,r,of,h1,h2,h3,h4⟩:=hr
   simp only[h2,bxO,subO]at he
   cases hS:r.x.sub q with
   |none=>simp[hS,oFadr]at he
   |some y=>
    rw[hS]at he
    cases y<;>simp only[oFadr]at he<;>try (cases he;done)
    rename_i l
    split at he
    ·rename_i hc;cases he
     refine Fits.val (hrun _ h4) (h.put hd ?_)
     exact⟨b,r,_,h1,h2,V.off_snoc_agg hS h3 hc.2,by rw[addr_add,hc.1]⟩
    ·cases he
  ·rename_i id q
   obtain⟨r,of,h2,h3,h4⟩:=hr
   simp only[h2,vO,subO]at he
   cases hS:r.sub q with
   |none=>simp[hS,oFadr]at he
   |some y=>
    rw[hS]at he
    cases y<;>simp only[oFadr]at he<;>try (cases he;done)
    rename_i l
    split at he
    ·rename_i hc;cases he
     refine Fits.val (hrun _ h4) (h.put hd ?_)
     exact⟨r,_,h2,V.off_snoc_agg hS h3 hc.2,by rw[addr_add,hc.1]⟩
    ·cases he
  ·rename_i y
   cases y<;>simp only[oFad]at he<;>try (cases he;done)
   rename_i l
   obtain⟨q,cs,h1,h2,h3⟩:=hr
   cases hY:l[f]? with
   |none=>simp[hY,oFadE]at he
   |some y=>
    rw[hY]at he;simp only[oFadE]at he
    split at he
    ·rename_i hc;cases he
     have hlt:=(List.getElem?_eq_some_iff.1 hY).1
     obtain⟨h5,h6⟩:=RepV.sub (p:=[f]) h3 (by simp[V.sub,hY]:(V.agg l).sub [f]=some y) (V.off_snoc_agg (sub_nil _) (off_nil _) hlt)
     rw[Nat.zero_add,hc]at h5
     exact Fits.val (hrun _ h1) (h.put hd ⟨_,_,rfl,h2.part fd.offset y.size,h5⟩)
    ·cases he
end ops
theorem run_indexAtA {P:Program} {ty e:TypeId} {n:Nat} {i:TypeInfo} {q:Addr} {k:IntKind} {j:Int} {w:World} (hu:P.underlying ty=some (.array n e)) (hi:P.info? e=some i) (hj:0≤j∧j < (n:Int)):
  (Instr.indexAt ty (.pointer (some q)) (.int k j)).run P w= .ok (.pointer (some (q.add (j.toNat*i.size)))) w:=by
 unfold Instr.indexAt
 simp only[asIntOf,Sem.run_bind,Sem.run_pure,Result.andThen_ok,run_underlying hu,Instr.sureAddr,hj,and_self,if_true,run_sizeOf hi]
theorem run_indexAtS {P:Program} {ty e:TypeId} {n cap:Nat} {i:TypeInfo} {q:Addr} {k:IntKind} {j:Int} {w:World} (hu:P.underlying ty=some (.slice e)) (hi:P.info? e=some i) (hj:0≤j∧j < (n:Int)):
  (Instr.indexAt ty (.slice (some q) n cap) (.int k j)).run P w= .ok (.pointer (some (q.add (j.toNat*i.size)))) w:=by
 unfold Instr.indexAt
 simp only[asIntOf,Sem.run_bind,Sem.run_pure,Result.andThen_ok,run_underlying hu,hj,and_self,if_true,run_sizeOf hi]
theorem RepE.get {w M sz}:∀{l:List V} {q:Addr} {i:Nat} {x:V},RepE w M sz l q→l[i]? =some x→∃cs,RepV w M x cs∧cs.length=sz∧Reads w M (q.add (i*sz)) cs
 |[],q,i,x,_,hx=>by simp at hx
 |y::l,q,0,x,h,hx=>by
  simp at hx;subst hx
  simp only[RepE]at h;obtain⟨c,h0,h1,h2,h3⟩:=h
  exact⟨c,h0,h1,by rw[Nat.zero_mul];simpa [Addr.add]using h2⟩
 |y::l,q,i+1,x,h,hx=>by
  simp only[RepE]at h;obtain⟨c,h0,h1,h2,h3⟩:=h
  obtain⟨cs,h4,h5,h6⟩:=RepE.get h3 (by simpa using hx)
  refine⟨cs,h4,h5,?_⟩
  rw[Addr.add_add]at h6
  rwa [show (i+1)*sz=sz+i*sz by rw[Nat.add_mul,Nat.one_mul,Nat.add_comm]]
theorem sizeL_take_uniform {sz:Nat}:∀{l:List V} {i:Nat},(∀x∈l,V.size x=sz)→i≤l.length→V.sizeL (l.take i)=i*sz
 |[],i,_,hi=>by simp at hi;subst hi;simp[V.sizeL]
 |x::l,0,_,_=>by simp[V.sizeL]
 |x::l,i+1,h,hi=>by
  simp only[List.take_succ_cons,V.sizeL]
  rw[h x (by simp),sizeL_take_uniform (fun y hy=>h y (by simp[hy])) (by simpa using hi),Nat.add_mul,Nat.one_mul,Nat.add_comm]
section ops
variable {c:Ctx} {m:Mem} {σ:St} {a:Act} {w:World} {o:Oper} {t:AD} {p:Prop} {σ':St}
theorem snd_iadrA {ty e:TypeId} {n:Nat} {g:Bool} {x y:Operand} {ax ay:AO} (h:InvW c m σ a w) (ho:o.op= .indexAddr ty x y) (hu:c.P.underlying ty=some (.array n e)) (hs:szAg c.P e=some (1,g))
  (hx:aoOf σ.vs.length x=some ax) (hy:aoOf σ.vs.length y=some ay) (hd:adOf σ.vs.length c.N o.dst=some t) (he:oIadrA c.tab n σ t (σ.ev ax) (asI (σ.ev ay))=some (p,σ')) (hp:p):Fits c o a w σ':=by
 obtain⟨i,d,h1,h2,h3,h4⟩:=szAg_spec hs
 cases hJ:asI (σ.ev ay)with
 |none=>cases hX:σ.ev ax with
  |none=>simp[hX,oIadrA]at he
  |some d=>cases d<;>simp[hX,hJ,oIadrA]at he
 |some j=>
  obtain⟨k,hk⟩:=h.rdI hy hJ
  have hrun:∀q,a.eval x= .pointer (some q)→(0≤j∧j < (n:Int))→(execOp a.eval o).run c.P w= .ok (.value (.pointer (some (q.add j.toNat)))) w:=by
   intro q hq hj;unfold execOp;rw[ho];refine run_v ?_;rw[hq,hk];have:=run_indexAtA (k:=k) (q:=q) (w:=w) hu h1 hj;rwa [h3,Nat.mul_one]at this
  cases hX:σ.ev ax with
  |none=>simp[hX,oIadrA]at he
  |some d=>
   have hr:=h.rd hx hX
   rw[hX,hJ]at he
   cases d<;>simp only[oIadrA]at he<;>try (cases he;done)
   ·rename_i k' q
    obtain⟨b,r,of,h5,h6,h7,h8⟩:=hr
    simp only[h6,bxO,subO]at he
    cases hS:r.x.sub q with
    |none=>simp[hS,oIdA]at he
    |some z=>
     rw[hS]at he
     cases z<;>simp only[oIdA]at he<;>try (cases he;done)
     split at he
     ·rename_i hn;cases he
      refine Fits.val (hrun _ h8 hp) (h.put hd ?_)
      exact⟨b,r,_,h5,h6,V.off_snoc_arr hS h7 (by rw[hn];omega),by rw[addr_add]⟩
     ·cases he
   ·rename_i id q
    obtain⟨r,of,h6,h7,h8⟩:=hr
    simp only[h6,vO,subO]at he
    cases hS:r.sub q with
    |none=>simp[hS,oIdA]at he
    |some z=>
     rw[hS]at he
     cases z<;>simp only[oIdA]at he<;>try (cases he;done)
     split at he
     ·rename_i hn;cases he
      refine Fits.val (hrun _ h8 hp) (h.put hd ?_)
      exact⟨r,_,h6,V.off_snoc_arr hS h7 (by rw[hn];omega),by rw[addr_add]⟩
     ·cases he
   ·rename_i z
    obtain⟨q,cs,h6,h7,h8⟩:=hr
    cases z<;>simp only[oIdT]at he<;>try (cases he;done)
    split at he
    ·rename_i hn;cases he
     refine Fits.val (hrun _ h6 hp) (h.put hd ?_)
     obtain⟨h9,_⟩:=RepV.sub (p:=[j.toNat]) h8 (by simp only[V.sub];rw[if_pos (by rw[hn];omega)]) (V.off_snoc_arr (sub_nil _) (off_nil _) (by rw[hn];omega))
     rw[Nat.zero_add]at h9
     exact⟨_,_,rfl,h7.part _ _,h9⟩
    ·cases he
   ·rename_i g'
    cases hT:look c.tab g' with
    |none=>simp[hT,oIdT]at he
    |some z=>
     rw[hT]at he
     cases z<;>simp only[oIdT]at he<;>try (cases he;done)
     split at he
     ·rename_i hn;cases he
      obtain⟨cs,h7,h8⟩:=h.tabs _ _ hT
      refine Fits.val (hrun _ hr hp) (h.put hd ?_)
      obtain⟨h9,_⟩:=RepV.sub (p:=[j.toNat]) h8 (by simp only[V.sub];rw[if_pos (by rw[hn];omega)]) (V.off_snoc_arr (sub_nil _) (off_nil _) (by rw[hn];omega))
      rw[Nat.zero_add]at h9
      exact⟨_,_,rfl,h7.part _ _,h9⟩
     ·cases he
theorem snd_iadrG {ty e:TypeId} {n sz:Nat} {g:Bool} {x y:Operand} {ax ay:AO} (h:InvW c m σ a w) (ho:o.op= .indexAddr ty x y) (hu:c.P.underlying ty=some (.array n e)) (hs:szAg c.P e=some (sz,g))
  (hx:aoOf σ.vs.length x=some ax) (hy:aoOf σ.vs.length y=some ay) (hd:adOf σ.vs.length c.N o.dst=some t) (he:oIadrG c.tab n sz σ t (σ.ev ax) (asI (σ.ev ay))=some (p,σ')) (hp:p):Fits c o a w σ':=by
 obtain⟨i,d,h1,h2,h3,h4⟩:=szAg_spec hs
 cases hJ:asI (σ.ev ay)with
 |none=>cases hX:σ.ev ax with
  |none=>simp[hX,oIadrG]at he
  |some d=>cases d<;>simp[hX,hJ,oIadrG]at he
 |some j=>
  obtain⟨k,hk⟩:=h.rdI hy hJ
  have hrun:∀q,a.eval x= .pointer (some q)→(0≤j∧j < (n:Int))→(execOp a.eval o).run c.P w= .ok (.value (.pointer (some (q.add (j.toNat*sz))))) w:=by
   intro q hq hj;unfold execOp;rw[ho];refine run_v ?_;rw[hq,hk];have:=run_indexAtA (k:=k) (q:=q) (w:=w) hu h1 hj;rwa [h3]at this
  cases hX:σ.ev ax with
  |none=>simp[hX,oIadrG]at he
  |some d=>
   have hr:=h.rd hx hX
   rw[hX,hJ]at he
   cases d<;>simp only[oIadrG]at he<;>try (cases he;done)
   ·rename_i k' q
    obtain⟨b,r,of,h5,h6,h7,h8⟩:=hr
    simp only[h6,bxO,subO]at he
    cases hS:r.x.sub q with
    |none=>simp[hS,oIdG]at he
    |some z=>
     rw[hS]at he
     cases z<;>simp only[oIdG]at he<;>try (cases he;done)
     split at he
     ·rename_i l hn;cases he
      obtain⟨hp1,hp2⟩:=hp
      refine Fits.val (hrun _ h8 hp1) (h.put hd ?_)
      exact⟨b,r,_,h5,h6,V.off_snoc_agg hS h7 (by rw[hn];omega),by rw[addr_add,sizeL_take_uniform hp2 (by rw[hn];omega)]⟩
     ·cases he
   ·rename_i id q
    obtain⟨r,of,h6,h7,h8⟩:=hr
    simp only[h6,vO,subO]at he
    cases hS:r.sub q with
    |none=>simp[hS,oIdG]at he
    |some z=>
     rw[hS]at he
     cases z<;>simp only[oIdG]at he<;>try (cases he;done)
     split at he
     ·rename_i l hn;cases he
      obtain⟨hp1,hp2⟩:=hp
      refine Fits.val (hrun _ h8 hp1) (h.put hd ?_)
      exact⟨r,_,h6,V.off_snoc_agg hS h7 (by rw[hn];omega),by rw[addr_add,sizeL_take_uniform hp2 (by rw[hn];omega)]⟩
     ·cases he
   ·rename_i z
    obtain⟨q,cs,h6,h7,h8⟩:=hr
    cases z<;>simp only[oIdE]at he<;>try (cases he;done)
    split at he
    ·rename_i l hn;cases he
     obtain⟨hp1,hp2⟩:=hp
     have hlt:j.toNat < l.length:=by rw[hn];omega
     have hY:l[j.toNat]? =some l[j.toNat]:=List.getElem?_eq_getElem hlt
     have hg:l.getD j.toNat .nilp=l[j.toNat]:=by rw[List.getD_eq_getElem?_getD,hY];rfl
     rw[hg]
     obtain⟨h9,h10⟩:=RepV.sub (p:=[j.toNat]) h8 (by simp[V.sub,hY]:(V.agg l).sub [j.toNat]=some l[j.toNat]) (V.off_snoc_agg (sub_nil _) (off_nil _) hlt)
     rw[Nat.zero_add,sizeL_take_uniform hp2 (by omega)]at h9
     exact Fits.val (hrun _ h6 hp1) (h.put hd ⟨_,_,rfl,h7.part _ _,h9⟩)
    ·cases he
theorem snd_iadrS {ty e:TypeId} {sz:Nat} {g:Bool} {x y:Operand} {ax ay:AO} (h:InvW c m σ a w) (ho:o.op= .indexAddr ty x y) (hu:c.P.underlying ty=some (.slice e)) (hs:szAg c.P e=some (sz,g))
  (hx:aoOf σ.vs.length x=some ax) (hy:aoOf σ.vs.length y=some ay) (hd:adOf σ.vs.length c.N o.dst=some t) (he:oIadrS sz σ t (asV (σ.ev ax)) (asI (σ.ev ay))=some (p,σ')) (hp:p):Fits c o a w σ':=by
 obtain⟨i,d,h1,h2,h3,h4⟩:=szAg_spec hs
 cases hJ:asI (σ.ev ay)with
 |none=>cases hX:asV (σ.ev ax)with
  |none=>simp[hX,oIadrS]at he
  |some d=>cases d<;>simp[hX,hJ,oIadrS]at he
 |some j=>
  obtain⟨k,hk⟩:=h.rdI hy hJ
  cases hX:asV (σ.ev ax)with
  |none=>simp[hX,oIadrS]at he
  |some z=>
   have hr:=h.rdV hx hX
   rw[hX,hJ]at he
   cases z<;>simp only[oIadrS]at he<;>try (cases he;done)
   ·rename_i k' xs
    split at he
    ·rename_i hsz;cases he
     simp only[RepW,V.isAgg,Bool.false_eq_true,if_false,RepV]at hr
     obtain⟨ad,cap,h5,h6,h7,h8⟩:=hr
     have h5:a.eval x= .slice ad xs.length cap:=by simpa using h5
     cases ad with
     |none=>have:=h7 rfl;omega
     |some q=>
      have hrd:=h8 q rfl
      have hlt:j.toNat < xs.length:=by omega
      refine Fits.val (v:= .pointer (some (q.add (j.toNat*sz)))) ?_ (h.put hd ?_)
      ·unfold execOp;rw[ho];refine run_v ?_;rw[h5,hk];have:=run_indexAtS (k:=k) (q:=q) (cap:=cap) (w:=w) hu h1 hp;rwa [h3]at this
      ·rw[hsz,Nat.mul_one]
       refine⟨_,[.int k' (xs.getD j.toNat 0)],rfl,?_,by simp[RepV]⟩
       intro i' v hv
       have hi0:i'=0:=by
        have:=(List.getElem?_eq_some_iff.1 hv).1;simp at this;omega
       subst hi0;simp at hv;subst hv
       have:=hrd j.toNat (.int k' xs[j.toNat]) (by simp[hlt])
       rw[Addr.add_add,Addr.add_block,Addr.add_off,Nat.add_zero,Nat.add_zero]
       simpa [List.getD_eq_getElem?_getD,hlt]using this
    ·cases he
   ·rename_i sz' l
    split at he
    ·rename_i hsz;cases he
     simp only[RepW,V.isAgg,Bool.false_eq_true,if_false,RepV]at hr
     obtain⟨ad,cap,h5,h6,h7,h8⟩:=hr
     have h5:a.eval x= .slice ad l.length cap:=by simpa using h5
     cases ad with
     |none=>have:=h7 rfl;omega
     |some q=>
      have hlt:j.toNat < l.length:=by omega
      obtain⟨cs,h9,h10,h11⟩:=RepE.get (h8 q rfl) (show l[j.toNat]? =some l[j.toNat]by simp[hlt])
      refine Fits.val (v:= .pointer (some (q.add (j.toNat*sz)))) ?_ (h.put hd ?_)
      ·unfold execOp;rw[ho];refine run_v ?_;rw[h5,hk];have:=run_indexAtS (k:=k) (q:=q) (cap:=cap) (w:=w) hu h1 hp;rwa [h3]at this
      ·rw[←hsz]at h11
       refine⟨_,cs,rfl,h11,?_⟩
       simpa [List.getD_eq_getElem?_getD,hlt]using h9
    ·cases he
   ·rename_i id sz' off n cc
    split at he
    ·rename_i hsz;subst hsz
     cases hL:look σ.G id with
     |none=>rw[hL]at he;simp[oIdR]at he
     |some X=>
      rw[hL]at he
      cases X<;>simp only[oIdR]at he<;>try (cases he;done)
      rename_i l
      cases he
      obtain⟨hp1,hp2,hp3⟩:=hp
      have h5:a.eval x= .slice (some ⟨id,off*sz,none⟩) n cc:=by
       simp only[RepW,V.isAgg,Bool.false_eq_true,if_false,RepV]at hr
       obtain⟨q0,ad,q1,q2⟩:=hr
       have q1:a.eval x= .slice ad n cc:=by simpa using q1
       have q3:cc≠0:=by have:=hp1;omega
       rw[q1,q2 q3]
      refine Fits.val (v:= .pointer (some ((⟨id,off*sz,none⟩:Addr).add (j.toNat*sz)))) ?_ (h.put hd ?_)
      ·unfold execOp;rw[ho];refine run_v ?_;rw[h5,hk];have:=run_indexAtS (k:=k) (q:=⟨id,off*sz,none⟩) (cap:=cc) (w:=w) hu h1 hp1;rwa [h3]at this
      ·refine⟨.agg l,_,hL,V.off_snoc_agg (p:=[]) (x:= .agg l) (o:=0) (by simp[V.sub]) (off_nil _) hp2,?_⟩
       rw[addr_add,sizeL_take_uniform hp3 (by omega),Nat.add_mul,Nat.zero_add]
    ·cases he
end ops
end Go.Abs
namespace Go.Abs
open Go Go.RowKit
set_option linter.unusedVariables false
set_option linter.unusedSimpArgs false
theorem ba_empty {a:ByteArray} (h:a.data.toList.length=0):a=⟨#[]⟩:=by
 obtain⟨⟨l⟩⟩:=a
 simp at h;subst h;rfl
theorem sameZ_eq {v u:Value} (h:sameZ v u=true):v=u:=by
 unfold sameZ at h
 split at h<;>first|(cases h;done)|skip
 ·simp at h;rw[h]
 ·simp at h;rw[h.1,h.2]
 ·rename_i a b
  simp only[Bool.and_eq_true,beq_iff_eq]at h
  rw[ba_empty h.1,ba_empty h.2]
 all_goals rfl
theorem sameZs_eq:∀{l m:List Value},sameZs l m=true→l=m
 |[],[],_=>rfl
 |[],_::_,h=>by simp[sameZs]at h
 |_::_,[],h=>by simp[sameZs]at h
 |a::l,b::m,h=>by
  simp only[sameZs,Bool.and_eq_true]at h
  rw[sameZ_eq h.1,sameZs_eq h.2]
mutual
theorem V.zc_rep {w M}:∀{z:V} {cs:List Value},z.zc=some cs→RepV w M z cs
 | .int k n,cs,h=>by simp only[V.zc]at h;split at h<;>cases h;rename_i hn;subst hn;simp[RepV]
 | .bool b,cs,h=>by simp only[V.zc]at h;split at h<;>cases h;rename_i hn;subst hn;simp[RepV]
 | .str s,cs,h=>by simp only[V.zc]at h;split at h<;>cases h;rename_i hn;rw[ba_empty hn];simp[RepV]
 | .arr k n xs,cs,h=>by
  simp only[V.zc]at h;split at h<;>cases h;rename_i hn
  simp only[RepV];refine⟨hn.1,?_⟩
  have:∀l:List Int,l.all (·==0)=true→List.replicate l.length (Value.int k 0)=l.map (.int k):=by
   intro l hl
   induction l with
   |nil=>rfl
   |cons x l ih=>simp at hl;simp[List.replicate_succ,hl.1,ih (by simpa using hl.2)]
  rw[←hn.1];exact this xs hn.2
 | .agg l,cs,h=>by simp only[V.zc]at h;simp only[RepV];exact V.zcL_rep h
 | .nils,cs,h=>by simp only[V.zc]at h;cases h;simp only[RepV]
 | .nilp,cs,h=>by simp only[V.zc]at h;cases h;simp[RepV]
 | .nili,cs,h=>by simp only[V.zc]at h;cases h;simp[RepV]
 | .fn ..,cs,h=>by simp[V.zc]at h
 | .sob ..,cs,h=>by simp[V.zc]at h
 | .sli ..,cs,h=>by simp[V.zc]at h
 | .sle ..,cs,h=>by simp[V.zc]at h
 | .ptr ..,cs,h=>by simp[V.zc]at h
theorem V.zcL_rep {w M}:∀{l:List V} {cs:List Value},V.zcL l=some cs→RepL w M l cs
 |[],cs,h=>by simp only[V.zcL]at h;cases h;simp[RepL]
 |x::l,cs,h=>by
  simp only[V.zcL]at h;split at h<;>cases h
  rename_i a b h1 h2
  simp only[RepL];exact⟨a,b,rfl,V.zc_rep h1,V.zcL_rep h2⟩
end
theorem zeroOk_spec {P:Program} {t:TypeId} {z:V} (h:zeroOk P t=some z):∃i v,P.info? t=some i∧i.zero=some v∧∀w M,RepW w M z v:=by
 unfold zeroOk at h
 split at h
 ·rename_i z' i hz hi
  split at h
  ·rename_i cs v hc hv
   rw[Option.ite_none_right_eq_some]at h
   ·obtain⟨hs,h⟩:=h;cases h
    refine⟨i,v,hi,hv,fun w M=> ?_⟩
    have hr:RepV w M z v.cells.toList:=by rw[←sameZs_eq hs.1];exact V.zc_rep hc
    unfold RepW
    split<;>rename_i hx
    ·rw[hs.2]at hx
     cases v<;>simp at hx
     exact⟨_,rfl,by simpa [Value.cells]using hr⟩
    ·have hx:z.isAgg=false:=by simpa using hx
     rw[hs.2]at hx
     cases v<;>simp at hx<;>simpa [Value.cells]using hr
  ·cases h
 ·cases h
theorem run_zeroValue {P:Program} {t:TypeId} {i:TypeInfo} {v:Value} {w:World} (hi:P.info? t=some i) (hz:i.zero=some v):(zeroValue t).run P w= .ok v w:=by
 unfold zeroValue;rw[run_bind (run_typeInfo hi),hz];rfl
section ops
variable {c:Ctx} {m:Mem} {σ:St} {a:Act} {w:World} {o:Oper} {t:AD} {p:Prop} {σ':St}
theorem fits_box {y:V} {v:Value} {e:TypeId} (h:InvW c m σ a w) (hd:adOf σ.vs.length c.N o.dst=some t) (hy:RepW w (MM c.Mc m.ow m.lo) y v)
  (hrun:(execOp a.eval o).run c.P w= .ok (.value (.pointer (some ⟨w.heap.size,0,none⟩))) (w.alloc (.cells v.cells e))):
  Fits c o a w (({ σ with L:=σ.L++[⟨false,y⟩] }:St).put t (.lp σ.L.length [])):=by
 have hb:=h.box (e:=e) hy.cells
 rw[show v.cells.toList.toArray=v.cells by simp]at hb
 refine Fits.val hrun (InvW.put hb hd ?_)
 refine⟨w.heap.size,⟨false,y⟩,0,?_,?_,off_nil _,rfl⟩
 ·show (m.lam++[some w.heap.size])[σ.L.length]? =_
  rw[←h.lamL];simp
 ·show (σ.L++[_])[σ.L.length]? =_
  simp
theorem fits_new {y:V} {v:Value} {e:TypeId} (h:InvW c m σ a w) (hd:adOf σ.vs.length c.N o.dst=some t) (hy:RepW w (MM c.Mc m.ow m.lo) y v)
  (hrun:(execOp a.eval o).run c.P w= .ok (.value (.pointer (some ⟨w.heap.size,0,none⟩))) (w.alloc (.cells v.cells e))):
  ∃id,look σ.G id=none∧Fits c o a w (({ σ with G:=(id,y)::σ.G }:St).put t (.v (.ptr id))):=by
 obtain⟨hn,hb⟩:=h.newO (e:=e) hy.cells
 rw[show v.cells.toList.toArray=v.cells by simp]at hb
 refine⟨_,hn,Fits.val hrun (InvW.put hb hd ?_)⟩
 simp only[RepD,RepW,V.isAgg,Bool.false_eq_true,if_false,RepV]
theorem snd_new {ty:TypeId} {z:V} {K:St→Prop} (h:InvW c m σ a w) (ho:o.op= .alloc ty) (hz:zeroOk c.P ty=some z) (hd:adOf σ.vs.length c.N o.dst=some t)
  (he:newK (some z) t K σ):∃σ',K σ'∧Fits c o a w σ':=by
 obtain⟨i,v,h1,h2,h3⟩:=zeroOk_spec hz
 obtain⟨id,hn,hf⟩:=fits_new (y:=z) (v:=v) (e:=ty) h hd (h3 _ _) (by
  unfold execOp;rw[ho];refine run_v ?_
  unfold Instr.alloc
  rw[run_bind (run_zeroValue h1 h2)];rfl)
 exact⟨_,he id hn,hf⟩
theorem snd_newB {ty:TypeId} {x:Operand} {ax:AO} {K:St→Prop} (h:InvW c m σ a w) (ho:o.op= .box ty x) (hx:aoOf σ.vs.length x=some ax) (hd:adOf σ.vs.length c.N o.dst=some t)
  (he:newK (asV (σ.ev ax)) t K σ):∃σ',K σ'∧Fits c o a w σ':=by
 cases hX:asV (σ.ev ax)with
 |none=>rw[hX]at he;exact he.elim
 |some y=>
  rw[hX]at he
  obtain⟨id,hn,hf⟩:=fits_new (y:=y) (e:=ty) h hd (h.rdV hx hX) (by
   unfold execOp;rw[ho];refine run_v ?_;rfl)
  exact⟨_,he id hn,hf⟩
theorem snd_alloc {ty:TypeId} {z:V} (h:InvW c m σ a w) (ho:o.op= .alloc ty) (hz:zeroOk c.P ty=some z) (hd:adOf σ.vs.length c.N o.dst=some t)
  (he:oBox σ t (some z)=some (p,σ')):Fits c o a w σ':=by
 simp only[oBox]at he;cases he
 obtain⟨i,v,h1,h2,h3⟩:=zeroOk_spec hz
 refine fits_box (e:=ty) h hd (h3 _ _) ?_
 unfold execOp;rw[ho];refine run_v ?_
 unfold Instr.alloc
 rw[run_bind (run_zeroValue h1 h2)];rfl
theorem snd_box {ty:TypeId} {x:Operand} {ax:AO} (h:InvW c m σ a w) (ho:o.op= .box ty x) (hx:aoOf σ.vs.length x=some ax) (hd:adOf σ.vs.length c.N o.dst=some t)
  (he:oBox σ t (asV (σ.ev ax))=some (p,σ')):Fits c o a w σ':=by
 cases hX:asV (σ.ev ax)with
 |none=>simp[hX,oBox]at he
 |some y=>
  rw[hX]at he;simp only[oBox]at he;cases he
  refine fits_box (e:=ty) h hd (h.rdV hx hX) ?_
  unfold execOp;rw[ho];refine run_v ?_;rfl
theorem fits_fill {k:Nat} {y:V} {v:Value} {e:TypeId} (h:InvW c m σ a w) (hd:adOf σ.vs.length c.N o.dst=some t) (hy:RepW w (MM c.Mc m.ow m.lo) y v)
  (hrun:(execOp a.eval o).run c.P w= .ok (.value (.pointer (some ⟨w.heap.size,0,none⟩))) (w.alloc (.cells v.cells e))) (he:oFill k y σ t σ.L[k]? =some (p,σ')):Fits c o a w σ':=by
 unfold oFill at he
 split at he
 ·rename_i hk
  cases he
  have hb:=h.fill (e:=e) hk hy.cells
  have hkl:=(List.getElem?_eq_some_iff.1 hk).1
  rw[show v.cells.toList.toArray=v.cells by simp]at hb
  refine Fits.val hrun (InvW.put hb hd ?_)
  refine⟨w.heap.size,⟨false,y⟩,0,?_,?_,off_nil _,rfl⟩
  ·show (m.lam.set k _)[k]? =_
   rw[List.getElem?_set_self (by rw[h.lamL];exact hkl)]
  ·show (σ.L.set k _)[k]? =_
   rw[List.getElem?_set_self hkl]
 ·cases he
theorem snd_allocAt {ty:TypeId} {z:V} {r:Nat} (h:InvW c m σ a w) (ho:o.op= .alloc ty) (hz:zeroOk c.P ty=some z) (hd:adOf σ.vs.length c.N o.dst=some t)
  (he:oBoxAt r σ t (some z)=some (p,σ')):Fits c o a w σ':=by
 simp only[oBoxAt]at he
 obtain⟨i,v,h1,h2,h3⟩:=zeroOk_spec hz
 refine fits_fill (e:=ty) h hd (h3 _ _) ?_ he
 unfold execOp;rw[ho];refine run_v ?_
 unfold Instr.alloc
 rw[run_bind (run_zeroValue h1 h2)];rfl
theorem snd_boxAt {ty:TypeId} {x:Operand} {ax:AO} {r:Nat} (h:InvW c m σ a w) (ho:o.op= .box ty x) (hx:aoOf σ.vs.length x=some ax) (hd:adOf σ.vs.length c.N o.dst=some t)
  (he:oBoxAt r σ t (asV (σ.ev ax))=some (p,σ')):Fits c o a w σ':=by
 cases hX:asV (σ.ev ax)with
 |none=>simp[hX,oBoxAt]at he
 |some y=>
  rw[hX]at he;simp only[oBoxAt]at he
  refine fits_fill (e:=ty) h hd (h.rdV hx hX) ?_ he
  unfold execOp;rw[ho];refine run_v ?_;rfl
theorem snd_nilc {x:Operand} {ax:AO} (h:InvW c m σ a w) (ho:o.op= .nilCheck x) (hx:aoOf σ.vs.length x=some ax) (hd:adOf σ.vs.length c.N o.dst=some t)
  (he:oNilc σ t (σ.ev ax)=some (p,σ')):Fits c o a w σ':=by
 have hp:∀q,a.eval x= .pointer (some q)→(execOp a.eval o).run c.P w= .ok (.value (a.eval x)) w:=by
  intro q hq;unfold execOp;rw[ho];simp only[hq];rfl
 cases hX:σ.ev ax with
 |none=>simp[hX,oNilc]at he
 |some d=>
  have hr:=h.rd hx hX
  rw[hX]at he
  cases d<;>simp only[oNilc]at he<;>try (cases he;done)
  ·rename_i u;cases u<;>simp only[oNilc]at he<;>try (cases he;done)
   cases he;exact Fits.val (hp _ (RepW.ptr hr)) (h.put hd hr)
  ·cases he;obtain⟨b,r,of,h1,h2,h3,h4⟩:=hr
   exact Fits.val (hp _ h4) (h.put hd ⟨b,r,of,h1,h2,h3,h4⟩)
  ·cases he;obtain⟨r,of,h2,h3,h4⟩:=hr
   exact Fits.val (hp _ h4) (h.put hd ⟨r,of,h2,h3,h4⟩)
  ·cases he;obtain⟨q,cs,h1,h2,h3⟩:=hr
   exact Fits.val (hp _ h1) (h.put hd ⟨q,cs,h1,h2,h3⟩)
  ·cases he
   refine Fits.val (v:=a.eval x) ?_ (h.put hd hr)
   unfold execOp;rw[ho]
   have hr':a.eval x=_:=hr
   simp only[hr'];rfl
theorem snd_ext {x:Operand} {ax:AO} {i:Nat} (h:InvW c m σ a w) (ho:o.op= .extract x i) (hx:aoOf σ.vs.length x=some ax) (hd:adOf σ.vs.length c.N o.dst=some t)
  (he:oExt i σ t (σ.ev ax)=some (p,σ')):Fits c o a w σ':=by
 cases hX:σ.ev ax with
 |none=>simp[hX,oExt]at he
 |some d=>
  have hr:=h.rd hx hX
  rw[hX]at he
  cases d<;>simp only[oExt]at he<;>try (cases he;done)
  rename_i l
  cases hL:l[i]? with
  |none=>simp[hL,putVO]at he
  |some y=>
   rw[hL]at he;simp only[putVO]at he;cases he
   obtain⟨vs,h1,h2,h3⟩:=hr
   obtain⟨u,h4,h5⟩:=h3 i y hL
   refine fits_put h hd (v:=u) ?_ h5
   unfold execOp;rw[ho];refine run_v ?_
   rw[h1];unfold Instr.extract;simp only[h4];rfl
theorem RepW.slice {w M x v} (h:RepW w M x v) (hx:∃n,x.lenI=some n):∃ad cap,v= .slice ad x.len cap∧x.len≤cap∧(ad=none→cap=0)∧x.lenI=some (x.len:Int):=by
 obtain⟨n,hn⟩:=hx
 cases x<;>simp[V.lenI]at hn<;>simp only[RepW,V.isAgg,Bool.false_eq_true,if_false,RepV]at h
 ·obtain⟨ad,cap,h1,h2,h3,_⟩:=h
  exact⟨ad,cap,by simpa [V.len]using h1,by simpa [V.len]using h2,h3,by simp[V.lenI,V.len]⟩
 ·obtain⟨ad,cap,h1,h2,h3,_⟩:=h
  exact⟨ad,cap,by simpa [V.len]using h1,by simpa [V.len]using h2,h3,by simp[V.lenI,V.len]⟩
 ·exact⟨none,0,by simpa [V.len]using h,by simp[V.len],fun _=>rfl,by simp[V.lenI,V.len]⟩
 ·obtain⟨h0,ad,h1,h2⟩:=h
  refine⟨ad,_,by simpa [V.len]using h1,h0,fun e=> ?_,by simp[V.lenI,V.len]⟩
  apply Classical.byContradiction
  intro hc
  rw[h2 hc]at e;cases e
theorem snd_len {args:Array Operand} {tys:Array TypeId} {x:Operand} {ax:AO} {ty e:TypeId} (h:InvW c m σ a w) (ho:o.op= .call { callee:= .builtin .len,args:=args,argTypes:=tys }) (ha:args.toList=[x]) (hty:tys[0]? =some ty)
  (hu:c.P.underlying ty=some (.slice e)) (hx:aoOf σ.vs.length x=some ax) (hd:adOf σ.vs.length c.N o.dst=some t)
  (he:putVO σ t (lenO (asV (σ.ev ax)))=some (p,σ')):Fits c o a w σ':=by
 have hargs:args= #[x]:=Array.toList_inj.1 ha
 cases hX:asV (σ.ev ax)with
 |none=>simp[hX,lenO,putVO]at he
 |some y=>
  rw[hX]at he;simp only[lenO]at he
  cases hl:y.lenI with
  |none=>simp[hl,putVO]at he
  |some n=>
   simp only[hl,Option.map_some,putVO]at he;cases he
   obtain⟨ad,cap,h1,h2,h3,h4⟩:=(h.rdV hx hX).slice ⟨n,hl⟩
   rw[hl]at h4;cases h4
   refine fits_put h hd (v:= .int .i64 (y.len:Int)) ?_ repW_int
   unfold execOp;rw[ho]
   simp only[hargs,resolve,invoke,Sem.run_bind,Sem.run_pure,Result.andThen_ok,builtin,List.map_toArray,List.map_cons,List.map_nil,h1,Builtin.len_,hty,List.getElem?_toArray,List.getElem?_cons_zero,run_underlying hu]
   rfl
theorem snd_lenT {args:Array Operand} {tys:Array TypeId} {x:Operand} {ax:AO} {ty:TypeId} (h:InvW c m σ a w) (ho:o.op= .call { callee:= .builtin .len,args:=args,argTypes:=tys }) (ha:args.toList=[x]) (hty:tys[0]? =some ty)
  (hu:c.P.underlying ty=some .string) (hx:aoOf σ.vs.length x=some ax) (hd:adOf σ.vs.length c.N o.dst=some t)
  (he:putVO σ t (lenT (asV (σ.ev ax)))=some (p,σ')):Fits c o a w σ':=by
 have hargs:args= #[x]:=Array.toList_inj.1 ha
 cases hX:asV (σ.ev ax)with
 |none=>simp[hX,lenT,putVO]at he
 |some y=>
  rw[hX]at he
  cases y<;>simp only[lenT,putVO]at he<;>try (cases he;done)
  cases he;rename_i s
  have h1:=(h.rdV hx hX).str
  refine fits_put h hd (v:= .int .i64 (s.size:Int)) ?_ repW_int
  unfold execOp;rw[ho]
  simp only[hargs,resolve,invoke,Sem.run_bind,Sem.run_pure,Result.andThen_ok,builtin,List.map_toArray,List.map_cons,List.map_nil,h1,Builtin.len_,hty,List.getElem?_toArray,List.getElem?_cons_zero,run_underlying hu]
  rfl
end ops
end Go.Abs
