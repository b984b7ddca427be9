/- A part of the proof of ReportShares: an evaluator of the program's code that the kernel runs, its soundness, what the functions compute. -/
import Derived.RangeFuncLeaves
import Derived.RangeFuncIn
import Derived.Laws.World
import Derived.Orders
import Derived.Laws.Cells
import Derived.Laws.CopyRow
import Derived.Laws.AppendOwn
import Derived.Laws.MakeOwn
import Derived.Laws.StructEq
import Derived.Laws.Entries
import Derived.Laws.Strings
import Derived.Laws.BytesString
import Derived.Laws.Slices
import Derived.Laws.Tables
import Derived.RangeFuncRecord
set_option linter.unusedVariables false
set_option linter.unusedSimpArgs false
set_option maxRecDepth 1000000
namespace Clk
theorem zT {p:Prop} [Decidable p] (h:p):decide p=true:=decide_eq_true h
theorem zF {p:Prop} [Decidable p] (h:¬p):decide p=false:=decide_eq_false h
theorem zC {α:Sort _} {a b:α}:cond true a b=a:=rfl
theorem zD {α:Sort _} {a b:α}:cond false a b=b:=rfl
theorem zG {α:Type _} {l:List α} {i:Nat} {a:α}:l[i]?=some a↔∃ h:i<l.length,l[i]=a:=List.getElem?_eq_some_iff
theorem zH {α:Type _} {l:List α} {i:Nat} (h:i<l.length):l[i]?=some l[i]:=List.getElem?_eq_getElem h
theorem zI {α:Type _} {l:List α} {i:Nat} {a:α}:l.getD i a=l[i]?.getD a:=List.getD_eq_getElem?_getD
end Clk
namespace Clk
open Go
inductive AV where
 | bool (b:Bool)
 | int (k:IntKind) (n:Int)
 | str (s:ByteArray)
 | undef
 | nilPtr | nilFunc | nilIface | nilMap
 | agg (l:List AV)
 | tup (l:List AV)
 | rows (l:List (List AV))
 | crows (l:List (List AV))
 | iptr (l:List AV) (j:Nat)
 | ref (b v o n:Nat)
 | ptr (b v i j:Nat)
 | fn (f:FuncId) (first cap:List AV)
 | yield (l:Nat)
 | iface (t:TypeId) (v:AV)
 deriving Inhabited
inductive AO where
 | none
 | blk (k v:Nat) (live:Bool) (rows:List (List AV))
 | loop (state:LoopState) (pend:Option Code) (tmps:List AV) (params:List Tmp) (assign body:Code) (d:Nat)
 | dfr (op:Bool)
 deriving Inhabited
def avLeaf:Value->AV
 | .bool b=>.bool b
 | .int k n=>.int k n
 | .string s=>.str s
 | .pointer none=>.nilPtr
 | .slice none 0 0=>.crows []
 | .map none=>.nilMap
 | .nilFunc=>.nilFunc
 | .nilIface=>.nilIface
 | .func (.func f) first cap=>if first.size=0 /\ cap.size=0 then .fn f [] [] else .undef
 | _=>.undef
def avOf:Value->AV
 | .agg cs=>.agg (cs.toList.map avLeaf)
 | .tuple cs=>if cs.size=0 then .tup [] else .undef
 | v=>avLeaf v
inductive TK where
 | int (k:IntKind) | bool | string
 | slice (e:TypeId) | array (n:Nat) (e:TypeId)
 | struct (fs:List (Nat×TypeId))
 | pointer (e:TypeId) | func | iface | map | other
 deriving Inhabited
structure TI where
 size:Nat
 bytes:Nat
 kind:TK
 zero:AV
 deriving Inhabited
def tkOf:TypeDesc->TK
 | .int k=>.int k
 | .bool=>.bool
 | .string=>.string
 | .slice e=>.slice e
 | .array n e=>.array n e
 | .struct fs=>.struct (fs.toList.map fun f=>(f.offset,f.type))
 | .pointer e=>.pointer e
 | .func _ _ _=>.func
 | .interface _=>.iface
 | .map _ _=>.map
 | _=>.other
def TK.agg:TK->Bool
 | .struct _=>true
 | .array _ _=>true
 | _=>false
def ti (P:Program) (t:TypeId):Option TI :=
 match P.info? t,P.underlying t with
 | some i,some d=>some { size:=i.size,bytes:=i.bytes,kind:=tkOf d,zero:=(i.zero.map avOf).getD .undef }
 | _,_=>none
def AV.leaf:AV->Bool
 | .undef | .agg _ | .tup _=>false
 | _=>true
def z3i:AV->Option (List AV)
 | .undef=>none
 | .tup _=>none
 | .agg l=>if l.all AV.leaf then some l else none
 | v=>some [v]
def ziy (t:List AV) (dst:Option Tmp) (v:AV):List AV :=
 match dst with
 | some d=>t.set d v
 | none=>t
def opd (t:List AV):Operand->AV
 | .tmp i=>t.getD i (.tup [])
 | .const v=>avOf v
 | .global _=>.undef
 | .func f=>.fn f [] []
def splice (cells:List AV) (off:Nat) (cs:List AV):List AV:=cells.take off++cs++cells.drop (off+cs.length)
def fillA (place:Nat->Option (Nat×Nat)) (cells:List AV):List (Nat×AV)->Option (List AV)
 | []=>some cells
 | (i,v)::rest =>
   match place i,z3i v with
   | some (off,size),some cs=>if cs.length=size /\ off+size<=cells.length then fillA place (splice cells off cs) rest else none
   | _,_=>none
def fillR (size:Nat) (rows:List (List AV)):List (Nat×AV)->Option (List (List AV))
 | []=>some rows
 | (i,v)::rest =>
   match z3i v with
   | some cs=>if cs.length=size /\ i<rows.length then fillR size (rows.set i cs) rest else none
   | none=>none
def partA (i:TI) (cells:List AV) (off:Nat):Option AV :=
 if off+i.size<=cells.length then
  if i.kind.agg then some (.agg ((cells.drop off).take i.size))
  else if i.size=1 then cells[off]? else none
 else none
def loadA (P:Program) (H:List AO) (t:TypeId):AV->Option AV
 | .iptr l j=>match ti P t with
   | some i=>partA i l j
   | none=>none
 | .ptr b v i j=>match ti P t,H.getD b .none with
   | some ty,.blk _ v' _ rows =>
     if v=v' then
      match ty.kind with
      | .array n e=>match ti P e with
        | some te=>if j=0 /\ i=0 /\ n=rows.length /\ rows.all (fun r=>r.length==te.size) /\ ty.size=n*te.size then some (.agg rows.flatten) else none
        | none=>none
      | _=>match rows[i]? with
        | some row=>partA ty row j
        | none=>none
     else none
   | _,_=>none
 | _=>none
def z3j (op:BinOp) (k:IntKind) (a b:Int):Option AV :=
 match op with
 | .add=>some (.int k (k.wrap (a+b)))
 | .sub=>some (.int k (k.wrap (a - b)))
 | .mul=>some (.int k (k.wrap (a*b)))
 | .quo=>if b=0 then none else some (.int k (k.wrap (a.tdiv b)))
 | .rem=>if b=0 then none else some (.int k (a.tmod b))
 | .and=>some (.int k (k.wrap (BitVec.ofInt k.bits a &&& BitVec.ofInt k.bits b).toNat))
 | .or=>some (.int k (k.wrap (BitVec.ofInt k.bits a ||| BitVec.ofInt k.bits b).toNat))
 | .xor=>some (.int k (k.wrap (BitVec.ofInt k.bits a ^^^ BitVec.ofInt k.bits b).toNat))
 | .andNot=>some (.int k (k.wrap (BitVec.ofInt k.bits a &&& ~~~(BitVec.ofInt k.bits b)).toNat))
 | .eql=>some (.bool (a==b))
 | .neq=>some (.bool (a != b))
 | .lss=>some (.bool (decide (a<b)))
 | .leq=>some (.bool (decide (a<=b)))
 | .gtr=>some (.bool (decide (a>b)))
 | .geq=>some (.bool (decide (a>=b)))
 | _=>none
def strBin (op:BinOp) (a b:ByteArray):Option AV :=
 match op with
 | .add=>if a.size+b.size<=9223372036854775807 then some (.str (a++b)) else none
 | .eql=>some (.bool (a.toList==b.toList))
 | .neq=>some (.bool (!(a.toList==b.toList)))
 | _=>none
def eqLeaf:TK->AV->AV->Option Bool
 | .int _,.int k a,.int k' b=>if k=k' then some (a==b) else none
 | .bool,.bool a,.bool b=>some (a==b)
 | .string,.str a,.str b=>some (a==b)
 | _,_,_=>none
def eqFields (P:Program) (xs ys:List AV):List (Nat×TypeId)->Option Bool
 | []=>some true
 | (off,t)::rest=>match ti P t,xs[off]?,ys[off]? with
   | some i,some x,some y=>if i.kind.agg then none else match eqLeaf i.kind x y with
     | some true=>eqFields P xs ys rest
     | some false=>some false
     | none=>none
   | _,_,_=>none
def ziz (P:Program) (t:TypeId):Bool :=
 match P.underlying t with
 | some (.struct gs)=>gs.toList.all fun f=>f.name != "_"
 | _=>false
def eqA (P:Program) (t:TypeId) (x y:AV):Option Bool :=
 match ti P t with
 | some i=>match i.kind,x,y with
   | .struct fs,.agg xs,.agg ys=>if P.stoodInHeld t then none else if ziz P t then eqFields P xs ys fs else none
   | k,x,y=>eqLeaf k x y
 | none=>none
def z7f (P:Program) (op:BinOp) (t:TypeId) (x y:AV):Option AV :=
 match op,x,y with
 | .shl,.int k a,.int _ b=>if b<0 then none else some (.int k (k.wrap (a*2 ^ (min b.toNat k.bits))))
 | .shr,.int k a,.int _ b=>if b<0 then none else some (.int k (a.fdiv (2 ^ (min b.toNat k.bits))))
 | op,.int k a,.int k' b=>if k=k' then z3j op k a b else none
 | op,.str a,.str b=>strBin op a b
 | .eql,.bool a,.bool b=>match ti P t with | some { kind:=.bool,.. }=>some (.bool (a==b)) | _=>none
 | .neq,.bool a,.bool b=>match ti P t with | some { kind:=.bool,.. }=>some (.bool (!(a==b))) | _=>none
 | .eql,.agg a,.agg b=>if P.eqGuardType P.depth t then none else (eqA P t (.agg a) (.agg b)).map AV.bool
 | .neq,.agg a,.agg b=>if P.eqGuardType P.depth t then none else (eqA P t (.agg a) (.agg b)).map (fun r=>AV.bool (!r))
 | _,_,_=>none
def unA (op:UnOp) (x:AV):Option AV :=
 match op,x with
 | .not,.bool b=>some (.bool (!b))
 | .neg,.int k n=>some (.int k (k.wrap (0 - n)))
 | .xor,.int k n=>some (.int k (k.wrap (BitVec.ofInt k.bits (if k.signed then -1 else k.max) ^^^ BitVec.ofInt k.bits n).toNat))
 | _,_=>none
def z1m (H:List AO):AV->Option (List (List AV))
 | .rows l=>some l
 | .crows l=>some l
 | .ref b v o n=>match H.getD b .none with
   | .blk _ v' _ rows=>if v=v' /\ o+n<=rows.length then some ((rows.drop o).take n) else none
   | _=>none
 | _=>none
def z4m:List (List AV)->Option (List UInt8)
 | []=>some []
 | [.int .u8 n]::rest=>(z4m rest).map (fun r=>UInt8.ofNat n.toNat::r)
 | _=>none
def convA (P:Program) (H:List AO) (src dst:TypeId) (x:AV):Option AV :=
 match ti P src,ti P dst with
 | some s,some d=>match s.kind,d.kind,x with
   | _,.int k,.int _ n=>some (.int k (k.wrap n))
   | _,.string,.str s=>some (.str s)
   | .slice e,.string,x=>match ti P e,z1m H x with
     | some { kind:=.int .u8,size:=1,.. },some rs=>(z4m rs).map fun l=>.str ⟨l.toArray⟩
     | _,_=>none
   | _,_,_=>none
 | _,_=>none
def bnd (x:Option AV) (d:Nat):Option Nat :=
 match x with
 | none=>some d
 | some (.int _ i)=>if 0<=i then some i.toNat else none
 | _=>none
def fitRows (P:Program) (e:TypeId) (r:List (List AV)):Bool :=
 match ti P e with
 | some te=>r.all fun x=>x.length==te.size
 | none=>false
def fitK (P:Program) (e:TypeId) (H:List AO) (b v:Nat):Bool :=
 match ti P e,H.getD b .none with
 | some te,.blk k v' _ _=>k==te.size&&v==v'
 | _,_=>false
def sliceA (P:Program) (H:List AO) (t:TypeId) (x:AV) (lo hi mx:Option AV):Option AV :=
 match ti P t with
 | some i=>match i.kind,x,mx with
   | .string,.str s,none=>match bnd lo 0,bnd hi s.size with
     | some l,some h=>if l<=h /\ h<=s.size then some (.str (s.extract l h)) else none
     | _,_=>none
   | .slice e,.rows r,none=>match bnd lo 0,bnd hi r.length with
     | some l,some h=>if l<=h /\ h<=r.length /\ fitRows P e r=true then some (.rows ((r.drop l).take (h - l))) else none
     | _,_=>none
   | .slice e,.crows r,none=>match bnd lo 0,bnd hi r.length with
     | some l,some h=>if l<=h /\ h<=r.length /\ fitRows P e r=true then some (.rows ((r.drop l).take (h - l))) else none
     | _,_=>none
   | .slice e,.rows r,some m=>match bnd lo 0,bnd hi r.length,bnd (some m) 0 with
     | some l,some h,some m=>if l<=h /\ h=m /\ h<=r.length /\ hi.isSome /\ fitRows P e r=true then some (.crows ((r.drop l).take (h - l))) else none
     | _,_,_=>none
   | .slice e,.crows r,some m=>match bnd lo 0,bnd hi r.length,bnd (some m) 0 with
     | some l,some h,some m=>if l<=h /\ h=m /\ h<=r.length /\ hi.isSome /\ fitRows P e r=true then some (.crows ((r.drop l).take (h - l))) else none
     | _,_,_=>none
   | .slice e,.ref b v o n,none=>match bnd lo 0,bnd hi n with
     | some l,some h=>if l<=h /\ h<=n /\ fitK P e H b v=true then some (.ref b v (o+l) (h - l)) else none
     | _,_=>none
   | .array n e,.ptr b v 0 0,none=>match bnd lo 0,bnd hi n with
     | some l,some h=>match H.getD b .none with
       | .blk k v' _ rows=>if l<=h /\ h<=n /\ v=v' /\ n=rows.length /\ fitK P e H b v=true then some (.ref b v l (h - l)) else none
       | _=>none
     | _,_=>none
   | .slice e,.ref _ _ _ _,some m=>match ti P e,bnd lo 0,bnd hi 1,bnd (some m) 1 with
     | some _,some 0,some 0,some 0=>if hi.isSome then some (.crows []) else none
     | _,_,_,_=>none
   | _,_,_=>none
 | none=>none
def z26 (P:Program) (s:TypeId) (x:AV) (f:Nat):Option AV :=
 match ti P s with
 | some { kind:=.struct fs,.. }=>match fs[f]? with
   | some (off,ft)=>match ti P ft with
     | some i=>if i.size=0 then none else match x with
       | .iptr l j=>some (.iptr l (j+off))
       | .ptr b v i j=>some (.ptr b v i (j+off))
       | _=>none
     | none=>none
   | none=>none
 | _=>none
def rowSize (P:Program) (e:TypeId) (r:List AV):Bool :=
 match ti P e with
 | some te=>r.length==te.size
 | none=>false
def z0g (P:Program) (H:List AO) (t:TypeId) (x ix:AV):Option AV :=
 match ti P t,ix with
 | some i,.int _ n=>match i.kind,x with
   | .slice e,.rows l=>if 0<=n /\ n<l.length then (if rowSize P e (l.getD n.toNat []) then some (.iptr (l.getD n.toNat []) 0) else none) else none
   | .slice e,.crows l=>if 0<=n /\ n<l.length then (if rowSize P e (l.getD n.toNat []) then some (.iptr (l.getD n.toNat []) 0) else none) else none
   | .slice e,.ref b v o len=>if 0<=n /\ n<len then (if fitK P e H b v then some (.ptr b v (o+n.toNat) 0) else none) else none
   | .array len e,.ptr b v 0 0=>if 0<=n /\ n<len then (if fitK P e H b v then some (.ptr b v n.toNat 0) else none) else none
   | _,_=>none
 | _,_=>none
def indexA (P:Program) (t:TypeId) (x ix:AV):Option AV :=
 match ti P t,ix with
 | some i,.int _ n=>match i.kind,x with
   | .string,.str s=>if 0<=n /\ n<s.size then some (.int .u8 (s.data.getD n.toNat 0).toNat) else none
   | .array len e,.agg l=>if 0<=n /\ n<len then (match ti P e with | some te=>partA te l (n.toNat*te.size) | none=>none) else none
   | _,_=>none
 | _,_=>none
def fieldA (P:Program) (t:TypeId) (x:AV) (f:Nat):Option AV :=
 match ti P t,x with
 | some { kind:=.struct fs,.. },.agg l=>match fs[f]? with
   | some (off,ft)=>match ti P ft with
     | some i=>partA i l off
     | none=>none
   | none=>none
 | _,_=>none
def z08 (i:TI):Option (List AV) :=
 match z3i i.zero with
 | some z=>if z.length=i.size then some z else none
 | none=>none
abbrev Res:=Option (AV×Option (Nat×AO))
def z5y (v:Option AV):Res:=v.map fun v=>(v,none)
def newBlk (P:Program) (t:TypeId) (cells:List AV):Option AO :=
 match ti P t with
 | some { kind:=.array n e,.. }=>match ti P e with
   | some te=>if te.size=1 /\ cells.length=n then some (.blk 1 0 true (cells.map fun c=>[c])) else none
   | none=>none
 | some _=>if cells.length=0 then none else some (.blk cells.length 0 true [cells])
 | none=>none
def z0d:Nat:=2 ^ 46
def newRows (H:List AO) (te:TI):AV->Option (List (List AV))
 | .str s=>if te.size=1 then some (s.data.toList.map fun b=>[AV.int .u8 b.toNat]) else none
 | x=>z1m H x
def z2a (P:Program) (H:List AO) (slot:Nat) (st:TypeId) (s x:AV):Res :=
 match ti P st with
 | some { kind:=.slice e,.. }=>match ti P e with
   | some te =>
     if te.size=0 \/ (z08 te).isNone then none else
     match s,newRows H te x with
     | .crows l,some n =>
       if (l.length+n.length)*te.bytes>z0d \/ (l.length+n.length)>z0d then none else
       if n.all (fun r=>r.length==te.size)&&l.all (fun r=>r.length==te.size) then
        (if l.length=0 /\ n.length=0 then some (.crows [],none)
         else if n.length=0 then none
         else some (.ref slot 0 0 (l.length+n.length),some (slot,.blk te.size 0 true (l++n))))
       else none
     | .ref b v o len,some n=>match H.getD b .none with
       | .blk k v' true rows =>
         if v=v' /\ o=0 /\ len=rows.length /\ k=te.size /\ (rows.length+n.length)*te.bytes<=z0d /\ (rows.length+n.length)<=z0d then
          if n.all (fun r=>r.length==te.size&&r.all AV.leaf) then some (.ref b (v+1) 0 (rows.length+n.length),some (b,.blk k (v+1) true (rows++n))) else none
         else none
       | _=>none
     | _,_=>none
   | none=>none
 | _=>none
def lenA (P:Program) (t:TypeId) (x:AV):Option AV :=
 match ti P t with
 | some i=>match i.kind,x with
   | .string,.str s=>some (.int .i64 s.size)
   | .slice _,.rows l=>some (.int .i64 l.length)
   | .slice _,.crows l=>some (.int .i64 l.length)
   | .slice _,.ref _ _ _ n=>some (.int .i64 n)
   | .array n _,_=>some (.int .i64 n)
   | _,_=>none
 | none=>none
def copyA (P:Program) (H:List AO) (dt:TypeId) (d s:AV):Res :=
 match ti P dt with
 | some { kind:=.slice e,.. }=>match ti P e,d,z1m H s with
   | some te,.ref b v o n,some src=>match H.getD b .none with
     | .blk k v' true rows =>
       if v=v' /\ o+n<=rows.length /\ k=te.size /\ src.all (fun r=>r.length==k&&r.all AV.leaf) then
        let m:=min src.length n
        some (.int .i64 m,some (b,.blk k v true (rows.take o++src.take m++rows.drop (o+m))))
       else none
     | _=>none
   | some te,.crows [],some src=>if 0<te.size /\ src.all (fun r=>r.length==te.size) then some (.int .i64 0,none) else none
   | some te,.rows [],some src=>if 0<te.size /\ src.all (fun r=>r.length==te.size) then some (.int .i64 0,none) else none
   | _,_,_=>none
 | _=>none
def clearA (P:Program) (H:List AO) (t:TypeId) (x:AV):Res :=
 match ti P t with
 | some { kind:=.slice e,.. }=>match ti P e,x with
   | some te,.ref b v o n=>match H.getD b .none,z08 te with
     | .blk k v' true rows,some z =>
       if v=v' /\ o+n<=rows.length /\ k=te.size /\ z.all AV.leaf then
        some (.tup [],some (b,.blk k v true (rows.take o++List.replicate n z++rows.drop (o+n))))
       else none
     | _,_=>none
   | _,_=>none
 | _=>none
def min2A:AV->AV->Option AV
 | .int k x,.int _ y=>some (.int k (if y<x then y else x))
 | _,_=>none
def max2A:AV->AV->Option AV
 | .int k x,.int _ y=>some (.int k (if y>x then y else x))
 | _,_=>none
def foldA (f:AV->AV->Option AV):AV->List AV->Option AV
 | a,[]=>some a
 | a,x::rest=>match f a x with | some r=>foldA f r rest | none=>none
def z2y (P:Program) (H:List AO) (slot:Nat) (b:Builtin) (ts:List TypeId) (args:List AV):Res :=
 match b,ts,args with
 | .append,[st,xt],[s,x]=>match ti P xt with
   | some { kind:=.slice _,.. }=>z2a P H slot st s x
   | some { kind:=.string,.. }=>z2a P H slot st s x
   | _=>none
 | .len,t::_,x::_=>z5y (lenA P t x)
 | .copy,dt::_,[d,s]=>copyA P H dt d s
 | .clear,t::_,x::_=>clearA P H t x
 | .min,_,a::rest=>z5y (foldA min2A a rest)
 | .max,_,a::rest=>z5y (foldA max2A a rest)
 | _,_,_=>none
def placeS (P:Program) (fs:List (Nat×TypeId)) (j:Nat):Option (Nat×Nat) :=
 match fs[j]? with
 | some (off,ft)=>(ti P ft).map fun fi=>(off,fi.size)
 | none=>none
def z09 (P:Program) (t:List AV) (H:List AO) (slot:Nat) (o:Oper):Res :=
 match o.op with
 | .move x | .assign x=>some (opd t x,none)
 | .pick c a b=>match opd t c with
   | .bool true=>some (opd t a,none)
   | .bool false=>some (opd t b,none)
   | _=>none
 | .alloc e=>match ti P e with
   | some i=>match z08 i with
     | some z=>match newBlk P e z with
       | some o=>some (.ptr slot 0 0 0,some (slot,o))
       | none=>none
     | none=>none
   | none=>none
 | .box e x=>match z3i (opd t x) with
   | some cs=>match newBlk P e cs with
     | some o=>some (.ptr slot 0 0 0,some (slot,o))
     | none=>none
   | none=>none
 | .build ty parts=>match ti P ty with
   | some i=>match z08 i,i.kind with
     | some z,.struct fs =>
       if fs.all (fun f=>(ti P f.2).isSome) then
        (match fillA (placeS P fs) z (parts.toList.map fun p=>(p.1,opd t p.2)) with
        | some cs=>some (.agg cs,none)
        | none=>none)
       else none
     | some z,.array _ e=>match ti P e with
       | some te=>match fillA (fun j=>some (j*te.size,te.size)) z (parts.toList.map fun p=>(p.1,opd t p.2)) with
         | some cs=>some (.agg cs,none)
         | none=>none
       | none=>none
     | _,_=>none
   | none=>none
 | .buildSlice ty n parts=>match ti P ty with
   | some { kind:=.slice e,.. }=>match ti P e with
     | some te=>match z08 te with
       | some z=>if n=0 /\ parts.toList.length=0 then some (.crows [],none) else if n*te.size<=16777216 /\ 0<te.size then
          (match fillR te.size (List.replicate n z) (parts.toList.map fun p=>(p.1,opd t p.2)) with
          | some rows=>some (.ref slot 0 0 n,some (slot,.blk te.size 0 true rows))
          | none=>none)
         else none
       | none=>none
     | none=>none
   | _=>none
 | .load ty a=>z5y (loadA P H ty (opd t a))
 | .store ty a x=>match opd t a,z3i (opd t x),ti P ty with
   | .ptr b v i j,some cs,some ty=>match H.getD b .none with
     | .blk k v' true rows=>match rows[i]?,ty.kind with
       | some _,.array _ _=>none
       | some row,_=>if v=v' /\ cs.length=ty.size /\ j+cs.length<=row.length /\ cs.all AV.leaf then some (.tup [],some (b,.blk k v true (rows.set i (splice row j cs)))) else none
       | none,_=>none
     | _=>none
   | _,_,_=>none
 | .nilCheck x=>match opd t x with
   | .ptr b v i j=>some (.ptr b v i j,none)
   | .iptr l j=>some (.iptr l j,none)
   | .fn f a b=>some (.fn f a b,none)
   | .yield l=>some (.yield l,none)
   | _=>none
 | .binOp op ty x y _=>z5y (z7f P op ty (opd t x) (opd t y))
 | .unOp op _ x=>z5y (unA op (opd t x))
 | .convert s d x=>z5y (convA P H s d (opd t x))
 | .makeInterface ty x=>match ti P ty with
   | some { kind:=.iface,.. }=>none
   | some _=>some (.iface ty (opd t x),none)
   | none=>none
 | .makeFunc (.func f) first cap=>some (.fn f (first.toList.map (opd t)) (cap.toList.map (opd t)),none)
 | .makeSlice ty l c=>match ti P ty,opd t l,opd t c with
   | some { kind:=.slice e,.. },.int .i64 n,.int .i64 c=>match ti P e with
     | some te=>match z08 te with
       | some z=>if 0<=n /\ n<=c /\ c*te.bytes<=70368744177664 /\ c<=70368744177664 /\ 0<te.size then
          some (.ref slot 0 0 n.toNat,some (slot,.blk te.size 0 true (List.replicate n.toNat z)))
         else none
       | none=>none
     | none=>none
   | _,_,_=>none
 | .slice ty x lo hi mx=>z5y (sliceA P H ty (opd t x) (lo.map (opd t)) (hi.map (opd t)) (mx.map (opd t)))
 | .fieldAddr s x f=>z5y (z26 P s (opd t x) f)
 | .field s x f=>z5y (fieldA P s (opd t x) f)
 | .indexAddr ty x ix=>z5y (z0g P H ty (opd t x) (opd t ix))
 | .index ty x ix=>z5y (indexA P ty (opd t x) (opd t ix))
 | .extract x ix=>match opd t x with
   | .tup l=>(l[ix]?).map fun v=>(v,none)
   | _=>none
 | .call { callee:=.builtin b,args,argTypes }=>z2y P H slot b argTypes.toList (args.toList.map (opd t))
 | _=>none
def zi (H:List AO):Option (Nat×AO)->List AO
 | none=>H
 | some (i,o)=>if i<H.length then H.set i o else H++[o]
mutual
def AV.imm:AV->Bool
 | .agg l=>immL l
 | .tup l=>immL l
 | .fn _ a b=>immL a&&immL b
 | .iface _ v=>v.imm
 | .ref ..=>false
 | .ptr ..=>false
 | .yield _=>false
 | _=>true
def immL:List AV->Bool
 | []=>true
 | x::rest=>x.imm&&immL rest
end
mutual
def AV.nrm:AV->Option AV
 | .agg l=>(zeg l).map .agg
 | .tup l=>(zeg l).map .tup
 | .rows l=>(nrmLL l).map .rows
 | .crows l=>(nrmLL l).map .rows
 | .iptr l j=>(zeg l).map (.iptr · j)
 | .fn f a b=>match zeg a,zeg b with
   | some a,some b=>some (.fn f a b)
   | _,_=>none
 | .iface t v=>v.nrm.map (.iface t)
 | .ref _ _ _ _=>none
 | .ptr _ _ _ _=>none
 | .yield _=>none
 | .bool b=>some (.bool b)
 | .int k n=>some (.int k n)
 | .str s=>some (.str s)
 | .undef=>some .undef
 | .nilPtr=>some .nilPtr
 | .nilFunc=>some .nilFunc
 | .nilIface=>some .nilIface
 | .nilMap=>some .nilMap
def zeg:List AV->Option (List AV)
 | []=>some []
 | x::rest=>match x.nrm,zeg rest with
   | some y,some ys=>some (y::ys)
   | _,_=>none
def nrmLL:List (List AV)->Option (List (List AV))
 | []=>some []
 | x::rest=>match zeg x,nrmLL rest with
   | some y,some ys=>some (y::ys)
   | _,_=>none
end
mutual
def AV.same:AV->AV->Bool
 | .bool a,.bool b=>a==b
 | .int k a,.int k' b=>decide (k=k')&&a==b
 | .str a,.str b=>a.data.toList==b.data.toList
 | .undef,.undef=>true
 | .nilPtr,.nilPtr=>true
 | .nilFunc,.nilFunc=>true
 | .nilIface,.nilIface=>true
 | .nilMap,.nilMap=>true
 | .agg a,.agg b=>sameL a b
 | .tup a,.tup b=>sameL a b
 | .rows a,.rows b=>sameLL a b
 | .crows a,.crows b=>sameLL a b
 | .iptr a j,.iptr b j'=>sameL a b&&j==j'
 | .ref b v o n,.ref b' v' o' n'=>b==b'&&v==v'&&o==o'&&n==n'
 | .ptr b v i j,.ptr b' v' i' j'=>b==b'&&v==v'&&i==i'&&j==j'
 | .fn f a b,.fn f' a' b'=>f==f'&&sameL a a'&&sameL b b'
 | .yield l,.yield l'=>l==l'
 | .iface t v,.iface t' v'=>t==t'&&AV.same v v'
 | _,_=>false
def sameL:List AV->List AV->Bool
 | [],[]=>true
 | x::xs,y::ys=>AV.same x y&&sameL xs ys
 | _,_=>false
def sameLL:List (List AV)->List (List AV)->Bool
 | [],[]=>true
 | x::xs,y::ys=>sameL x y&&sameLL xs ys
 | _,_=>false
end
def AO.same:AO->AO->Bool
 | .none,.none=>true
 | .blk k v l r,.blk k' v' l' r'=>k==k'&&v==v'&&l==l'&&sameLL r r'
 | _,_=>false
def mapO {α β:Type} (f:α->Option β):List α->Option (List β)
 | []=>some []
 | x::rest=>match f x,mapO f rest with
   | some y,some ys=>some (y::ys)
   | _,_=>none
def exp (H:List AO):Nat->AV->Option AV
 | 0,_=>none
 | d+1,.agg l=>(mapO (exp H d) l).map .agg
 | d+1,.tup l=>(mapO (exp H d) l).map .tup
 | d+1,.ref b v o n=>match H.getD b .none with
   | .blk _ v' _ rows =>
     if v=v' /\ o+n<=rows.length then
      (match nrmLL ((rows.drop o).take n) with
      | some r=>some (.rows r)
      | none=>(mapO (mapO (exp H d)) ((rows.drop o).take n)).map .rows)
     else none
   | _=>none
 | _+1,v=>v.nrm
def zt (H:List AO):Nat->AV->List Nat
 | 0,_=>[]
 | d+1,.agg l=>l.flatMap (zt H d)
 | d+1,.tup l=>l.flatMap (zt H d)
 | d+1,.ref b _ o n=>match H.getD b .none with
   | .blk _ _ _ rows=>b::(match nrmLL ((rows.drop o).take n) with
     | some _=>[]
     | none=>((rows.drop o).take n).flatMap (fun r=>r.flatMap (zt H d)))
   | _=>[]
 | _+1,_=>[]
def zj (H:List AO) (b:Nat):List AO :=
 match H.getD b .none with
 | .blk k v _ rows=>H.set b (.blk k v false rows)
 | _=>H
def z03 (H:List AO) (l:List Nat):List AO:=l.foldl zj H
end Clk
namespace Clk
open Go
structure St where
 t:List AV
 H:List AO
 m:List Nat
inductive Ex where
 | normal
 | exit (id:Nat)
 | ret
 deriving DecidableEq,Inhabited
def depth:Nat:=5
abbrev z1d:=Option Nat->Code->St->Option (Ex×St)
def z3k (P:Program) (t:List AV) (H:List AO):ResultVar->Option AV
 | .tmp i=>some (t.getD i (.tup []))
 | .cell a ty=>loadA P H ty (t.getD a (.tup []))
def zcr (P:Program) (fn:Func) (t:List AV) (H:List AO):Option AV :=
 match mapO (z3k P t H) fn.results.toList with
 | some [v]=>some v
 | some l=>some (.tup l)
 | none=>none
def z1e:List AO->List Nat->Option (List AO)
 | H,[]=>some H
 | H,b::m=>match H.getD b .none with
   | .dfr true=>z1e (H.set b (.dfr false)) m
   | _=>none
def callF (P:Program) (run:z1d) (f:FuncId) (args:List AV) (H:List AO):Option (AV×List AO) :=
 match P.funcs[f]? with
 | some fn=>match fn.body with
   | some c=>match run none c ⟨args++List.replicate (fn.ntmps - args.length) (.tup []),H,[]⟩ with
     | some (.exit _,_)=>none
     | some (_,st)=>match z1e st.H st.m with
       | some H'=>match zcr P fn st.t H' with
         | some v=>some (v,H')
         | none=>none
       | none=>none
     | none=>none
   | none=>none
 | none=>none
def jumpOf:Ex->Option Code
 | .normal=>none
 | .exit id=>some (.exit id)
 | .ret=>some .ret
def yieldF (run:z1d) (l:Nat) (args:List AV) (H:List AO):Option (AV×List AO) :=
 match H.getD l .none with
 | .loop .ready _ tmps params assign body _ =>
   if args.length=params.length then
    match run (some l) assign ⟨(params.zip args).foldl (fun t (p,v)=>t.set p v) tmps,H,[]⟩ with
    | some (.normal,st1)=>match st1.H.getD l .none,st1.m with
      | .loop .ready p' tm ps as bd d,[] =>
        match run (some l) body ⟨st1.t,st1.H.set l (.loop .busy p' tm ps as bd d),[]⟩ with
        | some (ex,st2)=>match st2.H.getD l .none with
          | .loop _ _ tm ps as bd d =>
            some (.bool (jumpOf ex).isNone,st2.H.set l (.loop (if (jumpOf ex).isNone then .ready else .done) (jumpOf ex) tm ps as bd d))
          | _=>none
        | none=>none
      | _,_=>none
    | _=>none
   else none
 | _=>none
variable (P:Program) (inl:FuncId->Bool) (orc:FuncId->Option (List AV->Option AV)) (prim:FuncId->Option (Nat->List AV->List AO->Res))
def z0y (run:z1d) (f:FuncId) (args:List AV):Option AV :=
 match orc f with
 | some h=>h args
 | none=>match callF P run f args [] with
   | some (r,H1)=>exp H1 depth r
   | none=>none
def cloneA (k bytes slot:Nat) (args:List AV) (H:List AO):Res :=
 match args with
 | [x]=>match z1m H x with
   | some []=>some (.crows [],none)
   | some rs=>if rs.all (fun r=>r.length==k)&&decide (rs.length*bytes<=z0d)&&decide (rs.length<=z0d) then some (.ref slot 0 0 rs.length,some (slot,.blk k 0 true rs)) else none
   | none=>none
 | _=>none
def callG (run:z1d) (f:FuncId) (args:List AV) (H:List AO):Option (AV×List AO) :=
 match prim f with
 | some h=>(h H.length args H).map fun r=>(r.1,zi H r.2)
 | none =>
 if inl f then callF P run f args H
 else match mapO (exp H depth) args with
  | some as=>match z0y P orc run f as with
    | some r=>some (r,z03 H (args.flatMap (zt H depth)))
    | none=>none
  | none=>callF P run f args H
def callFn (run:z1d) (fv:AV) (args:List AV) (H:List AO):Option (AV×List AO) :=
 match fv with
 | .fn g first cap=>callG P inl orc prim run g (first++args++cap) H
 | _=>none
def callV (run:z1d) (fv:AV) (args:List AV) (H:List AO):Option (AV×List AO) :=
 match fv with
 | .fn g first cap=>callG P inl orc prim run g (first++args++cap) H
 | .yield l=>yieldF run l args H
 | _=>none
def z4u (ops:Array Oper) (t:List AV) (o:Oper):Option Bool :=
 match o.guard with
 | none=>some true
 | some (j,want)=>match (ops[j]?).bind (·.dst) with
   | some d=>match t[d]? with
     | some (.bool b)=>some (b==want)
     | some (.tup [])=>some false
     | _=>none
   | none=>none
def z0h (run:z1d) (ops:Array Oper):List Oper->List AV->List AO->Option (List AV×List AO)
 | [],t,H=>some (t,H)
 | o::rest,t,H=>match z4u ops t o with
   | some false=>z0h run ops rest (ziy t o.dst (.tup [])) H
   | some true=>match o.op with
     | .call { callee:=.value f,args,.. }=>match callV P inl orc prim run (opd t f) (args.toList.map (opd t)) H with
       | some (v,H')=>z0h run ops rest (ziy t o.dst v) H'
       | none=>none
     | _=>match z09 P t H H.length o with
       | some (v,ch)=>z0h run ops rest (ziy t o.dst v) (zi H ch)
       | none=>none
   | none=>none
def preds (ops:List Oper):List (List Nat) :=
 ops.foldl (fun acc o =>
  acc++[o.after.toList.foldl (fun l e=>if Region.binds .any e then (e.on::(acc.getD e.on []))++l else l) []]) []
inductive Eff where
 | nothing
 | one (id:Nat) (o:AO)
 | frz (l:List Nat)
 | all (H:List AO)
 deriving Inhabited
def Eff.on (H:List AO):Eff->List AO
 | .nothing=>H
 | .one id o=>H.set id o
 | .frz l=>z03 H l
 | .all H'=>H'
def effOf:Option (Nat×AO)->Eff
 | none=>.nothing
 | some (id,o)=>.one id o
def z7g (run:z1d) (t:List AV) (H:List AO) (slot:Nat) (o:Oper):Option (AV×Eff) :=
 match o.op with
 | .call { callee:=.value f,args,.. }=>match opd t f with
   | .fn g first cap=>match (if inl g||(prim g).isSome then none else zeg (first++args.toList.map (opd t)++cap)) with
     | some as=>(z0y P orc run g as).map fun v=>(v,.nothing)
     | none=>match (if inl g||(prim g).isSome then none else mapO (exp H depth) (first++args.toList.map (opd t)++cap)) with
       | some as=>(z0y P orc run g as).map fun v=>(v,.frz ((first++args.toList.map (opd t)++cap).flatMap (zt H depth)))
       | none=>(callG P inl orc prim run g (first++args.toList.map (opd t)++cap) H).map fun r=>(r.1,.all r.2)
   | .yield l=>(yieldF run l (args.toList.map (opd t)) H).map fun r=>(r.1,.all r.2)
   | _=>none
 | _=>(z09 P t H slot o).map fun r=>(r.1,effOf r.2)
def z1u:AV->List Nat
 | .ref b _ _ _=>[b]
 | .ptr b _ _ _=>[b]
 | _=>[]
def readsOf (t:List AV) (o:Oper):List Nat :=
 match o.op with
 | .load _ a=>z1u (opd t a)
 | .store _ a _=>z1u (opd t a)
 | .convert _ _ x=>z1u (opd t x)
 | .slice _ x _ _ _=>z1u (opd t x)
 | .indexAddr _ x _=>z1u (opd t x)
 | .call { callee:=.builtin _,args,.. }=>args.toList.flatMap fun x=>z1u (opd t x)
 | _=>[]
structure DStep where
 dst:Option Tmp
 v:AV
 ch:Eff
 rd:List Nat
 hb:List AO
 deriving Inhabited
def upto {S A:Type} (f:S->A->S) (s:S) (l:List A) (p:Nat->Bool):Nat->S
 | 0=>s
 | k+1=>match l[k]?,p k with
   | some a,true=>f (upto f s l p k) a
   | _,_=>upto f s l p k
def z12 (t:List AV) (l:List DStep) (p:Nat->Bool) (k:Nat):List AV:=upto (fun t (x:DStep)=>ziy t x.dst x.v) t l p k
def zz (H:List AO) (l:List DStep) (p:Nat->Bool) (k:Nat):List AO:=upto (fun H (x:DStep)=>x.ch.on H) H l p k
def z1v (run:z1d) (ops:Array Oper) (base:Nat):List Oper->List AV->List AO->List DStep->Option (List AV×List AO×List DStep)
 | [],t,H,acc=>some (t,H,acc)
 | o::rest,t,H,acc=>match z4u ops t o with
   | some false=>z1v run ops base rest (ziy t o.dst (.tup [])) H (acc++[⟨o.dst,.tup [],.nothing,[],[]⟩])
   | some true=>match z7g P inl orc prim run t H (base+acc.length) o with
     | some (v,ch)=>z1v run ops base rest (ziy t o.dst v) (ch.on H) (acc++[⟨o.dst,v,ch,readsOf t o,H⟩])
     | none=>none
   | none=>none
def apartD (ops:Array Oper) (i j:Nat) (a b:Oper) (s sj:DStep) (comp:Bool):Bool :=
 (match a.dst with | some d=>b.dst != some d&&(comp||!(b.looksAt ops).contains d) | none=>true) &&
 (comp||match s.ch with
   | .nothing=>true
   | .one id _=>!(sj.rd.contains id)&&(match sj.ch with | .nothing=>true | .one id' _=>id != id' | .frz l=>!l.contains id | .all _=>false)
   | .frz l=>(sj.rd.all fun id=>!l.contains id)&&(match sj.ch with | .nothing=>true | .one id _=>!l.contains id | _=>false)
   | .all H'=>(match sj.ch with | .nothing=>true | _=>false)&&sj.rd.all fun id=>AO.same (H'.getD id .none) (s.hb.getD id .none))
def soundD (L:Nat) (pr:List (List Nat)) (j:Nat) (o:Oper) (s:DStep):Bool :=
 (pr.getD j []).all (fun i=>decide (i<j)&&(pr.getD i []).all (pr.getD j []).contains&&o.after.any fun e=>Region.binds .any e&&(e.on==i||(pr.getD e.on []).contains i)) &&
 (o.after.all fun e=>!Region.binds .any e||(pr.getD j []).contains e.on) &&
 (match s.ch with
  | .nothing=>true
  | .one id _=>decide (id<L)
  | .frz _=>true
  | .all H'=>decide (L<=H'.length))
def drawOk (ops:Array Oper) (L:Nat) (pr:List (List Nat)) (l:List DStep):Bool :=
 (List.range ops.size).all fun i=>match ops[i]?,l[i]? with
   | some a,some s=>soundD L pr i a s&&(List.range ops.size).all fun j =>
     i==j||match ops[j]?,l[j]? with
     | some b,some sj=>apartD ops i j a b s sj ((pr.getD i []).contains j||(pr.getD j []).contains i)
     | _,_=>false
   | _,_=>false
def z69 (run:z1d) (ops:Array Oper) (t:List AV) (H:List AO):Option (List AV×List AO) :=
 match z1v P inl orc prim run ops H.length ops.toList t (H++List.replicate ops.size AO.none) [] with
 | some (t',H',l)=>if drawOk ops (H.length+ops.size) (preds ops.toList) l then some (t',H') else none
 | none=>none
def coA1 (k:Nat) (t:List AV) (H:List AO):List AV×List AO:=match t[k]? with
 | some x=>match exp H depth x with
   | some y=>(t.set k y,z03 H (zt H depth x))
   | none=>(t,H)
 | none=>(t,H)
def coAL (id:Nat):List Nat->List AV×List AO->List AV×List AO
 | [],c=>c
 | k::l,c=>coAL id l (if inl (10000000+id*1000+k) then coA1 k c.1 c.2 else c)
def coA (id:Nat) (t:List AV) (H:List AO):List AV×List AO :=
 if inl (1000000+(id*1000+t.length)) then coAL inl (id*1000+t.length) (List.range t.length) (t,H) else (t,H)
def run:Nat->Option Nat->Code->St->Option (Ex×St)
 | 0,_,_,_=>none
 | n+1,ro,c,st =>
   match c with
   | .skip=>some (.normal,st)
   | .seq a b=>match run n ro a st with
     | some (.normal,st')=>run n ro b st'
     | r=>r
   | .cond x a b=>match opd st.t x with
     | .bool true=>run n ro a st
     | .bool false=>run n ro b st
     | _=>none
   | .block id c=>match run n ro c st with
     | some (.exit id',st')=>if id'=id then some (.normal,st') else some (.exit id',st')
     | r=>r
   | .loop c=>match run n ro c st with
     | some (.normal,st')=>run n ro (.loop c) st'
     | r=>r
   | .scope c=>run n ro c st
   | .label _=>some (.normal,st)
   | .exit id=>some (.exit id,st)
   | .ret=>some (.ret,st)
   | .region id ops draw =>
     match (if draw then z69 P inl orc prim (run n) ops (coA inl id st.t st.H).1 (coA inl id st.t st.H).2 else z0h P inl orc prim (run n) ops ops.toList (coA inl id st.t st.H).1 (coA inl id st.t st.H).2) with
     | some (t,H)=>some (.normal,⟨t,H,st.m⟩)
     | none=>none
   | .rangeFunc g params assign body =>
     let go (d:Nat) (H1:List AO) (m1:List Nat):Option (Ex×St) :=
      match callFn P inl orc prim (run n) (opd st.t g) [.yield H1.length] (H1++[.loop .ready none st.t params.toList assign body d]) with
      | some (_,H3)=>match H3.getD H1.length .none with
        | .loop s pend tm ps as bd d =>
          if s=.busy then none else
          let H4:=H3.set H1.length (.loop .exhausted pend tm ps as bd d)
          match pend with
          | none=>some (.normal,⟨st.t,H4,m1⟩)
          | some c=>run n ro c ⟨st.t,H4,m1⟩
        | _=>none
      | none=>none
     match ro with
     | some l=>match st.H.getD l .none with
       | .loop _ _ _ _ _ _ d=>go d st.H st.m
       | _=>none
     | none=>go st.H.length (st.H++[.dfr true]) (st.H.length::st.m)
   | _=>none
end Clk
namespace Clk
open Go
structure BI where
 r:Nat
 k:Nat
 v:Nat
abbrev z13:=List (Option BI)
inductive RelI (w:World) (N:Nat->Prop):AV->Value->Prop
 | bool (b:Bool):RelI w N (.bool b) (.bool b)
 | int (k:IntKind) (n:Int):RelI w N (.int k n) (.int k n)
 | str (s:ByteArray):RelI w N (.str s) (.string s)
 | undef (v:Value):RelI w N .undef v
 | nilPtr:RelI w N .nilPtr (.pointer none)
 | nilFunc:RelI w N .nilFunc .nilFunc
 | nilIface:RelI w N .nilIface .nilIface
 | nilMap:RelI w N .nilMap (.map none)
 | agg {l:List AV} {vs:Array Value} (h:vs.size=l.length) (hc:∀ (i:Nat) a v,l[i]?=some a->vs[i]?=some v->RelI w N a v):RelI w N (.agg l) (.agg vs)
 | tup {l:List AV} {vs:Array Value} (h:vs.size=l.length) (hc:∀ (i:Nat) a v,l[i]?=some a->vs[i]?=some v->RelI w N a v):RelI w N (.tup l) (.tuple vs)
 | rows {l:List (List AV)} {a:Option Addr} {c k:Nat} {u:Nat->Nat->Value} (hc:l.length<=c)
    (hk:∀ (i:Nat) row,l[i]?=some row->row.length=k)
    (ha:0<l.length->∃ ad,a=some ad /\ ad.spot=none /\ ¬ N ad.block /\ ad.block<w.heap.size)
    (hu:∀ (ad:Addr) (i:Nat) row (j:Nat) x,a=some ad->l[i]?=some row->row[j]?=some x->w.cell? ⟨ad.block,ad.off+(i*k+j),none⟩=some (u i j))
    (hr:∀ (i:Nat) row (j:Nat) x,l[i]?=some row->row[j]?=some x->RelI w N x (u i j)):RelI w N (.rows l) (.slice a l.length c)
 | crows {l:List (List AV)} {a:Option Addr} {k:Nat} {u:Nat->Nat->Value}
    (hk:∀ (i:Nat) row,l[i]?=some row->row.length=k)
    (ha:0<l.length->∃ ad,a=some ad /\ ad.spot=none /\ ¬ N ad.block /\ ad.block<w.heap.size)
    (hu:∀ (ad:Addr) (i:Nat) row (j:Nat) x,a=some ad->l[i]?=some row->row[j]?=some x->w.cell? ⟨ad.block,ad.off+(i*k+j),none⟩=some (u i j))
    (hr:∀ (i:Nat) row (j:Nat) x,l[i]?=some row->row[j]?=some x->RelI w N x (u i j)):RelI w N (.crows l) (.slice a l.length l.length)
 | iptr {l:List AV} {j b o:Nat} {u:Nat->Value} (hN:¬ N b) (hlt:b<w.heap.size)
    (hu:∀ (i:Nat) x,l[i]?=some x->w.cell? ⟨b,o+i,none⟩=some (u i))
    (hr:∀ (i:Nat) x,l[i]?=some x->RelI w N x (u i)):RelI w N (.iptr l j) (.pointer (some ⟨b,o+j,none⟩))
 | fn {f:FuncId} {l m:List AV} {vs us:Array Value} (h:vs.size=l.length) (hc:∀ (i:Nat) a v,l[i]?=some a->vs[i]?=some v->RelI w N a v)
    (h':us.size=m.length) (hc':∀ (i:Nat) a v,m[i]?=some a->us[i]?=some v->RelI w N a v):RelI w N (.fn f l m) (.func (.func f) vs us)
 | iface (t:TypeId) {x:AV} {v:Value} (h:RelI w N x v):RelI w N (.iface t x) (.iface t v)
inductive Rel (w:World) (N:Nat->Prop) (β:z13):AV->Value->Prop
 | imm {x:AV} {v:Value} (h:RelI w N x v):Rel w N β x v
 | agg {l:List AV} {vs:Array Value} (h:vs.size=l.length) (hc:∀ (i:Nat) a v,l[i]?=some a->vs[i]?=some v->Rel w N β a v):Rel w N β (.agg l) (.agg vs)
 | tup {l:List AV} {vs:Array Value} (h:vs.size=l.length) (hc:∀ (i:Nat) a v,l[i]?=some a->vs[i]?=some v->Rel w N β a v):Rel w N β (.tup l) (.tuple vs)
 | fn {f:FuncId} {l m:List AV} {vs us:Array Value} (h:vs.size=l.length) (hc:∀ (i:Nat) a v,l[i]?=some a->vs[i]?=some v->Rel w N β a v)
    (h':us.size=m.length) (hc':∀ (i:Nat) a v,m[i]?=some a->us[i]?=some v->Rel w N β a v):Rel w N β (.fn f l m) (.func (.func f) vs us)
 | iface (t:TypeId) {x:AV} {v:Value} (h:Rel w N β x v):Rel w N β (.iface t x) (.iface t v)
 | ref {b v o n c:Nat} {bi:BI} {a:Option Addr} (hb:β.getD b none=some bi) (hv:v<=bi.v) (hc:n<=c)
    (h:v=bi.v->(0<c->a=some ⟨bi.r,o*bi.k,none⟩) /\ ∃ cs T,w.heap[bi.r]?=some (.cells cs T (0,0)) /\ (o+c)*bi.k<=cs.size):Rel w N β (.ref b v o n) (.slice a n c)
 | ptr {b v i j:Nat} {bi:BI} {a:Addr} (hb:β.getD b none=some bi) (hv:v<=bi.v) (h:v=bi.v->a=⟨bi.r,i*bi.k+j,none⟩):Rel w N β (.ptr b v i j) (.pointer (some a))
 | yield {l:Nat} {bi:BI} (hb:β.getD l none=some bi) (hk:bi.k=0):Rel w N β (.yield l) (.func (.yield bi.r) #[] #[])
structure Fr (w:World) (L:Nat->Prop) (β:z13) (w':World) (L':Nat->Prop) (β':z13):Prop where
 os:w'.os=w.os
 tape:w'.tape=w.tape
 output:w'.output=w.output
 size:w.heap.size<=w'.heap.size
 same:∀ r:Nat,r<w.heap.size->¬ L r->w'.heap[r]?=w.heap[r]?
 csz:∀ (r:Nat) cs T,w.heap[r]?=some (.cells cs T (0,0))->∃ cs',w'.heap[r]?=some (.cells cs' T (0,0)) /\ cs'.size=cs.size
 live:∀ r,L' r->r<w.heap.size->L r
 ext:∀ b bi,β.getD b none=some bi->∃ bi',β'.getD b none=some bi' /\ bi'.k=bi.k /\ ((bi'.r=bi.r /\ bi'.v=bi.v) \/ (0<bi.k /\ bi.v<bi'.v))
theorem Fr.refl (w:World) (L:Nat->Prop) (β:z13):Fr w L β w L β :=
 ⟨rfl,rfl,rfl,Nat.le_refl _,fun _ _ _=>rfl,fun _ cs _ h=>⟨cs,h,rfl⟩,fun _ h _=>h,fun _ bi h=>⟨bi,h,rfl,.inl ⟨rfl,rfl⟩⟩⟩
theorem Fr.trans {w w' w'':World} {L L' L'':Nat->Prop} {β β' β'':z13} (h:Fr w L β w' L' β') (g:Fr w' L' β' w'' L'' β''):Fr w L β w'' L'' β'' where
 os:=g.os.trans h.os
 tape:=g.tape.trans h.tape
 output:=g.output.trans h.output
 size:=Nat.le_trans h.size g.size
 same r hr hL:=(g.same r (Nat.lt_of_lt_of_le hr h.size) (fun h'=>hL (h.live r h' hr))).trans (h.same r hr hL)
 csz r cs T hc:=by
  obtain ⟨cs',h1,h2⟩:=h.csz r cs T hc;obtain ⟨cs'',h3,h4⟩:=g.csz r cs' T h1;exact ⟨cs'',h3,h4.trans h2⟩
 live r hL hr:=h.live r (g.live r hL (Nat.lt_of_lt_of_le hr h.size)) hr
 ext b bi hb:=by
  obtain ⟨bi',h1,hk,h2⟩:=h.ext b bi hb;obtain ⟨bi'',h3,hk',h4⟩:=g.ext b bi' h1;refine ⟨bi'',h3,hk'.trans hk,?_⟩;rcases h2 with ⟨a,c⟩ | ⟨a,c⟩ <;> rcases h4 with ⟨a',c'⟩ | ⟨a',c'⟩
  · exact .inl ⟨a'.trans a,c'.trans c⟩
  · exact .inr ⟨by omega,by omega⟩
  · exact .inr ⟨a,by omega⟩
  · exact .inr ⟨a,by omega⟩
theorem z1n {w w':World} {b o:Nat} (h:w'.heap[b]?=w.heap[b]?):w'.cell? ⟨b,o,none⟩=w.cell? ⟨b,o,none⟩:=by
 unfold World.cell?;simp only [h]
theorem RelI.mono {w w':World} {N N':Nat->Prop} (hs:w.heap.size<=w'.heap.size) (hsame:∀ r:Nat,r<w.heap.size->¬ N r->w'.heap[r]?=w.heap[r]?)
 (hN:∀ r,r<w.heap.size->N' r->N r) {x:AV} {v:Value} (h:RelI w N x v):RelI w' N' x v:=by
 induction h with
 | bool b=>exact .bool b
 | int k n=>exact .int k n
 | str s=>exact .str s
 | undef v=>exact .undef v
 | nilPtr=>exact .nilPtr
 | nilFunc=>exact .nilFunc
 | nilIface=>exact .nilIface
 | nilMap=>exact .nilMap
 | agg h hc ih=>exact .agg h ih
 | tup h hc ih=>exact .tup h ih
 | @rows l a c k u hc hk ha hu hr ih =>
   refine .rows (k:=k) (u:=u) hc hk (fun h0=>?_) (fun ad i row j x h1 h2 h3=>?_) ih
   · obtain ⟨ad,e,s,n,lt⟩:=ha h0;exact ⟨ad,e,s,fun h'=>n (hN _ lt h'),Nat.lt_of_lt_of_le lt hs⟩
   · have h0:0<l.length:=by have:=(zG.1 h2).1;omega
     obtain ⟨ad',e,_,n,lt⟩:=ha h0;rw [e] at h1;cases h1;rw [z1n (hsame _ lt n)];exact hu _ i row j x e h2 h3
 | @crows l a k u hk ha hu hr ih =>
   refine .crows (k:=k) (u:=u) hk (fun h0=>?_) (fun ad i row j x h1 h2 h3=>?_) ih
   · obtain ⟨ad,e,s,n,lt⟩:=ha h0;exact ⟨ad,e,s,fun h'=>n (hN _ lt h'),Nat.lt_of_lt_of_le lt hs⟩
   · have h0:0<l.length:=by have:=(zG.1 h2).1;omega
     obtain ⟨ad',e,_,n,lt⟩:=ha h0;rw [e] at h1;cases h1;rw [z1n (hsame _ lt n)];exact hu _ i row j x e h2 h3
 | @iptr l j b o u n lt hu hr ih =>
   exact .iptr (u:=u) (fun h'=>n (hN _ lt h')) (Nat.lt_of_lt_of_le lt hs) (fun i x h=>by rw [z1n (hsame _ lt n)];exact hu i x h) ih
 | fn h hc h' hc' ih ih'=>exact .fn h ih h' ih'
 | iface t h ih=>exact .iface t ih
theorem Rel.mono {w w':World} {N N':Nat->Prop} {β β':z13} (hs:w.heap.size<=w'.heap.size) (hsame:∀ r:Nat,r<w.heap.size->¬ N r->w'.heap[r]?=w.heap[r]?)
 (hN:∀ r,r<w.heap.size->N' r->N r)
 (hcsz:∀ (r:Nat) cs T,w.heap[r]?=some (.cells cs T (0,0))->∃ cs',w'.heap[r]?=some (.cells cs' T (0,0)) /\ cs'.size=cs.size)
 (hext:∀ b bi,β.getD b none=some bi->∃ bi',β'.getD b none=some bi' /\ bi'.k=bi.k /\ ((bi'.r=bi.r /\ bi'.v=bi.v) \/ (0<bi.k /\ bi.v<bi'.v)))
 {x:AV} {v:Value} (h:Rel w N β x v):Rel w' N' β' x v:=by
 induction h with
 | imm h=>exact .imm (h.mono hs hsame hN)
 | agg h hc ih=>exact .agg h ih
 | tup h hc ih=>exact .tup h ih
 | fn h hc h' hc' ih ih'=>exact .fn h ih h' ih'
 | iface t h ih=>exact .iface t ih
 | @ref b v o n c bi a hb hv hc h =>
   obtain ⟨bi',hb',hk,h'⟩:=hext b bi hb;rcases h' with ⟨e1,e2⟩ | ⟨e1,e2⟩
   · refine .ref hb' (by omega) hc (fun e=>?_);obtain ⟨ha,cs,T,h1,h2⟩:=h (by omega);obtain ⟨cs',h3,h4⟩:=hcsz _ cs T h1;exact ⟨fun hc0=>by rw [ha hc0,e1,hk],cs',T,by rw [e1];exact h3,by rw [hk,h4];exact h2⟩
   · exact .ref hb' (by omega) hc (fun e=>by omega)
 | @ptr b v i j bi a hb hv h =>
   obtain ⟨bi',hb',hk,h'⟩:=hext b bi hb;rcases h' with ⟨e1,e2⟩ | ⟨e1,e2⟩
   · exact .ptr hb' (by omega) (fun e=>by rw [h (by omega),e1,hk])
   · exact .ptr hb' (by omega) (fun e=>by omega)
 | @yield l bi hb hk =>
   obtain ⟨bi',hb',hk',h'⟩:=hext l bi hb;rcases h' with ⟨e1,e2⟩ | ⟨e1,e2⟩
   · have:=Rel.yield (w:=w') (N:=N') hb' (by omega);rw [e1] at this;exact this
   · omega
theorem Rel.fr {w w':World} {X L L':Nat->Prop} {β β':z13} (f:Fr w L β w' L' β') {x:AV} {v:Value} (h:Rel w (fun r=>X r \/ L r) β x v):Rel w' (fun r=>X r \/ L' r) β' x v :=
 h.mono f.size (fun r hr hn=>f.same r hr (fun hl=>hn (.inr hl))) (fun r hr hn=>hn.imp id (fun hl=>f.live r hl hr)) f.csz f.ext
def liveB:AO->Bool
 | .blk _ _ l _=>l
 | .loop ..=>true
 | .dfr _=>true
 | .none=>false
def zn (β:z13) (H:List AO) (r:Nat):Prop:=∃ b bi,β.getD b none=some bi /\ liveB (H.getD b .none)=true /\ bi.r=r
def ObjRel (w:World) (N:Nat->Prop) (β:z13) (bi:BI):AO->Prop
 | .none=>True
 | .blk k v l rows=>bi.k=k /\ bi.v=v /\ 0<k /\ (l=false->¬ N bi.r) /\ ∃ cs T,w.heap[bi.r]?=some (.cells cs T (0,0)) /\ rows.length*k<=cs.size /\
    (∀ (i:Nat) row,rows[i]?=some row->row.length=k) /\ (∀ (i:Nat) row (j:Nat) x u,rows[i]?=some row->row[j]?=some x->cs[i*k+j]?=some u->Rel w N β x u)
 | .loop s p tm ps as bd d=>bi.k=0 /\ bi.v=0 /\ ∃ L:Loop,w.heap[bi.r]?=some (.loop L) /\ L.state=s /\ L.pending=p /\ L.params.toList=ps /\ L.assign=as /\ L.body=bd /\ L.tmps.size=tm.length /\
    (∀ (i:Nat) x u,tm[i]?=some x->L.tmps[i]?=some u->Rel w N β x u) /\ ∃ bj,β.getD d none=some bj /\ bj.k=0 /\ L.defers=bj.r
 | .dfr op=>bi.k=0 /\ bi.v=0 /\ w.heap[bi.r]?=some (.deferred (if op then some [] else none))
structure HRel (w:World) (X:Nat->Prop) (β:z13) (H:List AO):Prop where
 len:β.length=H.length
 xlt:∀ r,X r->r<w.heap.size
 obj:∀ b bi,β.getD b none=some bi->ObjRel w (fun r=>X r \/ zn β H r) β bi (H.getD b .none)
 inj:∀ b b' bi bi',β.getD b none=some bi->β.getD b' none=some bi'->liveB (H.getD b .none)=true->liveB (H.getD b' .none)=true->bi.r=bi'.r->b=b'
 lx:∀ b bi,β.getD b none=some bi->liveB (H.getD b .none)=true->¬ X bi.r
 has:∀ b,H.getD b .none≠.none->∃ bi,β.getD b none=some bi
theorem ObjRel.lt {w:World} {N:Nat->Prop} {β:z13} {bi:BI} {o:AO} (h:ObjRel w N β bi o) (hl:liveB o=true):bi.r<w.heap.size:=by
 cases o with
 | none=>simp [liveB] at hl
 | blk k v l rows=>obtain ⟨_,_,_,_,cs,T,h1,_⟩:=h;exact (Array.getElem?_eq_some_iff.1 h1).1
 | loop s p tm ps as bd d=>obtain ⟨_,_,L,h1,_⟩:=h;exact (Array.getElem?_eq_some_iff.1 h1).1
 | dfr op=>obtain ⟨_,_,h1⟩:=h;exact (Array.getElem?_eq_some_iff.1 h1).1
theorem ObjRel.lt' {w:World} {N:Nat->Prop} {β:z13} {bi:BI} {o:AO} (h:ObjRel w N β bi o) (hl:o≠.none):bi.r<w.heap.size:=by
 cases o with
 | none=>exact absurd rfl hl
 | blk k v l rows=>obtain ⟨_,_,_,_,cs,T,h1,_⟩:=h;exact (Array.getElem?_eq_some_iff.1 h1).1
 | loop s p tm ps as bd d=>obtain ⟨_,_,L,h1,_⟩:=h;exact (Array.getElem?_eq_some_iff.1 h1).1
 | dfr op=>obtain ⟨_,_,h1⟩:=h;exact (Array.getElem?_eq_some_iff.1 h1).1
theorem HRel.live_lt {w:World} {X:Nat->Prop} {β:z13} {H:List AO} (h:HRel w X β H) {r:Nat} (hl:zn β H r):r<w.heap.size:=by
 obtain ⟨b,bi,hb,hl,rfl⟩:=hl;exact (h.obj b bi hb).lt hl
theorem ObjRel.keep {w w':World} {X L L':Nat->Prop} {β β':z13} (f:Fr w L β w' L' β') {bi:BI} {o:AO} (hw:w'.heap[bi.r]?=w.heap[bi.r]?)
 (h:ObjRel w (fun r=>X r \/ L r) β bi o):ObjRel w' (fun r=>X r \/ L' r) β' bi o:=by
 cases o with
 | none=>trivial
 | blk k v l rows =>
   obtain ⟨h1,h2,h3,h4,cs,T,h5,h6,h7,h8⟩:=h;have hlt:=(Array.getElem?_eq_some_iff.1 h5).1;exact ⟨h1,h2,h3,fun e hn=>h4 e (hn.imp id (fun hl=>f.live _ hl hlt)),cs,T,hw.trans h5,h6,h7,fun i row j x u a b c=>(h8 i row j x u a b c).fr f⟩
 | loop s p tm ps as bd d =>
   obtain ⟨h1,h2,L,h3,h4,h5,h6,h7,h8,h9,h10,bj,h11,h12,h13⟩:=h;obtain ⟨bj',g1,g2,g3⟩:=f.ext d bj h11;refine ⟨h1,h2,L,hw.trans h3,h4,h5,h6,h7,h8,h9,fun i x u a b=>(h10 i x u a b).fr f,bj',g1,by omega,?_⟩;rcases g3 with ⟨e,_⟩ | ⟨e,_⟩
   · rw [e];exact h13
   · omega
 | dfr op=>exact ⟨h.1,h.2.1,hw.trans h.2.2⟩
end Clk
namespace Clk
open Go
abbrev NN (X:Nat->Prop) (β:z13) (H:List AO):Nat->Prop:=fun r=>X r \/ zn β H r
theorem HRel.upd {w w':World} {X:Nat->Prop} {β β':z13} {H H':List AO} {b:Nat} {bi':BI} {o':AO} (h:HRel w X β H)
 (hos:w'.os=w.os) (htp:w'.tape=w.tape) (hout:w'.output=w.output) (hsz:w.heap.size<=w'.heap.size)
 (hH:∀ c,c≠b->H'.getD c .none=H.getD c .none) (hHb:H'.getD b .none=o') (hlen:β'.length=H'.length)
 (hB:∀ c,c≠b->β'.getD c none=β.getD c none) (hBb:β'.getD b none=some bi')
 (hl:liveB o'=true)
 (hold:(w.heap.size<=bi'.r /\ (∀ r,r<w.heap.size->w'.heap[r]?=w.heap[r]?) /\ (β.getD b none=none \/ ∃ bi,β.getD b none=some bi /\ bi'.k=bi.k /\ 0<bi.k /\ bi.v<bi'.v))
  \/ (∃ bi,β.getD b none=some bi /\ liveB (H.getD b .none)=true /\ bi'.r=bi.r /\ bi'.k=bi.k /\ (bi'.v=bi.v \/ (0<bi.k /\ bi.v<bi'.v)) /\ (∀ r:Nat,r<w.heap.size->r≠bi.r->w'.heap[r]?=w.heap[r]?) /\
   (∀ cs T,w.heap[bi.r]?=some (.cells cs T (0,0))->∃ cs',w'.heap[bi.r]?=some (.cells cs' T (0,0)) /\ cs'.size=cs.size)))
 (hobj:(∀ x u,Rel w (NN X β H) β x u->Rel w' (NN X β' H') β' x u)->Fr w (zn β H) β w' (zn β' H') β'->ObjRel w' (NN X β' H') β' bi' o') :
 HRel w' X β' H' /\ Fr w (zn β H) β w' (zn β' H') β':=by
 have f:Fr w (zn β H) β w' (zn β' H') β':=by
  refine ⟨hos,htp,hout,hsz,fun r hr hn=>?_,fun r cs T hc=>?_,fun r hL hr=>?_,fun c bi hc=>?_⟩
  · rcases hold with ⟨_,hs,_⟩ | ⟨bi,hbi,hlv,e,_,_,hs,_⟩
    · exact hs r hr
    · exact hs r hr (fun e'=>hn ⟨b,bi,hbi,hlv,e'.symm⟩)
  · have hr:=(Array.getElem?_eq_some_iff.1 hc).1;rcases hold with ⟨_,hs,_⟩ | ⟨bi,hbi,hlv,e,_,_,hs,hc'⟩
    · exact ⟨cs,(hs r hr).trans hc,rfl⟩
    · by_cases e':r=bi.r
      · subst e';exact hc' cs T hc
      · exact ⟨cs,(hs r hr e').trans hc,rfl⟩
  · obtain ⟨c,bi,hc,hlv,rfl⟩:=hL;by_cases e:c=b
    · subst e;rw [hBb] at hc;cases hc;rcases hold with ⟨h1,_,_⟩ | ⟨bi,hbi,hlv',e,_⟩
      · omega
      · exact ⟨c,bi,hbi,hlv',e.symm⟩
    · exact ⟨c,bi,(hB c e)▸hc,(hH c e)▸hlv,rfl⟩
  · by_cases e:c=b
    · subst e;refine ⟨bi',hBb,?_⟩;rcases hold with ⟨_,_,h1 | ⟨bj,h1,h2,h3,h4⟩⟩ | ⟨bj,hbi,hlv',e,ek,ev,_⟩
      · rw [h1] at hc;cases hc
      · rw [h1] at hc;cases hc;exact ⟨h2,.inr ⟨h3,h4⟩⟩
      · rw [hbi] at hc;cases hc;exact ⟨ek,ev.imp (fun h=>⟨e,h⟩) id⟩
    · exact ⟨bi,(hB c e).trans hc,rfl,.inl ⟨rfl,rfl⟩⟩
 have ho:=hobj (fun x u hx=>hx.fr f) f;refine ⟨⟨hlen,fun r hr=>Nat.lt_of_lt_of_le (h.xlt r hr) hsz,fun c bi hc=>?_,fun c c' bi bj hc hc' l l' e=>?_,fun c bi hc l=>?_,fun c hc=>?_⟩,f⟩
 · by_cases e:c=b
   · subst e;rw [hBb] at hc;cases hc;rw [hHb];exact ho
   · have hc0:=hc;rw [hB c e] at hc0;have hob:=h.obj c bi hc0;rw [hH c e];by_cases en:H.getD c .none=.none
     · rw [en];trivial
     · refine ObjRel.keep f ?_ hob;have hlt:=hob.lt' en;rcases hold with ⟨_,hs,_⟩ | ⟨bj,hbj,hlv,_,_,_,hs,_⟩
       · exact hs _ hlt
       · refine hs _ hlt (fun e'=>?_);by_cases hlc:liveB (H.getD c .none)=true
         · exact e (h.inj c b bi bj hc0 hbj hlc hlv e')
         · cases ho':H.getD c .none with
           | none=>exact en ho'
           | blk k v l rows =>
             rw [ho'] at hob hlc;simp only [liveB,Bool.not_eq_true] at hlc;exact hob.2.2.2.1 hlc (.inr ⟨b,bj,hbj,hlv,e'.symm⟩)
           | loop=>rw [ho'] at hlc;simp [liveB] at hlc
           | dfr=>rw [ho'] at hlc;simp [liveB] at hlc
 · have other:∀ d bd,d≠b->β'.getD d none=some bd->liveB (H'.getD d .none)=true->bd.r≠bi'.r:=by
    intro d bd hd hbd hld er;rw [hB d hd] at hbd;rw [hH d hd] at hld;rcases hold with ⟨h1,_,_⟩ | ⟨bk,hbk,hlv,e1,_⟩
    · have:=(h.obj d bd hbd).lt hld;omega
    · exact hd (h.inj d b bd bk hbd hbk hld hlv (er.trans e1))
   by_cases e1:c=b <;> by_cases e2:c'=b
   · rw [e1,e2]
   · subst e1;rw [hBb] at hc;cases hc;exact absurd e.symm (other c' bj e2 hc' l')
   · subst e2;rw [hBb] at hc';cases hc';exact absurd e (other c bi e1 hc l)
   · rw [hB c e1] at hc;rw [hB c' e2] at hc';rw [hH c e1] at l;rw [hH c' e2] at l';exact h.inj c c' bi bj hc hc' l l' e
 · by_cases e:c=b
   · subst e;rw [hBb] at hc;cases hc;rcases hold with ⟨h1,_,_⟩ | ⟨bj,hbj,hlv,e1,_⟩
     · exact fun hx=>by have:=h.xlt _ hx;omega
     · rw [e1];exact h.lx c bj hbj hlv
   · rw [hB c e] at hc;rw [hH c e] at l;exact h.lx c bi hc l
 · by_cases e:c=b
   · subst e;exact ⟨bi',hBb⟩
   · rw [hH c e] at hc;obtain ⟨bi,hbi⟩:=h.has c hc;exact ⟨bi,(hB c e).trans hbi⟩
def z40 (β:z13) (H:List AO) (slot:Nat):Prop:=slot=H.length \/ (slot<H.length /\ β.getD slot none=none)
def setB (β:z13) (slot:Nat) (bi:BI):z13:=if slot<β.length then β.set slot (some bi) else β++[some bi]
theorem z06 {α:Type} (l:List α) (i j:Nat) (x d:α) (hi:i<l.length):(l.set i x).getD j d=if j=i then x else l.getD j d:=by
 simp only [zI,List.getElem?_set];by_cases e:i=j
 · subst e;simp [hi]
 · simp [e,Ne.symm e]
theorem z2j {α:Type} (l:List α) (j:Nat) (x d:α):(l++[x]).getD j d=if j=l.length then x else l.getD j d:=by
 simp only [zI,List.getElem?_append];by_cases e:j<l.length
 · have:j≠l.length:=by omega
   simp [e,this]
 · by_cases e2:j=l.length
   · simp [e2]
   · have h1:1<=j - l.length:=by omega
     rw [if_neg e,if_neg e2];simp [List.getElem?_eq_none (show l.length<=j by omega),List.getElem?_eq_none (show [x].length<=j - l.length by simpa using h1)]
theorem zc7 {β:z13} {slot:Nat} {bi:BI} (h:slot<=β.length) (c:Nat):(setB β slot bi).getD c none=if c=slot then some bi else β.getD c none:=by
 unfold setB;by_cases e:slot<β.length
 · rw [if_pos e,z06 _ _ _ _ _ e]
 · have:slot=β.length:=by omega
   rw [if_neg e,z2j,this]
theorem zlo {H:List AO} {slot:Nat} {o:AO} (h:slot<=H.length) (c:Nat):(zi H (some (slot,o))).getD c .none=if c=slot then o else H.getD c .none:=by
 unfold zi;by_cases e:slot<H.length
 · simp only [e,if_true];rw [z06 _ _ _ _ _ e]
 · have:slot=H.length:=by omega
   simp only [e,if_false];rw [z2j,this]
theorem zyw {β:z13} {H:List AO} {slot:Nat} {bi:BI} {o:AO} (hl:β.length=H.length) (h:slot<=H.length):(setB β slot bi).length=(zi H (some (slot,o))).length:=by
 unfold setB zi;by_cases e:slot<H.length
 · simp [e,hl]
 · simp [e,hl]
theorem HRel.new {w w':World} {X:Nat->Prop} {β:z13} {H:List AO} {slot k:Nat} {rows:List (List AV)} {cs:Array Value} {T:TypeId} (h:HRel w X β H) (hf:z40 β H slot)
 (hos:w'.os=w.os) (htp:w'.tape=w.tape) (hout:w'.output=w.output) (hw:w'.heap=w.heap.push (.cells cs T))
 (hk:0<k) (hlen:rows.length*k<=cs.size) (hrow:∀ (i:Nat) row,rows[i]?=some row->row.length=k)
 (hcell:∀ (i:Nat) row (j:Nat) x u,rows[i]?=some row->row[j]?=some x->cs[i*k+j]?=some u->Rel w (NN X β H) β x u) :
 HRel w' X (setB β slot ⟨w.heap.size,k,0⟩) (zi H (some (slot,.blk k 0 true rows))) /\
 Fr w (zn β H) β w' (zn (setB β slot ⟨w.heap.size,k,0⟩) (zi H (some (slot,.blk k 0 true rows)))) (setB β slot ⟨w.heap.size,k,0⟩):=by
 have hs:slot<=H.length:=by rcases hf with h | h <;> omega
 have hs':slot<=β.length:=by rw [h.len];exact hs
 have hnone:β.getD slot none=none:=by
  rcases hf with e | ⟨_,e⟩
  · simp only [zI];rw [List.getElem?_eq_none (by rw [h.len];omega)];rfl
  · exact e
 refine h.upd (b:=slot) (bi':=⟨w.heap.size,k,0⟩) (o':=.blk k 0 true rows) hos htp hout (by rw [hw];simp) (fun c hc=>by rw [zlo hs];simp [hc]) (by rw [zlo hs];simp) (zyw h.len hs)
  (fun c hc=>by rw [zc7 hs'];simp [hc]) (by rw [zc7 hs'];simp) rfl (.inl ⟨Nat.le_refl _,fun r hr=>by rw [hw,Array.getElem?_push];simp [Nat.ne_of_lt hr],.inl hnone⟩) ?_
 intro htr _;exact ⟨rfl,rfl,hk,fun e=>by simp at e,cs,T,by rw [hw];simp,hlen,hrow,fun i row j x u a b c=>htr _ _ (hcell i row j x u a b c)⟩
theorem HRel.write {w w':World} {X:Nat->Prop} {β:z13} {H:List AO} {b k v:Nat} {rows rows':List (List AV)} {cs cs':Array Value} {T:TypeId} {bi:BI} (h:HRel w X β H)
 (hb:β.getD b none=some bi) (hH:H.getD b .none=.blk k v true rows)
 (hos:w'.os=w.os) (htp:w'.tape=w.tape) (hout:w'.output=w.output) (hsz:w'.heap.size=w.heap.size)
 (hc:w.heap[bi.r]?=some (.cells cs T (0,0))) (hw:w'.heap[bi.r]?=some (.cells cs' T (0,0))) (hother:∀ r:Nat,r≠bi.r->w'.heap[r]?=w.heap[r]?) (hcs:cs'.size=cs.size)
 (hlen:rows'.length*k<=cs.size) (hrow:∀ (i:Nat) row,rows'[i]?=some row->row.length=k)
 (hcell:∀ (i:Nat) row (j:Nat) x u,rows'[i]?=some row->row[j]?=some x->cs'[i*k+j]?=some u->Rel w (NN X β H) β x u)  :
 HRel w' X β (H.set b (.blk k v true rows')) /\ Fr w (zn β H) β w' (zn β (H.set b (.blk k v true rows'))) β:=by
 have hlt:b<H.length:=by
  rcases Nat.lt_or_ge b H.length with h | h
  · exact h
  · simp [zI,List.getElem?_eq_none h] at hH
 have hob:=h.obj b bi hb;rw [hH] at hob;obtain ⟨e1,e2,e3,e4,_⟩:=hob;refine h.upd (b:=b) (bi':=bi) (o':=.blk k v true rows') hos htp hout (by rw [hsz];exact Nat.le_refl _) (fun c hc=>by rw [z06 _ _ _ _ _ hlt];simp [hc]) (by rw [z06 _ _ _ _ _ hlt];simp) (by simp [h.len])
  (fun _ _=>rfl) hb rfl (.inr ⟨bi,hb,by rw [hH];rfl,rfl,rfl,.inl rfl,fun r _ hr=>hother r hr,fun cs2 T2 h2=>⟨cs',by rw [hc] at h2;cases h2;exact hw,by rw [hc] at h2;cases h2;exact hcs⟩⟩) ?_
 intro htr _;exact ⟨e1,e2,e3,fun e=>by simp at e,cs',T,hw,by rw [hcs];exact hlen,hrow,fun i row j x u a b c=>htr _ _ (hcell i row j x u a b c)⟩
theorem HRel.grow {w w':World} {X:Nat->Prop} {β:z13} {H:List AO} {b k v:Nat} {rows rows':List (List AV)} {cs cs':Array Value} {T:TypeId} {bi:BI} (h:HRel w X β H)
 (hb:β.getD b none=some bi) (hH:H.getD b .none=.blk k v true rows)
 (hos:w'.os=w.os) (htp:w'.tape=w.tape) (hout:w'.output=w.output) (hsz:w'.heap.size=w.heap.size)
 (hc:w.heap[bi.r]?=some (.cells cs T (0,0))) (hw:w'.heap[bi.r]?=some (.cells cs' T (0,0))) (hother:∀ r:Nat,r≠bi.r->w'.heap[r]?=w.heap[r]?) (hcs:cs'.size=cs.size)
 (hlen:rows'.length*k<=cs.size) (hrow:∀ (i:Nat) row,rows'[i]?=some row->row.length=k)
 (hcell:∀ (i:Nat) row (j:Nat) x u,rows'[i]?=some row->row[j]?=some x->cs'[i*k+j]?=some u->Rel w (NN X β H) β x u)  :
 HRel w' X (β.set b (some ⟨bi.r,k,v+1⟩)) (H.set b (.blk k (v+1) true rows')) /\ Fr w (zn β H) β w' (zn (β.set b (some ⟨bi.r,k,v+1⟩)) (H.set b (.blk k (v+1) true rows'))) (β.set b (some ⟨bi.r,k,v+1⟩)):=by
 have hlt:b<H.length:=by
  rcases Nat.lt_or_ge b H.length with h | h
  · exact h
  · simp [zI,List.getElem?_eq_none h] at hH
 have hlt':b<β.length:=by rw [h.len];exact hlt
 have hob:=h.obj b bi hb;rw [hH] at hob;obtain ⟨e1,e2,e3,e4,_⟩:=hob;refine h.upd (b:=b) (bi':=⟨bi.r,k,v+1⟩) (o':=.blk k (v+1) true rows') hos htp hout (by rw [hsz];exact Nat.le_refl _) (fun c hc=>by rw [z06 _ _ _ _ _ hlt];simp [hc]) (by rw [z06 _ _ _ _ _ hlt];simp) (by simp [h.len])
  (fun c hc=>by rw [z06 _ _ _ _ _ hlt'];simp [hc]) (by rw [z06 _ _ _ _ _ hlt'];simp) rfl (.inr ⟨bi,hb,by rw [hH];rfl,rfl,e1.symm,.inr ⟨by omega,by show bi.v<v+1;omega⟩,fun r _ hr=>hother r hr,fun cs2 T2 h2=>⟨cs',by rw [hc] at h2;cases h2;exact hw,by rw [hc] at h2;cases h2;exact hcs⟩⟩) ?_
 intro htr _;exact ⟨rfl,rfl,e3,fun e=>by simp at e,cs',T,hw,by rw [hcs];exact hlen,hrow,fun i row j x u a b c=>htr _ _ (hcell i row j x u a b c)⟩
theorem HRel.regrow {w w':World} {X:Nat->Prop} {β:z13} {H:List AO} {b k v:Nat} {rows rows':List (List AV)} {cs':Array Value} {T:TypeId} {bi:BI} (h:HRel w X β H)
 (hb:β.getD b none=some bi) (hH:H.getD b .none=.blk k v true rows)
 (hos:w'.os=w.os) (htp:w'.tape=w.tape) (hout:w'.output=w.output) (hw:w'.heap=w.heap.push (.cells cs' T))
 (hlen:rows'.length*k<=cs'.size) (hrow:∀ (i:Nat) row,rows'[i]?=some row->row.length=k)
 (hcell:∀ (i:Nat) row (j:Nat) x u,rows'[i]?=some row->row[j]?=some x->cs'[i*k+j]?=some u->Rel w (NN X β H) β x u)  :
 HRel w' X (β.set b (some ⟨w.heap.size,k,v+1⟩)) (H.set b (.blk k (v+1) true rows')) /\ Fr w (zn β H) β w' (zn (β.set b (some ⟨w.heap.size,k,v+1⟩)) (H.set b (.blk k (v+1) true rows'))) (β.set b (some ⟨w.heap.size,k,v+1⟩)):=by
 have hlt:b<H.length:=by
  rcases Nat.lt_or_ge b H.length with h | h
  · exact h
  · simp [zI,List.getElem?_eq_none h] at hH
 have hlt':b<β.length:=by rw [h.len];exact hlt
 have hob:=h.obj b bi hb;rw [hH] at hob;obtain ⟨e1,e2,e3,e4,_⟩:=hob;refine h.upd (b:=b) (bi':=⟨w.heap.size,k,v+1⟩) (o':=.blk k (v+1) true rows') hos htp hout (by rw [hw];simp) (fun c hc=>by rw [z06 _ _ _ _ _ hlt];simp [hc]) (by rw [z06 _ _ _ _ _ hlt];simp) (by simp [h.len])
  (fun c hc=>by rw [z06 _ _ _ _ _ hlt'];simp [hc]) (by rw [z06 _ _ _ _ _ hlt'];simp) rfl (.inl ⟨Nat.le_refl _,fun r hr=>by rw [hw,Array.getElem?_push];simp [Nat.ne_of_lt hr],.inr ⟨bi,hb,e1.symm,by omega,by show bi.v<v+1;omega⟩⟩) ?_
 intro htr _;exact ⟨rfl,rfl,e3,fun e=>by simp at e,cs',T,by rw [hw];simp,hlen,hrow,fun i row j x u a b c=>htr _ _ (hcell i row j x u a b c)⟩
def z2c (w:World) (N:Nat->Prop) (β:z13) (t:List AV) (ts:Array Value):Prop :=
 ts.size=t.length /\ ∀ (i:Nat) x u,t[i]?=some x->ts[i]?=some u->Rel w N β x u
theorem z2c.fr {w w':World} {X L L':Nat->Prop} {β β':z13} (f:Fr w L β w' L' β') {t:List AV} {ts:Array Value} (h:z2c w (fun r=>X r \/ L r) β t ts):z2c w' (fun r=>X r \/ L' r) β' t ts :=
 ⟨h.1,fun i x u a b=>(h.2 i x u a b).fr f⟩
theorem z2c.put {w:World} {N:Nat->Prop} {β:z13} {t:List AV} {a:Act} {dst:Option Tmp} {x:AV} {u:Value} (h:z2c w N β t a.tmps) (hx:Rel w N β x u):z2c w N β (ziy t dst x) (a.put dst u).tmps:=by
 cases dst with
 | none=>exact h
 | some d =>
   refine ⟨by simp [Act.put,ziy,h.1],fun i y v h1 h2=>?_⟩;simp only [ziy] at h1;simp only [Act.put] at h2;rw [List.getElem?_set] at h1;rw [Array.getElem?_setIfInBounds] at h2;by_cases e:d=i
   · subst e;simp only [if_true] at h1 h2;split at h1
     · cases h1;split at h2 <;> first | (cases h2;exact hx) | (cases h2)
     · cases h1
   · simp only [e,if_false] at h1 h2;exact h.2 i y v h1 h2
theorem zri (w:World) (N:Nat->Prop) (v:Value):RelI w N (avLeaf v) v:=by
 unfold avLeaf;split
 · exact .bool _
 · exact .int _ _
 · exact .str _
 · exact .nilPtr
 · exact RelI.crows (l:=[]) (k:=0) (u:=fun _ _=>undef) (fun i row h=>by simp at h) (fun h=>by simp at h) (fun ad i row j x _ h=>by simp at h) (fun i row j x h=>by simp at h)
 · exact .nilMap
 · exact .nilFunc
 · exact .nilIface
 · split
   · rename_i f first cap h
     exact .fn (l:=[]) (m:=[]) h.1 (fun i a v h=>by simp at h) h.2 (fun i a v h=>by simp at h)
   · exact .undef _
 · exact .undef _
theorem z017 (w:World) (N:Nat->Prop) (v:Value):RelI w N (avOf v) v:=by
 unfold avOf;split
 · rename_i cs;refine .agg (by simp) (fun i a v h1 h2=>?_);rw [List.getElem?_map] at h1;have h3:cs.toList[i]?=some v:=by rw [Array.getElem?_toList];exact h2
   rw [h3] at h1;simp at h1;subst h1;exact zri w N v
 · split
   · rename_i cs h;exact .tup (l:=[]) h (fun i a v h=>by simp at h)
   · exact .undef _
 · exact zri w N _
theorem zp {w:World} {N:Nat->Prop} {β:z13} {t:List AV} {a:Act} (h:z2c w N β t a.tmps) (x:Operand):Rel w N β (opd t x) (a.eval x):=by
 cases x with
 | tmp i =>
   simp only [opd,Act.eval];rw [zI];show Rel w N β _ (a.tmps.getD i undef);rw [Array.getD_eq_getD_getElem?];cases h1:t[i]? with
   | none =>
     have h2:a.tmps[i]?=none:=by
      rw [Array.getElem?_eq_none_iff,h.1];exact List.getElem?_eq_none_iff.1 h1
     rw [h2];exact .imm (.tup (l:=[]) rfl (fun i a v h=>by simp at h))
   | some y =>
     have hlt:=(zG.1 h1).1;have h2:a.tmps[i]?=some (a.tmps[i]'(by rw [h.1];exact hlt)):=Array.getElem?_eq_getElem _;rw [h2];exact h.2 i _ _ h1 h2
 | const v=>exact .imm (z017 w N v)
 | global g=>exact .imm (.undef _)
 | func f=>exact .imm (.fn (l:=[]) (m:=[]) rfl (fun i a v h=>by simp at h) rfl (fun i a v h=>by simp at h))
section
variable {w:World} {X:Nat->Prop} {β:z13} {H:List AO}
theorem HRel.ext {w':World} (h:HRel w X β H) (hs:w.heap.size<=w'.heap.size) (hsame:∀ r:Nat,r<w.heap.size->w'.heap[r]?=w.heap[r]?)
 (hos:w'.os=w.os) (htp:w'.tape=w.tape) (hout:w'.output=w.output):HRel w' X β H /\ Fr w (zn β H) β w' (zn β H) β:=by
 have f:Fr w (zn β H) β w' (zn β H) β :=
  ⟨hos,htp,hout,hs,fun r hr _=>hsame r hr,fun r cs T hc=>⟨cs,(hsame r (Array.getElem?_eq_some_iff.1 hc).1).trans hc,rfl⟩,fun _ h _=>h,fun b bi h=>⟨bi,h,rfl,.inl ⟨rfl,rfl⟩⟩⟩
 refine ⟨⟨h.len,fun r hr=>Nat.lt_of_lt_of_le (h.xlt r hr) hs,fun b bi hb=>?_,h.inj,h.lx,h.has⟩,f⟩;by_cases en:H.getD b .none=.none
 · rw [en];trivial
 · exact (h.obj b bi hb).keep f (hsame _ ((h.obj b bi hb).lt' en))
end
end Clk
namespace Clk
open Go
theorem zhq {P:Program} {t:TypeId} {i:TI} (h:ti P t=some i):∃ info d,P.info? t=some info /\ P.underlying t=some d /\ i.size=info.size /\ i.bytes=info.bytes /\ i.kind=tkOf d /\ i.zero=(info.zero.map avOf).getD .undef:=by
 unfold ti at h;split at h
 · rename_i info d h1 h2;cases h;exact ⟨info,d,h1,h2,rfl,rfl,rfl,rfl⟩
 · cases h
theorem zm {P:Program} {t:TypeId} {i:TI} (h:ti P t=some i) (w:World):(Go.sizeOf t).run P w=.ok i.size w:=by
 obtain ⟨info,d,h1,h2,h3,h4,h5,h6⟩:=zhq h;simp [Go.sizeOf,typeInfo,h1,h3]
theorem z86 {P:Program} {t:TypeId} {i:TI} (h:ti P t=some i):∃ d,P.underlying t=some d /\ i.kind=tkOf d:=by
 obtain ⟨info,d,h1,h2,h3,h4,h5,h6⟩:=zhq h;exact ⟨d,h2,h5⟩
theorem z07v {d:TypeDesc} {e:TypeId} (h:tkOf d=.slice e):d=.slice e:=by cases d <;> simp [tkOf] at h;rw [h]
theorem z07w {d:TypeDesc} {n:Nat} {e:TypeId} (h:tkOf d=.array n e):d=.array n e:=by cases d <;> simp [tkOf] at h;rw [h.1,h.2]
theorem z04o {d:TypeDesc} {fs:List (Nat×TypeId)} (h:tkOf d=.struct fs):∃ gs,d=.struct gs /\ fs=gs.toList.map fun f=>(f.offset,f.type):=by
 cases d <;> simp [tkOf] at h;exact ⟨_,rfl,h.symm⟩
theorem z04p {d:TypeDesc} (h:tkOf d=.string):d=.string:=by cases d <;> simp [tkOf] at h;rfl
theorem z0cs {d:TypeDesc} {k:IntKind} (h:tkOf d=.int k):d=.int k:=by cases d <;> simp [tkOf] at h;rw [h]
theorem z0au {d:TypeDesc} (h:tkOf d=.bool):d=.bool:=by cases d <;> simp [tkOf] at h;rfl
theorem z0a {P:Program} {t e:TypeId} {i:TI} (h:ti P t=some i) (hk:i.kind=.slice e):P.underlying t=some (.slice e):=by
 obtain ⟨d,h1,h2⟩:=z86 h;rw [h2] at hk;rw [h1,z07v hk]
theorem z8z {P:Program} {t e:TypeId} {n:Nat} {i:TI} (h:ti P t=some i) (hk:i.kind=.array n e):P.underlying t=some (.array n e):=by
 obtain ⟨d,h1,h2⟩:=z86 h;rw [h2] at hk;rw [h1,z07w hk]
theorem z2k {P:Program} {t:TypeId} {i:TI} (h:ti P t=some i) (hk:i.kind=.string):P.underlying t=some .string:=by
 obtain ⟨d,h1,h2⟩:=z86 h;rw [h2] at hk;rw [h1,z04p hk]
theorem zni {P:Program} {t:TypeId} {k:IntKind} {i:TI} (h:ti P t=some i) (hk:i.kind=.int k):P.underlying t=some (.int k):=by
 obtain ⟨d,h1,h2⟩:=z86 h;rw [h2] at hk;rw [h1,z0cs hk]
theorem zkl {P:Program} {t:TypeId} {i:TI} (h:ti P t=some i) (hk:i.kind=.bool):P.underlying t=some .bool:=by
 obtain ⟨d,h1,h2⟩:=z86 h;rw [h2] at hk;rw [h1,z0au hk]
theorem zaa {P:Program} {t:TypeId} {fs:List (Nat×TypeId)} {i:TI} (h:ti P t=some i) (hk:i.kind=.struct fs):∃ gs,P.underlying t=some (.struct gs) /\ fs=gs.toList.map fun f=>(f.offset,f.type):=by
 obtain ⟨d,h1,h2⟩:=z86 h;rw [h2] at hk;obtain ⟨gs,e1,e2⟩:=z04o hk;exact ⟨gs,by rw [h1,e1],e2⟩
theorem z4p {P:Program} {t:TypeId} {i:TI} (h:ti P t=some i) (w:World):(isAgg t).run P w=.ok i.kind.agg w:=by
 obtain ⟨d,h1,h2⟩:=z86 h;rw [h2];simp only [isAgg,Sem.run_bind,run_underlying h1,Result.andThen_ok];cases d <;> rfl
def RowAt (w:World) (b o:Nat) (row:List AV) (u:Nat->Value) (R:AV->Value->Prop):Prop :=
 ∀ (j:Nat) x,row[j]?=some x->w.cell? ⟨b,o+j,none⟩=some (u j) /\ R x (u j)
theorem z4w (b o n:Nat):(⟨b,o,none⟩:Addr).add n=⟨b,o+n,none⟩:=Addr.add_lit b o n
theorem zva {P:Program} {w:World} {t:TypeId} {i:TI} {row:List AV} {j b o:Nat} {v:AV} {U:Nat->Value} {R:AV->Value->Prop} (hti:ti P t=some i) (hp:partA i row j=some v)
 (hrow:RowAt w b o row U R) (hagg:∀ (l:List AV) (vs:Array Value),vs.size=l.length->(∀ (i:Nat) a v,l[i]?=some a->vs[i]?=some v->R a v)->R (.agg l) (.agg vs)) :
 ∃ u,(loadVar t ⟨b,o+j,none⟩).run P w=.ok u w /\ R v u:=by
 unfold partA at hp;split at hp
 · rename_i hle;split at hp
   · rename_i hg;cases hp;have hcells:∀ k,k<i.size->w.cell? ((⟨b,o+j,none⟩:Addr).add k)=some (U (j+k)):=by
      intro k hk;rw [z4w,Nat.add_assoc];have hlt:j+k<row.length:=by omega
      exact (hrow (j+k) _ (zH hlt)).1
     have hl:=run_loadCells (P:=P) w ⟨b,o+j,none⟩ i.size (fun k=>U (j+k)) hcells;refine ⟨.agg ((List.range i.size).map fun k=>U (j+k)).toArray,?_,hagg _ _ (by simp;omega) (fun k a v h1 h2=>?_)⟩
     · simp only [loadVar,Sem.run_bind,z4p hti,Result.andThen_ok,hg,if_true,zm hti,hl,Sem.run_map,Sem.run_pure]
     · rw [List.getElem?_take] at h1;split at h1
       · rename_i hk;rw [List.getElem?_drop] at h1;simp only [List.getElem?_toArray,List.getElem?_map,List.getElem?_range hk] at h2;cases h2;exact (hrow (j+k) a h1).2
       · cases h1
   · rename_i hg;split at hp
     · obtain ⟨h1,h2⟩:=hrow j v hp;refine ⟨U j,?_,h2⟩;simp only [loadVar,Sem.run_bind,z4p hti,Result.andThen_ok,hg,Bool.false_eq_true,if_false,run_load,h1]
     · cases hp
 · cases hp
theorem zj0 {size i j:Nat} (hj:j<size):(i*size+j) / size=i /\ (i*size+j) % size=j:=by
 have h0:0<size:=by omega
 constructor
 · rw [Nat.mul_comm,Nat.mul_add_div h0];simp [Nat.div_eq_of_lt hj]
 · rw [Nat.mul_comm,Nat.mul_add_mod];exact Nat.mod_eq_of_lt hj
theorem zbc {size i j n:Nat} (hi:i<n) (hj:j<size):i*size+j<n*size:=by
 have:(i+1)*size<=n*size:=Nat.mul_le_mul_right _ hi;rw [Nat.add_mul] at this;omega
structure SliceCells (w:World) (R:AV->Value->Prop) (size:Nat) (rs:List (List AV)) (v:Value) where
 a:Option Addr
 c:Nat
 us:List Value
 hv:v=.slice a rs.length c
 hc:rs.length<=c
 len:us.length=rs.length*size
 cells:0<rs.length->∃ ad,a=some ad /\ ad.spot=none /\ ∀ (j:Nat) u,us[j]?=some u->w.cell? (ad.add j)=some u
 rel:∀ (i:Nat) row (j:Nat) x,rs[i]?=some row->row[j]?=some x->∃ u,us[i*size+j]?=some u /\ R x u
theorem z07x (n size:Nat) (U:Nat->Nat->Value) (j:Nat) (u:Value) (h:((List.range (n*size)).map fun j=>U (j / size) (j % size))[j]?=some u):j<n*size /\ u=U (j / size) (j % size):=by
 rw [List.getElem?_map] at h;by_cases hj:j<n*size
 · rw [List.getElem?_range hj] at h;cases h;exact ⟨hj,rfl⟩
 · rw [List.getElem?_eq_none (by simpa using hj)] at h;cases h
theorem z2z {w:World} {R:AV->Value->Prop} {size:Nat} {rs:List (List AV)} {a:Option Addr} {c:Nat} {U:Nat->Nat->Value} (hsz:0<size) (hc:rs.length<=c)
 (hrow:∀ (i:Nat) row,rs[i]?=some row->row.length=size)
 (ha:0<rs.length->∃ ad,a=some ad /\ ad.spot=none)
 (hu:∀ (ad:Addr) (i:Nat) row (j:Nat) x,a=some ad->rs[i]?=some row->row[j]?=some x->w.cell? ⟨ad.block,ad.off+(i*size+j),none⟩=some (U i j))
 (hr:∀ (i:Nat) row (j:Nat) x,rs[i]?=some row->row[j]?=some x->R x (U i j)):Nonempty (SliceCells w R size rs (.slice a rs.length c)):=by
 refine ⟨⟨a,c,(List.range (rs.length*size)).map fun j=>U (j / size) (j % size),rfl,hc,by simp,fun h0=>?_,fun i row j x h1 h2=>?_⟩⟩
 · obtain ⟨ad,e,hs⟩:=ha h0;refine ⟨ad,e,hs,fun j u h=>?_⟩;obtain ⟨hj,rfl⟩:=z07x _ _ _ _ _ h;have hi:j / size<rs.length:=Nat.div_lt_of_lt_mul (by rw [Nat.mul_comm];exact hj);have hm:j % size<size:=Nat.mod_lt _ hsz;have h1:=zH hi;have hl:=hrow _ _ h1;have h2:=zH (l:=rs[j / size]) (i:=j % size) (by omega);have:=hu ad _ _ _ _ e h1 h2;have he:j / size*size+j % size=j:=by rw [Nat.mul_comm];exact Nat.div_add_mod j size
   rw [he] at this;obtain ⟨ab,ao,as⟩:=ad;simp only at hs;subst hs;rw [z4w];exact this
 · have hi:i<rs.length:=(zG.1 h1).1;have hj:j<size:=by have:=(zG.1 h2).1;rw [hrow i row h1] at this;exact this
   refine ⟨U i j,?_,hr i row j x h1 h2⟩;rw [List.getElem?_map,List.getElem?_range (zbc hi hj)];simp [(zj0 hj).1,(zj0 hj).2]
theorem getD_some {α:Type} {l:List (Option α)} {b:Nat} {x:α} (h:l.getD b none=some x):l[b]?=some (some x):=by
 rw [zI] at h;cases h1:l[b]? with
 | none=>rw [h1] at h;cases h
 | some y=>rw [h1] at h;simp at h;rw [h]
theorem zc8 {w:World} {X:Nat->Prop} {β:z13} {H:List AO} {x:AV} {v:Value} {rs:List (List AV)} {size:Nat} (hr:HRel w X β H) (hx:Rel w (NN X β H) β x v) (h:z1m H x=some rs)
 (hsz:0<size) (hrow:∀ (i:Nat) row,rs[i]?=some row->row.length=size):Nonempty (SliceCells w (Rel w (NN X β H) β) size rs v):=by
 cases x with
 | rows l =>
   simp [z1m] at h;subst h;cases hx with
   | imm hx =>
     cases hx with
     | @rows _ a c k u hc hk ha hu hr' =>
       by_cases h0:l.length=0
       · exact z2z (U:=u) hsz hc hrow (fun h=>by omega) (fun ad i row j x e h1=>by have:=(zG.1 h1).1;omega) (fun i row j x h1 h2=>.imm (hr' i row j x h1 h2))
       · have hk':k=size:=by
          have h1:=zH (l:=l) (i:=0) (by omega);rw [<- hk 0 _ h1,hrow 0 _ h1]
         subst hk';exact z2z (U:=u) hsz hc hrow (fun h=>let ⟨ad,e,s,_⟩:=ha h;⟨ad,e,s⟩) hu (fun i row j x h1 h2=>.imm (hr' i row j x h1 h2))
 | crows l =>
   simp [z1m] at h;subst h;cases hx with
   | imm hx =>
     cases hx with
     | @crows _ a k u hk ha hu hr' =>
       by_cases h0:l.length=0
       · exact z2z (U:=u) hsz (Nat.le_refl _) hrow (fun h=>by omega) (fun ad i row j x e h1=>by have:=(zG.1 h1).1;omega) (fun i row j x h1 h2=>.imm (hr' i row j x h1 h2))
       · have hk':k=size:=by
          have h1:=zH (l:=l) (i:=0) (by omega);rw [<- hk 0 _ h1,hrow 0 _ h1]
         subst hk';exact z2z (U:=u) hsz (Nat.le_refl _) hrow (fun h=>let ⟨ad,e,s,_⟩:=ha h;⟨ad,e,s⟩) hu (fun i row j x h1 h2=>.imm (hr' i row j x h1 h2))
 | ref b v o n =>
   simp only [z1m] at h;cases hH:H.getD b .none with
   | blk k v' l rows =>
     rw [hH] at h;simp only at h;split at h
     · rename_i hv;obtain ⟨hv,hle⟩:=hv;cases h;cases hx with
       | imm hx=>cases hx
       | @ref _ _ _ _ c bi a hb hvb hc hcur =>
         have ho:=hr.obj b bi hb;rw [hH] at ho;obtain ⟨e1,e2,e3,_,cs,T,h5,h6,h7,h8⟩:=ho;obtain ⟨hadr,cs',T',h9,h10⟩:=hcur (by omega);rw [h5] at h9;cases h9;have hlen:((rows.drop o).take n).length=n:=by simp;omega
         have get:∀ (i:Nat) row,((rows.drop o).take n)[i]?=some row->i<n /\ rows[o+i]?=some row:=by
          intro i row h;rw [List.getElem?_take] at h;split at h
          · rw [List.getElem?_drop] at h;exact ⟨by assumption,h⟩
          · cases h
         rw [show Value.slice a n c=Value.slice a ((rows.drop o).take n).length c from by rw [hlen]];by_cases h0:n=0
         · subst h0;refine z2z (U:=fun _ _=>undef) hsz (by rw [hlen];exact hc) hrow (fun h=>by rw [hlen] at h;omega) (fun ad i row j x e h1=>by have:=(get i row h1).1;omega) (fun i row j x h1=>by have:=(get i row h1).1;omega)
         · have hk:k=size:=by
            have h1:((rows.drop o).take n)[0]?=some _:=zH (by rw [hlen];omega);rw [<- hrow 0 _ h1,<- h7 _ _ (get 0 _ h1).2]
           subst hk;have haa:=hadr (by omega);refine z2z (U:=fun i j=>cs.getD ((o+i)*k+j) undef) hsz (by rw [hlen];exact hc) hrow (fun _=>⟨_,haa,rfl⟩) (fun ad i row j x e h1 h2=>?_) (fun i row j x h1 h2=>?_)
           · rw [haa] at e;cases e;obtain ⟨hi,h3⟩:=get i row h1;have hj:j<k:=by have:=(zG.1 h2).1;rw [h7 _ _ h3] at this;exact this
             have hlt:(o+i)*k+j<cs.size:=Nat.lt_of_lt_of_le (zbc (by omega:o+i<rows.length) hj) h6;have he:o*bi.k+(i*k+j)=(o+i)*k+j:=by rw [e1,Nat.add_mul];omega
             simp only [World.cell?,h5,he];simp [hlt]
           · obtain ⟨hi,h3⟩:=get i row h1;have hj:j<k:=by have:=(zG.1 h2).1;rw [h7 _ _ h3] at this;exact this
             have hlt:(o+i)*k+j<cs.size:=Nat.lt_of_lt_of_le (zbc (by omega:o+i<rows.length) hj) h6;refine h8 (o+i) row j x _ h3 h2 ?_;simp [hlt]
     · cases h
   | none=>rw [hH] at h;cases h
   | loop=>rw [hH] at h;cases h
   | dfr=>rw [hH] at h;cases h
 | _=>simp [z1m] at h
end Clk
namespace Clk
open Go
theorem z18 {w:World} {N:Nat->Prop} {β:z13} {k:IntKind} {n:Int} {v:Value} (h:Rel w N β (.int k n) v):v=.int k n:=by
 cases h with | imm h=>cases h;rfl
theorem z4x {w:World} {N:Nat->Prop} {β:z13} {b:Bool} {v:Value} (h:Rel w N β (.bool b) v):v=.bool b:=by
 cases h with | imm h=>cases h;rfl
theorem zcs {w:World} {N:Nat->Prop} {β:z13} {s:ByteArray} {v:Value} (h:Rel w N β (.str s) v):v=.string s:=by
 cases h with | imm h=>cases h;rfl
theorem zkm {w:World} {N:Nat->Prop} {β:z13} {l:List AV} {v:Value} (h:Rel w N β (.agg l) v):∃ vs:Array Value,v=.agg vs /\ vs.size=l.length /\ ∀ (i:Nat) a u,l[i]?=some a->vs[i]?=some u->Rel w N β a u:=by
 cases h with
 | imm h=>cases h with | agg h hc=>exact ⟨_,rfl,h,fun i a u h1 h2=>.imm (hc i a u h1 h2)⟩
 | agg h hc=>exact ⟨_,rfl,h,hc⟩
theorem zyx {w:World} {N:Nat->Prop} {β:z13} {l:List AV} {v:Value} (h:Rel w N β (.tup l) v):∃ vs:Array Value,v=.tuple vs /\ vs.size=l.length /\ ∀ (i:Nat) a u,l[i]?=some a->vs[i]?=some u->Rel w N β a u:=by
 cases h with
 | imm h=>cases h with | tup h hc=>exact ⟨_,rfl,h,fun i a u h1 h2=>.imm (hc i a u h1 h2)⟩
 | tup h hc=>exact ⟨_,rfl,h,hc⟩
theorem z07y {w:World} {N:Nat->Prop} {β:z13} {l:List (List AV)} {v:Value} (h:Rel w N β (.rows l) v):∃ a c,v=.slice a l.length c /\ l.length<=c:=by
 cases h with | imm h=>cases h with | rows hc=>exact ⟨_,_,rfl,hc⟩
theorem znj {w:World} {N:Nat->Prop} {β:z13} {l:List (List AV)} {v:Value} (h:Rel w N β (.crows l) v):∃ a,v=.slice a l.length l.length:=by
 cases h with | imm h=>cases h with | crows hk=>exact ⟨_,rfl⟩
theorem z04q {w:World} {N:Nat->Prop} {β:z13} {b ve o n:Nat} {v:Value} (h:Rel w N β (.ref b ve o n) v):∃ a c,v=.slice a n c /\ n<=c:=by
 cases h with
 | imm h=>cases h
 | ref hb hv hc h=>exact ⟨_,_,rfl,hc⟩
theorem zc9 {w:World} {N:Nat->Prop} {β:z13} {x:AV} {v:Value} (h:Rel w N β x v) (hl:x.leaf=true):v.oneCell'=true /\ v.cells=#[v]:=by
 cases h with
 | imm h=>cases h <;> first | (simp [AV.leaf] at hl;done) | exact ⟨rfl,rfl⟩
 | agg=>simp [AV.leaf] at hl
 | tup=>simp [AV.leaf] at hl
 | fn=>exact ⟨rfl,rfl⟩
 | iface=>exact ⟨rfl,rfl⟩
 | ref=>exact ⟨rfl,rfl⟩
 | ptr=>exact ⟨rfl,rfl⟩
 | yield=>exact ⟨rfl,rfl⟩
theorem z5z {w:World} {N:Nat->Prop} {β:z13} {x:AV} {v:Value} {cs:List AV} (h:Rel w N β x v) (hc:z3i x=some cs) :
 v.cells.size=cs.length /\ (∀ (i:Nat) y u,cs[i]?=some y->v.cells[i]?=some u->Rel w N β y u) /\ ∀ y∈cs,y.leaf=true:=by
 have leafCase:x.leaf=true->cs=[x]->v.cells.size=cs.length /\ (∀ (i:Nat) y u,cs[i]?=some y->v.cells[i]?=some u->Rel w N β y u) /\ ∀ y∈cs,y.leaf=true:=by
  intro hl e;subst e;obtain ⟨h1,h2⟩:=zc9 h hl;rw [h2];refine ⟨rfl,fun i y u e1 e2=>?_,fun y hy=>by simp at hy;subst hy;exact hl⟩;cases i with
  | zero=>simp at e1 e2;subst e1;subst e2;exact h
  | succ i=>simp at e1
 cases x with
 | undef=>simp [z3i] at hc
 | tup l=>simp [z3i] at hc
 | agg l =>
   simp only [z3i] at hc;split at hc
   · rename_i hl;cases hc;obtain ⟨vs,rfl,hs,hr⟩:=zkm h;exact ⟨hs,hr,fun y hy=>List.all_eq_true.1 hl y hy⟩
   · cases hc
 | _=>simp only [z3i,Option.some.injEq] at hc;exact leafCase rfl hc.symm
theorem z031 {w:World} {N:Nat->Prop} {β:z13} {x:AV} {v:Value} {cs:List AV} (h:Rel w N β x v) (hc:z3i x=some cs):∀ u∈v.cells.toList,u.oneCell'=true:=by
 obtain ⟨h1,h2,h3⟩:=z5z h hc;intro u hu;obtain ⟨i,hi,e⟩:=List.getElem_of_mem hu;have hi':i<cs.length:=by simpa [h1] using hi
 have hu':v.cells[i]?=some u:=by
  have hi2:i<v.cells.size:=by simpa using hi
  rw [Array.getElem?_eq_getElem hi2];simpa using e
 exact (zc9 (h2 i _ u (zH hi') hu') (h3 _ (List.getElem_mem hi'))).1
section
variable {P:Program} {w:World} {X:Nat->Prop} {β:z13} {H:List AO} {t:List AV} {a:Act} {o:Oper}
def z3l (P:Program) (w:World) (N:Nat->Prop) (β:z13) (a:Act) (o:Oper) (v:AV):Prop :=
 ∃ u,(execOp a.eval o).run P w=.ok (.value u) w /\ Rel w N β v u
theorem znk {k:Nat}:∀ (rows:List (List AV)),(∀ r∈rows,r.length=k)->rows.flatten.length=rows.length*k
 | [],_=>by simp
 | r::rs,h=>by rw [List.flatten_cons,List.length_append,h r (by simp),znk rs (fun r hr=>h r (by simp [hr])),List.length_cons,Nat.add_mul];omega
theorem znl {k:Nat}:∀ (rows:List (List AV)),(∀ r∈rows,r.length=k)->∀ (m:Nat) x,rows.flatten[m]?=some x->0<k /\ ∃ row,rows[m / k]?=some row /\ row[m % k]?=some x
 | [],_,m,x,h=>by simp at h
 | r::rs,hk,m,x,h=>by
   rw [List.flatten_cons] at h;have hr:=hk r (by simp);by_cases hm:m<k
   · rw [List.getElem?_append_left (by omega)] at h;exact ⟨by omega,r,by simp [Nat.div_eq_of_lt hm],by rw [Nat.mod_eq_of_lt hm];exact h⟩
   · rw [List.getElem?_append_right (by omega)] at h;obtain ⟨h0,row,h1,h2⟩:=znl rs (fun r hr=>hk r (by simp [hr])) _ _ h;rw [hr] at h1 h2;have e:m=(m - k)+k:=by omega
     refine ⟨h0,row,?_,?_⟩
     · rw [e,Nat.add_div_right _ h0];simpa using h1
     · rw [e,Nat.add_mod_right];exact h2
theorem z018 {ty:TypeId} {x:Operand} {v:AV} (hr:HRel w X β H) (ht:z2c w (NN X β H) β t a.tmps) (ho:o.op=.load ty x) (he:loadA P H ty (opd t x)=some v):z3l P w (NN X β H) β a o v:=by
 have hx:=zp ht x;have hgo:∀ ad u,a.eval x=.pointer (some ad)->(loadVar ty ad).run P w=.ok u w->(execOp a.eval o).run P w=.ok (.value u) w:=by
  intro ad u h1 h2;simp only [execOp,ho,Instr.loadAt,h1,Instr.sureAddr,Sem.run_bind,Sem.run_pure,Result.andThen_ok,h2]
 generalize a.eval x=xv at hx hgo;cases hop:opd t x with
 | iptr l j =>
   rw [hop] at hx he;simp only [loadA] at he;cases hti:ti P ty with
   | none=>rw [hti] at he;cases he
   | some i =>
     rw [hti] at he;cases hx with
     | imm hx =>
       cases hx with
       | @iptr _ _ b of u hN hlt hu hr' =>
         obtain ⟨u',h1,h2⟩:=zva (R:=RelI w (NN X β H)) hti he (fun j x h=>⟨hu j x h,hr' j x h⟩) (fun l vs=>RelI.agg);exact ⟨u',hgo _ _ rfl h1,.imm h2⟩
 | ptr b ve i j =>
   rw [hop] at hx he;simp only [loadA] at he;cases hti:ti P ty with
   | none=>rw [hti] at he;cases he
   | some ty' =>
     rw [hti] at he;cases hH:H.getD b .none with
     | blk k v' lv rows =>
       rw [hH] at he;simp only at he;split at he
       · rename_i hv;cases hx with
         | imm hx=>cases hx
         | @ptr _ _ _ _ bi ad hb hvb hcur =>
           have hob:=hr.obj b bi hb;rw [hH] at hob;obtain ⟨e1,e2,e3,_,cs,T,h5,h6,h7,h8⟩:=hob;have had:=hcur (by omega);subst had;have rowAt:∀ (i:Nat) row,rows[i]?=some row->RowAt w bi.r (i*bi.k) row (fun j=>cs.getD (i*k+j) undef) (Rel w (NN X β H) β):=by
            intro i row h1 j x h2;have hi:i<rows.length:=(zG.1 h1).1;have hj:j<k:=by have:=(zG.1 h2).1;rw [h7 _ _ h1] at this;exact this
            have hlt:i*k+j<cs.size:=Nat.lt_of_lt_of_le (zbc hi hj) h6;refine ⟨?_,h8 i row j x _ h1 h2 (by simp [hlt])⟩;simp [World.cell?,h5,e1,hlt]
           have plain:∀ row,rows[i]?=some row->partA ty' row j=some v->z3l P w (NN X β H) β a o v:=by
            intro row h1 h2;obtain ⟨u',g1,g2⟩:=zva hti h2 (rowAt i row h1) (fun l vs=>Rel.agg);exact ⟨u',hgo _ _ rfl g1,g2⟩
           cases hk:ty'.kind with
           | array n e =>
             rw [hk] at he;simp only at he;cases hte:ti P e with
             | none=>rw [hte] at he;cases he
             | some te =>
               rw [hte] at he;simp only at he;split at he
               · rename_i hc;obtain ⟨rfl,rfl,hn,hall,hsz⟩:=hc;cases he;have hrl:∀ r∈rows,r.length=te.size:=fun r hr=>by simpa using List.all_eq_true.1 hall r hr
                 have hfl:rows.flatten.length=ty'.size:=by
                  rw [znk rows hrl,hsz,hn]
                 have getf:∀ (m:Nat) x,rows.flatten[m]?=some x->w.cell? ⟨bi.r,m,none⟩=some (cs.getD m undef) /\ Rel w (NN X β H) β x (cs.getD m undef):=by
                  intro m x hm;obtain ⟨h0,row,g1,g2⟩:=znl rows hrl m x hm;have hkk:k=te.size:=by rw [<- h7 _ _ g1];exact hrl _ (List.mem_of_getElem? g1)
                  have:=rowAt _ _ g1 _ _ g2;have em:m / te.size*te.size+m % te.size=m:=by rw [Nat.mul_comm];exact Nat.div_add_mod m _
                  simp only [e1,hkk,em] at this;exact this
                 have hcells:∀ k,k<ty'.size->w.cell? ((⟨bi.r,0*bi.k+0,none⟩:Addr).add k)=some (cs.getD k undef):=by
                  intro m hm;rw [z4w];simp only [Nat.zero_mul,Nat.zero_add];have hlt:m<rows.flatten.length:=by omega
                  exact (getf m _ (zH hlt)).1
                 have hl:=run_loadCells (P:=P) w ⟨bi.r,0*bi.k+0,none⟩ ty'.size (fun k=>cs.getD k undef) hcells;have hagg:ty'.kind.agg=true:=by rw [hk];rfl
                 refine ⟨.agg ((List.range ty'.size).map fun k=>cs.getD k undef).toArray,hgo _ _ rfl ?_,.agg (by simp [hfl]) (fun m x u g1 g2=>?_)⟩
                 · simp only [loadVar,Sem.run_bind,z4p hti,Result.andThen_ok,hagg,if_true,zm hti,hl,Sem.run_pure]
                 · have hlt:=(zG.1 g1).1;simp only [List.getElem?_toArray,List.getElem?_map,List.getElem?_range (show m<ty'.size by omega)] at g2;cases g2;exact (getf m x g1).2
               · cases he
           | _ =>
             rw [hk] at he;simp only at he;cases hrow:rows[i]? with
             | none=>rw [hrow] at he;cases he
             | some row=>rw [hrow] at he;exact plain row hrow he
       · cases he
     | none=>rw [hH] at he;cases he
     | loop=>rw [hH] at he;cases he
     | dfr=>rw [hH] at he;cases he
 | _=>rw [hop] at he;simp [loadA] at he
end
end Clk
namespace Clk
open Go
section
variable {P:Program} {w:World} {X:Nat->Prop} {β:z13} {H:List AO} {t:List AV} {a:Act} {o:Oper}
theorem binV {op:BinOp} {ty yt:TypeId} {x y:Operand} {u:Value} (ho:o.op=.binOp op ty x y yt)
 (hg:(eqGuard op ty x y (a.eval x) (a.eval y)).run P w=.ok () w) (hb:(binOp op ty (a.eval x) (a.eval y)).run P w=.ok u w) :
 (execOp a.eval o).run P w=.ok (.value u) w:=by
 simp only [execOp,ho,Sem.run_bind,hg,hb,Result.andThen_ok,Sem.run_pure]
theorem z0av {op:BinOp} {ty:TypeId} {k:IntKind} {m n:Int} {v:AV} (h1:op≠.shl) (h2:op≠.shr) (he:z3j op k m n=some v):∃ u,(binOp op ty (.int k m) (.int k n)).run P w=.ok u w /\ RelI w (fun _=>True) v u:=by
 cases op <;> simp only [z3j] at he
 case shl=>exact absurd rfl h1
 case shr=>exact absurd rfl h2
 case quo =>
  split at he
  · cases he
  · rename_i h0;cases he;exact ⟨_,by simp [binOp,Op.intDiv,h0,Sem.run_pure],.int _ _⟩
 case rem =>
  split at he
  · cases he
  · rename_i h0;cases he;exact ⟨_,by simp [binOp,Op.intDiv,h0,Sem.run_pure],.int _ _⟩
 case and=>cases he;exact ⟨_,by rw [binOp_and];rfl,.int _ _⟩
 case or=>cases he;exact ⟨_,by rw [binOp_or];rfl,.int _ _⟩
 case xor=>cases he;exact ⟨_,by rw [binOp_xor];rfl,.int _ _⟩
 case andNot=>cases he;exact ⟨_,by rw [binOp_andNot];rfl,.int _ _⟩
 case add=>cases he;exact ⟨_,by rw [binOp_add];rfl,.int _ _⟩
 case sub=>cases he;exact ⟨_,by rw [binOp_sub];rfl,.int _ _⟩
 case mul=>cases he;exact ⟨_,by rw [binOp_mul];rfl,.int _ _⟩
 case eql=>cases he;exact ⟨_,by rw [binOp_eql];rfl,.bool _⟩
 case neq=>cases he;exact ⟨_,by rw [binOp_neq];rfl,.bool _⟩
 case lss=>cases he;exact ⟨_,by rw [binOp_lss];rfl,.bool _⟩
 case leq=>cases he;exact ⟨_,by rw [binOp_leq];rfl,.bool _⟩
 case gtr=>cases he;exact ⟨_,by rw [binOp_gtr];rfl,.bool _⟩
 case geq=>cases he;exact ⟨_,by rw [binOp_geq];rfl,.bool _⟩
theorem RelI.any {v:AV} {u:Value} {N:Nat->Prop} (h:RelI w (fun _=>True) v u):RelI w N v u :=
 h.mono (Nat.le_refl _) (fun _ _ h=>absurd trivial h) (fun _ _ _=>trivial)
theorem zrj {N:Nat->Prop} {i:TI} {ft:TypeId} {x y:AV} {u v:Value} {r:Bool} (hti:ti P ft=some i) (hx:Rel w N β x u) (hy:Rel w N β y v) (he:eqLeaf i.kind x y=some r) (d:Nat) :
 (Op.equalIn (d+1) ft u v).run P w=.ok r w:=by
 unfold eqLeaf at he;split at he
 · rename_i k _ k a k' b hk;split at he
   · rename_i e;cases he;subst e;rw [z18 hx,z18 hy];exact run_equalIn_int w d ft _ _ _ _ (zni hti (by assumption))
   · cases he
 · cases he;rw [z4x hx,z4x hy];exact run_equalIn_bool' w d ft _ _ (zkl hti (by assumption))
 · cases he;rw [zcs hx,zcs hy];rw [run_equalIn_string w d ft _ _ (z2k hti (by assumption)),beq_toListBytes]
 · cases he
theorem zlp {N:Nat->Prop} {xs ys:List AV} {us vs:Array Value} (hx:us.size=xs.length) (hxr:∀ (i:Nat) a u,xs[i]?=some a->us[i]?=some u->Rel w N β a u)
 (hy:vs.size=ys.length) (hyr:∀ (i:Nat) a u,ys[i]?=some a->vs[i]?=some u->Rel w N β a u) (d:Nat) :
 ∀ (fs:List Field),(∀ f∈fs,f.name≠ "_")->∀ r,Clk.eqFields P xs ys (fs.map fun f=>(f.offset,f.type))=some r->(Op.eqFields (d+1) us vs fs).run P w=.ok r w
 | [],_,r,h=>by simp [Clk.eqFields] at h;subst h;simp [Op.eqFields]
 | f::fs,hn,r,h=>by
   simp only [List.map_cons,Clk.eqFields] at h;split at h
   · rename_i i x y hti h1 h2;split at h
     · cases h
     · rename_i hagg;have l1:=(zG.1 h1).1;have l2:=(zG.1 h2).1;have u1:us[f.offset]?=some _:=Array.getElem?_eq_getElem (by omega);have v1:vs[f.offset]?=some _:=Array.getElem?_eq_getElem (by omega);have p1:∀ (zs:Array Value) z,zs[f.offset]?=some z->(part f.type zs f.offset).run P w=.ok z w:=by
        intro zs z hz;simp only [part,Sem.run_bind,z4p hti,Result.andThen_ok,hagg,Bool.false_eq_true,if_false,hz,Sem.run_pure]
       have rx:=hxr _ _ _ h1 u1;have ry:=hyr _ _ _ h2 v1;split at h
       · rename_i he;have hq:=zrj hti rx ry he d;simp only [Op.eqFields,ne_eq,hn f (by simp),not_false_eq_true,if_true,Sem.run_bind,p1 us _ u1,p1 vs _ v1,Result.andThen_ok,hq,Bool.not_true,Bool.false_eq_true,if_false];exact zlp hx hxr hy hyr d fs (fun f hf=>hn f (by simp [hf])) r h
       · rename_i he;cases h;have hq:=zrj hti rx ry he d;simp only [Op.eqFields,ne_eq,hn f (by simp),not_false_eq_true,if_true,Sem.run_bind,p1 us _ u1,p1 vs _ v1,Result.andThen_ok,hq,Bool.not_false,Sem.run_pure]
       · cases h
   · cases h
theorem z032 {v:AV} {u:Value} {N:Nat->Prop} (h:RelI w (fun _=>True) v u):Rel w N β v u:=.imm h.any
theorem znm {gs:Array Field} {ty:TypeId} (h:P.underlying ty=some (.struct gs)):P.fieldsOf ty=gs:=by simp [Program.fieldsOf,h]
theorem z04r {N:Nat->Prop} {ty:TypeId} {xs ys:List AV} {u v:Value} {r:Bool} (hx:Rel w N β (.agg xs) u) (hy:Rel w N β (.agg ys) v) (he:eqA P ty (.agg xs) (.agg ys)=some r) :
 ∃ us vs,u=.agg us /\ v=.agg vs /\ (Op.equalIn 10000 ty (.agg us) (.agg vs)).run P w=.ok r w:=by
 obtain ⟨us,rfl,hs,hr⟩:=zkm hx;obtain ⟨vs,rfl,hs',hr'⟩:=zkm hy;refine ⟨us,vs,rfl,rfl,?_⟩;unfold eqA at he;split at he
 · rename_i i hti;split at he
   · rename_i fs xs' ys' hk e1 e2;cases e1;cases e2;split at he
     · cases he
     · rename_i hst;split at he
       · rename_i hbf;obtain ⟨gs,hu,rfl⟩:=zaa hti hk;have hf:=znm hu;rw [run_equalIn_agg w 9999 ty us vs (by rw [hf];exact hu) (by simpa using hst),hf];refine zlp hs hr hs' hr' 9998 gs.toList (fun f hf=>?_) r he;simp only [ziz,hu] at hbf;have:=List.all_eq_true.1 hbf f hf;simpa using this
       · cases he
   · unfold eqLeaf at he;split at he <;> simp_all
 · cases he
theorem z07z {op:BinOp} {ty yt:TypeId} {x y:Operand} {v:AV} (ht:z2c w (NN X β H) β t a.tmps) (ho:o.op=.binOp op ty x y yt) (he:z7f P op ty (opd t x) (opd t y)=some v):z3l P w (NN X β H) β a o v:=by
 have hx:=zp ht x;have hy:=zp ht y;have hgo:∀ u,(eqGuard op ty x y (a.eval x) (a.eval y)).run P w=.ok () w->(binOp op ty (a.eval x) (a.eval y)).run P w=.ok u w->(execOp a.eval o).run P w=.ok (.value u) w:=fun u h1 h2=>binV ho h1 h2
 generalize a.eval x=xv at hx hgo;generalize a.eval y=yv at hy hgo;generalize opd t x=xa at hx he;generalize opd t y=ya at hy he;unfold z7f at he;split at he
 · split at he
   · cases he
   · rename_i h0;cases he;rw [z18 hx,z18 hy] at hgo;exact ⟨_,hgo _ (by rw [eqGuard_shl];rfl) (by simp only [binOp,Op.shift,h0,if_false];rfl),.imm (.int _ _)⟩
 · split at he
   · cases he
   · rename_i h0;cases he;rw [z18 hx,z18 hy] at hgo;exact ⟨_,hgo _ (by rw [eqGuard_shr];rfl) (by simp only [binOp,Op.shift,h0,if_false];rfl),.imm (.int _ _)⟩
 · rename_i n1 n2;split at he
   · rename_i e;subst e;rw [z18 hx,z18 hy] at hgo;obtain ⟨u,h1,h2⟩:=z0av (P:=P) (w:=w) (ty:=ty) n1 n2 he;exact ⟨u,hgo u (by rw [eqGuard_at_int];rfl) h1,z032 h2⟩
   · cases he
 · rw [zcs hx,zcs hy] at hgo;have hgd:∀ (op:BinOp) (a:ByteArray) (v:Value),(eqGuard op ty x y (.string a) v).run P w=.ok () w:=fun op a v=>by rw [eqGuard_at_string];rfl
   unfold strBin at he;split at he
   · split at he
     · rename_i hle;cases he;refine ⟨_,hgo _ (hgd _ _ _) ?_,.imm (.str _)⟩;rw [binOp_string_add];have h0:∀ p q:ByteArray,p.size+q.size<=9223372036854775807->¬ ((p.size+q.size:Nat):Int)>IntKind.i64.max:=fun p q h=>by rw [IntKind.max_i64];omega
       simp only [Op.stringOp];rw [if_neg (h0 _ _ hle)];rfl
     · cases he
   · cases he;exact ⟨_,hgo _ (hgd _ _ _) (by rw [binOp_string_eql];rfl),.imm (.bool _)⟩
   · cases he;exact ⟨_,hgo _ (hgd _ _ _) (by rw [binOp_string_neq];rfl),.imm (.bool _)⟩
   · cases he
 · split at he
   · rename_i hti;cases he;rw [z4x hx,z4x hy] at hgo;refine ⟨_,hgo _ (by rw [eqGuard_at_bool];rfl) ?_,.imm (.bool _)⟩;simp [binOp,Op.equal,Op.maxDepth,run_equalIn_bool' w 9999 ty _ _ (zkl hti rfl)]
   · cases he
 · split at he
   · rename_i hti;cases he;rw [z4x hx,z4x hy] at hgo;refine ⟨_,hgo _ (by rw [eqGuard_at_bool];rfl) ?_,.imm (.bool _)⟩;simp [binOp,Op.equal,Op.maxDepth,run_equalIn_bool' w 9999 ty _ _ (zkl hti rfl)]
   · cases he
 · split at he
   · cases he
   · rename_i hg;simp only [Option.map_eq_some_iff] at he;obtain ⟨r,he,rfl⟩:=he;obtain ⟨us,vs,rfl,rfl,hr⟩:=z04r hx hy he;refine ⟨_,hgo _ (run_eqGuard_agg w _ _ _ _ _ _ (by simpa using hg)) ?_,.imm (.bool _)⟩;rw [run_eql_struct,hr];rfl
 · split at he
   · cases he
   · rename_i hg;simp only [Option.map_eq_some_iff] at he;obtain ⟨r,he,rfl⟩:=he;obtain ⟨us,vs,rfl,rfl,hr⟩:=z04r hx hy he;refine ⟨_,hgo _ (run_eqGuard_agg w _ _ _ _ _ _ (by simpa using hg)) ?_,.imm (.bool _)⟩;rw [run_neq_struct,hr];rfl
 · cases he
end
end Clk
namespace Clk
open Go
section
variable {P:Program} {w:World} {X:Nat->Prop} {β:z13} {H:List AO} {t:List AV} {a:Act} {o:Oper}
theorem z0aw {op:UnOp} {ty:TypeId} {x:Operand} {v:AV} (ht:z2c w (NN X β H) β t a.tmps) (ho:o.op=.unOp op ty x) (he:unA op (opd t x)=some v):z3l P w (NN X β H) β a o v:=by
 have hx:=zp ht x;unfold unA at he;split at he
 · rename_i h;rw [h] at hx;cases he;exact ⟨_,by simp only [execOp,ho,z4x hx,Op.unary,Sem.run_bind,Sem.run_pure,Result.andThen_ok],.imm (.bool _)⟩
 · rename_i h;rw [h] at hx;cases he;exact ⟨_,by simp only [execOp,ho,z18 hx,Op.unary,Op.intArith,Sem.run_bind,Sem.run_pure,Result.andThen_ok],.imm (.int _ _)⟩
 · rename_i h;rw [h] at hx;cases he;exact ⟨_,by simp only [execOp,ho,z18 hx,Op.unary,Op.intBits,Sem.run_bind,Sem.run_pure,Result.andThen_ok],.imm (.int _ _)⟩
 · cases he
theorem ze7:∀ (rs:List (List AV)) (l:List UInt8),z4m rs=some l->∃ ns:List Int,rs=ns.map (fun n=>[AV.int .u8 n]) /\ l=ns.map fun n=>UInt8.ofNat n.toNat
 | [],l,h=>by simp [z4m] at h;exact ⟨[],rfl,h⟩
 | r::rs,l,h=>by
   unfold z4m at h;split at h
   · rename_i e;cases e
   · rename_i n rest e;cases e;simp only [Option.map_eq_some_iff] at h;obtain ⟨l',h1,rfl⟩:=h;obtain ⟨ns,rfl,rfl⟩:=ze7 _ _ h1;exact ⟨n::ns,rfl,rfl⟩
   · cases h
theorem z033 (ns:List Int):∀ s:ByteArray,ns.foldl (fun r n=>r.push (UInt8.ofNat n.toNat)) s=⟨s.data++(ns.map fun n=>UInt8.ofNat n.toNat).toArray⟩:=by
 induction ns with
 | nil=>intro s;simp
 | cons n ns ih =>
   intro s;rw [List.foldl_cons,ih];congr 1
   simp [ByteArray.push]
theorem z04s {src dst:TypeId} {x:Operand} {v:AV} (hr:HRel w X β H) (ht:z2c w (NN X β H) β t a.tmps) (ho:o.op=.convert src dst x) (he:convA P H src dst (opd t x)=some v):z3l P w (NN X β H) β a o v:=by
 have hx:=zp ht x;have hgo:∀ u,(convert src dst (a.eval x)).run P w=.ok u w->(execOp a.eval o).run P w=.ok (.value u) w:=by
  intro u h;simp only [execOp,ho,Sem.run_bind,h,Result.andThen_ok,Sem.run_pure]
 generalize a.eval x=xv at hx hgo;generalize opd t x=xa at hx he;unfold convA at he;split at he
 · rename_i s d hs hd;obtain ⟨sd,hsu,hsk⟩:=z86 hs;split at he
   · rename_i k _ k' n hk;cases he;rw [z18 hx] at hgo;refine ⟨_,hgo _ ?_,.imm (.int _ _)⟩;have hdu:=zni hd hk;simp only [convert,Sem.run_bind,run_underlying hsu,run_underlying hdu,Result.andThen_ok,Conv.intToInt,Sem.run_pure]
   · rename_i hk;cases he;rw [zcs hx] at hgo;refine ⟨_,hgo _ ?_,.imm (.str _)⟩;have hdu:=z2k hd hk;simp only [convert,Sem.run_bind,run_underlying hsu,run_underlying hdu,Result.andThen_ok,Sem.run_pure]
   · rename_i hks hkd _;split at he
     · rename_i rs hte hro;simp only [Option.map_eq_some_iff] at he;obtain ⟨l,h1,rfl⟩:=he;obtain ⟨ns,rfl,rfl⟩:=ze7 _ _ h1;obtain ⟨sc⟩:=zc8 (size:=1) hr hx hro (by omega) (fun i row h=>by
        rw [List.getElem?_map] at h;cases hn:ns[i]? with
        | none=>rw [hn] at h;cases h
        | some n=>rw [hn] at h;simp at h;rw [<- h];rfl)
       obtain ⟨ad,c,us,hv,hc,hlen,hcells,hrel⟩:=sc;have husl:us=ns.map (Value.int .u8):=by
        apply List.ext_getElem?
        intro i;by_cases hi:i<ns.length
        · obtain ⟨u,h2,h3⟩:=hrel i [AV.int .u8 ns[i]] 0 (.int .u8 ns[i]) (by simp [hi]) (by simp);rw [Nat.mul_one,Nat.add_zero] at h2;rw [h2,z18 h3];simp [hi]
        · rw [List.getElem?_eq_none (by rw [hlen];simp;omega),List.getElem?_eq_none (by simp;omega)]
       subst husl;rw [hv] at hgo;have hsu':=z0a hs hks;have hdu:=z2k hd hkd;have heu:=zni hte rfl;have hconv:∀ a l c,(convert src dst (.slice a l c)).run P w=(Conv.bytesToString (.slice a l c)).run P w:=fun a l c=>run_convert_bytes_string w src dst _ a l c hsu' heu hdu
       by_cases h0:0<ns.length
       · obtain ⟨ad',rfl,hsp,hcc⟩:=hcells (by simpa using h0);have hl:=run_loadCells_list (P:=P) w ad' (ns.map (Value.int .u8)) hcc;have hb:=run_bytesToString (P:=P) w ad' (ns.map fun n=>[AV.int .u8 n]).length c ns (by simpa using hl);refine ⟨_,hgo _ (by rw [hconv];exact hb),?_⟩;rw [z033];rw [show ByteArray.empty.data=#[] from rfl,Array.empty_append];exact .imm (.str _)
       · have hns:ns=[]:=List.eq_nil_of_length_eq_zero (by omega);subst hns;refine ⟨.string .empty,hgo _ (by rw [hconv];cases ad <;> simp [Conv.bytesToString,loadCells,loadCellsFrom]),?_⟩;exact .imm (.str _)
     · cases he
   · cases he
 · cases he
theorem zkn {N:Nat->Prop} {x:AV} {v:Value} {d n:Nat} (hx:Rel w N β x v) (h:bnd (some x) d=some n):∃ k i,v=.int k i /\ 0<=i /\ n=i.toNat:=by
 unfold bnd at h;split at h
 · rename_i e;cases e
 · rename_i k i e;cases e;split at h
   · rename_i h0;cases h;exact ⟨k,i,z18 hx,h0,rfl⟩
   · cases h
 · cases h
theorem z2l {N:Nat->Prop} {lo hi:Option Operand} {isS:Bool} {len cap l h:Nat} (ht:z2c w N β t a.tmps) (hl:bnd (lo.map (opd t)) 0=some l) (hh:bnd (hi.map (opd t)) len=some h) (h1:l<=h) (h2:h<=cap) :
 (Instr.sliceBounds isS len cap (lo.map a.eval) (hi.map a.eval) none).run P w=.ok (l,h,cap) w:=by
 cases lo with
 | none =>
   simp [bnd] at hl;subst hl;cases hi with
   | none=>simp [bnd] at hh;subst hh;simp [Instr.sliceBounds]
   | some hi =>
     obtain ⟨k,i,e,h0,rfl⟩:=zkn (zp ht hi) hh;simp [Instr.sliceBounds,e,run_sliceBound w k i cap _ h0 (by omega)]
 | some lo =>
   obtain ⟨k',i',e',h0',rfl⟩:=zkn (zp ht lo) hl;cases hi with
   | none =>
     simp [bnd] at hh;subst hh;simp [Instr.sliceBounds,e',run_sliceBound w k' i' len _ h0' (by omega)]
   | some hi =>
     obtain ⟨k,i,e,h0,rfl⟩:=zkn (zp ht hi) hh;simp [Instr.sliceBounds,e,e',run_sliceBound w k i cap _ h0 (by omega),run_sliceBound w k' i' i.toNat _ h0' (by omega)]
theorem z7h {N:Nat->Prop} {lo hi mx:Option Operand} {isS:Bool} {len cap l h m:Nat} {mv:AV} (ht:z2c w N β t a.tmps) (hl:bnd (lo.map (opd t)) 0=some l) (hh:bnd (hi.map (opd t)) len=some h) (hs:hi.isSome=true)
 (hmv:mx.map (opd t)=some mv) (hm:bnd (some mv) 0=some m) (h1:l<=h) (h2:h<=m) (h3:m<=cap) :
 (Instr.sliceBounds isS len cap (lo.map a.eval) (hi.map a.eval) (mx.map a.eval)).run P w=.ok (l,h,m) w:=by
 cases mx with
 | none=>cases hmv
 | some mx =>
   simp at hmv;subst hmv;obtain ⟨km,im,em,hm0,rfl⟩:=zkn (zp ht mx) hm;cases hi with
   | none=>cases hs
   | some hi =>
     obtain ⟨k,i,e,h0,rfl⟩:=zkn (zp ht hi) hh;cases lo with
     | none =>
       simp [bnd] at hl;subst hl;simp [Instr.sliceBounds,e,em,run_sliceBound w km im cap _ hm0 (by omega),run_sliceBound w k i im.toNat _ h0 (by omega)]
     | some lo =>
       obtain ⟨k',i',e',h0',rfl⟩:=zkn (zp ht lo) hl;simp [Instr.sliceBounds,e,e',em,run_sliceBound w km im cap _ hm0 (by omega),run_sliceBound w k i im.toNat _ h0 (by omega),run_sliceBound w k' i' i.toNat _ h0' (by omega)]
theorem z30 {α:Type} {rs:List α} {l n i:Nat} {x:α} (h:((rs.drop l).take n)[i]?=some x):i<n /\ rs[l+i]?=some x:=by
 rw [List.getElem?_take] at h;split at h
 · rw [List.getElem?_drop] at h;exact ⟨by assumption,h⟩
 · cases h
theorem zj1 {N:Nat->Prop} {rs:List (List AV)} {ad ad2:Option Addr} {k l n:Nat} {u:Nat->Nat->Value} (hk:∀ (i:Nat) row,rs[i]?=some row->row.length=k)
 (ha:0<rs.length->∃ ad',ad=some ad' /\ ad'.spot=none /\ ¬ N ad'.block /\ ad'.block<w.heap.size)
 (hu:∀ (ad':Addr) (i:Nat) row (j:Nat) x,ad=some ad'->rs[i]?=some row->row[j]?=some x->w.cell? ⟨ad'.block,ad'.off+(i*k+j),none⟩=some (u i j))
 (hr:∀ (i:Nat) row (j:Nat) x,rs[i]?=some row->row[j]?=some x->RelI w N x (u i j)) (hln:l+n<=rs.length) (h2:0<n->ad2=ad.map (·.add (l*k))) :
 (∀ (i:Nat) row,((rs.drop l).take n)[i]?=some row->row.length=k) /\
 (0<((rs.drop l).take n).length->∃ ad',ad2=some ad' /\ ad'.spot=none /\ ¬ N ad'.block /\ ad'.block<w.heap.size) /\
 (∀ (ad':Addr) (i:Nat) row (j:Nat) x,ad2=some ad'->((rs.drop l).take n)[i]?=some row->row[j]?=some x->w.cell? ⟨ad'.block,ad'.off+(i*k+j),none⟩=some (u (l+i) j)) /\
 (∀ (i:Nat) row (j:Nat) x,((rs.drop l).take n)[i]?=some row->row[j]?=some x->RelI w N x (u (l+i) j)):=by
 refine ⟨fun i row h=>hk _ row (z30 h).2,fun h0=>?_,fun ad' i row j x h1 h2' h3=>?_,fun i row j x h1 h2=>hr _ row j x (z30 h1).2 h2⟩
 · have hn:0<n:=by simp at h0;omega
   obtain ⟨ad',e,hs,hN,hlt⟩:=ha (by omega);subst e;rw [h2 hn];refine ⟨ad'.add (l*k),rfl,?_,?_,?_⟩
   · unfold Addr.add;split <;> simp [hs]
   · unfold Addr.add;split <;> exact hN
   · unfold Addr.add;split <;> exact hlt
 · obtain ⟨hi,h4⟩:=z30 h2';rw [h2 (by omega)] at h1;have hlen:l+i<rs.length:=(zG.1 h4).1;obtain ⟨ad0,e,hs,hN,hlt⟩:=ha (by omega);subst e;simp only [Option.map_some,Option.some.injEq] at h1;subst h1;have:=hu ad0 (l+i) row j x rfl h4 h3;have e1:(ad0.add (l*k)).block=ad0.block:=by unfold Addr.add;split <;> rfl
   have e2:(ad0.add (l*k)).off=ad0.off+l*k:=by unfold Addr.add;split <;> simp_all
   rw [e1,e2];have e3:ad0.off+l*k+(i*k+j)=ad0.off+((l+i)*k+j):=by rw [Nat.add_mul];omega
   rw [e3];exact this
end
end Clk
namespace Clk
open Go
section
variable {P:Program} {w:World} {X:Nat->Prop} {β:z13} {H:List AO} {t:List AV} {a:Act} {o:Oper}
theorem z31 {ty e:TypeId} {i te:TI} (hti:ti P ty=some i) (hk:i.kind=.slice e) (hte:ti P e=some te) (ad:Option Addr) (len cap l h m:Nat) (lo hi mx:Option Value)
 (hb:(Instr.sliceBounds true len cap lo hi mx).run P w=.ok (l,h,m) w) :
 (Instr.sliceAt ty (.slice ad len cap) lo hi mx).run P w=.ok (.slice (if m=l then ad else ad.map (·.add (l*te.size))) (h - l) (m - l)) w:=by
 have hu:=z0a hti hk;simp only [Instr.sliceAt,Instr.slice,Sem.run_bind,run_underlying hu,Result.andThen_ok,hb,zm hte,Sem.run_pure]
theorem zab {e:TypeId} {r:List (List AV)} (h:fitRows P e r=true):∃ te,ti P e=some te /\ ∀ (i:Nat) row,r[i]?=some row->row.length=te.size:=by
 unfold fitRows at h;split at h
 · rename_i te hte;exact ⟨te,hte,fun i row hr=>by simpa using List.all_eq_true.1 h row (List.mem_of_getElem? hr)⟩
 · cases h
theorem zeh {e:TypeId} {b v:Nat} (h:fitK P e H b v=true):∃ te l rows,ti P e=some te /\ H.getD b .none=.blk te.size v l rows:=by
 unfold fitK at h;split at h
 · rename_i te k v' l rows h1 h2;simp only [Bool.and_eq_true,beq_iff_eq] at h;obtain ⟨rfl,rfl⟩:=h;exact ⟨te,l,rows,h1,h2⟩
 · cases h
theorem z04t {e:TypeId} {b v:Nat} {te:TI} {bi:BI} (hr:HRel w X β H) (hte:ti P e=some te) (h:fitK P e H b v=true) (hb:β.getD b none=some bi):bi.k=te.size /\ v=bi.v:=by
 obtain ⟨te',l,rows,h1,h2⟩:=zeh h;rw [hte] at h1;cases h1;have:=hr.obj b bi hb;rw [h2] at this;exact ⟨this.1,this.2.1.symm⟩
theorem zj2 {rs:List (List AV)} {k s:Nat} (hk:∀ (i:Nat) row,rs[i]?=some row->row.length=k) (hs:∀ (i:Nat) row,rs[i]?=some row->row.length=s) (h0:0<rs.length):k=s:=by
 have h1:=zH (l:=rs) h0;rw [<- hk 0 _ h1,hs 0 _ h1]
theorem zse {ad:Option Addr} {m l k s n:Nat} (hn:0<n->m≠l) (hks:0<n->k=s):0<n->(if m=l then ad else ad.map (·.add (l*s)))=ad.map (·.add (l*k)):=by
 intro h;rw [if_neg (hn h),hks h]
theorem z034 {ty:TypeId} {x:Operand} {lo hi mx:Option Operand} {v:AV} (hr:HRel w X β H) (ht:z2c w (NN X β H) β t a.tmps) (ho:o.op=.slice ty x lo hi mx)
 (he:sliceA P H ty (opd t x) (lo.map (opd t)) (hi.map (opd t)) (mx.map (opd t))=some v):z3l P w (NN X β H) β a o v:=by
 have hx:=zp ht x;have hgo:∀ u,(Instr.sliceAt ty (a.eval x) (lo.map a.eval) (hi.map a.eval) (mx.map a.eval)).run P w=.ok u w->(execOp a.eval o).run P w=.ok (.value u) w:=by
  intro u h;simp only [execOp,ho,Sem.run_bind,h,Result.andThen_ok,Sem.run_pure]
 generalize a.eval x=xv at hx hgo;generalize opd t x=xa at hx he;unfold sliceA at he;split at he
 · rename_i i hti;split at he
   · -- a string
     rename_i s hk hmx;split at he
     · rename_i l h hl hh;split at he
       · rename_i hc;cases he;have hm0:mx=none:=by cases mx with | none=>rfl | some m=>simp at hmx
         subst hm0;rw [zcs hx] at hgo;have hu:=z2k hti hk;have hb:=z2l (P:=P) (isS:=false) (cap:=s.size) ht hl hh hc.1 hc.2;refine ⟨_,hgo _ ?_,.imm (.str _)⟩;simp only [Instr.sliceAt,Instr.slice,Sem.run_bind,run_underlying hu,Result.andThen_ok,Option.map_none,Option.isSome_none,Bool.false_eq_true,if_false,Sem.run_pure,hb]
       · cases he
     · cases he
   · rename_i e r hk hmx;split at he
     · rename_i l h hl hh;split at he
       · rename_i hc;cases he;have hm0:mx=none:=by cases mx with | none=>rfl | some m=>simp at hmx
         subst hm0;obtain ⟨te,hte,hfit⟩:=zab hc.2.2;cases hx with
         | imm hx =>
           cases hx with
           | @rows _ ad c k u hcc hkk ha hu hr' =>
             have hb:=z2l (P:=P) (isS:=true) (cap:=c) ht hl hh hc.1 (by omega);refine ⟨_,hgo _ (z31 hti hk hte ad r.length c l h c _ _ _ hb),.imm ?_⟩;obtain ⟨g1,g2,g3,g4⟩:=zj1 (l:=l) (n:=h - l) (ad2:=if c=l then ad else ad.map (·.add (l*te.size))) hkk ha hu hr' (by omega) (zse (fun h=>by omega) (fun h=>zj2 hkk hfit (by omega)));have hlen:((r.drop l).take (h - l)).length=h - l:=by simp;omega
             have:=RelI.rows (c:=c - l) (by omega) g1 g2 g3 g4;rw [hlen] at this;exact this
       · cases he
     · cases he
   · rename_i e r hk hmx;split at he
     · rename_i l h hl hh;split at he
       · rename_i hc;cases he;have hm0:mx=none:=by cases mx with | none=>rfl | some m=>simp at hmx
         subst hm0;obtain ⟨te,hte,hfit⟩:=zab hc.2.2;cases hx with
         | imm hx =>
           cases hx with
           | @crows _ ad k u hkk ha hu hr' =>
             have hb:=z2l (P:=P) (isS:=true) (cap:=r.length) ht hl hh hc.1 (by omega);refine ⟨_,hgo _ (z31 hti hk hte ad r.length r.length l h r.length _ _ _ hb),.imm ?_⟩;obtain ⟨g1,g2,g3,g4⟩:=zj1 (l:=l) (n:=h - l) (ad2:=if r.length=l then ad else ad.map (·.add (l*te.size))) hkk ha hu hr' (by omega) (zse (fun h=>by omega) (fun h=>zj2 hkk hfit (by omega)));have hlen:((r.drop l).take (h - l)).length=h - l:=by simp;omega
             have:=RelI.rows (c:=r.length - l) (by omega) g1 g2 g3 g4;rw [hlen] at this;exact this
       · cases he
     · cases he
   · rename_i e r m hk hmx;split at he
     · rename_i l h m' hl hh hm;split at he
       · rename_i hc;cases he;obtain ⟨te,hte,hfit⟩:=zab hc.2.2.2.2;cases hx with
         | imm hx =>
           cases hx with
           | @rows _ ad c k u hcc hkk ha hu hr' =>
             have hb:=z7h (P:=P) (isS:=true) (cap:=c) ht hl hh (by simpa using hc.2.2.2.1) hmx hm hc.1 (by omega) (by omega);refine ⟨_,hgo _ (z31 hti hk hte ad r.length c l h m' _ _ _ hb),.imm ?_⟩;obtain ⟨g1,g2,g3,g4⟩:=zj1 (l:=l) (n:=h - l) (ad2:=if m'=l then ad else ad.map (·.add (l*te.size))) hkk ha hu hr' (by omega) (zse (fun h=>by omega) (fun h=>zj2 hkk hfit (by omega)));have hlen:((r.drop l).take (h - l)).length=h - l:=by simp;omega
             have:=RelI.crows g1 g2 g3 g4;rw [hlen] at this;have e2:m' - l=h - l:=by omega
             rw [e2];exact this
       · cases he
     · cases he
   · rename_i e r m hk hmx;split at he
     · rename_i l h m' hl hh hm;split at he
       · rename_i hc;cases he;obtain ⟨te,hte,hfit⟩:=zab hc.2.2.2.2;cases hx with
         | imm hx =>
           cases hx with
           | @crows _ ad k u hkk ha hu hr' =>
             have hb:=z7h (P:=P) (isS:=true) (cap:=r.length) ht hl hh (by simpa using hc.2.2.2.1) hmx hm hc.1 (by omega) (by omega);refine ⟨_,hgo _ (z31 hti hk hte ad r.length r.length l h m' _ _ _ hb),.imm ?_⟩;obtain ⟨g1,g2,g3,g4⟩:=zj1 (l:=l) (n:=h - l) (ad2:=if m'=l then ad else ad.map (·.add (l*te.size))) hkk ha hu hr' (by omega) (zse (fun h=>by omega) (fun h=>zj2 hkk hfit (by omega)));have hlen:((r.drop l).take (h - l)).length=h - l:=by simp;omega
             have:=RelI.crows g1 g2 g3 g4;rw [hlen] at this;have e2:m' - l=h - l:=by omega
             rw [e2];exact this
       · cases he
     · cases he
   · rename_i e b ve of n hk hmx;split at he
     · rename_i l h hl hh;split at he
       · rename_i hc;cases he;have hm0:mx=none:=by cases mx with | none=>rfl | some m=>simp at hmx
         subst hm0;obtain ⟨te,lv,rows,hte,hH⟩:=zeh hc.2.2;cases hx with
         | imm hx=>cases hx
         | @ref _ _ _ _ c bi ad hb hv hcc hcur =>
           have hbd:=z2l (P:=P) (isS:=true) (cap:=c) ht hl hh hc.1 (by omega);refine ⟨_,hgo _ (z31 hti hk hte ad n c l h c _ _ _ hbd),.ref hb hv (by omega) (fun e=>?_)⟩;obtain ⟨h1,cs,T,h2,h3⟩:=hcur e;have hkk:=(z04t hr hte hc.2.2 hb).1;refine ⟨fun h0=>?_,cs,T,h2,?_⟩
           · have hne:c≠l:=by omega
             rw [if_neg hne,h1 (by omega)];simp only [Option.map_some,z4w,hkk,Nat.add_mul]
           · have:of+l+(c - l)=of+c:=by omega
             rw [this];exact h3
       · cases he
     · cases he
   · rename_i n e b ve hk hmx;split at he
     · rename_i l h hl hh;split at he
       · rename_i k v' lv rows hH;split at he
         · rename_i hc;cases he;have hm0:mx=none:=by cases mx with | none=>rfl | some m=>simp at hmx
           subst hm0;obtain ⟨te,lv2,rows2,hte,hH2⟩:=zeh hc.2.2.2.2;rw [hH] at hH2;cases hH2;cases hx with
           | imm hx=>cases hx
           | @ptr _ _ _ _ bi ad hb hv hcur =>
             have hob:=hr.obj b bi hb;rw [hH] at hob;obtain ⟨e1,e2,e3,_,cs,T,h5,h6,h7,h8⟩:=hob;have had:=hcur (by omega);subst had;have hbd:=z2l (P:=P) (isS:=false) (len:=n) (cap:=n) ht hl hh hc.1 hc.2.1;have hu:=z8z hti hk;refine ⟨.slice (some (if n=l then ⟨bi.r,0*bi.k+0,none⟩ else (⟨bi.r,0*bi.k+0,none⟩:Addr).add (l*te.size))) (h - l) (n - l),hgo _ ?_,.ref hb hv (by omega) (fun e=>⟨fun h0=>?_,cs,T,h5,?_⟩)⟩
             · simp only [Instr.sliceAt,Sem.run_bind,run_underlying hu,Result.andThen_ok,Instr.sureAddr,Sem.run_pure,Option.map_none,hbd,zm hte]
             · have hne:n≠l:=by omega
               rw [if_neg hne,z4w,e1];simp
             · have:l+(n - l)=n:=by omega
               rw [this,e1,hc.2.2.2.1];exact h6
         · cases he
       · cases he
     · cases he
   · rename_i e b ve of n m hk hmx;split at he
     · rename_i te hte hl hh hm;split at he
       · rename_i hs;cases he;obtain ⟨ad,c,rfl,hcc⟩:=z04q hx;have hm':bnd (some m) 0=some 0:=by cases m <;> first | (simp [bnd] at hm ⊢;exact hm) | (simp [bnd] at hm)
         have hh':bnd (hi.map (opd t)) n=some 0:=by
          cases hi with
          | none=>simp at hs
          | some y=>simp only [Option.map_some] at hh ⊢;generalize opd t y=z at hh ⊢;cases z <;> first | (simp only [bnd] at hh ⊢;exact hh) | (simp [bnd] at hh)
         have hbd:=z7h (P:=P) (w:=w) (isS:=true) (cap:=c) ht hl hh' (by simpa using hs) hmx hm' (Nat.le_refl _) (Nat.le_refl _) (Nat.zero_le _);exact ⟨_,hgo _ (z31 hti hk hte ad n c 0 0 0 _ _ _ hbd),.imm (RelI.crows (l:=[]) (k:=0) (u:=fun _ _=>undef) (fun _ _ h=>by simp at h) (fun h=>absurd h (by simp)) (fun _ _ _ _ _ _ h=>by simp at h) (fun _ _ _ _ h=>by simp at h))⟩
       · cases he
     · cases he
   · cases he
 · cases he
theorem z04u (ad:Addr) (n:Nat) (h:ad.spot=none):ad.add n=⟨ad.block,ad.off+n,none⟩:=by
 obtain ⟨b,o,s⟩:=ad;simp only at h;subst h;exact z4w b o n
theorem zq3 {s:TypeId} {x:Operand} {f:Nat} {v:AV} (ht:z2c w (NN X β H) β t a.tmps) (ho:o.op=.fieldAddr s x f) (he:z26 P s (opd t x) f=some v):z3l P w (NN X β H) β a o v:=by
 have hx:=zp ht x;have hgo:∀ u,(Instr.fieldAt s (a.eval x) f).run P w=.ok u w->(execOp a.eval o).run P w=.ok (.value u) w:=by
  intro u h;simp only [execOp,ho,Sem.run_bind,h,Result.andThen_ok,Sem.run_pure]
 generalize a.eval x=xv at hx hgo;generalize opd t x=xa at hx he;unfold z26 at he;split at he
 · rename_i fs _ hti;split at he
   · rename_i off ft hf;split at he
     · rename_i i htf;split at he
       · cases he
       · rename_i h0;obtain ⟨gs,hu,hfs⟩:=zaa hti rfl;rw [hfs,List.getElem?_map] at hf;cases hg:gs.toList[f]? with
         | none=>rw [hg] at hf;cases hf
         | some g =>
           rw [hg] at hf;simp at hf;obtain ⟨rfl,rfl⟩:=hf;have hg':gs[f]?=some g:=by rw [<- Array.getElem?_toList];exact hg
           have run:∀ ad,xv=.pointer (some ad)->(Instr.fieldAt s xv f).run P w=.ok (.pointer (some (ad.add g.offset))) w:=by
            intro ad e;subst e;simp only [Instr.fieldAt,Sem.run_bind,run_underlying hu,Result.andThen_ok,hg',Instr.sureAddr,Sem.run_pure,fieldPlace,zm htf,h0,if_false]
           split at he
           · rename_i l j;cases he;cases hx with
             | imm hx =>
               cases hx with
               | @iptr _ _ b of u hN hlt hu' hr' =>
                 refine ⟨_,hgo _ (run _ rfl),.imm ?_⟩;rw [z4w,Nat.add_assoc];exact .iptr hN hlt hu' hr'
           · rename_i b ve i' j;cases he;cases hx with
             | imm hx=>cases hx
             | @ptr _ _ _ _ bi ad hb hv hcur =>
               refine ⟨_,hgo _ (run _ rfl),.ptr hb hv (fun e=>?_)⟩;rw [hcur e,z4w,Nat.add_assoc]
           · cases he
     · cases he
   · cases he
 · cases he
theorem zlq {e:TypeId} {r:List AV} (h:rowSize P e r=true):∃ te,ti P e=some te /\ r.length=te.size:=by
 unfold rowSize at h;split at h
 · rename_i te hte;exact ⟨te,hte,by simpa using h⟩
 · cases h
theorem z90 {ty e:TypeId} {i te:TI} {k:IntKind} {n:Int} {len cap:Nat} {ad:Addr} (hti:ti P ty=some i) (hk:i.kind=.slice e) (hte:ti P e=some te) (h0:0<=n) (h1:n<len) :
 (Instr.indexAt ty (.slice (some ad) len cap) (.int k n)).run P w=.ok (.pointer (some (ad.add (n.toNat*te.size)))) w:=by
 have hu:=z0a hti hk;simp only [Instr.indexAt,asIntOf,Sem.run_bind,Sem.run_pure,run_underlying hu,Result.andThen_ok,h0,h1,and_self,if_true,zm hte]
theorem zvb {N:Nat->Prop} {l:List (List AV)} {ad:Option Addr} {k n:Nat} {u:Nat->Nat->Value} (hk:∀ (i:Nat) row,l[i]?=some row->row.length=k)
 (ha:0<l.length->∃ ad',ad=some ad' /\ ad'.spot=none /\ ¬ N ad'.block /\ ad'.block<w.heap.size)
 (hu:∀ (ad':Addr) (i:Nat) row (j:Nat) x,ad=some ad'->l[i]?=some row->row[j]?=some x->w.cell? ⟨ad'.block,ad'.off+(i*k+j),none⟩=some (u i j))
 (hr:∀ (i:Nat) row (j:Nat) x,l[i]?=some row->row[j]?=some x->RelI w N x (u i j)) (hn:n<l.length) :
 ∃ ad',ad=some ad' /\ RelI w N (.iptr (l.getD n []) 0) (.pointer (some (ad'.add (n*k)))):=by
 obtain ⟨ad',e,hs,hN,hlt⟩:=ha (by omega);refine ⟨ad',e,?_⟩;have h1:l[n]?=some (l.getD n []):=by rw [zI,zH hn];rfl
 rw [z04u _ _ hs];have:=RelI.iptr (l:=l.getD n []) (j:=0) (b:=ad'.block) (o:=ad'.off+n*k) (u:=fun j=>u n j) hN hlt (fun j x h=>by rw [Nat.add_assoc];exact hu ad' n _ j x e h1 h) (fun j x h=>hr n _ j x h1 h);simpa using this
theorem zq4 {ty:TypeId} {x ix:Operand} {v:AV} (hr:HRel w X β H) (ht:z2c w (NN X β H) β t a.tmps) (ho:o.op=.indexAddr ty x ix) (he:z0g P H ty (opd t x) (opd t ix)=some v):z3l P w (NN X β H) β a o v:=by
 have hx:=zp ht x;have hi:=zp ht ix;have hgo:∀ u,(Instr.indexAt ty (a.eval x) (a.eval ix)).run P w=.ok u w->(execOp a.eval o).run P w=.ok (.value u) w:=by
  intro u h;simp only [execOp,ho,Sem.run_bind,h,Result.andThen_ok,Sem.run_pure]
 generalize a.eval x=xv at hx hgo;generalize opd t x=xa at hx he;generalize a.eval ix=iv at hi hgo;generalize opd t ix=ia at hi he;unfold z0g at he;split at he
 · rename_i i kk n hti;rw [z18 hi] at hgo;split at he
   · rename_i e l hk;split at he
     · rename_i hn;split at he
       · rename_i hrs;cases he;obtain ⟨te,hte,hsz⟩:=zlq hrs;cases hx with
         | imm hx =>
           cases hx with
           | @rows _ ad c k u hcc hkk ha hu hr' =>
             have hlt:n.toNat<l.length:=by omega
             obtain ⟨ad',rfl,hrel⟩:=zvb hkk ha hu hr' hlt;have hks:k=te.size:=by rw [<- hsz,zI,zH hlt];exact (hkk _ _ (zH hlt)).symm
             rw [hks] at hrel;exact ⟨_,hgo _ (z90 hti hk hte hn.1 hn.2),.imm hrel⟩
       · cases he
     · cases he
   · rename_i e l hk;split at he
     · rename_i hn;split at he
       · rename_i hrs;cases he;obtain ⟨te,hte,hsz⟩:=zlq hrs;cases hx with
         | imm hx =>
           cases hx with
           | @crows _ ad k u hkk ha hu hr' =>
             have hlt:n.toNat<l.length:=by omega
             obtain ⟨ad',rfl,hrel⟩:=zvb hkk ha hu hr' hlt;have hks:k=te.size:=by rw [<- hsz,zI,zH hlt];exact (hkk _ _ (zH hlt)).symm
             rw [hks] at hrel;exact ⟨_,hgo _ (z90 hti hk hte hn.1 hn.2),.imm hrel⟩
       · cases he
     · cases he
   · rename_i e b ve of len hk;split at he
     · rename_i hn;split at he
       · rename_i hfk;cases he;cases hx with
         | imm hx=>cases hx
         | @ref _ _ _ _ c bi ad hb hv hcc hcur =>
           obtain ⟨te,lv,rows,hte,hH⟩:=zeh hfk;obtain ⟨hkk,hvv⟩:=z04t hr hte hfk hb;obtain ⟨h1,cs,T,h2,h3⟩:=hcur hvv;have had:=h1 (by omega);subst had;refine ⟨_,hgo _ (z90 hti hk hte hn.1 hn.2),.ptr hb hv (fun _=>?_)⟩;rw [z4w,<- hkk,Nat.add_mul,Nat.add_zero]
       · cases he
     · cases he
   · rename_i len e b ve hk;split at he
     · rename_i hn;split at he
       · rename_i hfk;cases he;cases hx with
         | imm hx=>cases hx
         | @ptr _ _ _ _ bi ad hb hv hcur =>
           obtain ⟨te,lv,rows,hte,hH⟩:=zeh hfk;obtain ⟨hkk,hvv⟩:=z04t hr hte hfk hb;have hu:=z8z hti hk;refine ⟨.pointer (some (ad.add (n.toNat*te.size))),hgo _ ?_,.ptr hb hv (fun e=>?_)⟩
           · simp only [Instr.indexAt,asIntOf,Sem.run_bind,Sem.run_pure,run_underlying hu,Result.andThen_ok,Instr.sureAddr,hn.1,hn.2,and_self,if_true,zm hte]
           · rw [hcur e,z4w,hkk];simp
       · cases he
     · cases he
   · cases he
 · cases he
end
end Clk
namespace Clk
open Go
section
variable {P:Program} {w:World} {X:Nat->Prop} {β:z13} {H:List AO} {t:List AV} {a:Act} {o:Oper}
theorem zvc {N:Nat->Prop} {ty:TypeId} {i:TI} {l:List AV} {vs:Array Value} {off:Nat} {v:AV} (hti:ti P ty=some i) (hs:vs.size=l.length) (hr:∀ (i:Nat) a u,l[i]?=some a->vs[i]?=some u->Rel w N β a u)
 (he:partA i l off=some v):∃ u,(part ty vs off).run P w=.ok u w /\ Rel w N β v u:=by
 unfold partA at he;split at he
 · rename_i hle;split at he
   · rename_i hg;cases he;refine ⟨.agg (vs.extract off (off+i.size)),?_,.agg (by simp;omega) (fun k x u h1 h2=>?_)⟩
     · simp only [part,Sem.run_bind,z4p hti,Result.andThen_ok,hg,if_true,zm hti,Sem.run_pure]
     · rw [List.getElem?_take] at h1;split at h1
       · rename_i hk;rw [List.getElem?_drop] at h1;rw [Array.getElem?_extract] at h2;split at h2
         · exact hr _ _ _ h1 h2
         · cases h2
       · cases h1
   · rename_i hg;split at he
     · have hlt:=(zG.1 he).1;have hu:vs[off]?=some _:=Array.getElem?_eq_getElem (by omega);refine ⟨_,?_,hr _ _ _ he hu⟩;simp only [part,Sem.run_bind,z4p hti,Result.andThen_ok,hg,Bool.false_eq_true,if_false,hu,Sem.run_pure]
     · cases he
 · cases he
theorem z035 {ty:TypeId} {x:Operand} {f:Nat} {v:AV} (ht:z2c w (NN X β H) β t a.tmps) (ho:o.op=.field ty x f) (he:fieldA P ty (opd t x) f=some v):z3l P w (NN X β H) β a o v:=by
 have hx:=zp ht x;have hgo:∀ u,(Instr.field ty (a.eval x) f).run P w=.ok u w->(execOp a.eval o).run P w=.ok (.value u) w:=by
  intro u h;simp only [execOp,ho,Sem.run_bind,h,Result.andThen_ok,Sem.run_pure]
 generalize a.eval x=xv at hx hgo;generalize opd t x=xa at hx he;unfold fieldA at he;split at he
 · rename_i fs _ _ _ _ l hti;split at he
   · rename_i off ft hf;split at he
     · rename_i i htf;obtain ⟨gs,hu,hfs⟩:=zaa hti rfl;rw [hfs,List.getElem?_map] at hf;cases hg:gs.toList[f]? with
       | none=>rw [hg] at hf;cases hf
       | some g =>
         rw [hg] at hf;simp at hf;obtain ⟨rfl,rfl⟩:=hf;have hg':gs[f]?=some g:=by rw [<- Array.getElem?_toList];exact hg
         obtain ⟨vs,rfl,hs,hr⟩:=zkm hx;obtain ⟨u,h1,h2⟩:=zvc htf hs hr he;exact ⟨u,hgo u (by simp only [Instr.field,Sem.run_bind,run_underlying hu,Result.andThen_ok,hg',asAgg,Sem.run_pure,h1]),h2⟩
     · cases he
   · cases he
 · cases he
theorem z036 {ty:TypeId} {x ix:Operand} {v:AV} (ht:z2c w (NN X β H) β t a.tmps) (ho:o.op=.index ty x ix) (he:indexA P ty (opd t x) (opd t ix)=some v):z3l P w (NN X β H) β a o v:=by
 have hx:=zp ht x;have hi:=zp ht ix;have hgo:∀ u,(Instr.index ty (a.eval x) (a.eval ix)).run P w=.ok u w->(execOp a.eval o).run P w=.ok (.value u) w:=by
  intro u h;simp only [execOp,ho,Sem.run_bind,h,Result.andThen_ok,Sem.run_pure]
 generalize a.eval x=xv at hx hgo;generalize opd t x=xa at hx he;generalize a.eval ix=iv at hi hgo;generalize opd t ix=ia at hi he;unfold indexA at he;split at he
 · rename_i i kk n hti;rw [z18 hi] at hgo;split at he
   · rename_i s hk;split at he
     · rename_i hn;cases he;rw [zcs hx] at hgo;have hu:=z2k hti hk;have hlt:n.toNat<s.size:=by omega
       refine ⟨_,hgo _ ?_,.imm (.int _ _)⟩;have hg:s[n.toNat]?=some (s.data.getD n.toNat 0):=by
        rw [ByteArray.getElem?_lt' s _ hlt];have h2:n.toNat<s.data.size:=hlt;rw [Array.getD_eq_getD_getElem?,Array.getElem?_eq_getElem h2];rfl
       simp only [Instr.index,asIntOf,Sem.run_bind,Sem.run_pure,run_underlying hu,Result.andThen_ok,hn.1,if_true,hg]
     · cases he
   · rename_i len e l hk;split at he
     · rename_i hn;split at he
       · rename_i te hte;obtain ⟨vs,rfl,hs,hr⟩:=zkm hx;obtain ⟨u,h1,h2⟩:=zvc hte hs hr he;have hu:=z8z hti hk;exact ⟨u,hgo u (by simp only [Instr.index,asIntOf,Sem.run_bind,Sem.run_pure,run_underlying hu,Result.andThen_ok,hn.1,hn.2,and_self,if_true,zm hte,h1]),h2⟩
       · cases he
     · cases he
   · cases he
 · cases he
theorem z080 {ts:Array TypeId} {args:Array Operand} {ty:TypeId} {xs:List TypeId} {x:Operand} {rest:List Operand} {v:AV} (ht:z2c w (NN X β H) β t a.tmps) (ho:o.op=.call { callee:=.builtin .len,args:=args,argTypes:=ts })
 (h1:ts.toList=ty::xs) (h2:args.toList=x::rest) (he:lenA P ty (opd t x)=some v):z3l P w (NN X β H) β a o v:=by
 have hx:=zp ht x;have t0:ts[0]?=some ty:=by rw [<- Array.getElem?_toList,h1];rfl
 have a0:(args.map a.eval)[0]?=some (a.eval x):=by rw [Array.getElem?_map,<- Array.getElem?_toList,h2];rfl
 have hgo:∀ u,(Builtin.len_ ts o.type (args.map a.eval)).run P w=.ok u w->(execOp a.eval o).run P w=.ok (.value u) w:=by
  intro u h;simp only [execOp,ho,resolve,Sem.run_bind,Sem.run_pure,Result.andThen_ok,invoke,builtin,h]
 unfold lenA at he;split at he
 · rename_i i hti;split at he
   · rename_i s hk hop;cases he;rw [hop] at hx;refine ⟨_,hgo _ ?_,.imm (.int _ _)⟩;simp only [Builtin.len_,t0,a0,zcs hx,Sem.run_bind,run_underlying (z2k hti hk),Result.andThen_ok,Sem.run_pure,goInt]
   · rename_i e l hk hop;cases he;rw [hop] at hx;obtain ⟨ad,c,e1,_⟩:=z07y hx;refine ⟨_,hgo _ ?_,.imm (.int _ _)⟩;simp only [Builtin.len_,t0,a0,e1,Sem.run_bind,run_underlying (z0a hti hk),Result.andThen_ok,Sem.run_pure,goInt]
   · rename_i e l hk hop;cases he;rw [hop] at hx;obtain ⟨ad,e1⟩:=znj hx;refine ⟨_,hgo _ ?_,.imm (.int _ _)⟩;simp only [Builtin.len_,t0,a0,e1,Sem.run_bind,run_underlying (z0a hti hk),Result.andThen_ok,Sem.run_pure,goInt]
   · rename_i e b ve of n hk hop;cases he;rw [hop] at hx;obtain ⟨ad,c,e1,_⟩:=z04q hx;refine ⟨_,hgo _ ?_,.imm (.int _ _)⟩;simp only [Builtin.len_,t0,a0,e1,Sem.run_bind,run_underlying (z0a hti hk),Result.andThen_ok,Sem.run_pure,goInt]
   · rename_i hk;cases he;refine ⟨_,hgo _ ?_,.imm (.int _ _)⟩;simp only [Builtin.len_,t0,a0,Sem.run_bind,run_underlying (z8z hti hk),Result.andThen_ok,Sem.run_pure,goInt]
   · cases he
 · cases he
theorem znn {N:Nat->Prop} {f:AV->AV->Option AV} {g:Value->Value->Sem Value} (hfg:∀ x y r u v,f x y=some r->Rel w N β x u->Rel w N β y v->∃ z,(g u v).run P w=.ok z w /\ Rel w N β r z) :
 ∀ (xs:List AV) (us:List Value),us.length=xs.length->(∀ (i:Nat) x u,xs[i]?=some x->us[i]?=some u->Rel w N β x u)->∀ x u r,Rel w N β x u->foldA f x xs=some r->∃ z,(us.foldlM g u).run P w=.ok z w /\ Rel w N β r z
 | [],us,hl,_,x,u,r,hx,he=>by
   have:us=[]:=List.eq_nil_of_length_eq_zero (by simpa using hl);subst this;simp [foldA] at he;subst he;exact ⟨u,by simp [List.foldlM_nil],hx⟩
 | y::ys,us,hl,hr,x,u,r,hx,he=>by
   cases us with
   | nil=>simp at hl
   | cons v vs =>
     simp only [foldA] at he;split at he
     · rename_i r1 h1;obtain ⟨z,hz,hrz⟩:=hfg x y r1 u v h1 hx (hr 0 y v rfl rfl);obtain ⟨z2,hz2,hr2⟩:=znn hfg ys vs (by simpa using hl) (fun i x u h1 h2=>hr (i+1) x u (by simpa using h1) (by simpa using h2)) r1 z r hrz he;exact ⟨z2,by simp only [List.foldlM_cons,Sem.run_bind,hz,Result.andThen_ok,hz2],hr2⟩
     · cases he
theorem z081 {N:Nat->Prop} (x y r:AV) (u v:Value) (he:min2A x y=some r) (hx:Rel w N β x u) (hy:Rel w N β y v):∃ z,(Builtin.min2 u v).run P w=.ok z w /\ Rel w N β r z:=by
 unfold min2A at he;split at he
 · cases he;rw [z18 hx,z18 hy];exact ⟨_,rfl,.imm (.int _ _)⟩
 · cases he
theorem z082 {N:Nat->Prop} (x y r:AV) (u v:Value) (he:max2A x y=some r) (hx:Rel w N β x u) (hy:Rel w N β y v):∃ z,(Builtin.max2 u v).run P w=.ok z w /\ Rel w N β r z:=by
 unfold max2A at he;split at he
 · cases he;rw [z18 hx,z18 hy];exact ⟨_,rfl,.imm (.int _ _)⟩
 · cases he
theorem zsf {N:Nat->Prop} (ht:z2c w N β t a.tmps) (l:List Operand):∀ (i:Nat) x u,(l.map (opd t))[i]?=some x->(l.map a.eval)[i]?=some u->Rel w N β x u:=by
 intro i x u h1 h2;rw [List.getElem?_map] at h1 h2;cases h:l[i]? with
 | none=>rw [h] at h1;cases h1
 | some y=>rw [h] at h1 h2;simp at h1 h2;subst h1;subst h2;exact zp ht y
theorem z083 {ts:Array TypeId} {args:Array Operand} {x:Operand} {rest:List Operand} {v:AV} (ht:z2c w (NN X β H) β t a.tmps) (ho:o.op=.call { callee:=.builtin .min,args:=args,argTypes:=ts })
 (h2:args.toList=x::rest) (he:foldA min2A (opd t x) (rest.map (opd t))=some v):z3l P w (NN X β H) β a o v:=by
 obtain ⟨z,h1,h3⟩:=znn (P:=P) z081 (rest.map (opd t)) (rest.map a.eval) (by simp) (zsf ht rest) _ _ _ (zp ht x) he;refine ⟨z,?_,h3⟩;have:(args.map a.eval).toList=a.eval x::rest.map a.eval:=by rw [Array.toList_map,h2];rfl
 simp only [execOp,ho,resolve,Sem.run_bind,Sem.run_pure,Result.andThen_ok,invoke,builtin,Builtin.min_,this,h1]
theorem z084 {ts:Array TypeId} {args:Array Operand} {x:Operand} {rest:List Operand} {v:AV} (ht:z2c w (NN X β H) β t a.tmps) (ho:o.op=.call { callee:=.builtin .max,args:=args,argTypes:=ts })
 (h2:args.toList=x::rest) (he:foldA max2A (opd t x) (rest.map (opd t))=some v):z3l P w (NN X β H) β a o v:=by
 obtain ⟨z,h1,h3⟩:=znn (P:=P) z082 (rest.map (opd t)) (rest.map a.eval) (by simp) (zsf ht rest) _ _ _ (zp ht x) he;refine ⟨z,?_,h3⟩;have:(args.map a.eval).toList=a.eval x::rest.map a.eval:=by rw [Array.toList_map,h2];rfl
 simp only [execOp,ho,resolve,Sem.run_bind,Sem.run_pure,Result.andThen_ok,invoke,builtin,Builtin.max_,this,h1]
theorem z019 {x:Operand} (ht:z2c w (NN X β H) β t a.tmps) (ho:o.op=.move x \/ o.op=.assign x):z3l P w (NN X β H) β a o (opd t x) :=
 ⟨a.eval x,by rcases ho with ho | ho <;> simp only [execOp,ho,Sem.run_pure],zp ht x⟩
theorem z01a {c x y:Operand} {b:Bool} (ht:z2c w (NN X β H) β t a.tmps) (ho:o.op=.pick c x y) (hc:opd t c=.bool b):z3l P w (NN X β H) β a o (opd t (if b then x else y)):=by
 have h:=zp ht c;rw [hc] at h;refine ⟨a.eval (if b then x else y),?_,zp ht _⟩;cases b <;> simp only [execOp,ho,z4x h,asBool,Sem.run_bind,Sem.run_pure,Result.andThen_ok,if_true,Bool.false_eq_true,if_false]
theorem zsg {x:Operand} (ht:z2c w (NN X β H) β t a.tmps) (ho:o.op=.nilCheck x) (hc:(∃ b v i j,opd t x=.ptr b v i j) \/ (∃ l j,opd t x=.iptr l j) \/ (∃ f l m,opd t x=.fn f l m) \/ (∃ l,opd t x=.yield l)):z3l P w (NN X β H) β a o (opd t x):=by
 have h:=zp ht x;refine ⟨a.eval x,?_,h⟩;generalize hq:a.eval x=xv at h;rcases hc with ⟨b,v,i,j,e⟩ | ⟨l,j,e⟩ | ⟨f,l,m,e⟩ | ⟨l,e⟩ <;> rw [e] at h
 · cases h with
   | imm h=>cases h
   | ptr hb hv hh=>simp only [execOp,ho,hq,Sem.run_pure]
 · cases h with
   | imm h=>cases h with | iptr=>simp only [execOp,ho,hq,Sem.run_pure]
 · cases h with
   | imm h=>cases h with | fn=>simp only [execOp,ho,hq,Sem.run_pure]
   | fn=>simp only [execOp,ho,hq,Sem.run_pure]
 · cases h with
   | imm h=>cases h
   | yield hb hk=>simp only [execOp,ho,hq,Sem.run_pure]
theorem zyy {x:Operand} {ix:Nat} {l:List AV} {v:AV} (ht:z2c w (NN X β H) β t a.tmps) (ho:o.op=.extract x ix) (hc:opd t x=.tup l) (he:l[ix]?=some v):z3l P w (NN X β H) β a o v:=by
 have h:=zp ht x;rw [hc] at h;obtain ⟨vs,e,hs,hr⟩:=zyx h;have hlt:=(zG.1 he).1;have hu:vs[ix]?=some _:=Array.getElem?_eq_getElem (by omega);exact ⟨_,by simp only [execOp,ho,Instr.extract,e,hu,Sem.run_bind,Sem.run_pure,Result.andThen_ok],hr _ _ _ he hu⟩
theorem z04v {ty:TypeId} {x:Operand} {i:TI} (ht:z2c w (NN X β H) β t a.tmps) (ho:o.op=.makeInterface ty x) (hti:ti P ty=some i) (hk:i.kind≠.iface):z3l P w (NN X β H) β a o (.iface ty (opd t x)):=by
 obtain ⟨d,h1,h2⟩:=z86 hti;refine ⟨.iface ty (a.eval x),?_,.iface ty (zp ht x)⟩;rw [h2] at hk;simp only [execOp,ho,Instr.makeInterface,Sem.run_bind,run_underlying h1,Result.andThen_ok];cases d <;> first | exact absurd rfl hk | rfl
theorem zj3 {N:Nat->Prop} (ht:z2c w N β t a.tmps) (l:Array Operand):(l.map a.eval).size=(l.toList.map (opd t)).length /\ ∀ (i:Nat) x u,(l.toList.map (opd t))[i]?=some x->(l.map a.eval)[i]?=some u->Rel w N β x u:=by
 refine ⟨by simp,fun i x u h1 h2=>zsf ht l.toList i x u h1 ?_⟩;rw [<- h2,<- Array.toList_map,Array.getElem?_toList]
theorem z0ct {f:FuncId} {first cap:Array Operand} (ht:z2c w (NN X β H) β t a.tmps) (ho:o.op=.makeFunc (.func f) first cap):z3l P w (NN X β H) β a o (.fn f (first.toList.map (opd t)) (cap.toList.map (opd t))) :=
 ⟨.func (.func f) (first.map a.eval) (cap.map a.eval),by simp only [execOp,ho,Instr.makeFunc,Sem.run_bind,Sem.run_pure,Result.andThen_ok],
  .fn (zj3 ht first).1 (zj3 ht first).2 (zj3 ht cap).1 (zj3 ht cap).2⟩
end
end Clk
namespace Clk
open Go
section
variable {P:Program} {w:World} {X:Nat->Prop} {β:z13} {H:List AO} {t:List AV} {a:Act} {o:Oper}
def Out (P:Program) (w:World) (X:Nat->Prop) (β:z13) (H:List AO) (a:Act) (slot:Nat) (o:Oper) (v:AV) (ch:Option (Nat×AO)):Prop :=
 ∃ u w' β',((execOp a.eval o).run P w=.ok (.value u) w' \/ ((execOp a.eval o).run P w=.ok .skip w' /\ u=undef)) /\
  HRel w' X β' (zi H ch) /\ Rel w' (NN X β' (zi H ch)) β' v u /\ Fr w (zn β H) β w' (zn β' (zi H ch)) β' /\
  (∀ b,b≠slot->β.getD b none=none->β'.getD b none=none)
theorem Out.val {slot:Nat} {v:AV} (hr:HRel w X β H) (h:z3l P w (NN X β H) β a o v):Out P w X β H a slot o v none:=by
 obtain ⟨u,h1,h2⟩:=h;exact ⟨u,w,β,.inl h1,hr,h2,Fr.refl _ _ _,fun _ _ h=>h⟩
def CRel (w:World) (N:Nat->Prop) (β:z13) (l:List AV) (cs:Array Value):Prop :=
 cs.size=l.length /\ ∀ (i:Nat) x u,l[i]?=some x->cs[i]?=some u->Rel w N β x u
theorem foldSet (off:Nat):∀ (l:List Value) (k:Nat) (A:Array Value),((l.zipIdx k).foldl (fun cs x=>cs.setIfInBounds (off+x.2) x.1) A).size=A.size /\
 ∀ m:Nat,((l.zipIdx k).foldl (fun cs x=>cs.setIfInBounds (off+x.2) x.1) A)[m]?=if off+k<=m /\ m<off+k+l.length /\ m<A.size then l[m - (off+k)]? else A[m]?
 | [],k,A=>by simp;intro m h1 h2;omega
 | v::l,k,A=>by
   obtain ⟨h1,h2⟩:=foldSet off l (k+1) (A.setIfInBounds (off+k) v);simp only [List.zipIdx_cons,List.foldl_cons];refine ⟨by rw [h1];simp,fun m=>?_⟩;rw [h2 m];simp only [Array.size_setIfInBounds,List.length_cons];rw [Array.getElem?_setIfInBounds];by_cases hm:off+k=m
   · subst hm;rw [if_neg (by omega)];by_cases hs:off+k<A.size
     · simp [hs]
     · have e1:¬ (off+k<=off+k /\ off+k<off+k+(l.length+1) /\ off+k<A.size):=by omega
       simp only [if_true,hs,if_false,and_false];rw [Array.getElem?_eq_none (by omega)]
   · simp only [hm,if_false];by_cases hc:off+(k+1)<=m /\ m<off+(k+1)+l.length /\ m<A.size
     · have hc':off+k<=m /\ m<off+k+(l.length+1) /\ m<A.size:=by omega
       rw [if_pos hc,if_pos hc'];have:m - (off+k)=(m - (off+(k+1)))+1:=by omega
       rw [this,List.getElem?_cons_succ]
     · have hc':¬ (off+k<=m /\ m<off+k+(l.length+1) /\ m<A.size):=by omega
       rw [if_neg hc,if_neg hc']
theorem z037 {N:Nat->Prop} {l cs:List AV} {A:Array Value} {v:Value} {x:AV} {off:Nat} (hA:CRel w N β l A) (hv:Rel w N β x v) (hc:z3i x=some cs) (hle:off+cs.length<=l.length) :
 v.cells.size=cs.length /\ CRel w N β (splice l off cs) (v.cells.zipIdx.foldl (fun cs x=>cs.setIfInBounds (off+x.2) x.1) A):=by
 obtain ⟨h1,h2,h3⟩:=z5z hv hc;refine ⟨h1,?_⟩;have hf:=foldSet off v.cells.toList 0 A;have e:v.cells.zipIdx.foldl (fun cs x=>cs.setIfInBounds (off+x.2) x.1) A=(v.cells.toList.zipIdx 0).foldl (fun cs x=>cs.setIfInBounds (off+x.2) x.1) A:=by
  rw [<- Array.foldl_toList,Array.toList_zipIdx]
 rw [e];obtain ⟨g1,g2⟩:=hf;have hlen:(splice l off cs).length=l.length:=by unfold splice;simp;omega
 refine ⟨by rw [g1,hlen];exact hA.1,fun i y u e1 e2=>?_⟩;rw [g2 i] at e2;have hsz:v.cells.toList.length=cs.length:=by simpa using h1
 unfold splice at e1;by_cases hi:i<off
 · rw [if_neg (by omega)] at e2;rw [List.append_assoc,List.getElem?_append_left (by simp;omega),List.getElem?_take,if_pos hi] at e1;exact hA.2 i y u e1 e2
 · by_cases hi2:i<off+cs.length
   · have hlt:i<A.size:=by rw [hA.1];omega
     rw [if_pos (by omega)] at e2;have hlo:(l.take off).length=off:=by simp;omega
     rw [List.append_assoc,List.getElem?_append_right (by omega),hlo,List.getElem?_append_left (by omega)] at e1;refine h2 (i - off) y u e1 ?_;rw [<- Array.getElem?_toList];simpa using e2
   · rw [if_neg (by omega)] at e2;have hlo:(l.take off++cs).length=off+cs.length:=by simp;omega
     rw [List.getElem?_append_right (by omega),hlo,List.getElem?_drop] at e1;have:off+cs.length+(i - (off+cs.length))=i:=by omega
     rw [this] at e1;exact hA.2 i y u e1 e2
theorem zno {N:Nat->Prop} (ht:z2c w N β t a.tmps) {place place':Nat->Option (Nat×Nat)} (hp:∀ i x,place i=some x->place' i=some x):∀ (L:List (Nat×Operand)) (l l':List AV) (A:Array Value),CRel w N β l A->fillA place l (L.map fun p=>(p.1,opd t p.2))=some l' ->
 ∃ A',Instr.fill place' A (L.map fun p=>(p.1,a.eval p.2))=some A' /\ CRel w N β l' A'
 | [],l,l',A,hA,he=>by simp [fillA] at he;subst he;exact ⟨A,rfl,hA⟩
 | (i,x)::L,l,l',A,hA,he=>by
   simp only [List.map_cons,fillA] at he;split at he
   · rename_i off size cs h1 h2;split at he
     · rename_i hc;obtain ⟨hs,hr⟩:=z037 hA (zp ht x) h2 (off:=off) (by omega);obtain ⟨A',h3,h4⟩:=zno ht hp L _ _ _ hr he;refine ⟨A',?_,h4⟩;simp only [List.map_cons,Instr.fill,hp _ _ h1];rw [if_neg ?_]
       · exact h3
       · have:=hA.1;simp only [Bool.or_eq_true,decide_eq_true_eq,not_or];omega
     · cases he
   · cases he
theorem z2m {i:TI} {z:List AV} {ty:TypeId} (hti:ti P ty=some i) (h:z08 i=some z):∃ info zv,P.info? ty=some info /\ info.zero=some zv /\ z.length=i.size /\ ∀ (w:World) (N:Nat->Prop) (β:z13),CRel w N β z zv.cells:=by
 unfold z08 at h;split at h
 · rename_i z' hz;split at h
   · rename_i hl;cases h;obtain ⟨info,d,h1,h2,h3,h4,h5,h6⟩:=zhq hti;cases hzv:info.zero with
     | none=>rw [h6,hzv] at hz;simp [z3i] at hz
     | some zv =>
       rw [h6,hzv] at hz;simp only [Option.map_some,Option.getD_some] at hz;refine ⟨info,zv,h1,hzv,hl,fun w N β=>?_⟩;obtain ⟨g1,g2,_⟩:=z5z (β:=β) (.imm (z017 w N zv)) hz;exact ⟨g1,g2⟩
   · cases h
 · cases h
theorem zyz {ty:TypeId} {cells:List AV} {ob:AO} (h:newBlk P ty cells=some ob):∃ k rows,ob=.blk k 0 true rows /\ 0<k /\ rows.length*k=cells.length /\ (∀ (i:Nat) row,rows[i]?=some row->row.length=k) /\
 (∀ (i:Nat) row (j:Nat) x,rows[i]?=some row->row[j]?=some x->cells[i*k+j]?=some x):=by
 unfold newBlk at h;split at h
 · split at h
   · split at h
     · rename_i hc;cases h;refine ⟨1,_,rfl,by omega,by simp,fun i row h=>?_,fun i row j x h1 h2=>?_⟩
       · rw [List.getElem?_map] at h;cases hx:cells[i]? with
         | none=>rw [hx] at h;cases h
         | some y=>rw [hx] at h;simp at h;rw [<- h];rfl
       · rw [List.getElem?_map] at h1;cases hx:cells[i]? with
         | none=>rw [hx] at h1;cases h1
         | some y =>
           rw [hx] at h1;simp at h1;subst h1;cases j with
           | zero=>simp at h2;subst h2;simpa using hx
           | succ j=>simp at h2
     · cases h
   · cases h
 · split at h
   · cases h
   · rename_i h0;cases h;refine ⟨cells.length,_,rfl,by omega,by simp,fun i row h=>?_,fun i row j x h1 h2=>?_⟩
     · cases i with
       | zero=>simp at h;rw [<- h]
       | succ i=>simp at h
     · cases i with
       | zero=>simp at h1;subst h1;simpa using h2
       | succ i=>simp at h1
 · cases h
theorem z04w {slot:Nat} {ty:TypeId} {cells:List AV} {cs:Array Value} {ob:AO} (hr:HRel w X β H) (hf:z40 β H slot) (hn:newBlk P ty cells=some ob) (hc:CRel w (NN X β H) β cells cs)
 (hrun:(execOp a.eval o).run P w=.ok (.value (.pointer (some ⟨w.heap.size,0,none⟩))) (w.alloc (.cells cs ty))):Out P w X β H a slot o (.ptr slot 0 0 0) (some (slot,ob)):=by
 obtain ⟨k,rows,rfl,hk,hl,hrow,hcell⟩:=zyz hn;have hs:slot<=β.length:=by rw [hr.len];rcases hf with h | h <;> omega
 obtain ⟨h1,h2⟩:=hr.new (w':=w.alloc (.cells cs ty)) (cs:=cs) (T:=ty) hf rfl rfl rfl rfl hk (by rw [hl,hc.1];exact Nat.le_refl _) hrow
  (fun i row j x u e1 e2 e3=>hc.2 _ x u (hcell i row j x e1 e2) e3)
 refine ⟨_,_,_,.inl hrun,h1,.ptr (bi:=⟨w.heap.size,k,0⟩) (by rw [zc7 hs];simp) (Nat.le_refl _) (fun _=>by simp),h2,fun b hb h=>by rw [zc7 hs,if_neg hb];exact h⟩
theorem z04x {slot:Nat} {e:TypeId} {i:TI} {z:List AV} {ob:AO} (hr:HRel w X β H) (hf:z40 β H slot) (ho:o.op=.alloc e) (hti:ti P e=some i) (hz:z08 i=some z) (hn:newBlk P e z=some ob) :
 Out P w X β H a slot o (.ptr slot 0 0 0) (some (slot,ob)):=by
 obtain ⟨info,zv,h1,h2,h3,h4⟩:=z2m hti hz;refine z04w hr hf hn (h4 _ _ _) ?_;simp only [execOp,ho,Instr.alloc,zeroValue,typeInfo,Sem.run_bind,run_program,Result.andThen_ok,h1,h2,Sem.run_pure,newVar,newRow,run_newObj];rfl
theorem z0ax {slot:Nat} {e:TypeId} {x:Operand} {cs:List AV} {ob:AO} (hr:HRel w X β H) (ht:z2c w (NN X β H) β t a.tmps) (hf:z40 β H slot) (ho:o.op=.box e x) (hc:z3i (opd t x)=some cs) (hn:newBlk P e cs=some ob) :
 Out P w X β H a slot o (.ptr slot 0 0 0) (some (slot,ob)):=by
 obtain ⟨h1,h2,_⟩:=z5z (zp ht x) hc;refine z04w hr hf hn ⟨h1,h2⟩ ?_;simp only [execOp,ho,Instr.box,Sem.run_bind,newVar,newRow,run_newObj,Result.andThen_ok,Sem.run_pure];rfl
theorem zvd {ty:TypeId} {i:TI} {z:List AV} {fs:List (Nat×TypeId)} {parts:Array (Nat×Operand)} {cs:List AV} (ht:z2c w (NN X β H) β t a.tmps) (ho:o.op=.build ty parts) (hti:ti P ty=some i) (hz:z08 i=some z) (hk:i.kind=.struct fs)
 (hall:fs.all (fun f=>(ti P f.2).isSome)=true)
 (he:fillA (placeS P fs) z (parts.toList.map fun p=>(p.1,opd t p.2))=some cs):z3l P w (NN X β H) β a o (.agg cs):=by
 obtain ⟨info,zv,h1,h2,h3,h4⟩:=z2m hti hz;obtain ⟨gs,hu,rfl⟩:=zaa hti hk;have hmap:∀ (gs:List Field),(gs.map fun f=>(f.offset,f.type)).all (fun f=>(ti P f.2).isSome)=true ->
  ∃ places,gs.mapM (fun f=>(P.info? f.type).map fun i=>(f.offset,i.size))=some places /\
   ∀ (j:Nat) x,placeS P (gs.map fun f=>(f.offset,f.type)) j=some x->places[j]?=some x:=by
  intro gs;induction gs with
  | nil=>intro _;exact ⟨[],rfl,fun j x h=>by simp [placeS] at h⟩
  | cons g gs ih =>
    intro h;simp only [List.map_cons,List.all_cons,Bool.and_eq_true] at h;obtain ⟨places,hp,hq⟩:=ih h.2;obtain ⟨gi,hg⟩:=Option.isSome_iff_exists.1 h.1;obtain ⟨info',d',g1,g2,g3,g4,g5,g6⟩:=zhq hg;refine ⟨(g.offset,info'.size)::places,by simp [List.mapM_cons,g1,hp],fun j x hx=>?_⟩;cases j with
    | zero=>simp [placeS,hg,g3] at hx;simp [hx]
    | succ j=>simp only [placeS,List.map_cons,List.getElem?_cons_succ] at hx ⊢;exact hq j x hx
 obtain ⟨places,hp,hq⟩:=hmap gs.toList hall;obtain ⟨A',g1,g2⟩:=zno ht (place':=fun j=>places.toArray[j]?) (fun j x h=>by simpa using hq j x h) parts.toList z cs zv.cells (h4 _ _ _) he;refine ⟨.agg A',?_,.agg g2.1 g2.2⟩;have hb:P.built ty (parts.map fun (i,x)=>(i,a.eval x)).toList=some A':=by
  unfold Program.built;simp only [h1,hu,h2,hp,Array.toList_map];exact g1
 simp only [execOp,ho,Sem.run_bind,run_build w ty _ A' hb,Result.andThen_ok,Sem.run_pure]
theorem zz0 {ty e:TypeId} {i te:TI} {n:Nat} {z:List AV} {parts:Array (Nat×Operand)} {cs:List AV} (ht:z2c w (NN X β H) β t a.tmps) (ho:o.op=.build ty parts) (hti:ti P ty=some i) (hz:z08 i=some z) (hk:i.kind=.array n e)
 (hte:ti P e=some te) (he:fillA (fun j=>some (j*te.size,te.size)) z (parts.toList.map fun p=>(p.1,opd t p.2))=some cs):z3l P w (NN X β H) β a o (.agg cs):=by
 obtain ⟨info,zv,h1,h2,h3,h4⟩:=z2m hti hz;have hu:=z8z hti hk;obtain ⟨info',d',g1,g2,g3,g4,g5,g6⟩:=zhq hte;obtain ⟨A',k1,k2⟩:=zno ht (place':=fun j=>some (j*info'.size,info'.size)) (fun j x h=>by rw [<- g3];exact h) parts.toList z cs zv.cells (h4 _ _ _) he;refine ⟨.agg A',?_,.agg k2.1 k2.2⟩;have hb:P.built ty (parts.map fun (i,x)=>(i,a.eval x)).toList=some A':=by
  unfold Program.built;simp only [h1,hu,h2,g1,Array.toList_map];exact k1
 simp only [execOp,ho,Sem.run_bind,run_build w ty _ A' hb,Result.andThen_ok,Sem.run_pure]
end
end Clk
namespace Clk
open Go
section
variable {P:Program} {w:World} {X:Nat->Prop} {β:z13} {H:List AO} {t:List AV} {a:Act} {o:Oper}
def RRel (w:World) (N:Nat->Prop) (β:z13) (size:Nat) (rows:List (List AV)) (cs:Array Value):Prop :=
 rows.length*size=cs.size /\ (∀ (i:Nat) row,rows[i]?=some row->row.length=size) /\
 (∀ (i:Nat) row (j:Nat) x u,rows[i]?=some row->row[j]?=some x->cs[i*size+j]?=some u->Rel w N β x u)
theorem z09z {i i' j size m:Nat} (hj:j<size) (h:i'*size+j=m) (h1:i*size<=m) (h2:m<i*size+size):i'=i:=by
 have e1:=(zj0 hj (i:=i')).1;rw [h] at e1;have:m / size=i:=by
  obtain ⟨d,rfl⟩:∃ d,m=i*size+d:=⟨m - i*size,by omega⟩;exact (zj0 (by omega)).1
 omega
theorem zve {N:Nat->Prop} {size:Nat} (ht:z2c w N β t a.tmps):∀ (L:List (Nat×Operand)) (l l':List (List AV)) (A:Array Value),RRel w N β size l A->fillR size l (L.map fun p=>(p.1,opd t p.2))=some l' ->
 ∃ A',Instr.fill (fun i=>some (i*size,size)) A (L.map fun p=>(p.1,a.eval p.2))=some A' /\ RRel w N β size l' A' /\ l'.length=l.length
 | [],l,l',A,hA,he=>by simp [fillR] at he;subst he;exact ⟨A,rfl,hA,rfl⟩
 | (i,x)::L,l,l',A,hA,he=>by
   simp only [List.map_cons,fillR] at he;split at he
   · rename_i cs h2;split at he
     · rename_i hc;obtain ⟨h1,g2,g3⟩:=z5z (zp ht x) h2;obtain ⟨f1,f2⟩:=foldSet (i*size) (a.eval x).cells.toList 0 A;have e:(a.eval x).cells.zipIdx.foldl (fun cs y=>cs.setIfInBounds (i*size+y.2) y.1) A=((a.eval x).cells.toList.zipIdx 0).foldl (fun cs y=>cs.setIfInBounds (i*size+y.2) y.1) A:=by
        rw [<- Array.foldl_toList,Array.toList_zipIdx]
       have hle:i*size+size<=A.size:=by
        rw [<- hA.1];have:(i+1)*size<=l.length*size:=Nat.mul_le_mul_right _ hc.2;rw [Nat.add_mul] at this;omega
       have hr:RRel w N β size (l.set i cs) ((a.eval x).cells.zipIdx.foldl (fun cs y=>cs.setIfInBounds (i*size+y.2) y.1) A):=by
        rw [e];refine ⟨by rw [f1];simp [hA.1],fun i' row hh=>?_,fun i' row j y u e1 e2 e3=>?_⟩
        · rw [List.getElem?_set] at hh;split at hh
          · split at hh
            · cases hh;exact hc.1
            · cases hh
          · exact hA.2.1 i' row hh
        · rw [f2] at e3;have hsz:(a.eval x).cells.toList.length=size:=by simpa [hc.1] using h1
          rw [List.getElem?_set] at e1;by_cases hi:i=i'
          · subst hi;simp only [if_true,hc.2] at e1;cases e1;have hj:j<size:=by have:=(zG.1 e2).1;omega
            rw [if_pos (by omega)] at e3;refine g2 j y u e2 ?_;rw [<- Array.getElem?_toList];simpa using e3
          · simp only [hi,if_false] at e1;have hj:j<size:=by have:=(zG.1 e2).1;rw [hA.2.1 _ _ e1] at this;exact this
            rw [if_neg (fun h=>hi (z09z hj rfl (by omega) (by omega)).symm)] at e3;exact hA.2.2 i' row j y u e1 e2 e3
       obtain ⟨A',k1,k2,k3⟩:=zve ht L _ _ _ hr he;refine ⟨A',?_,k2,by rw [k3];simp⟩;simp only [List.map_cons,Instr.fill];rw [if_neg ?_]
       · exact k1
       · simp only [Bool.or_eq_true,decide_eq_true_eq,not_or];omega
     · cases he
   · cases he
theorem z87 {N:Nat->Prop} {z:List AV} {zc:Array Value} {n m:Nat} (hz:CRel w N β z zc) (h0:0<z.length) (hm:n<=m):∀ (i:Nat) row (j:Nat) x u,(List.replicate n z)[i]?=some row->row[j]?=some x->(madeCells zc (m*z.length))[i*z.length+j]?=some u->Rel w N β x u:=by
 intro i row j x u h1 h2 h3;have hi:i<n:=by have:=(zG.1 h1).1;simpa using this
 rw [List.getElem?_replicate,if_pos hi] at h1;cases h1;have hj:=(zG.1 h2).1;have hlt:=zbc (show i<m by omega) hj;unfold madeCells at h3;rw [Array.getElem?_map,Array.getElem?_range,if_pos hlt] at h3;simp only [Option.map_some,Option.some.injEq,hz.1] at h3;rw [(zj0 hj).2] at h3;refine hz.2 j x u h2 ?_;rw [<- h3];have:j<zc.size:=by rw [hz.1];exact hj
 simp [this]
theorem z0ay {slot:Nat} (hr:HRel w X β H) (hf:z40 β H slot):slot<=β.length:=by rw [hr.len];rcases hf with h | h <;> omega
theorem zei {slot n c k:Nat} {rows:List (List AV)} {cs:Array Value} {e:TypeId} (hr:HRel w X β H) (hf:z40 β H slot) (hk:0<k) (hn:rows.length=n) (hnc:n<=c) (hcs:c*k<=cs.size)
 (hrow:∀ (i:Nat) row,rows[i]?=some row->row.length=k)
 (hcell:∀ (i:Nat) row (j:Nat) x u,rows[i]?=some row->row[j]?=some x->cs[i*k+j]?=some u->Rel w (NN X β H) β x u) {w':World}
 (hos:w'.os=w.os) (htp:w'.tape=w.tape) (hout:w'.output=w.output) (hw:w'.heap=w.heap.push (.cells cs e))
 (hrun:(execOp a.eval o).run P w=.ok (.value (.slice (some ⟨w.heap.size,0,none⟩) n c)) w'):Out P w X β H a slot o (.ref slot 0 0 n) (some (slot,.blk k 0 true rows)):=by
 have hs:=z0ay hr hf;obtain ⟨h1,h2⟩:=hr.new (w':=w') (cs:=cs) (T:=e) (rows:=rows) hf hos htp hout hw hk (by rw [hn];exact Nat.le_trans (Nat.mul_le_mul_right _ hnc) hcs) hrow hcell;refine ⟨_,_,_,.inl hrun,h1,.ref (bi:=⟨w.heap.size,k,0⟩) (by rw [zc7 hs];simp) (Nat.le_refl _) hnc (fun _=>⟨fun _=>by simp,cs,e,by rw [hw];simp,by simpa using hcs⟩),h2,fun b hb h=>by rw [zc7 hs,if_neg hb];exact h⟩
theorem zq5 {slot:Nat} {ty e:TypeId} {i te:TI} {n:Nat} {z:List AV} {rows:List (List AV)} {parts:Array (Nat×Operand)} (hr:HRel w X β H) (ht:z2c w (NN X β H) β t a.tmps) (hf:z40 β H slot) (ho:o.op=.buildSlice ty n parts)
 (hti:ti P ty=some i) (hk:i.kind=.slice e) (hte:ti P e=some te) (hz:z08 te=some z) (hn:n*te.size<=16777216) (hs:0<te.size)
 (he:fillR te.size (List.replicate n z) (parts.toList.map fun p=>(p.1,opd t p.2))=some rows):Out P w X β H a slot o (.ref slot 0 0 n) (some (slot,.blk te.size 0 true rows)):=by
 obtain ⟨info,zv,h1,h2,h3,h4⟩:=z2m hte hz;have hu:=z0a hti hk;have hinit:RRel w (NN X β H) β te.size (List.replicate n z) (madeCells zv.cells (n*te.size)):=by
  refine ⟨by simp [size_madeCells],fun i row h=>?_,?_⟩
  · rw [List.getElem?_replicate] at h;split at h
    · cases h;exact h3
    · cases h
  · rw [<- h3];exact z87 (h4 _ _ _) (by omega) (Nat.le_refl _)
 obtain ⟨A',g1,g2,g3⟩:=zve ht parts.toList _ _ _ hinit he;refine zei (c:=n) (cs:=A') (e:=e) (w':=w.alloc (.cells A' e)) hr hf hs (by rw [g3];simp) (Nat.le_refl _) (by rw [<- g2.1,g3];simp) g2.2.1 g2.2.2 rfl rfl rfl rfl ?_;have hn':¬ (n*te.size>2 ^ 24):=by omega
 by_cases h0:n*te.size=0
 · have hn0:n=0:=by rcases Nat.mul_eq_zero.1 h0 with h | h <;> omega
   subst hn0;have e0:madeCells zv.cells (0*te.size)=#[]:=by simp [madeCells]
   rw [e0] at g1;have e1:∀ f:Nat->Value,Array.map f (Array.range (0*te.size))=#[]:=fun f=>by simp
   have hn2:¬ (0*te.size>2 ^ 24):=by omega
   have h02:0*te.size=0:=by omega
   simp only [execOp,ho,Instr.buildSlice,Sem.run_bind,run_underlying hu,Result.andThen_ok,zm hte,if_neg hn2,if_pos h02,Sem.run_pure,e1,Array.toList_map];have g1':Instr.fill (fun i=>some (i*te.size,te.size)) #[] (List.map (fun x=>(x.1,a.eval x.2)) parts.toList)=some A':=g1;simp only [g1',Sem.run_bind,newRow,run_newObj,Result.andThen_ok,Sem.run_pure];rfl
 · simp only [execOp,ho,Instr.buildSlice,Sem.run_bind,run_underlying hu,Result.andThen_ok,zm hte,hn',if_false,h0,zeroValue,typeInfo,run_program,h1,h2,Sem.run_pure];have g1':Instr.fill (fun i=>some (i*te.size,te.size)) (Array.map (fun x=>zv.cells[x % zv.cells.size]!) (Array.range (n*te.size))) (List.map (fun x=>(x.1,a.eval x.2)) parts.toList)=some A':=g1;simp only [Array.toList_map,g1',Sem.run_bind,newRow,run_newObj,Result.andThen_ok,Sem.run_pure];rfl
theorem znp {slot:Nat} {ty e:TypeId} {i te:TI} {parts:Array (Nat×Operand)} (hr:HRel w X β H) (ho:o.op=.buildSlice ty 0 parts) (hp:parts.toList.length=0)
 (hti:ti P ty=some i) (hk:i.kind=.slice e) (hte:ti P e=some te):Out P w X β H a slot o (.crows []) none:=by
 have hu:=z0a hti hk;have hpl:parts.toList=[]:=List.eq_nil_of_length_eq_zero hp;have hrun:(execOp a.eval o).run P w=.ok (.value (.slice (some ⟨w.heap.size,0,none⟩) 0 0)) (w.alloc (.cells #[] e)):=by
  have hn2:¬ (0*te.size>2 ^ 24):=by omega
  have h02:0*te.size=0:=by omega
  have e1:∀ f:Nat->Value,Array.map f (Array.range (0*te.size))=#[]:=fun f=>by simp
  simp only [execOp,ho,Instr.buildSlice,Sem.run_bind,run_underlying hu,Result.andThen_ok,zm hte,if_neg hn2,if_pos h02,Sem.run_pure,e1,Array.toList_map,hpl,List.map_nil,Instr.fill,newRow,run_newObj];rfl
 obtain ⟨g1,g2⟩:=hr.ext (w':=w.alloc (.cells #[] e)) (by simp) (fun r hr=>by show (w.heap.push _)[r]?=_;rw [Array.getElem?_push];simp [Nat.ne_of_lt hr]) rfl rfl rfl;exact ⟨_,_,β,.inl hrun,g1,.imm (RelI.crows (l:=[]) (k:=0) (u:=fun _ _=>undef) (fun _ _ h=>by simp at h) (fun h=>absurd h (by simp)) (fun _ _ _ _ _ _ h=>by simp at h) (fun _ _ _ _ h=>by simp at h)),g2,fun _ _ h=>h⟩
theorem zsh {slot:Nat} {ty e:TypeId} {i te:TI} {l c:Operand} {n m:Int} {z:List AV} (hr:HRel w X β H) (ht:z2c w (NN X β H) β t a.tmps) (hf:z40 β H slot) (ho:o.op=.makeSlice ty l c)
 (hti:ti P ty=some i) (hk:i.kind=.slice e) (hte:ti P e=some te) (hz:z08 te=some z) (hl:opd t l=.int .i64 n) (hc:opd t c=.int .i64 m) (h0:0<=n) (hnm:n<=m) (hb:m*te.bytes<=70368744177664) (hm:m<=70368744177664) (hs:0<te.size) :
 Out P w X β H a slot o (.ref slot 0 0 n.toNat) (some (slot,.blk te.size 0 true (List.replicate n.toNat z))):=by
 obtain ⟨info,zv,h1,h2,h3,h4⟩:=z2m hte hz;obtain ⟨info',d,g1,g2,g3,g4,g5,g6⟩:=zhq hte;rw [g1] at h1;cases h1;have hu:=z0a hti hk;have el:=z18 (hl▸zp ht l);have ec:=z18 (hc▸zp ht c);have hrun:=run_make (P:=P) w ty e info zv hu g1 h2 .i64 .i64 n m h0 hnm (by rw [<- g4,Int.mul_comm];omega) (by omega);refine zei (c:=m.toNat) (cs:=madeCells zv.cells (m.toNat*info.size)) (e:=e) (w':=w.alloc (.cells (madeCells zv.cells (m.toNat*info.size)) e)) hr hf hs (by simp) (by omega) (by rw [size_madeCells,g3];exact Nat.le_refl _) (fun i row h=>?_) ?_ rfl rfl rfl rfl ?_
 · rw [List.getElem?_replicate] at h;split at h
   · cases h;exact h3
   · cases h
 · rw [<- g3,<- h3];exact z87 (h4 _ _ _) (by omega) (by omega)
 · simp only [execOp,ho,Sem.run_bind,el,ec,hrun,Result.andThen_ok,Sem.run_pure]
theorem zko {α:Type} (l vs:List α) (off m:Nat) (h:off+vs.length<=l.length):(l.take off++vs++l.drop (off+vs.length))[m]?=if off<=m /\ m<off+vs.length then vs[m - off]? else l[m]?:=by
 have h1:(l.take off).length=off:=by simp;omega
 by_cases ha:m<off
 · rw [if_neg (by omega),List.append_assoc,List.getElem?_append_left (by omega),List.getElem?_take,if_pos ha]
 · by_cases hb:m<off+vs.length
   · rw [if_pos (by omega),List.append_assoc,List.getElem?_append_right (by omega),h1,List.getElem?_append_left (by omega)]
   · rw [if_neg (by omega),List.getElem?_append_right (by simp;omega),List.getElem?_drop];congr 1
     simp;omega
theorem z04y {slot:Nat} {ty:TypeId} {ti':TI} {p x:Operand} {b v i j k:Nat} {cs row:List AV} {rows:List (List AV)} (hr:HRel w X β H) (ht:z2c w (NN X β H) β t a.tmps) (ho:o.op=.store ty p x)
 (hp:opd t p=.ptr b v i j) (hc:z3i (opd t x)=some cs) (hti:ti P ty=some ti') (hH:H.getD b .none=.blk k v true rows) (hrow:rows[i]?=some row) (hsz:cs.length=ti'.size) (hle:j+cs.length<=row.length) :
 Out P w X β H a slot o (.tup []) (some (b,.blk k v true (rows.set i (splice row j cs)))):=by
 have hpr:=hp▸zp ht p;have hx:=zp ht x;obtain ⟨c1,c2,c3⟩:=z5z hx hc;have cl:=z031 hx hc;have hlt:b<H.length:=by
  rcases Nat.lt_or_ge b H.length with h | h
  · exact h
  · simp [zI,List.getElem?_eq_none h] at hH
 generalize hq:a.eval p=pv at hpr;cases hpr with
 | imm h=>cases h
 | @ptr _ _ _ _ bi ad hb hv hcur =>
   have hob:=hr.obj b bi hb;rw [hH] at hob;obtain ⟨e1,e2,e3,_,cur,T,h5,h6,h7,h8⟩:=hob;subst e1;have had:=hcur (by omega);subst had;have hi:i<rows.length:=(zG.1 hrow).1;have hrl:=h7 i row hrow;have hik:i*bi.k+bi.k<=cur.size:=by
    have:(i+1)*bi.k<=rows.length*bi.k:=Nat.mul_le_mul_right _ hi;rw [Nat.add_mul] at this;omega
   have hvl:(a.eval x).cells.toList.length=cs.length:=by simpa using c1
   have hst:=run_storeCells_at P bi.r (i*bi.k+j) T (a.eval x).cells.toList 0 cur w h5 (by rw [hvl];omega) cl;simp only [Nat.add_zero] at hst;have hrun:(execOp a.eval o).run P w=.ok .skip (w.setRow bi.r (cur.toList.take (i*bi.k+j)++(a.eval x).cells.toList++cur.toList.drop (i*bi.k+j+(a.eval x).cells.toList.length)).toArray):=by
    have hne:¬ ((a.eval x).cells.size≠ti'.size):=by omega
    simp only [execOp,ho,hq,Instr.storeAt,Instr.sureAddr,storeVar,Sem.run_bind,Sem.run_pure,Result.andThen_ok,zm hti,hne,if_false,hst]
   obtain ⟨g1,g2⟩:=hr.write (w':=w.setRow bi.r (cur.toList.take (i*bi.k+j)++(a.eval x).cells.toList++cur.toList.drop (i*bi.k+j+(a.eval x).cells.toList.length)).toArray) (rows':=rows.set i (splice row j cs)) hb hH rfl rfl rfl (by simp) h5 (setRow_heap w bi.r cur _ T _ h5) (fun r hr=>setRow_other w bi.r r _ hr) (by simp;omega) (by simpa using h6)
    (fun i' row' h=>by
      rw [List.getElem?_set] at h;by_cases hii:i=i'
      · subst hii;simp only [if_true,hi] at h;cases h;unfold splice;simp;omega
      · simp only [hii,if_false] at h;exact h7 i' row' h)
    (fun i' row' j' y u q1 q2 q3=>by
      rw [List.getElem?_toArray,zko _ _ _ _ (by rw [hvl];simp;omega),hvl] at q3;rw [List.getElem?_set] at q1;by_cases hii:i=i'
      · subst hii;simp only [if_true,hi] at q1;cases q1;unfold splice at q2;by_cases hj:j<=j' /\ j'<j+cs.length
        · rw [if_pos (by omega)] at q3;have hlo:(row.take j).length=j:=by simp;omega
          rw [List.append_assoc,List.getElem?_append_right (by omega),hlo,List.getElem?_append_left (by omega)] at q2;refine c2 (j' - j) y u q2 ?_;rw [<- Array.getElem?_toList,<- q3];congr 1;omega
        · rw [if_neg (by omega)] at q3;have:row[j']?=some y:=by
           rw [zko _ _ _ _ hle,if_neg hj] at q2;exact q2
          exact h8 i row j' y u hrow this (by rw [<- Array.getElem?_toList];exact q3)
      · simp only [hii,if_false] at q1;have hj':j'<bi.k:=by have:=(zG.1 q2).1;rw [h7 _ _ q1] at this;exact this
        rw [if_neg (fun hh=>hii (z09z hj' rfl (by omega) (by omega)).symm)] at q3;exact h8 i' row' j' y u q1 q2 (by rw [<- Array.getElem?_toList];exact q3))
   have hap:zi H (some (b,.blk bi.k v true (rows.set i (splice row j cs))))=H.set b (.blk bi.k v true (rows.set i (splice row j cs))):=by simp [zi,hlt]
   exact ⟨undef,_,β,.inr ⟨hrun,rfl⟩,by rw [hap];exact g1,.imm (.tup rfl (fun i a v h=>by simp at h)),by rw [hap];exact g2,fun _ _ h=>h⟩
end
end Clk
namespace Clk
open Go
section
variable {P:Program} {w:World} {X:Nat->Prop} {β:z13} {H:List AO} {t:List AV} {a:Act} {o:Oper}
theorem zj4 {st xt ty e:TypeId} {d:TypeDesc} {info:TypeInfo} {zv xv:Value} {base:Option Addr} {sLen sCap n:Nat} {olds news:Array Value}
 (ht:P.underlying st=some (.slice e)) (hx:P.underlying xt=some d) (hd:∀ k,d≠.int k) (hi:P.info? e=some info) (hz:info.zero=some zv)
 (hlen:∀ w,(Builtin.lenOf xv).run P w=.ok n w) (hnew:(Builtin.firstCells info.size n xv).run P w.drew=.ok news w.drew)
 (hold:(Builtin.firstCells info.size sLen (.slice base sLen sCap)).run P w.drew=.ok olds w.drew) (hgt:sCap<sLen+n) (hfit:(sLen+n)*info.bytes<=z0d) (h63:sLen+n<=z0d) :
 (Builtin.append_ #[st,xt] ty #[.slice base sLen sCap,xv]).run P w =
   .ok (.slice (some ⟨w.heap.size,0,none⟩) (sLen+n) (grownCap w (sLen+n) sCap e)) (w.drew.alloc (.cells (olds++news++Builtin.zeroCells zv.cells (grownCap w (sLen+n) sCap e - (sLen+n))) e)):=by
 have hdd:(d matches .int _)=false:=by cases d <;> first | rfl | exact absurd rfl (hd _)
 have hn:¬ (sLen+n<=sCap):=by omega
 have hmb:z0d=70368744177664:=by decide
 rw [hmb] at hfit h63;have h63':¬ (9223372036854775807<((sLen:Int)+(n:Int))):=by omega
 have h48':¬ (281474976710656<Builtin.nextslicecap (sLen+n) sCap*info.bytes):=by have:=growslice_fits hgt (bytes:=info.bytes) (by omega);omega
 simp [Builtin.append_,run_underlying ht,run_underlying hx,Go.sizeOf,typeInfo,zeroValue,hi,hz,hlen,hn,h63',h48',Question.forced,hnew,hold,newRow,grownCap,hdd]
structure Src (P:Program) (w:World) (R:AV->Value->Prop) (size:Nat) (n:List (List AV)) (xv:Value) where
 us:List Value
 len:us.length=n.length*size
 lenOf:∀ w,(Builtin.lenOf xv).run P w=.ok n.length w
 first:∀ w':World,w'.heap=w.heap->(Builtin.firstCells size n.length xv).run P w'=.ok us.toArray w'
 rel:∀ (i:Nat) row (j:Nat) x,n[i]?=some row->row[j]?=some x->∃ u,us[i*size+j]?=some u /\ R x u
theorem z04z {w w':World} (h:w'.heap=w.heap) (ad:Addr):w'.cell? ad=w.cell? ad:=by unfold World.cell?;rw [h]
theorem zsi {size:Nat} {x:AV} {xv:Value} {n:List (List AV)} (hr:HRel w X β H) (hx:Rel w (NN X β H) β x xv) (hro:z1m H x=some n) (hsz:0<size) (hrow:∀ (i:Nat) row,n[i]?=some row->row.length=size) :
 Nonempty (Src P w (Rel w (NN X β H) β) size n xv):=by
 obtain ⟨a,c,us,hv,hc,hlen,hcells,hrel⟩:=zc8 hr hx hro hsz hrow;subst hv;refine ⟨⟨us,hlen,fun w=>by simp [Builtin.lenOf],fun w' hw'=>?_,hrel⟩⟩;by_cases h0:0<n.length
 · obtain ⟨ad,rfl,hs,hcc⟩:=hcells h0;have:=run_loadCells_list (P:=P) w' ad us (fun j u h=>by rw [z04z hw'];exact hcc j u h);rw [hlen] at this;simp only [Builtin.firstCells,this]
 · have hn:n.length=0:=by omega
   have hus:us=[]:=List.eq_nil_of_length_eq_zero (by rw [hlen,hn];omega);subst hus;cases a <;> simp [Builtin.firstCells,hn,loadCells,loadCellsFrom]
theorem z0az {s:ByteArray}:Nonempty (Src P w (Rel w (NN X β H) β) 1 (s.data.toList.map fun b=>[AV.int .u8 b.toNat]) (.string s)):=by
 refine ⟨⟨s.data.toList.map fun b=>.int .u8 b.toNat,by simp,fun w=>by rw [List.length_map,Array.length_toList];rfl,fun w' hw'=>?_,fun i row j x h1 h2=>?_⟩⟩
 · have e:(s.data.toList.map fun b=>[AV.int .u8 b.toNat]).length=s.size:=by rw [List.length_map,Array.length_toList];rfl
   rw [e];have h2:s.extract 0 s.size=s:=by
    apply ByteArray.ext
    rw [ByteArray.data_extract];have:s.size=s.data.size:=rfl;rw [this];simp
   simp [Builtin.firstCells,h2];rw [<- Array.toList_map]
 · rw [List.getElem?_map] at h1;cases hb:s.data.toList[i]? with
   | none=>rw [hb] at h1;cases h1
   | some b =>
     rw [hb] at h1;simp at h1;subst h1;cases j with
     | zero=>simp at h2;subst h2;exact ⟨.int .u8 b.toNat,by simp [hb],.imm (.int _ _)⟩
     | succ j=>simp at h2
theorem z050 {te:TI} {x:AV} {xv:Value} {n:List (List AV)} (hr:HRel w X β H) (hx:Rel w (NN X β H) β x xv) (hn:newRows H te x=some n) (hsz:te.size≠0) (hrow:∀ (i:Nat) row,n[i]?=some row->row.length=te.size) :
 Nonempty (Src P w (Rel w (NN X β H) β) te.size n xv):=by
 unfold newRows at hn;split at hn
 · split at hn
   · rename_i h1;cases hn;rw [zcs hx,h1];exact z0az
   · cases hn
 · exact zsi hr hx hn (by omega) hrow
theorem z051 {n:List (List AV)} {k:Nat} (h:n.all (fun r=>r.length==k)=true):∀ (i:Nat) row,n[i]?=some row->row.length=k :=
 fun i row hr=>by simpa using List.all_eq_true.1 h row (List.mem_of_getElem? hr)
theorem zlr {R:AV->Value->Prop} {size:Nat} {l n:List (List AV)} {us vs:List Value} {rest:List Value} (hl:us.length=l.length*size)
 (hlr:∀ (i:Nat) row,l[i]?=some row->row.length=size) (hnr:∀ (i:Nat) row,n[i]?=some row->row.length=size)
 (r1:∀ (i:Nat) row (j:Nat) x,l[i]?=some row->row[j]?=some x->∃ u,us[i*size+j]?=some u /\ R x u)
 (r2:∀ (i:Nat) row (j:Nat) x,n[i]?=some row->row[j]?=some x->∃ u,vs[i*size+j]?=some u /\ R x u) :
 ∀ (i:Nat) row (j:Nat) x u,(l++n)[i]?=some row->row[j]?=some x->(us++(vs++rest))[i*size+j]?=some u->R x u:=by
 intro i row j x u h1 h2 h3;by_cases hi:i<l.length
 · rw [List.getElem?_append_left hi] at h1;obtain ⟨u',e1,e2⟩:=r1 i row j x h1 h2;have hj:j<size:=by have:=(zG.1 h2).1;rw [hlr _ _ h1] at this;exact this
   rw [List.getElem?_append_left (by rw [hl];exact zbc hi hj),e1] at h3;cases h3;exact e2
 · rw [List.getElem?_append_right (by omega)] at h1;obtain ⟨u',e1,e2⟩:=r2 _ row j x h1 h2;have hle:l.length*size<=i*size:=Nat.mul_le_mul_right _ (by omega);have e3:i*size+j - us.length=(i - l.length)*size+j:=by rw [hl,Nat.sub_mul];omega
   have hlt:=(zG.1 e1).1;rw [List.getElem?_append_right (by rw [hl];omega),e3,List.getElem?_append_left hlt,e1] at h3;cases h3;exact e2
theorem zsj {size:Nat} {l n:List (List AV)} (hlr:∀ (i:Nat) row,l[i]?=some row->row.length=size) (hnr:∀ (i:Nat) row,n[i]?=some row->row.length=size):∀ (i:Nat) row,(l++n)[i]?=some row->row.length=size:=by
 intro i row h;by_cases hi:i<l.length
 · rw [List.getElem?_append_left hi] at h;exact hlr i row h
 · rw [List.getElem?_append_right (by omega)] at h;exact hnr _ row h
theorem z038 {R:AV->Value->Prop} {size:Nat} {l n:List (List AV)} {cur:Array Value} {vs:List Value} (hfit:l.length*size+vs.length<=cur.size)
 (hlr:∀ (i:Nat) row,l[i]?=some row->row.length=size)
 (r1:∀ (i:Nat) row (j:Nat) x u,l[i]?=some row->row[j]?=some x->cur[i*size+j]?=some u->R x u)
 (r2:∀ (i:Nat) row (j:Nat) x,n[i]?=some row->row[j]?=some x->∃ u,vs[i*size+j]?=some u /\ R x u) :
 ∀ (i:Nat) row (j:Nat) x u,(l++n)[i]?=some row->row[j]?=some x->(cur.toList.take (l.length*size)++vs++cur.toList.drop (l.length*size+vs.length))[i*size+j]?=some u->R x u:=by
 intro i row j x u h1 h2 h3;rw [zko _ _ _ _ (by simpa using hfit)] at h3;by_cases hi:i<l.length
 · rw [List.getElem?_append_left hi] at h1;have hj:j<size:=by have:=(zG.1 h2).1;rw [hlr _ _ h1] at this;exact this
   have:=zbc hi hj;rw [if_neg (by omega),Array.getElem?_toList] at h3;exact r1 i row j x u h1 h2 h3
 · rw [List.getElem?_append_right (by omega)] at h1;obtain ⟨u',e1,e2⟩:=r2 _ row j x h1 h2;have hle:l.length*size<=i*size:=Nat.mul_le_mul_right _ (by omega);have e3:i*size+j - l.length*size=(i - l.length)*size+j:=by rw [Nat.sub_mul];omega
   have hlt:=(zG.1 e1).1;rw [if_pos (by omega),e3,e1] at h3;cases h3;exact e2
structure AppTy (P:Program) (st xt e:TypeId) (te:TI) (z:List AV) where
 d:TypeDesc
 info:TypeInfo
 zv:Value
 hu:P.underlying st=some (.slice e)
 hx:P.underlying xt=some d
 hd:∀ k,d≠.int k
 hte:ti P e=some te
 hi:P.info? e=some info
 hz:info.zero=some zv
 hs:info.size=te.size
 hb:info.bytes=te.bytes
 hzc:zv.cells.size=te.size
 h0:te.size≠0
theorem z052 {st xt e ty:TypeId} {te:TI} {z:List AV} (A:AppTy P st xt e te z) {R:AV->Value->Prop} {xv:Value} {ad:Option Addr} (sx:Src P w R te.size [] xv) :
 (Builtin.append_ #[st,xt] ty #[.slice ad 0 0,xv]).run P w=.ok (.slice ad 0 0) w:=by
 have hfst:=sx.first w rfl
 have hus:sx.us=[]:=List.eq_nil_of_length_eq_zero (by rw [sx.len];simp);rw [hus] at hfst;have hlo:=sx.lenOf w;simp only [List.length_nil] at hlo hfst;obtain ⟨d,info,zv,hu,hx,hd,hte,hi,hz,hs,hb,hzc,h0⟩:=A;cases d <;> first
  | exact absurd rfl (hd _)
  | (simp only [Builtin.append_,List.getElem?_toArray,List.getElem?_cons_zero,List.getElem?_cons_succ,Sem.run_bind,run_underlying hu,run_underlying hx,Result.andThen_ok,zm hte,Sem.run_pure,Bool.false_eq_true,if_false,hlo,Nat.add_zero,Nat.le_refl,if_true,Bool.not_false,hfst]
     cases ad <;> simp [storeCells])
theorem z01b {st xt e ty:TypeId} {te:TI} {z:List AV} (A:AppTy P st xt e te z) {R R':AV->Value->Prop} {xv:Value} {ad:Option Addr} {l n:List (List AV)} {c:Nat} (ss:Src P w R te.size l (.slice ad l.length c)) (sx:Src P w R' te.size n xv)
 (hgt:c<l.length+n.length) (hb1:(l.length+n.length)*te.bytes<=z0d) (hb2:l.length+n.length<=z0d) :
 (Builtin.append_ #[st,xt] ty #[.slice ad l.length c,xv]).run P w =
   .ok (.slice (some ⟨w.heap.size,0,none⟩) (l.length+n.length) (grownCap w (l.length+n.length) c e)) (w.drew.alloc (.cells (ss.us.toArray++sx.us.toArray++Builtin.zeroCells A.zv.cells (grownCap w (l.length+n.length) c e - (l.length+n.length))) e)) :=
 zj4 A.hu A.hx A.hd A.hi A.hz sx.lenOf (by rw [A.hs];exact sx.first _ rfl) (by rw [A.hs];exact ss.first _ rfl) hgt (by rw [A.hb];exact hb1) hb2
theorem z01c {st xt e:TypeId} {te:TI} {z:List AV} (A:AppTy P st xt e te z) {R R':AV->Value->Prop} {xv sv:Value} {l n:List (List AV)} {c:Nat} (ss:Src P w R te.size l sv) (sx:Src P w R' te.size n xv) (hge:l.length+n.length<=c) :
 (ss.us.toArray++sx.us.toArray++Builtin.zeroCells A.zv.cells (c - (l.length+n.length))).size=c*te.size:=by
 simp only [Array.size_append,List.size_toArray,size_zeroCells,A.hzc,sx.len,ss.len,<- Nat.add_mul];congr 1;omega
theorem z085 {st xt e ty:TypeId} {te:TI} {z:List AV} (A:AppTy P st xt e te z) {R:AV->Value->Prop} {xv:Value} {ad:Option Addr} {g len c:Nat} {n:List (List AV)} {cur:Array Value} {T:TypeId} (sx:Src P w R te.size n xv)
 (h5:w.heap[g]?=some (.cells cur T (0,0))) (had:0<c->ad=some ⟨g,0,none⟩) (hroom:len+n.length<=c) (hfit:len*te.size+sx.us.length<=cur.size) (hone:∀ u∈sx.us,u.oneCell'=true) :
 (Builtin.append_ #[st,xt] ty #[.slice ad len c,xv]).run P w=.ok (.slice ad (len+n.length) c) (w.setRow g (cur.toList.take (len*te.size)++sx.us++cur.toList.drop (len*te.size+sx.us.length)).toArray):=by
 have hst:=run_storeCells_at P g (len*te.size) T sx.us 0 cur w h5 (by omega) hone;simp only [Nat.add_zero] at hst;have hlo:=sx.lenOf w;have hfi:=sx.first w rfl
 by_cases hc0:0<c
 · rw [had hc0];obtain ⟨d,info,zv,hu,hx,hd,hte,hi,hz,hs,hb,hzc,h0⟩:=A;cases d <;> first
    | exact absurd rfl (hd _)
    | simp only [Builtin.append_,List.getElem?_toArray,List.getElem?_cons_zero,List.getElem?_cons_succ,Sem.run_bind,run_underlying hu,run_underlying hx,Result.andThen_ok,zm hte,Sem.run_pure,Bool.false_eq_true,if_false,hlo,hroom,if_true,Bool.not_false,hfi,z4w,Nat.zero_add,hst]
 · have hr0:len=0:=by omega
   have hn0:n.length=0:=by omega
   have hus0:sx.us=[]:=List.eq_nil_of_length_eq_zero (by rw [sx.len,hn0,Nat.zero_mul]);have hw:w.setRow g (cur.toList.take (len*te.size)++sx.us++cur.toList.drop (len*te.size+sx.us.length)).toArray=w:=by
    rw [hus0];simp only [List.append_nil,List.length_nil,Nat.add_zero,List.take_append_drop,Array.toArray_toList];exact setRow_self w g cur T (0,0) h5
   rw [hw];rw [hus0] at hfi;obtain ⟨d,info,zv,hu,hx,hd,hte,hi,hz,hs,hb,hzc,h0⟩:=A;cases d <;> first
    | exact absurd rfl (hd _)
    | (simp only [Builtin.append_,List.getElem?_toArray,List.getElem?_cons_zero,List.getElem?_cons_succ,Sem.run_bind,run_underlying hu,run_underlying hx,Result.andThen_ok,zm hte,Sem.run_pure,Bool.false_eq_true,if_false,hlo,hroom,if_true,Bool.not_false,hfi]
       cases ad <;> simp [storeCells])
theorem z0b0 {R:AV->Value->Prop} {size:Nat} {n:List (List AV)} {xv:Value} (sx:Src P w R size n xv) (h0:0<size) (hnr:∀ (i:Nat) row,n[i]?=some row->row.length=size)
 (hl:∀ (i:Nat) row (j:Nat) y u,n[i]?=some row->row[j]?=some y->R y u->u.oneCell'=true):∀ u∈sx.us,u.oneCell'=true:=by
 intro u hu;obtain ⟨m,hm,rfl⟩:=List.getElem_of_mem hu;have hmi:m / size<n.length:=by
  apply Nat.div_lt_of_lt_mul
  rw [Nat.mul_comm,<- sx.len];exact hm
 have r1:=zH hmi;have r2:=zH (l:=n[m / size]) (i:=m % size) (by rw [hnr _ _ r1];exact Nat.mod_lt _ h0);obtain ⟨u',q1,q2⟩:=sx.rel _ _ _ _ r1 r2;have em:m / size*size+m % size=m:=by rw [Nat.mul_comm];exact Nat.div_add_mod m _
 rw [em,zH hm] at q1;cases q1;exact hl _ _ _ _ _ r1 r2 q2
theorem zvf {slot:Nat} {st xt e ty:TypeId} {te:TI} {z:List AV} (A:AppTy P st xt e te z) {l n:List (List AV)} {sv xv:Value} (hr:HRel w X β H) (hf:z40 β H slot)
 (hs:Rel w (NN X β H) β (.crows l) sv) (sx:Src P w (Rel w (NN X β H) β) te.size n xv) (hlr:∀ (i:Nat) row,l[i]?=some row->row.length=te.size) (hnr:∀ (i:Nat) row,n[i]?=some row->row.length=te.size)
 (hn:n.length≠0) (hb1:(l.length+n.length)*te.bytes<=z0d) (hb2:l.length+n.length<=z0d)
 (hgo:∀ u w',(Builtin.append_ #[st,xt] ty #[sv,xv]).run P w=.ok u w'->(execOp a.eval o).run P w=.ok (.value u) w') :
 Out P w X β H a slot o (.ref slot 0 0 (l.length+n.length)) (some (slot,.blk te.size 0 true (l++n))):=by
 have h0:=A.h0;obtain ⟨ss⟩:=zsi (P:=P) (size:=te.size) hr hs (x:=.crows l) rfl (by omega) hlr;obtain ⟨ad,rfl⟩:=znj hs;have hrun:=z01b (ty:=ty) A ss sx (by omega) hb1 hb2;have hge:=grownCap_ge w (l.length+n.length) l.length e;refine zei (w':=w.drew.alloc (.cells (ss.us.toArray++sx.us.toArray++Builtin.zeroCells A.zv.cells (grownCap w (l.length+n.length) l.length e - (l.length+n.length))) e)) (c:=grownCap w (l.length+n.length) l.length e) (cs:=ss.us.toArray++sx.us.toArray++Builtin.zeroCells A.zv.cells (grownCap w (l.length+n.length) l.length e - (l.length+n.length))) (e:=e) hr hf (by omega) (by simp) hge (by rw [z01c A ss sx hge];exact Nat.le_refl _) (zsj hlr hnr) ?_ rfl rfl rfl rfl (hgo _ _ hrun);intro i row j x u q1 q2 q3;rw [<- Array.getElem?_toList] at q3;simp only [Array.toList_append,List.append_assoc] at q3;exact zlr ss.len hlr hnr ss.rel sx.rel i row j x u q1 q2 q3
theorem z039 {slot:Nat} {st xt e ty:TypeId} {te:TI} {z:List AV} (A:AppTy P st xt e te z) {rows n:List (List AV)} {b ve:Nat} {sv xv:Value} (hr:HRel w X β H)
 (hH:H.getD b .none=.blk te.size ve true rows) (hs:Rel w (NN X β H) β (.ref b ve 0 rows.length) sv) (sx:Src P w (Rel w (NN X β H) β) te.size n xv) (hnr:∀ (i:Nat) row,n[i]?=some row->row.length=te.size)
 (hnl:∀ (i:Nat) row (j:Nat) y,n[i]?=some row->row[j]?=some y->y.leaf=true) (hb1:(rows.length+n.length)*te.bytes<=z0d) (hb2:rows.length+n.length<=z0d)
 (hgo:∀ u w',(Builtin.append_ #[st,xt] ty #[sv,xv]).run P w=.ok u w'->(execOp a.eval o).run P w=.ok (.value u) w') :
 Out P w X β H a slot o (.ref b (ve+1) 0 (rows.length+n.length)) (some (b,.blk te.size (ve+1) true (rows++n))):=by
 have h0:=A.h0;have hrowsOf:z1m H (.ref b ve 0 rows.length)=some rows:=by simp only [z1m,hH];simp
 cases hs with
 | imm hs=>cases hs
 | @ref _ _ _ _ c bi ad hb hv hcc hcur =>
 have hsr:Rel w (NN X β H) β (.ref b ve 0 rows.length) (.slice ad rows.length c):=.ref hb hv hcc hcur;have hob:=hr.obj b bi hb;rw [hH] at hob;obtain ⟨e1,e2,e3,_,cur,T,h5,h6,h7,h8⟩:=hob;obtain ⟨had,cur',T',h9,h10⟩:=hcur (by omega);rw [h5] at h9;cases h9;obtain ⟨ss⟩:=zsi (P:=P) (size:=te.size) hr hsr hrowsOf (by omega) h7;have hlt:b<H.length:=by
  rcases Nat.lt_or_ge b H.length with h | h
  · exact h
  · simp [zI,List.getElem?_eq_none h] at hH
 have hap:zi H (some (b,.blk te.size (ve+1) true (rows++n)))=H.set b (.blk te.size (ve+1) true (rows++n)):=by simp [zi,hlt]
 have hlt':b<β.length:=by rw [hr.len];exact hlt
 have hnone:∀ (bi':BI) (c:Nat),c≠slot->β.getD c none=none->(β.set b (some bi')).getD c none=none:=fun bi' c _ hcn=>by
  rw [z06 _ _ _ _ _ hlt'];split
  · rename_i e;subst e;rw [hb] at hcn;cases hcn
  · exact hcn
 have hself:∀ bi':BI,(β.set b (some bi')).getD b none=some bi':=fun bi'=>by rw [z06 _ _ _ _ _ hlt'];simp
 by_cases hroom:rows.length+n.length<=c
 · rw [e1,Nat.zero_add] at h10;have hfit:rows.length*te.size+sx.us.length<=cur.size:=by
    rw [sx.len,<- Nat.add_mul];exact Nat.le_trans (Nat.mul_le_mul_right _ hroom) h10
   have hone:=z0b0 sx (by omega) hnr (fun i row j y u q1 q2 q3=>(zc9 q3 (hnl i row j y q1 q2)).1);have hrun:=z085 (ty:=ty) (ad:=ad) A sx h5 (fun hc=>by rw [had hc];simp) hroom hfit hone;obtain ⟨k1,k2⟩:=hr.grow (w':=w.setRow bi.r (cur.toList.take (rows.length*te.size)++sx.us++cur.toList.drop (rows.length*te.size+sx.us.length)).toArray) (rows':=rows++n) hb hH rfl rfl rfl (by simp) h5 (setRow_heap w bi.r cur _ T _ h5) (fun r hr=>setRow_other w bi.r r _ hr) (by simp;omega)
    (by rw [List.length_append,Nat.add_mul,<- sx.len];exact hfit) (zsj h7 hnr) (fun i row j y u q1 q2 q3=>by
      rw [List.getElem?_toArray] at q3;exact z038 hfit h7 h8 sx.rel i row j y u q1 q2 q3)
   refine ⟨_,_,_,.inl (hgo _ _ hrun),by rw [hap];exact k1,.ref (bi:=⟨bi.r,te.size,ve+1⟩) (hself _) (Nat.le_refl _) hroom (fun _=>⟨fun hc=>by rw [had hc];simp,_,T,setRow_heap w bi.r cur _ T _ h5,?_⟩),by rw [hap];exact k2,hnone _⟩;simp;omega
 · have hrun:=z01b (ty:=ty) A ss sx (by omega) hb1 hb2;have hge:=grownCap_ge w (rows.length+n.length) c e;have hsz:=z01c A ss sx hge;obtain ⟨k1,k2⟩:=hr.regrow (w':=w.drew.alloc (.cells (ss.us.toArray++sx.us.toArray++Builtin.zeroCells A.zv.cells (grownCap w (rows.length+n.length) c e - (rows.length+n.length))) e)) (T:=e) (rows':=rows++n) hb hH rfl rfl rfl rfl
    (by rw [hsz,List.length_append];exact Nat.mul_le_mul_right _ hge) (zsj h7 hnr) (fun i row j y u q1 q2 q3=>by
      rw [<- Array.getElem?_toList] at q3;simp only [Array.toList_append,List.append_assoc] at q3;exact zlr ss.len h7 hnr ss.rel sx.rel i row j y u q1 q2 q3)
   refine ⟨_,_,_,.inl (hgo _ _ hrun),by rw [hap];exact k1,.ref (bi:=⟨w.heap.size,te.size,ve+1⟩) (hself _) (Nat.le_refl _) hge (fun _=>⟨fun hc=>by simp,_,e,heap_alloc_new w.drew _,?_⟩),by rw [hap];exact k2,hnone _⟩;rw [hsz,Nat.zero_add];exact Nat.le_refl _
theorem zrk {slot:Nat} {st xt:TypeId} {ts:Array TypeId} {args:Array Operand} {s x:Operand} {v:AV} {ch:Option (Nat×AO)} {d:TypeDesc} (hr:HRel w X β H) (ht:z2c w (NN X β H) β t a.tmps) (hf:z40 β H slot)
 (ho:o.op=.call { callee:=.builtin .append,args:=args,argTypes:=ts }) (h1:ts.toList=[st,xt]) (h2:args.toList=[s,x]) (hxd:P.underlying xt=some d) (hdi:∀ k,d≠.int k)
 (he:z2a P H slot st (opd t s) (opd t x)=some (v,ch)):Out P w X β H a slot o v ch:=by
 have hs:=zp ht s;have hx:=zp ht x;have ts':ts=#[st,xt]:=Array.ext' h1;have args':args=#[s,x]:=Array.ext' h2;have hgo:∀ u w',(Builtin.append_ #[st,xt] o.type #[a.eval s,a.eval x]).run P w=.ok u w'->(execOp a.eval o).run P w=.ok (.value u) w':=by
  intro u w' h;simp only [execOp,ho,resolve,Sem.run_bind,Sem.run_pure,Result.andThen_ok,invoke,builtin,ts',args',List.map_toArray,List.map_cons,List.map_nil,h]
 generalize a.eval s=sv at hs hgo;generalize a.eval x=xv at hx hgo;generalize opd t s=sa at hs he;generalize opd t x=xa at hx he;unfold z2a at he;split at he
 · rename_i _ _ e _ hti;split at he
   · rename_i te hte;split at he
     · cases he
     · rename_i hz0;simp only [not_or] at hz0;obtain ⟨hsz,hzr⟩:=hz0;cases hz:z08 te with
       | none=>rw [hz] at hzr;simp at hzr
       | some z =>
       obtain ⟨info,zv,i1,i2,i3,i4⟩:=z2m hte hz;obtain ⟨info',d',g1,g2,g3,g4,g5,g6⟩:=zhq hte;rw [g1] at i1;cases i1;have A:AppTy P st xt e te z:=⟨d,info,zv,z0a hti rfl,hxd,hdi,hte,g1,i2,g3.symm,g4.symm,by rw [(i4 w (fun _=>True) []).1,i3],hsz⟩;split at he
       · rename_i l n hn;split at he
         · cases he
         · rename_i hb;simp only [not_or,Nat.not_lt,gt_iff_lt] at hb;split at he
           · rename_i hall;simp only [Bool.and_eq_true] at hall;have hnr:=z051 hall.1;have hlr:=z051 hall.2;obtain ⟨sx⟩:=z050 (P:=P) hr hx hn hsz hnr;split at he
             · rename_i h0;cases he;have hl0:l=[]:=List.eq_nil_of_length_eq_zero h0.1;have hn0:n=[]:=List.eq_nil_of_length_eq_zero h0.2;subst hl0;subst hn0;obtain ⟨ad,rfl⟩:=znj hs;exact Out.val hr ⟨_,hgo (.slice ad 0 0) w (z052 A sx),hs⟩
             · split at he
               · cases he
               · rename_i h0 hn0;cases he;exact zvf A hr hf hs sx hlr hnr hn0 hb.1 hb.2 hgo
           · cases he
       · rename_i b ve of len n hn;split at he
         · rename_i k v' rows hH;split at he
           · rename_i hc;obtain ⟨rfl,rfl,rfl,rfl,hb1,hb2⟩:=hc;split at he
             · rename_i hall;cases he;have hnr:∀ (i:Nat) row,n[i]?=some row->row.length=te.size:=fun i row hh=>by
                have:=List.all_eq_true.1 hall row (List.mem_of_getElem? hh);simp only [Bool.and_eq_true,beq_iff_eq] at this;exact this.1
               have hnl:∀ (i:Nat) row (j:Nat) y,n[i]?=some row->row[j]?=some y->y.leaf=true:=fun i row j y hh hh2=>by
                have:=List.all_eq_true.1 hall row (List.mem_of_getElem? hh);simp only [Bool.and_eq_true,beq_iff_eq] at this;exact List.all_eq_true.1 this.2 y (List.mem_of_getElem? hh2)
               obtain ⟨sx⟩:=z050 (P:=P) hr hx hn hsz hnr;exact z039 A hr hH hs sx hnr hnl hb1 hb2 hgo
             · cases he
           · cases he
         · cases he
       · cases he
   · cases he
 · cases he
end
end Clk
namespace Clk
open Go
section
variable {P:Program} {w:World} {X:Nat->Prop} {β:z13} {H:List AO} {t:List AV} {a:Act} {o:Oper}
theorem z053 {R:AV->Value->Prop} {size of:Nat} {rows n:List (List AV)} {cur:Array Value} {vs:List Value} (hof:of+n.length<=rows.length) (hv:vs.length=n.length*size) (hcs:rows.length*size<=cur.size)
 (hlr:∀ (i:Nat) row,rows[i]?=some row->row.length=size) (hnr:∀ (i:Nat) row,n[i]?=some row->row.length=size)
 (r1:∀ (i:Nat) row (j:Nat) x u,rows[i]?=some row->row[j]?=some x->cur[i*size+j]?=some u->R x u)
 (r2:∀ (i:Nat) row (j:Nat) x,n[i]?=some row->row[j]?=some x->∃ u,vs[i*size+j]?=some u /\ R x u) :
 (∀ (i:Nat) row,(rows.take of++n++rows.drop (of+n.length))[i]?=some row->row.length=size) /\
 ∀ (i:Nat) row (j:Nat) x u,(rows.take of++n++rows.drop (of+n.length))[i]?=some row->row[j]?=some x->(cur.toList.take (of*size)++vs++cur.toList.drop (of*size+vs.length))[i*size+j]?=some u->R x u:=by
 have hmul:of*size+vs.length<=cur.size:=by
  rw [hv,<- Nat.add_mul];exact Nat.le_trans (Nat.mul_le_mul_right _ hof) hcs
 constructor
 · intro i row h;rw [zko _ _ _ _ hof] at h;split at h
   · exact hnr _ row h
   · exact hlr i row h
 · intro i row j x u h1 h2 h3;rw [zko _ _ _ _ hof] at h1;rw [zko _ _ _ _ (by simpa using hmul)] at h3;by_cases hi:of<=i /\ i<of+n.length
   · rw [if_pos hi] at h1;obtain ⟨u',e1,e2⟩:=r2 _ row j x h1 h2;have hj:j<size:=by have:=(zG.1 h2).1;rw [hnr _ _ h1] at this;exact this
     have hle:of*size<=i*size:=Nat.mul_le_mul_right _ hi.1;have hlt:=(zG.1 e1).1;have e3:i*size+j - of*size=(i - of)*size+j:=by rw [Nat.sub_mul];omega
     rw [if_pos (by omega),e3,e1] at h3;cases h3;exact e2
   · rw [if_neg hi] at h1;have hj:j<size:=by have:=(zG.1 h2).1;rw [hlr _ _ h1] at this;exact this
     have hne:¬ (of*size<=i*size+j /\ i*size+j<of*size+vs.length):=by
      intro hh;apply hi
      rw [hv,<- Nat.add_mul] at hh;constructor
      · apply Nat.le_of_lt_succ
        apply Nat.lt_of_mul_lt_mul_right (a:=size)
        rw [Nat.succ_mul];omega
      · apply Nat.lt_of_mul_lt_mul_right (a:=size)
        omega
     rw [if_neg hne,Array.getElem?_toList] at h3;exact r1 i row j x u h1 h2 h3
theorem zrl {b ve k of:Nat} {rows n:List (List AV)} {vs:List Value} {bi:BI} (hr:HRel w X β H) (hb:β.getD b none=some bi) (hH:H.getD b .none=.blk k ve true rows)
 (hof:of+n.length<=rows.length) (hv:vs.length=n.length*k) (hnr:∀ (i:Nat) row,n[i]?=some row->row.length=k) (hone:∀ u∈vs,u.oneCell'=true)
 (r2:∀ (i:Nat) row (j:Nat) x,n[i]?=some row->row[j]?=some x->∃ u,vs[i*k+j]?=some u /\ Rel w (NN X β H) β x u) :
 ∃ w',(storeCells ⟨bi.r,of*k,none⟩ vs).run P w=.ok () w' /\ HRel w' X β (H.set b (.blk k ve true (rows.take of++n++rows.drop (of+n.length)))) /\
  Fr w (zn β H) β w' (zn β (H.set b (.blk k ve true (rows.take of++n++rows.drop (of+n.length))))) β:=by
 have hob:=hr.obj b bi hb;rw [hH] at hob;obtain ⟨e1,e2,e3,_,cur,T,h5,h6,h7,h8⟩:=hob;have hfit:of*k+vs.length<=cur.size:=by
  rw [hv,<- Nat.add_mul];exact Nat.le_trans (Nat.mul_le_mul_right _ hof) h6
 have hst:=run_storeCells_at P bi.r (of*k) T vs 0 cur w h5 (by omega) hone;simp only [Nat.add_zero] at hst;obtain ⟨m1,m2⟩:=z053 hof hv h6 h7 hnr h8 r2;obtain ⟨k1,k2⟩:=hr.write (w':=w.setRow bi.r (cur.toList.take (of*k)++vs++cur.toList.drop (of*k+vs.length)).toArray) (rows':=rows.take of++n++rows.drop (of+n.length)) hb hH rfl rfl rfl (by simp) h5 (setRow_heap w bi.r cur _ T _ h5) (fun r hr=>setRow_other w bi.r r _ hr) (by simp;omega)
  (by
    have:(rows.take of++n++rows.drop (of+n.length)).length=rows.length:=by simp;omega
    rw [this];exact h6) m1 (fun i row j x u q1 q2 q3=>by rw [List.getElem?_toArray] at q3;exact m2 i row j x u q1 q2 q3)
 exact ⟨_,hst,k1,k2⟩
theorem zkp {b:Nat} {ob:AO} (h:H.getD b .none≠.none):zi H (some (b,ob))=H.set b ob:=by
 have:b<H.length:=by
  rcases Nat.lt_or_ge b H.length with h' | h'
  · exact h'
  · exact absurd (by simp [zI,List.getElem?_eq_none h']) h
 simp [zi,this]
theorem z086 {slot:Nat} {dt:TypeId} {rest:List TypeId} {ts:Array TypeId} {args:Array Operand} {d s:Operand} {v:AV} {ch:Option (Nat×AO)} (hr:HRel w X β H) (ht:z2c w (NN X β H) β t a.tmps)
 (ho:o.op=.call { callee:=.builtin .copy,args:=args,argTypes:=ts }) (h1:ts.toList=dt::rest) (h2:args.toList=[d,s]) (he:copyA P H dt (opd t d) (opd t s)=some (v,ch)):Out P w X β H a slot o v ch:=by
 have hd:=zp ht d;have hs:=zp ht s;have t0:ts[0]?=some dt:=by rw [<- Array.getElem?_toList,h1];rfl
 have args':args=#[d,s]:=Array.ext' h2;have hgo:∀ u w',(Builtin.copy_ ts o.type #[a.eval d,a.eval s]).run P w=.ok u w'->(execOp a.eval o).run P w=.ok (.value u) w':=by
  intro u w' h;simp only [execOp,ho,resolve,Sem.run_bind,Sem.run_pure,Result.andThen_ok,invoke,builtin,args',List.map_toArray,List.map_cons,List.map_nil,h]
 generalize a.eval d=dv at hd hgo;generalize a.eval s=sv at hs hgo;generalize opd t d=da at hd he;generalize opd t s=sa at hs he;unfold copyA at he;split at he
 · rename_i _ _ e _ hti;split at he
   · rename_i te b ve of n src hte hro;split at he
     · rename_i k v' rows hH;split at he
       · rename_i hc;cases he;obtain ⟨rfl,hof,rfl,hall⟩:=hc;have hsr:∀ (i:Nat) row,src[i]?=some row->row.length=te.size:=fun i row hh=>by
          have:=List.all_eq_true.1 hall row (List.mem_of_getElem? hh);simp only [Bool.and_eq_true,beq_iff_eq] at this;exact this.1
         have hsl:∀ (i:Nat) row (j:Nat) y,src[i]?=some row->row[j]?=some y->y.leaf=true:=fun i row j y hh hh2=>by
          have:=List.all_eq_true.1 hall row (List.mem_of_getElem? hh);simp only [Bool.and_eq_true,beq_iff_eq] at this;exact List.all_eq_true.1 this.2 y (List.mem_of_getElem? hh2)
         cases hd with
         | imm hd=>cases hd
         | @ref _ _ _ _ c bi ad hb hv hcc hcur =>
         have hob:=hr.obj b bi hb;rw [hH] at hob;obtain ⟨e1,e2,e3,_,cur,T,h5,h6,h7,h8⟩:=hob;obtain ⟨had,_,_,_,_⟩:=hcur (by omega);obtain ⟨A,C,us,hsv,hsc,hslen,hcells,hrel⟩:=zc8 (size:=te.size) hr hs hro e3 hsr;subst hsv;have hu:=z0a hti rfl;have hn:(src.take (min src.length n)).length=min src.length n:=by simp
         have husl:(us.take (min src.length n*te.size)).length=min src.length n*te.size:=by
          rw [List.length_take,hslen];exact Nat.min_eq_left (Nat.mul_le_mul_right _ (Nat.min_le_left _ _))
         have hrel2:∀ (i:Nat) row (j:Nat) x,(src.take (min src.length n))[i]?=some row->row[j]?=some x->∃ u,(us.take (min src.length n*te.size))[i*te.size+j]?=some u /\ Rel w (NN X β H) β x u:=by
          intro i row j x q1 q2;rw [List.getElem?_take] at q1;split at q1
          · rename_i hi;obtain ⟨u,g1,g2⟩:=hrel i row j x q1 q2;have hj:j<te.size:=by have:=(zG.1 q2).1;rw [hsr _ _ q1] at this;exact this
            exact ⟨u,by rw [List.getElem?_take,if_pos (zbc hi hj)];exact g1,g2⟩
          · cases q1
         have hone:∀ u∈us.take (min src.length n*te.size),u.oneCell'=true:=by
          have sx:Src P w (Rel w (NN X β H) β) te.size (src.take (min src.length n)) (.slice A src.length C)->True:=fun _=>trivial
          intro u hu;obtain ⟨m,hm,rfl⟩:=List.getElem_of_mem hu;rw [husl] at hm;have hmi:m / te.size<(src.take (min src.length n)).length:=by rw [hn];apply Nat.div_lt_of_lt_mul;rw [Nat.mul_comm];exact hm
          have r1:=zH hmi;have r1':=r1;rw [List.getElem?_take] at r1';split at r1'
          · have r2:=zH (l:=(src.take (min src.length n))[m / te.size]) (i:=m % te.size) (by rw [hsr _ _ r1'];exact Nat.mod_lt _ e3);obtain ⟨u',q1,q2⟩:=hrel2 _ _ _ _ r1 r2;have em:m / te.size*te.size+m % te.size=m:=by rw [Nat.mul_comm];exact Nat.div_add_mod m _
            rw [em,zH (by rw [husl];exact hm)] at q1;cases q1;exact (zc9 q2 (hsl _ _ _ _ r1' r2)).1
          · cases r1'
         have hnr:∀ (i:Nat) row,(src.take (min src.length n))[i]?=some row->row.length=te.size:=fun i row q=>by
          rw [List.getElem?_take] at q;split at q
          · exact hsr i row q
          · cases q
         obtain ⟨w',hst,k1,k2⟩:=zrl (P:=P) (of:=of) hr hb hH (by rw [hn];omega) (by rw [husl,hn]) hnr hone hrel2;rw [hn] at k1 k2;have hap:=zkp (ob:=.blk te.size ve true (rows.take of++src.take (min src.length n)++rows.drop (of+min src.length n))) (H:=H) (b:=b) (by rw [hH];simp);have hfirst:(Builtin.firstCells te.size (Nat.min src.length n) (.slice A src.length C)).run P w=.ok (us.take (min src.length n*te.size)).toArray w:=by
          by_cases h0:0<src.length
          · obtain ⟨ad2,rfl,hsp,hcc2⟩:=hcells h0;have:=run_loadCells_list (P:=P) w ad2 (us.take (min src.length n*te.size)) (fun j u h=>hcc2 j u (by rw [List.getElem?_take] at h;split at h <;> first | exact h | cases h));rw [husl] at this;simp only [Builtin.firstCells];exact this
          · have h00:src.length=0:=by omega
            have:us.take (min src.length n*te.size)=[]:=List.eq_nil_of_length_eq_zero (by rw [husl,h00];simp);rw [this];have hm0:Nat.min src.length n=0:=by rw [h00];exact Nat.zero_min n
            rw [hm0];cases A <;> simp [Builtin.firstCells,loadCells,loadCellsFrom]
         by_cases hc0:0<c
         · have hads:=had hc0;subst hads;refine ⟨goInt (Nat.min src.length n:Nat),w',β,.inl (hgo _ _ ?_),by rw [hap];exact k1,.imm (.int _ _),by rw [hap];exact k2,fun _ _ h=>h⟩;rw [e1];simp only [Builtin.copy_,t0,List.getElem?_toArray,List.getElem?_cons_zero,List.getElem?_cons_succ,Sem.run_bind,run_underlying hu,Result.andThen_ok,Builtin.lenOf,Sem.run_pure,zm hte,hfirst,hst]
         · have hn0:n=0:=by omega
           subst hn0;have hm0:Nat.min src.length 0=0:=Nat.min_zero _;have hmm:min src.length 0=0:=Nat.min_zero _;have hsame:rows.take of++src.take (min src.length 0)++rows.drop (of+min src.length 0)=rows:=by rw [hmm];simp
           have hset:H.set b (.blk te.size ve true rows)=H:=by
            apply List.ext_getElem?
            intro m;rw [List.getElem?_set];split
            · rename_i e;subst e;split
              · rename_i hlt;rw [zH hlt];have:H.getD b .none=H[b]:=by simp [zI,hlt]
                rw [<- this,hH]
              · rename_i hlt;rw [List.getElem?_eq_none (by omega)]
            · rfl
           rw [hsame] at hap;rw [hset] at hap;refine ⟨goInt (0:Nat),w,β,.inl (hgo _ _ ?_),by rw [hsame,hap];exact hr,by rw [hmm];exact .imm (.int _ _),by rw [hsame,hap];exact Fr.refl _ _ _,fun _ _ h=>h⟩;rw [hm0] at hfirst;have hus0:us.take (min src.length 0*te.size)=[]:=List.eq_nil_of_length_eq_zero (by rw [husl,hmm];simp);rw [hus0] at hfirst;simp only [Builtin.copy_,t0,List.getElem?_toArray,List.getElem?_cons_zero,List.getElem?_cons_succ,Sem.run_bind,run_underlying hu,Result.andThen_ok,Builtin.lenOf,Sem.run_pure,zm hte,hm0,hfirst];cases ad <;> simp [storeCells]
       · cases he
     · cases he
   · rename_i te src hte hro;split at he
     · rename_i hc;cases he;obtain ⟨e3,hall⟩:=hc;have hsr:∀ (i:Nat) row,src[i]?=some row->row.length=te.size:=fun i row hh=>by
        have:=List.all_eq_true.1 hall row (List.mem_of_getElem? hh);simpa using this
       obtain ⟨A,C,us,hsv,hsc,hslen,hcells,hrel⟩:=zc8 (size:=te.size) hr hs hro e3 hsr;subst hsv;have hu:=z0a hti rfl;cases hd with
       | imm hd =>
         generalize hl0:([]:List (List AV))=l0 at hd;cases hd with
         | crows hk ha hu2 hr2 =>
           subst hl0;rename_i ad _ _;have hm0:Nat.min src.length 0=0:=Nat.min_zero _;have hfirst:(Builtin.firstCells te.size 0 (.slice A src.length C)).run P w=.ok #[] w:=by
            cases A <;> simp [Builtin.firstCells,loadCells,loadCellsFrom]
           refine ⟨goInt (0:Nat),w,β,.inl (hgo _ _ ?_),hr,.imm (.int _ _),Fr.refl _ _ _,fun _ _ h=>h⟩;simp only [List.length_nil,Builtin.copy_,t0,List.getElem?_toArray,List.getElem?_cons_zero,List.getElem?_cons_succ,Sem.run_bind,run_underlying hu,Result.andThen_ok,Builtin.lenOf,Sem.run_pure,zm hte,hm0,hfirst];cases ad <;> simp [storeCells]
     · cases he
   · rename_i te src hte hro;split at he
     · rename_i hc;cases he;obtain ⟨e3,hall⟩:=hc;have hsr:∀ (i:Nat) row,src[i]?=some row->row.length=te.size:=fun i row hh=>by
        have:=List.all_eq_true.1 hall row (List.mem_of_getElem? hh);simpa using this
       obtain ⟨A,C,us,hsv,hsc,hslen,hcells,hrel⟩:=zc8 (size:=te.size) hr hs hro e3 hsr;subst hsv;have hu:=z0a hti rfl;cases hd with
       | imm hd =>
         generalize hl0:([]:List (List AV))=l0 at hd;cases hd with
         | rows hc2 hk ha hu2 hr2 =>
           subst hl0;rename_i ad _ _ _;have hm0:Nat.min src.length 0=0:=Nat.min_zero _;have hfirst:(Builtin.firstCells te.size 0 (.slice A src.length C)).run P w=.ok #[] w:=by
            cases A <;> simp [Builtin.firstCells,loadCells,loadCellsFrom]
           refine ⟨goInt (0:Nat),w,β,.inl (hgo _ _ ?_),hr,.imm (.int _ _),Fr.refl _ _ _,fun _ _ h=>h⟩;simp only [List.length_nil,Builtin.copy_,t0,List.getElem?_toArray,List.getElem?_cons_zero,List.getElem?_cons_succ,Sem.run_bind,run_underlying hu,Result.andThen_ok,Builtin.lenOf,Sem.run_pure,zm hte,hm0,hfirst];cases ad <;> simp [storeCells]
     · cases he
   · cases he
 · cases he
theorem z087 {b:Nat} {ob:AO} (hH:H.getD b .none=ob):H.set b ob=H:=by
 apply List.ext_getElem?
 intro m;rw [List.getElem?_set];split
 · rename_i e;subst e;split
   · rename_i hlt;rw [zH hlt];have:H.getD b .none=H[b]:=by simp [zI,hlt]
     rw [<- this,hH]
   · rename_i hlt;rw [List.getElem?_eq_none (by omega)]
 · rfl
theorem z054 {slot:Nat} {ty:TypeId} {xs:List TypeId} {x:Operand} {rest:List Operand} {ts:Array TypeId} {args:Array Operand} {v:AV} {ch:Option (Nat×AO)} (hr:HRel w X β H) (ht:z2c w (NN X β H) β t a.tmps)
 (ho:o.op=.call { callee:=.builtin .clear,args:=args,argTypes:=ts }) (h1:ts.toList=ty::xs) (h2:args.toList=x::rest) (he:clearA P H ty (opd t x)=some (v,ch)):Out P w X β H a slot o v ch:=by
 have hx:=zp ht x;have t0:ts[0]?=some ty:=by rw [<- Array.getElem?_toList,h1];rfl
 have a0:(args.map a.eval)[0]?=some (a.eval x):=by rw [Array.getElem?_map,<- Array.getElem?_toList,h2];rfl
 have hgo:∀ u w',(Builtin.clear_ ts o.type (args.map a.eval)).run P w=.ok u w'->(execOp a.eval o).run P w=.ok (.value u) w':=by
  intro u w' h;simp only [execOp,ho,resolve,Sem.run_bind,Sem.run_pure,Result.andThen_ok,invoke,builtin,h]
 generalize a.eval x=xv at hx hgo a0;generalize opd t x=xa at hx he;unfold clearA at he;split at he
 · rename_i _ _ e _ hti;split at he
   · rename_i te b ve of n hte;split at he
     · rename_i k v' rows z hH hz;split at he
       · rename_i hc;cases he;obtain ⟨rfl,hof,rfl,hall⟩:=hc;cases hx with
         | imm hx=>cases hx
         | @ref _ _ _ _ c bi ad hb hv hcc hcur =>
         have hob:=hr.obj b bi hb;rw [hH] at hob;obtain ⟨e1,e2,e3,_,cur,T,h5,h6,h7,h8⟩:=hob;obtain ⟨had,_,_,_,_⟩:=hcur (by omega);obtain ⟨info,zv,i1,i2,i3,i4⟩:=z2m hte hz;have hu:=z0a hti rfl;have hzs:zv.cells.size=z.length:=(i4 w (NN X β H) β).1;by_cases hn0:n=0
         · subst hn0;have hsame:rows.take of++List.replicate 0 z++rows.drop (of+0)=rows:=by simp
           have hap:=zkp (ob:=.blk te.size ve true rows) (H:=H) (b:=b) (by rw [hH];simp);rw [z087 hH] at hap;refine ⟨.tuple #[],w,β,.inl (hgo _ _ ?_),by rw [hsame,hap];exact hr,.imm (.tup rfl (fun i a v h=>by simp at h)),by rw [hsame,hap];exact Fr.refl _ _ _,fun _ _ h=>h⟩;cases ad <;> simp [Builtin.clear_,t0,a0,run_underlying hu]
         · have hc0:0<c:=by omega
           have hads:=had hc0;subst hads;have hzc:(Builtin.zeroCells zv.cells n).toList=(madeCells zv.cells (n*z.length)).toList:=by rw [<- hzs];rfl
           have hone:∀ u∈(madeCells zv.cells (n*z.length)).toList,u.oneCell'=true:=by
            intro u hu;obtain ⟨m,hm,rfl⟩:=List.getElem_of_mem hu;rw [Array.length_toList,size_madeCells] at hm;have hz0:0<z.length:=by omega
            have hmi:m / z.length<n:=by apply Nat.div_lt_of_lt_mul;rw [Nat.mul_comm];exact hm
            have hmj:=Nat.mod_lt m hz0;have em:m / z.length*z.length+m % z.length=m:=by rw [Nat.mul_comm];exact Nat.div_add_mod m _
            have:=z87 (i4 w (NN X β H) β) hz0 (Nat.le_refl n) (m / z.length) z (m % z.length) z[m % z.length] (madeCells zv.cells (n*z.length)).toList[m] (by rw [List.getElem?_replicate,if_pos hmi]) (zH hmj) (by rw [em,<- Array.getElem?_toList];exact zH _);exact (zc9 this (List.all_eq_true.1 hall _ (List.getElem_mem hmj))).1
           obtain ⟨w',hst,k1,k2⟩:=zrl (P:=P) (of:=of) (n:=List.replicate n z) (vs:=(madeCells zv.cells (n*z.length)).toList) hr hb hH (by simpa using hof) (by simp [size_madeCells,i3])
            (fun i row q => by rw [List.getElem?_replicate] at q; split at q
                               · cases q;exact i3
                               · cases q) hone
            (fun i row j y q1 q2=>by
              have hi:i<n:=by have:=(zG.1 q1).1;simpa using this
              have q1':=q1;rw [List.getElem?_replicate,if_pos hi] at q1';cases q1';have hj:=(zG.1 q2).1;have hlt:i*z.length+j<(madeCells zv.cells (n*z.length)).size:=by rw [size_madeCells];exact zbc hi hj
              refine ⟨_,?_,z87 (i4 w (NN X β H) β) (by omega) (Nat.le_refl n) i z j y _ q1 q2 (Array.getElem?_eq_getElem hlt)⟩;rw [<- i3,Array.getElem?_toList];exact Array.getElem?_eq_getElem hlt)
           simp only [List.length_replicate] at k1 k2;have hap:=zkp (ob:=.blk te.size ve true (rows.take of++List.replicate n z++rows.drop (of+n))) (H:=H) (b:=b) (by rw [hH];simp);refine ⟨.tuple #[],w',β,.inl (hgo _ _ ?_),by rw [hap];exact k1,.imm (.tup rfl (fun i a v h=>by simp at h)),by rw [hap];exact k2,fun _ _ h=>h⟩;obtain ⟨n',rfl⟩:∃ n',n=n'+1:=⟨n - 1,by omega⟩;rw [e1] at a0;simp only [Builtin.clear_,t0,a0,Sem.run_bind,run_underlying hu,Result.andThen_ok,zeroValue,typeInfo,run_program,i1,i2,Sem.run_pure,hzc,hst]
       · cases he
     · cases he
   · cases he
 · cases he
end
end Clk
namespace Clk
open Go
section
variable {P:Program} {w:World} {X:Nat->Prop} {β:z13} {H:List AO} {t:List AV} {a:Act} {o:Oper}
theorem z14 {x:Option AV} {v:AV} {ch:Option (Nat×AO)} (h:z5y x=some (v,ch)):x=some v /\ ch=none:=by
 unfold z5y at h;cases x with
 | none=>cases h
 | some y=>simp at h;exact ⟨by rw [h.1],h.2.symm⟩
theorem zz1 {slot:Nat} {v:AV} {ch:Option (Nat×AO)} (hr:HRel w X β H) (ht:z2c w (NN X β H) β t a.tmps) (hf:z40 β H slot) (he:z09 P t H slot o=some (v,ch)):Out P w X β H a slot o v ch:=by
 cases ho:o.op <;> simp only [z09,ho] at he
 case move x=>cases he;exact Out.val hr (z019 ht (.inl ho))
 case assign x=>cases he;exact Out.val hr (z019 ht (.inr ho))
 case pick c x y =>
  split at he
  · rename_i h;cases he;exact Out.val hr (z01a (b:=true) ht ho h)
  · rename_i h;cases he;exact Out.val hr (z01a (b:=false) ht ho h)
  · cases he
 case alloc e =>
  split at he
  · rename_i i hti;split at he
    · rename_i z hz;split at he
      · rename_i ob hn;cases he;exact z04x hr hf ho hti hz hn
      · cases he
    · cases he
  · cases he
 case box e x =>
  split at he
  · rename_i cs hc;split at he
    · rename_i ob hn;cases he;exact z0ax hr ht hf ho hc hn
    · cases he
  · cases he
 case build ty parts =>
  split at he
  · rename_i i hti;split at he
    · rename_i z fs hz hk;split at he
      · rename_i hall;split at he
        · rename_i cs hfi;cases he;exact Out.val hr (zvd ht ho hti hz hk hall hfi)
        · cases he
      · cases he
    · rename_i z n e hz hk;split at he
      · rename_i te hte;split at he
        · rename_i cs hfi;cases he;exact Out.val hr (zz0 ht ho hti hz hk hte hfi)
        · cases he
      · cases he
    · cases he
  · cases he
 case buildSlice ty n parts =>
  split at he
  · rename_i e _ hti;split at he
    · rename_i te hte;split at he
      · rename_i z hz;split at he
        · rename_i hc0;obtain ⟨rfl,hc0⟩:=hc0;cases he;exact znp hr ho hc0 hti rfl hte
        · split at he
          · rename_i hc;split at he
            · rename_i rows hfi;cases he;exact zq5 hr ht hf ho hti rfl hte hz hc.1 hc.2 hfi
            · cases he
          · cases he
      · cases he
    · cases he
  · cases he
 case load ty x=>obtain ⟨h1,rfl⟩:=z14 he;exact Out.val hr (z018 hr ht ho h1)
 case store ty p x =>
  split at he
  · rename_i b v' i j cs ty' hp hc hti;split at he
    · rename_i k v2 rows hH;split at he
      · cases he
      · rename_i row hrow _;split at he
        · rename_i hcc;cases he;obtain ⟨rfl,h1,h2,h3⟩:=hcc;exact z04y hr ht ho hp hc hti hH hrow h1 h2
        · cases he
      · cases he
    · cases he
  · cases he
 case nilCheck x =>
  split at he
  · rename_i b v' i j h;cases he;rw [<- h];exact Out.val hr (zsg ht ho (.inl ⟨_,_,_,_,h⟩))
  · rename_i l j h;cases he;rw [<- h];exact Out.val hr (zsg ht ho (.inr (.inl ⟨_,_,h⟩)))
  · rename_i f l m h;cases he;rw [<- h];exact Out.val hr (zsg ht ho (.inr (.inr (.inl ⟨_,_,_,h⟩))))
  · rename_i l h;cases he;rw [<- h];exact Out.val hr (zsg ht ho (.inr (.inr (.inr ⟨_,h⟩))))
  · cases he
 case binOp op ty x y yt=>obtain ⟨h1,rfl⟩:=z14 he;exact Out.val hr (z07z ht ho h1)
 case unOp op ty x=>obtain ⟨h1,rfl⟩:=z14 he;exact Out.val hr (z0aw ht ho h1)
 case convert s d x=>obtain ⟨h1,rfl⟩:=z14 he;exact Out.val hr (z04s hr ht ho h1)
 case makeInterface ty x =>
  split at he
  · cases he
  · rename_i i hne hti;cases he;exact Out.val hr (z04v ht ho hti (fun h=>by
     obtain ⟨s,b,k,z⟩:=i;simp only at h;subst h;exact hne _ _ _ rfl))
  · cases he
 case makeFunc fn first cap =>
  cases fn <;> simp only at he
  case func f=>cases he;exact Out.val hr (z0ct ht ho)
  all_goals cases he
 case makeSlice ty l c =>
  split at he
  · rename_i _ _ e _ n m hti hl hc;split at he
    · rename_i te hte;split at he
      · rename_i z hz;split at he
        · rename_i hcc;cases he;obtain ⟨h0,h1,h2,h3,h4⟩:=hcc;exact zsh hr ht hf ho hti rfl hte hz hl hc h0 h1 h2 h3 h4
        · cases he
      · cases he
    · cases he
  · cases he
 case slice ty x lo hi mx=>obtain ⟨h1,rfl⟩:=z14 he;exact Out.val hr (z034 hr ht ho h1)
 case fieldAddr s x f=>obtain ⟨h1,rfl⟩:=z14 he;exact Out.val hr (zq3 ht ho h1)
 case field s x f=>obtain ⟨h1,rfl⟩:=z14 he;exact Out.val hr (z035 ht ho h1)
 case indexAddr ty x ix=>obtain ⟨h1,rfl⟩:=z14 he;exact Out.val hr (zq4 hr ht ho h1)
 case index ty x ix=>obtain ⟨h1,rfl⟩:=z14 he;exact Out.val hr (z036 ht ho h1)
 case extract x ix =>
  split at he
  · rename_i l h;cases hl:l[ix]? with
    | none=>rw [hl] at he;cases he
    | some y=>rw [hl] at he;cases he;exact Out.val hr (zyy ht ho h hl)
  · cases he
 case call c =>
  obtain ⟨callee,args,ts⟩:=c;cases callee <;> simp only at he
  case builtin b =>
   unfold z2y at he;split at he
   · rename_i st xt s x h1 h2;have h2':∃ so xo,args.toList=[so,xo] /\ s=opd t so /\ x=opd t xo:=by
      cases hl:args.toList with
      | nil=>rw [hl] at h2;cases h2
      | cons so l=>cases l with
        | nil=>rw [hl] at h2;cases h2
        | cons xo l=>cases l with
          | nil=>rw [hl] at h2;simp at h2;exact ⟨so,xo,rfl,h2.1.symm,h2.2.symm⟩
          | cons _ _=>rw [hl] at h2;simp at h2
     clear h2;obtain ⟨so,xo,h2,rfl,rfl⟩:=h2';split at he
     · rename_i hxt;exact zrk hr ht hf ho h1 h2 (z0a hxt rfl) (fun k e=>by cases e) he
     · rename_i hxt;exact zrk hr ht hf ho h1 h2 (z2k hxt rfl) (fun k e=>by cases e) he
     · cases he
   · rename_i ty xs x rest h1 h2;cases hl:args.toList with
     | nil=>rw [hl] at h2;cases h2
     | cons so l =>
       rw [hl] at h2;simp at h2;obtain ⟨rfl,_⟩:=h2;obtain ⟨h3,rfl⟩:=z14 he;exact Out.val hr (z080 ht ho h1 hl h3)
   · rename_i dt rest d s h1 h2;have h2':∃ so xo,args.toList=[so,xo] /\ d=opd t so /\ s=opd t xo:=by
      cases hl:args.toList with
      | nil=>rw [hl] at h2;cases h2
      | cons so l=>cases l with
        | nil=>rw [hl] at h2;cases h2
        | cons xo l=>cases l with
          | nil=>rw [hl] at h2;simp at h2;exact ⟨so,xo,rfl,h2.1.symm,h2.2.symm⟩
          | cons _ _=>rw [hl] at h2;simp at h2
     clear h2;obtain ⟨so,xo,h2,rfl,rfl⟩:=h2';exact z086 hr ht ho h1 h2 he
   · rename_i ty xs x rest h1 h2;cases hl:args.toList with
     | nil=>rw [hl] at h2;cases h2
     | cons so l =>
       rw [hl] at h2;simp at h2;obtain ⟨rfl,_⟩:=h2;exact z054 hr ht ho h1 hl he
   · rename_i x rest h2;cases hl:args.toList with
     | nil=>rw [hl] at h2;cases h2
     | cons so l =>
       rw [hl] at h2;simp at h2;obtain ⟨rfl,rfl⟩:=h2;obtain ⟨h3,rfl⟩:=z14 he;exact Out.val hr (z083 ht ho hl h3)
   · rename_i x rest h2;cases hl:args.toList with
     | nil=>rw [hl] at h2;cases h2
     | cons so l =>
       rw [hl] at h2;simp at h2;obtain ⟨rfl,rfl⟩:=h2;obtain ⟨h3,rfl⟩:=z14 he;exact Out.val hr (z084 ht ho hl h3)
   · cases he
  all_goals cases he
 all_goals cases he
end
end Clk
namespace Clk
open Go
section
variable {P:Program} {w:World} {X:Nat->Prop} {β:z13} {H:List AO}
theorem RelI.less {N N':Nat->Prop} {x:AV} {v:Value} (h:RelI w N x v) (hn:∀ r,N' r->N r):RelI w N' x v :=
 h.mono (Nat.le_refl _) (fun _ _ _=>rfl) (fun r _ h=>hn r h)
theorem z05 {α γ:Type} {f:α->Option γ}:∀ (l:List α) (l':List γ),mapO f l=some l'->l'.length=l.length /\ ∀ (i:Nat) y,l'[i]?=some y->∃ x,l[i]?=some x /\ f x=some y
 | [],l',h=>by simp [mapO] at h;subst h;exact ⟨rfl,fun i y h=>by simp at h⟩
 | x::l,l',h=>by
   simp only [mapO] at h;split at h
   · rename_i y ys h1 h2;cases h;obtain ⟨e1,e2⟩:=z05 l ys h2;refine ⟨by simp [e1],fun i z hz=>?_⟩;cases i with
     | zero=>simp at hz;subst hz;exact ⟨x,rfl,h1⟩
     | succ i=>simp at hz ⊢;exact e2 i z hz
   · cases h
theorem z91:∀ (l:List AV),zeg l=mapO AV.nrm l
 | []=>rfl
 | x::l=>by simp only [zeg,mapO,z91 l];cases x.nrm <;> cases mapO AV.nrm l <;> rfl
theorem zsk:∀ (l:List (List AV)),nrmLL l=mapO zeg l
 | []=>rfl
 | x::l=>by simp only [nrmLL,mapO,zsk l];cases zeg x <;> cases mapO zeg l <;> rfl
theorem nrmI {N:Nat->Prop} {x:AV} {v:Value} (h:RelI w N x v):∀ y,x.nrm=some y->RelI w N y v:=by
 have rowsCase:∀ {l:List (List AV)} {a:Option Addr} {c k:Nat} {u:Nat->Nat->Value},l.length<=c->(∀ (i:Nat) row,l[i]?=some row->row.length=k) ->
  (0<l.length->∃ ad,a=some ad /\ ad.spot=none /\ ¬ N ad.block /\ ad.block<w.heap.size) ->
  (∀ (ad:Addr) (i:Nat) row (j:Nat) x,a=some ad->l[i]?=some row->row[j]?=some x->w.cell? ⟨ad.block,ad.off+(i*k+j),none⟩=some (u i j)) ->
  (∀ (i:Nat) row (j:Nat) x,l[i]?=some row->row[j]?=some x->∀ y,x.nrm=some y->RelI w N y (u i j))->∀ y,(nrmLL l).map AV.rows=some y->RelI w N y (.slice a l.length c):=by
  intro l a c k u hc hk ha hu ih y hy;simp only [Option.map_eq_some_iff] at hy;obtain ⟨l',h1,rfl⟩:=hy;rw [zsk] at h1;obtain ⟨e1,e2⟩:=z05 _ _ h1;have row:∀ (i:Nat) row',l'[i]?=some row'->∃ row,l[i]?=some row /\ row'.length=row.length /\ ∀ (j:Nat) z,row'[j]?=some z->∃ x,row[j]?=some x /\ x.nrm=some z:=by
   intro i row' q;obtain ⟨row,g1,g2⟩:=e2 i row' q;rw [z91] at g2;obtain ⟨g3,g4⟩:=z05 _ _ g2;exact ⟨row,g1,g3,g4⟩
  have:=RelI.rows (w:=w) (N:=N) (l:=l') (a:=a) (c:=c) (k:=k) (u:=u) (by omega) (fun i row' q=>by obtain ⟨r0,g1,g2,_⟩:=row i row' q;rw [g2];exact hk i r0 g1)
   (fun h0=>ha (by omega)) (fun ad i row' j z e q1 q2=>by obtain ⟨r0,g1,_,g3⟩:=row i row' q1;obtain ⟨x,g4,_⟩:=g3 j z q2;exact hu ad i r0 j x e g1 g4)
   (fun i row' j z q1 q2=>by obtain ⟨r0,g1,_,g3⟩:=row i row' q1;obtain ⟨x,g4,g5⟩:=g3 j z q2;exact ih i r0 j x g1 g4 z g5)
  rw [e1] at this;exact this
 induction h with
 | bool b=>intro y hy;simp only [AV.nrm] at hy;cases hy;exact .bool b
 | int k n=>intro y hy;simp only [AV.nrm] at hy;cases hy;exact .int k n
 | str s=>intro y hy;simp only [AV.nrm] at hy;cases hy;exact .str s
 | undef v=>intro y hy;simp only [AV.nrm] at hy;cases hy;exact .undef v
 | nilPtr=>intro y hy;simp only [AV.nrm] at hy;cases hy;exact .nilPtr
 | nilFunc=>intro y hy;simp only [AV.nrm] at hy;cases hy;exact .nilFunc
 | nilIface=>intro y hy;simp only [AV.nrm] at hy;cases hy;exact .nilIface
 | nilMap=>intro y hy;simp only [AV.nrm] at hy;cases hy;exact .nilMap
 | agg h hc ih =>
   intro y hy;simp only [AV.nrm,Option.map_eq_some_iff,z91] at hy;obtain ⟨l',h1,rfl⟩:=hy;obtain ⟨e1,e2⟩:=z05 _ _ h1;exact .agg (by rw [h,e1]) (fun i a v q1 q2=>by obtain ⟨x,g1,g2⟩:=e2 i a q1;exact ih i x v g1 q2 a g2)
 | tup h hc ih =>
   intro y hy;simp only [AV.nrm,Option.map_eq_some_iff,z91] at hy;obtain ⟨l',h1,rfl⟩:=hy;obtain ⟨e1,e2⟩:=z05 _ _ h1;exact .tup (by rw [h,e1]) (fun i a v q1 q2=>by obtain ⟨x,g1,g2⟩:=e2 i a q1;exact ih i x v g1 q2 a g2)
 | rows hc hk ha hu hr ih=>intro y hy;simp only [AV.nrm] at hy;exact rowsCase hc hk ha hu ih y hy
 | crows hk ha hu hr ih=>intro y hy;simp only [AV.nrm] at hy;exact rowsCase (Nat.le_refl _) hk ha hu ih y hy
 | iptr hN hlt hu hr ih =>
   intro y hy;simp only [AV.nrm,Option.map_eq_some_iff,z91] at hy;obtain ⟨l',h1,rfl⟩:=hy;obtain ⟨e1,e2⟩:=z05 _ _ h1;exact .iptr hN hlt (fun i x q=>by obtain ⟨x0,g1,g2⟩:=e2 i x q;exact hu i x0 g1) (fun i x q=>by obtain ⟨x0,g1,g2⟩:=e2 i x q;exact ih i x0 g1 x g2)
 | fn h hc h' hc' ih ih' =>
   intro y hy;simp only [AV.nrm,z91] at hy;split at hy
   · rename_i l' m' h1 h2;cases hy;obtain ⟨e1,e2⟩:=z05 _ _ h1;obtain ⟨f1,f2⟩:=z05 _ _ h2;exact .fn (by rw [h,e1]) (fun i a v q1 q2=>by obtain ⟨x,g1,g2⟩:=e2 i a q1;exact ih i x v g1 q2 a g2) (by rw [h',f1]) (fun i a v q1 q2=>by obtain ⟨x,g1,g2⟩:=f2 i a q1;exact ih' i x v g1 q2 a g2)
   · cases hy
 | iface t h ih =>
   intro y hy;simp only [AV.nrm,Option.map_eq_some_iff] at hy;obtain ⟨z,h1,rfl⟩:=hy;exact .iface t (ih z h1)
theorem zz2 {N:Nat->Prop} {x:AV} {v:Value} (h:Rel w N β x v):∀ y,x.nrm=some y->RelI w N y v:=by
 induction h with
 | imm h=>exact nrmI h
 | agg h hc ih =>
   intro y hy;simp only [AV.nrm,Option.map_eq_some_iff,z91] at hy;obtain ⟨l',h1,rfl⟩:=hy;obtain ⟨e1,e2⟩:=z05 _ _ h1;exact .agg (by rw [h,e1]) (fun i a v q1 q2=>by obtain ⟨x,g1,g2⟩:=e2 i a q1;exact ih i x v g1 q2 a g2)
 | tup h hc ih =>
   intro y hy;simp only [AV.nrm,Option.map_eq_some_iff,z91] at hy;obtain ⟨l',h1,rfl⟩:=hy;obtain ⟨e1,e2⟩:=z05 _ _ h1;exact .tup (by rw [h,e1]) (fun i a v q1 q2=>by obtain ⟨x,g1,g2⟩:=e2 i a q1;exact ih i x v g1 q2 a g2)
 | fn h hc h' hc' ih ih' =>
   intro y hy;simp only [AV.nrm,z91] at hy;split at hy
   · rename_i l' m' h1 h2;cases hy;obtain ⟨e1,e2⟩:=z05 _ _ h1;obtain ⟨f1,f2⟩:=z05 _ _ h2;exact .fn (by rw [h,e1]) (fun i a v q1 q2=>by obtain ⟨x,g1,g2⟩:=e2 i a q1;exact ih i x v g1 q2 a g2) (by rw [h',f1]) (fun i a v q1 q2=>by obtain ⟨x,g1,g2⟩:=f2 i a q1;exact ih' i x v g1 q2 a g2)
   · cases hy
 | iface t h ih =>
   intro y hy;simp only [AV.nrm,Option.map_eq_some_iff] at hy;obtain ⟨z,h1,rfl⟩:=hy;exact .iface t (ih z h1)
 | ref=>intro y hy;simp [AV.nrm] at hy
 | ptr=>intro y hy;simp [AV.nrm] at hy
 | yield=>intro y hy;simp [AV.nrm] at hy
theorem zkq {N':Nat->Prop} (hr:HRel w X β H) (hn:∀ r,N' r->NN X β H r):∀ (d:Nat) (x y:AV) (v:Value),exp H d x=some y->(∀ b∈zt H d x,∀ bi,β.getD b none=some bi->¬ N' bi.r)->Rel w (NN X β H) β x v->RelI w N' y v
 | 0,x,y,v,h,_,_=>by simp [exp] at h
 | d+1,x,y,v,h,hf,hx=>by
   have plain:exp H (d+1) x=x.nrm->RelI w N' y v:=by
    intro e;rw [e] at h;exact (zz2 hx y h).less hn
   cases x with
   | agg l =>
     simp only [exp,Option.map_eq_some_iff] at h;obtain ⟨l',h1,rfl⟩:=h;obtain ⟨e1,e2⟩:=z05 _ _ h1;obtain ⟨vs,rfl,hs,hrl⟩:=zkm hx;refine .agg (by rw [hs,e1]) (fun i a u q1 q2=>?_);obtain ⟨x',g1,g2⟩:=e2 i a q1;exact zkq hr hn d x' a u g2 (fun b hb=>hf b (by simp only [zt];exact List.mem_flatMap.2 ⟨x',List.mem_of_getElem? g1,hb⟩)) (hrl i x' u g1 q2)
   | tup l =>
     simp only [exp,Option.map_eq_some_iff] at h;obtain ⟨l',h1,rfl⟩:=h;obtain ⟨e1,e2⟩:=z05 _ _ h1;obtain ⟨vs,rfl,hs,hrl⟩:=zyx hx;refine .tup (by rw [hs,e1]) (fun i a u q1 q2=>?_);obtain ⟨x',g1,g2⟩:=e2 i a q1;exact zkq hr hn d x' a u g2 (fun b hb=>hf b (by simp only [zt];exact List.mem_flatMap.2 ⟨x',List.mem_of_getElem? g1,hb⟩)) (hrl i x' u g1 q2)
   | ref b ve of n =>
     simp only [exp] at h;cases hH:H.getD b .none with
     | blk k v' lv rows =>
       rw [hH] at h;simp only at h;split at h
       · rename_i hc;obtain ⟨rfl,hle⟩:=hc;cases hx with
         | imm hx=>cases hx
         | @ref _ _ _ _ c bi ad hb hv hcc hcur =>
         have hob:=hr.obj b bi hb;rw [hH] at hob;obtain ⟨e1,e2,e3,_,cs,T,h5,h6,h7,h8⟩:=hob;obtain ⟨had,cs',T',h9,h10⟩:=hcur (by omega);rw [h5] at h9;cases h9;have hNb:¬ N' bi.r:=hf b (by simp only [zt,hH];exact List.mem_cons_self) bi hb;have hlen:((rows.drop of).take n).length=n:=by simp;omega
         have hblt:bi.r<w.heap.size:=(Array.getElem?_eq_some_iff.1 h5).1;have fin:∀ ys:List (List AV),ys.length=n->(∀ (i:Nat) row,ys[i]?=some row->row.length=k) ->
          (∀ (i:Nat) row (j:Nat) z,ys[i]?=some row->row[j]?=some z->∃ row0 x0,((rows.drop of).take n)[i]?=some row0 /\ row0[j]?=some x0 /\ ∀ u,Rel w (NN X β H) β x0 u->RelI w N' z u)->RelI w N' (.rows ys) (.slice ad n c):=by
          intro ys hyl hyk hyr;have get:∀ (i:Nat) row (j:Nat) z,ys[i]?=some row->row[j]?=some z->ad=some ⟨bi.r,of*bi.k,none⟩ /\ w.cell? ⟨bi.r,of*bi.k+(i*k+j),none⟩=some (cs.getD ((of+i)*k+j) undef) /\ RelI w N' z (cs.getD ((of+i)*k+j) undef):=by
           intro i row j z q1 q2;obtain ⟨row0,x0,g1,g2,g3⟩:=hyr i row j z q1 q2;obtain ⟨hi,g4⟩:=z30 g1;have hj:j<k:=by have:=(zG.1 g2).1;rw [h7 _ _ g4] at this;exact this
           have hlt:(of+i)*k+j<cs.size:=Nat.lt_of_lt_of_le (zbc (by have:=(zG.1 g4).1;omega) hj) h6;have he:of*bi.k+(i*k+j)=(of+i)*k+j:=by rw [e1,Nat.add_mul];omega
           refine ⟨had (by omega),?_,g3 _ (h8 (of+i) row0 j x0 _ g4 g2 (by simp [hlt]))⟩;rw [he];simp [World.cell?,h5,hlt]
          have:=RelI.rows (w:=w) (N:=N') (l:=ys) (a:=ad) (c:=c) (k:=k) (u:=fun i j=>cs.getD ((of+i)*k+j) undef) (by rw [hyl];exact hcc) hyk
           (fun h0=>⟨⟨bi.r,of*bi.k,none⟩,had (by omega),rfl,hNb,hblt⟩)
           (fun ad' i row j z e q1 q2=>by
             obtain ⟨g1,g2,g3⟩:=get i row j z q1 q2;rw [g1] at e;cases e;exact g2)
           (fun i row j z q1 q2=>(get i row j z q1 q2).2.2)
          rw [hyl] at this;exact this
         split at h
         · rename_i ys hall;cases h;rw [zsk] at hall;obtain ⟨f1,f2⟩:=z05 _ _ hall;have f3:∀ (i:Nat) row,ys[i]?=some row->∃ row0,((rows.drop of).take n)[i]?=some row0 /\ row.length=row0.length /\ ∀ (j:Nat) z,row[j]?=some z->∃ x,row0[j]?=some x /\ x.nrm=some z:=by
            intro i row q;obtain ⟨row0,g1,g2⟩:=f2 i row q;rw [z91] at g2;obtain ⟨g3,g4⟩:=z05 _ _ g2;exact ⟨row0,g1,g3,g4⟩
           refine fin ys (by rw [f1,hlen]) (fun i row q=>?_) (fun i row j z q1 q2=>?_)
           · obtain ⟨row0,g1,g2,_⟩:=f3 i row q;rw [g2];exact h7 _ _ (z30 g1).2
           · obtain ⟨row0,g1,_,g3⟩:=f3 i row q1;obtain ⟨x0,g4,g5⟩:=g3 j z q2;exact ⟨row0,x0,g1,g4,fun u hu=>(zz2 hu z g5).less hn⟩
         · rename_i hall;simp only [Option.map_eq_some_iff] at h;obtain ⟨ys,h1,rfl⟩:=h;obtain ⟨f1,f2⟩:=z05 _ _ h1;refine fin ys (by rw [f1,hlen]) (fun i row q=>?_) (fun i row j z q1 q2=>?_)
           · obtain ⟨row0,g1,g2⟩:=f2 i row q;rw [(z05 _ _ g2).1];exact h7 _ _ (z30 g1).2
           · obtain ⟨row0,g1,g2⟩:=f2 i row q1;obtain ⟨x0,g3,g4⟩:=(z05 _ _ g2).2 j z q2;refine ⟨row0,x0,g1,g3,fun u hu=>zkq hr hn d x0 z u g4 (fun b' hb'=>hf b' ?_) hu⟩;simp only [zt,hH,hall];exact List.mem_cons_of_mem _ (List.mem_flatMap.2 ⟨row0,List.mem_of_getElem? g1,List.mem_flatMap.2 ⟨x0,List.mem_of_getElem? g3,hb'⟩⟩)
       · cases h
     | none=>rw [hH] at h;cases h
     | loop=>rw [hH] at h;cases h
     | dfr=>rw [hH] at h;cases h
   | _=>exact plain (by simp only [exp])
theorem z6y {b c:Nat} (h:liveB ((zj H b).getD c .none)=true):liveB (H.getD c .none)=true /\ (c=b->∀ k v l rows,H.getD b .none≠.blk k v l rows):=by
 unfold zj at h;split at h
 · rename_i k v l rows hH;have hlt:b<H.length:=by
    rcases Nat.lt_or_ge b H.length with h' | h'
    · exact h'
    · simp [zI,List.getElem?_eq_none h'] at hH
   rw [z06 _ _ _ _ _ hlt] at h;by_cases e:c=b
   · rw [if_pos e] at h;simp [liveB] at h
   · rw [if_neg e] at h;exact ⟨h,fun e'=>absurd e' e⟩
 · rename_i hne;exact ⟨h,fun e k v l rows hh=>hne k v l rows hh⟩
theorem zz3 {b:Nat} (hr:HRel w X β H):HRel w X β (zj H b) /\ (∀ r,zn β (zj H b) r->zn β H r) /\ (zj H b).length=H.length:=by
 have hlive:∀ r,zn β (zj H b) r->zn β H r:=fun r ⟨c,bi,h1,h2,h3⟩=>⟨c,bi,h1,(z6y h2).1,h3⟩
 have hlen:(zj H b).length=H.length:=by unfold zj;split <;> simp
 have hN:∀ r,NN X β (zj H b) r->NN X β H r:=fun r h=>h.imp id (hlive r)
 have hmono:∀ x u,Rel w (NN X β H) β x u->Rel w (NN X β (zj H b)) β x u:=fun x u h =>
  h.mono (Nat.le_refl _) (fun _ _ _=>rfl) (fun r _ h=>hN r h) (fun r cs T h=>⟨cs,h,rfl⟩) (fun b bi h=>⟨bi,h,rfl,.inl ⟨rfl,rfl⟩⟩)
 refine ⟨⟨by rw [hr.len,hlen],hr.xlt,fun c bi hc=>?_,fun c c' bi bj h1 h2 h3 h4 h5=>hr.inj c c' bi bj h1 h2 (z6y h3).1 (z6y h4).1 h5,fun c bi h1 h2=>hr.lx c bi h1 (z6y h2).1,fun c hc=>?_⟩,hlive,hlen⟩
 · have hob:=hr.obj c bi hc;have keep:∀ ob,ObjRel w (NN X β H) β bi ob->ObjRel w (NN X β (zj H b)) β bi ob:=by
    intro ob h;cases ob with
    | none=>trivial
    | blk k v l rows =>
      obtain ⟨a1,a2,a3,a4,cs,T,a5,a6,a7,a8⟩:=h;exact ⟨a1,a2,a3,fun e hn=>a4 e (hN _ hn),cs,T,a5,a6,a7,fun i row j x u q1 q2 q3=>hmono _ _ (a8 i row j x u q1 q2 q3)⟩
    | loop s p tm ps as bd d =>
      obtain ⟨a1,a2,L,a3,a4,a5,a6,a7,a8,a9,a10,a11⟩:=h;exact ⟨a1,a2,L,a3,a4,a5,a6,a7,a8,a9,fun i x u q1 q2=>hmono _ _ (a10 i x u q1 q2),a11⟩
    | dfr op=>exact h
   by_cases e:c=b
   · subst e;cases hH:H.getD c .none with
     | blk k v l rows =>
       have hlt:c<H.length:=by
        rcases Nat.lt_or_ge c H.length with h' | h'
        · exact h'
        · simp [zI,List.getElem?_eq_none h'] at hH
       have hf:(zj H c).getD c .none=.blk k v false rows:=by unfold zj;rw [hH];simp only;rw [z06 _ _ _ _ _ hlt];simp
       rw [hf];rw [hH] at hob;have hk:=keep _ hob;obtain ⟨a1,a2,a3,a4,a5⟩:=hk;refine ⟨a1,a2,a3,fun _ hn=>?_,a5⟩;cases l with
       | false=>exact a4 rfl hn
       | true =>
         rcases hn with hx | ⟨c',bj,g1,g2,g3⟩
         · exact hr.lx c bi hc (by rw [hH];rfl) hx
         · have:=z6y g2;have e':=hr.inj c' c bj bi g1 hc this.1 (by rw [hH];rfl) g3;exact this.2 e' k v true rows hH
     | none => have : zj H c = H := by unfold zj; rw [hH]
               rw [this,hH];trivial
     | loop s p tm ps as bd d => have : zj H c = H := by unfold zj; rw [hH]
                                 rw [this];exact hob
     | dfr op => have : zj H c = H := by unfold zj; rw [hH]
                 rw [this];exact hob
   · have:(zj H b).getD c .none=H.getD c .none:=by
      unfold zj;split
      · rename_i k v l rows hH;have hlt:b<H.length:=by
         rcases Nat.lt_or_ge b H.length with h' | h'
         · exact h'
         · simp [zI,List.getElem?_eq_none h'] at hH
        rw [z06 _ _ _ _ _ hlt,if_neg e]
      · rfl
     rw [this];exact keep _ hob
 · refine hr.has c (fun h=>hc ?_);unfold zj;split
   · rename_i k v l rows hH;have hlt:b<H.length:=by
      rcases Nat.lt_or_ge b H.length with h' | h'
      · exact h'
      · simp [zI,List.getElem?_eq_none h'] at hH
     rw [z06 _ _ _ _ _ hlt];split
     · rename_i e;subst e;rw [hH] at h;cases h
     · exact h
   · exact h
theorem zkr:∀ (l:List Nat) (H:List AO),HRel w X β H->HRel w X β (z03 H l) /\ (∀ r,zn β (z03 H l) r->zn β H r) /\ (z03 H l).length=H.length
 | [],H,hr=>⟨hr,fun _ h=>h,rfl⟩
 | b::l,H,hr=>by
   obtain ⟨h1,h2,h3⟩:=zz3 (b:=b) hr;obtain ⟨g1,g2,g3⟩:=zkr l (zj H b) h1;exact ⟨g1,fun r h=>h2 r (g2 r h),g3.trans h3⟩
end
end Clk
namespace Clk
open Go
def WF (ro:Option Nat):Fence:={ fn:=fun _=>True,depth:=none,alive:=false,round:=ro }
structure Post (w:World) (X:Nat->Prop) (β:z13) (H:List AO) (w':World) (β':z13) (H':List AO):Prop where
 hr:HRel w' X β' H'
 fr:Fr w (zn β H) β w' (zn β' H') β'
 non:∀ b,b<H.length->β.getD b none=none->β'.getD b none=none
 len:H.length<=H'.length
theorem Post.refl {w:World} {X:Nat->Prop} {β:z13} {H:List AO} (h:HRel w X β H):Post w X β H w β H :=
 ⟨h,Fr.refl _ _ _,fun _ _ h=>h,Nat.le_refl _⟩
theorem Post.trans {w w' w'':World} {X:Nat->Prop} {β β' β'':z13} {H H' H'':List AO} (h:Post w X β H w' β' H') (g:Post w' X β' H' w'' β'' H''):Post w X β H w'' β'' H'' :=
 ⟨g.hr,h.fr.trans g.fr,fun b hb hn=>g.non b (Nat.lt_of_lt_of_le hb h.len) (h.non b hb hn),Nat.le_trans h.len g.len⟩
theorem Post.rel {w w':World} {X:Nat->Prop} {β β':z13} {H H':List AO} (h:Post w X β H w' β' H') {x:AV} {v:Value} (hx:Rel w (NN X β H) β x v):Rel w' (NN X β' H') β' x v:=hx.fr h.fr
theorem Post.trel {w w':World} {X:Nat->Prop} {β β':z13} {H H':List AO} (h:Post w X β H w' β' H') {t:List AV} {ts:Array Value} (hx:z2c w (NN X β H) β t ts):z2c w' (NN X β' H') β' t ts:=hx.fr h.fr
def RO (β:z13):Option Nat->Option Nat->Prop
 | none,r=>r=none
 | some l,r=>∃ bi,β.getD l none=some bi /\ bi.k=0 /\ r=some bi.r
theorem znq {w w':World} {L L':Nat->Prop} {β β':z13} (f:Fr w L β w' L' β') {b:Nat} {bi:BI} (h:β.getD b none=some bi) (hk:bi.k=0):∃ bi',β'.getD b none=some bi' /\ bi'.k=0 /\ bi'.r=bi.r /\ bi'.v=bi.v:=by
 obtain ⟨bi',h1,h2,h3⟩:=f.ext b bi h;rcases h3 with ⟨e1,e2⟩ | ⟨e,_⟩
 · exact ⟨bi',h1,by omega,e1,e2⟩
 · omega
theorem RO.fr {w w':World} {L L':Nat->Prop} {β β':z13} (f:Fr w L β w' L' β') {ro rr:Option Nat} (h:RO β ro rr):RO β' ro rr:=by
 cases ro with
 | none=>exact h
 | some l=>obtain ⟨bi,h1,h2,h3⟩:=h;obtain ⟨bi',g1,g2,g3,_⟩:=znq f h1 h2;exact ⟨bi',g1,g2,by rw [g3];exact h3⟩
def MRel (β:z13):List Nat->List Deferred->Prop
 | [],d=>d=[]
 | b::m,d=>∃ bi d',β.getD b none=some bi /\ bi.k=0 /\ d={ target:=.collected bi.r,args:=#[] }::d' /\ MRel β m d'
theorem MRel.fr {w w':World} {L L':Nat->Prop} {β β':z13} (f:Fr w L β w' L' β'):∀ {m:List Nat} {d:List Deferred},MRel β m d->MRel β' m d
 | [],d,h=>h
 | b::m,d,⟨bi,d',h1,h2,h3,h4⟩=>by
   obtain ⟨bi',g1,g2,g3,_⟩:=znq f h1 h2;exact ⟨bi',d',g1,g2,by rw [g3];exact h3,MRel.fr f h4⟩
def exOf:Ex->Exit
 | .normal=>.normal
 | .exit id=>.exit id
 | .ret=>.ret
def ARel (w:World) (N:Nat->Prop) (β:z13) (l:List AV) (vs:Array Value):Prop :=
 vs.size=l.length /\ ∀ (i:Nat) a v,l[i]?=some a->vs[i]?=some v->Rel w N β a v
def Ends (w:World) (X:Nat->Prop) (β:z13) (H:List AO) (r:AV) (H':List AO) (e:Ending) (w':World):Prop :=
 ∃ v β',e=.returned v /\ Post w X β H w' β' H' /\ Rel w' (NN X β' H') β' r v
def z4y (P:Program) (run:z1d):Prop :=
 ∀ (ro:Option Nat) (c:Code) (t:List AV) (H:List AO) (m:List Nat) (ex:Ex) (st':St) (w:World) (X:Nat->Prop) (β:z13) (a:Act) (rr:Option Nat) (Q:Exit->Act->World->Prop),
  run ro c ⟨t,H,m⟩=some (ex,st')->HRel w X β H->z2c w (NN X β H) β t a.tmps->MRel β m a.defers->RO β ro rr ->
  (∀ a' w' β',Post w X β H w' β' st'.H->z2c w' (NN X β' st'.H) β' st'.t a'.tmps->MRel β' st'.m a'.defers->Q (exOf ex) a' w')->c.wpIn (WF rr) 0 P Q a w
section
variable {P:Program} {w:World} {X:Nat->Prop} {β:z13} {H:List AO}
theorem zrm (w:World) (r r':Nat) (o:Obj):(w.putObj r o).heap[r']?=if r=r' /\ r'<w.heap.size then some o else w.heap[r']?:=by
 simp only [World.putObj];rw [Array.getElem?_setIfInBounds];by_cases e:r=r'
 · subst e;by_cases hl:r<w.heap.size
   · simp [hl]
   · simp [hl]
 · simp [e]
theorem z055 {H:List AO} {b:Nat} (h:H.getD b .none≠.none):b<H.length:=by
 rcases Nat.lt_or_ge b H.length with h' | h'
 · exact h'
 · exact absurd (by simp [zI,List.getElem?_eq_none h']) h
theorem HRel.turn {b:Nat} {bi:BI} {o':AO} {ob:Obj} (h:HRel w X β H) (hb:β.getD b none=some bi) (hk:bi.k=0) (hl:liveB (H.getD b .none)=true) (hl':liveB o'=true)
 (hnc:∀ cs T,w.heap[bi.r]?≠some (.cells cs T (0,0)))
 (hobj:∀ w',(∀ x u,Rel w (NN X β H) β x u->Rel w' (NN X β (H.set b o')) β x u)->w'.heap[bi.r]?=some ob->ObjRel w' (NN X β (H.set b o')) β bi o') :
 Post w X β H (w.putObj bi.r ob) β (H.set b o'):=by
 have hlt:b<H.length:=z055 (fun e=>by rw [e] at hl;simp [liveB] at hl);have hrl:=(h.obj b bi hb).lt hl;obtain ⟨g1,g2⟩:=h.upd (w':=w.putObj bi.r ob) (b:=b) (bi':=bi) (o':=o') (H':=H.set b o') (β':=β) rfl rfl rfl (by simp [World.putObj]) (fun c hc=>by rw [z06 _ _ _ _ _ hlt];simp [hc]) (by rw [z06 _ _ _ _ _ hlt];simp) (by simp [h.len])
  (fun _ _=>rfl) hb hl' (.inr ⟨bi,hb,hl,rfl,rfl,.inl rfl,fun r _ hr=>by rw [zrm];simp [Ne.symm hr],fun cs T hc=>absurd hc (hnc cs T)⟩)
  (fun htr _=>hobj _ htr (by rw [zrm];simp [hrl]))
 exact ⟨g1,g2,fun _ _ h=>h,by simp⟩
theorem ze8 {fn:Func} {tmps:Array Value} {R:Ending->World->Prop}:∀ (m:List Nat) (H H':List AO) (w:World) (ds:List Deferred),z1e H m=some H'->HRel w X β H->MRel β m ds ->
 (∀ w',Post w X β H w' β H'->LeavesIn (WF none) 0 P fn tmps R [] .returning w')->LeavesInM (WF none) 0 P fn tmps R ds .returning w
 | [],H,H',w,ds,h,hr,hm,hR=>by
   simp only [z1e] at h;cases h;simp only [MRel] at hm;subst hm;exact hR w (Post.refl hr)
 | b::m,H,H',w,ds,h,hr,⟨bi,d',h1,h2,h3,h4⟩,hR=>by
   simp only [z1e] at h;split at h
   · rename_i hd;subst h3;have hob:=hr.obj b bi h1;rw [hd] at hob;obtain ⟨e1,e2,e3⟩:=hob;refine ⟨by simp,.inl ⟨bi.r,w.putObj bi.r (.deferred none),rfl,run_takeDeferred e3,?_⟩⟩;have hp:Post w X β H (w.putObj bi.r (.deferred none)) β (H.set b (.dfr false)) :=
      hr.turn h1 h2 (by rw [hd];rfl) rfl (fun cs T hc=>by simp [e3] at hc) (fun w' _ hw=>⟨e1,e2,hw⟩)
     exact ze8 m _ H' _ d' h hp.hr h4 (fun w' hp'=>hR w' (hp.trans hp'))
   · cases h
theorem zvg {tmps:Array Value} {t:List AV} {x:ResultVar} {v:AV} (hr:HRel w X β H) (ht:z2c w (NN X β H) β t tmps) (h:z3k P t H x=some v) :
 ∃ u,(match x with | .tmp i=>(pure (tmps.getD i undef):Sem Value) | .cell a ty=>do loadVar ty (<- asAddr (tmps.getD a undef))).run P w=.ok u w /\ Rel w (NN X β H) β v u:=by
 have hget:∀ i:Nat,Rel w (NN X β H) β (t.getD i (.tup [])) (tmps.getD i undef):=by
  intro i;have:=zp (a:={ tmps:=tmps,defers:=[] }) ht (.tmp i);simpa [opd,Act.eval] using this
 cases x with
 | tmp i =>
   simp only [z3k] at h;cases h;exact ⟨tmps.getD i undef,rfl,hget i⟩
 | cell a ty =>
   simp only [z3k] at h;have hx:=hget a;have hp:∃ ad,tmps.getD a undef=.pointer (some ad):=by
    generalize t.getD a (.tup [])=y at h hx;generalize tmps.getD a undef=z at hx;cases y <;> simp only [loadA] at h <;> try cases h
    · cases hx with | imm hx=>cases hx;exact ⟨_,rfl⟩
    · cases hx with
      | imm hx=>cases hx
      | ptr=>exact ⟨_,rfl⟩
   obtain ⟨ad,hp⟩:=hp;obtain ⟨u,h1,h2⟩:=z018 (P:=P) (a:={ tmps:=tmps,defers:=[] }) (o:={ dst:=none,op:=.load ty (.tmp a),type:=0,pos:= "",after:=#[],guard:=none }) hr ht rfl (by simpa [opd] using h);refine ⟨u,?_,h2⟩;have he:({ tmps:=tmps,defers:=[] }:Act).eval (.tmp a)=.pointer (some ad):=by simpa [Act.eval] using hp
   simp only [execOp,Instr.loadAt,he,Instr.sureAddr,Sem.run_bind,Sem.run_pure,Result.andThen_ok] at h1;simp only [hp,asAddr,Sem.run_bind,Sem.run_pure,Result.andThen_ok];cases hl:(loadVar ty ad).run P w with
   | ok u' w'=>rw [hl] at h1;simp only [Result.andThen_ok] at h1;cases h1;rfl
   | halt e w'=>rw [hl] at h1;simp [Result.andThen] at h1
theorem z01d {α:Type} (f:α->Sem Value):∀ (l:List α) (l':List AV) (g:α->Option AV) (N:Nat->Prop),(∀ x∈l,∀ v,g x=some v->∃ u,(f x).run P w=.ok u w /\ Rel w N β v u)->mapO g l=some l' ->
 ∃ us:List Value,(l.mapM f).run P w=.ok us w /\ us.length=l'.length /\ ∀ (i:Nat) v u,l'[i]?=some v->us[i]?=some u->Rel w N β v u
 | [],l',g,N,_,h=>by simp [mapO] at h;subst h;exact ⟨[],by simp,rfl,fun i v u h=>by simp at h⟩
 | x::l,l',g,N,hf,h=>by
   simp only [mapO] at h;split at h
   · rename_i y ys h1 h2;cases h;obtain ⟨u,e1,e2⟩:=hf x (by simp) y h1;obtain ⟨us,e3,e4,e5⟩:=z01d f l ys g N (fun x hx=>hf x (by simp [hx])) h2;refine ⟨u::us,?_,by simp [e4],fun i v u' q1 q2=>?_⟩
     · simp [List.mapM_cons,Sem.run_bind,e1,e3,Result.andThen]
     · cases i with
       | zero=>simp at q1 q2;subst q1 q2;exact e2
       | succ i=>simp at q1 q2;exact e5 i v u' q1 q2
   · cases h
theorem zq6 {fn:Func} {tmps:Array Value} {t:List AV} {v:AV} (hr:HRel w X β H) (ht:z2c w (NN X β H) β t tmps) (h:zcr P fn t H=some v) :
 ∃ u,(results fn tmps).run P w=.ok u w /\ Rel w (NN X β H) β v u:=by
 unfold zcr at h;cases hm:mapO (z3k P t H) fn.results.toList with
 | none=>rw [hm] at h;cases h
 | some l =>
   obtain ⟨us,e1,e2,e3⟩:=z01d (P:=P) (w:=w) (β:=β) (fun x:ResultVar=>match x with | .tmp i=>(pure (tmps.getD i undef):Sem Value) | .cell a ty=>do loadVar ty (<- asAddr (tmps.getD a undef))) fn.results.toList l (z3k P t H) (NN X β H)
    (fun x _ v hv=>zvg hr ht hv) hm
   have hrun:(results fn tmps).run P w=.ok (if h:us.toArray.size=1 then us.toArray[0] else .tuple us.toArray) w:=by
    unfold results;rw [Sem.run_bind,<- Array.toArray_toList (xs:=fn.results),List.mapM_toArray];simp only [map_eq_pure_bind,Sem.run_bind];have e1':=e1;erw [e1']
    rfl
   rw [hm] at h;rw [hrun];refine ⟨_,rfl,?_⟩;match l,h,e2,e3 with
   | [x],h,e2,e3 =>
     simp only at h;cases h;simp only [List.length_singleton] at e2;match us,e2 with
     | [u],_=>simpa using e3 0 v u rfl rfl
   | [],h,e2,e3=>simp only at h;cases h;cases us with | nil=>exact .imm (.tup rfl (fun i a v h=>by simp at h)) | cons _ _=>simp at e2
   | x::y::l,h,e2,e3 =>
     simp only at h;cases h;have:us.toArray.size≠1:=by simp [e2]
     rw [dif_neg this];exact .tup (by simpa using e2) (fun i a v h1 h2=>e3 i a v h1 (by simpa using h2))
theorem zhr {run:z1d} (hs:z4y P run) {f:FuncId} {args:List AV} {vs:Array Value} {r:AV} {H':List AO} (h:callF P run f args H=some (r,H')) (hr:HRel w X β H) (ha:ARel w (NN X β H) β args vs) :
 CallsIn (WF none) 0 P f vs w (Ends w X β H r H'):=by
 unfold callF at h;cases hf:P.funcs[f]? with
 | none=>rw [hf] at h;cases h
 | some fn =>
   rw [hf] at h;simp only at h;cases hb:fn.body with
   | none=>rw [hb] at h;cases h
   | some c =>
     rw [hb] at h;simp only at h;cases hrun:run none c ⟨args++List.replicate (fn.ntmps - args.length) (.tup []),H,[]⟩ with
     | none=>rw [hrun] at h;cases h
     | some res =>
       obtain ⟨ex,st⟩:=res;rw [hrun] at h;have key:∃ H2 v,ex≠.exit 0 /\ (∀ id,ex≠.exit id) /\ z1e st.H st.m=some H2 /\ zcr P fn st.t H2=some v /\ r=v /\ H'=H2:=by
        cases ex with
        | exit id=>simp at h
        | normal =>
          simp only at h;split at h
          · rename_i H2 h1;split at h
            · rename_i v h2;cases h;exact ⟨_,_,by simp,by simp,h1,h2,rfl,rfl⟩
            · cases h
          · cases h
        | ret =>
          simp only at h;split at h
          · rename_i H2 h1;split at h
            · rename_i v h2;cases h;exact ⟨_,_,by simp,by simp,h1,h2,rfl,rfl⟩
            · cases h
          · cases h
       obtain ⟨H2,v,_,hne,h1,h2,rfl,rfl⟩:=key;refine callsIn_of_wp_marks hf hb trivial (hs none c _ H [] ex st w X β _ none _ hrun hr ⟨?_,?_⟩ rfl rfl ?_)
       · simp [ha.1]
       · intro i x u q1 q2;simp only at q2;by_cases hi:i<args.length
         · rw [List.getElem?_append_left hi] at q1;rw [Array.getElem?_append_left (by rw [ha.1];exact hi)] at q2;exact ha.2 i x u q1 q2
         · rw [List.getElem?_append_right (by omega)] at q1;rw [Array.getElem?_append_right (by rw [ha.1];omega)] at q2;have h3:=List.mem_of_getElem? q1;have h4:=Array.mem_of_getElem? q2;simp only [List.mem_replicate,Array.mem_replicate] at h3 h4;rw [h3.2,h4.2];exact .imm (.tup rfl (fun i a v h=>by simp at h))
       · intro a' w' β' hp ht hm;have fin:LeavesInM (WF none) 0 P fn a'.tmps (Ends w X β H r H') a'.defers .returning w':=by
          refine ze8 st.m st.H H' w' a'.defers h1 hp.hr hm (fun w'' hp'=>?_);obtain ⟨u,g1,g2⟩:=zq6 hp'.hr (hp'.trel ht) h2;exact ⟨u,g1,u,β',rfl,hp.trans hp',g2⟩
         cases ex with
         | normal=>exact fin
         | ret=>exact fin
         | exit id=>exact absurd rfl (hne id)
end
end Clk
namespace Clk
open Go
structure Good (P:Program):Prop where
 mixed:P.follows .mixedOrders=true
 name:∀ (f:FuncId) fn,P.funcs[f]?=some fn->fn.name≠ "runtime.NumGoroutine"
def Body (P:Program) (f:FuncId):Prop:=∃ fn,P.funcs[f]?=some fn /\ fn.body.isSome=true
def zac (w:World) (N:Nat->Prop) (r:AV) (e:Ending) (w':World):Prop :=
 ∃ v,e=.returned v /\ w'.os=w.os /\ w'.tape=w.tape /\ w'.output=w.output /\ w.heap.size<=w'.heap.size /\ (∀ r:Nat,r<w.heap.size->w'.heap[r]?=w.heap[r]?) /\ RelI w' N r v
def IRel (w:World) (N:Nat->Prop) (l:List AV) (vs:Array Value):Prop :=
 vs.size=l.length /\ ∀ (i:Nat) a v,l[i]?=some a->vs[i]?=some v->RelI w N a v
def zk (P:Program) (orc:FuncId->Option (List AV->Option AV)):Prop :=
 ∀ f h,orc f=some h->Body P f /\ ∀ args r,h args=some r->∀ (w:World) (N:Nat->Prop) (vs:Array Value),(∀ r,N r->r<w.heap.size)->IRel w N args vs->CallsIn (WF none) 0 P f vs w (zac w N r)
def PrimOk (P:Program) (prim:FuncId->Option (Nat->List AV->List AO->Res)):Prop :=
 ∀ f h,prim f=some h->Body P f /\ ∀ args H v ch,h H.length args H=some (v,ch)->∀ (w:World) (X:Nat->Prop) (β:z13) (vs:Array Value),HRel w X β H->ARel w (NN X β H) β args vs->CallsIn (WF none) 0 P f vs w (Ends w X β H v (zi H ch))
def VCalls (P:Program) (fv:Value) (args:Array Value) (w:World) (R:Ending->World->Prop):Prop :=
 (∃ g first cap,fv=.func (.func g) first cap /\ Body P g /\ CallsIn (WF none) 0 P g (first++args++cap) w R) \/
 (∃ l f tmps assign body,fv=.func (.yield l) #[] #[] /\ (Instr.yield l args).run P w=.ok (.round l f tmps assign body) w /\ RoundIn (WF none) 0 P l f tmps assign body w R)
section
variable {P:Program} {w:World} {X:Nat->Prop} {β:z13} {H:List AO}
theorem zca:∀ (d:Nat) (x:AV) (b:Nat),b∈zt H d x->∃ k v l rows,H.getD b .none=.blk k v l rows
 | 0,x,b,h=>by simp [zt] at h
 | d+1,x,b,h=>by
   cases x with
   | agg l=>simp only [zt,List.mem_flatMap] at h;obtain ⟨y,_,h⟩:=h;exact zca d y b h
   | tup l=>simp only [zt,List.mem_flatMap] at h;obtain ⟨y,_,h⟩:=h;exact zca d y b h
   | ref c v o n =>
     simp only [zt] at h;split at h
     · rename_i k v' l rows hH;rcases List.mem_cons.1 h with e | h
       · subst e;exact ⟨_,_,_,_,hH⟩
       · split at h
         · cases h
         · simp only [List.mem_flatMap] at h;obtain ⟨_,_,y,_,h⟩:=h;exact zca d y b h
     · cases h
   | _=>simp [zt] at h
theorem z0b1 {b:Nat} {bi:BI} {k v:Nat} {l:Bool} {rows:List (List AV)} (hr:HRel w X β H) (hb:β.getD b none=some bi) (h:H.getD b .none=.blk k v l rows):¬ X bi.r:=by
 cases l with
 | true=>exact hr.lx b bi hb (by rw [h];rfl)
 | false =>
   have:=hr.obj b bi hb;rw [h] at this;exact fun hx=>this.2.2.2.1 rfl (.inl hx)
theorem liveNil (r:Nat):¬ zn [] [] r:=fun ⟨b,bi,h,_⟩=>by simp at h
theorem IRel.arel {N:Nat->Prop} {args:List AV} {vs:Array Value} (h:IRel w N args vs) {N':Nat->Prop} (hn:∀ r,N' r->N r):ARel w N' β args vs :=
 ⟨h.1,fun i a v q1 q2=>.imm ((h.2 i a v q1 q2).less hn)⟩
theorem zks {run:z1d} {f:FuncId} {args:List AV} {r:AV×List AO} (h:callF P run f args H=some r):Body P f:=by
 unfold callF at h;cases hf:P.funcs[f]? with
 | none=>rw [hf] at h;cases h
 | some fn =>
   rw [hf] at h;simp only at h;cases hb:fn.body with
   | none=>rw [hb] at h;cases h
   | some c=>exact ⟨fn,hf,by rw [hb];rfl⟩
theorem zbd {run:z1d} {orc:FuncId->Option (List AV->Option AV)} (hs:z4y P run) (hor:zk P orc) {f:FuncId} {args:List AV} {vs:Array Value} {r:AV} {N:Nat->Prop}
 (h:z0y P orc run f args=some r) (hN:∀ r,N r->r<w.heap.size) (ha:IRel w N args vs):Body P f /\ CallsIn (WF none) 0 P f vs w (zac w N r):=by
 unfold z0y at h;split at h
 · rename_i h' ho;exact ⟨(hor f h' ho).1,(hor f h' ho).2 args r h w N vs hN ha⟩
 · split at h
   · rename_i r0 H1 hc;have hr0:HRel w N [] []:=⟨rfl,hN,fun b bi h=>by simp at h,fun b b' bi bi' h=>by simp at h,fun b bi h=>by simp at h,fun b h=>by simp at h⟩;refine ⟨zks hc,(zhr hs hc hr0 (ha.arel (fun r h=>h.elim id (fun h=>absurd h (liveNil r))))).mono ?_⟩;intro e w' he;obtain ⟨v,β',rfl,hp,hv⟩:=he;refine ⟨v,rfl,hp.fr.os,hp.fr.tape,hp.fr.output,hp.fr.size,fun r hr=>hp.fr.same r hr (liveNil r),?_⟩;refine zkq hp.hr (fun r h=>.inl h) _ _ _ _ h (fun b hb bi hbi=>?_) hv;obtain ⟨k,v',l,rows,hH⟩:=zca _ _ _ hb;exact z0b1 hp.hr hbi hH
   · cases h
theorem zej {b c:Nat}:(zj H b).getD c .none=(match H.getD c .none with | .blk k v l rows=>if c=b then .blk k v false rows else .blk k v l rows | o=>o):=by
 unfold zj;split
 · rename_i k v l rows hH;have hlt:b<H.length:=z055 (by rw [hH];simp);rw [z06 _ _ _ _ _ hlt];by_cases e:c=b
   · subst e;simp only [if_true,hH]
   · simp only [if_neg e];split <;> simp_all
 · rename_i hne;split
   · rename_i k v l rows hH;by_cases e:c=b
     · subst e;exact absurd hH (hne k v l rows)
     · rw [hH,if_neg e]
   · rfl
theorem znr:∀ (L:List Nat) (H:List AO) (c k v:Nat) (rows:List (List AV)),H.getD c .none=.blk k v false rows->(z03 H L).getD c .none=.blk k v false rows
 | [],H,c,k,v,rows,h=>h
 | b::L,H,c,k,v,rows,h=>by
   refine znr L (zj H b) c k v rows ?_;rw [zej,h];simp
theorem zkt:∀ (L:List Nat) (H:List AO) (c k v:Nat) (l:Bool) (rows:List (List AV)),H.getD c .none=.blk k v l rows->c∈L->(z03 H L).getD c .none=.blk k v false rows
 | [],H,c,k,v,l,rows,h,hm=>by cases hm
 | b::L,H,c,k,v,l,rows,h,hm=>by
   by_cases e:c=b
   · refine znr L (zj H b) c k v rows ?_;rw [zej,h];simp [e]
   · refine zkt L (zj H b) c k v l rows ?_ ((List.mem_cons.1 hm).resolve_left e);rw [zej,h];simp [e]
theorem zz4 (H:List AO) (ch:Option (Nat×AO)):H.length<=(zi H ch).length:=by
 unfold zi;split
 · exact Nat.le_refl _
 · split <;> simp
theorem zhs {run:z1d} {inl:FuncId->Bool} {orc:FuncId->Option (List AV->Option AV)} {prim:FuncId->Option (Nat->List AV->List AO->Res)} (hs:z4y P run) (hor:zk P orc) (hpr:PrimOk P prim) {f:FuncId} {args:List AV} {vs:Array Value} {r:AV} {H':List AO}
 (h:callG P inl orc prim run f args H=some (r,H')) (hr:HRel w X β H) (ha:ARel w (NN X β H) β args vs):Body P f /\ CallsIn (WF none) 0 P f vs w (Ends w X β H r H'):=by
 unfold callG at h;split at h
 · rename_i h' hp;simp only [Option.map_eq_some_iff] at h;obtain ⟨⟨v,ch⟩,h1,h2⟩:=h;cases h2;obtain ⟨g1,g2⟩:=hpr f h' hp;exact ⟨g1,g2 _ _ _ _ h1 w X β vs hr ha⟩
 · split at h
   · exact ⟨zks h,zhr hs h hr ha⟩
   · split at h
     · rename_i as has;split at h
       · rename_i r' hpc;cases h;obtain ⟨f1,f2,f3⟩:=zkr (args.flatMap (zt H depth)) H hr;obtain ⟨m1,m2⟩:=z05 _ _ has;have hia:IRel w (NN X β (z03 H (args.flatMap (zt H depth)))) as vs:=by
          refine ⟨ha.1.trans m1.symm,fun i y v q1 q2=>?_⟩;obtain ⟨x,g1,g2⟩:=m2 i y q1;refine zkq hr (fun r h=>h.imp id (f2 r)) _ _ _ _ g2 (fun b hb bi hbi=>?_) (ha.2 i x v g1 q2);obtain ⟨k,v',l,rows,hH⟩:=zca _ _ _ hb;have hfz:=zkt (args.flatMap (zt H depth)) H b k v' l rows hH (List.mem_flatMap.2 ⟨x,List.mem_of_getElem? g1,hb⟩);have hob:=f1.obj b bi hbi;rw [hfz] at hob;exact hob.2.2.2.1 rfl
         have hlt:∀ r,NN X β (z03 H (args.flatMap (zt H depth))) r->r<w.heap.size:=fun r h=>h.elim (hr.xlt r) (fun h=>f1.live_lt h)
         obtain ⟨b1,b2⟩:=zbd hs hor hpc hlt hia;refine ⟨b1,b2.mono ?_⟩;intro e w' he;obtain ⟨v,rfl,k1,k2,k3,k4,k5,k6⟩:=he;obtain ⟨g1,g2⟩:=f1.ext k4 k5 k1 k2 k3;refine ⟨v,β,rfl,⟨g1,?_,fun _ _ h=>h,by rw [f3];exact Nat.le_refl _⟩,.imm k6⟩;exact ⟨k1,k2,k3,k4,fun r hr _=>k5 r hr,g2.csz,fun r h _=>f2 r h,g2.ext⟩
       · cases h
     · exact ⟨zks h,zhr hs h hr ha⟩
theorem z03a {k:Nat} {t:List AV} {ts:Array Value} (hr:HRel w X β H) (ht:z2c w (NN X β H) β t ts):Post w X β H w β (coA1 k t H).2 /\ z2c w (NN X β (coA1 k t H).2) β (coA1 k t H).1 ts:=by
 unfold coA1;split
 · rename_i x hx;split
   · rename_i y hy;obtain ⟨f1,f2,f3⟩:=zkr (zt H depth x) H hr;have hN:∀ r,NN X β (z03 H (zt H depth x)) r->NN X β H r:=fun r h=>h.imp id (f2 r)
     refine ⟨⟨f1,⟨rfl,rfl,rfl,Nat.le_refl _,fun _ _ _=>rfl,fun _ cs _ h=>⟨cs,h,rfl⟩,fun r h _=>f2 r h,fun _ bi h=>⟨bi,h,rfl,.inl ⟨rfl,rfl⟩⟩⟩,fun _ _ h=>h,by rw [f3];exact Nat.le_refl _⟩,by simpa using ht.1,fun i a u h1 h2=>?_⟩;rw [List.getElem?_set] at h1;split at h1
     · rename_i e;subst e;split at h1
       · cases h1;refine .imm (zkq hr hN _ _ _ _ hy (fun b hb bi hbi=>?_) (ht.2 k x u hx h2));obtain ⟨kk,v',l,rows,hH⟩:=zca _ _ _ hb;have hfz:=zkt (zt H depth x) H b kk v' l rows hH hb;have hob:=f1.obj b bi hbi;rw [hfz] at hob;exact hob.2.2.2.1 rfl
       · cases h1
     · exact (ht.2 i a u h1 h2).mono (Nat.le_refl _) (fun _ _ _=>rfl) (fun r _ h=>hN r h) (fun r cs T h=>⟨cs,h,rfl⟩) (fun b bi h=>⟨bi,h,rfl,.inl ⟨rfl,rfl⟩⟩)
   · exact ⟨.refl hr,ht⟩
 · exact ⟨.refl hr,ht⟩
theorem zku {inl:FuncId->Bool} {id:Nat} {ts:Array Value}:∀ (l:List Nat) {t:List AV} {H:List AO},HRel w X β H->z2c w (NN X β H) β t ts->Post w X β H w β (coAL inl id l (t,H)).2 /\ z2c w (NN X β (coAL inl id l (t,H)).2) β (coAL inl id l (t,H)).1 ts
 | [],t,H,hr,ht=>⟨.refl hr,ht⟩
 | k::l,t,H,hr,ht=>by
   unfold coAL;cases hb:inl (10000000+id*1000+k) with
   | false=>rw [if_neg (by simp)];exact zku l hr ht
   | true =>
     rw [if_pos rfl];obtain ⟨h1,h2⟩:=z03a (k:=k) hr ht;obtain ⟨h3,h4⟩:=zku (inl:=inl) (id:=id) l h1.hr h2;exact ⟨h1.trans h3,h4⟩
theorem z056 {inl:FuncId->Bool} {id:Nat} {t:List AV} {ts:Array Value} (hr:HRel w X β H) (ht:z2c w (NN X β H) β t ts):Post w X β H w β (coA inl id t H).2 /\ z2c w (NN X β (coA inl id t H).2) β (coA inl id t H).1 ts:=by
 unfold coA;split
 · exact zku _ hr ht
 · exact ⟨.refl hr,ht⟩
theorem zgf {N:Nat->Prop} {l m:List AV} {vs us:Array Value} (h:ARel w N β l vs) (g:ARel w N β m us):ARel w N β (l++m) (vs++us):=by
 refine ⟨by simp [h.1,g.1],fun i a v q1 q2=>?_⟩;by_cases hi:i<l.length
 · rw [List.getElem?_append_left hi] at q1;rw [Array.getElem?_append_left (by rw [h.1];exact hi)] at q2;exact h.2 i a v q1 q2
 · rw [List.getElem?_append_right (by omega)] at q1;rw [Array.getElem?_append_right (by rw [h.1];omega),h.1] at q2;exact g.2 _ a v q1 q2
theorem zns {l:Nat} {bi:BI} {s s':LoopState} {p p':Option Code} {tm:List AV} {ps:List Tmp} {as bd:Code} {d:Nat} {L:Loop} (hr:HRel w X β H) (hb:β.getD l none=some bi) (hH:H.getD l .none=.loop s p tm ps as bd d)
 (hL:w.heap[bi.r]?=some (.loop L)):Post w X β H (w.putObj bi.r (.loop { L with state:=s',pending:=p' })) β (H.set l (.loop s' p' tm ps as bd d)):=by
 have hob:=hr.obj l bi hb;rw [hH] at hob;obtain ⟨h1,h2,L',h3,h4,h5,h6,h7,h8,h9,h10,bj,h11,h12,h13⟩:=hob;rw [hL] at h3;cases h3;refine hr.turn hb h1 (by rw [hH];rfl) rfl (fun cs T hc=>by simp [hL] at hc) (fun w' htr hw=>?_);exact ⟨h1,h2,_,hw,rfl,rfl,h6,h7,h8,h9,fun i x u q1 q2=>htr _ _ (h10 i x u q1 q2),bj,h11,h12,h13⟩
theorem zrn {N:Nat->Prop}:∀ (l:List (Tmp×AV)) (l':List (Tmp×Value)) (t:List AV) (ts:Array Value),z2c w N β t ts->l.map (·.1)=l'.map (·.1)->(∀ (i:Nat) x y,l[i]?=some x->l'[i]?=some y->Rel w N β x.2 y.2) ->
 z2c w N β (l.foldl (fun t (x:Tmp×AV)=>t.set x.1 x.2) t) (l'.foldl (fun ts (y:Tmp×Value)=>ts.setIfInBounds y.1 y.2) ts)
 | [],[],t,ts,h,_,_=>h
 | [],_::_,_,_,_,e,_=>by simp at e
 | _::_,[],_,_,_,e,_=>by simp at e
 | x::l,y::l',t,ts,h,e,hxy=>by
   simp only [List.map_cons,List.cons.injEq] at e;simp only [List.foldl_cons];refine zrn l l' _ _ ?_ e.2 (fun i a b q1 q2=>hxy (i+1) a b (by simpa using q1) (by simpa using q2));have:=z2c.put (a:={ tmps:=ts,defers:=[] }) (dst:=some x.1) h (hxy 0 x y rfl rfl);simpa [ziy,Act.put,e.1] using this
theorem zls {run:z1d} (hs:z4y P run) {l:Nat} {args:List AV} {vs:Array Value} {r:AV} {H':List AO} {fv:Value} (h:yieldF run l args H=some (r,H')) (hr:HRel w X β H) (ha:ARel w (NN X β H) β args vs)
 (hv:Rel w (NN X β H) β (.yield l) fv):VCalls P fv vs w (Ends w X β H r H'):=by
 cases hv with
 | imm hv=>cases hv
 | @yield _ bi hb hk =>
 unfold yieldF at h;split at h
 · rename_i p tmps params assign body d hH;split at h
   · rename_i hlen;have hob:=hr.obj l bi hb;rw [hH] at hob;obtain ⟨h1,h2,L,h3,h4,h5,h6,h7,h8,h9,h10,h11⟩:=hob;have hsz:vs.size=L.params.size:=by rw [ha.1,hlen,<- h6];simp
     refine .inr ⟨bi.r,L.fn,_,L.assign,L.body,rfl,run_yield h3 hsz,?_⟩;have ht:z2c w (NN X β H) β ((params.zip args).foldl (fun t (p,v)=>t.set p v) tmps) ((L.params.zip vs).foldl (fun tmps (t,a)=>tmps.setIfInBounds t a) L.tmps):=by
      rw [<- Array.foldl_toList,Array.toList_zip,h6];refine zrn _ _ _ _ ⟨h9,h10⟩ ?_ ?_
      · rw [List.map_fst_zip (by omega),List.map_fst_zip (by have:=ha.1;simp;omega)]
      · intro i x y q1 q2;simp only [List.getElem?_zip_eq_some] at q1 q2;exact ha.2 i x.2 y.2 q1.2 (by simpa using q2.2)
     split at h
     · rename_i st1 hrun1;split at h
       · rename_i p' tm ps as bd d' hH1 hm1;split at h
         · rename_i ex st2 hrun2;split at h
           · rename_i s2 p2 tm2 ps2 as2 bd2 d2 hH2;cases h;refine roundIn_of_wpIn (F:=WF none) trivial ?_;rw [h7,h8];refine hs (some l) assign _ H [] .normal st1 w X β _ (some bi.r) _ hrun1 hr ht rfl ⟨bi,hb,h1,rfl⟩ ?_;intro a1 w1 β1 hp1 ht1 hmr1;obtain ⟨bi1,hb1,hk1,hr1,_⟩:=znq hp1.fr hb h1;have hob1:=hp1.hr.obj l bi1 hb1;rw [hH1] at hob1;obtain ⟨_,_,L1,g3,g4,hL1,_⟩:=hob1;have hbegin:=run_beginRound (P:=P) g3 g4;have hpt:=zns (s':=.busy) (p':=p') hp1.hr hb1 hH1 g3;rw [<- hr1];refine ⟨_,hbegin,?_⟩;rw [hm1] at hmr1;have hpt':Post w1 X β1 st1.H (w1.putObj bi1.r (.loop { L1 with state:=.busy })) β1 (st1.H.set l (.loop .busy p' tm ps as bd d')):=by
              have:=hpt;subst hL1;exact this
             refine hs (some l) body _ _ [] ex st2 _ X β1 a1 (some bi1.r) _ hrun2 hpt'.hr (hpt'.trel ht1) hmr1 ⟨bi1,hb1,hk1,rfl⟩ ?_;intro a2 w2 β2 hp2 ht2 _;obtain ⟨bi2,hb2,hk2,hr2,_⟩:=znq hp2.fr hb1 hk1;have hob2:=hp2.hr.obj l bi2 hb2;rw [hH2] at hob2;obtain ⟨_,_,L2,k3,_⟩:=hob2;have hpe:=fun jump=>zns (s':=if Option.isNone jump then LoopState.ready else .done) (p':=jump) hp2.hr hb2 hH2 k3
             have hend:=fun jump=>run_endRound (P:=P) (r:=L2) jump k3
             have hall:=(hp1.trans hpt').trans hp2;rw [<- hr2];cases ex with
             | normal=>exact ⟨_,_,hend none,_,β2,rfl,hall.trans (hpe none),.imm (.bool _)⟩
             | exit id=>exact ⟨_,_,hend (some (.exit id)),_,β2,rfl,hall.trans (hpe (some (.exit id))),.imm (.bool _)⟩
             | ret=>exact ⟨_,_,hend (some .ret),_,β2,rfl,hall.trans (hpe (some .ret)),.imm (.bool _)⟩
           · cases h
         · cases h
       · cases h
     · cases h
   · cases h
 · cases h
theorem zz5 {run:z1d} {inl:FuncId->Bool} {orc:FuncId->Option (List AV->Option AV)} {prim:FuncId->Option (Nat->List AV->List AO->Res)} (hs:z4y P run) (hor:zk P orc) (hpr:PrimOk P prim) {x:AV} {fv:Value} {args:List AV} {vs:Array Value} {r:AV} {H':List AO}
 (h:callV P inl orc prim run x args H=some (r,H')) (hr:HRel w X β H) (hx:Rel w (NN X β H) β x fv) (ha:ARel w (NN X β H) β args vs):VCalls P fv vs w (Ends w X β H r H'):=by
 unfold callV at h;split at h
 · rename_i g first cap
   have hfn:∃ us cs,fv=.func (.func g) us cs /\ ARel w (NN X β H) β first us /\ ARel w (NN X β H) β cap cs:=by
    cases hx with
    | imm hx=>cases hx with | fn a b c d=>exact ⟨_,_,rfl,⟨a,fun i y v q1 q2=>.imm (b i y v q1 q2)⟩,⟨c,fun i y v q1 q2=>.imm (d i y v q1 q2)⟩⟩
    | fn a b c d=>exact ⟨_,_,rfl,⟨a,b⟩,⟨c,d⟩⟩
   obtain ⟨us,cs,rfl,h1,h2⟩:=hfn;obtain ⟨g1,g2⟩:=zhs hs hor hpr h hr (vs:=us++vs++cs) (zgf (zgf h1 ha) h2);exact .inl ⟨g,us,cs,rfl,g1,g2⟩
 · exact zls hs h hr ha hx
 · cases h
end
end Clk
