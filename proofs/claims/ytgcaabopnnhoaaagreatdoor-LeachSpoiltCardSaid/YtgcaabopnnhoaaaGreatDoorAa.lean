import Derived.WalkKit
import Derived.CheckFast
import Derived.RangeFuncOwn
import Derived.RangeFuncRecord
set_option linter.unusedVariables false
set_option linter.unusedSimpArgs false
set_option linter.unusedSectionVars false
namespace Go.Sim
inductive V where
 |top
 |undef
 |int (k:IntKind) (n:Int)
 |bool (b:Bool)
 |str (s:ByteArray)
 |nilp
 |nilf
 |nili
 |nilm
 |row (isNil:Bool) (len wd:Nat) (get:Nat→List V)
 |rptr (len wd:Nat) (get:Nat→List V) (i off:Nat)
 |optr (b i off:Nat)
 |osl (b lo len:Nat)
 |agg (cs:List V)
 |tup (vs:List V)
 |fn (f:Fn) (first captured:List V)
 |iface (t:TypeId) (v:V)
 |yld (b:Nat)
 |mapr (b:Nat)
 |itr (b:Nat)
 |blk (b:Nat)
 |psl (b off n:Nat)
 |wsl (b n wd:Nat)
 |wptr (b i off wd:Nat)
inductive KS where
 |int (q:IntKind)
 |bool
 |bad
inductive Slot where
 |free
 |dead
 |box (elem:Nat) (cs:List V) (wr:Bool)
 |arr (elem wd len:Nat) (get:Nat→List V) (wr:Bool)
 |lp
 |win (elem wd len:Nat) (get:Nat→List V) (wr:Bool)
 |buf (elem wd len:Nat) (get:Nat→List V)
 |mp (agg:Bool) (ks:List KS) (es:List (V × V)) (wr:Bool)
 |it (m:Nat) (kt et:TypeId) (since:Nat) (seen:List Nat) (wr:Bool)
inductive Out where
 |ret (v:V)
 |pan (v:V)
def Slot.live:Slot→Bool
 |.box _ _ _ | .arr _ _ _ _ _ | .win _ _ _ _ _ | .buf _ _ _ _ | .mp _ _ _ _ | .it _ _ _ _ _ _=>true
 |_=>false
structure St where
 tm:List V
 hp:List Slot
 df:List V:=[]
 ext:List V:=[]
 pend:Option (Option Nat):=none
def V.one:V→Bool
 |.agg _ | .tup _ | .top | .undef | .blk _=>false
 |_=>true
section
variable {R:Type}
def tkBool (v:V) (fail:R) (k:Bool→R):R:=match v with | .bool b=>k b | _=>fail
def tkInt (v:V) (fail:R) (k:IntKind→Int→R):R:=match v with | .int q n=>k q n | _=>fail
def tkStr (v:V) (fail:R) (k:ByteArray→R):R:=match v with | .str s=>k s | _=>fail
def tkAgg (v:V) (fail:R) (k:List V→R):R:=match v with | .agg cs=>k cs | _=>fail
def tkTup (v:V) (fail:R) (k:List V→R):R:=match v with | .tup cs=>k cs | _=>fail
def tkRow (v:V) (fail:R) (k:Bool→Nat→Nat→(Nat→List V)→R):R:=match v with | .row nl n wd get=>k nl n wd get | _=>fail
def tkOne (v:V) (fail:R) (k:V→R):R:=bif v.one then k v else fail
def tkCons (l:List V) (fail:R) (k:V→List V→R):R:=match l with | v :: r=>k v r | []=>fail
def tkNil (l:List V) (fail:R) (k:R):R:=match l with | []=>k | _=>fail
def tkIfcN (v:V) (fail:R) (kn:R) (k:TypeId→V→R):R:=match v with | .iface t x=>k t x | .nili=>kn | _=>fail
def tkIfc (v:V) (fail:R) (k:TypeId→V→R):R:=match v with | .iface t x=>k t x | _=>fail
def tkHv (o:Option (Out × List Slot)) (fail:R) (k:V→List Slot→R):R:=match o with | some (.ret v,hp)=>k v hp | _=>fail
def tkHvP (o:Option (Out × List Slot)) (fail:R) (k:V→List Slot→R) (kp:V→R):R:=match o with | some (.ret v,hp)=>k v hp | some (.pan v,_)=>kp v | none=>fail
def tkSCons (l:List Slot) (fail:R) (k:Slot→List Slot→R):R:=match l with | s :: r=>k s r | []=>fail
def tkSNil (l:List Slot) (fail:R) (k:R):R:=match l with | []=>k | _=>fail
def tkBox (s:Slot) (fail:R) (k:Nat→List V→Bool→R):R:=match s with | .box e cs wr=>k e cs wr | _=>fail
def tkArr (s:Slot) (fail:R) (k:Nat→Nat→Nat→(Nat→List V)→Bool→R):R:=match s with | .arr e wd len get wr=>k e wd len get wr | _=>fail
def tkMp (s:Slot) (fail:R) (k:Bool→List KS→List (V × V)→Bool→R):R:=match s with | .mp ag ks es wr=>k ag ks es wr | _=>fail
def tkByte (o:Option UInt8) (fail:R) (k:UInt8→R):R:=match o with | some b=>k b | none=>fail
def tkDead (s:Slot) (fail:R) (k:R):R:=match s with | .dead=>k | _=>fail
def tkSl (v:V) (fail:R) (k:Bool→Nat→Nat→(Nat→List V)→R) (k':Nat→Nat→Nat→R):R:=match v with | .row nl n wd get=>k nl n wd get | .osl b lo n=>k' b lo n | _=>fail
def tkOut (o:Option Out) (fail:R) (k kp:V→R):R:=match o with | some (.ret v)=>k v | some (.pan v)=>kp v | none=>fail
end
def ofV1:Value→V
 |.int k n=>.int k n
 |.bool b=>.bool b
 |.string s=>.str s
 |.pointer none=>.nilp
 |.slice none 0 0=>.row true 0 0 fun _=>[]
 |.nilFunc=>.nilf
 |.nilIface=>.nili
 |.map none=>.nilm
 |_=>.top
def ofValue:Value→V
 |.agg cs=>.agg (cs.toList.map ofV1)
 |v=>ofV1 v
def evV (tm:List V):Operand→V
 |.tmp t=>tm.getD t .top
 |.const c=>ofValue c
 |.global _=>.top
 |.func f=>.fn (.func f) [] []
inductive Kd where
 |int | bool | str | row | ifc | other
def kdOf:TypeDesc→Kd
 |.int _=>.int
 |.bool=>.bool
 |.string=>.str
 |.slice _=>.row
 |.interface _=>.ifc
 |_=>.other
def kdsOf (P:Program):Nat→TypeId→List Kd
 |0,_=>[]
 |d+1,t=>match P.underlying t with
  |some (.struct fs)=>fs.toList.flatMap fun f=>kdsOf P d f.type
  |some (.array n e)=>(List.replicate n (kdsOf P d e)).flatten
  |some x=>[kdOf x]
  |none=>[]
def aggT (P:Program) (t:TypeId):Bool:=match P.underlying t with | some (.struct _)=>true | some (.array _ _)=>true | _=>false
section
variable {R:Type}
def kdK (q:Kd) (v:V) (fail:R) (k:V→R):R:=match q with
 |.int=>tkInt v fail fun q n=>k (.int q n)
 |.bool=>tkBool v fail fun b=>k (.bool b)
 |.str=>tkStr v fail fun s=>k (.str s)
 |.row=>tkRow v fail fun nl n wd get=>k (.row nl n wd get)
 |.ifc=>tkIfcN v fail (k .nili) fun t x=>k (.iface t x)
 |.other=>tkOne v fail k
def kdsK:List Kd→List V→(fail:R)→(List V→R)→R
 |[],l,fail,k=>tkNil l fail (k [])
 |q :: qs,l,fail,k=>tkCons l fail fun v r=>kdK q v fail fun v'=>kdsK qs r fail fun r'=>k (v' :: r')
def tyK (P:Program) (t:TypeId) (v:V) (fail:R) (k:V→R):R :=
 match P.underlying t with
 |some (.struct _) | some (.array _ _)=>tkAgg v fail fun cs=>kdsK (kdsOf P 12 t) cs fail fun cs'=>k (.agg cs')
 |some x=>kdK (kdOf x) v fail k
 |none=>fail
def tysK (P:Program):List TypeId→List V→(fail:R)→(List V→R)→R
 |[],l,fail,k=>tkNil l fail (k [])
 |t :: ts,l,fail,k=>tkCons l fail fun v r=>tyK P t v fail fun v'=>tysK P ts r fail fun r'=>k (v' :: r')
def szK (P:Program) (t:TypeId) (fail:R) (k:Nat→R):R:=match P.info? t with | some i=>k i.size | none=>fail
def byK (P:Program) (t:TypeId) (fail:R) (k:Nat→R):R:=match P.info? t with | some i=>k i.bytes | none=>fail
def zeroK (P:Program) (t:TypeId) (fail:R) (k:List V→R):R :=
 match P.info? t with
 |some i=>(match i.zero with
  |some z=>(match ofValue z with
   |.agg cs=>bif cs.all V.one then (bif cs.length==i.size then k cs else fail) else fail
   |v=>bif v.one then (bif i.size==1 then k [v] else fail) else fail)
  |none=>fail)
 |none=>fail
def cellsK (P:Program) (t:TypeId) (v:V) (fail:R) (k:List V→R):R :=
 szK P t fail fun n=>bif aggT P t then tkAgg v fail (fun cs=>bif cs.all V.one then (bif cs.length==n then k cs else fail) else fail)
  else bif v.one then (bif n==1 then k [v] else fail) else fail
def partK (P:Program) (t:TypeId) (cs:List V) (fail:R) (k:V→R):R :=
 szK P t fail fun n=>bif aggT P t then (bif (cs.take n).length==n then k (.agg (cs.take n)) else fail)
  else bif (P.underlying t).isSome then (tkCons cs fail fun c _=>k c) else fail
end
def splice (cs:List V) (off:Nat) (new:List V):List V:=cs.take off ++ new ++ cs.drop (off+new.length)
def setSlot:List Slot→Nat→Slot→List Slot
 |[],_,s=>[s]
 |_ :: t,0,s=>s :: t
 |x :: t,n+1,s=>x :: setSlot t n s
def setSlots (hp:List Slot):List (Nat × Slot)→List Slot
 |[]=>hp
 |(b,s) :: r=>setSlots (setSlot hp b s) r
def vrefs:Nat→V→List Nat
 |0,_=>[]
 |_+1,.optr b _ _=>[b]
 |_+1,.osl b _ _=>[b]
 |_+1,.yld b=>[b]
 |_+1,.mapr b=>[b]
 |_+1,.itr b=>[b]
 |_+1,.blk b=>[b]
 |_+1,.psl b _ _=>[b]
 |_+1,.wsl b _ _=>[b]
 |_+1,.wptr b _ _ _=>[b]
 |d+1,.agg cs=>cs.flatMap (vrefs d)
 |d+1,.tup cs=>cs.flatMap (vrefs d)
 |d+1,.fn _ a b=>a.flatMap (vrefs d) ++ b.flatMap (vrefs d)
 |d+1,.iface _ v=>vrefs d v
 |_+1,_=>[]
def rowGet1 (cs:List V):Nat→List V:=fun i=>[cs.getD i .undef]
section
variable {R:Type}
def mapK (f:V→R→(V→List Nat→R)→R):List V→(fail:R)→(List V→List Nat→R)→R
 |[],_,k=>k [] []
 |v :: r,fail,k=>f v fail fun v' l=>mapK f r fail fun r' l'=>k (v' :: r') (l ++ l')
def closeK (hp:List Slot):Nat→V→(fail:R)→(V→List Nat→R)→R
 |0,_,fail,_=>fail
 |d+1,.optr b i off,fail,k=>match hp.getD b .free with
  |.box _ cs _=>mapK (closeK hp d) cs fail fun cs' l=>k (.rptr 1 cs'.length (fun _=>cs') i off) (b :: l)
  |.arr _ wd len get _=>k (.rptr len wd get i off) [b]
  |_=>fail
 |d+1,.osl b lo n,fail,k=>match hp.getD b .free with
  |.arr _ wd _ get _=>k (.row false n wd fun j=>get (j+lo)) [b]
  |.box _ cs _=>bif lo==0 && n==1 then mapK (closeK hp d) cs fail fun cs' l=>k (.row false 1 cs'.length fun _=>cs') (b :: l) else fail
  |_=>fail
 |d+1,.agg cs,fail,k=>mapK (closeK hp d) cs fail fun cs' l=>k (.agg cs') l
 |d+1,.tup cs,fail,k=>mapK (closeK hp d) cs fail fun cs' l=>k (.tup cs') l
 |d+1,.fn f a b,fail,k=>mapK (closeK hp d) a fail fun a' l=>mapK (closeK hp d) b fail fun b' l'=>k (.fn f a' b') (l ++ l')
 |d+1,.iface t v,fail,k=>closeK hp d v fail fun v' l=>k (.iface t v') l
 |_+1,.top,fail,_=>fail
 |_+1,.undef,fail,_=>fail
 |_+1,.yld _,fail,_=>fail
 |_+1,.mapr _,fail,_=>fail
 |_+1,.itr _,fail,_=>fail
 |_+1,.blk _,fail,_=>fail
 |d+1,.psl b off n,fail,k=>match hp.getD b .free with
  |.box _ cs _=>bif Nat.beq off 0 && Nat.beq cs.length n then mapK (closeK hp d) cs fail fun cs' l=>k (.row false n 1 (rowGet1 cs')) (b :: l) else fail
  |_=>fail
 |_+1,.wsl _ _ _,fail,_=>fail
 |_+1,.wptr _ _ _ _,fail,_=>fail
 |_+1,v,_,k=>k v []
end
def closeD:Nat:=8
def freezeS:Slot→Slot
 |.box e cs _=>.box e cs false
 |.arr e wd len get _=>.arr e wd len get false
 |.win e wd len get _=>.win e wd len get false
 |.buf _ _ _ _=>.dead
 |.mp ag ks es _=>.mp ag ks es false
 |.it m kt et since seen _=>.it m kt et since seen false
 |s=>s
def freeze (hp:List Slot) (l:List Nat):List (Nat × Slot):=l.map fun b=>(b,freezeS (hp.getD b .free))
def flatV:V→Bool
 |.int _ _ | .bool _ | .str _ | .nilp | .nilf | .nili | .nilm=>true
 |_=>false
def flatP:V→Bool
 |.iface _ (.agg cs)=>cs.all flatV
 |.iface _ v=>flatV v
 |_=>false
def flatKd:Kd→Bool
 |.int | .bool | .str=>true
 |_=>false
def flatTs (P:Program) (ts:List TypeId):Bool:=ts.all fun t=>match P.underlying t with
 |some (.struct _) | some (.array _ _)=>(kdsOf P 12 t).all flatKd
 |some x=>flatKd (kdOf x)
 |none=>false
section
variable {R:Type}
def ksB:KS→V→Bool
 |.int q0,.int q n=>decide (q=q0) && (decide (q0.min≤n) && decide (n≤q0.max))
 |.bool,.bool _=>true
 |_,_=>false
def kssB:List KS→List V→Bool
 |[],[]=>true
 |q :: qs,v :: vs=>ksB q v && kssB qs vs
 |_,_=>false
def keyB (ag:Bool) (ks:List KS) (v:V):Bool:=match v with
 |.agg cs=>ag && kssB ks cs
 |v=>!ag && kssB ks [v]
def minmax (lo:Bool) (q:IntKind):Int→List V→(fail:R)→(V→R)→R
 |x,[],_,k=>k (.int q x)
 |x,v :: r,fail,k=>tkInt v fail fun _ y=>minmax lo q (bif lo then (if y<x then y else x) else (if x<y then y else x)) r fail k
def eqCs:List V→List V→(fail:R)→(Bool→R)→R
 |[],[],_,k=>k true
 |a :: as,b :: bs,fail,k=>(match a,b with
  |.int q x,.int q' y=>bif (decide (q=q')) then eqCs as bs fail fun r=>k (x==y && r) else fail
  |_,_=>fail)
 |_,_,fail,_=>fail
def isBoolD:Option TypeDesc→Bool
 |some .bool=>true
 |_=>false
def isSliceD:Option TypeDesc→Bool
 |some (.slice _)=>true
 |_=>false
def isIfaceD (c:Bool):Option TypeDesc→Bool
 |some (.interface ms)=>c || ms.isEmpty
 |_=>false
def isConst:Operand→Bool
 |.const _=>true
 |_=>false
@[reducible] def catS (a b:ByteArray):ByteArray:=a ++ b
@[reducible] def eqS (a b:ByteArray):Bool:=a.toList==b.toList
@[reducible] def byteAt (s:ByteArray) (i:Int):Option UInt8:=if 0≤i then s[i.toNat]? else none
def binK (eqT:TypeId→Nat→Bool) (c:Bool) (d:Option TypeDesc) (op:BinOp) (t:TypeId) (x y:V) (fail:R) (k:V→R):R :=
 match x,y with
 |.int q a,.int q' b=>(match op with
  |.shl=>bif decide (b<0) then fail else k (.int q (q.wrap (a*2 ^ (min b.toNat q.bits))))
  |.shr=>bif decide (b<0) then fail else k (.int q (a.fdiv (2 ^ (min b.toNat q.bits))))
  |op=>bif decide (q=q') then (match op with
   |.add=>k (.int q (q.wrap (a+b)))
   |.sub=>k (.int q (q.wrap (a - b)))
   |.mul=>k (.int q (q.wrap (a*b)))
   |.quo=>bif decide (b=0) then fail else k (.int q (q.wrap (a.tdiv b)))
   |.rem=>bif decide (b=0) then fail else k (.int q (a.tmod b))
   |.and=>k (.int q (q.wrap ((BitVec.ofInt q.bits a &&& BitVec.ofInt q.bits b).toNat)))
   |.eql=>k (.bool (a==b))
   |.neq=>k (.bool (a != b))
   |.lss=>k (.bool (decide (a<b)))
   |.leq=>k (.bool (decide (a≤b)))
   |.gtr=>k (.bool (decide (a>b)))
   |.geq=>k (.bool (decide (a≥b)))
   |_=>fail) else fail)
 |.bool a,.bool b=>bif isBoolD d then (match op with
  |.eql=>k (.bool (a==b))
  |.neq=>k (.bool (!(a==b)))
  |_=>fail) else fail
 |.str a,.str b=>(match op with
  |.add=>bif decide (a.size+b.size≤9223372036854775807) then k (.str (catS a b)) else fail
  |.eql=>k (.bool (eqS a b))
  |.neq=>k (.bool (!(eqS a b)))
  |_=>fail)
 |.agg as,.agg bs=>bif eqT t as.length then (match op with
  |.eql=>eqCs as bs fail fun r=>k (.bool r)
  |.neq=>eqCs as bs fail fun r=>k (.bool (!r))
  |_=>fail) else fail
 |.row nl _ _ _,.row true 0 0 _=>bif isSliceD d then (match op with
  |.eql=>k (.bool nl)
  |.neq=>k (.bool (!nl))
  |_=>fail) else fail
 |.osl _ _ _,.row true 0 0 _=>bif isSliceD d then (match op with
  |.eql=>k (.bool false)
  |.neq=>k (.bool true)
  |_=>fail) else fail
 |.iface _ _,.nili=>bif isIfaceD c d then (match op with
  |.eql=>k (.bool false)
  |.neq=>k (.bool true)
  |_=>fail) else fail
 |.nili,.nili=>bif isIfaceD c d then (match op with
  |.eql=>k (.bool true)
  |.neq=>k (.bool false)
  |_=>fail) else fail
 |_,_=>fail
end
def appGet (n:Nat) (get get2:Nat→List V):Nat→List V:=fun i=>if i<n then get i else get2 (i - n)
def updGet (get:Nat→List V) (i off:Nat) (new:List V):Nat→List V:=fun j=>if j=i then splice (get j) off new else get j
def rowGet (cs:List V) (wd len:Nat):Nat→List V:=bif len==1 then fun _=>cs else fun j=>(cs.drop (min j (len - 1)*wd)).take wd
structure Env where
 pf:Nat→List V→Option Out
 hv:Nat→List V→List Slot→Option (Out × List Slot)
inductive Cp where
 |int
 |bool
 |str
 |row
 |osl (b:Nat)
 |same (v:V)
 |nos (b:Nat→Nat)
inductive Vp where
 |one (c:Cp)
 |agg (l:List Cp)
 |unit
 |any
inductive Sp where
 |nil
 |same (r:Sp)
 |keep (r:Sp)
 |dead (r:Sp)
 |arr (e wd:Nat) (r:Sp)
 |vbox (e b1 b2:Nat) (r0 r1 r2:Sp)
 |cells (e:Nat) (cs:List Cp) (r:Nat→Sp)
structure Opt where
 eqT:TypeId→Nat→Bool
 hb:Nat→Bool:=fun _=>false
 keyT:TypeId→Bool:=fun _=>false
 fnT:TypeId→Option (Nat × List TypeId):=fun _=>none
 ro:Nat→Nat→Bool:=fun _ _=>false
 bx:Option Nat→Bool:=fun _=>false
 hm:Nat→Bool:=fun _=>false
 hd:Nat→Bool:=fun _=>false
 sp:Nat→List Slot→Option (Vp × Sp):=fun _ _=>none
section
variable {R:Type}
abbrev KOp (R:Type):=V→List (Nat × Slot)→List Nat→R
def loadK (P:Program) (hp:List Slot) (t:TypeId) (a:V) (fail:R) (k:KOp R):R :=
 match a with
 |.optr b i off=>(match hp.getD b .free with
  |.box _ cs _=>partK P t (cs.drop off) fail fun v=>k v [] [b]
  |.arr _ _ _ get _=>partK P t ((get i).drop off) fail fun v=>tyK P t v fail fun v'=>k v' [] [b]
  |_=>fail)
 |.rptr _ _ get i off=>partK P t ((get i).drop off) fail fun v=>tyK P t v fail fun v'=>k v' [] []
 |.wptr b i off wd=>(match hp.getD b .free with
  |.win _ wd' len get _=>bif Nat.beq wd' wd && Nat.blt i len then partK P t ((get i).drop off) fail fun v=>tyK P t v fail fun v'=>k v' [] [b] else fail
  |_=>fail)
 |_=>fail
def storeK (P:Program) (hp:List Slot) (t:TypeId) (a x:V) (fail:R) (k:KOp R):R :=
 match a with
 |.optr b i off=>(match hp.getD b .free with
  |.box e cs true=>cellsK P t x fail fun new=>bif decide (off+new.length≤cs.length) then k .undef [(b,.box e (splice cs off new) true)] [b] else fail
  |.arr e wd len get true=>closeK hp closeD x fail fun x' l=>(match l with
   |[]=>cellsK P t x' fail fun new=>bif decide (off+new.length≤wd) then k .undef [(b,.arr e wd len (updGet get i off new) true)] [b] else fail
   |_=>fail)
  |.buf e wd len get=>closeK hp closeD x fail fun x' l=>(match l with
   |[]=>cellsK P t x' fail fun new=>bif decide (off+new.length≤wd) then k .undef [(b,.buf e wd len (updGet get i off new))] [b] else fail
   |_=>fail)
  |_=>fail)
 |_=>fail
def srcK (hp:List Slot) (wd:Nat) (x:V) (fail:R) (k:Nat→(Nat→List V)→List Nat→R):R :=
 match x with
 |.osl b lo n=>(match hp.getD b .free with
  |.arr _ wd' _ get _=>bif wd'==wd then k n (fun j=>get (j+lo)) [b] else fail
  |.buf _ wd' _ get=>bif wd'==wd then k n (fun j=>get (j+lo)) [b] else fail
  |_=>fail)
 |.row nl n wd' get=>bif nl then k 0 (fun _=>[]) [] else bif wd'==wd then k n get [] else fail
 |.wsl b n wd0=>(match hp.getD b .free with
  |.win _ wd' len get _=>bif (Nat.beq wd' wd && Nat.beq wd0 wd) && Nat.ble n len then k n get [b] else fail
  |_=>fail)
 |_=>fail
def byteV:List V→Option Int
 |[.int .u8 n]=>some n
 |_=>none
def bytesOf (l:List Int):ByteArray:=l.foldl (fun r n=>r.push (UInt8.ofNat n.toNat)) ByteArray.empty
def bytesK (m:Nat) (get:Nat→List V) (fail:R) (k:ByteArray→R):R:=bif (List.range m).all (fun i=>(byteV (get i)).isSome) then k (bytesOf ((List.range m).map fun i=>(byteV (get i)).getD 0)) else fail
def byteGet (s:ByteArray):Nat→List V:=fun i=>[.int .u8 ((s.data.toList.getD i 0).toNat:Int)]
def u8K (d:Option TypeDesc) (fail k:R):R:=match d with | some (.int .u8)=>k | _=>fail
def appTail (hp:List Slot) (fr e wd by_:Nat) (s:V) (m:Nat) (get2:Nat→List V) (l2:List Nat) (fail:R) (k:KOp R):R :=
 bif m==0 then (match s with | .row nl n wd0 get0=>k (.row nl n wd0 get0) [] l2 | .osl b lo n=>k (.osl b lo n) [] l2 | .wsl b n wd0=>k (.wsl b n wd0) [] l2 | _=>fail) else
  (match s with
  |.row true 0 _ _=>bif decide (m*by_≤140737488355328) then k (.osl fr 0 m) [(fr,.arr e wd m get2 true)] l2 else fail
  |.osl b 0 n=>(match hp.getD b .free with
   |.arr e' wd' _ get true=>bif e'==e then bif wd'==wd then bif decide ((n+m)*by_≤140737488355328) then
    bif l2.contains b then fail else
    k (.osl fr 0 (n+m)) [(b,.dead),(fr,.arr e wd (n+m) (appGet n get get2) true)] (b :: l2) else fail else fail else fail
   |_=>fail)
  |.wsl b n wd0=>(match hp.getD b .free with
   |.win e' wd' len get true=>bif (Nat.beq e' e && Nat.beq wd' wd) && (Nat.beq wd0 wd && Nat.ble n len) then bif decide ((n+m)*by_≤140737488355328) then
    bif l2.contains b then fail else
    k (.wsl fr (n+m) wd) [(b,.dead),(fr,.win e wd (n+m) (appGet n get get2) true)] (b :: l2) else fail else fail
   |_=>fail)
  |_=>fail)
def appendK (P:Program) (hp:List Slot) (fr:Nat) (t:TypeId) (s x:V) (fail:R) (k:KOp R):R :=
 match P.underlying t with
 |some (.slice e)=>szK P e fail fun wd=>byK P e fail fun by_=>zeroK P e fail fun _=>bif by_==0 then fail else bif wd==0 then fail else srcK hp wd x fail fun m get2 l2=>appTail hp fr e wd by_ s m get2 l2 fail k
 |_=>fail
def fieldK (P:Program) (s:TypeId) (f:Nat) (fail:R) (k:Field→R):R :=
 match P.underlying s with
 |some (.struct fs)=>(match fs[f]? with | some x=>k x | none=>fail)
 |_=>fail
def placesOf (P:Program) (fs:List Field):Option (List (Nat × Nat)):=fs.mapM fun f=>(P.info? f.type).map fun i=>(f.offset,i.size)
def rowPlaces (n wd:Nat):List (Nat × Nat):=(List.range n).map fun i=>(i*wd,wd)
def placesK (P:Program) (fs:List Field) (fail:R) (k:List (Nat × Nat)→R):R:=match placesOf P fs with | some l=>k l | none=>fail
def fillK (pl:List (Nat × Nat)):List V→List (Nat × V)→(fail:R)→(List V→R)→R
 |cs,[],_,k=>k cs
 |cs,(i,v) :: r,fail,k=>(match pl[i]? with
  |some (off,n)=>(match v with
   |.agg vs=>bif vs.all V.one then bif vs.length==n then bif decide (off+n≤cs.length) then fillK pl (splice cs off vs) r fail k else fail else fail else fail
   |v=>bif v.one then bif n==1 then bif decide (off+1≤cs.length) then fillK pl (splice cs off [v]) r fail k else fail else fail else fail)
  |none=>fail)
def partsK (hp:List Slot):List (Nat × V)→(fail:R)→(List (Nat × V)→List Nat→R)→R
 |[],_,k=>k [] []
 |(i,v) :: r,fail,k=>closeK hp closeD v fail fun v' l=>partsK hp r fail fun r' l'=>k ((i,v') :: r') (l ++ l')
def zeros (wd n:Nat) (z:List V):List V:=(List.range (n*wd)).map fun i=>z.getD (i % wd) .top
def keyEq1:V→V→Bool
 |.int q a,.int q' b=>decide (q=q') && a==b
 |.bool a,.bool b=>a==b
 |_,_=>false
def keysEq:List V→List V→Bool
 |[],[]=>true
 |a :: as,b :: bs=>keyEq1 a b && keysEq as bs
 |_,_=>false
def keyEq:V→V→Bool
 |.agg as,.agg bs=>keysEq as bs
 |a,b=>keyEq1 a b
def mget:List (V × V)→V→Option V
 |[],_=>none
 |(k,v) :: r,x=>bif keyEq k x then some v else mget r x
def mput:List (V × V)→V→V→List (V × V)
 |[],x,v=>[(x,v)]
 |(k,u) :: r,x,v=>bif keyEq k x then (k,v) :: r else (k,u) :: mput r x v
def ksOf:TypeDesc→KS
 |.int q=>.int q
 |.bool=>.bool
 |_=>.bad
def kssOf (P:Program):Nat→TypeId→List KS
 |0,_=>[]
 |d+1,t=>match P.underlying t with
  |some (.struct fs)=>fs.toList.flatMap fun f=>kssOf P d f.type
  |some (.array n e)=>(List.replicate n (kssOf P d e)).flatten
  |some x=>[ksOf x]
  |none=>[.bad]
def ksEq:List KS→List KS→Bool
 |[],[]=>true
 |.int q :: r,.int q' :: r'=>decide (q=q') && ksEq r r'
 |.bool :: r,.bool :: r'=>ksEq r r'
 |_,_=>false
def keyK (P:Program) (X:Opt) (t:TypeId) (v:V) (fail:R) (k:V→R):R :=
 bif X.keyT t then tyK P t v fail fun v'=>bif keyB (aggT P t) (kssOf P 12 t) v' then k v' else fail else fail
def tkEnt (es:List (V × V)) (i:Nat) (fail:R) (k:V→V→R):R:=match es[i]? with | some p=>k p.1 p.2 | none=>fail
def tkOpt (o:Option V) (kn:R) (k:V→R):R:=match o with | some v=>k v | none=>kn
def zeroVK (P:Program) (t:TypeId) (fail:R) (k:V→R):R :=
 match P.info? t with
 |some i=>(match i.zero with
  |some z=>k (ofValue z)
  |none=>fail)
 |none=>fail
def lookupK (P:Program) (X:Opt) (hp:List Slot) (t:TypeId) (m x:V) (ok:Bool) (fail:R) (k:KOp R):R :=
 match P.underlying t with
 |some (.map kt et)=>keyK P X kt x fail fun x'=>zeroVK P et fail fun z=>(match m with
  |.mapr b=>(match hp.getD b .free with
   |.mp ag ks es _=>bif (ag==aggT P kt) && ksEq ks (kssOf P 12 kt) then tkOpt (mget es x') (k (bif ok then .tup [z,.bool false] else z) [] [b]) fun v=>tyK P et v fail fun v'=>k (bif ok then .tup [v',.bool true] else v') [] [b] else fail
   |_=>fail)
  |.nilm=>k (bif ok then .tup [z,.bool false] else z) [] []
  |_=>fail)
 |_=>fail
def mapUpdateK (P:Program) (X:Opt) (hp:List Slot) (t:TypeId) (m x v:V) (fail:R) (k:KOp R):R :=
 match P.underlying t with
 |some (.map kt et)=>keyK P X kt x fail fun x'=>closeK hp closeD v fail fun v' l=>tyK P et v' fail fun v''=>(match m with
  |.mapr b=>(match hp.getD b .free with
   |.mp ag ks es true=>bif (ag==aggT P kt) && ksEq ks (kssOf P 12 kt) then bif l.contains b then fail else bif decide (es.length<1000000000000) then k .undef (freeze hp l ++ [(b,.mp ag ks (mput es x' v'') true)]) (b :: l) else fail else fail
   |_=>fail)
  |_=>fail)
 |_=>fail
def boundK (o:Option V) (d:Nat) (fail:R) (k:Nat→R):R :=
 match o with
 |none=>k d
 |some v=>tkInt v fail fun _ i=>bif decide (0≤i) then k i.toNat else fail
def sliceK (hp:List Slot) (fr sz:Nat) (x:V) (lo hi:Option V) (fail:R) (k:KOp R):R :=
 match x with
 |.row nl n wd get=>bif wd==sz || nl then boundK hi n fail fun h=>boundK lo 0 fail fun l=>bif decide (l≤h) then bif decide (h≤n) then
  k (.row nl (h - l) wd fun j=>get (j+l)) [] [] else fail else fail else fail
 |.osl b s n=>boundK hi n fail fun h=>boundK lo 0 fail fun l=>bif decide (l=0) then bif decide (h≤n) then k (.osl b s h) [] [] else fail else
  (match hp.getD b .free with
  |.arr e wd _ get wr=>bif Nat.beq wd sz && (Nat.ble l h && Nat.ble h n) then k (.wsl fr (h - l) wd) [(b,.dead),(fr,.win e wd (h - l) (fun j=>get (j+(s+l))) wr)] [b] else fail
  |_=>fail)
 |.wsl b n wd0=>boundK hi n fail fun h=>boundK lo 0 fail fun l =>
  (match hp.getD b .free with
  |.win e wd len get wr=>bif (Nat.beq wd sz && Nat.beq wd0 wd) && (Nat.ble l h && (Nat.ble h n && Nat.ble n len)) then k (.wsl fr (h - l) wd) [(b,.dead),(fr,.win e wd (h - l) (fun j=>get (j+l)) wr)] [b] else fail
  |_=>fail)
 |_=>fail
def sliceArrK (P:Program) (n:Nat) (el:TypeId) (x:V) (lo hi:Option V) (fail:R) (k:KOp R):R :=
 match x,lo,hi with
 |.optr b 0 off,none,none=>szK P el fail fun _=>k (.psl b off n) [] []
 |_,_,_=>fail
def mixI (c:Bool) (a b:Int):Int:=bif c then a else b
def mixCells (c:Bool):List V→List V→(fail:R)→(List V→R)→R
 |[],old,fail,k=>tkNil old fail (k [])
 |v :: r,old,fail,k=>tkCons old fail fun u old'=>tkInt v fail fun q a=>tkInt u fail fun q' b=>bif decide (q=q') then mixCells c r old' fail fun l=>k (.int q' (mixI c a b) :: l) else fail
def mixRows (wd m:Nat) (get:Nat→List V) (old:List V):(n i:Nat)→(fail:R)→(List V→R)→R
 |0,_,_,k=>k []
 |n+1,i,fail,k=>mixCells (decide (i<m)) (get i) ((old.drop (i*wd)).take wd) fail fun l=>mixRows wd m get old n (i+1) fail fun r=>k (l ++ r)
def copyK (P:Program) (hp:List Slot) (t:TypeId) (s x:V) (fail:R) (k:KOp R):R :=
 match P.underlying t,s with
 |some (.slice el),.psl b off n=>szK P el fail fun wd=>bif wd==0 then fail else srcK hp wd x fail fun m get l=>(match hp.getD b .free with
  |.box e cs true=>bif l.contains b then fail else bif decide (off+n*wd≤cs.length) then
   mixRows wd m get (cs.drop off) n 0 fail fun new=>k (.int .i64 ((Nat.min m n:Nat):Int)) [(b,.box e (splice cs off new) true)] (b :: l) else fail
  |_=>fail)
 |_,_=>fail
def sliceStrK (x:V) (lo hi:Option V) (fail:R) (k:KOp R):R :=
 match x with
 |.str s=>boundK hi s.size fail fun h=>boundK lo 0 fail fun l=>bif decide (l≤h) then bif decide (h≤s.size) then k (.str (s.extract l h)) [] [] else fail else fail
 |_=>fail
def resultK (P:Program) (ts:List TypeId) (v:V) (fail:R) (k:V→R):R :=
 match ts with
 |[]=>tkTup v fail fun cs=>tkNil cs fail (k .undef)
 |[t]=>tyK P t v fail k
 |ts=>tkTup v fail fun cs=>tysK P ts cs fail fun cs'=>k (.tup cs')
def tkFn (v:V) (fail:R) (k:Nat→List V→List V→R):R:=match v with | .fn (.func g) a b=>k g a b | _=>fail
def tkPtr (v:V) (fail:R) (k:Nat→Nat→(Nat→List V)→Nat→Nat→R):R:=match v with | .rptr len wd get i off=>k len wd get i off | _=>fail
def capK (P:Program):List TypeId→List V→(fail:R)→(List V→R)→R
 |[],l,fail,k=>tkNil l fail (k [])
 |t :: ts,l,fail,k=>tkCons l fail fun v r=>tkPtr v fail fun len wd get i off=>szK P t fail fun n =>
  bif (Nat.beq len 1 && Nat.beq wd n) && (Nat.beq i 0 && Nat.beq off 0) then bif aggT P t then tyK P t (.agg (get 0)) fail fun v'=>tkAgg v' fail fun cs=>capK P ts r fail fun r'=>k (.rptr 1 n (fun _=>cs) 0 0 :: r')
   else tkCons (get 0) fail fun c r0=>tkNil r0 fail (tyK P t c fail fun c'=>capK P ts r fail fun r'=>k (.rptr 1 n (fun _=>[c']) 0 0 :: r')) else fail
def resFK (P:Program) (fT:TypeId→Option (Nat × List TypeId)) (ts:List TypeId) (v:V) (fail:R) (k:V→R):R:=match ts with
 |[t]=>(match fT t with
  |some (g,us)=>bif flatTs P [t] then fail else tkFn v fail fun g' a b=>bif Nat.beq g' g then tkNil a fail (capK P us b fail fun b'=>k (.fn (.func g) [] b')) else fail
  |none=>resultK P [t] v fail k)
 |ts=>resultK P ts v fail k
def callK (P:Program) (fT:TypeId→Option (Nat × List TypeId)) (env:Env) (hp:List Slot) (f:V) (args:List V) (fail:R) (k:KOp R) (kp:V→R):R :=
 match f with
 |.fn (.func g) first cap=>mapK (closeK hp closeD) (first ++ args ++ cap) fail fun args' l =>
  (match P.funcs[g]? with
  |some fn=>tkOut (env.pf g args') fail (fun v=>resFK P fT fn.resultTypes.toList v fail fun v'=>(match l with
   |[]=>k v' [] []
   |l=>bif flatTs P fn.resultTypes.toList then k v' [] l else k v' (freeze hp l) l)) fun v=>tkIfc v fail fun t x=>bif flatP (.iface t x) then kp (.iface t x) else fail
  |none=>fail)
 |_=>fail
def bkN (seen:List Nat) (fr:Nat) (j:Nat):Nat:=match seen[j]? with | some b=>b | none=>fr+(j - seen.length)
def renB (f:Nat→Nat):Nat→V→V
 |0,_=>.top
 |_+1,.optr b i off=>.optr (f b) i off
 |_+1,.osl b lo n=>.osl (f b) lo n
 |_+1,.yld b=>.yld (f b)
 |_+1,.mapr b=>.mapr (f b)
 |_+1,.itr b=>.itr (f b)
 |_+1,.blk b=>.blk (f b)
 |_+1,.psl b off n=>.psl (f b) off n
 |_+1,.wsl b n wd=>.wsl (f b) n wd
 |_+1,.wptr b i off wd=>.wptr (f b) i off wd
 |d+1,.agg cs=>.agg (cs.map (renB f d))
 |d+1,.tup cs=>.tup (cs.map (renB f d))
 |d+1,.fn g a b=>.fn g (a.map (renB f d)) (b.map (renB f d))
 |d+1,.iface t v=>.iface t (renB f d v)
 |_+1,v=>v
def renBS (f:Nat→Nat):Slot→Slot
 |.box e cs wr=>bif (cs.map (renB f closeD)).all V.one then .box e (cs.map (renB f closeD)) wr else .dead
 |.it m kt et since seen wr=>.it (f m) kt et since seen wr
 |s=>s
end
def slotRefs:Slot→List Nat
 |.box _ cs _=>cs.flatMap (vrefs closeD)
 |.it m _ _ _ _ _=>[m]
 |_=>[]
def reach (hp:List Slot):Nat→List Nat→List Nat→List Nat
 |0,_,seen=>seen
 |_+1,[],seen=>seen
 |f+1,b :: r,seen=>bif seen.contains b then reach hp f r seen else reach hp f (r ++ slotRefs (hp.getD b .free)) (seen ++ [b])
def idx (b:Nat):Nat→List Nat→Option Nat
 |_,[]=>none
 |i,c :: r=>bif b==c then some i else idx b (i+1) r
def renV (seen:List Nat):Nat→V→V
 |0,_=>.top
 |_+1,.optr b i off=>(match idx b 0 seen with | some j=>.optr j i off | none=>.top)
 |_+1,.osl b lo n=>(match idx b 0 seen with | some j=>.osl j lo n | none=>.top)
 |_+1,.yld b=>(match idx b 0 seen with | some j=>.yld j | none=>.top)
 |_+1,.mapr b=>(match idx b 0 seen with | some j=>.mapr j | none=>.top)
 |_+1,.itr b=>(match idx b 0 seen with | some j=>.itr j | none=>.top)
 |_+1,.blk b=>(match idx b 0 seen with | some j=>.blk j | none=>.top)
 |_+1,.psl b off n=>(match idx b 0 seen with | some j=>.psl j off n | none=>.top)
 |_+1,.wsl b n wd=>(match idx b 0 seen with | some j=>.wsl j n wd | none=>.top)
 |_+1,.wptr b i off wd=>(match idx b 0 seen with | some j=>.wptr j i off wd | none=>.top)
 |d+1,.agg cs=>.agg (cs.map (renV seen d))
 |d+1,.tup cs=>.tup (cs.map (renV seen d))
 |d+1,.fn f a b=>.fn f (a.map (renV seen d)) (b.map (renV seen d))
 |d+1,.iface t v=>.iface t (renV seen d v)
 |_+1,v=>v
def renS (seen:List Nat):Slot→Slot
 |.box e cs wr=>bif (cs.map (renV seen closeD)).all V.one then .box e (cs.map (renV seen closeD)) wr else .dead
 |.it m kt et since sn wr=>(match idx m 0 seen with | some j=>.it j kt et since sn wr | none=>.dead)
 |s=>s
def nodupB:List Nat→Bool
 |[]=>true
 |a :: r=>!r.contains a && nodupB r
section
variable {R:Type}
def backW (seen:List Nat) (fr:Nat) (hp':List Slot):List (Nat × Slot):=(List.range hp'.length).map fun j=>(bkN seen fr j,renBS (bkN seen fr) (hp'.getD j .free))
noncomputable def sameV:Nat→V→V→Bool
 |0,_,_=>false
 |_+1,.int q a,.int q' b=>decide (q=q') && a==b
 |_+1,.bool a,.bool b=>a==b
 |_+1,.nilp,.nilp=>true
 |_+1,.nilf,.nilf=>true
 |_+1,.nili,.nili=>true
 |_+1,.nilm,.nilm=>true
 |_+1,.optr b i o,.optr b' i' o'=>Nat.beq b b' && (Nat.beq i i' && Nat.beq o o')
 |_+1,.osl b i o,.osl b' i' o'=>Nat.beq b b' && (Nat.beq i i' && Nat.beq o o')
 |_+1,.mapr b,.mapr b'=>Nat.beq b b'
 |_+1,.itr b,.itr b'=>Nat.beq b b'
 |_+1,.psl b o n,.psl b' o' n'=>Nat.beq b b' && (Nat.beq o o' && Nat.beq n n')
 |_+1,.rptr n w g i o,.rptr n' w' g' i' o'=>Nat.beq n n' && (Nat.beq w w' && (Nat.beq i i' && (Nat.beq o o' && @decide (g=g') (Classical.propDecidable _))))
 |_+1,.row n l w g,.row n' l' w' g'=>n==n' && (Nat.beq l l' && (Nat.beq w w' && @decide (g=g') (Classical.propDecidable _)))
 |d+1,.fn (.func f) a b,.fn (.func f') a' b'=>Nat.beq f f' && ((Nat.beq a.length a'.length && (a.zip a').all fun p=>sameV d p.1 p.2) && (Nat.beq b.length b'.length && (b.zip b').all fun p=>sameV d p.1 p.2))
 |_,_,_=>false
noncomputable def cellK (c v:V) (fail:R) (k:V→R):R:=match c with
 |.int _ _=>tkInt v fail fun q n=>k (.int q n)
 |.bool _=>tkBool v fail fun b=>k (.bool b)
 |.str _=>tkStr v fail fun s=>k (.str s)
 |.row _ _ _ _=>tkRow v fail fun nl n wd get=>k (.row nl n wd get)
 |c=>bif sameV 8 c v then k c else fail
noncomputable def cellsBK:List V→List V→(fail:R)→(List V→R)→R
 |[],l,fail,k=>tkNil l fail (k [])
 |c :: cs,l,fail,k=>tkCons l fail fun v r=>cellK c v fail fun v'=>cellsBK cs r fail fun r'=>k (v' :: r')
noncomputable def slotK (s s':Slot) (fail:R) (k:Slot→R):R:=match s with
 |.box e cs wr=>tkBox s' fail fun e' cs' wr'=>bif Nat.beq e' e && wr'==wr then cellsBK cs cs' fail fun cs''=>k (.box e cs'' wr) else fail
 |.arr e wd len _ wr=>tkArr s' fail fun e' wd' len' get' wr'=>bif (Nat.beq e' e && Nat.beq wd' wd) && (Nat.beq len' len && wr'==wr) then k (.arr e wd len get' wr) else fail
 |.mp ag ks _ wr=>tkMp s' fail fun ag' ks' es' wr'=>bif (ag'==ag && ksEq ks' ks) && wr'==wr then k (.mp ag ks es' wr) else fail
 |_=>fail
def freshK (fresh:Option (Nat × Nat)) (l:List Slot) (fail:R) (k:List Slot→R):R:=match fresh with
 |none=>tkSNil l fail (k [])
 |some (el,sz)=>tkSCons l fail fun s r=>tkSNil r fail (bif Nat.beq sz 0 then tkMp s fail fun ag ks es wr=>bif wr==true then k [.mp ag ks es true] else fail
  else tkArr s fail fun e wd len get wr=>bif (Nat.beq e el && Nat.beq wd sz) && wr==true then k [.arr el sz len get true] else fail)
noncomputable def slotsK (fresh:Option (Nat × Nat)):List Slot→List Slot→(fail:R)→(List Slot→R)→R
 |[],l,fail,k=>freshK fresh l fail k
 |s :: old,l,fail,k=>tkSCons l fail fun s' r=>slotK s s' fail fun s''=>slotsK fresh old r fail fun r'=>k (s'' :: r')
def tkMapr (v:V) (fail:R) (k:Nat→R):R:=match v with | .mapr b=>k b | _=>fail
def resHK (P:Program) (ts:List TypeId) (n:Nat) (v:V) (fail:R) (k:V→Option (Nat × Nat)→R):R:=match ts with
 |[t]=>(match P.underlying t with
  |some (.slice el)=>szK P el fail fun sz=>tkSl v fail (fun nl len wd get=>bif nl && Nat.beq len 0 then k (.row true 0 wd get) none else fail) fun b lo len=>bif Nat.beq b n && Nat.beq lo 0 then k (.osl n 0 len) (some (el,sz)) else fail
  |some (.map _ _)=>tkMapr v fail fun b=>bif Nat.beq b n then k (.mapr n) (some (0,0)) else fail
  |_=>resultK P [t] v fail fun v'=>k v' none)
 |ts=>resultK P ts v fail fun v'=>k v' none
noncomputable def retK (P:Program) (ts:List TypeId) (old:List Slot) (o:Option (Out × List Slot)) (fail:R) (k:V→List Slot→R):R :=
 tkHv o fail fun v hp=>resHK P ts old.length v fail fun v' fresh=>slotsK fresh old hp fail fun hp'=>k v' hp'
noncomputable def hvK0 (P:Program) (env:Env) (hp:List Slot) (fr g:Nat) (args:List V) (fail:R) (k:KOp R):R :=
 let seen:=reach hp 1000 (args.flatMap (vrefs closeD)) []
 bif nodupB seen && seen.all (fun b=>(hp.getD b .free).live) then (match P.funcs[g]? with
  |some fn=>retK P fn.resultTypes.toList (seen.map fun b=>renS seen (hp.getD b .free)) (env.hv g (args.map (renV seen closeD)) (seen.map fun b=>renS seen (hp.getD b .free))) fail
   fun v' hp'=>k (renB (bkN seen fr) closeD v') (backW seen fr hp') seen
  |none=>fail) else fail
noncomputable def tkSame (a b:Slot) (fail k:R):R:=open Classical in if a=b then k else fail
noncomputable def sameK:List (Slot × Slot)→(fail:R)→(k:R)→R
 |[],_,k=>k
 |(a,b) :: r,fail,k=>bif b.live then tkSame a b fail (sameK r fail k) else fail
def roB (ro:Nat→Bool) (rd:List Nat) (b:Nat):Bool:=match idx b 0 rd with | some j=>ro j | none=>false
noncomputable def hvK (P:Program) (ro:Nat→Nat→Bool) (env:Env) (hp:List Slot) (fr g:Nat) (args:List V) (fail:R) (k:KOp R):R :=
 hvK0 P env hp fr g args fail fun v ws rd=>sameK ((ws.filter fun p=>roB (ro g) rd p.1).map fun p=>(p.2,hp.getD p.1 .free)) fail (k v (ws.filter fun p=>!roB (ro g) rd p.1) rd)
noncomputable def hvD (P:Program) (ro:Nat→Bool) (env:Env) (hp:List Slot) (fr g:Nat) (args:List V) (fail:R) (k:KOp R):R :=
 let seen:=reach hp 1000 (args.flatMap (vrefs closeD)) []
 bif nodupB seen && seen.all (fun b=>(hp.getD b .free).live) then (match P.funcs[g]? with
  |some fn=>tkHv (env.hv g (args.map (renV seen closeD)) (seen.map fun b=>renS seen (hp.getD b .free))) fail fun v hp' =>
   bif flatTs P fn.resultTypes.toList then resultK P fn.resultTypes.toList v fail fun v' =>
    bif Nat.beq hp'.length seen.length then sameK (((List.range seen.length).filter ro).map fun j=>(renBS (bkN seen fr) (hp'.getD j .free),hp.getD (bkN seen fr j) .free)) fail
     (k v' ((seen.filter fun b=>!roB ro seen b).map fun b=>(b,Slot.dead)) seen) else fail else fail
  |none=>fail) else fail
noncomputable def evOp (P:Program) (X:Opt) (env:Env) (o:Oper) (e:Operand→V) (hp:List Slot) (fr:Nat) (fail:R) (k:KOp R) (kp:V→R):R :=
 match o.op with
 |.move x | .assign x=>k (e x) [] []
 |.pick c a b=>tkBool (e c) fail fun t=>bif t then k (e a) [] [] else k (e b) [] []
 |.alloc t=>zeroK P t fail fun z=>k (.optr fr 0 0) [(fr,.box t z true)] []
 |.box t x=>cellsK P t (e x) fail fun cs=>k (.optr fr 0 0) [(fr,.box t cs true)] []
 |.build t parts=>(match P.underlying t with
  |some (.struct fs)=>placesK P fs.toList fail fun pl=>zeroK P t fail fun z=>fillK pl z (parts.toList.map fun p=>(p.1,e p.2)) fail fun cs=>k (.agg cs) [] []
  |some (.array n el)=>szK P el fail fun wd=>zeroK P t fail fun z=>fillK (rowPlaces n wd) z (parts.toList.map fun p=>(p.1,e p.2)) fail fun cs=>k (.agg cs) [] []
  |_=>fail)
 |.buildSlice t len parts=>(match P.underlying t with
  |some (.slice el)=>szK P el fail fun wd=>bif wd==0 then fail else bif X.bx o.dst && (len==1 && decide (wd≤1000)) then (zeroK P el fail fun z=>fillK (rowPlaces 1 wd) (zeros wd 1 z) (parts.toList.map fun p=>(p.1,e p.2)) fail fun cs=>k (.osl fr 0 1) [(fr,.box el cs true)] []) else bif len==0 then (bif parts.isEmpty then k (.osl fr 0 0) [(fr,.arr el wd 0 (fun _=>[]) true)] [] else fail) else bif decide (len*wd≤1000) then zeroK P el fail fun z =>
   partsK hp (parts.toList.map fun p=>(p.1,e p.2)) fail fun ps l=>fillK (rowPlaces len wd) (zeros wd len z) ps fail fun cs =>
    k (.osl fr 0 len) (freeze hp l ++ [(fr,.arr el wd len (rowGet cs wd len) true)]) l else fail
  |_=>fail)
 |.load t a=>loadK P hp t (e a) fail k
 |.store t a x=>storeK P hp t (e a) (e x) fail k
 |.nilCheck x=>(match e x with
  |.optr b i off=>k (.optr b i off) [] []
  |.rptr len wd get i off=>k (.rptr len wd get i off) [] []
  |.fn (.func g) a b=>k (.fn (.func g) a b) [] []
  |_=>fail)
 |.binOp op t x y _=>binK X.eqT (isConst x || isConst y) (P.underlying t) op t (e x) (e y) fail fun v=>k v [] []
 |.unOp op _ x=>(match op with
  |.not=>tkBool (e x) fail fun b=>k (.bool (!b)) [] []
  |.neg=>tkInt (e x) fail fun q n=>k (.int q (q.wrap (0 - n))) [] []
  |_=>fail)
 |.convert src dst x=>(match P.underlying src,P.underlying dst with
  |some (.int _),some (.int q)=>tkInt (e x) fail fun _ n=>k (.int q (q.wrap n)) [] []
  |some (.slice el),some .string=>u8K (P.underlying el) fail (srcK hp 1 (e x) fail fun m get l=>bytesK m get fail fun s=>k (.str s) [] l)
  |some .string,some (.slice el)=>u8K (P.underlying el) fail (tkStr (e x) fail fun s=>bif decide (s.size≤1000000) then k (.osl fr 0 s.size) [(fr,.buf el 1 s.size (byteGet s))] [] else fail)
  |_,_=>fail)
 |.makeInterface t x=>(match P.underlying t with
  |some (.interface _)=>fail
  |some _=>k (.iface t (e x)) [] []
  |none=>fail)
 |.makeFunc f first cap=>k (.fn f (first.toList.map e) (cap.toList.map e)) [] []
 |.makeSlice t l c=>(match P.underlying t with
  |some (.slice el)=>szK P el fail fun wd=>byK P el fail fun by_=>bif wd==0 then fail else zeroK P el fail fun z=>tkInt (e l) fail fun _ l'=>tkInt (e c) fail fun _ c' =>
   bif decide (0≤l') then bif decide (l'≤c') then bif decide (by_*c'≤281474976710656) then bif decide (c'≤9223372036854775807) then
    bif X.bx o.dst then (bif decide (l'=c') then k (.psl fr 0 l'.toNat) [(fr,.box el (zeros wd l'.toNat z) true)] [] else fail) else k (.osl fr 0 l'.toNat) [(fr,.arr el wd l'.toNat (fun _=>z) true)] [] else fail else fail else fail else fail
  |_=>fail)
 |.slice t x lo hi mx=>(match mx with
  |none=>(match P.underlying t with
   |some (.slice el)=>szK P el fail fun sz=>sliceK hp fr sz (e x) (lo.map e) (hi.map e) fail k
   |some .string=>sliceStrK (e x) (lo.map e) (hi.map e) fail k
   |some (.array n el)=>sliceArrK P n el (e x) (lo.map e) (hi.map e) fail k
   |_=>fail)
  |some _=>fail)
 |.fieldAddr s x f=>fieldK P s f fail fun fd=>szK P fd.type fail fun n=>bif n==0 then fail else (match e x with
  |.optr b i off=>k (.optr b i (off+fd.offset)) [] []
  |.rptr len wd get i off=>k (.rptr len wd get i (off+fd.offset)) [] []
  |_=>fail)
 |.field t x f=>fieldK P t f fail fun fd=>tkAgg (e x) fail fun cs=>partK P fd.type (cs.drop fd.offset) fail fun v=>k v [] []
 |.indexAddr t x ix=>(match P.underlying t with
  |some (.slice el)=>szK P el fail fun sz=>tkInt (e ix) fail fun _ i=>(match e x with
   |.osl b lo n=>bif (match hp.getD b .free with | .arr _ wd _ _ _=>wd==sz | .box _ cs _=>cs.length==sz | .buf _ wd _ _=>wd==sz | _=>false) then bif decide (0≤i) then bif decide (i<n) then k (.optr b (i.toNat+lo) 0) [] [b] else fail else fail else fail
   |.row _ n wd get=>bif wd==sz then bif decide (0≤i) then bif decide (i<n) then k (.rptr n wd get i.toNat 0) [] [] else fail else fail else fail
   |.psl b off n=>bif decide (0≤i) then bif decide (i<n) then k (.optr b 0 (off+i.toNat*sz)) [] [] else fail else fail
   |.wsl b n wd=>bif Nat.beq wd sz then bif decide (0≤i) then bif decide (i<n) then k (.wptr b i.toNat 0 wd) [] [] else fail else fail else fail
   |_=>fail)
  |some (.array n el)=>szK P el fail fun sz=>tkInt (e ix) fail fun _ i=>(match e x with
   |.optr b j off=>bif decide (0≤i) then bif decide (i<n) then k (.optr b j (off+i.toNat*sz)) [] [] else fail else fail
   |_=>fail)
  |_=>fail)
 |.index t x ix=>(match P.underlying t with
  |some (.array n el)=>tkInt (e ix) fail fun _ i=>tkAgg (e x) fail fun cs=>bif decide (0≤i) then bif decide (i<n) then szK P el fail fun wd=>partK P el (cs.drop (i.toNat*wd)) fail fun v=>tyK P el v fail fun v'=>k v' [] [] else fail else fail
  |some .string=>tkInt (e ix) fail fun _ i=>tkStr (e x) fail fun s=>tkByte (byteAt s i) fail fun b=>k (.int .u8 (b.toNat:Int)) [] []
  |_=>fail)
 |.typeAssert x _ dst true=>(match P.underlying dst with
  |some (.interface _)=>fail
  |none=>fail
  |some _=>zeroK P dst fail fun _=>(match e x with
   |.iface t v=>bif t==dst then k (.tup [v,.bool true]) [] [] else k (.tup [.top,.bool false]) [] []
   |.nili=>k (.tup [.top,.bool false]) [] []
   |_=>fail))
 |.makeMap t r=>(match r with
  |none=>(match P.underlying t with | some (.map kt _)=>bif X.keyT kt then k (.mapr fr) [(fr,.mp (aggT P kt) (kssOf P 12 kt) [] true)] [] else fail | _=>fail)
  |some _=>fail)
 |.lookup t m x ok=>lookupK P X hp t (e m) (e x) ok fail k
 |.mapUpdate t m x v=>mapUpdateK P X hp t (e m) (e x) (e v) fail k
 |.range t x=>(match P.underlying t with
  |some (.map kt et)=>(match e x with
   |.mapr b=>(match hp.getD b .free with | .mp _ _ es _=>k (.itr fr) [(fr,.it b kt et es.length [] true)] [b] | _=>fail)
   |_=>fail)
  |_=>fail)
 |.insert t m x v=>mapUpdateK P X hp t (e m) (e x) (e v) fail k
 |.entry it=>(match e it with
  |.itr b=>(match hp.getD b .free with
   |.it m kt et since (i :: _) _=>(match hp.getD m .free with
    |.mp _ _ es _=>bif es.length==since then tkEnt es i fail fun key val=>tyK P kt key fail fun key'=>tyK P et val fail fun val'=>k (.tup [key',val']) [] [b,m] else fail
    |_=>fail)
   |_=>fail)
  |_=>fail)
 |.extract x i=>tkTup (e x) fail fun cs=>(match cs[i]? with | some v=>k v [] [] | none=>fail)
 |.panic x=>tkIfc (e x) fail fun t v=>bif flatP (.iface t v) then kp (.iface t v) else fail
 |.call c=>(match c.callee with
  |.value f=>(match e f with
   |.fn (.func g) first cap=>bif X.hb g then hvK P X.ro env hp fr g (first ++ c.args.toList.map e ++ cap) fail k else bif X.hd g then hvD P (X.ro g) env hp fr g (first ++ c.args.toList.map e ++ cap) fail k else callK P X.fnT env hp (.fn (.func g) first cap) (c.args.toList.map e) fail k kp
   |_=>fail)
  |.builtin .len=>(match c.argTypes.toList,c.args.toList.map e with
   |[t],[x]=>(match P.underlying t,x with
    |some (.slice _),.row _ n _ _=>k (.int .i64 n) [] []
    |some (.slice _),.osl _ _ n=>k (.int .i64 n) [] []
    |some (.slice _),.psl _ _ n=>k (.int .i64 n) [] []
    |some (.slice _),.wsl _ n _=>k (.int .i64 n) [] []
    |some .string,.str s=>k (.int .i64 s.size) [] []
    |_,_=>fail)
   |_,_=>fail)
  |.builtin .min=>(match c.args.toList.map e with
   |x :: r=>tkInt x fail fun q n=>minmax true q n r fail fun v=>k v [] []
   |[]=>fail)
  |.builtin .max=>(match c.args.toList.map e with
   |x :: r=>tkInt x fail fun q n=>minmax false q n r fail fun v=>k v [] []
   |[]=>fail)
  |.builtin .append=>(match c.argTypes.toList,c.args.toList.map e with
   |[t,t'],[s,x]=>bif t==t' then appendK P hp fr t s x fail k else fail
   |_,_=>fail)
  |.builtin .copy=>(match c.argTypes.toList,c.args.toList.map e with
   |[t,_],[s,x]=>copyK P hp t s x fail k
   |_,_=>fail)
  |_=>fail)
 |_=>fail
def setTm (tm:List V) (d:Option Nat) (v:V):List V:=match d with | some t=>tm.set t v | none=>tm
noncomputable def stepK (P:Program) (X:Opt) (env:Env) (ops:Array Oper) (o:Oper) (tm:List V) (hp:List Slot) (fr:Nat) (fail:R) (k:List V→KOp R) (kp:V→R):R :=
 match o.guard with
 |none=>evOp P X env o (evV tm) hp fr fail (k tm) kp
 |some (j,want)=>(match (ops[j]?).bind (·.dst) with
  |some t=>(match tm.getD t .top with
   |.bool b=>(match want with
    |true=>bif b then evOp P X env o (evV (tm.set t (.bool true))) hp fr fail (k (tm.set t (.bool true))) kp else k (tm.set t (.bool false)) .undef [] []
    |false=>bif b then k (tm.set t (.bool true)) .undef [] [] else evOp P X env o (evV (tm.set t (.bool false))) hp fr fail (k (tm.set t (.bool false))) kp)
   |.undef=>k tm .undef [] []
   |_=>fail)
  |none=>fail)
def deferK (c:Call) (e:Operand→V) (fail:R) (k:V→R):R :=
 match c.callee,c.args.toList with
 |.value f,[]=>(match e f with
  |.fn (.func g) [] b=>k (.fn (.func g) [] b)
  |_=>fail)
 |_,_=>fail
def yldOf (o:Op) (e:Operand→V):Option (Nat × List V) :=
 match o with
 |.call c=>(match c.callee with
  |.value f=>(match e f with
   |.yld b=>some (b,c.args.toList.map e)
   |_=>none)
  |_=>none)
 |_=>none
def guardK (ops:Array Oper) (o:Oper) (tm:List V) (fail:R) (k:Bool→R):R :=
 match o.guard with
 |none=>k true
 |some (j,want)=>(match (ops[j]?).bind (·.dst) with
  |some t=>(match tm.getD t .top with
   |.bool b=>k (b==want)
   |.undef=>k false
   |_=>fail)
  |none=>fail)
def hmOf (X:Opt) (o:Op) (e:Operand→V):Option (Nat × List V) :=
 match o with
 |.call c=>(match c.callee with
  |.value f=>(match e f with
   |.fn (.func g) first cap=>bif X.hm g then some (g,first ++ c.args.toList.map e ++ cap) else none
   |_=>none)
  |_=>none)
 |_=>none
noncomputable def cpK (c:Cp) (v:V) (fail:R) (k:V→R):R:=match c with
 |.int=>tkInt v fail fun q n=>k (.int q n)
 |.str=>tkStr v fail fun s=>k (.str s)
 |.bool=>tkBool v fail fun b=>k (.bool b)
 |.row=>tkRow v fail fun nl n wd get=>k (.row nl n wd get)
 |.osl b=>tkSl v fail (fun _ _ _ _=>fail) fun b' lo len=>bif Nat.beq b' b && Nat.beq lo 0 then k (.osl b 0 len) else fail
 |.same u=>bif sameV 8 u v then k u else fail
 |.nos _=>fail
noncomputable def cpsK:List Cp→List V→(fail:R)→(List V→R)→R
 |[],l,fail,k=>tkNil l fail (k [])
 |c :: cs,l,fail,k=>tkCons l fail fun v r=>cpK c v fail fun v'=>cpsK cs r fail fun r'=>k (v' :: r')
noncomputable def vpK (s:Vp) (v:V) (fail:R) (k:V→R):R:=match s with
 |.one c=>cpK c v fail k
 |.agg cs=>tkAgg v fail fun l=>cpsK cs l fail fun l'=>k (.agg l')
 |.unit=>tkTup v fail fun l=>tkNil l fail (k (.tup []))
 |.any=>k v
noncomputable def cpcK:List Cp→List V→Nat→(fail:R)→(List V→Nat→R)→R
 |[],l,n,fail,k=>tkNil l fail (k [] n)
 |.nos b :: cs,l,n,fail,k=>tkCons l fail fun v r=>tkSl v fail (fun nl len wd get=>bif nl && Nat.beq len 0 then cpcK cs r (2*n) fail fun r' m=>k (.row true 0 wd get :: r') m else fail)
  fun b' lo len=>bif Nat.beq b' (b n) && Nat.beq lo 0 then cpcK cs r (2*n+1) fail fun r' m=>k (.osl (b n) 0 len :: r') m else fail
 |c :: cs,l,n,fail,k=>tkCons l fail fun v r=>cpK c v fail fun v'=>cpcK cs r n fail fun r' m=>k (v' :: r') m
noncomputable def spK:Sp→List Slot→List Slot→(fail:R)→(List Slot→R)→R
 |.nil,_,l,fail,k=>tkSNil l fail (k [])
 |.same r,old,l,fail,k=>tkSCons l fail fun s t=>tkSame s (old.headD .free) fail (spK r old.tail t fail fun t'=>k (old.headD .free :: t'))
 |.keep r,old,l,fail,k=>tkSCons l fail fun s t=>slotK (old.headD .free) s fail fun s'=>spK r old.tail t fail fun t'=>k (s' :: t')
 |.dead r,old,l,fail,k=>tkSCons l fail fun s t=>tkDead s fail (spK r old.tail t fail fun t'=>k (.dead :: t'))
 |.arr e wd r,old,l,fail,k=>tkSCons l fail fun s t=>tkArr s fail fun e' wd' len get wr=>bif (Nat.beq e' e && Nat.beq wd' wd) && wr==true then spK r old.tail t fail fun t'=>k (.arr e wd len get true :: t') else fail
 |.vbox e b1 b2 r0 r1 r2,old,l,fail,k=>tkSCons l fail fun s t=>tkBox s fail fun e' cs wr=>bif Nat.beq e' e && wr==true then tkCons cs fail fun c cr=>tkNil cr fail
  (tkSl c fail (fun nl len wd get=>bif nl && Nat.beq len 0 then spK r0 old.tail t fail fun t'=>k (.box e [.row true 0 wd get] true :: t') else fail) fun b lo len=>bif Nat.beq lo 0 then
   (bif Nat.beq b b1 then spK r1 old.tail t fail fun t'=>k (.box e [.osl b1 0 len] true :: t') else bif Nat.beq b b2 then spK r2 old.tail t fail fun t'=>k (.box e [.osl b2 0 len] true :: t') else fail) else fail) else fail
 |.cells e cs r,old,l,fail,k=>tkSCons l fail fun s t=>tkBox s fail fun e' vs wr=>bif Nat.beq e' e && wr==true then cpcK cs vs 0 fail fun vs' n=>spK (r n) old.tail t fail fun t'=>k (.box e vs' true :: t') else fail
noncomputable def shapeK (o:Option (Vp × Sp)) (old:List Slot) (v:V) (l:List Slot) (fail:R) (k:V→List Slot→R):R:=match o with
 |some (vp,sp)=>vpK vp v fail fun v'=>spK sp old l fail fun l'=>k v' l'
 |none=>k v l
noncomputable def hvM (P:Program) (X:Opt) (env:Env) (hp:List Slot) (g:Nat) (args:List V) (fail:R) (k:V→List Slot→R) (kp:V→List Slot→R):R :=
 let seen:=reach hp 1000 (args.flatMap (vrefs closeD)) []
 bif nodupB seen && seen.all (fun b=>(hp.getD b .free).live) then (match P.funcs[g]? with
  |some _=>tkHvP (env.hv g (args.map (renV seen closeD)) (seen.map fun b=>renS seen (hp.getD b .free))) fail
   (fun v hp'=>shapeK (X.sp g (seen.map fun b=>renS seen (hp.getD b .free))) (seen.map fun b=>renS seen (hp.getD b .free)) v hp' fail fun v hp'=>bif Nat.ble seen.length hp'.length then k (renB (bkN seen hp.length) closeD v) (setSlots hp (backW seen hp.length hp')) else fail)
   fun v=>tkIfc v fail fun t x=>bif flatP (.iface t x) then kp (.iface t x) (setSlots hp (seen.map fun b=>(b,Slot.dead))) else fail
  |none=>fail) else fail
def forceL {α R:Type}:List α→(List α→R)→R
 |[],k=>k []
 |x :: r,k=>forceL r fun r'=>k (x :: r')
theorem forceL_eq {α R:Type}:∀ (l:List α) (k:List α→R),forceL l k=k l
 |[],_=>rfl
 |x :: r,k=>forceL_eq r fun r'=>k (x :: r')
noncomputable def nextK {β:Type} (n:Nat) (seen:List Nat) (kend:Option β) (k:Nat→Option β):Option β :=
 open Classical in
 if ∀ i,i<n→i ∈ seen then kend
 else if h:∃ r,∀ i,i<n→i ∉ seen→k i=some r then some h.choose else none
noncomputable def opsK (P:Program) (X:Opt) (env:Env) (dfr:Bool) (yk:Nat→List V→St→(Bool→St→R)→R) (nk:Nat→List Nat→R→(Nat→R)→R) (ops:Array Oper):List Oper→St→(fail:R)→(St→R)→(V→St→R)→R
 |[],st,_,k,_=>k st
 |o :: r,st,fail,k,kp=>(match o.op with
  |.defer c=>(match o.guard,dfr with
   |none,true=>deferK c (evV st.tm) fail fun v=>opsK P X env dfr yk nk ops r { st with tm:=setTm st.tm o.dst .undef,df:=v :: st.df } fail k kp
   |_,_=>fail)
  |.next x s=>(match o.guard,s,evV st.tm x with
   |none,false,.itr b=>(match st.hp.getD b .free with
    |.it m kt et since seen true=>(match st.hp.getD m .free with
     |.mp _ _ es _=>bif es.length==since then
      nk es.length seen (opsK P X env dfr yk nk ops r { st with tm:=setTm st.tm o.dst (.tup [.bool false]) } fail k kp)
       fun i=>forceL (setTm st.tm o.dst (.tup [.bool true,.top,.top])) fun tm'=>forceL (setSlot st.hp b (.it m kt et since (i :: seen) true)) fun hp' =>
        opsK P X env dfr yk nk ops r { st with tm:=tm',hp:=hp' } fail k kp else fail
     |_=>fail)
    |_=>fail)
   |_,_,_=>fail)
  |op=>(match yldOf op (evV st.tm) with
   |some (b,args)=>guardK ops o st.tm fail fun t=>bif t then yk b args st fun t' st'=>opsK P X env dfr yk nk ops r { st' with tm:=setTm st'.tm o.dst (.bool t') } fail k kp
    else opsK P X env dfr yk nk ops r { st with tm:=setTm st.tm o.dst .undef } fail k kp
   |none=>(match hmOf X op (evV st.tm) with
    |some (g,args)=>guardK ops o st.tm fail fun t=>bif t then hvM P X env st.hp g args fail (fun v hp1=>forceL (setTm st.tm o.dst v) fun tm'=>forceL hp1 fun hp'=>opsK P X env dfr yk nk ops r { st with tm:=tm',hp:=hp' } fail k kp) (fun c hp1=>forceL hp1 fun hp'=>kp c { st with hp:=hp' })
     else opsK P X env dfr yk nk ops r { st with tm:=setTm st.tm o.dst .undef } fail k kp
    |none=>stepK P X env ops o st.tm st.hp st.hp.length fail (fun tm v ws _=>forceL (setTm tm o.dst v) fun tm'=>forceL (setSlots st.hp ws) fun hp'=>opsK P X env dfr yk nk ops r { st with tm:=tm',hp:=hp' } fail k kp) (fun c=>kp c st))))
def isFree:Slot→Bool
 |.free=>true
 |_=>false
abbrev Foot:=Nat × List Nat × List Nat
def ghost (P:Program) (o:Oper):Bool:=match o.op with
 |.alloc t=>zeroK P t false fun _=>true
 |_=>false
def wait (P:Program) (bf:Array Nat) (i:Nat):(j:Nat)→List Oper→Bool
 |_,[]=>true
 |j,o :: r=>((bf.getD j 0).testBit i || ghost P o) && wait P bf i (j+1) r
noncomputable def opsD (P:Program) (X:Opt) (env:Env) (ops:Array Oper) (bf:Array Nat) (base top:Nat):(i:Nat)→List Oper→List V→List Slot→List Foot→(fail:R)→(List V→List Slot→List Foot→R)→(V→List Foot→R)→R
 |_,[],tm,hp,tr,_,k,_=>k tm hp tr
 |i,o :: r,tm,hp,tr,fail,k,kp=>stepK P X env ops o tm hp (base+i) fail (fun tm v ws rd=>bif isFree (hp.getD (base+i) .free) && ws.all (fun p=>decide (p.1<top)) then
  forceL (setTm tm o.dst v) fun tm'=>forceL (setSlots hp ws) fun hp'=>opsD P X env ops bf base top (i+1) r tm' hp' ((i,(base+i) :: rd,ws.map (·.1)) :: tr) fail k kp else fail)
  (fun c=>bif isFree (hp.getD (base+i) .free) && tr.all (fun f=>f.2.2.isEmpty) && wait P bf i (i+1) r then kp c tr else fail)
end
def forget:List Oper→List V→List V
 |[],tm=>tm
 |o :: r,tm=>forget r (match o.dst with | some t=>tm.set t .top | none=>tm)
def disj (a b:List Nat):Bool:=a.all fun x=>!b.contains x
def bmask:List Nat→Nat
 |[]=>0
 |b :: l=>Nat.lor (Nat.pow 2 b) (bmask l)
def bitAt (m i:Nat):Bool:=Nat.beq (Nat.land (Nat.shiftRight m i) 1) 1
def footOk (m:Nat) (a b:Foot):Bool :=
 Nat.blt b.1 a.1 && (bitAt m b.1 || (Nat.beq (Nat.land (bmask a.2.2) (Nat.lor (bmask b.2.1) (bmask b.2.2))) 0 && Nat.beq (Nat.land (bmask a.2.1) (bmask b.2.2)) 0))
def forceN (n:Nat) (k:Nat→Bool):Bool:=match n with
 |0=>k 0
 |m+1=>k (m+1)
def footsF (bf:Array Nat):List Foot→(Nat→Nat→Nat→Bool)→Bool
 |[],k=>k 0 0 0
 |a :: r,k=>footsF bf r fun n R W=>forceN (bmask a.2.1) fun ra=>forceN (bmask a.2.2) fun wa =>
  (bif Nat.ble n a.1 && (Nat.beq (Nat.land wa (Nat.lor R W)) 0 && Nat.beq (Nat.land ra W) 0) then true else r.all (footOk (bf.getD a.1 0) a)) &&
  (bif Nat.ble n a.1 then forceN (Nat.lor R ra) fun R'=>forceN (Nat.lor W wa) fun W'=>k (a.1+1) R' W' else false)
def footsOk (bf:Array Nat) (l:List Foot):Bool:=footsF bf l fun _ _ _=>true
def tmpsOf (ops:Array Oper) (o:Oper):List Nat :=
 (o.op.operands.toList.filterMap fun | .tmp t=>some t | _=>none) ++ (match o.guard with | some (j,_)=>((ops[j]?).bind (·.dst)).toList | none=>[])
def apartOk (ops:Array Oper) (bf:Array Nat):Bool :=
 (List.range ops.size).all fun j=>(List.range j).all fun i=>(bf.getD j 0).testBit i ||
  (
   match ops[i]?,ops[j]? with
   |some a,some b=>disj a.dst.toList (tmpsOf ops b) && disj b.dst.toList (tmpsOf ops a) && disj a.dst.toList b.dst.toList
   |_,_=>true)
def edgesOk (ops:Array Oper):Bool:=(List.range ops.size).all fun i=>match ops[i]? with | some o=>o.after.toList.all fun e=>!Region.binds .any e || decide (e.on<i) | none=>true
def chainOk (ops:Array Oper) (bf:Array Nat) (p:Nat):Bool:=(List.range ops.size).all fun k=>decide (k<p) || (List.range k).all fun j=>(bf.getD k 0).testBit j
inductive Ex where
 |normal
 |exit (id:Nat)
 |ret
 |pan (v:V)
abbrev Kc (β:Type):=Ex→St→Option β
section
variable {β:Type}
def seqK (nx:St→Option β) (k:Kc β):Kc β:=fun ex st=>match ex with | .normal=>nx st | e=>k e st
def blkK (id:Nat) (k:Kc β):Kc β:=fun ex st=>match ex with | .exit j=>(bif j==id then k .normal st else k (.exit j) st) | e=>k e st
end
def havoc (keep:List Nat):Nat→List V→List V
 |_,[]=>[]
 |i,v :: r=>(bif keep.contains i then v else .top) :: havoc keep (i+1) r
section
variable {β:Type}
def canonK (keep:List Nat) (st:St) (k:St→Option β):Option β :=
 let tm:=havoc keep 0 st.tm
 let seen:=reach st.hp 1000 (tm.flatMap (vrefs closeD) ++ st.df.flatMap (vrefs closeD) ++ st.ext.flatMap (vrefs closeD)) []
 bif nodupB seen then k { tm:=tm.map (renV seen closeD),hp:=seen.map fun b=>renS seen (st.hp.getD b .free),df:=st.df.map (renV seen closeD),ext:=st.ext.map (renV seen closeD),pend:=st.pend } else none
def loopK (nx:St→Option β) (k:Kc β):Kc β:=fun ex st=>match ex with | .normal=>nx st | e=>k e st
def loopN (body:St→Kc β→Option β) (keep:List Nat):Nat→St→Kc β→Option β
 |0,_,_=>none
 |n+1,st,k=>body st (loopK (fun s=>canonK keep s fun s'=>loopN body keep n s' k) k)
end
def firstReg:Code→Nat
 |.region id _ _=>id
 |.seq a _=>firstReg a
 |.block _ c=>firstReg c
 |.loop c=>firstReg c
 |.scope c=>firstReg c
 |_=>0
structure Cfg where
 x:Opt
 keep:Nat→List Nat
 fuel:Nat→Nat
 marks:Bool:=false
 cut:Nat→Bool:=fun _=>false
 bar:Nat→Nat:=fun _=>0
 fz:List Nat:=[]
 fe:List Nat:=[]
 pn:Bool:=false
def cutK {β:Type} (cut:Bool) (keep:List Nat) (fuel:Nat) (ev:St→Kc β→Option β) (st:St) (k:Kc β):Option β :=
 bif cut then canonK keep st fun st'=>loopN (fun s _=>ev s k) keep fuel st' k else ev st k
structure Hk (β:Type) where
 dfr:Bool
 yk:Nat→List V→St→(Bool→St→Option β)→Option β
 rf:V→List Nat→(St→Kc β→Option β)→(St→Kc β→Option β)→St→Kc β→Option β
def Hk.no {β:Type}:Hk β:={ dfr:=false,yk:=fun _ _ _ _=>none,rf:=fun _ _ _ _ _ _=>none }
noncomputable def evCode {β:Type} (P:Program) (C:Cfg) (env:Env):Hk β→Code→St→Kc β→Option β
 |_,.skip,st,k=>k .normal st
 |_,.label _,st,k=>k .normal st
 |_,.ret,st,k=>k .ret st
 |_,.exit id,st,k=>k (.exit id) st
 |H,.region id ops draw,st,k=>(match draw with
  |false=>opsK P C.x env H.dfr H.yk nextK ops ops.toList st none (fun st=>k .normal st) (fun v st=>k (.pan v) st)
  |true=>bif P.follows .mixedOrders && apartOk ops (CheckFast.beforeF ops) && edgesOk ops then
   (match C.bar id with
   |0=>opsD P C.x env ops (CheckFast.beforeF ops) st.hp.length (st.hp.length+ops.size) 0 ops.toList st.tm (st.hp ++ List.replicate ops.size .free) [] none
    (fun tm hp tr=>bif footsOk (CheckFast.beforeF ops) tr then k .normal { st with tm:=tm,hp:=hp } else none)
    (fun c _=>k (.pan c) { st with tm:=forget ops.toList st.tm,hp:=st.hp ++ List.replicate ops.size .free })
   |p+1=>bif chainOk ops (CheckFast.beforeF ops) (p+1) then opsD P C.x env ops (CheckFast.beforeF ops) st.hp.length (st.hp.length+ops.size) 0 (ops.toList.take (p+1)) st.tm (st.hp ++ List.replicate ops.size .free) [] none
    (fun tm hp tr=>bif footsOk (CheckFast.beforeF ops) tr then opsK P C.x env H.dfr H.yk nextK ops (ops.toList.drop (p+1)) { st with tm:=tm,hp:=hp } none (fun st=>k .normal st) (fun v st=>k (.pan v) st) else none)
    (fun c _=>k (.pan c) { st with tm:=forget ops.toList st.tm,hp:=st.hp ++ List.replicate ops.size .free }) else none) else none)
 |H,.seq a b,st,k=>evCode P C env H a st (seqK (fun st=>cutK (C.cut (firstReg b)) (C.keep (firstReg b)) (C.fuel (firstReg b)) (evCode P C env H b) st k) k)
 |H,.cond c a b,st,k=>tkBool (evV st.tm c) none fun t=>bif t then evCode P C env H a st k else evCode P C env H b st k
 |H,.block id c,st,k=>evCode P C env H c st (blkK id k)
 |H,.scope c,st,k=>evCode P C env H c st k
 |H,.loop c,st,k=>canonK (C.keep (firstReg c)) st fun st'=>loopN (evCode P C env H c) (C.keep (firstReg c)) (C.fuel (firstReg c)) st' k
 |H,.rangeFunc g ps a b,st,k=>H.rf (evV st.tm g) ps.toList (evCode P C env .no a) (evCode P C env .no b) st k
 |_,_,_,_=>none
def setPs:List Nat→List V→List V→List V
 |p :: ps,v :: vs,tm=>setPs ps vs (tm.set p v)
 |_,_,tm=>tm
def roundFin {β:Type} (n:Nat) (k:Bool→St→Option β):Kc β:=fun ex st2=>(match st2.df,st2.pend,ex with
 |[],none,.normal=>k true { tm:=st2.ext.take n,hp:=st2.hp,df:=[],ext:=st2.ext.drop n,pend:=none }
 |[],none,.ret=>k false { tm:=st2.ext.take n,hp:=st2.hp,df:=[],ext:=st2.ext.drop n,pend:=some none }
 |[],none,.exit id=>k false { tm:=st2.ext.take n,hp:=st2.hp,df:=[],ext:=st2.ext.drop n,pend:=some (some id) }
 |_,_,_=>none)
def roundEnd {β:Type} (n:Nat) (evB:St→Kc β→Option β) (k:Bool→St→Option β):Kc β:=fun ex st1=>(match ex with
 |.normal=>evB st1 (roundFin n k)
 |_=>none)
def roundK {β:Type} (m:Nat) (ps:List Nat) (evA evB:St→Kc β→Option β) (b:Nat) (args:List V) (st:St) (k:Bool→St→Option β):Option β :=
 match st.pend,st.df,st.ext with
 |none,[],.yld b' :: tm0=>bif b==b' && args.length==ps.length then
  evA { tm:=setPs ps args (tm0.take m),hp:=st.hp,df:=[],ext:=st.tm ++ st.ext,pend:=none } (roundEnd st.tm.length evB k) else none
 |_,_,_=>none
def inlEnd {β:Type} (m:Nat) (k:Kc β):Kc β:=fun ex st'=>(match ex,st'.df with
 |.normal,[] | .ret,[]=>k (match st'.pend with | none=>.normal | some none=>.ret | some (some id)=>.exit id) { tm:=(st'.ext.drop 1).take m,hp:=st'.hp,df:=[],ext:=(st'.ext.drop 1).drop m,pend:=none }
 |_,_=>none)
noncomputable def inl {β:Type} (P:Program) (C:Nat→Cfg) (env:Env) (g:V) (ps:List Nat) (evA evB:St→Kc β→Option β) (st:St) (k:Kc β):Option β :=
 match g,st.pend,st.df with
 |.fn (.func gf) first cap,none,[]=>(match P.funcs[gf]? with
  |some fn=>(match fn.body,fn.results.toList with
   |some cg,[]=>evCode P (C gf) env { dfr:=false,yk:=roundK st.tm.length ps evA evB,rf:=fun _ _ _ _ _ _=>none } cg
    { tm:=(first ++ [.yld st.hp.length] ++ cap) ++ List.replicate (fn.ntmps - (first.length+1+cap.length)) .undef,hp:=st.hp ++ [.lp],df:=[],ext:=.yld st.hp.length :: (st.tm ++ st.ext),pend:=none } (inlEnd st.tm.length k)
   |_,_=>none)
  |none=>none)
 |_,_,_=>none
noncomputable def hk {β:Type} (P:Program) (C:Nat→Cfg) (env:Env) (f:Nat):Hk β:={ dfr:=!(C f).marks,yk:=fun _ _ _ _=>none,rf:=bif (C f).marks then inl P C env else fun _ _ _ _ _ _=>none }
def resV (P:Program) (st:St):List ResultVar→(List V→Option Out)→Option Out
 |[],k=>k []
 |.tmp t :: r,k=>closeK st.hp closeD (st.tm.getD t .top) none fun v _=>resV P st r fun vs=>k (v :: vs)
 |.cell a t :: r,k=>loadK P st.hp t (st.tm.getD a .top) none fun v _ _=>closeK st.hp closeD v none fun v' _=>resV P st r fun vs=>k (v' :: vs)
def resK (P:Program) (rs:List ResultVar) (st:St):Option Out:=resV P st rs fun vs=>(match vs with | [v]=>some (.ret v) | vs=>some (.ret (.tup vs)))
noncomputable def callDef {β:Type} (P:Program) (C:Nat→Cfg) (env:Env) (cl:V) (pm:Option V) (st:St) (k:St→Option β):Option β :=
 match cl,st.ext with
 |.fn (.func g) [] cap,[]=>(match P.funcs[g]? with
  |some fn=>(match fn.body,fn.results.toList with
   |some (.seq (.region _ ops false) rest),[]=>(match ops.toList with
    |[o]=>(match o.op,o.guard with
     |.call c,none=>(match c.callee,c.args.toList with
      |.builtin .recover,[]=>evCode P (C g) env .no rest { tm:=setTm (cap ++ List.replicate (fn.ntmps - cap.length) .undef) o.dst (match pm with | some v=>v | none=>.nili),hp:=st.hp,df:=[],ext:=st.tm }
       fun ex st'=>(match ex,st'.df with
        |.normal,[]=>k { tm:=st'.ext,hp:=st'.hp,df:=[],ext:=[] }
        |.ret,[]=>k { tm:=st'.ext,hp:=st'.hp,df:=[],ext:=[] }
        |_,_=>none)
      |_,_=>none)
     |_,_=>none)
    |_=>none)
   |_,_=>none)
  |none=>none)
 |_,_=>none
noncomputable def callDefH {β:Type} (P:Program) (C:Nat→Cfg) (env:Env) (cl:V) (pm:Option V) (st:St) (k:St→Option β):Option β :=
 match cl with
 |.fn (.func g) [] cap=>(match P.funcs[g]? with
  |some fn=>(match fn.body,fn.results.toList with
   |some (.seq (.region _ ops false) rest),[]=>(match ops.toList with
    |[o]=>(match o.op,o.guard with
     |.call c,none=>(match c.callee,c.args.toList with
      |.builtin .recover,[]=>evCode P (C g) env .no rest { tm:=setTm (cap ++ List.replicate (fn.ntmps - cap.length) .undef) o.dst (match pm with | some v=>v | none=>.nili),hp:=st.hp,df:=[],ext:=st.tm ++ st.ext }
       fun ex st'=>(match ex,st'.df with
        |.normal,[]=>k { tm:=st'.ext.take st.tm.length,hp:=st'.hp,df:=[],ext:=st'.ext.drop st.tm.length }
        |.ret,[]=>k { tm:=st'.ext.take st.tm.length,hp:=st'.hp,df:=[],ext:=st'.ext.drop st.tm.length }
        |_,_=>none)
      |_,_=>none)
     |_,_=>none)
    |_=>none)
   |_,_=>none)
  |none=>none)
 |_=>none
noncomputable def endK (P:Program) (C:Nat→Cfg) (env:Env) (rs:List ResultVar):Kc Out:=fun ex st=>match st.df with
 |[]=>(match ex with
  |.normal | .ret=>resK P rs st
  |.pan v=>some (.pan v)
  |_=>none)
 |[cl]=>(match ex with
  |.normal | .ret=>callDef P C env cl none st (resK P rs)
  |.pan v=>callDef P C env cl (some v) st (resK P rs)
  |_=>none)
 |_=>none
def endM (P:Program) (rs:List ResultVar):Kc Out:=fun ex st=>match st.df,ex with
 |[],.normal | [],.ret=>resK P rs st
 |[],.pan v=>some (.pan v)
 |_,_=>none
noncomputable def endF (P:Program) (C:Nat→Cfg) (env:Env) (f:Nat) (rs:List ResultVar):Kc Out:=bif (C f).marks then endM P rs else endK P C env rs
noncomputable def evFun (P:Program) (C:Nat→Cfg) (env:Env) (f:Nat) (args:List V):Option Out :=
 match P.funcs[f]? with
 |some fn=>(match fn.body with
  |some c=>evCode P (C f) env (hk P C env f) c { tm:=args ++ List.replicate (fn.ntmps - args.length) .undef,hp:=[] } (endF P C env f fn.results.toList)
  |none=>none)
 |none=>none
def resH (P:Program) (st:St):List ResultVar→(List V→Option (Out × List Slot))→Option (Out × List Slot)
 |[],k=>k []
 |.tmp t :: r,k=>resH P st r fun vs=>k (st.tm.getD t .top :: vs)
 |.cell a t :: r,k=>loadK P st.hp t (st.tm.getD a .top) none fun v _ _=>resH P st r fun vs=>k (v :: vs)
def blksK:List V→(List Nat→Option (Out × List Slot))→Option (Out × List Slot)
 |[],k=>k []
 |.blk b :: r,k=>blksK r fun bs=>k (b :: bs)
 |_ :: _,_=>none
def finH (st:St) (v:V):Option (Out × List Slot):=blksK st.ext fun bs =>
 let seen:=reach st.hp 1000 (bs.flatMap (fun b=>slotRefs (st.hp.getD b .free)) ++ vrefs closeD v) bs
 bif nodupB seen then some (.ret (renV seen closeD v),seen.map fun b=>renS seen (st.hp.getD b .free)) else none
def resHK2 (P:Program) (rs:List ResultVar) (st:St):Option (Out × List Slot):=resH P st rs fun vs=>(match vs with | [v]=>finH st v | vs=>finH st (.tup vs))
noncomputable def endH (P:Program) (C:Nat→Cfg) (env:Env) (pn:Bool) (rs:List ResultVar):Kc (Out × List Slot):=fun ex st=>match st.df with
 |[]=>(match ex with
  |.normal | .ret=>resHK2 P rs st
  |.pan v=>bif pn then some (.pan v,[]) else none
  |_=>none)
 |[cl]=>(match ex with
  |.normal | .ret=>callDefH P C env cl none st (resHK2 P rs)
  |.pan v=>callDefH P C env cl (some v) st (resHK2 P rs)
  |_=>none)
 |_=>none
def fzCells {R:Type} (hp:List Slot) (old:List V):List Nat→List V→(fail:R)→(List V→List Nat→R)→R
 |[],cs,_,k=>k cs []
 |i :: is,cs,fail,k=>(match old[i]? with
  |some c=>closeK hp closeD c fail fun c' l=>fzCells hp old is (cs.set i c') fail fun cs' l'=>k cs' (l ++ l')
  |none=>fail)
def feK (fe:List Nat) (st:St) (k:St→Option (Out × List Slot)):Option (Out × List Slot):=match st.ext with
 |.blk b0 :: _=>(match st.hp[b0]? with
  |some (.box e cs true)=>fzCells st.hp cs fe cs none fun cs' l=>bif l.contains b0 then none else bif cs'.all V.one then k { st with hp:=setSlots st.hp (l.map (fun b=>(b,Slot.dead)) ++ [(b0,.box e cs' true)]) } else none
  |_=>none)
 |_=>none
def endHZ (P:Program) (fe:List Nat) (rs:List ResultVar):Kc (Out × List Slot):=fun ex st=>match st.df,ex with
 |[],.normal | [],.ret=>feK fe st (resHK2 P rs)
 |_,_=>none
def endHM (P:Program) (rs:List ResultVar):Kc (Out × List Slot):=fun ex st=>match st.df,ex with
 |[],.normal | [],.ret=>resHK2 P rs st
 |_,_=>none
noncomputable def endHF (P:Program) (C:Nat→Cfg) (env:Env) (f:Nat) (rs:List ResultVar):Kc (Out × List Slot):=bif (C f).marks then endHM P rs else bif (C f).fe.isEmpty then endH P C env (C f).pn rs else endHZ P (C f).fe rs
noncomputable def hkH {β:Type} (P:Program) (C:Nat→Cfg) (env:Env) (f:Nat):Hk β:={ dfr:=!(C f).marks,yk:=fun _ _ _ _=>none,rf:=bif (C f).marks then inl P C env else fun _ _ _ _ _ _=>none }
noncomputable def evFunH0 (P:Program) (C:Nat→Cfg) (env:Env) (f:Nat) (args:List V) (hp:List Slot):Option (Out × List Slot) :=
 match P.funcs[f]? with
 |some fn=>(match fn.body with
  |some c=>evCode P (C f) env (hkH P C env f) c { tm:=args ++ List.replicate (fn.ntmps - args.length) .undef,hp:=hp,ext:=(List.range hp.length).map .blk } (endHF P C env f fn.results.toList)
  |none=>none)
 |none=>none
def fzK {R:Type} (is:List Nat) (hp:List Slot) (fail:R) (k:List Slot→R):R:=match is with
 |[]=>k hp
 |is=>(match hp with
  |.box e cs true :: _=>fzCells hp cs is cs fail fun cs' l=>bif l.contains 0 then fail else bif cs'.all V.one then k (setSlots hp (l.map (fun b=>(b,Slot.dead)) ++ [(0,.box e cs' true)])) else fail
  |_=>fail)
noncomputable def evFunH (P:Program) (C:Nat→Cfg) (env:Env) (f:Nat) (args:List V) (hp:List Slot):Option (Out × List Slot) :=
 fzK (C f).fz hp none fun hp=>evFunH0 P C env f args hp
inductive Dir where
 |l | r | d
 |g (f:Nat)
 |b (f:Nat) (p:List Dir) (n i:Nat)
noncomputable def atK0 {β:Type} (P:Program) (C:Nat→Cfg) (env:Env):Nat→Hk β→List Dir→List Nat→Code→Kc β→Nat × Hk β × Code × Kc β
 |f,H,.l :: p,ns,.seq a b,k=>atK0 P C env f H p ns a (seqK (fun st=>cutK ((C f).cut (firstReg b)) ((C f).keep (firstReg b)) ((C f).fuel (firstReg b)) (evCode P (C f) env H b) st k) k)
 |f,H,.r :: p,ns,.seq _ b,k=>atK0 P C env f H p ns b k
 |f,H,.l :: p,ns,.cond _ a _,k=>atK0 P C env f H p ns a k
 |f,H,.r :: p,ns,.cond _ _ b,k=>atK0 P C env f H p ns b k
 |f,H,.d :: p,ns,.block id c,k=>atK0 P C env f H p ns c (blkK id k)
 |f,H,.d :: p,ns,.scope c,k=>atK0 P C env f H p ns c k
 |f,H,.d :: p,n :: ns,.loop c,k=>atK0 P C env f H p ns c (loopK (fun s=>canonK ((C f).keep (firstReg c)) s fun s'=>loopN (evCode P (C f) env H c) ((C f).keep (firstReg c)) n s' k) k)
 |f,_,.g gf :: p,ns,.rangeFunc _ ps a b,k=>(match (P.funcs[gf]?).bind (·.body) with
  |some cg=>atK0 P C env gf { dfr:=false,yk:=roundK (((P.funcs[f]?).map (·.ntmps)).getD 0) ps.toList (evCode P (C f) env .no a) (evCode P (C f) env .no b),rf:=fun _ _ _ _ _ _=>none } p ns cg (inlEnd (((P.funcs[f]?).map (·.ntmps)).getD 0) k)
  |none=>(f,.no,.skip,k))
 |f,H,_,_,c,k=>(f,H,c,k)
noncomputable def atK {β:Type} (P:Program) (C:Nat→Cfg) (env:Env):Nat→Hk β→List Dir→List Nat→Code→Kc β→Nat × Hk β × Code × Kc β
 |f,H,.l :: p,ns,.seq a b,k=>atK P C env f H p ns a (seqK (fun st=>cutK ((C f).cut (firstReg b)) ((C f).keep (firstReg b)) ((C f).fuel (firstReg b)) (evCode P (C f) env H b) st k) k)
 |f,H,.r :: p,ns,.seq _ b,k=>atK P C env f H p ns b k
 |f,H,.l :: p,ns,.cond _ a _,k=>atK P C env f H p ns a k
 |f,H,.r :: p,ns,.cond _ _ b,k=>atK P C env f H p ns b k
 |f,H,.d :: p,ns,.block id c,k=>atK P C env f H p ns c (blkK id k)
 |f,H,.d :: p,ns,.scope c,k=>atK P C env f H p ns c k
 |f,H,.d :: p,n :: ns,.loop c,k=>atK P C env f H p ns c (loopK (fun s=>canonK ((C f).keep (firstReg c)) s fun s'=>loopN (evCode P (C f) env H c) ((C f).keep (firstReg c)) n s' k) k)
 |f,_,.g gf :: p,ns,.rangeFunc _ ps a b,k=>(match (P.funcs[gf]?).bind (·.body) with
  |some cg=>atK P C env gf { dfr:=false,yk:=roundK (((P.funcs[f]?).map (·.ntmps)).getD 0) ps.toList (evCode P (C f) env .no a) (evCode P (C f) env .no b),rf:=fun _ _ _ _ _ _=>none } p ns cg (inlEnd (((P.funcs[f]?).map (·.ntmps)).getD 0) k)
  |none=>(f,.no,.skip,k))
 |f,_,.b gf p1 n i :: p,ns,.rangeFunc _ ps a b,k=>(match P.funcs[gf]? with
  |some fg=>(match fg.body with
   |some cg=>(match atK0 P C env gf { dfr:=false,yk:=roundK (((P.funcs[f]?).map (·.ntmps)).getD 0) ps.toList (evCode P (C f) env .no a) (evCode P (C f) env .no b),rf:=fun _ _ _ _ _ _=>none } p1 (ns.take n) cg (inlEnd (((P.funcs[f]?).map (·.ntmps)).getD 0) k) with
    |(_,H1,.region _ ops false,k1)=>atK P C env f .no p (ns.drop n) b (roundFin fg.ntmps fun t' st' =>
     opsK P (C gf).x env H1.dfr H1.yk nextK ops (ops.toList.drop (i+1)) { st' with tm:=setTm st'.tm ((ops[i]?).bind (·.dst)) (.bool t') } none (fun st=>k1 .normal st) (fun v st=>k1 (.pan v) st))
    |_=>(f,.no,.skip,k))
   |none=>(f,.no,.skip,k))
  |none=>(f,.no,.skip,k))
 |f,H,_,_,c,k=>(f,H,c,k)
noncomputable def atLoop (P:Program) (C:Nat→Cfg) (env:Env) (f:Nat) (p:List Dir) (ns:List Nat) (n:Nat) (st:St):Option Out :=
 match P.funcs[f]? with
 |some fn=>(match fn.body with
  |some c=>(match atK P C env f (hk P C env f) p ns c (endF P C env f fn.results.toList) with
   |(f',H,.loop b,k)=>loopN (evCode P (C f') env H b) ((C f').keep (firstReg b)) n st k
   |(f',H,c,k)=>loopN (fun s _=>evCode P (C f') env H c s k) ((C f').keep (firstReg c)) n st k)
  |none=>none)
 |none=>none
noncomputable def atLoopH (P:Program) (C:Nat→Cfg) (env:Env) (f:Nat) (p:List Dir) (ns:List Nat) (n:Nat) (st:St):Option (Out × List Slot) :=
 match P.funcs[f]? with
 |some fn=>(match fn.body with
  |some c=>(match atK P C env f (hkH P C env f) p ns c (endHF P C env f fn.results.toList) with
   |(f',H,.loop b,k)=>loopN (evCode P (C f') env H b) ((C f').keep (firstReg b)) n st k
   |(f',H,c,k)=>loopN (fun s _=>evCode P (C f') env H c s k) ((C f').keep (firstReg c)) n st k)
  |none=>none)
 |none=>none
def tmL:(n:Nat)→(i:Nat)→List (Nat × V)→List V
 |0,_,_=>[]
 |n+1,i,[]=>.top :: tmL n (i+1) []
 |n+1,i,(j,v) :: r=>bif i==j then v :: tmL n (i+1) r else .top :: tmL n (i+1) ((j,v) :: r)
abbrev pK : V → Option Out := fun p => tkIfc p none fun t x => bif flatP (.iface t x) then some (.pan (.iface t x)) else none
abbrev nK {α : Type} : V → Option α := fun p => tkIfc p none fun t x => bif flatP (.iface t x) then none else none
abbrev nL : V := .row true 0 0 fun _ => []
theorem dT {p : Prop} [Decidable p] (h : p) : decide p = true := decide_eq_true h
theorem dF {p : Prop} [Decidable p] (h : ¬p) : decide p = false := decide_eq_false h
theorem tnC (n : Nat) : Int.toNat (n : Int) = n := Int.toNat_natCast n
theorem ex1 {n : Nat} (h : 0 < n) : ∃ k, n = k + 1 := ⟨n - 1, by omega⟩
end Go.Sim

namespace Go.Sim
def el {R α:Type} (o:Option α) (fail:R) (k:α→R):R:=match o with | some a=>k a | none=>fail
@[simp] theorem el_some {R α:Type} (a:α) (fail:R) (k:α→R):el (some a) fail k=k a:=rfl
@[simp] theorem el_none {R α:Type} (fail:R) (k:α→R):el (none:Option α) fail k=fail:=rfl
theorem tkBool_n (v:V):∃ o:Option Bool,∀ (R:Type) (fail:R) (k:Bool→R),tkBool v fail k=el o fail k:=by
 cases v<;>first | exact⟨some _,fun _ _ _=>rfl⟩ | exact⟨none,fun _ _ _=>rfl⟩
theorem tkInt_n (v:V):∃ o:Option (IntKind × Int),∀ (R:Type) (fail:R) (k:IntKind→Int→R),tkInt v fail k=el o fail fun p=>k p.1 p.2:=by
 cases v<;>first | exact⟨some (_,_),fun _ _ _=>rfl⟩ | exact⟨none,fun _ _ _=>rfl⟩
theorem tkStr_n (v:V):∃ o:Option ByteArray,∀ (R:Type) (fail:R) (k:ByteArray→R),tkStr v fail k=el o fail k:=by
 cases v<;>first | exact⟨some _,fun _ _ _=>rfl⟩ | exact⟨none,fun _ _ _=>rfl⟩
theorem tkByte_n (o:Option UInt8):∃ o':Option UInt8,∀ (R:Type) (fail:R) (k:UInt8→R),tkByte o fail k=el o' fail k:=⟨o,fun _ _ _=>by cases o<;>rfl⟩
theorem tkAgg_n (v:V):∃ o:Option (List V),∀ (R:Type) (fail:R) (k:List V→R),tkAgg v fail k=el o fail k:=by
 cases v<;>first | exact⟨some _,fun _ _ _=>rfl⟩ | exact⟨none,fun _ _ _=>rfl⟩
theorem tkTup_n (v:V):∃ o:Option (List V),∀ (R:Type) (fail:R) (k:List V→R),tkTup v fail k=el o fail k:=by
 cases v<;>first | exact⟨some _,fun _ _ _=>rfl⟩ | exact⟨none,fun _ _ _=>rfl⟩
theorem tkNil_n (l:List V):∃ o:Option Unit,∀ (R:Type) (fail:R) (k:R),tkNil l fail k=el o fail fun _=>k:=by
 cases l<;>first | exact⟨some (),fun _ _ _=>rfl⟩ | exact⟨none,fun _ _ _=>rfl⟩
theorem kdK_n (q:Kd) (v:V):∃ o:Option V,∀ (R:Type) (fail:R) (k:V→R),kdK q v fail k=el o fail k:=by
 cases q<;>cases v<;>first | exact⟨some _,fun _ _ _=>rfl⟩ | exact⟨none,fun _ _ _=>rfl⟩
theorem kdsK_n (qs:List Kd):∀ l:List V,∃ o:Option (List V),∀ (R:Type) (fail:R) (k:List V→R),kdsK qs l fail k=el o fail k:=by
 induction qs with
 |nil=>intro l;cases l<;>first | exact⟨some _,fun _ _ _=>rfl⟩ | exact⟨none,fun _ _ _=>rfl⟩
 |cons q qs ih =>
  intro l
  cases l with
  |nil=>exact⟨none,fun _ _ _=>rfl⟩
  |cons v r =>
   simp only[kdsK,tkCons]
   obtain⟨o,ho⟩:=kdK_n q v
   simp only[ho]
   cases o with
   |none=>exact⟨none,fun _ _ _=>rfl⟩
   |some v' =>
    obtain⟨o2,h2⟩:=ih r
    simp only[el_some,h2]
    cases o2 with
    |none=>exact⟨none,fun _ _ _=>rfl⟩
    |some r'=>exact⟨some _,fun _ _ _=>rfl⟩
theorem tyK_n (P:Program) (t:TypeId) (v:V):∃ o:Option V,∀ (R:Type) (fail:R) (k:V→R),tyK P t v fail k=el o fail k:=by
 have hagg:∃ o:Option V,∀ (R:Type) (fail:R) (k:V→R),(tkAgg v fail fun cs=>kdsK (kdsOf P 12 t) cs fail fun cs'=>k (.agg cs'))=el o fail k:=by
  obtain⟨o,ho⟩:=tkAgg_n v
  simp only[ho]
  cases o with
  |none=>exact⟨none,fun _ _ _=>rfl⟩
  |some cs =>
   obtain⟨o2,h2⟩:=kdsK_n (kdsOf P 12 t) cs
   simp only[el_some,h2]
   cases o2 with
   |none=>exact⟨none,fun _ _ _=>rfl⟩
   |some r'=>exact⟨some _,fun _ _ _=>rfl⟩
 unfold tyK
 cases P.underlying t with
 |none=>exact⟨none,fun _ _ _=>rfl⟩
 |some x =>
  cases x with
  |struct fs=>exact hagg
  |array n e=>exact hagg
  |_=>exact kdK_n _ v
theorem tysK_n (P:Program) (ts:List TypeId):∀ l:List V,∃ o:Option (List V),∀ (R:Type) (fail:R) (k:List V→R),tysK P ts l fail k=el o fail k:=by
 induction ts with
 |nil=>intro l;cases l<;>first | exact⟨some _,fun _ _ _=>rfl⟩ | exact⟨none,fun _ _ _=>rfl⟩
 |cons q qs ih =>
  intro l
  cases l with
  |nil=>exact⟨none,fun _ _ _=>rfl⟩
  |cons v r =>
   simp only[tysK,tkCons]
   obtain⟨o,ho⟩:=tyK_n P q v
   simp only[ho]
   cases o with
   |none=>exact⟨none,fun _ _ _=>rfl⟩
   |some v' =>
    obtain⟨o2,h2⟩:=ih r
    simp only[el_some,h2]
    cases o2 with
    |none=>exact⟨none,fun _ _ _=>rfl⟩
    |some r'=>exact⟨some _,fun _ _ _=>rfl⟩
theorem szK_n (P:Program) (t:TypeId):∃ o:Option Nat,∀ (R:Type) (fail:R) (k:Nat→R),szK P t fail k=el o fail k:=by
 unfold szK;cases P.info? t<;>first | exact⟨some _,fun _ _ _=>rfl⟩ | exact⟨none,fun _ _ _=>rfl⟩
theorem byK_n (P:Program) (t:TypeId):∃ o:Option Nat,∀ (R:Type) (fail:R) (k:Nat→R),byK P t fail k=el o fail k:=by
 unfold byK;cases P.info? t<;>first | exact⟨some _,fun _ _ _=>rfl⟩ | exact⟨none,fun _ _ _=>rfl⟩
theorem bif_n {α:Type} (b:Bool) {F G:(R:Type)→R→(α→R)→R} (hF:∃ o:Option α,∀ (R:Type) (fail:R) (k:α→R),F R fail k=el o fail k) (hG:∃ o:Option α,∀ (R:Type) (fail:R) (k:α→R),G R fail k=el o fail k) :
 ∃ o:Option α,∀ (R:Type) (fail:R) (k:α→R),(bif b then F R fail k else G R fail k)=el o fail k:=by
 cases b
 ·exact hG
 ·exact hF
theorem no_n {α:Type}:∃ o:Option α,∀ (R:Type) (fail:R) (k:α→R),fail=el o fail k:=⟨none,fun _ _ _=>rfl⟩
theorem yes_n {α:Type} (a:α):∃ o:Option α,∀ (R:Type) (fail:R) (k:α→R),k a=el o fail k:=⟨some a,fun _ _ _=>rfl⟩
theorem zeroK_n (P:Program) (t:TypeId):∃ o:Option (List V),∀ (R:Type) (fail:R) (k:List V→R),zeroK P t fail k=el o fail k:=by
 unfold zeroK
 cases P.info? t with
 |none=>exact no_n
 |some i =>
  simp only[]
  cases i.zero with
  |none=>exact no_n
  |some z =>
   simp only[]
   cases ofValue z with
   |agg cs=>exact bif_n _ (bif_n _ (yes_n _) no_n) no_n
   |_=>exact bif_n _ (bif_n _ (yes_n _) no_n) no_n
theorem cellsK_n (P:Program) (t:TypeId) (v:V):∃ o:Option (List V),∀ (R:Type) (fail:R) (k:List V→R),cellsK P t v fail k=el o fail k:=by
 unfold cellsK szK
 cases P.info? t with
 |none=>exact no_n
 |some i =>
  refine bif_n _ ?_ (bif_n _ (bif_n _ (yes_n _) no_n) no_n)
  cases v with
  |agg cs=>exact bif_n _ (bif_n _ (yes_n _) no_n) no_n
  |_=>exact no_n
theorem partK_n (P:Program) (t:TypeId) (cs:List V):∃ o:Option V,∀ (R:Type) (fail:R) (k:V→R),partK P t cs fail k=el o fail k:=by
 unfold partK szK
 cases P.info? t with
 |none=>exact no_n
 |some i =>
  refine bif_n _ (bif_n _ (yes_n _) no_n) (bif_n _ ?_ no_n)
  cases cs with
  |nil=>exact no_n
  |cons c _=>exact yes_n c
theorem mapK_n {f:{R:Type}→V→R→(V→List Nat→R)→R}
 (hf:∀ v:V,∃ o:Option (V × List Nat),∀ (R:Type) (fail:R) (k:V→List Nat→R),f v fail k=el o fail fun p=>k p.1 p.2) :
 ∀ l:List V,∃ o:Option (List V × List Nat),∀ (R:Type) (fail:R) (k:List V→List Nat→R),mapK f l fail k=el o fail fun p=>k p.1 p.2:=by
 intro l
 induction l with
 |nil=>exact⟨some (_,_),fun _ _ _=>rfl⟩
 |cons v r ih =>
  simp only[mapK]
  obtain⟨o,ho⟩:=hf v
  simp only[ho]
  cases o with
  |none=>exact⟨none,fun _ _ _=>rfl⟩
  |some p =>
   obtain⟨o2,h2⟩:=ih
   simp only[el_some,h2]
   cases o2 with
   |none=>exact⟨none,fun _ _ _=>rfl⟩
   |some q=>exact⟨some (_,_),fun _ _ _=>rfl⟩
theorem closeK_n (hp:List Slot) (d:Nat):∀ v:V,∃ o:Option (V × List Nat),∀ (R:Type) (fail:R) (k:V→List Nat→R),closeK hp d v fail k=el o fail fun p=>k p.1 p.2:=by
 induction d with
 |zero=>intro v;exact⟨none,fun _ _ _=>by cases v<;>rfl⟩
 |succ d ih =>
  intro v
  have hm:=mapK_n (f:=fun {R} v fail k=>closeK hp d v fail k) ih
  have h1:∀ (cs:List V) (F:List V→List Nat→V × List Nat),∃ o:Option (V × List Nat),∀ (R:Type) (fail:R) (k:V→List Nat→R),(mapK (closeK hp d) cs fail fun a b=>k (F a b).1 (F a b).2)=el o fail fun p=>k p.1 p.2:=by
   intro cs F
   obtain⟨o,ho⟩:=hm cs
   cases o with
   |none=>exact⟨none,fun R fail k=>ho R fail _⟩
   |some p=>exact⟨some (F p.1 p.2),fun R fail k=>ho R fail _⟩
  cases v with
  |optr b i off =>
   simp only[closeK]
   split
   ·rename_i e cs wr _
    exact h1 cs fun cs' l=>(.rptr 1 cs'.length (fun _=>cs') i off,b :: l)
   ·exact⟨some (_,_),fun _ _ _=>rfl⟩
   ·exact⟨none,fun _ _ _=>rfl⟩
  |osl b lo n =>
   simp only[closeK]
   split
   ·exact⟨some (_,_),fun _ _ _=>rfl⟩
   ·rename_i e cs wr _
    cases lo==0 && n==1 with
    |true=>exact h1 cs fun cs' l=>(.row false 1 cs'.length (fun _=>cs'),b :: l)
    |false=>exact⟨none,fun _ _ _=>rfl⟩
   ·exact⟨none,fun _ _ _=>rfl⟩
  |agg cs=>exact h1 cs fun cs' l=>(.agg cs',l)
  |tup cs=>exact h1 cs fun cs' l=>(.tup cs',l)
  |fn f a b =>
   simp only[closeK]
   obtain⟨o,ho⟩:=hm a
   cases o with
   |none=>exact⟨none,fun R fail k=>ho R fail _⟩
   |some p =>
    obtain⟨o2,h2⟩:=hm b
    cases o2 with
    |none=>exact⟨none,fun R fail k=>(ho R fail _).trans (h2 R fail _)⟩
    |some q=>exact⟨some (.fn f p.1 q.1,p.2 ++ q.2),fun R fail k=>(ho R fail _).trans (h2 R fail _)⟩
  |iface t x =>
   simp only[closeK]
   obtain⟨o,ho⟩:=ih x
   cases o with
   |none=>exact⟨none,fun R fail k=>ho R fail _⟩
   |some p=>exact⟨some (.iface t p.1,p.2),fun R fail k=>ho R fail _⟩
  |top=>exact⟨none,fun _ _ _=>rfl⟩
  |undef=>exact⟨none,fun _ _ _=>rfl⟩
  |yld _=>exact⟨none,fun _ _ _=>rfl⟩
  |mapr _=>exact⟨none,fun _ _ _=>rfl⟩
  |itr _=>exact⟨none,fun _ _ _=>rfl⟩
  |blk _=>exact⟨none,fun _ _ _=>rfl⟩
  |psl b off n =>
   simp only[closeK]
   split
   ·rename_i e cs wr _
    cases Nat.beq off 0 && Nat.beq cs.length n with
    |true=>exact h1 cs fun cs' l=>(.row false n 1 (rowGet1 cs'),b :: l)
    |false=>exact⟨none,fun _ _ _=>rfl⟩
   ·exact⟨none,fun _ _ _=>rfl⟩
  |wsl _ _ _=>exact⟨none,fun _ _ _=>rfl⟩
  |wptr _ _ _ _=>exact⟨none,fun _ _ _=>rfl⟩
  |_=>exact⟨some (_,_),fun _ _ _=>rfl⟩
theorem bind_n {α β:Type} {F:(R:Type)→R→(α→R)→R} {G:α→(R:Type)→R→(β→R)→R} (hF:∃ o:Option α,∀ (R:Type) (fail:R) (k:α→R),F R fail k=el o fail k)
 (hG:∀ a,∃ o:Option β,∀ (R:Type) (fail:R) (k:β→R),G a R fail k=el o fail k) :
 ∃ o:Option β,∀ (R:Type) (fail:R) (k:β→R),F R fail (fun a=>G a R fail k)=el o fail k:=by
 obtain⟨o,ho⟩:=hF
 cases o with
 |none=>exact⟨none,fun R fail k=>ho R fail _⟩
 |some a =>
  obtain⟨o2,h2⟩:=hG a
  exact⟨o2,fun R fail k=>(ho R fail _).trans (h2 R fail k)⟩
theorem bind2xn {α γ β:Type} {F:(R:Type)→R→(α→γ→R)→R} {G:α→γ→(R:Type)→R→(β→R)→R} (hF:∃ o:Option (α × γ),∀ (R:Type) (fail:R) (k:α→γ→R),F R fail k=el o fail fun p=>k p.1 p.2)
 (hG:∀ a c,∃ o:Option β,∀ (R:Type) (fail:R) (k:β→R),G a c R fail k=el o fail k) :
 ∃ o:Option β,∀ (R:Type) (fail:R) (k:β→R),F R fail (fun a c=>G a c R fail k)=el o fail k:=by
 obtain⟨o,ho⟩:=hF
 cases o with
 |none=>exact⟨none,fun R fail k=>ho R fail _⟩
 |some p =>
  obtain⟨o2,h2⟩:=hG p.1 p.2
  exact⟨o2,fun R fail k=>(ho R fail _).trans (h2 R fail k)⟩
abbrev Eff:=V × List (Nat × Slot) × List Nat
def NatOp (F:(R:Type)→R→KOp R→R):Prop:=∃ o:Option Eff,∀ (R:Type) (fail:R) (k:KOp R),F R fail k=el o fail fun p=>k p.1 p.2.1 p.2.2
theorem NatOp.no:NatOp fun _ fail _=>fail:=⟨none,fun _ _ _=>rfl⟩
theorem NatOp.yes (v:V) (ws:List (Nat × Slot)) (rd:List Nat):NatOp fun _ _ k=>k v ws rd:=⟨some (v,ws,rd),fun _ _ _=>rfl⟩
theorem NatOp.bif (b:Bool) {F G:(R:Type)→R→KOp R→R} (hF:NatOp F) (hG:NatOp G):NatOp fun R fail k=>bif b then F R fail k else G R fail k:=by
 cases b
 ·exact hG
 ·exact hF
theorem NatOp.bind {α:Type} {F:(R:Type)→R→(α→R)→R} {G:α→(R:Type)→R→KOp R→R} (hF:∃ o:Option α,∀ (R:Type) (fail:R) (k:α→R),F R fail k=el o fail k)
 (hG:∀ a,NatOp (G a)):NatOp fun R fail k=>F R fail fun a=>G a R fail k:=by
 obtain⟨o,ho⟩:=hF
 cases o with
 |none=>exact⟨none,fun R fail k=>ho R fail _⟩
 |some a =>
  obtain⟨o2,h2⟩:=hG a
  exact⟨o2,fun R fail k=>(ho R fail _).trans (h2 R fail k)⟩
theorem NatOp.bind2 {α γ:Type} {F:(R:Type)→R→(α→γ→R)→R} {G:α→γ→(R:Type)→R→KOp R→R} (hF:∃ o:Option (α × γ),∀ (R:Type) (fail:R) (k:α→γ→R),F R fail k=el o fail fun p=>k p.1 p.2)
 (hG:∀ a c,NatOp (G a c)):NatOp fun R fail k=>F R fail fun a c=>G a c R fail k:=by
 obtain⟨o,ho⟩:=hF
 cases o with
 |none=>exact⟨none,fun R fail k=>ho R fail _⟩
 |some a =>
  obtain⟨o2,h2⟩:=hG a.1 a.2
  exact⟨o2,fun R fail k=>(ho R fail _).trans (h2 R fail k)⟩
theorem NatOp.bind3 {α γ δ:Type} {F:(R:Type)→R→(α→γ→δ→R)→R} {G:α→γ→δ→(R:Type)→R→KOp R→R} (hF:∃ o:Option (α × γ × δ),∀ (R:Type) (fail:R) (k:α→γ→δ→R),F R fail k=el o fail fun p=>k p.1 p.2.1 p.2.2)
 (hG:∀ a c d,NatOp (G a c d)):NatOp fun R fail k=>F R fail fun a c d=>G a c d R fail k:=by
 obtain⟨o,ho⟩:=hF
 cases o with
 |none=>exact⟨none,fun R fail k=>ho R fail _⟩
 |some a =>
  obtain⟨o2,h2⟩:=hG a.1 a.2.1 a.2.2
  exact⟨o2,fun R fail k=>(ho R fail _).trans (h2 R fail k)⟩
theorem loadK_n (P:Program) (hp:List Slot) (t:TypeId) (a:V):NatOp fun _ fail k=>loadK P hp t a fail k:=by
 unfold loadK
 cases a with
 |optr b i off =>
  simp only[]
  cases hp.getD b .free with
  |box e cs wr=>exact NatOp.bind (F:=fun _ f k=>partK P t (cs.drop off) f k) (partK_n ..) fun v=>NatOp.yes ..
  |arr e wd len get wr=>exact NatOp.bind (F:=fun _ f k=>partK P t ((get i).drop off) f k) (partK_n ..) fun v=>NatOp.bind (F:=fun _ f k=>tyK P t v f k) (tyK_n ..) fun v'=>NatOp.yes ..
  |_=>exact NatOp.no
 |wptr b i off wd =>
  simp only[]
  cases hp.getD b .free with
  |win e wd' len get wr=>exact NatOp.bif _ (NatOp.bind (F:=fun _ f k=>partK P t ((get i).drop off) f k) (partK_n ..) fun v=>NatOp.bind (F:=fun _ f k=>tyK P t v f k) (tyK_n ..) fun v'=>NatOp.yes ..) NatOp.no
  |_=>exact NatOp.no
 |rptr len wd get i off=>exact NatOp.bind (F:=fun _ f k=>partK P t ((get i).drop off) f k) (partK_n ..) fun v=>NatOp.bind (F:=fun _ f k=>tyK P t v f k) (tyK_n ..) fun v'=>NatOp.yes ..
 |_=>exact NatOp.no
theorem storeK_n (P:Program) (hp:List Slot) (t:TypeId) (a x:V):NatOp fun _ fail k=>storeK P hp t a x fail k:=by
 unfold storeK
 cases a with
 |optr b i off =>
  simp only[]
  cases hp.getD b .free with
  |box e cs wr=>cases wr with
   |false=>exact NatOp.no
   |true=>exact NatOp.bind (F:=fun _ f k=>cellsK P t x f k) (cellsK_n ..) fun new=>NatOp.bif _ (NatOp.yes ..) NatOp.no
  |arr e wd len get wr=>cases wr with
   |false=>exact NatOp.no
   |true =>
    refine NatOp.bind2 (F:=fun _ f k=>closeK hp closeD x f k) (closeK_n ..) fun x' l=>?_
    cases l with
    |nil=>exact NatOp.bind (F:=fun _ f k=>cellsK P t x' f k) (cellsK_n ..) fun new=>NatOp.bif _ (NatOp.yes ..) NatOp.no
    |cons y l=>exact NatOp.no
  |buf e wd len get =>
   refine NatOp.bind2 (F:=fun _ f k=>closeK hp closeD x f k) (closeK_n ..) fun x' l=>?_
   cases l with
   |nil=>exact NatOp.bind (F:=fun _ f k=>cellsK P t x' f k) (cellsK_n ..) fun new=>NatOp.bif _ (NatOp.yes ..) NatOp.no
   |cons y l=>exact NatOp.no
  |_=>exact NatOp.no
 |_=>exact NatOp.no
theorem srcK_n (hp:List Slot) (wd:Nat) (x:V):∃ o:Option (Nat × (Nat→List V) × List Nat),∀ (R:Type) (fail:R) (k:Nat→(Nat→List V)→List Nat→R),srcK hp wd x fail k=el o fail fun p=>k p.1 p.2.1 p.2.2:=by
 unfold srcK
 cases x with
 |osl b lo n =>
  simp only[]
  cases hp.getD b .free with
  |arr e wd' len get wr =>
   cases hw:wd'==wd with
   |false=>exact⟨none,fun _ _ _=>by simp only[hw];rfl⟩
   |true=>exact⟨some (_,_,_),fun _ _ _=>by simp only[hw];rfl⟩
  |buf e wd' len get =>
   cases hw:wd'==wd with
   |false=>exact⟨none,fun _ _ _=>by simp only[hw];rfl⟩
   |true=>exact⟨some (_,_,_),fun _ _ _=>by simp only[hw];rfl⟩
  |_=>exact⟨none,fun _ _ _=>rfl⟩
 |wsl b n wd0 =>
  simp only[]
  cases hp.getD b .free with
  |win e wd' len get wr =>
   cases hw:(Nat.beq wd' wd && Nat.beq wd0 wd) && Nat.ble n len with
   |false=>exact⟨none,fun _ _ _=>by simp only[hw];rfl⟩
   |true=>exact⟨some (_,_,_),fun _ _ _=>by simp only[hw];rfl⟩
  |_=>exact⟨none,fun _ _ _=>rfl⟩
 |row nl n wd' get =>
  cases nl with
  |true=>exact⟨some (_,_,_),fun _ _ _=>rfl⟩
  |false=>simp only[];cases hw:wd'==wd<;>first | exact⟨some (_,_,_),fun _ _ _=>rfl⟩ | exact⟨none,fun _ _ _=>rfl⟩
 |_=>exact⟨none,fun _ _ _=>rfl⟩
theorem appTail_n (hp:List Slot) (fr e wd by_:Nat) (s:V) (m:Nat) (get2:Nat→List V) (l2:List Nat):NatOp fun _ fail k=>appTail hp fr e wd by_ s m get2 l2 fail k:=by
 unfold appTail
 refine NatOp.bif _ (by split<;>first | exact NatOp.yes .. | exact NatOp.no) ?_
 split
 ·exact NatOp.bif _ (NatOp.yes ..) NatOp.no
 ·rename_i b n
  split
  ·exact NatOp.bif _ (NatOp.bif _ (NatOp.bif _ (NatOp.bif _ NatOp.no (NatOp.yes ..)) NatOp.no) NatOp.no) NatOp.no
  ·exact NatOp.no
 ·rename_i b n wd0
  split
  ·exact NatOp.bif _ (NatOp.bif _ (NatOp.bif _ NatOp.no (NatOp.yes ..)) NatOp.no) NatOp.no
  ·exact NatOp.no
 ·exact NatOp.no
theorem appendK_n (P:Program) (hp:List Slot) (fr:Nat) (t:TypeId) (s x:V):NatOp fun _ fail k=>appendK P hp fr t s x fail k:=by
 unfold appendK
 cases P.underlying t with
 |none=>exact NatOp.no
 |some d =>
  cases d with
  |slice e =>
   refine NatOp.bind (F:=fun _ f k=>szK P e f k) (szK_n ..) fun wd=>NatOp.bind (F:=fun _ f k=>byK P e f k) (byK_n ..) fun by_=>NatOp.bind (F:=fun _ f k=>zeroK P e f k) (zeroK_n ..) fun _=>NatOp.bif _ NatOp.no (NatOp.bif _ NatOp.no ?_)
   exact NatOp.bind3 (F:=fun _ f k=>srcK hp wd x f k) (srcK_n ..) fun m get2 l2=>appTail_n ..
  |_=>exact NatOp.no
theorem partsK_n (hp:List Slot):∀ l:List (Nat × V),∃ o:Option (List (Nat × V) × List Nat),∀ (R:Type) (fail:R) (k:List (Nat × V)→List Nat→R),partsK hp l fail k=el o fail fun p=>k p.1 p.2:=by
 intro l
 induction l with
 |nil=>exact⟨some (_,_),fun _ _ _=>rfl⟩
 |cons x r ih =>
  obtain⟨i,v⟩:=x
  simp only[partsK]
  obtain⟨o,ho⟩:=closeK_n hp closeD v
  simp only[ho]
  cases o with
  |none=>exact⟨none,fun _ _ _=>rfl⟩
  |some p =>
   obtain⟨o3,h3⟩:=ih
   simp only[el_some,h3]
   cases o3 with
   |none=>exact⟨none,fun _ _ _=>rfl⟩
   |some q=>exact⟨some (_,_),fun _ _ _=>rfl⟩
theorem placesK_n (P:Program) (fs:List Field):∃ o:Option (List (Nat × Nat)),∀ (R:Type) (fail:R) (k:List (Nat × Nat)→R),placesK P fs fail k=el o fail k:=by
 unfold placesK;cases placesOf P fs<;>first | exact⟨some _,fun _ _ _=>rfl⟩ | exact⟨none,fun _ _ _=>rfl⟩
theorem fieldK_n (P:Program) (s:TypeId) (f:Nat):∃ o:Option Field,∀ (R:Type) (fail:R) (k:Field→R),fieldK P s f fail k=el o fail k:=by
 unfold fieldK
 cases P.underlying s with
 |none=>exact no_n
 |some d=>cases d with
  |struct fs=>simp only[];cases fs[f]? with
   |none=>exact no_n
   |some x=>exact yes_n x
  |_=>exact no_n
theorem fillK_n (pl:List (Nat × Nat)):∀ (l:List (Nat × V)) (cs:List V),∃ o:Option (List V),∀ (R:Type) (fail:R) (k:List V→R),fillK pl cs l fail k=el o fail k:=by
 intro l
 induction l with
 |nil=>intro cs;exact yes_n cs
 |cons x r ih =>
  obtain⟨i,v⟩:=x
  intro cs
  simp only[fillK]
  cases pl[i]? with
  |none=>exact no_n
  |some f =>
   obtain⟨off,n⟩:=f
   cases v with
   |agg vs=>exact bif_n _ (bif_n _ (bif_n _ (ih _) no_n) no_n) no_n
   |_=>exact bif_n _ (bif_n _ (bif_n _ (ih _) no_n) no_n) no_n
theorem boundK_n (o:Option V) (d:Nat):∃ o':Option Nat,∀ (R:Type) (fail:R) (k:Nat→R),boundK o d fail k=el o' fail k:=by
 unfold boundK
 cases o with
 |none=>exact yes_n d
 |some v=>exact bind2xn (F:=fun _ f k=>tkInt v f k) (tkInt_n v) fun _ i=>bif_n _ (yes_n _) no_n
theorem sliceK_n (hp:List Slot) (fr sz:Nat) (x:V) (lo hi:Option V):NatOp fun _ fail k=>sliceK hp fr sz x lo hi fail k:=by
 unfold sliceK
 cases x with
 |row nl n wd get=>exact NatOp.bif _ (NatOp.bind (F:=fun _ f k=>boundK hi n f k) (boundK_n ..) fun h=>NatOp.bind (F:=fun _ f k=>boundK lo 0 f k) (boundK_n ..) fun l=>NatOp.bif _ (NatOp.bif _ (NatOp.yes ..) NatOp.no) NatOp.no) NatOp.no
 |osl b s n =>
  refine NatOp.bind (F:=fun _ f k=>boundK hi n f k) (boundK_n ..) fun h=>NatOp.bind (F:=fun _ f k=>boundK lo 0 f k) (boundK_n ..) fun l=>NatOp.bif _ (NatOp.bif _ (NatOp.yes ..) NatOp.no) ?_
  split
  ·exact NatOp.bif _ (NatOp.yes ..) NatOp.no
  ·exact NatOp.no
 |wsl b n wd0 =>
  refine NatOp.bind (F:=fun _ f k=>boundK hi n f k) (boundK_n ..) fun h=>NatOp.bind (F:=fun _ f k=>boundK lo 0 f k) (boundK_n ..) fun l=>?_
  split
  ·exact NatOp.bif _ (NatOp.yes ..) NatOp.no
  ·exact NatOp.no
 |_=>exact NatOp.no
theorem sliceStrK_n (x:V) (lo hi:Option V):NatOp fun _ fail k=>sliceStrK x lo hi fail k:=by
 unfold sliceStrK
 cases x with
 |str s=>exact NatOp.bind (F:=fun _ f k=>boundK hi s.size f k) (boundK_n ..) fun h=>NatOp.bind (F:=fun _ f k=>boundK lo 0 f k) (boundK_n ..) fun l=>NatOp.bif _ (NatOp.bif _ (NatOp.yes ..) NatOp.no) NatOp.no
 |_=>exact NatOp.no
theorem sliceArrK_n (P:Program) (n:Nat) (el:TypeId) (x:V) (lo hi:Option V):NatOp fun _ fail k=>sliceArrK P n el x lo hi fail k:=by
 unfold sliceArrK
 split
 ·exact NatOp.bind (F:=fun _ f k=>szK P _ f k) (szK_n ..) fun _=>NatOp.yes ..
 ·exact NatOp.no
theorem mixCells_n (c:Bool):∀ l old:List V,∃ o:Option (List V),∀ (R:Type) (fail:R) (k:List V→R),mixCells c l old fail k=el o fail k
 |[],old=>by cases old<;>first | exact⟨some _,fun _ _ _=>rfl⟩ | exact⟨none,fun _ _ _=>rfl⟩
 |v :: r,[]=>⟨none,fun _ _ _=>rfl⟩
 |v :: r,u :: old=>by
  simp only[mixCells,tkCons]
  exact bind2xn (F:=fun _ f k=>tkInt v f k) (tkInt_n v) fun q a=>bind2xn (F:=fun _ f k=>tkInt u f k) (tkInt_n u) fun q' b=>bif_n _ (bind_n (F:=fun _ f k=>mixCells c r old f k) (mixCells_n c r old) fun l=>yes_n _) no_n
theorem mixRows_n (wd m:Nat) (get:Nat→List V) (old:List V):∀ n i:Nat,∃ o:Option (List V),∀ (R:Type) (fail:R) (k:List V→R),mixRows wd m get old n i fail k=el o fail k
 |0,_=>⟨some _,fun _ _ _=>rfl⟩
 |n+1,i=>by
  simp only[mixRows]
  exact bind_n (F:=fun _ f k=>mixCells (decide (i<m)) (get i) ((old.drop (i*wd)).take wd) f k) (mixCells_n ..) fun l=>bind_n (F:=fun _ f k=>mixRows wd m get old n (i+1) f k) (mixRows_n wd m get old n (i+1)) fun r=>yes_n _
theorem copyK_n (P:Program) (hp:List Slot) (t:TypeId) (s x:V):NatOp fun _ fail k=>copyK P hp t s x fail k:=by
 unfold copyK
 split
 ·refine NatOp.bind (F:=fun _ f k=>szK P _ f k) (szK_n ..) fun wd=>NatOp.bif _ NatOp.no (NatOp.bind3 (F:=fun _ f k=>srcK hp wd x f k) (srcK_n ..) fun m get l=>?_)
  split
  ·exact NatOp.bif _ NatOp.no (NatOp.bif _ (NatOp.bind (F:=fun _ f k=>mixRows wd m get _ _ 0 f k) (mixRows_n ..) fun new=>NatOp.yes ..) NatOp.no)
  ·exact NatOp.no
 ·exact NatOp.no
theorem resultK_n (P:Program) (ts:List TypeId) (v:V):∃ o:Option V,∀ (R:Type) (fail:R) (k:V→R),resultK P ts v fail k=el o fail k:=by
 unfold resultK
 split
 ·refine bind_n (F:=fun _ f k=>tkTup v f k) (tkTup_n v) fun cs=>?_
  cases cs with
  |nil=>exact yes_n _
  |cons c cs=>exact no_n
 ·exact tyK_n ..
 ·exact bind_n (F:=fun _ f k=>tkTup v f k) (tkTup_n v) fun cs=>bind_n (F:=fun _ f k=>tysK P ts cs f k) (tysK_n ..) fun _=>yes_n _
def NatP (F:(R:Type)→R→KOp R→(V→R)→R):Prop :=
 (∃ o:Option Eff,∀ (R:Type) (fail:R) (k:KOp R) (kp:V→R),F R fail k kp=el o fail fun p=>k p.1 p.2.1 p.2.2)∨(∃ v:V,∀ (R:Type) (fail:R) (k:KOp R) (kp:V→R),F R fail k kp=kp v)
theorem NatP.of {F:(R:Type)→R→KOp R→R} (h:NatOp F):NatP fun R fail k _=>F R fail k:=let ⟨o,ho⟩:=h;.inl ⟨o,fun R fail k _=>ho R fail k⟩
theorem NatP.no:NatP fun _ fail _ _=>fail:=NatP.of NatOp.no
theorem NatP.yes (v:V) (ws:List (Nat × Slot)) (rd:List Nat):NatP fun _ _ k _=>k v ws rd:=NatP.of (NatOp.yes v ws rd)
theorem NatP.bif (b:Bool) {F G:(R:Type)→R→KOp R→(V→R)→R} (hF:NatP F) (hG:NatP G):NatP fun R fail k kp=>bif b then F R fail k kp else G R fail k kp:=by
 cases b
 ·exact hG
 ·exact hF
theorem NatP.bind {α:Type} {F:(R:Type)→R→(α→R)→R} {G:α→(R:Type)→R→KOp R→(V→R)→R} (hF:∃ o:Option α,∀ (R:Type) (fail:R) (k:α→R),F R fail k=el o fail k)
 (hG:∀ a,NatP (G a)):NatP fun R fail k kp=>F R fail fun a=>G a R fail k kp:=by
 obtain⟨o,ho⟩:=hF
 cases o with
 |none=>exact .inl ⟨none,fun R fail k kp=>ho R fail _⟩
 |some a =>
  rcases hG a with⟨o2,h2⟩ | ⟨v,hv⟩
  ·exact .inl ⟨o2,fun R fail k kp=>(ho R fail _).trans (h2 R fail k kp)⟩
  ·exact .inr ⟨v,fun R fail k kp=>(ho R fail _).trans (hv R fail k kp)⟩
theorem NatP.bind2 {α γ:Type} {F:(R:Type)→R→(α→γ→R)→R} {G:α→γ→(R:Type)→R→KOp R→(V→R)→R} (hF:∃ o:Option (α × γ),∀ (R:Type) (fail:R) (k:α→γ→R),F R fail k=el o fail fun p=>k p.1 p.2)
 (hG:∀ a c,NatP (G a c)):NatP fun R fail k kp=>F R fail fun a c=>G a c R fail k kp:=by
 obtain⟨o,ho⟩:=hF
 cases o with
 |none=>exact .inl ⟨none,fun R fail k kp=>ho R fail _⟩
 |some a =>
  rcases hG a.1 a.2 with⟨o2,h2⟩ | ⟨v,hv⟩
  ·exact .inl ⟨o2,fun R fail k kp=>(ho R fail _).trans (h2 R fail k kp)⟩
  ·exact .inr ⟨v,fun R fail k kp=>(ho R fail _).trans (hv R fail k kp)⟩
theorem capK_n (P:Program):∀ (ts:List TypeId) (l:List V),∃ o:Option (List V),∀ (R:Type) (fail:R) (k:List V→R),capK P ts l fail k=el o fail k
 |[],l=>by cases l<;>first | exact⟨some _,fun _ _ _=>rfl⟩ | exact⟨none,fun _ _ _=>rfl⟩
 |t :: ts,[]=>⟨none,fun _ _ _=>rfl⟩
 |t :: ts,v :: r=>by
  simp only[capK,tkCons]
  cases v with
  |rptr len wd get i off =>
   simp only[tkPtr]
   refine bind_n (F:=fun _ f k=>szK P t f k) (szK_n ..) fun n=>bif_n _ ?_ no_n
   refine bif_n _ ?_ ?_
   ·refine bind_n (F:=fun _ f k=>tyK P t (.agg (get 0)) f k) (tyK_n ..) fun v'=>bind_n (F:=fun _ f k=>tkAgg v' f k) (tkAgg_n _) fun cs=>bind_n (F:=fun _ f k=>capK P ts r f k) (capK_n P ts r) fun r'=>yes_n _
   ·cases get 0 with
    |nil=>exact no_n
    |cons c r0 =>
     cases r0 with
     |nil =>
      show ∃ o:Option (List V),∀ (R:Type) (fail:R) (k:List V→R),(tyK P t c fail fun c'=>capK P ts r fail fun r'=>k (V.rptr 1 n (fun _=>[c']) 0 0 :: r'))=el o fail k
      exact bind_n (F:=fun _ f k=>tyK P t c f k) (tyK_n ..) fun c'=>bind_n (F:=fun _ f k=>capK P ts r f k) (capK_n P ts r) fun r'=>yes_n _
     |cons=>exact no_n
  |_=>exact no_n
theorem resFK_n (P:Program) (fT:TypeId→Option (Nat × List TypeId)) (ts:List TypeId) (v:V):∃ o:Option V,∀ (R:Type) (fail:R) (k:V→R),resFK P fT ts v fail k=el o fail k:=by
 unfold resFK
 split
 ·split
  ·rename_i g us _
   refine bif_n _ no_n ?_
   cases v with
   |fn f a b =>
    cases f with
    |func g' =>
     show ∃ o:Option V,∀ (R:Type) (fail:R) (k:V→R),(bif Nat.beq g' g then tkNil a fail (capK P us b fail fun b'=>k (V.fn (Fn.func g) [] b')) else fail)=el o fail k
     refine bif_n _ ?_ no_n
     cases a with
     |nil=>exact bind_n (F:=fun _ f k=>capK P us b f k) (capK_n ..) fun b'=>yes_n _
     |cons x a=>exact no_n
    |_=>exact no_n
   |_=>exact no_n
  ·exact resultK_n ..
 ·exact resultK_n ..
theorem callK_n (P:Program) (fT:TypeId→Option (Nat × List TypeId)) (env:Env) (hp:List Slot) (f:V) (args:List V):NatP fun _ fail k kp=>callK P fT env hp f args fail k kp:=by
 unfold callK
 split
 ·rename_i g first cap
  refine NatP.bind2 (F:=fun _ f k=>mapK (closeK hp closeD) (first ++ args ++ cap) f k) (mapK_n (f:=fun {R} v fail k=>closeK hp closeD v fail k) (closeK_n hp closeD) _) fun args' l=>?_
  cases P.funcs[g]? with
  |none=>exact NatP.no
  |some fn =>
   simp only[]
   cases env.pf g args' with
   |none=>exact NatP.no
   |some o =>
    cases o with
    |pan v =>
     cases v with
     |iface t x=>exact NatP.bif (flatP (.iface t x)) (.inr ⟨.iface t x,fun _ _ _ _=>rfl⟩) NatP.no
     |_=>exact NatP.no
    |ret v =>
     cases l with
     |nil=>exact NatP.of (NatOp.bind (F:=fun _ f k=>resFK P fT fn.resultTypes.toList v f k) (G:=fun v' _ _ k=>k v' [] []) (resFK_n ..) fun v'=>NatOp.yes ..)
     |cons x l=>exact NatP.of (NatOp.bind (F:=fun _ f k=>resFK P fT fn.resultTypes.toList v f k) (G:=fun v' _ _ k=>bif flatTs P fn.resultTypes.toList then k v' [] (x :: l) else k v' (freeze hp (x :: l)) (x :: l)) (resFK_n ..) fun v'=>NatOp.bif _ (NatOp.yes ..) (NatOp.yes ..))
 ·exact NatP.no
theorem minmax_n (lo:Bool) (q:IntKind):∀ (l:List V) (x:Int),∃ o:Option V,∀ (R:Type) (fail:R) (k:V→R),minmax lo q x l fail k=el o fail k:=by
 intro l
 induction l with
 |nil=>intro x;exact yes_n _
 |cons v r ih=>intro x;exact bind2xn (F:=fun _ f k=>tkInt v f k) (tkInt_n v) fun _ y=>ih _
theorem eqCs_n:∀ (a b:List V),∃ o:Option Bool,∀ (R:Type) (fail:R) (k:Bool→R),eqCs a b fail k=el o fail k:=by
 intro a
 induction a with
 |nil=>intro b;cases b<;>first | exact yes_n _ | exact no_n
 |cons x as ih =>
  intro b
  cases b with
  |nil=>exact no_n
  |cons y bs =>
   simp only[eqCs]
   obtain⟨o,ho⟩:=ih bs
   split
   ·rename_i q x q' y
    refine bif_n _ ?_ no_n
    cases o with
    |none=>exact⟨none,fun R fail k=>ho R fail _⟩
    |some r=>exact⟨some (x==y && r),fun R fail k=>ho R fail _⟩
   ·exact no_n
theorem binK_n (eqT:TypeId→Nat→Bool) (c:Bool) (d:Option TypeDesc) (op:BinOp) (t:TypeId) (x y:V):∃ o:Option V,∀ (R:Type) (fail:R) (k:V→R),binK eqT c d op t x y fail k=el o fail k:=by
 unfold binK
 split
 ·split
  ·exact bif_n _ no_n (yes_n _)
  ·exact bif_n _ no_n (yes_n _)
  ·refine bif_n _ ?_ no_n
   split<;>first | exact yes_n _ | exact no_n | exact bif_n _ no_n (yes_n _)
 ·refine bif_n _ ?_ no_n
  split<;>first | exact yes_n _ | exact no_n
 ·split<;>first | exact yes_n _ | exact no_n | exact bif_n _ (yes_n _) no_n
 ·refine bif_n _ ?_ no_n
  split
  ·exact bind_n (F:=fun _ f k=>eqCs _ _ f k) (eqCs_n ..) fun r=>yes_n _
  ·exact bind_n (F:=fun _ f k=>eqCs _ _ f k) (eqCs_n ..) fun r=>yes_n _
  ·exact no_n
 ·refine bif_n _ ?_ no_n
  split<;>first | exact yes_n _ | exact no_n
 ·refine bif_n _ ?_ no_n
  split<;>first | exact yes_n _ | exact no_n
 ·refine bif_n _ ?_ no_n
  split<;>first | exact yes_n _ | exact no_n
 ·refine bif_n _ ?_ no_n
  split<;>first | exact yes_n _ | exact no_n
 ·exact no_n
theorem NatP.ofV {F:(R:Type)→R→(V→R)→R} (h:∃ o:Option V,∀ (R:Type) (fail:R) (k:V→R),F R fail k=el o fail k):NatP fun R fail k _=>F R fail fun v=>k v [] []:=by
 obtain⟨o,ho⟩:=h
 cases o with
 |none=>exact .inl ⟨none,fun R fail k kp=>ho R fail _⟩
 |some v=>exact .inl ⟨some (v,[],[]),fun R fail k kp=>ho R fail _⟩
theorem bifU_n {β:Type} (b:Bool) {F:(R:Type)→R→(β→R)→R} (h:∃ o:Option β,∀ (R:Type) (fail:R) (k:β→R),F R fail k=el o fail k):∃ o:Option β,∀ (R:Type) (fail:R) (k:β→R),(bif b then F R fail k else fail)=el o fail k:=by
 cases b
 ·exact no_n
 ·exact h
theorem keyK_n (P:Program) (X:Opt) (t:TypeId) (v:V):∃ o:Option V,∀ (R:Type) (fail:R) (k:V→R),keyK P X t v fail k=el o fail k:=by
 unfold keyK
 exact bifU_n _ (bind_n (F:=fun _ f k=>tyK P t v f k) (tyK_n ..) fun v'=>bifU_n _ (yes_n _))
theorem zeroVK_n (P:Program) (t:TypeId):∃ o:Option V,∀ (R:Type) (fail:R) (k:V→R),zeroVK P t fail k=el o fail k:=by
 unfold zeroVK
 split
 ·split
  ·exact yes_n _
  ·exact no_n
 ·exact no_n
theorem lookupK_n (P:Program) (X:Opt) (hp:List Slot) (t:TypeId) (m x:V) (ok:Bool):NatOp fun _ fail k=>lookupK P X hp t m x ok fail k:=by
 unfold lookupK
 split
 ·refine NatOp.bind (F:=fun _ f k=>keyK P X _ x f k) (keyK_n ..) fun x'=>NatOp.bind (F:=fun _ f k=>zeroVK P _ f k) (zeroVK_n ..) fun z=>?_
  split
  ·split
   ·refine NatOp.bif _ ?_ NatOp.no
    unfold tkOpt
    cases mget _ x' with
    |none=>exact NatOp.yes ..
    |some v=>exact NatOp.bind (F:=fun _ f k=>tyK P _ v f k) (tyK_n ..) fun v'=>NatOp.yes ..
   ·exact NatOp.no
  ·exact NatOp.yes ..
  ·exact NatOp.no
 ·exact NatOp.no
theorem mapUpdateK_n (P:Program) (X:Opt) (hp:List Slot) (t:TypeId) (m x v:V):NatOp fun _ fail k=>mapUpdateK P X hp t m x v fail k:=by
 unfold mapUpdateK
 split
 ·refine NatOp.bind (F:=fun _ f k=>keyK P X _ x f k) (keyK_n ..) fun x'=>NatOp.bind2 (F:=fun _ f k=>closeK hp closeD v f k) (closeK_n ..) fun v' l=>NatOp.bind (F:=fun _ f k=>tyK P _ v' f k) (tyK_n ..) fun v''=>?_
  split
  ·split
   ·exact NatOp.bif _ (NatOp.bif _ NatOp.no (NatOp.bif _ (NatOp.yes ..) NatOp.no)) NatOp.no
   ·exact NatOp.no
  ·exact NatOp.no
 ·exact NatOp.no
theorem cellK_n (c v:V):∃ o:Option V,∀ (R:Type) (fail:R) (k:V→R),cellK c v fail k=el o fail k:=by
 cases c<;>first
  |(cases v<;>first | exact⟨some _,fun _ _ _=>rfl⟩ | exact⟨none,fun _ _ _=>rfl⟩;done)
  |exact bif_n _ (yes_n _) no_n
theorem cellsBK_n:∀ (cs l:List V),∃ o:Option (List V),∀ (R:Type) (fail:R) (k:List V→R),cellsBK cs l fail k=el o fail k
 |[],l=>by cases l<;>first | exact⟨some _,fun _ _ _=>rfl⟩ | exact⟨none,fun _ _ _=>rfl⟩
 |c :: cs,[]=>⟨none,fun _ _ _=>rfl⟩
 |c :: cs,v :: r=>by
  obtain⟨o,ho⟩:=cellK_n c v
  simp only[cellsBK,tkCons,ho]
  cases o with
  |none=>exact⟨none,fun _ _ _=>rfl⟩
  |some v' =>
   obtain⟨o2,h2⟩:=cellsBK_n cs r
   simp only[el_some,h2]
   cases o2 with
   |none=>exact⟨none,fun _ _ _=>rfl⟩
   |some r'=>exact⟨some _,fun _ _ _=>rfl⟩
theorem slotK_n (s s':Slot):∃ o:Option Slot,∀ (R:Type) (fail:R) (k:Slot→R),slotK s s' fail k=el o fail k:=by
 cases s with
 |box e cs wr =>
  cases s' with
  |box e' cs' wr' =>
   refine bif_n _ ?_ no_n
   obtain⟨o2,h2⟩:=cellsBK_n cs cs'
   cases o2 with
   |none=>exact⟨none,fun R f k=>h2 R f _⟩
   |some r'=>exact⟨some _,fun R f k=>h2 R f _⟩
  |_=>exact no_n
 |arr e wd len get wr=>cases s'<;>first | exact no_n | exact bif_n _ (yes_n _) no_n
 |mp ag ks es wr=>cases s'<;>first | exact no_n | exact bif_n _ (yes_n _) no_n
 |_=>exact no_n
theorem freshK_n (fresh:Option (Nat × Nat)) (l:List Slot):∃ o:Option (List Slot),∀ (R:Type) (fail:R) (k:List Slot→R),freshK fresh l fail k=el o fail k:=by
 cases fresh with
 |none=>cases l<;>first | exact⟨some _,fun _ _ _=>rfl⟩ | exact⟨none,fun _ _ _=>rfl⟩
 |some p =>
  match l with
  |[]=>exact⟨none,fun _ _ _=>rfl⟩
  |_ :: _ :: _=>exact⟨none,fun _ _ _=>rfl⟩
  |[s] =>
   have h1:∃ o:Option (List Slot),∀ (R:Type) (fail:R) (k:List Slot→R),tkMp s fail (fun ag ks es wr=>bif wr==true then k [.mp ag ks es true] else fail)=el o fail k:=by
    cases s<;>first | exact no_n | exact bif_n _ (yes_n _) no_n
   have h2:∃ o:Option (List Slot),∀ (R:Type) (fail:R) (k:List Slot→R),tkArr s fail (fun e wd len get wr=>bif (Nat.beq e p.1 && Nat.beq wd p.2) && wr==true then k [.arr p.1 p.2 len get true] else fail)=el o fail k:=by
    cases s<;>first | exact no_n | exact bif_n _ (yes_n _) no_n
   exact bif_n (Nat.beq p.2 0) h1 h2
theorem slotsK_n (fresh:Option (Nat × Nat)):∀ (old l:List Slot),∃ o:Option (List Slot),∀ (R:Type) (fail:R) (k:List Slot→R),slotsK fresh old l fail k=el o fail k
 |[],l=>freshK_n fresh l
 |s :: old,[]=>⟨none,fun _ _ _=>rfl⟩
 |s :: old,s' :: r=>by
  obtain⟨o,ho⟩:=slotK_n s s'
  simp only[slotsK,tkSCons,ho]
  cases o with
  |none=>exact⟨none,fun _ _ _=>rfl⟩
  |some v' =>
   obtain⟨o2,h2⟩:=slotsK_n fresh old r
   simp only[el_some,h2]
   cases o2 with
   |none=>exact⟨none,fun _ _ _=>rfl⟩
   |some r'=>exact⟨some _,fun _ _ _=>rfl⟩
theorem resHK_n (P:Program) (ts:List TypeId) (n:Nat) (v:V):∃ o:Option (V × Option (Nat × Nat)),∀ (R:Type) (fail:R) (k:V→Option (Nat × Nat)→R),resHK P ts n v fail k=el o fail fun p=>k p.1 p.2:=by
 have hres:∀ ts,∃ o:Option (V × Option (Nat × Nat)),∀ (R:Type) (fail:R) (k:V→Option (Nat × Nat)→R),(resultK P ts v fail fun v'=>k v' none)=el o fail fun p=>k p.1 p.2:=by
  intro ts
  obtain⟨o,ho⟩:=resultK_n P ts v
  cases o with
  |none=>exact⟨none,fun R f k=>ho R f _⟩
  |some v'=>exact⟨some (v',none),fun R f k=>ho R f _⟩
 unfold resHK
 split
 ·split
  ·rename_i el _
   obtain⟨o,ho⟩:=szK_n P el
   cases o with
   |none=>exact⟨none,fun R f k=>ho R f _⟩
   |some sz =>
    cases v<;>first
     |exact⟨none,fun R f k=>ho R f _⟩
     |(
      rename_i nl len wd get
      cases hb:(nl && Nat.beq len 0) with
      |false=>exact⟨none,fun R f k=>(ho R f _).trans (by show (bif _ then _ else _)=_;rw[hb];rfl)⟩
      |true=>exact⟨some (_,_),fun R f k=>(ho R f _).trans (by show (bif _ then _ else _)=_;rw[hb];rfl)⟩)
     |(
      rename_i b lo len
      cases hb:(Nat.beq b n && Nat.beq lo 0) with
      |false=>exact⟨none,fun R f k=>(ho R f _).trans (by show (bif _ then _ else _)=_;rw[hb];rfl)⟩
      |true=>exact⟨some (_,_),fun R f k=>(ho R f _).trans (by show (bif _ then _ else _)=_;rw[hb];rfl)⟩)
  ·cases v<;>first
    |exact⟨none,fun R f k=>rfl⟩
    |(
     rename_i b
     cases hb:Nat.beq b n with
     |false=>exact⟨none,fun R f k=>by show (bif _ then _ else _)=_;rw[hb];rfl⟩
     |true=>exact⟨some (_,_),fun R f k=>by show (bif _ then _ else _)=_;rw[hb];rfl⟩)
  ·exact hres _
 ·exact hres _
theorem retK_n (P:Program) (ts:List TypeId) (old:List Slot) (o:Option (Out × List Slot)):∃ o':Option (V × List Slot),∀ (R:Type) (fail:R) (k:V→List Slot→R),retK P ts old o fail k=el o' fail fun p=>k p.1 p.2:=by
 match o with
 |none=>exact⟨none,fun _ _ _=>rfl⟩
 |some (.pan _,_)=>exact⟨none,fun _ _ _=>rfl⟩
 |some (.ret v,hp) =>
  obtain⟨o,ho⟩:=resHK_n P ts old.length v
  simp only[retK,tkHv,ho]
  cases o with
  |none=>exact⟨none,fun _ _ _=>rfl⟩
  |some p =>
   obtain⟨o2,h2⟩:=slotsK_n p.2 old hp
   simp only[el_some,h2]
   cases o2 with
   |none=>exact⟨none,fun _ _ _=>rfl⟩
   |some hp'=>exact⟨some (_,_),fun _ _ _=>rfl⟩
theorem hvK0xn (P:Program) (env:Env) (hp:List Slot) (fr g:Nat) (args:List V):NatOp fun _ fail k=>hvK0 P env hp fr g args fail k:=by
 unfold hvK0
 refine NatOp.bif _ ?_ NatOp.no
 cases P.funcs[g]? with
 |none=>exact NatOp.no
 |some fn=>exact NatOp.bind2 (F:=fun _ f k=>retK P fn.resultTypes.toList _ _ f k) (retK_n ..) fun v' hp'=>NatOp.yes ..
theorem sameK_n:∀ (l:List (Slot × Slot)),(∀ (R:Type) (fail k:R),sameK l fail k=k)∨∀ (R:Type) (fail k:R),sameK l fail k=fail
 |[]=>.inl fun _ _ _=>rfl
 |(a,b) :: l=>by
  cases hb:b.live with
  |false=>exact .inr fun R fail k=>by unfold sameK;rw[hb,cond_false]
  |true =>
   by_cases he:a=b
   ·rcases sameK_n l with h | h
    ·exact .inl fun R fail k=>by unfold sameK tkSame;rw[hb,cond_true,if_pos he];exact h R fail k
    ·exact .inr fun R fail k=>by unfold sameK tkSame;rw[hb,cond_true,if_pos he];exact h R fail k
   ·exact .inr fun R fail k=>by unfold sameK tkSame;rw[hb,cond_true,if_neg he]
theorem hvK_n (P:Program) (ro:Nat→Nat→Bool) (env:Env) (hp:List Slot) (fr g:Nat) (args:List V):NatOp fun _ fail k=>hvK P ro env hp fr g args fail k:=by
 unfold hvK
 obtain⟨o,ho⟩:=hvK0xn P env hp fr g args
 cases o with
 |none=>exact⟨none,fun R fail k=>ho R fail _⟩
 |some p =>
  obtain⟨v,ws,rd⟩:=p
  rcases sameK_n ((ws.filter fun p=>roB (ro g) rd p.1).map fun p=>(p.2,hp.getD p.1 .free)) with h | h
  ·exact⟨some (v,ws.filter fun p=>!roB (ro g) rd p.1,rd),fun R fail k=>by rw[ho R fail];exact h R fail _⟩
  ·exact⟨none,fun R fail k=>by rw[ho R fail];exact h R fail _⟩
theorem tkHv_n (o:Option (Out × List Slot)):∃ o':Option (V × List Slot),∀ (R:Type) (fail:R) (k:V→List Slot→R),tkHv o fail k=el o' fail fun p=>k p.1 p.2:=by
 match o with
 |none=>exact⟨none,fun _ _ _=>rfl⟩
 |some (.ret v,hp)=>exact⟨some (v,hp),fun _ _ _=>rfl⟩
 |some (.pan v,hp)=>exact⟨none,fun _ _ _=>rfl⟩
theorem hvD_n (P:Program) (ro:Nat→Bool) (env:Env) (hp:List Slot) (fr g:Nat) (args:List V):NatOp fun _ fail k=>hvD P ro env hp fr g args fail k:=by
 unfold hvD
 refine NatOp.bif _ ?_ NatOp.no
 cases P.funcs[g]? with
 |none=>exact NatOp.no
 |some fn =>
  refine NatOp.bind2 (F:=fun _ f k=>tkHv _ f k) (tkHv_n _) fun v hp'=>NatOp.bif _ (NatOp.bind (F:=fun _ f k=>resultK P fn.resultTypes.toList v f k) (resultK_n ..) fun v'=>NatOp.bif _ ?_ NatOp.no) NatOp.no
  rcases sameK_n (((List.range (reach hp 1000 (args.flatMap (vrefs closeD)) []).length).filter ro).map fun j=>(renBS (bkN (reach hp 1000 (args.flatMap (vrefs closeD)) []) fr) (hp'.getD j .free),hp.getD (bkN (reach hp 1000 (args.flatMap (vrefs closeD)) []) fr j) .free)) with h | h
  ·exact⟨some (v',((reach hp 1000 (args.flatMap (vrefs closeD)) []).filter fun b=>!roB ro (reach hp 1000 (args.flatMap (vrefs closeD)) []) b).map (fun b=>(b,Slot.dead)),reach hp 1000 (args.flatMap (vrefs closeD)) []),fun R fail k=>h R fail _⟩
  ·exact⟨none,fun R fail k=>h R fail _⟩
theorem evOp_n (P:Program) (X:Opt) (env:Env) (o:Oper) (e:Operand→V) (hp:List Slot) (fr:Nat):NatP fun _ fail k kp=>evOp P X env o e hp fr fail k kp:=by
 unfold evOp
 cases o.op with
 |move x=>exact NatP.yes ..
 |assign x=>exact NatP.yes ..
 |pick c a b=>exact NatP.bind (F:=fun _ f k=>tkBool (e c) f k) (tkBool_n _) fun t=>NatP.bif _ (NatP.yes ..) (NatP.yes ..)
 |alloc t=>exact NatP.bind (F:=fun _ f k=>zeroK P t f k) (zeroK_n ..) fun z=>NatP.yes ..
 |box t x=>exact NatP.bind (F:=fun _ f k=>cellsK P t (e x) f k) (cellsK_n ..) fun z=>NatP.yes ..
 |build t parts =>
  simp only[]
  cases P.underlying t with
  |none=>exact NatP.no
  |some d=>cases d with
   |struct fs=>exact NatP.bind (F:=fun _ f k=>placesK P fs.toList f k) (placesK_n ..) fun pl=>NatP.bind (F:=fun _ f k=>zeroK P t f k) (zeroK_n ..) fun z=>NatP.bind (F:=fun _ f k=>fillK pl z (parts.toList.map fun p=>(p.1,e p.2)) f k) (fillK_n ..) fun cs=>NatP.yes ..
   |array n el=>exact NatP.bind (F:=fun _ f k=>szK P el f k) (szK_n ..) fun wd=>NatP.bind (F:=fun _ f k=>zeroK P t f k) (zeroK_n ..) fun z=>NatP.bind (F:=fun _ f k=>fillK (rowPlaces n wd) z (parts.toList.map fun p=>(p.1,e p.2)) f k) (fillK_n ..) fun cs=>NatP.yes ..
   |_=>exact NatP.no
 |buildSlice t len parts =>
  simp only[]
  cases P.underlying t with
  |none=>exact NatP.no
  |some d=>cases d with
   |slice el=>exact NatP.bind (F:=fun _ f k=>szK P el f k) (szK_n ..) fun wd=>NatP.bif _ NatP.no (NatP.bif _ (NatP.bind (F:=fun _ f k=>zeroK P el f k) (zeroK_n ..) fun z=>NatP.bind (F:=fun _ f k=>fillK (rowPlaces 1 wd) (zeros wd 1 z) (parts.toList.map fun p=>(p.1,e p.2)) f k) (fillK_n ..) fun cs=>NatP.yes ..)
    (NatP.bif _ (NatP.bif _ (NatP.yes ..) NatP.no) (NatP.bif _ (NatP.bind (F:=fun _ f k=>zeroK P el f k) (zeroK_n ..) fun z=>NatP.bind2 (F:=fun _ f k=>partsK hp (parts.toList.map fun p=>(p.1,e p.2)) f k) (partsK_n ..) fun ps l =>
    NatP.bind (F:=fun _ f k=>fillK (rowPlaces len wd) (zeros wd len z) ps f k) (fillK_n ..) fun cs=>NatP.yes ..) NatP.no)))
   |_=>exact NatP.no
 |load t a=>exact NatP.of (loadK_n ..)
 |store t a x=>exact NatP.of (storeK_n ..)
 |nilCheck x =>
  simp only[]
  split<;>first | exact NatP.yes .. | exact NatP.no
 |binOp op t x y _=>exact NatP.ofV (F:=fun _ f k=>binK X.eqT (isConst x || isConst y) (P.underlying t) op t (e x) (e y) f k) (binK_n ..)
 |unOp op t x =>
  cases op with
  |not=>exact NatP.bind (F:=fun _ f k=>tkBool (e x) f k) (tkBool_n _) fun b=>NatP.yes ..
  |neg=>exact NatP.bind2 (F:=fun _ f k=>tkInt (e x) f k) (tkInt_n _) fun q n=>NatP.yes ..
  |_=>exact NatP.no
 |convert src dst x =>
  simp only[]
  split
  ·exact NatP.bind2 (F:=fun _ f k=>tkInt (e x) f k) (tkInt_n _) fun q n=>NatP.yes ..
  ·unfold u8K
   split
   ·exact NatP.of (NatOp.bind3 (F:=fun _ f k=>srcK hp 1 (e x) f k) (srcK_n ..) fun m get l=>NatOp.bif _ (NatOp.yes ..) NatOp.no)
   ·exact NatP.no
  ·unfold u8K
   split
   ·exact NatP.bind (F:=fun _ f k=>tkStr (e x) f k) (tkStr_n _) fun s=>NatP.bif _ (NatP.yes ..) NatP.no
   ·exact NatP.no
  ·exact NatP.no
 |makeInterface t x =>
  simp only[]
  split
  ·exact NatP.no
  ·exact NatP.yes ..
  ·exact NatP.no
 |makeFunc f first cap=>exact NatP.yes ..
 |makeSlice t l c =>
  simp only[]
  cases P.underlying t with
  |none=>exact NatP.no
  |some d=>cases d with
   |slice el =>
    exact NatP.bind (F:=fun _ f k=>szK P el f k) (szK_n ..) fun wd=>NatP.bind (F:=fun _ f k=>byK P el f k) (byK_n ..) fun by_=>NatP.bif _ NatP.no (NatP.bind (F:=fun _ f k=>zeroK P el f k) (zeroK_n ..) fun z =>
     NatP.bind2 (F:=fun _ f k=>tkInt (e l) f k) (tkInt_n _) fun _ l'=>NatP.bind2 (F:=fun _ f k=>tkInt (e c) f k) (tkInt_n _) fun _ c'=>NatP.bif _ (NatP.bif _ (NatP.bif _ (NatP.bif _ (NatP.bif _ (NatP.bif _ (NatP.yes ..) NatP.no) (NatP.yes ..)) NatP.no) NatP.no) NatP.no) NatP.no)
   |_=>exact NatP.no
 |slice t x lo hi mx =>
  simp only[]
  cases mx with
  |some _=>exact NatP.no
  |none =>
   simp only[]
   split
   ·exact NatP.bind (F:=fun _ f k=>szK P _ f k) (szK_n ..) fun sz=>NatP.of (sliceK_n ..)
   ·exact NatP.of (sliceStrK_n ..)
   ·exact NatP.of (sliceArrK_n ..)
   ·exact NatP.no
 |fieldAddr s x f =>
  refine NatP.bind (F:=fun _ fl k=>fieldK P s f fl k) (fieldK_n ..) fun fd=>NatP.bind (F:=fun _ f k=>szK P fd.type f k) (szK_n ..) fun n=>NatP.bif _ NatP.no ?_
  split<;>first | exact NatP.yes .. | exact NatP.no
 |field t x f=>exact NatP.bind (F:=fun _ fl k=>fieldK P t f fl k) (fieldK_n ..) fun fd=>NatP.bind (F:=fun _ f k=>tkAgg (e x) f k) (tkAgg_n _) fun cs=>NatP.bind (F:=fun _ f k=>partK P fd.type (cs.drop fd.offset) f k) (partK_n ..) fun v=>NatP.yes ..
 |indexAddr t x ix =>
  simp only[]
  cases P.underlying t with
  |none=>exact NatP.no
  |some d=>cases d with
   |slice el =>
    refine NatP.bind (F:=fun _ f k=>szK P el f k) (szK_n ..) fun sz=>NatP.bind2 (F:=fun _ f k=>tkInt (e ix) f k) (tkInt_n _) fun _ i=>?_
    split
    ·exact NatP.bif _ (NatP.bif _ (NatP.bif _ (NatP.yes ..) NatP.no) NatP.no) NatP.no
    ·exact NatP.bif _ (NatP.bif _ (NatP.bif _ (NatP.yes ..) NatP.no) NatP.no) NatP.no
    ·exact NatP.bif _ (NatP.bif _ (NatP.yes ..) NatP.no) NatP.no
    ·exact NatP.bif _ (NatP.bif _ (NatP.bif _ (NatP.yes ..) NatP.no) NatP.no) NatP.no
    ·exact NatP.no
   |array n el =>
    refine NatP.bind (F:=fun _ f k=>szK P el f k) (szK_n ..) fun sz=>NatP.bind2 (F:=fun _ f k=>tkInt (e ix) f k) (tkInt_n _) fun _ i=>?_
    split
    ·exact NatP.bif _ (NatP.bif _ (NatP.yes ..) NatP.no) NatP.no
    ·exact NatP.no
   |_=>exact NatP.no
 |index t x ix =>
  simp only[]
  cases P.underlying t with
  |none=>exact NatP.no
  |some d=>cases d with
   |array n el =>
    exact NatP.bind2 (F:=fun _ f k=>tkInt (e ix) f k) (tkInt_n _) fun _ i=>NatP.bind (F:=fun _ f k=>tkAgg (e x) f k) (tkAgg_n _) fun cs=>NatP.bif _ (NatP.bif _ (NatP.bind (F:=fun _ f k=>szK P el f k) (szK_n ..) fun wd =>
     NatP.bind (F:=fun _ f k=>partK P el (cs.drop (i.toNat*wd)) f k) (partK_n ..) fun v=>NatP.bind (F:=fun _ f k=>tyK P el v f k) (tyK_n ..) fun v'=>NatP.yes ..) NatP.no) NatP.no
   |string=>exact NatP.bind2 (F:=fun _ f k=>tkInt (e ix) f k) (tkInt_n _) fun _ i=>NatP.bind (F:=fun _ f k=>tkStr (e x) f k) (tkStr_n _) fun s=>NatP.bind (F:=fun _ f k=>tkByte (if 0≤i then s[i.toNat]? else none) f k) (tkByte_n _) fun b=>NatP.yes ..
   |_=>exact NatP.no
 |typeAssert x xt dst ok =>
  cases ok with
  |false=>exact NatP.no
  |true =>
   simp only[]
   cases P.underlying dst with
   |none=>exact NatP.no
   |some d=>cases d with
    |interface _=>exact NatP.no
    |_ =>
     refine NatP.bind (F:=fun _ f k=>zeroK P dst f k) (zeroK_n ..) fun z=>?_
     cases e x with
     |iface t v=>exact NatP.bif _ (NatP.yes ..) (NatP.yes ..)
     |nili=>exact NatP.yes ..
     |_=>exact NatP.no
 |makeMap t r =>
  cases r with
  |some _=>exact NatP.no
  |none =>
   simp only[]
   split<;>first | exact NatP.bif _ (NatP.yes ..) NatP.no | exact NatP.no
 |lookup t m x ok=>exact NatP.of (lookupK_n ..)
 |mapUpdate t m x v=>exact NatP.of (mapUpdateK_n ..)
 |insert t m x v=>exact NatP.of (mapUpdateK_n ..)
 |entry it =>
  simp only[]
  split
  ·split
   ·split
    ·refine NatP.bif _ ?_ NatP.no
     unfold tkEnt
     split
     ·exact NatP.bind (F:=fun _ f k=>tyK P _ _ f k) (tyK_n ..) fun key'=>NatP.bind (F:=fun _ f k=>tyK P _ _ f k) (tyK_n ..) fun val'=>NatP.yes ..
     ·exact NatP.no
    ·exact NatP.no
   ·exact NatP.no
  ·exact NatP.no
 |range t x =>
  simp only[]
  split
  ·split
   ·rename_i b _
    cases hp.getD b .free<;>first | exact NatP.yes .. | exact NatP.no
   ·exact NatP.no
  ·exact NatP.no
 |extract x i =>
  refine NatP.bind (F:=fun _ f k=>tkTup (e x) f k) (tkTup_n _) fun cs=>?_
  cases cs[i]? with
  |none=>exact NatP.no
  |some v=>exact NatP.yes ..
 |panic x =>
  simp only[]
  cases e x with
  |iface t v=>exact NatP.bif (flatP (.iface t v)) (.inr ⟨.iface t v,fun _ _ _ _=>rfl⟩) NatP.no
  |_=>exact NatP.no
 |call c =>
  simp only[]
  split
  ·split
   ·exact NatP.bif _ (NatP.of (hvK_n ..)) (NatP.bif _ (NatP.of (hvD_n ..)) (callK_n ..))
   ·exact NatP.no
  ·split
   ·split<;>first | exact NatP.yes .. | exact NatP.no | (split<;>first | exact NatP.yes .. | exact NatP.no)
   ·exact NatP.no
  ·split
   ·exact NatP.bind2 (F:=fun _ f k=>tkInt _ f k) (tkInt_n _) fun q n=>NatP.ofV (F:=fun _ f k=>minmax true q n _ f k) (minmax_n ..)
   ·exact NatP.no
  ·split
   ·exact NatP.bind2 (F:=fun _ f k=>tkInt _ f k) (tkInt_n _) fun q n=>NatP.ofV (F:=fun _ f k=>minmax false q n _ f k) (minmax_n ..)
   ·exact NatP.no
  ·split
   ·exact NatP.bif _ (NatP.of (appendK_n ..)) NatP.no
   ·exact NatP.no
  ·split
   ·exact NatP.of (copyK_n ..)
   ·exact NatP.no
  ·exact NatP.no
 |_=>exact NatP.no
end Go.Sim

namespace Go.Sim
open Go.RowKit
structure Info where
 r:Nat
 len:Nat
 wd:Nat
def HasRow (w:World) (r:Nat) (cs:Array Value) (e:TypeId):Prop:=∃ fz,w.heap[r]? = some (.cells cs e fz)
theorem HasRow.of {w:World} {r:Nat} {cs:Array Value} {e:TypeId} {fz:Nat × Nat} (h:w.heap[r]? = some (.cells cs e fz)):HasRow w r cs e:=⟨fz,h⟩
theorem HasRow.to {w w':World} {r:Nat} {cs:Array Value} {e:TypeId} (h:HasRow w r cs e) (hb:w'.heap[r]? = w.heap[r]?):HasRow w' r cs e:=let ⟨fz,h⟩:=h;⟨fz,hb.trans h⟩
theorem HasRow.lt {w:World} {r:Nat} {cs:Array Value} {e:TypeId} (h:HasRow w r cs e):r<w.heap.size:=by
 obtain⟨fz,h⟩:=h
 rcases Nat.lt_or_ge r w.heap.size with hl | hl
 ·exact hl
 ·rw[Array.getElem?_eq_none hl] at h;cases h
inductive Rel (w:World) (pv:Nat→Prop):(Nat→Option Info)→Value→V→Prop where
 |top {ρ v}:Rel w pv ρ v .top
 |undef {ρ}:Rel w pv ρ Go.undef .undef
 |int {ρ k n}:Rel w pv ρ (.int k n) (.int k n)
 |bool {ρ b}:Rel w pv ρ (.bool b) (.bool b)
 |str {ρ s}:Rel w pv ρ (.string s) (.str s)
 |nilp {ρ}:Rel w pv ρ (.pointer none) .nilp
 |nilf {ρ}:Rel w pv ρ .nilFunc .nilf
 |nili {ρ}:Rel w pv ρ .nilIface .nili
 |nilm {ρ}:Rel w pv ρ (.map none) .nilm
 |nilrow {ρ wd get}:Rel w pv ρ (.slice none 0 0) (.row true 0 wd get)
 |row {ρ} {a:Addr} {len cap wd:Nat} {get:Nat→List V} (vs:Nat→Nat→Value) (hcap:len≤cap) (hb:0<len→a.block<w.heap.size∧¬ pv a.block) (hl:∀ i,i<len→(get i).length=wd)
  (hc:∀ i j,i<len→j<wd→w.cell? (a.add (i*wd+j))=some (vs i j)) (hv:∀ i j c,i<len→(get i)[j]? = some c→Rel w pv (fun _=>none) (vs i j) c)
  (ho:∀ (i j:Nat) (c:V),i<len→(get i)[j]? = some c→c.one=true) :
  Rel w pv ρ (.slice (some a) len cap) (.row false len wd get)
 |rptr {ρ} {a:Addr} {len wd:Nat} {get:Nat→List V} {i off:Nat} (vs:Nat→Nat→Value) (hi:i<len) (hb:a.block<w.heap.size∧¬ pv a.block) (hl:∀ i,i<len→(get i).length=wd)
  (hc:∀ i j,i<len→j<wd→w.cell? (a.add (i*wd+j))=some (vs i j)) (hv:∀ i j c,i<len→(get i)[j]? = some c→Rel w pv (fun _=>none) (vs i j) c)
  (ho:∀ (i j:Nat) (c:V),i<len→(get i)[j]? = some c→c.one=true) :
  Rel w pv ρ (.pointer (some (a.add (i*wd+off)))) (.rptr len wd get i off)
 |optr {ρ b i off r len wd} (hr:ρ b=some ⟨r,len,wd⟩) (hi:i<len):Rel w pv ρ (.pointer (some ⟨r,i*wd+off,none⟩)) (.optr b i off)
 |osl {ρ b lo n r len wd cap e} {cs:Array Value} (hr:ρ b=some ⟨r,len,wd⟩) (hn:lo+n≤len) (hcap:n≤cap) (hcs:HasRow w r cs e) (hsz:cs.size=(lo+cap)*wd) (hmax:cap≤maxLen) :
  Rel w pv ρ (.slice (some ⟨r,lo*wd,none⟩) n cap) (.osl b lo n)
 |agg {ρ vs cs} (hl:vs.size=cs.length) (h:∀ (i:Nat) v c,vs[i]? = some v→cs[i]? = some c→Rel w pv ρ v c):Rel w pv ρ (.agg vs) (.agg cs)
 |tup {ρ vs cs} (hl:vs.size=cs.length) (h:∀ (i:Nat) v c,vs[i]? = some v→cs[i]? = some c→Rel w pv ρ v c):Rel w pv ρ (.tuple vs) (.tup cs)
 |fn {ρ f a a' b b'} (hla:a.size=a'.length) (ha:∀ (i:Nat) v c,a[i]? = some v→a'[i]? = some c→Rel w pv ρ v c) (hlb:b.size=b'.length) (hb:∀ (i:Nat) v c,b[i]? = some v→b'[i]? = some c→Rel w pv ρ v c) :
  Rel w pv ρ (.func f a b) (.fn f a' b')
 |iface {ρ t v c} (h:Rel w pv ρ v c):Rel w pv ρ (.iface t v) (.iface t c)
 |yld {ρ b r} (hr:ρ b=some ⟨r,0,0⟩):Rel w pv ρ (.func (.yield r) #[] #[]) (.yld b)
 |mapr {ρ b r} (hr:ρ b=some ⟨r,0,0⟩):Rel w pv ρ (.map (some r)) (.mapr b)
 |itr {ρ b r} (hr:ρ b=some ⟨r,0,0⟩):Rel w pv ρ (.pointer (some ⟨r,0,none⟩)) (.itr b)
 |blk {ρ b i} (hr:ρ b=some i):Rel w pv ρ (.tuple #[.int .i64 i.r,.int .i64 i.len,.int .i64 i.wd]) (.blk b)
 |psl {ρ b off n r len wd} (hr:ρ b=some ⟨r,len,wd⟩) (hi:0<len):Rel w pv ρ (.slice (some ⟨r,off,none⟩) n n) (.psl b off n)
 |wsl {ρ b n r base cap wd e} {cs:Array Value} (hr:ρ b=some ⟨r,base,0⟩) (hcap:n≤cap) (hcs:HasRow w r cs e) (hsz:base+cap*wd≤cs.size) (hmax:cap≤maxLen) :
  Rel w pv ρ (.slice (some ⟨r,base,none⟩) n cap) (.wsl b n wd)
 |wptr {ρ b i off wd r base} (hr:ρ b=some ⟨r,base,0⟩):Rel w pv ρ (.pointer (some ⟨r,base+i*wd+off,none⟩)) (.wptr b i off wd)
def RelL (w:World) (pv:Nat→Prop) (ρ:Nat→Option Info) (vs:Array Value) (cs:List V):Prop :=
 vs.size=cs.length∧∀ (i:Nat) v c,vs[i]? = some v→cs[i]? = some c→Rel w pv ρ v c
def none_:Nat→Option Info:=fun _=>none
def Stays:Obj→Prop
 |.map _ _=>False
 |.mapIter _ _ _ _=>False
 |_=>True
structure Keeps (pv:Nat→Prop) (w w':World):Prop where
 size:w.heap.size≤w'.heap.size
 block:∀ r,r<w.heap.size→¬ pv r→w'.heap[r]? = w.heap[r]?
 own:∀ r (cs:Array Value) e,pv r→HasRow w r cs e→∃ cs':Array Value,HasRow w' r cs' e∧cs'.size=cs.size
 other:∀ (r:Nat) (o:Obj),w.heap[r]? = some o→o.isCells=false→Stays o→w'.heap[r]? = some o
theorem Keeps.refl (pv:Nat→Prop) (w:World):Keeps pv w w:=⟨Nat.le_refl _,fun _ _ _=>rfl,fun _ cs _ _ h=>⟨cs,h,rfl⟩,fun _ _ h _ _=>h⟩
theorem cell_of_block {w w':World} {a:Addr} (h:w'.heap[a.block]? = w.heap[a.block]?):w'.cell? a=w.cell? a:=by simp[World.cell?,h]
theorem block_add (a:Addr) (n:Nat):(a.add n).block=a.block:=by unfold Addr.add;split<;>rfl
theorem lt_of_block {w:World} {r:Nat} {o:Obj} (h:w.heap[r]? = some o):r<w.heap.size:=by
 rcases Nat.lt_or_ge r w.heap.size with hl | hl
 ·exact hl
 ·rw[Array.getElem?_eq_none hl] at h;cases h
theorem Rel.step {w w':World} {pv pv':Nat→Prop} (hk:Keeps pv w w') (hp:∀ r,r<w.heap.size→pv' r→pv r) {ρ:Nat→Option Info} {v:Value} {c:V} (h:Rel w pv ρ v c) :
 ∀ {ρ':Nat→Option Info},(∀ b i,ρ b=some i→ρ' b=some i)→Rel w' pv' ρ' v c:=by
 induction h with
 |top=>exact fun _=>.top
 |undef=>exact fun _=>.undef
 |int=>exact fun _=>.int
 |bool=>exact fun _=>.bool
 |str=>exact fun _=>.str
 |nilp=>exact fun _=>.nilp
 |nilf=>exact fun _=>.nilf
 |nili=>exact fun _=>.nili
 |nilm=>exact fun _=>.nilm
 |nilrow=>exact fun _=>.nilrow
 |row vs hcap hb hl hc hv ho ih =>
  intro ρ' _
  refine .row vs hcap (fun h0=>⟨Nat.lt_of_lt_of_le (hb h0).1 hk.size,fun hx=>(hb h0).2 (hp _ (hb h0).1 hx)⟩) hl (fun i j hi hj=>?_) (fun i j c hi hc'=>ih i j c hi hc' fun _ _ h=>h) ho
  have h0:=hb (by omega)
  rw[← hc i j hi hj]
  exact cell_of_block (by rw[block_add];exact hk.block _ h0.1 h0.2)
 |rptr vs hi hb hl hc hv ho ih =>
  intro ρ' _
  refine .rptr vs hi ⟨Nat.lt_of_lt_of_le hb.1 hk.size,fun hx=>hb.2 (hp _ hb.1 hx)⟩ hl (fun i j hi hj=>?_) (fun i j c hi hc'=>ih i j c hi hc' fun _ _ h=>h) ho
  rw[← hc i j hi hj]
  exact cell_of_block (by rw[block_add];exact hk.block _ hb.1 hb.2)
 |optr hr hi=>exact fun hρ=>.optr (hρ _ _ hr) hi
 |@osl ρ b lo n r len wd cap e cs hr hn hcap hcs hsz hmax =>
  intro ρ' hρ
  by_cases hx:pv r
  ·obtain⟨cs',h1,h2⟩:=hk.own r cs e hx hcs
   exact .osl (hρ _ _ hr) hn hcap h1 (h2.trans hsz) hmax
  ·exact .osl (hρ _ _ hr) hn hcap (hcs.to (hk.block r hcs.lt hx)) hsz hmax
 |agg hl h ih=>exact fun hρ=>.agg hl fun i v c h1 h2=>ih i v c h1 h2 hρ
 |tup hl h ih=>exact fun hρ=>.tup hl fun i v c h1 h2=>ih i v c h1 h2 hρ
 |fn hla ha hlb hb iha ihb=>exact fun hρ=>.fn hla (fun i v c h1 h2=>iha i v c h1 h2 hρ) hlb (fun i v c h1 h2=>ihb i v c h1 h2 hρ)
 |iface h ih=>exact fun hρ=>.iface (ih hρ)
 |yld hr=>exact fun hρ=>.yld (hρ _ _ hr)
 |mapr hr=>exact fun hρ=>.mapr (hρ _ _ hr)
 |itr hr=>exact fun hρ=>.itr (hρ _ _ hr)
 |blk hr=>exact fun hρ=>.blk (hρ _ _ hr)
 |psl hr hi=>exact fun hρ=>.psl (hρ _ _ hr) hi
 |@wsl ρ b n r base cap wd e cs hr hcap hcs hsz hmax =>
  intro ρ' hρ
  by_cases hx:pv r
  ·obtain⟨cs',h1,h2⟩:=hk.own r cs e hx hcs
   exact .wsl (hρ _ _ hr) hcap h1 (h2 ▸ hsz) hmax
  ·exact .wsl (hρ _ _ hr) hcap (hcs.to (hk.block r hcs.lt hx)) hsz hmax
 |wptr hr=>exact fun hρ=>.wptr (hρ _ _ hr)
theorem Stays.ne {o:Obj} (h:Stays o) {a:Array MapEntry} {c:Nat}:o ≠ .map a c:=fun e=>by rw[e] at h;exact h
theorem Stays.ne' {o:Obj} (h:Stays o) {a:Option Nat} {b:Nat} {c:Array Nat} {d:Nat}:o ≠ .mapIter a b c d:=fun e=>by rw[e] at h;exact h
theorem Rel.rho {w:World} {pv:Nat→Prop} {ρ ρ':Nat→Option Info} {v:Value} {c:V} (h:Rel w pv ρ v c) (hρ:∀ b i,ρ b=some i→ρ' b=some i):Rel w pv ρ' v c :=
 h.step (Keeps.refl pv w) (fun _ _ h=>h) hρ
theorem Rel.closed {w:World} {pv:Nat→Prop} {v:Value} {c:V} (h:Rel w pv none_ v c) (ρ:Nat→Option Info):Rel w pv ρ v c :=
 h.rho fun _ _ h=>by cases h
structure BelowP (N:Nat→Prop) (w w':World):Prop where
 os:w'.os=w.os
 tape:w'.tape=w.tape
 output:w'.output=w.output
 size:w.heap.size≤w'.heap.size
 block:∀ k,N k→w'.heap[k]? = w.heap[k]?
theorem BelowP.refl (N:Nat→Prop) (w:World):BelowP N w w:=⟨rfl,rfl,rfl,Nat.le_refl _,fun _ _=>rfl⟩
theorem BelowP.trans {N:Nat→Prop} {a b c:World} (h:BelowP N a b) (k:BelowP N b c):BelowP N a c :=
 ⟨k.os.trans h.os,k.tape.trans h.tape,k.output.trans h.output,Nat.le_trans h.size k.size,fun i hi=>(k.block i hi).trans (h.block i hi)⟩
theorem BelowP.of {N:Nat→Prop} {B:Nat} {w w':World} (h:Below B w w') (hN:∀ r,N r→r<B):BelowP N w w':=⟨h.os,h.tape,h.output,h.size,fun k hk=>h.block k (hN k hk)⟩
theorem BelowP.to {B:Nat} {w w':World} (h:BelowP (fun r=>r<B) w w'):Below B w w':=⟨h.os,h.tape,h.output,h.size,h.block⟩
theorem BelowP.alloc {N:Nat→Prop} {a w:World} (h:BelowP N a w) (hN:∀ r,N r→r<w.heap.size) (o:Obj):BelowP N a (w.alloc o) :=
 h.trans (.of ((Below.refl _ w).alloc (Nat.le_refl _) o) hN)
theorem BelowP.drew {N:Nat→Prop} {a w:World} (h:BelowP N a w):BelowP N a w.drew:=⟨h.os,h.tape,h.output,h.size,h.block⟩
structure Step (N:Nat→Prop) (w w':World) (pv pv':Nat→Prop) (ρ ρ':Nat→Option Info):Prop where
 keeps:Keeps pv w w'
 below:BelowP N w w'
 pvsub:∀ r,r<w.heap.size→pv' r→pv r
 pvlt:∀ r,pv' r→r<w'.heap.size
 pvlow:∀ r,N r→(pv' r↔pv r)
 rho:∀ b i,ρ b=some i→ρ' b=some i
theorem Rel.to {N:Nat→Prop} {w w':World} {pv pv':Nat→Prop} {ρ ρ':Nat→Option Info} (s:Step N w w' pv pv' ρ ρ') {v:Value} {c:V} (h:Rel w pv ρ v c):Rel w' pv' ρ' v c :=
 h.step s.keeps s.pvsub s.rho
theorem Rel.toC {N:Nat→Prop} {w w':World} {pv pv':Nat→Prop} {ρ ρ':Nat→Option Info} (s:Step N w w' pv pv' ρ ρ') {v:Value} {c:V} (h:Rel w pv none_ v c):Rel w' pv' none_ v c :=
 h.step s.keeps s.pvsub fun _ _ h=>h
theorem Step.id_ {N:Nat→Prop} {w:World} {pv:Nat→Prop} {ρ:Nat→Option Info} (hlt:∀ r,pv r→r<w.heap.size):Step N w w pv pv ρ ρ :=
 ⟨Keeps.refl pv w,BelowP.refl _ _,fun _ _ h=>h,hlt,fun _ _=>Iff.rfl,fun _ _ h=>h⟩
structure MapR (w:World) (pv:Nat→Prop) (ag:Bool) (ks:List KS) (entries:Array MapEntry) (clock:Nat) (es:List (V × V)):Prop where
 size:entries.size=es.length
 clock:clock=entries.size
 born:∀ (i:Nat) e,entries[i]? = some e→e.born=i
 rel:∀ (i:Nat) e p,entries[i]? = some e→es[i]? = some p→Rel w pv none_ e.key p.1∧Rel w pv none_ e.val p.2
 keyed:∀ (i:Nat) p,es[i]? = some p→keyB ag ks p.1=true
 apart:∀ (i j:Nat) p q,es[i]? = some p→es[j]? = some q→keyEq p.1 q.1=true→i=j
def SlotR (N:Nat→Prop) (w:World) (pv:Nat→Prop) (ρ:Nat→Option Info) (i:Option Info):Slot→Prop
 |.free=>i=none
 |.dead=>True
 |.lp=>∃ (r:Nat) (o:Obj),i=some ⟨r,0,0⟩∧¬ N r∧w.heap[r]? = some o∧o.isCells=false∧Stays o
 |.mp ag ks es wr=>∃ (r:Nat) (entries:Array MapEntry) (clock:Nat),i=some ⟨r,0,0⟩∧¬ N r∧w.heap[r]? = some (.map entries clock)∧MapR w pv ag ks entries clock es∧(wr=true→pv r)
 |.it m _ _ since seen wr=>∃ (r mr:Nat) (sn:Array Nat) (stepped:Nat),i=some ⟨r,0,0⟩∧¬ N r∧w.heap[r]? = some (.mapIter (some mr) since sn stepped)∧ρ m=some ⟨mr,0,0⟩∧sn.toList.reverse=seen∧stepped=since∧(wr=true→pv r)
 |.box e cs wr=>∃ (r:Nat) (vs:Array Value),i=some ⟨r,1,cs.length⟩∧¬ N r∧w.heap[r]? = some (.cells vs e (0,0))∧RelL w pv ρ vs cs∧cs.all V.one=true∧(wr=true→pv r)
 |.arr e wd len get wr=>∃ (r:Nat) (vs:Array Value),i=some ⟨r,len,wd⟩∧¬ N r∧w.heap[r]? = some (.cells vs e (0,0))∧len*wd≤vs.size ∧
  (∀ i,i<len→(get i).length=wd)∧(∀ i j c,i<len→(get i)[j]? = some c→∃ v,vs[i*wd+j]? = some v∧Rel w pv none_ v c∧c.one=true)∧(wr=true→pv r)
 |.buf e wd len get=>∃ (r:Nat) (vs:Array Value),i=some ⟨r,len,wd⟩∧¬ N r∧w.heap[r]? = some (.cells vs e (vs.size,vs.size+1))∧len*wd≤vs.size ∧
  (∀ i,i<len→(get i).length=wd)∧(∀ i j c,i<len→(get i)[j]? = some c→∃ v,vs[i*wd+j]? = some v∧Rel w pv none_ v c∧c.one=true)∧pv r
 |.win e wd len get wr=>∃ (r base:Nat) (vs:Array Value),i=some ⟨r,base,0⟩∧¬ N r∧w.heap[r]? = some (.cells vs e (0,0)) ∧
  (∀ i,i<len→(get i).length=wd)∧(∀ i j c,i<len→(get i)[j]? = some c→∃ v,vs[base+(i*wd+j)]? = some v∧Rel w pv none_ v c∧c.one=true)∧(wr=true→pv r)
structure SRel (N:Nat→Prop) (w:World) (pv:Nat→Prop) (ρ:Nat→Option Info) (hp:List Slot):Prop where
 slot:∀ b s,hp[b]? = some s→SlotR N w pv ρ (ρ b) s
 out:∀ b,hp[b]? = none→ρ b=none
 inj:∀ b b' s s' i i',hp[b]? = some s→hp[b']? = some s'→s.live=true→s'.live=true→ρ b=some i→ρ b'=some i'→i.r=i'.r→b=b'
theorem RelL.to {N:Nat→Prop} {w w':World} {pv pv':Nat→Prop} {ρ ρ':Nat→Option Info} (s:Step N w w' pv pv' ρ ρ') {vs:Array Value} {cs:List V} (h:RelL w pv ρ vs cs):RelL w' pv' ρ' vs cs :=
 ⟨h.1,fun i v c h1 h2=>(h.2 i v c h1 h2).to s⟩
theorem MapR.to {N:Nat→Prop} {w w':World} {pv pv':Nat→Prop} {ρ ρ':Nat→Option Info} (s:Step N w w' pv pv' ρ ρ') {ag:Bool} {ks:List KS} {en:Array MapEntry} {ck:Nat} {es:List (V × V)} (h:MapR w pv ag ks en ck es):MapR w' pv' ag ks en ck es :=
 ⟨h.size,h.clock,h.born,fun i e p h1 h2=>⟨(h.rel i e p h1 h2).1.toC s,(h.rel i e p h1 h2).2.toC s⟩,h.keyed,h.apart⟩
theorem SlotR.lt {N:Nat→Prop} {w:World} {pv:Nat→Prop} {ρ:Nat→Option Info} {i:Info} {s:Slot} (h:SlotR N w pv ρ (some i) s) (hl:s.live=true):¬ N i.r∧i.r<w.heap.size:=by
 cases s with
 |box e cs wr=>obtain⟨r,vs,h1,h2,h3,_⟩:=h;cases h1;exact⟨h2,lt_of_block h3⟩
 |arr e wd len get wr=>obtain⟨r,vs,h1,h2,h3,_⟩:=h;cases h1;exact⟨h2,lt_of_block h3⟩
 |buf e wd len get=>obtain⟨r,vs,h1,h2,h3,_⟩:=h;cases h1;exact⟨h2,lt_of_block h3⟩
 |win e wd len get wr=>obtain⟨r,base,vs,h1,h2,h3,_⟩:=h;cases h1;exact⟨h2,lt_of_block h3⟩
 |mp ag ks es wr=>obtain⟨r,en,ck,h1,h2,h3,_⟩:=h;cases h1;exact⟨h2,lt_of_block h3⟩
 |it m kt et since seen wr=>obtain⟨r,mr,sn,st,h1,h2,h3,_⟩:=h;cases h1;exact⟨h2,lt_of_block h3⟩
 |_=>cases hl
theorem SlotR.keep {N:Nat→Prop} {w w':World} {pv pv':Nat→Prop} {ρ ρ':Nat→Option Info} (st:Step N w w' pv pv' ρ ρ') {i:Option Info} {s:Slot} (h:SlotR N w pv ρ i s)
 (hb:∀ x,i=some x→s.live=true→w'.heap[x.r]? = w.heap[x.r]?) (hp:∀ x,i=some x→s.live=true→pv x.r→pv' x.r):SlotR N w' pv' ρ' i s:=by
 cases s with
 |free=>exact h
 |dead=>trivial
 |lp=>obtain⟨r,o,h1,h2,h3,h4,h5⟩:=h;exact⟨r,o,h1,h2,st.keeps.other r o h3 h4 h5,h4,h5⟩
 |mp ag ks es wr =>
  obtain⟨r,en,ck,rfl,h2,h3,h4,h5⟩:=h
  exact⟨r,en,ck,rfl,h2,(hb _ rfl rfl).trans h3,h4.to st,fun hw=>hp _ rfl rfl (h5 hw)⟩
 |it m kt et since seen wr =>
  obtain⟨r,mr,sn,sp,rfl,h2,h3,h4,h5,h6,h7⟩:=h
  exact⟨r,mr,sn,sp,rfl,h2,(hb _ rfl rfl).trans h3,st.rho _ _ h4,h5,h6,fun hw=>hp _ rfl rfl (h7 hw)⟩
 |box e cs wr =>
  obtain⟨r,vs,rfl,h2,h3,h4,h6,h5⟩:=h
  exact⟨r,vs,rfl,h2,(hb _ rfl rfl).trans h3,h4.to st,h6,fun hw=>hp _ rfl rfl (h5 hw)⟩
 |arr e wd len get wr =>
  obtain⟨r,vs,rfl,h2,h3,h4,h5,h6,h7⟩:=h
  exact⟨r,vs,rfl,h2,(hb _ rfl rfl).trans h3,h4,h5,fun i j c hi hc=>let ⟨v,h8,h9,h10⟩:=h6 i j c hi hc;⟨v,h8,h9.toC st,h10⟩,fun hw=>hp _ rfl rfl (h7 hw)⟩
 |buf e wd len get =>
  obtain⟨r,vs,rfl,h2,h3,h4,h5,h6,h7⟩:=h
  exact⟨r,vs,rfl,h2,(hb _ rfl rfl).trans h3,h4,h5,fun i j c hi hc=>let ⟨v,h8,h9,h10⟩:=h6 i j c hi hc;⟨v,h8,h9.toC st,h10⟩,hp _ rfl rfl h7⟩
 |win e wd len get wr =>
  obtain⟨r,base,vs,rfl,h2,h3,h5,h6,h7⟩:=h
  exact⟨r,base,vs,rfl,h2,(hb _ rfl rfl).trans h3,h5,fun i j c hi hc=>let ⟨v,h8,h9,h10⟩:=h6 i j c hi hc;⟨v,h8,h9.toC st,h10⟩,fun hw=>hp _ rfl rfl (h7 hw)⟩
theorem setSlot_get (hp:List Slot):∀ (b:Nat) (s:Slot) (b':Nat),b≤hp.length→(setSlot hp b s)[b']? = if b'=b then some s else hp[b']?:=by
 induction hp with
 |nil =>
  intro b s b' hb
  have:b=0:=by simpa using hb
  subst this
  cases b' with
  |zero=>rfl
  |succ n=>simp[setSlot]
 |cons x t ih =>
  intro b s b' hb
  cases b with
  |zero=>cases b'<;>simp[setSlot]
  |succ n =>
   cases b' with
   |zero=>simp[setSlot]
   |succ m =>
    simp only[setSlot,List.getElem?_cons_succ]
    rw[ih n s m (by simpa using hb)]
    by_cases h:m=n<;>simp[h]
theorem setSlot_len (hp:List Slot):∀ (b:Nat) (s:Slot),hp.length≤(setSlot hp b s).length:=by
 induction hp with
 |nil=>intro b s;simp
 |cons x t ih=>intro b s;cases b with
  |zero=>simp[setSlot]
  |succ n=>simpa[setSlot] using ih n s
theorem setSlot_len_lt (hp:List Slot):∀ (b:Nat) (s:Slot),b<hp.length→(setSlot hp b s).length=hp.length:=by
 induction hp with
 |nil=>intro b s h;simp at h
 |cons x t ih=>intro b s h;cases b with
  |zero=>simp[setSlot]
  |succ n=>simpa[setSlot] using ih n s (by simpa using h)
theorem SRel.set_ {N:Nat→Prop} {w w':World} {pv pv':Nat→Prop} {ρ ρ':Nat→Option Info} {hp:List Slot} (st:Step N w w' pv pv' ρ ρ') (hs:SRel N w pv ρ hp) {b:Nat} {s:Slot} (hle:b≤hp.length)
 (hρ:∀ b',b' ≠ b→ρ' b'=ρ b')
 (hoth:∀ b' s' x,b' ≠ b→hp[b']? = some s'→s'.live=true→ρ b'=some x→w'.heap[x.r]? = w.heap[x.r]?∧(pv x.r→pv' x.r))
 (hnew:SlotR N w' pv' ρ' (ρ' b) s)
 (hinj:s.live=true→∀ b' s' x x',b' ≠ b→hp[b']? = some s'→s'.live=true→ρ' b=some x→ρ b'=some x'→x.r ≠ x'.r) :
 SRel N w' pv' ρ' (setSlot hp b s):=by
 refine⟨fun b' s' h=>?_,fun b' h=>?_,fun b1 b2 s1 s2 i1 i2 h1 h2 l1 l2 r1 r2 he=>?_⟩
 ·rw[setSlot_get hp b s b' hle] at h
  by_cases hb:b'=b
  ·subst hb;simp at h;subst h;exact hnew
  ·rw[if_neg hb] at h
   rw[hρ b' hb]
   exact (hs.slot b' s' h).keep st (fun x hx hl=>(hoth b' s' x hb h hl hx).1) (fun x hx hl=>(hoth b' s' x hb h hl hx).2)
 ·rw[setSlot_get hp b s b' hle] at h
  by_cases hb:b'=b
  ·subst hb;simp at h
  ·rw[if_neg hb] at h;rw[hρ b' hb];exact hs.out b' h
 ·rw[setSlot_get hp b s _ hle] at h1 h2
  by_cases hb1:b1=b<;>by_cases hb2:b2=b
  ·rw[hb1,hb2]
  ·subst hb1
   rw[if_neg hb2] at h2;simp at h1;subst h1
   rw[hρ b2 hb2] at r2
   exact absurd he (hinj l1 b2 s2 i1 i2 hb2 h2 l2 r1 r2)
  ·subst hb2
   rw[if_neg hb1] at h1;simp at h2;subst h2
   rw[hρ b1 hb1] at r1
   exact absurd he.symm (hinj l2 b1 s1 i2 i1 hb1 h1 l1 r2 r1)
  ·rw[if_neg hb1] at h1;rw[if_neg hb2] at h2
   rw[hρ b1 hb1] at r1;rw[hρ b2 hb2] at r2
   exact hs.inj b1 b2 s1 s2 i1 i2 h1 h2 l1 l2 r1 r2 he
theorem heap_alloc (w:World) (o:Obj) (k:Nat) (h:k<w.heap.size):(w.alloc o).heap[k]? = w.heap[k]?:=Below.heap_alloc w o k h
theorem step_alloc {N:Nat→Prop} {w:World} {pv:Nat→Prop} {ρ:Nat→Option Info} (hN:(∀ r,N r→r<w.heap.size)) (hlt:∀ r,pv r→r<w.heap.size) (o:Obj) {fr:Nat} (hfr:ρ fr=none) (i:Info) :
 Step N w (w.alloc o) pv (fun r=>pv r∨r=w.heap.size) ρ (fun b=>if b=fr then some i else ρ b) where
 keeps:=⟨by simp,fun r hr _=>heap_alloc w o r hr,fun r cs e _ h=>⟨cs,h.to (heap_alloc w o r h.lt),rfl⟩,fun r o' h _ _=>(heap_alloc w o r (lt_of_block h)).trans h⟩
 below:=(BelowP.refl _ _).alloc hN o
 pvsub:=fun r hr h=>h.resolve_right (by omega)
 pvlt:=fun r h=>by
  have:(w.alloc o).heap.size=w.heap.size+1:=by simp
  rw[this]
  rcases h with h | h
  ·have:=hlt r h;omega
  ·omega
 pvlow:=fun r hr=>⟨fun h=>h.resolve_right (by have:=hN r hr;omega),.inl⟩
 rho:=fun b x h=>by
  by_cases hb:b=fr
  ·subst hb;rw[hfr] at h;cases h
  ·rw[if_neg hb];exact h
theorem free_of {N:Nat→Prop} {w:World} {pv:Nat→Prop} {ρ:Nat→Option Info} {hp:List Slot} (hs:SRel N w pv ρ hp) {fr:Nat} (h:hp[fr]? = none∨hp[fr]? = some .free):ρ fr=none:=by
 rcases h with h | h
 ·exact hs.out fr h
 ·exact hs.slot fr _ h
theorem srel_new {N:Nat→Prop} {w:World} {pv:Nat→Prop} {ρ:Nat→Option Info} {hp:List Slot} (hs:SRel N w pv ρ hp) (hN:(∀ r,N r→r<w.heap.size)) (hlt:∀ r,pv r→r<w.heap.size) {fr:Nat}
 (hfr:hp[fr]? = none∨hp[fr]? = some .free) (hle:fr≤hp.length) (o:Obj) (i:Info) (hi:i.r=w.heap.size) (s:Slot)
 (hnew:SlotR N (w.alloc o) (fun r=>pv r∨r=w.heap.size) (fun b=>if b=fr then some i else ρ b) (some i) s) :
 SRel N (w.alloc o) (fun r=>pv r∨r=w.heap.size) (fun b=>if b=fr then some i else ρ b) (setSlot hp fr s):=by
 refine SRel.set_ (step_alloc hN hlt o (free_of hs hfr) i) hs hle (fun b' h=>if_neg h) (fun b' s' x hb h hl hx=>?_) (by simpa using hnew) (fun _ b' s' x x' hb h hl hx hx'=>?_)
 ·have:=(hx ▸ hs.slot b' s' h:SlotR N w pv ρ (some x) s').lt hl
  exact⟨heap_alloc w o _ this.2,.inl⟩
 ·have:=(hx' ▸ hs.slot b' s' h:SlotR N w pv ρ (some x') s').lt hl
  simp at hx;subst hx;omega
inductive Df1 (w:World) (pv:Nat→Prop) (ρ:Nat→Option Info):Deferred→V→Prop where
 |fn {g:Nat} {cap:Array Value} {cs:List V} (h:Rel w pv ρ (.func (.func g) #[] cap) (.fn (.func g) [] cs)):Df1 w pv ρ { target:=.fn (.func g) cap,args:=#[] } (.fn (.func g) [] cs)
def mkD (D:Nat):Deferred:={ target:=.collected D,args:=#[] }
inductive DfR (mk:Option Nat) (N:Nat→Prop) (w:World) (pv:Nat→Prop) (ρ:Nat→Option Info):List Deferred→List V→Prop where
 |nil:DfR mk N w pv ρ [] []
 |cons {d c ds cs} (h:Df1 w pv ρ d c) (t:DfR mk N w pv ρ ds cs):DfR mk N w pv ρ (d :: ds) (c :: cs)
 |mark {D ds cs lo} (hm:mk=some lo) (hlo:lo≤D) (hD:¬ N D) (h:w.heap[D]? = some (.deferred (some []))) (hne:mkD D ∉ ds) (t:DfR mk N w pv ρ ds cs):DfR mk N w pv ρ (mkD D :: ds) cs
theorem Df1.to {N:Nat→Prop} {w w':World} {pv pv':Nat→Prop} {ρ ρ':Nat→Option Info} (s:Step N w w' pv pv' ρ ρ') {d:Deferred} {c:V} (h:Df1 w pv ρ d c):Df1 w' pv' ρ' d c:=by
 cases h with
 |fn h=>exact .fn (h.to s)
theorem DfR.to {mk:Option Nat} {N:Nat→Prop} {w w':World} {pv pv':Nat→Prop} {ρ ρ':Nat→Option Info} (s:Step N w w' pv pv' ρ ρ') {ds:List Deferred} {cs:List V} (h:DfR mk N w pv ρ ds cs):DfR mk N w' pv' ρ' ds cs:=by
 induction h with
 |nil=>exact .nil
 |cons h _ ih=>exact .cons (h.to s) ih
 |mark hm hlo hD h hne _ ih=>exact .mark hm hlo hD (s.keeps.other _ _ h rfl trivial) hne ih
section
variable {w:World} {pv:Nat→Prop} {L:Nat} {o o':Obj}
theorem put_cell (hL:w.heap[L]? = some o) (ho:o.isCells=false) {a:Addr} {v:Value} (h:w.cell? a=some v):(w.putObj L o').cell? a=some v:=by
 obtain⟨q,hq,hc⟩:=cells_of_cell h
 have hne:a.block ≠ L:=fun e=>by rw[e,hL] at hq;injection hq with hq;rw[hq,hc] at ho;cases ho
 exact (World.cell?_of_block (World.putObj_heap_other hne)).trans h
theorem put_cells (hL:w.heap[L]? = some o) (ho:o.isCells=false) {r:Nat} {cs:Array Value} {e:TypeId} {fz:Nat × Nat} (h:w.heap[r]? = some (.cells cs e fz)):(w.putObj L o').heap[r]? = some (.cells cs e fz):=by
 have hne:r ≠ L:=fun e=>by rw[e,hL] at h;injection h with h;rw[h] at ho;cases ho
 exact (World.putObj_heap_other hne).trans h
theorem Rel.put_ (hL:w.heap[L]? = some o) (ho:o.isCells=false) {ρ:Nat→Option Info} {v:Value} {c:V} (h:Rel w pv ρ v c):Rel (w.putObj L o') pv ρ v c:=by
 induction h with
 |top=>exact .top
 |undef=>exact .undef
 |int=>exact .int
 |bool=>exact .bool
 |str=>exact .str
 |nilp=>exact .nilp
 |nilf=>exact .nilf
 |nili=>exact .nili
 |nilm=>exact .nilm
 |nilrow=>exact .nilrow
 |row vs hcap hb hl hc hv hone ih=>exact .row vs hcap (by simpa using hb) hl (fun i j hi hj=>put_cell hL ho (hc i j hi hj)) ih hone
 |rptr vs hi hb hl hc hv hone ih=>exact .rptr vs hi (by simpa using hb) hl (fun i j hi hj=>put_cell hL ho (hc i j hi hj)) ih hone
 |optr hr hi=>exact .optr hr hi
 |osl hr hn hcap hcs hsz hmax=>exact .osl hr hn hcap (let ⟨fz,h⟩:=hcs;⟨fz,put_cells hL ho h⟩) hsz hmax
 |agg hl h ih=>exact .agg hl ih
 |tup hl h ih=>exact .tup hl ih
 |fn hla ha hlb hb iha ihb=>exact .fn hla iha hlb ihb
 |iface h ih=>exact .iface ih
 |yld hr=>exact .yld hr
 |mapr hr=>exact .mapr hr
 |itr hr=>exact .itr hr
 |blk hr=>exact .blk hr
 |psl hr hi=>exact .psl hr hi
 |wsl hr hcap hcs hsz hmax=>exact .wsl hr hcap (let ⟨fz,h⟩:=hcs;⟨fz,put_cells hL ho h⟩) hsz hmax
 |wptr hr=>exact .wptr hr
theorem RelL.put_ (hL:w.heap[L]? = some o) (ho:o.isCells=false) {ρ:Nat→Option Info} {vs:Array Value} {cs:List V} (h:RelL w pv ρ vs cs):RelL (w.putObj L o') pv ρ vs cs :=
 ⟨h.1,fun i v c h1 h2=>(h.2 i v c h1 h2).put_ hL ho⟩
theorem SlotR.put_ {N:Nat→Prop} (hL:w.heap[L]? = some o) (ho:o.isCells=false) (hy:Stays o) (ho':o'.isCells=false) (hy':Stays o') {ρ:Nat→Option Info} {i:Option Info} {s:Slot} (h:SlotR N w pv ρ i s):SlotR N (w.putObj L o') pv ρ i s:=by
 cases s with
 |free=>exact h
 |dead=>trivial
 |lp =>
  obtain⟨r,q,h1,h2,h3,h4,h5⟩:=h
  by_cases hr:r=L
  ·subst hr
   exact⟨r,o',h1,h2,World.putObj_heap_same (lt_of_block hL),ho',hy'⟩
  ·exact⟨r,q,h1,h2,(World.putObj_heap_other hr).trans h3,h4,h5⟩
 |mp ag ks es wr =>
  obtain⟨r,en,ck,h1,h2,h3,h4,h5⟩:=h
  have hr:r ≠ L:=fun e=>by rw[e,hL] at h3;injection h3 with h3;exact hy.ne h3
  exact⟨r,en,ck,h1,h2,(World.putObj_heap_other hr).trans h3,⟨h4.size,h4.clock,h4.born,fun i e p g1 g2=>⟨(h4.rel i e p g1 g2).1.put_ hL ho,(h4.rel i e p g1 g2).2.put_ hL ho⟩,h4.keyed,h4.apart⟩,h5⟩
 |it m kt et since seen wr =>
  obtain⟨r,mr,sn,sp,h1,h2,h3,h4,h5,h6,h7⟩:=h
  have hr:r ≠ L:=fun e=>by rw[e,hL] at h3;injection h3 with h3;exact hy.ne' h3
  exact⟨r,mr,sn,sp,h1,h2,(World.putObj_heap_other hr).trans h3,h4,h5,h6,h7⟩
 |box e cs wr =>
  obtain⟨r,vs,h1,h2,h3,h4,h6,h5⟩:=h
  exact⟨r,vs,h1,h2,put_cells hL ho h3,h4.put_ hL ho,h6,h5⟩
 |arr e wd len get wr =>
  obtain⟨r,vs,h1,h2,h3,h4,h5,h6,h7⟩:=h
  exact⟨r,vs,h1,h2,put_cells hL ho h3,h4,h5,fun i j c hi hc=>let ⟨v,h8,h9,h10⟩:=h6 i j c hi hc;⟨v,h8,h9.put_ hL ho,h10⟩,h7⟩
 |buf e wd len get =>
  obtain⟨r,vs,h1,h2,h3,h4,h5,h6,h7⟩:=h
  exact⟨r,vs,h1,h2,put_cells hL ho h3,h4,h5,fun i j c hi hc=>let ⟨v,h8,h9,h10⟩:=h6 i j c hi hc;⟨v,h8,h9.put_ hL ho,h10⟩,h7⟩
 |win e wd len get wr =>
  obtain⟨r,base,vs,h1,h2,h3,h5,h6,h7⟩:=h
  exact⟨r,base,vs,h1,h2,put_cells hL ho h3,h5,fun i j c hi hc=>let ⟨v,h8,h9,h10⟩:=h6 i j c hi hc;⟨v,h8,h9.put_ hL ho,h10⟩,h7⟩
theorem SRel.put_ {N:Nat→Prop} (hL:w.heap[L]? = some o) (ho:o.isCells=false) (hy:Stays o) (ho':o'.isCells=false) (hy':Stays o') {ρ:Nat→Option Info} {hp:List Slot} (h:SRel N w pv ρ hp):SRel N (w.putObj L o') pv ρ hp :=
 ⟨fun b s hb=>(h.slot b s hb).put_ hL ho hy ho' hy',h.out,h.inj⟩
theorem DfR.put_ {mk:Option Nat} {N:Nat→Prop} (hL:w.heap[L]? = some o) (ho:o.isCells=false) (hnd:o ≠ .deferred (some [])) {ρ:Nat→Option Info} {ds:List Deferred} {cs:List V} (h:DfR mk N w pv ρ ds cs):DfR mk N (w.putObj L o') pv ρ ds cs:=by
 induction h with
 |nil=>exact .nil
 |cons h _ ih =>
  refine .cons ?_ ih
  cases h with
  |fn h=>exact .fn (h.put_ hL ho)
 |@mark D ds cs lo hm hlo hD h hne _ ih =>
  refine .mark hm hlo hD ((World.putObj_heap_other fun e=>?_).trans h) hne ih
  rw[e,hL] at h
  injection h with h
  exact hnd h
end
end Go.Sim

namespace Go.Sim
open Go.RowKit
section
variable {β:Type} {r:β}
theorem tkBool_inv {v:V} {k:Bool→Option β} (h:tkBool v none k=some r):∃ b,v = .bool b∧k b=some r:=by cases v<;>first | exact⟨_,rfl,h⟩ | cases h
theorem tkInt_inv {v:V} {k:IntKind→Int→Option β} (h:tkInt v none k=some r):∃ q n,v = .int q n∧k q n=some r:=by cases v<;>first | exact⟨_,_,rfl,h⟩ | cases h
theorem tkStr_inv {v:V} {k:ByteArray→Option β} (h:tkStr v none k=some r):∃ b,v = .str b∧k b=some r:=by cases v<;>first | exact⟨_,rfl,h⟩ | cases h
theorem tkAgg_inv {v:V} {k:List V→Option β} (h:tkAgg v none k=some r):∃ b,v = .agg b∧k b=some r:=by cases v<;>first | exact⟨_,rfl,h⟩ | cases h
theorem tkTup_inv {v:V} {k:List V→Option β} (h:tkTup v none k=some r):∃ b,v = .tup b∧k b=some r:=by cases v<;>first | exact⟨_,rfl,h⟩ | cases h
theorem tkIfc_inv {v:V} {k:TypeId→V→Option β} (h:tkIfc v none k=some r):∃ t x,v = .iface t x∧k t x=some r:=by cases v<;>first | exact⟨_,_,rfl,h⟩ | cases h
theorem bif_inv {b:Bool} {x:Option β} (h:(bif b then x else none)=some r):b=true∧x=some r:=by cases b<;>first | exact⟨rfl,h⟩ | cases h
theorem bifn_inv {b:Bool} {x:Option β} (h:(bif b then none else x)=some r):b=false∧x=some r:=by cases b<;>first | exact⟨rfl,h⟩ | cases h
theorem szK_inv {P:Program} {t:TypeId} {k:Nat→Option β} (h:szK P t none k=some r):∃ i,P.info? t=some i∧k i.size=some r:=by
 unfold szK at h;cases hi:P.info? t with
 |none=>simp[hi] at h
 |some i=>simp only[hi] at h;exact⟨i,rfl,h⟩
theorem byK_inv {P:Program} {t:TypeId} {k:Nat→Option β} (h:byK P t none k=some r):∃ i,P.info? t=some i∧k i.bytes=some r:=by
 unfold byK at h;cases hi:P.info? t with
 |none=>simp[hi] at h
 |some i=>simp only[hi] at h;exact⟨i,rfl,h⟩
theorem kdK_inv {q:Kd} {v:V} {k:V→Option β} (h:kdK q v none k=some r):k v=some r∧v.one=true:=by
 cases q<;>cases v<;>first | exact⟨h,rfl⟩ | cases h
theorem kdsK_inv:∀ {qs:List Kd} {l:List V} {k:List V→Option β},kdsK qs l none k=some r→k l=some r∧l.all V.one=true
 |[],l,k,h=>by cases l<;>first | exact⟨h,rfl⟩ | cases h
 |q :: qs,[],k,h=>by cases h
 |q :: qs,v :: l,k,h=>by
  simp only[kdsK,tkCons] at h
  obtain⟨h,h1⟩:=kdK_inv h
  obtain⟨h,h2⟩:=kdsK_inv h
  exact⟨h,by simp[h1];simpa using h2⟩
theorem tyK_inv {P:Program} {t:TypeId} {v:V} {k:V→Option β} (h:tyK P t v none k=some r):k v=some r:=by
 unfold tyK at h
 split at h
 ·obtain⟨cs,rfl,h⟩:=tkAgg_inv h
  exact (kdsK_inv h).1
 ·obtain⟨cs,rfl,h⟩:=tkAgg_inv h
  exact (kdsK_inv h).1
 ·exact (kdK_inv h).1
 ·cases h
theorem tysK_inv {P:Program}:∀ {ts:List TypeId} {l:List V} {k:List V→Option β},tysK P ts l none k=some r→k l=some r
 |[],l,k,h=>by cases l<;>first | exact h | cases h
 |t :: ts,[],k,h=>by cases h
 |t :: ts,v :: l,k,h=>by
  simp only[tysK,tkCons] at h
  exact tysK_inv (ts:=ts) (l:=l) (k:=fun r'=>k (v :: r')) (tyK_inv h)
theorem cellsK_inv {P:Program} {t:TypeId} {v:V} {k:List V→Option β} (h:cellsK P t v none k=some r) :
 ∃ i,P.info? t=some i∧((∃ cs,v = .agg cs∧cs.all V.one=true∧cs.length=i.size∧k cs=some r∧aggT P t=true)∨(v.one=true∧i.size=1∧k [v]=some r∧aggT P t=false)):=by
 unfold cellsK at h
 obtain⟨i,hi,h⟩:=szK_inv h
 refine⟨i,hi,?_⟩
 cases ha:aggT P t with
 |true =>
  rw[ha,cond_true] at h
  obtain⟨cs,rfl,h⟩:=tkAgg_inv h
  obtain⟨h1,h⟩:=bif_inv h
  obtain⟨h2,h⟩:=bif_inv h
  exact .inl ⟨cs,rfl,h1,by simpa using h2,h,rfl⟩
 |false =>
  rw[ha,cond_false] at h
  obtain⟨h1,h⟩:=bif_inv h
  obtain⟨h2,h⟩:=bif_inv h
  exact .inr ⟨h1,by simpa using h2,h,rfl⟩
theorem partK_inv {P:Program} {t:TypeId} {cs:List V} {k:V→Option β} (h:partK P t cs none k=some r) :
 ∃ i,P.info? t=some i∧(∃ d,P.underlying t=some d)∧((aggT P t=true∧(cs.take i.size).length=i.size∧k (.agg (cs.take i.size))=some r)∨(aggT P t=false∧∃ c r',cs=c :: r'∧k c=some r)):=by
 unfold partK at h
 obtain⟨i,hi,h⟩:=szK_inv h
 refine⟨i,hi,?_⟩
 cases ha:aggT P t with
 |true =>
  rw[ha,cond_true] at h
  obtain⟨h1,h⟩:=bif_inv h
  refine⟨?_,.inl ⟨rfl,by simpa using h1,h⟩⟩
  unfold aggT at ha
  cases hu:P.underlying t with
  |none=>simp[hu] at ha
  |some d=>exact⟨d,rfl⟩
 |false =>
  rw[ha,cond_false] at h
  obtain⟨h1,h⟩:=bif_inv h
  refine⟨Option.isSome_iff_exists.1 h1,?_⟩
  cases cs with
  |nil=>cases h
  |cons c r'=>exact .inr ⟨rfl,c,r',rfl,h⟩
end
theorem Rel.one_ {w:World} {pv:Nat→Prop} {ρ:Nat→Option Info} {v:Value} {c:V} (h:Rel w pv ρ v c) (h1:c.one=true):v.oneCell'=true∧v.cells = #[v]:=by
 cases h<;>first | exact⟨rfl,rfl⟩ | cases h1
theorem rel_ofV1 (w:World) (pv:Nat→Prop) (ρ:Nat→Option Info) (v:Value):Rel w pv ρ v (ofV1 v):=by
 unfold ofV1
 split<;>constructor
theorem relL_map {w:World} {pv:Nat→Prop} {ρ:Nat→Option Info} (vs:Array Value) (f:Value→V) (hf:∀ v,Rel w pv ρ v (f v)):RelL w pv ρ vs (vs.toList.map f):=by
 refine⟨by simp,fun i v c h1 h2=>?_⟩
 simp only[List.getElem?_map,Array.getElem?_toList,h1,Option.map_some,Option.some.injEq] at h2
 subst h2
 exact hf v
theorem rel_ofValue (w:World) (pv:Nat→Prop) (ρ:Nat→Option Info) (v:Value):Rel w pv ρ v (ofValue v):=by
 unfold ofValue
 split
 ·rename_i cs
  have:=relL_map (w:=w) (pv:=pv) (ρ:=ρ) cs ofV1 (rel_ofV1 w pv ρ)
  exact .agg this.1 this.2
 ·exact rel_ofV1 w pv ρ v
theorem relL_one {w:World} {pv:Nat→Prop} {ρ:Nat→Option Info} {v:Value} {c:V} (h:Rel w pv ρ v c):RelL w pv ρ #[v] [c]:=by
 refine⟨rfl,fun i v' c' h1 h2=>?_⟩
 cases i with
 |zero=>simp at h1 h2;subst h1 h2;exact h
 |succ n=>simp at h1
theorem cells_rel {w:World} {pv:Nat→Prop} {ρ:Nat→Option Info} {v:Value} {c:V} (h:Rel w pv ρ v c) :
 (∀ cs,c = .agg cs→RelL w pv ρ v.cells cs)∧(c.one=true→RelL w pv ρ v.cells [c]):=by
 constructor
 ·intro cs hc
  subst hc
  cases h with
  |agg hl h=>exact⟨hl,h⟩
 ·intro h1
  rw[(h.one_ h1).2]
  exact relL_one h
theorem cellsK_rel {β:Type} {r:β} {P:Program} {t:TypeId} {c:V} {k:List V→Option β} (h:cellsK P t c none k=some r) {w:World} {pv:Nat→Prop} {ρ:Nat→Option Info} {v:Value} (hr:Rel w pv ρ v c) :
 ∃ i cs,P.info? t=some i∧cs.length=i.size∧cs.all V.one=true∧k cs=some r∧RelL w pv ρ v.cells cs:=by
 obtain⟨i,hi,⟨cs,rfl,h1,h2,h3,_⟩ | ⟨h1,h2,h3,_⟩⟩:=cellsK_inv h
 ·exact⟨i,cs,hi,h2,h1,h3,(cells_rel hr).1 cs rfl⟩
 ·exact⟨i,[c],hi,by simp[h2],by simp[h1],h3,(cells_rel hr).2 h1⟩
class Start where
 w:World
def Glo [Start] (N:Nat→Prop) (w:World):Prop:=∀ b,b<(Start.w).heap.size→N b∧w.heap[b]? = (Start.w).heap[b]?
theorem Glo.to [Start] {N:Nat→Prop} {w w':World} (h:Glo N w) (hb:BelowP N w w'):Glo N w':=fun b hb8=>⟨(h b hb8).1,(hb.block b (h b hb8).1).trans (h b hb8).2⟩
def GloW [Start] (w:World):Prop:=Glo (fun r=>r<w.heap.size) w
theorem Glo.wide [Start] {N:Nat→Prop} {w:World} (h:Glo N w) (hl:∀ r,N r→r<w.heap.size):GloW w:=fun b hb=>⟨hl b (h b hb).1,(h b hb).2⟩
variable [Start]
structure Pre (N:Nat→Prop) (w:World) (pv:Nat→Prop) (ρ:Nat→Option Info) (hp:List Slot):Prop where
 slots:SRel N w pv ρ hp
 low:(∀ r,N r→r<w.heap.size)
 lt:∀ r,pv r→r<w.heap.size
 glo:Glo N w
theorem Pre.fresh {N:Nat→Prop} {w:World} {pv:Nat→Prop} {ρ:Nat→Option Info} {hp:List Slot} (h:Pre N w pv ρ hp):¬ N w.heap.size:=fun hN=>Nat.lt_irrefl _ (h.low _ hN)
def OpOk (P:Program) (N:Nat→Prop) (w:World) (pv:Nat→Prop) (ρ:Nat→Option Info) (hp:List Slot) (o:Oper) (a:Act) (v:V) (ws:List (Nat × Slot)):Prop :=
 ∀ (next:Act→World→Prop) (Q:Exit→Act→World→Prop),(∀ v' w' pv' ρ',Step N w w' pv pv' ρ ρ'→Rel w' pv' ρ' v' v→SRel N w' pv' ρ' (setSlots hp ws)→next (a.put o.dst v') w') →
  o.upon P a next Q ((execOp a.eval o).run P w)
def OpPan (P:Program) (N:Nat→Prop) (w:World) (pv:Nat→Prop) (ρ:Nat→Option Info) (hp:List Slot) (o:Oper) (a:Act) (c:V):Prop :=
 ∀ (next:Act→World→Prop) (Q:Exit→Act→World→Prop),(∀ v' w' pv' ρ',Step N w w' pv pv' ρ ρ'→Rel w' pv' none_ v' c→SRel N w' pv' ρ' hp→Q (.panic [{ v:=v',recovered:=false }]) a w') →
  o.upon P a next Q ((execOp a.eval o).run P w)
section
variable {P:Program} {N:Nat→Prop} {w:World} {pv:Nat→Prop} {ρ:Nat→Option Info} {hp:List Slot} {o:Oper} {a:Act} {v:V}
theorem OpOk.pure_ (pre:Pre N w pv ρ hp) {v':Value} (hrun:(execOp a.eval o).run P w = .ok (.value v') w) (hr:Rel w pv ρ v' v):OpOk P N w pv ρ hp o a v []:=by
 intro next Q hn
 rw[hrun]
 exact hn v' w pv ρ (Step.id_ pre.lt) hr pre.slots
theorem OpOk.new_ (pre:Pre N w pv ρ hp) {fr:Nat} (hfr:hp[fr]? = none∨hp[fr]? = some .free) (hle:fr≤hp.length) {v':Value} {ob:Obj} {i:Info} {s:Slot} (hi:i.r=w.heap.size)
 (hrun:(execOp a.eval o).run P w = .ok (.value v') (w.alloc ob))
 (hnew:SlotR N (w.alloc ob) (fun r=>pv r∨r=w.heap.size) (fun b=>if b=fr then some i else ρ b) (some i) s)
 (hr:Rel (w.alloc ob) (fun r=>pv r∨r=w.heap.size) (fun b=>if b=fr then some i else ρ b) v' v):OpOk P N w pv ρ hp o a v [(fr,s)]:=by
 intro next Q hn
 rw[hrun]
 exact hn v' _ _ _ (step_alloc pre.low pre.lt ob (free_of pre.slots hfr) i) hr (srel_new pre.slots pre.low pre.lt hfr hle ob i hi s hnew)
end
section
variable {P:Program} {N:Nat→Prop} {w:World} {pv:Nat→Prop} {ρ:Nat→Option Info} {hp:List Slot} {o:Oper} {a:Act}
theorem ok_newbox (pre:Pre N w pv ρ hp) {fr:Nat} (hfr:hp[fr]? = none∨hp[fr]? = some .free) (hle:fr≤hp.length) {t:TypeId} {vs:Array Value} {cs:List V} (hvs:RelL w pv ρ vs cs) (hone:cs.all V.one=true)
 (hrun:(execOp a.eval o).run P w = .ok (.value (.pointer (some ⟨w.heap.size,0,none⟩))) (w.alloc (.cells vs t))) :
 OpOk P N w pv ρ hp o a (.optr fr 0 0) [(fr,.box t cs true)]:=by
 refine OpOk.new_ (i:=⟨w.heap.size,1,cs.length⟩) pre hfr hle rfl hrun ?_ ?_
 ·refine⟨w.heap.size,vs,rfl,pre.fresh,heap_alloc_new w _,?_,hone,fun _=>.inr rfl⟩
  exact hvs.to (step_alloc pre.low pre.lt _ (free_of pre.slots hfr) _)
 ·have h0:=@Rel.optr (w.alloc (.cells vs t)) (fun r=>pv r∨r=w.heap.size) (fun b=>if b=fr then some ⟨w.heap.size,1,cs.length⟩ else ρ b) fr 0 0 w.heap.size 1 cs.length (by simp) (by omega)
  simpa using h0
end
end Go.Sim

namespace Go.Sim
open Go.RowKit
variable [Start]
section
variable {P:Program} {N:Nat→Prop} {w:World} {pv:Nat→Prop} {ρ:Nat→Option Info} {hp:List Slot} {o:Oper} {a:Act} {e:Operand→V}
theorem run_isAgg (t:TypeId) (d:TypeDesc) (h:P.underlying t=some d) (w:World):(isAgg t).run P w = .ok (aggT P t) w:=by
 unfold aggT
 rw[h]
 cases d<;>simp[isAgg,run_underlying h]
theorem run_size {t:TypeId} {i:TypeInfo} (h:P.info? t=some i) (w:World):(sizeOf t).run P w = .ok i.size w:=by
 simp[sizeOf,typeInfo,h]
theorem run_loadVar {t:TypeId} {d:TypeDesc} (hu:P.underlying t=some d) {i:TypeInfo} (hi:P.info? t=some i) (ad:Addr) (vs:Nat→Value)
 (hc:∀ j,j<i.size→w.cell? (ad.add j)=some (vs j)) (h1:aggT P t=false→w.cell? ad=some (vs 0)) :
 (loadVar t ad).run P w = .ok (if aggT P t then .agg ((List.range i.size).map vs).toArray else vs 0) w:=by
 unfold loadVar
 simp only[Sem.run_bind,run_isAgg t d hu,Result.andThen_ok]
 cases ha:aggT P t with
 |true=>simp[run_size hi,run_loadCells w ad i.size vs hc]
 |false=>simp[h1 ha]
theorem addr_add (a:Addr) (i j:Nat):(a.add i).add j=a.add (i+j):=by
 unfold Addr.add
 by_cases hi:i=0<;>by_cases hj:j=0<;>simp[hi,hj,Nat.add_assoc]
theorem addr_lit (r o n:Nat):(⟨r,o,none⟩:Addr).add n=⟨r,o+n,none⟩:=by unfold Addr.add;split<;>simp_all
theorem load_part {β:Type} {r:β} {t:TypeId} {cs:List V} {off:Nat} {k:V→Option β} (h:partK P t (cs.drop off) none k=some r) (ad:Addr) (vs:Nat→Value)
 (hc:∀ j,j<cs.length→w.cell? (ad.add j)=some (vs j)) (hv:∀ (j:Nat) c,cs[j]? = some c→Rel w pv ρ (vs j) c) :
 ∃ v' v,k v=some r∧(loadVar t (ad.add off)).run P w = .ok v' w∧Rel w pv ρ v' v:=by
 obtain⟨i,hi,⟨d,hu⟩,⟨ha,hlen,hk⟩ | ⟨ha,c,r',hcs,hk⟩⟩:=partK_inv h
 ·have hlen':i.size≤cs.length - off:=by simp at hlen;omega
  have hlt:∀ j,j<i.size→off+j<cs.length:=fun j hj=>by omega
  refine⟨.agg ((List.range i.size).map fun j=>vs (off+j)).toArray,_,hk,?_,?_⟩
  ·have:=run_loadVar (P:=P) (w:=w) hu hi (ad.add off) (fun j=>vs (off+j)) (fun j hj=>by rw[addr_add];exact hc _ (hlt j hj)) (fun hf=>by rw[ha] at hf;cases hf)
   rw[this,ha]
   rfl
  ·refine .agg (by simp;omega) fun j v c h1 h2=>?_
   have hj:j<i.size:=by
    rcases Nat.lt_or_ge j i.size with hx | hx
    ·exact hx
    ·rw[List.getElem?_take_eq_none hx] at h2;cases h2
   rw[List.getElem?_take_of_lt hj,List.getElem?_drop] at h2
   simp[hj] at h1
   subst h1
   exact hv _ _ h2
 ·have hc0:cs[off]? = some c:=by
   have:(cs.drop off)[0]? = some c:=by rw[hcs];rfl
   rwa [List.getElem?_drop,Nat.add_zero] at this
  have hlt:off<cs.length:=(List.getElem?_eq_some_iff.1 hc0).1
  refine⟨vs off,c,hk,?_,hv _ _ hc0⟩
  unfold loadVar
  simp only[Sem.run_bind,run_isAgg t d hu,Result.andThen_ok,ha]
  simp[hc off hlt]
theorem loadK_run {β:Type} {r:β} (pre:Pre N w pv ρ hp) {t:TypeId} {u:Value} {c:V} (he:Rel w pv ρ u c) {k:KOp (Option β)}
 (h:loadK P hp t c none k=some r):∃ v rd ad v',k v [] rd=some r∧u = .pointer (some ad)∧(loadVar t ad).run P w = .ok v' w∧Rel w pv ρ v' v:=by
 unfold loadK at h
 split at h
 ·rename_i b i off
  split at h
  ·rename_i el cs wr hsl
   have hb:hp[b]? = some (.box el cs wr):=by
    rw[List.getD_eq_getElem?_getD] at hsl
    cases hx:hp[b]? with
    |none=>simp[hx] at hsl
    |some s=>simpa[hx] using hsl
   obtain⟨r0,vs,hρ,hN,hh,⟨hsz,hrel⟩,hall,hwr⟩:=pre.slots.slot b _ hb
   cases he with
   |@optr _ _ _ _ r1 len wd hr hi =>
    rw[hρ] at hr
    injection hr with hr
    injection hr with e1 e2 e3
    subst e1 e2 e3
    have hi0:i=0:=by omega
    subst hi0
    obtain⟨v',v,hk,hrun,hrv⟩:=load_part (w:=w) (pv:=pv) (ρ:=ρ) h ⟨r0,0,none⟩ (fun j=>vs.getD j undef)
     (fun j hj=>by rw[addr_lit];simp only[World.cell?,hh];simp[show j<vs.size by omega])
     (fun j c hc=>by
      have hj:j<vs.size:=by have:=(List.getElem?_eq_some_iff.1 hc).1;omega
      exact hrel j _ c (by simp[hj]) hc)
    rw[addr_lit] at hrun
    exact⟨v,_,⟨r0,off,none⟩,v',hk,by simp,by simpa using hrun,hrv⟩
  ·rename_i el wd0 len0 get wr hsl
   have hb:hp[b]? = some (.arr el wd0 len0 get wr):=by
    rw[List.getD_eq_getElem?_getD] at hsl
    cases hx:hp[b]? with
    |none=>simp[hx] at hsl
    |some s=>simpa[hx] using hsl
   obtain⟨r0,vs,hρ,hN,hh,hsz,hgl,hrel,hwr⟩:=pre.slots.slot b _ hb
   cases he with
   |@optr _ _ _ _ r1 len wd hr hi =>
    rw[hρ] at hr
    injection hr with hr
    injection hr with e1 e2 e3
    subst e1 e2 e3
    obtain⟨v',v,hk,hrun,hrv⟩:=load_part (w:=w) (pv:=pv) (ρ:=none_) h ⟨r0,i*wd0,none⟩ (fun j=>vs.getD (i*wd0+j) undef)
     (fun j hj=>by
      rw[hgl i hi] at hj
      obtain⟨v0,hv0,_⟩:=hrel i j _ hi (List.getElem?_eq_getElem (by rw[hgl i hi];exact hj))
      rw[addr_lit];simp only[World.cell?,hh];simp[hv0])
     (fun j c hc=>by
      obtain⟨v0,hv0,hr0,_⟩:=hrel i j c hi hc
      simpa[hv0] using hr0)
    rw[addr_lit] at hrun
    exact⟨v,_,_,v',tyK_inv hk,rfl,hrun,hrv.closed ρ⟩
  ·cases h
 ·rename_i len wd get i off
  cases he with
  |@rptr _ ad _ _ _ _ _ vs hi hb hl hc hv hone =>
   obtain⟨v',v,hk,hrun,hrv⟩:=load_part (w:=w) (pv:=pv) (ρ:=none_) h (ad.add (i*wd)) (fun j=>vs i j)
    (fun j hj=>by rw[hl i hi] at hj;rw[addr_add];exact hc i j hi hj) (fun j c hcc=>hv i j c hi hcc)
   rw[addr_add] at hrun
   exact⟨v,_,_,v',tyK_inv hk,rfl,hrun,hrv.closed ρ⟩
 ·rename_i b i off wd
  split at h
  ·rename_i el wd' len0 get wr hsl
   have hb:hp[b]? = some (.win el wd' len0 get wr):=by
    rw[List.getD_eq_getElem?_getD] at hsl
    cases hx:hp[b]? with
    |none=>simp[hx] at hsl
    |some s=>simpa[hx] using hsl
   obtain⟨hc0,h2⟩:=bif_inv h
   clear h
   have h:=h2
   clear h2
   rw[Bool.and_eq_true] at hc0
   obtain⟨hw,hi0⟩:=hc0
   have hw:=Nat.eq_of_beq_eq_true hw
   subst hw
   have hi:i<len0:=by simpa using hi0
   obtain⟨r0,base,vs,hρ,hN,hh,hgl,hrel,hwr⟩:=pre.slots.slot b _ hb
   cases he with
   |@wptr _ _ _ _ _ r1 base1 hr =>
    rw[hρ] at hr
    injection hr with hr
    injection hr with e1 e2 e3
    subst e1 e2
    obtain⟨v',v,hk,hrun,hrv⟩:=load_part (w:=w) (pv:=pv) (ρ:=none_) h ⟨r0,base+i*wd',none⟩ (fun j=>vs.getD (base+(i*wd'+j)) undef)
     (fun j hj=>by
      rw[hgl i hi] at hj
      obtain⟨v0,hv0,_⟩:=hrel i j _ hi (List.getElem?_eq_getElem (by rw[hgl i hi];exact hj))
      rw[addr_lit];simp only[World.cell?,hh];rw[Nat.add_assoc];simp[hv0])
     (fun j c hc=>by
      obtain⟨v0,hv0,hr0,_⟩:=hrel i j c hi hc
      simpa[hv0] using hr0)
    rw[addr_lit] at hrun
    exact⟨v,_,_,v',tyK_inv hk,rfl,hrun,hrv.closed ρ⟩
  ·cases h
 ·cases h
theorem ok_load {β:Type} {r:β} (pre:Pre N w pv ρ hp) {t:TypeId} {x:Operand} (ho:o.op = .load t x) (he:Rel w pv ρ (a.eval x) (e x)) {k:KOp (Option β)}
 (h:loadK P hp t (e x) none k=some r):∃ v ws rd,k v ws rd=some r∧OpOk P N w pv ρ hp o a v ws:=by
 obtain⟨v,rd,ad,v',hk,hu,hrun,hr⟩:=loadK_run (P:=P) pre he h
 exact⟨v,[],rd,hk,OpOk.pure_ pre (v':=v') (by simp[execOp,ho,hu,Instr.loadAt,Instr.sureAddr,hrun]) hr⟩
theorem fieldK_inv {β:Type} {r:β} {s:TypeId} {f:Nat} {k:Field→Option β} (h:fieldK P s f none k=some r):∃ fs x,P.underlying s=some (.struct fs)∧fs[f]? = some x∧k x=some r:=by
 unfold fieldK at h
 split at h
 ·rename_i fs hu
  split at h
  ·rename_i x hx
   exact⟨fs,x,hu,hx,h⟩
  ·cases h
 ·cases h
theorem ok_fieldAddr {β:Type} {r:β} (pre:Pre N w pv ρ hp) {s:TypeId} {x:Operand} {f:Nat} (ho:o.op = .fieldAddr s x f) (he:Rel w pv ρ (a.eval x) (e x)) {k:KOp (Option β)}
 (h:(fieldK P s f none fun fd=>szK P fd.type none fun n=>bif n==0 then none else (match e x with
 |.optr b i off=>k (.optr b i (off+fd.offset)) [] []
 |.rptr len wd get i off=>k (.rptr len wd get i (off+fd.offset)) [] []
 |_=>none))=some r):∃ v ws rd,k v ws rd=some r∧OpOk P N w pv ρ hp o a v ws:=by
 obtain⟨fs,fd,hu,hf,h⟩:=fieldK_inv h
 obtain⟨i,hi,h⟩:=szK_inv h
 obtain⟨hz,h⟩:=bifn_inv h
 have hz':i.size ≠ 0:=by simpa using hz
 have run_of:∀ {ad:Addr},a.eval x = .pointer (some ad)→(execOp a.eval o).run P w = .ok (.value (.pointer (some (ad.add fd.offset)))) w:=by
  intro ad h1
  simp[execOp,ho,h1,Instr.fieldAt,Instr.sureAddr,run_underlying hu,hf,fieldPlace,run_size hi,hz']
 split at h
 ·rename_i b j off hex
  rw[hex] at he
  generalize hval:a.eval x=va at he
  cases he with
  |optr hr hj =>
   have h0:=run_of (by rw[hval])
   rw[addr_lit] at h0
   exact⟨_,_,_,h,OpOk.pure_ pre h0 (by rw[Nat.add_assoc];exact .optr hr hj)⟩
 ·rename_i len wd get j off hex
  rw[hex] at he
  generalize hval:a.eval x=va at he
  cases he with
  |rptr vs hi hb hl hc hv hone =>
   have h0:=run_of (by rw[hval])
   rw[addr_add] at h0
   exact⟨_,_,_,h,OpOk.pure_ pre h0 (by rw[Nat.add_assoc];exact .rptr vs hi hb hl hc hv hone)⟩
 ·cases h
theorem run_part_ {t:TypeId} {d:TypeDesc} (hu:P.underlying t=some d) {i:TypeInfo} (hi:P.info? t=some i) (cs:Array Value) (off:Nat) {v:Value} (h:aggT P t=false→cs[off]? = some v) :
 (part t cs off).run P w = .ok (if aggT P t then .agg (cs.extract off (off+i.size)) else v) w:=by
 unfold part
 simp only[Sem.run_bind,run_isAgg t d hu,Result.andThen_ok]
 cases ha:aggT P t with
 |true=>simp[run_size hi]
 |false=>simp[h ha]
theorem part_rel {β:Type} {r:β} {t:TypeId} {cs:List V} {off:Nat} {k:V→Option β} (h:partK P t (cs.drop off) none k=some r) {vs:Array Value} (hv:RelL w pv ρ vs cs) :
 ∃ v' v,k v=some r∧(part t vs off).run P w = .ok v' w∧Rel w pv ρ v' v:=by
 obtain⟨i,hi,⟨d,hu⟩,⟨ha,hlen,hk⟩ | ⟨ha,c,r',hcs,hk⟩⟩:=partK_inv h
 ·refine⟨_,_,hk,run_part_ hu hi vs off (v:=undef) (fun hf=>by rw[ha] at hf;cases hf),?_⟩
  rw[ha]
  have hs:=hv.1
  refine .agg (by simp at hlen ⊢;omega) fun j v c h1 h2=>?_
  have hj:j<i.size:=by
   rcases Nat.lt_or_ge j i.size with hx | hx
   ·exact hx
   ·rw[List.getElem?_take_eq_none hx] at h2;cases h2
  rw[List.getElem?_take_of_lt hj,List.getElem?_drop] at h2
  simp only[Array.getElem?_extract] at h1
  split at h1
  ·exact hv.2 _ _ _ h1 h2
  ·cases h1
 ·have hc0:cs[off]? = some c:=by
   have:(cs.drop off)[0]? = some c:=by rw[hcs];rfl
   rwa [List.getElem?_drop,Nat.add_zero] at this
  have hlt:off<vs.size:=by have:=(List.getElem?_eq_some_iff.1 hc0).1;have:=hv.1;omega
  refine⟨_,c,hk,run_part_ hu hi vs off (v:=vs[off]) (fun _=>by simp[hlt]),?_⟩
  rw[ha]
  exact hv.2 off _ c (by simp[hlt]) hc0
theorem ok_field {β:Type} {r:β} (pre:Pre N w pv ρ hp) {t:TypeId} {x:Operand} {f:Nat} (ho:o.op = .field t x f) (he:Rel w pv ρ (a.eval x) (e x)) {k:KOp (Option β)}
 (h:(fieldK P t f none fun fd=>tkAgg (e x) none fun cs=>partK P fd.type (cs.drop fd.offset) none fun v=>k v [] [])=some r):∃ v ws rd,k v ws rd=some r∧OpOk P N w pv ρ hp o a v ws:=by
 obtain⟨fs,fd,hu,hf,h⟩:=fieldK_inv h
 obtain⟨cs,hex,h⟩:=tkAgg_inv h
 rw[hex] at he
 generalize hval:a.eval x=va at he
 cases he with
 |@agg _ vs _ hl hh =>
  obtain⟨v',v,hk,hrun,hr⟩:=part_rel (w:=w) (pv:=pv) (ρ:=ρ) h (vs:=vs) ⟨hl,hh⟩
  exact⟨v,[],[],hk,OpOk.pure_ pre (by simp[execOp,ho,hval,Instr.field,run_underlying hu,hf,asAgg,hrun]) hr⟩
theorem ok_index {β:Type} {r:β} (pre:Pre N w pv ρ hp) {t:TypeId} {x ix:Operand} (ho:o.op = .index t x ix) (he:Rel w pv ρ (a.eval x) (e x)) (hi:Rel w pv ρ (a.eval ix) (e ix)) {k:KOp (Option β)} {n:Nat} {el:TypeId} (hu:P.underlying t=some (.array n el))
 (h:(tkInt (e ix) none fun _ i=>tkAgg (e x) none fun cs=>bif decide (0≤i) then bif decide (i<n) then szK P el none fun wd=>partK P el (cs.drop (i.toNat*wd)) none fun v=>tyK P el v none fun v'=>k v' [] [] else none else none)=some r) :
 ∃ v ws rd,k v ws rd=some r∧OpOk P N w pv ρ hp o a v ws:=by
 obtain⟨q,i,hei,h⟩:=tkInt_inv h
 obtain⟨cs,hex,h⟩:=tkAgg_inv h
 obtain⟨h0,h⟩:=bif_inv h
 obtain⟨h1,h⟩:=bif_inv h
 obtain⟨ti,hti,h⟩:=szK_inv h
 rw[hex] at he
 rw[hei] at hi
 generalize hval:a.eval x=va at he
 generalize hvi:a.eval ix=vi at hi
 cases hi
 cases he with
 |@agg _ vs _ hl hh =>
  obtain⟨v',v,hk0,hrun,hr⟩:=part_rel (w:=w) (pv:=pv) (ρ:=ρ) h (vs:=vs) ⟨hl,hh⟩
  have hk:=tyK_inv hk0
  have hb:0≤i∧i<n:=⟨by simpa using h0,by simpa using h1⟩
  exact⟨v,[],[],hk,OpOk.pure_ pre (by simp[execOp,ho,hval,hvi,Instr.index,asIntOf,run_underlying hu,run_size hti,hb,hrun]) hr⟩
theorem ok_indexStr {β:Type} {r:β} (pre:Pre N w pv ρ hp) {t:TypeId} {x ix:Operand} (ho:o.op = .index t x ix) (he:Rel w pv ρ (a.eval x) (e x)) (hi:Rel w pv ρ (a.eval ix) (e ix)) {k:KOp (Option β)} (hu:P.underlying t=some .string)
 (h:(tkInt (e ix) none fun _ i=>tkStr (e x) none fun s=>tkByte (if 0≤i then s[i.toNat]? else none) none fun b=>k (.int .u8 (b.toNat:Int)) [] [])=some r) :
 ∃ v ws rd,k v ws rd=some r∧OpOk P N w pv ρ hp o a v ws:=by
 obtain⟨q,i,hei,h⟩:=tkInt_inv h
 obtain⟨s,hex,h⟩:=tkStr_inv h
 rw[hex] at he
 rw[hei] at hi
 generalize hval:a.eval x=va at he
 generalize hvi:a.eval ix=vi at hi
 cases hi
 cases he
 cases hb:(if 0≤i then s[i.toNat]? else none) with
 |none=>rw[hb] at h;cases h
 |some b =>
  rw[hb] at h
  exact⟨_,[],[],h,OpOk.pure_ pre (v':=.int .u8 (b.toNat:Int)) (by simp only[execOp,ho,hval,hvi,Instr.index,asIntOf,run_underlying hu,Sem.run_bind,Sem.run_pure,Result.andThen_ok,hb]) .int⟩
theorem ok_indexAddr {β:Type} {r:β} (pre:Pre N w pv ρ hp) {t:TypeId} {x ix:Operand} (ho:o.op = .indexAddr t x ix) (he:Rel w pv ρ (a.eval x) (e x)) (hi:Rel w pv ρ (a.eval ix) (e ix)) {k:KOp (Option β)} {el:TypeId} (hu:P.underlying t=some (.slice el))
 (h:(szK P el none fun sz=>tkInt (e ix) none fun _ i=>(match e x with
  |.osl b lo n=>bif (match hp.getD b .free with | .arr _ wd _ _ _=>wd==sz | .box _ cs _=>cs.length==sz | .buf _ wd _ _=>wd==sz | _=>false) then bif decide (0≤i) then bif decide (i<n) then k (.optr b (i.toNat+lo) 0) [] [b] else none else none else none
  |.row _ n wd get=>bif wd==sz then bif decide (0≤i) then bif decide (i<n) then k (.rptr n wd get i.toNat 0) [] [] else none else none else none
  |.psl b off n=>bif decide (0≤i) then bif decide (i<n) then k (.optr b 0 (off+i.toNat*sz)) [] [] else none else none
  |.wsl b n wd=>bif Nat.beq wd sz then bif decide (0≤i) then bif decide (i<n) then k (.wptr b i.toNat 0 wd) [] [] else none else none else none
  |_=>none))=some r):∃ v ws rd,k v ws rd=some r∧OpOk P N w pv ρ hp o a v ws:=by
 obtain⟨ti,hti,h⟩:=szK_inv h
 obtain⟨q,i,hei,h⟩:=tkInt_inv h
 rw[hei] at hi
 generalize hvi:a.eval ix=vi at hi
 cases hi
 split at h
 ·rename_i b lo n hex
  obtain⟨hw,h⟩:=bif_inv h
  obtain⟨h0,h⟩:=bif_inv h
  obtain⟨h1,h⟩:=bif_inv h
  have hb:0≤i∧i<n:=⟨by simpa using h0,by simpa using h1⟩
  rw[hex] at he
  generalize hval:a.eval x=va at he
  cases he with
  |@osl _ _ _ _ r0 len wd cap el' cs hr hn hcap hcs hsz hmax =>
   have hwd:wd=ti.size:=by
    split at hw
    ·rename_i e1 wd1 len1 get1 wr1 hsl
     have hb:hp[b]? = some (.arr e1 wd1 len1 get1 wr1):=by
      rw[List.getD_eq_getElem?_getD] at hsl
      cases hx:hp[b]? with
      |none=>simp[hx] at hsl
      |some s=>simpa[hx] using hsl
     obtain⟨r1,vs,hρ,_⟩:=pre.slots.slot b _ hb
     rw[hρ] at hr
     injection hr with hr
     injection hr with e1 e2 e3
     subst e3
     simpa using hw
    ·rename_i e1 cs1 wr1 hsl
     have hb:hp[b]? = some (.box e1 cs1 wr1):=by
      rw[List.getD_eq_getElem?_getD] at hsl
      cases hx:hp[b]? with
      |none=>simp[hx] at hsl
      |some s=>simpa[hx] using hsl
     obtain⟨r1,vs,hρ,_⟩:=pre.slots.slot b _ hb
     rw[hρ] at hr
     injection hr with hr
     injection hr with e1 e2 e3
     subst e3
     simpa using hw
    ·rename_i e1 wd1 len1 get1 hsl
     have hb:hp[b]? = some (.buf e1 wd1 len1 get1):=by
      rw[List.getD_eq_getElem?_getD] at hsl
      cases hx:hp[b]? with
      |none=>simp[hx] at hsl
      |some s=>simpa[hx] using hsl
     obtain⟨r1,vs,hρ,_⟩:=pre.slots.slot b _ hb
     rw[hρ] at hr
     injection hr with hr
     injection hr with e1 e2 e3
     subst e3
     simpa using hw
    ·cases hw
   have hi':i.toNat<n:=by omega
   refine⟨_,_,_,h,OpOk.pure_ pre (v':=.pointer (some ⟨r0,lo*wd+i.toNat*ti.size,none⟩)) ?_ ?_⟩
   ·simp[execOp,ho,hval,hvi,Instr.indexAt,asIntOf,run_underlying hu,run_size hti,hb,addr_lit]
   ·have:=@Rel.optr w pv ρ b (i.toNat+lo) 0 r0 len wd hr (by omega)
    rw[← hwd]
    simpa[Nat.add_mul,Nat.add_comm] using this
 ·rename_i nl n wd get hex
  obtain⟨hw,h⟩:=bif_inv h
  obtain⟨h0,h⟩:=bif_inv h
  obtain⟨h1,h⟩:=bif_inv h
  have hb:0≤i∧i<n:=⟨by simpa using h0,by simpa using h1⟩
  have hwd:wd=ti.size:=by simpa using hw
  rw[hex] at he
  generalize hval:a.eval x=va at he
  have hi':i.toNat<n:=by omega
  cases he with
  |nilrow=>omega
  |@row _ ad _ cap _ _ vs hcap hbl hl hc hv hone =>
   refine⟨_,_,_,h,OpOk.pure_ pre (v':=.pointer (some (ad.add (i.toNat*ti.size)))) ?_ ?_⟩
   ·simp[execOp,ho,hval,hvi,Instr.indexAt,asIntOf,run_underlying hu,run_size hti,hb]
   ·rw[← hwd]
    have h9:=@Rel.rptr w pv ρ ad n wd get i.toNat 0 vs hi' (hbl (by omega)) hl hc hv hone
    simpa using h9
 ·rename_i b off n hex
  obtain⟨h0,h⟩:=bif_inv h
  obtain⟨h1,h⟩:=bif_inv h
  have hb:0≤i∧i<n:=⟨by simpa using h0,by simpa using h1⟩
  rw[hex] at he
  generalize hval:a.eval x=va at he
  cases he with
  |@psl _ _ _ _ r0 len wd hr hl =>
   refine⟨_,_,_,h,OpOk.pure_ pre (v':=.pointer (some ⟨r0,off+i.toNat*ti.size,none⟩)) ?_ ?_⟩
   ·simp[execOp,ho,hval,hvi,Instr.indexAt,asIntOf,run_underlying hu,run_size hti,hb,addr_lit]
   ·have:=@Rel.optr w pv ρ b 0 (off+i.toNat*ti.size) r0 len wd hr hl
    simpa using this
 ·rename_i b n wd hex
  obtain⟨hw,h⟩:=bif_inv h
  obtain⟨h0,h⟩:=bif_inv h
  obtain⟨h1,h⟩:=bif_inv h
  have hb:0≤i∧i<n:=⟨by simpa using h0,by simpa using h1⟩
  have hwd:wd=ti.size:=Nat.eq_of_beq_eq_true hw
  rw[hex] at he
  generalize hval:a.eval x=va at he
  cases he with
  |@wsl _ _ _ r0 base cap _ _ cs hr hcap hcs hsz hmax =>
   refine⟨_,_,_,h,OpOk.pure_ pre (v':=.pointer (some ⟨r0,base+i.toNat*ti.size,none⟩)) ?_ ?_⟩
   ·simp[execOp,ho,hval,hvi,Instr.indexAt,asIntOf,run_underlying hu,run_size hti,hb,addr_lit]
   ·rw[← hwd]
    exact @Rel.wptr w pv ρ b i.toNat 0 wd r0 base hr
 ·cases h
theorem ok_indexArr {β:Type} {r:β} (pre:Pre N w pv ρ hp) {t:TypeId} {x ix:Operand} (ho:o.op = .indexAddr t x ix) (he:Rel w pv ρ (a.eval x) (e x)) (hi:Rel w pv ρ (a.eval ix) (e ix)) {k:KOp (Option β)} {n:Nat} {el:TypeId} (hu:P.underlying t=some (.array n el))
 (h:(szK P el none fun sz=>tkInt (e ix) none fun _ i=>(match e x with
  |.optr b j off=>bif decide (0≤i) then bif decide (i<n) then k (.optr b j (off+i.toNat*sz)) [] [] else none else none
  |_=>none))=some r):∃ v ws rd,k v ws rd=some r∧OpOk P N w pv ρ hp o a v ws:=by
 obtain⟨ti,hti,h⟩:=szK_inv h
 obtain⟨q,i,hei,h⟩:=tkInt_inv h
 rw[hei] at hi
 generalize hvi:a.eval ix=vi at hi
 cases hi
 split at h
 ·rename_i b j off hex
  obtain⟨h0,h⟩:=bif_inv h
  obtain⟨h1,h⟩:=bif_inv h
  have hb:0≤i∧i<n:=⟨by simpa using h0,by simpa using h1⟩
  rw[hex] at he
  generalize hval:a.eval x=va at he
  cases he with
  |optr hr hj =>
   rename_i r0 len wd
   refine⟨_,_,_,h,OpOk.pure_ pre (v':=.pointer (some ⟨r0,j*wd+off+i.toNat*ti.size,none⟩)) ?_ (by rw[Nat.add_assoc];exact .optr hr hj)⟩
   simp[execOp,ho,hval,hvi,Instr.indexAt,asIntOf,Instr.sureAddr,run_underlying hu,run_size hti,hb,addr_lit]
 ·cases h
end
end Go.Sim

namespace Go.Sim
open Go.RowKit
variable [Start]
def OkEq (P:Program) (eqT:TypeId→Nat→Bool):Prop :=
 ∀ t (op:BinOp) (xs ys:Array Value) (x y:Operand) (w:World) (bs:List V) (cs:List V) (r:Bool),eqT t bs.length=true→eqCs (R:=Option Bool) bs cs none some=some r →
  (∀ (pv:Nat→Prop) (ρ:Nat→Option Info),RelL w pv ρ xs bs→RelL w pv ρ ys cs →
   (op = .eql→(do eqGuard op t x y (.agg xs) (.agg ys);binOp op t (.agg xs) (.agg ys):Sem Value).run P w = .ok (.bool r) w) ∧
   (op = .neq→(do eqGuard op t x y (.agg xs) (.agg ys);binOp op t (.agg xs) (.agg ys):Sem Value).run P w = .ok (.bool (!r)) w))
section
variable {P:Program} {N:Nat→Prop} {w:World} {pv:Nat→Prop} {ρ:Nat→Option Info} {hp:List Slot} {o:Oper} {a:Act} {e:Operand→V}
theorem eqGuard_int (op:BinOp) (t:TypeId) (x y:Operand) (q q':IntKind) (m n:Int) (w:World):(eqGuard op t x y (.int q m) (.int q' n)).run P w = .ok () w:=by
 unfold eqGuard;cases op<;>rfl
theorem eqGuard_bool (op:BinOp) (t:TypeId) (x y:Operand) (m n:Bool) (w:World):(eqGuard op t x y (.bool m) (.bool n)).run P w = .ok () w:=by
 unfold eqGuard;cases op<;>rfl
theorem eqGuard_str (op:BinOp) (t:TypeId) (x y:Operand) (m n:ByteArray) (w:World):(eqGuard op t x y (.string m) (.string n)).run P w = .ok () w:=by
 unfold eqGuard;cases op<;>rfl
theorem binOp_cat {t:TypeId} {m n:ByteArray} (h:m.size+n.size≤9223372036854775807):(binOp .add t (.string m) (.string n)).run P w = .ok (.string (m ++ n)) w:=by
 have:¬ ((9223372036854775807:Int)<(m.size:Int)+(n.size:Int)):=by omega
 simp[binOp,Op.stringOp,this]
theorem eqGuard_slice (op:BinOp) (t:TypeId) (x y:Operand) (b b':Option Addr) (n c n' c':Nat) (w:World):(eqGuard op t x y (.slice b n c) (.slice b' n' c')).run P w = .ok () w:=by
 unfold eqGuard;cases op<;>rfl
theorem binOp_int {op:BinOp} {t:TypeId} {q q':IntKind} {m n:Int} {β:Type} {r:β} {eqT:TypeId→Nat→Bool} {c:Bool} {d:Option TypeDesc} {k:V→Option β} (h:binK eqT c d op t (.int q m) (.int q' n) none k=some r) :
 ∃ v' v,k v=some r∧(binOp op t (.int q m) (.int q' n)).run P w = .ok v' w∧∀ pv ρ,Rel w pv ρ v' v:=by
 cases op with
 |shl =>
  have h':(bif decide (n<0) then none else k (.int q (q.wrap (m*2 ^ (min n.toNat q.bits)))))=some r:=h;clear h
  obtain⟨h0,h⟩:=bifn_inv h'
  exact⟨_,_,h,by simp only[binOp,Op.shift];rw[if_neg (by simpa using h0)];rfl,fun _ _=>.int⟩
 |shr =>
  have h':(bif decide (n<0) then none else k (.int q (m.fdiv (2 ^ (min n.toNat q.bits)))))=some r:=h;clear h
  obtain⟨h0,h⟩:=bifn_inv h'
  exact⟨_,_,h,by simp only[binOp,Op.shift];rw[if_neg (by simpa using h0)];rfl,fun _ _=>.int⟩
 |add =>
  have h':(bif decide (q=q') then k (.int q (q.wrap (m+n))) else none)=some r:=h;clear h
  obtain⟨h0,h⟩:=bif_inv h';obtain rfl:q=q':=by simpa using h0
  exact⟨.int q (q.wrap (m+n)),_,h,by simp[binOp,Op.intArith],fun _ _=>.int⟩
 |sub =>
  have h':(bif decide (q=q') then k (.int q (q.wrap (m - n))) else none)=some r:=h;clear h
  obtain⟨h0,h⟩:=bif_inv h';obtain rfl:q=q':=by simpa using h0
  exact⟨.int q (q.wrap (m - n)),_,h,by simp[binOp,Op.intArith],fun _ _=>.int⟩
 |mul =>
  have h':(bif decide (q=q') then k (.int q (q.wrap (m*n))) else none)=some r:=h;clear h
  obtain⟨h0,h⟩:=bif_inv h';obtain rfl:q=q':=by simpa using h0
  exact⟨.int q (q.wrap (m*n)),_,h,by simp[binOp,Op.intArith],fun _ _=>.int⟩
 |quo =>
  have h':(bif decide (q=q') then (bif decide (n=0) then none else k (.int q (q.wrap (m.tdiv n)))) else none)=some r:=h;clear h
  obtain⟨h0,h⟩:=bif_inv h';obtain rfl:q=q':=by simpa using h0
  obtain⟨h1,h⟩:=bifn_inv h
  exact⟨.int q (q.wrap (m.tdiv n)),_,h,by simp[binOp,Op.intDiv,show ¬ n=0 by simpa using h1],fun _ _=>.int⟩
 |rem =>
  have h':(bif decide (q=q') then (bif decide (n=0) then none else k (.int q (m.tmod n))) else none)=some r:=h;clear h
  obtain⟨h0,h⟩:=bif_inv h';obtain rfl:q=q':=by simpa using h0
  obtain⟨h1,h⟩:=bifn_inv h
  exact⟨.int q (m.tmod n),_,h,by simp[binOp,Op.intDiv,show ¬ n=0 by simpa using h1],fun _ _=>.int⟩
 |and =>
  have h':(bif decide (q=q') then k (.int q (q.wrap ((BitVec.ofInt q.bits m &&& BitVec.ofInt q.bits n).toNat))) else none)=some r:=h;clear h
  obtain⟨h0,h⟩:=bif_inv h';obtain rfl:q=q':=by simpa using h0
  exact⟨.int q (q.wrap ((BitVec.ofInt q.bits m &&& BitVec.ofInt q.bits n).toNat)),_,h,by simp[binOp,Op.intBits],fun _ _=>.int⟩
 |eql =>
  have h':(bif decide (q=q') then k (.bool (m==n)) else none)=some r:=h;clear h
  obtain⟨h0,h⟩:=bif_inv h';obtain rfl:q=q':=by simpa using h0
  exact⟨.bool (m==n),_,h,by simp[binOp,Op.intCmp],fun _ _=>.bool⟩
 |neq =>
  have h':(bif decide (q=q') then k (.bool (m != n)) else none)=some r:=h;clear h
  obtain⟨h0,h⟩:=bif_inv h';obtain rfl:q=q':=by simpa using h0
  exact⟨.bool (m != n),_,h,by simp[binOp,Op.intCmp],fun _ _=>.bool⟩
 |lss =>
  have h':(bif decide (q=q') then k (.bool (decide (m<n))) else none)=some r:=h;clear h
  obtain⟨h0,h⟩:=bif_inv h';obtain rfl:q=q':=by simpa using h0
  exact⟨.bool (decide (m<n)),_,h,by simp[binOp,Op.intCmp],fun _ _=>.bool⟩
 |leq =>
  have h':(bif decide (q=q') then k (.bool (decide (m≤n))) else none)=some r:=h;clear h
  obtain⟨h0,h⟩:=bif_inv h';obtain rfl:q=q':=by simpa using h0
  exact⟨.bool (decide (m≤n)),_,h,by simp[binOp,Op.intCmp],fun _ _=>.bool⟩
 |gtr =>
  have h':(bif decide (q=q') then k (.bool (decide (m>n))) else none)=some r:=h;clear h
  obtain⟨h0,h⟩:=bif_inv h';obtain rfl:q=q':=by simpa using h0
  exact⟨.bool (decide (m>n)),_,h,by simp[binOp,Op.intCmp],fun _ _=>.bool⟩
 |geq =>
  have h':(bif decide (q=q') then k (.bool (decide (m≥n))) else none)=some r:=h;clear h
  obtain⟨h0,h⟩:=bif_inv h';obtain rfl:q=q':=by simpa using h0
  exact⟨.bool (decide (m≥n)),_,h,by simp[binOp,Op.intCmp],fun _ _=>.bool⟩
 |_ =>
  have h':(bif decide (q=q') then none else none)=some r:=h;clear h
  obtain⟨h0,h⟩:=bif_inv h';cases h
theorem equalIn_bool (d:Nat) {t:TypeId} (hu:P.underlying t=some .bool) (m n:Bool) (w:World):(Op.equalIn (d+1) t (.bool m) (.bool n)).run P w = .ok (m==n) w:=by
 unfold Op.equalIn
 simp only[Sem.run_bind,run_underlying hu,Result.andThen_ok,Sem.run_pure]
theorem equalIn_slice (d:Nat) {t el:TypeId} (hu:P.underlying t=some (.slice el)) (b:Option Addr) (n c:Nat) (w:World):(Op.equalIn (d+1) t (.slice b n c) (.slice none 0 0)).run P w = .ok b.isNone w:=by
 unfold Op.equalIn
 simp only[Sem.run_bind,run_underlying hu,Result.andThen_ok]
 cases b<;>rfl
theorem equalIn_iface (d:Nat) {t:TypeId} {ms:Array (String × TypeId)} (hu:P.underlying t=some (.interface ms)) (tx:TypeId) (v:Value) (w:World):(Op.equalIn (d+1) t (.iface tx v) .nilIface).run P w = .ok false w:=by
 unfold Op.equalIn
 simp only[Sem.run_bind,run_underlying hu,Result.andThen_ok];rfl
theorem equalIn_nili (d:Nat) {t:TypeId} {ms:Array (String × TypeId)} (hu:P.underlying t=some (.interface ms)) (w:World):(Op.equalIn (d+1) t .nilIface .nilIface).run P w = .ok true w:=by
 unfold Op.equalIn
 simp only[Sem.run_bind,run_underlying hu,Result.andThen_ok];rfl
theorem eqGuard_iface (op:BinOp) (t:TypeId) (x y:Operand) (tx:TypeId) (v:Value) (w:World):(eqGuard op t x y (.iface tx v) .nilIface).run P w = .ok () w:=by
 unfold eqGuard;cases op<;>rfl
theorem nili_if (x y:Operand) (A B:Sem Unit):(if ((x matches .const _) || (y matches .const _))=true then A else B)=(if (isConst x || isConst y)=true then A else B):=by
 cases x<;>cases y<;>rfl
theorem eqGuard_nili (op:BinOp) {t:TypeId} {ms:Array (String × TypeId)} (hu:P.underlying t=some (.interface ms)) (x y:Operand) (hms:(isConst x || isConst y || ms.isEmpty)=true) (w:World):(eqGuard op t x y .nilIface .nilIface).run P w = .ok () w:=by
 have h2:∀ u:Sem Unit,(if (isConst x || isConst y)=true then (pure ():Sem Unit) else (do if ← Op.eqGuardIn Op.maxDepth t .nilIface .nilIface then u:Sem Unit)).run P w = .ok () w:=by
  intro u
  cases hb:isConst x || isConst y with
  |false =>
   rw[hb,Bool.false_or] at hms
   have hg:(Op.eqGuardIn Op.maxDepth t .nilIface .nilIface).run P w = .ok false w:=by
    show (Op.eqGuardIn (9999+1) t .nilIface .nilIface).run P w = .ok false w
    unfold Op.eqGuardIn
    simp only[Sem.run_bind,run_underlying hu,Result.andThen_ok,hms];rfl
   rw[if_neg (by simp)]
   refine (Sem.run_bind ..).trans ?_
   rw[hg];rfl
  |true=>rfl
 unfold eqGuard
 cases op<;>first | rfl | exact (congrArg (fun z:Sem Unit=>z.run P w) (nili_if x y _ _)).trans (h2 _)
theorem binOp_bool {op:BinOp} {t:TypeId} {m n:Bool} {β:Type} {r:β} {k:V→Option β} (hu:P.underlying t=some .bool) (h:(match op with | .eql=>k (.bool (m==n)) | .neq=>k (.bool (!(m==n))) | _=>none)=some r) :
 ∃ v' v,k v=some r∧(binOp op t (.bool m) (.bool n)).run P w = .ok v' w∧∀ pv ρ,Rel w pv ρ v' v:=by
 have he:(Op.equal t (.bool m) (.bool n)).run P w = .ok (m==n) w:=equalIn_bool 9999 hu m n w
 cases op with
 |eql=>exact⟨.bool (m==n),_,h,by unfold binOp;simp only[Sem.run_bind,he,Result.andThen_ok,Sem.run_pure],fun _ _=>.bool⟩
 |neq=>exact⟨.bool (!(m==n)),_,h,by unfold binOp;simp only[Sem.run_bind,he,Result.andThen_ok,Sem.run_pure],fun _ _=>.bool⟩
 |_=>cases h
theorem binOp_nil {op:BinOp} {t el:TypeId} {b:Option Addr} {n c:Nat} (hu:P.underlying t=some (.slice el)) :
 (op = .eql→(binOp op t (.slice b n c) (.slice none 0 0)).run P w = .ok (.bool b.isNone) w)∧(op = .neq→(binOp op t (.slice b n c) (.slice none 0 0)).run P w = .ok (.bool (!b.isNone)) w):=by
 have he:(Op.equal t (.slice b n c) (.slice none 0 0)).run P w = .ok b.isNone w:=equalIn_slice 9999 hu b n c w
 constructor
 ·rintro rfl;unfold binOp;simp only[Sem.run_bind,he,Result.andThen_ok,Sem.run_pure]
 ·rintro rfl;unfold binOp;simp only[Sem.run_bind,he,Result.andThen_ok,Sem.run_pure]
theorem isIfaceD_inv {c:Bool} {d:Option TypeDesc} (h:isIfaceD c d=true):∃ ms,d=some (.interface ms)∧(c || ms.isEmpty)=true:=by
 unfold isIfaceD at h
 split at h
 ·exact⟨_,rfl,h⟩
 ·cases h
theorem ok_binOp {β:Type} {r:β} {eqT:TypeId→Nat→Bool} (hq:OkEq P eqT) (pre:Pre N w pv ρ hp) {op:BinOp} {t yt:TypeId} {x y:Operand} (ho:o.op = .binOp op t x y yt) (hx:Rel w pv ρ (a.eval x) (e x)) (hy:Rel w pv ρ (a.eval y) (e y)) {k:KOp (Option β)}
 (h:(binK eqT (isConst x || isConst y) (P.underlying t) op t (e x) (e y) none fun v=>k v [] [])=some r):∃ v ws rd,k v ws rd=some r∧OpOk P N w pv ρ hp o a v ws:=by
 have run_of:∀ {v':Value},(eqGuard op t x y (a.eval x) (a.eval y)).run P w = .ok () w→(binOp op t (a.eval x) (a.eval y)).run P w = .ok v' w→(execOp a.eval o).run P w = .ok (.value v') w:=by
  intro v' h1 h2
  simp[execOp,ho,h1,h2]
 generalize hex:e x=ex at *
 generalize hey:e y=ey at *
 have h0:=h
 unfold binK at h
 split at h
 ·rename_i q m q' n
  clear h
  generalize hvx:a.eval x=vx at *
  generalize hvy:a.eval y=vy at *
  cases hx;cases hy
  obtain⟨v',v,hk,hrun,hr⟩:=binOp_int (P:=P) (w:=w) h0
  exact⟨v,[],[],hk,OpOk.pure_ pre (run_of (eqGuard_int ..) hrun) (hr pv ρ)⟩
 ·rename_i m n
  obtain⟨hd,h⟩:=bif_inv h
  have hu:P.underlying t=some .bool:=by
   unfold isBoolD at hd;split at hd
   ·assumption
   ·cases hd
  generalize hvx:a.eval x=vx at *
  generalize hvy:a.eval y=vy at *
  cases hx;cases hy
  obtain⟨v',v,hk,hrun,hr⟩:=binOp_bool (P:=P) (w:=w) (k:=fun v=>k v [] []) hu h
  exact⟨v,[],[],hk,OpOk.pure_ pre (run_of (eqGuard_bool ..) hrun) (hr pv ρ)⟩
 ·rename_i s s'
  generalize hvx:a.eval x=vx at *
  generalize hvy:a.eval y=vy at *
  cases hx;cases hy
  split at h
  ·obtain⟨hsz,h⟩:=bif_inv h
   exact⟨_,[],[],h,OpOk.pure_ pre (run_of (eqGuard_str ..) (binOp_cat (of_decide_eq_true hsz))) .str⟩
  ·exact⟨_,[],[],h,OpOk.pure_ pre (v':=.bool (s.toList==s'.toList)) (run_of (eqGuard_str ..) (by simp[binOp,Op.stringOp])) .bool⟩
  ·exact⟨_,[],[],h,OpOk.pure_ pre (v':=.bool (!(s.toList==s'.toList))) (run_of (eqGuard_str ..) (by simp[binOp,Op.stringOp])) .bool⟩
  ·cases h
 ·rename_i bs cs
  obtain⟨het,h⟩:=bif_inv h
  generalize hvx:a.eval x=vx at *
  generalize hvy:a.eval y=vy at *
  cases hx with
  |@agg _ xs _ hl1 hh1 =>
  cases hy with
  |@agg _ ys _ hl2 hh2 =>
  obtain⟨oo,hoo⟩:=eqCs_n bs cs
  cases oo with
  |none=>split at h<;>simp[hoo] at h
  |some b =>
   have h3:=hq t op xs ys x y w bs cs b het (hoo _ none some) pv ρ ⟨hl1,hh1⟩ ⟨hl2,hh2⟩
   split at h
   ·rw[hoo] at h
    have h4:=h3.1 rfl
    exact⟨_,[],[],h,OpOk.pure_ pre (v':=.bool b) (by simp only[execOp,ho,hvx,hvy,Sem.run_bind] at h4 ⊢;rw[h4];rfl) .bool⟩
   ·rw[hoo] at h
    have h4:=h3.2 rfl
    exact⟨_,[],[],h,OpOk.pure_ pre (v':=.bool (!b)) (by simp only[execOp,ho,hvx,hvy,Sem.run_bind] at h4 ⊢;rw[h4];rfl) .bool⟩
   ·cases h
 ·rename_i nl n wd get get'
  obtain⟨hd,h⟩:=bif_inv h
  obtain⟨el,hu⟩:∃ el,P.underlying t=some (.slice el):=by
   unfold isSliceD at hd;split at hd
   ·exact⟨_,by assumption⟩
   ·cases hd
  generalize hvx:a.eval x=vx at *
  generalize hvy:a.eval y=vy at *
  cases hy with
  |nilrow =>
  cases hx with
  |nilrow =>
   have h3:=binOp_nil (P:=P) (w:=w) (op:=op) (t:=t) (b:=none) (n:=0) (c:=0) hu
   split at h
   ·exact⟨_,[],[],h,OpOk.pure_ pre (run_of (eqGuard_slice ..) (h3.1 rfl)) .bool⟩
   ·exact⟨_,[],[],h,OpOk.pure_ pre (run_of (eqGuard_slice ..) (h3.2 rfl)) .bool⟩
   ·cases h
  |@row _ ad _ cap _ _ vs hcap hbl hl hc hv hone =>
   have h3:=binOp_nil (P:=P) (w:=w) (op:=op) (t:=t) (b:=some ad) (n:=n) (c:=cap) hu
   split at h
   ·exact⟨_,[],[],h,OpOk.pure_ pre (run_of (eqGuard_slice ..) (h3.1 rfl)) .bool⟩
   ·exact⟨_,[],[],h,OpOk.pure_ pre (run_of (eqGuard_slice ..) (h3.2 rfl)) .bool⟩
   ·cases h
 ·rename_i b1 lo1 n1 get'
  obtain⟨hd,h⟩:=bif_inv h
  obtain⟨el,hu⟩:∃ el,P.underlying t=some (.slice el):=by
   unfold isSliceD at hd;split at hd
   ·exact⟨_,by assumption⟩
   ·cases hd
  generalize hvx:a.eval x=vx at *
  generalize hvy:a.eval y=vy at *
  cases hy with
  |nilrow =>
  cases hx with
  |@osl _ _ _ _ r0 len wd cap el' cs hr hn hcap hcs hsz hmax =>
   have h3:=binOp_nil (P:=P) (w:=w) (op:=op) (t:=t) (b:=some ⟨r0,lo1*wd,none⟩) (n:=n1) (c:=cap) hu
   split at h
   ·exact⟨_,[],[],h,OpOk.pure_ pre (run_of (eqGuard_slice ..) (h3.1 rfl)) .bool⟩
   ·exact⟨_,[],[],h,OpOk.pure_ pre (run_of (eqGuard_slice ..) (h3.2 rfl)) .bool⟩
   ·cases h
 ·rename_i tx c
  obtain⟨hd,h⟩:=bif_inv h
  obtain⟨ms,hu,hms⟩:=isIfaceD_inv hd
  generalize hvx:a.eval x=vx at *
  generalize hvy:a.eval y=vy at *
  cases hy
  cases hx with
  |@iface _ _ u _ hr =>
   have he:(Op.equal t (.iface tx u) .nilIface).run P w = .ok false w:=equalIn_iface 9999 hu tx u w
   split at h
   ·exact⟨_,[],[],h,OpOk.pure_ pre (v':=.bool false) (run_of (eqGuard_iface ..) (by unfold binOp;simp only[Sem.run_bind,he,Result.andThen_ok,Sem.run_pure])) .bool⟩
   ·exact⟨_,[],[],h,OpOk.pure_ pre (v':=.bool true) (run_of (eqGuard_iface ..) (by unfold binOp;simp only[Sem.run_bind,he,Result.andThen_ok,Sem.run_pure];rfl)) .bool⟩
   ·cases h
 ·obtain⟨hd,h⟩:=bif_inv h
  obtain⟨ms,hu,hms⟩:=isIfaceD_inv hd
  generalize hvx:a.eval x=vx at *
  generalize hvy:a.eval y=vy at *
  cases hy
  cases hx
  have he:(Op.equal t .nilIface .nilIface).run P w = .ok true w:=equalIn_nili 9999 hu w
  split at h
  ·exact⟨_,[],[],h,OpOk.pure_ pre (v':=.bool true) (run_of (eqGuard_nili _ hu x y hms _) (by unfold binOp;simp only[Sem.run_bind,he,Result.andThen_ok,Sem.run_pure])) .bool⟩
  ·exact⟨_,[],[],h,OpOk.pure_ pre (v':=.bool false) (run_of (eqGuard_nili _ hu x y hms _) (by unfold binOp;simp only[Sem.run_bind,he,Result.andThen_ok,Sem.run_pure];rfl)) .bool⟩
  ·cases h
 ·cases h
theorem ok_unOp {β:Type} {r:β} (pre:Pre N w pv ρ hp) {op:UnOp} {t:TypeId} {x:Operand} (ho:o.op = .unOp op t x) (hx:Rel w pv ρ (a.eval x) (e x)) {k:KOp (Option β)}
 (h:(match (generalizing:=false) op with
  |.not=>tkBool (e x) none fun b=>k (.bool (!b)) [] []
  |.neg=>tkInt (e x) none fun q n=>k (.int q (q.wrap (0 - n))) [] []
  |_=>none)=some r):∃ v ws rd,k v ws rd=some r∧OpOk P N w pv ρ hp o a v ws:=by
 generalize hvx:a.eval x=vx at *
 cases op with
 |not =>
  obtain⟨b,hb,h⟩:=tkBool_inv h
  rw[hb] at hx;cases hx
  exact⟨_,[],[],h,OpOk.pure_ pre (v':=.bool (!b)) (by simp[execOp,ho,hvx,Op.unary]) .bool⟩
 |neg =>
  obtain⟨q,n,hb,h⟩:=tkInt_inv h
  rw[hb] at hx;cases hx
  exact⟨_,[],[],h,OpOk.pure_ pre (v':=.int q (q.wrap (0 - n))) (by simp[execOp,ho,hvx,Op.unary,Op.intArith]) .int⟩
 |_=>cases h
theorem ok_convert {β:Type} {r:β} (pre:Pre N w pv ρ hp) {src dst:TypeId} {x:Operand} (ho:o.op = .convert src dst x) (hx:Rel w pv ρ (a.eval x) (e x)) {k:KOp (Option β)}
 (h:(match P.underlying src,P.underlying dst with
 |some (.int _),some (.int q)=>tkInt (e x) none fun _ n=>k (.int q (q.wrap n)) [] []
 |_,_=>none)=some r):∃ v ws rd,k v ws rd=some r∧OpOk P N w pv ρ hp o a v ws:=by
 generalize hvx:a.eval x=vx at *
 split at h
 ·rename_i q1 q hs hd
  obtain⟨q2,n,hb,h⟩:=tkInt_inv h
  rw[hb] at hx;cases hx
  exact⟨_,[],[],h,OpOk.pure_ pre (v':=.int q (q.wrap n)) (by simp[execOp,ho,hvx,convert,run_underlying hs,run_underlying hd,Conv.intToInt]) .int⟩
 ·cases h
theorem ok_makeInterface {β:Type} {r:β} (pre:Pre N w pv ρ hp) {t:TypeId} {x:Operand} (ho:o.op = .makeInterface t x) (hx:Rel w pv ρ (a.eval x) (e x)) {k:KOp (Option β)}
 (h:(match P.underlying t with
 |some (.interface _)=>none
 |some _=>k (.iface t (e x)) [] []
 |none=>none)=some r):∃ v ws rd,k v ws rd=some r∧OpOk P N w pv ρ hp o a v ws:=by
 split at h
 ·cases h
 ·rename_i d hd hu
  refine⟨_,[],[],h,OpOk.pure_ pre (v':=.iface t (a.eval x)) ?_ (.iface hx)⟩
  simp only[execOp,ho,Instr.makeInterface,Sem.run_bind,run_underlying hu,Result.andThen_ok]
  cases d<;>first | rfl | exact absurd rfl (hd _)
 ·cases h
theorem relL_operands {xs:Array Operand} (he:∀ x,Rel w pv ρ (a.eval x) (e x)):RelL w pv ρ (xs.map a.eval) (xs.toList.map e):=by
 refine⟨by simp,fun i v c h1 h2=>?_⟩
 simp only[Array.getElem?_map,List.getElem?_map,Array.getElem?_toList] at h1 h2
 cases hx:xs[i]? with
 |none=>simp[hx] at h1
 |some x=>simp[hx] at h1 h2;subst h1 h2;exact he x
theorem ok_makeFunc (pre:Pre N w pv ρ hp) {f:Fn} {first cap:Array Operand} (ho:o.op = .makeFunc f first cap) (he:∀ x,Rel w pv ρ (a.eval x) (e x)):OpOk P N w pv ρ hp o a (.fn f (first.toList.map e) (cap.toList.map e)) []:=by
 have h1:=relL_operands (xs:=first) he
 have h2:=relL_operands (xs:=cap) he
 exact OpOk.pure_ pre (v':=.func f (first.map a.eval) (cap.map a.eval)) (by simp[execOp,ho,Instr.makeFunc]) (.fn h1.1 h1.2 h2.1 h2.2)
theorem ok_extract {β:Type} {r:β} (pre:Pre N w pv ρ hp) {x:Operand} {i:Nat} (ho:o.op = .extract x i) (hx:Rel w pv ρ (a.eval x) (e x)) {k:KOp (Option β)}
 (h:(tkTup (e x) none fun cs=>(match cs[i]? with | some v=>k v [] [] | none=>none))=some r):∃ v ws rd,k v ws rd=some r∧OpOk P N w pv ρ hp o a v ws:=by
 obtain⟨cs,hex,h⟩:=tkTup_inv h
 rw[hex] at hx
 generalize hvx:a.eval x=vx at *
 cases hx with
 |@tup _ vs _ hl hh =>
  split at h
  ·rename_i c hc
   have hlt:i<vs.size:=by have:=(List.getElem?_eq_some_iff.1 hc).1;omega
   exact⟨_,[],[],h,OpOk.pure_ pre (v':=vs[i]) (by simp[execOp,ho,hvx,Instr.extract,hlt]) (hh i _ _ (by simp[hlt]) hc)⟩
  ·cases h
theorem ok_nilCheck {β:Type} {r:β} (pre:Pre N w pv ρ hp) {x:Operand} (ho:o.op = .nilCheck x) (hx:Rel w pv ρ (a.eval x) (e x)) {k:KOp (Option β)}
 (h:(match e x with
 |.optr b i off=>k (.optr b i off) [] []
 |.rptr len wd get i off=>k (.rptr len wd get i off) [] []
 |.fn (.func g) a b=>k (.fn (.func g) a b) [] []
 |_=>none)=some r):∃ v ws rd,k v ws rd=some r∧OpOk P N w pv ρ hp o a v ws:=by
 split at h
 ·rename_i b i off hex
  rw[hex] at hx
  refine⟨_,[],[],h,OpOk.pure_ pre (v':=a.eval x) ?_ hx⟩
  generalize hvx:a.eval x=vx at *
  cases hx;simp[execOp,ho,hvx]
 ·rename_i len wd get i off hex
  rw[hex] at hx
  refine⟨_,[],[],h,OpOk.pure_ pre (v':=a.eval x) ?_ hx⟩
  generalize hvx:a.eval x=vx at *
  cases hx;simp[execOp,ho,hvx]
 ·rename_i g a' b' hex
  rw[hex] at hx
  refine⟨_,[],[],h,OpOk.pure_ pre (v':=a.eval x) ?_ hx⟩
  generalize hvx:a.eval x=vx at *
  cases hx;simp[execOp,ho,hvx]
 ·cases h
theorem ok_pick {β:Type} {r:β} (pre:Pre N w pv ρ hp) {c x y:Operand} (ho:o.op = .pick c x y) (hc:Rel w pv ρ (a.eval c) (e c)) (hx:Rel w pv ρ (a.eval x) (e x)) (hy:Rel w pv ρ (a.eval y) (e y)) {k:KOp (Option β)}
 (h:(tkBool (e c) none fun t=>bif t then k (e x) [] [] else k (e y) [] [])=some r):∃ v ws rd,k v ws rd=some r∧OpOk P N w pv ρ hp o a v ws:=by
 obtain⟨t,ht,h⟩:=tkBool_inv h
 rw[ht] at hc
 generalize hvc:a.eval c=vc at *
 cases hc
 cases t with
 |true=>exact⟨_,[],[],h,OpOk.pure_ pre (v':=a.eval x) (by simp[execOp,ho,hvc,asBool]) hx⟩
 |false=>exact⟨_,[],[],h,OpOk.pure_ pre (v':=a.eval y) (by simp[execOp,ho,hvc,asBool]) hy⟩
theorem run_newVar (t:TypeId) (v:Value) (w:World):(newVar t v).run P w = .ok ⟨w.heap.size,0,none⟩ (w.alloc (.cells v.cells t)):=by
 simp[newVar,newRow]
theorem ok_box {β:Type} {r:β} (pre:Pre N w pv ρ hp) {t:TypeId} {x:Operand} (ho:o.op = .box t x) (hx:Rel w pv ρ (a.eval x) (e x)) {fr:Nat} (hfr:hp[fr]? = none∨hp[fr]? = some .free) (hle:fr≤hp.length) {k:KOp (Option β)}
 (h:(cellsK P t (e x) none fun cs=>k (.optr fr 0 0) [(fr,.box t cs true)] [])=some r):∃ v ws rd,k v ws rd=some r∧OpOk P N w pv ρ hp o a v ws:=by
 obtain⟨i,cs,hi,hlen,hone,hk,hrel⟩:=cellsK_rel h hx
 refine⟨_,_,_,hk,ok_newbox pre hfr hle hrel hone ?_⟩
 simp only[execOp,ho,Instr.box,Sem.run_bind,run_newVar,Result.andThen_ok,Sem.run_pure]
theorem zeroK_inv {β:Type} {r:β} {t:TypeId} {k:List V→Option β} (h:zeroK P t none k=some r) :
 ∃ i z cs,P.info? t=some i∧i.zero=some z∧cs.length=i.size∧cs.all V.one=true∧k cs=some r∧∀ (w:World) (pv:Nat→Prop) (ρ:Nat→Option Info),RelL w pv ρ z.cells cs:=by
 unfold zeroK at h
 cases hi:P.info? t with
 |none=>simp[hi] at h
 |some i =>
  simp only[hi] at h
  cases hz:i.zero with
  |none=>simp[hz] at h
  |some z =>
   simp only[hz] at h
   have hr:=fun w pv ρ=>rel_ofValue w pv ρ z
   split at h
   ·rename_i cs hcs
    obtain⟨h1,h⟩:=bif_inv h
    obtain⟨h2,h⟩:=bif_inv h
    rw[hcs] at hr
    exact⟨i,z,cs,rfl,hz,by simpa using h2,h1,h,fun w pv ρ=>(cells_rel (hr w pv ρ)).1 cs rfl⟩
   ·obtain⟨h1,h⟩:=bif_inv h
    obtain⟨h2,h⟩:=bif_inv h
    have h3:i.size=1:=by simpa using h2
    exact⟨i,z,_,rfl,hz,by simp[h3],by simp[h1],h,fun w pv ρ=>(cells_rel (hr w pv ρ)).2 h1⟩
theorem ok_alloc {β:Type} {r:β} (pre:Pre N w pv ρ hp) {t:TypeId} (ho:o.op = .alloc t) {fr:Nat} (hfr:hp[fr]? = none∨hp[fr]? = some .free) (hle:fr≤hp.length) {k:KOp (Option β)}
 (h:(zeroK P t none fun z=>k (.optr fr 0 0) [(fr,.box t z true)] [])=some r):∃ v ws rd,k v ws rd=some r∧OpOk P N w pv ρ hp o a v ws:=by
 obtain⟨i,z,cs,hi,hz,hlen,hone,hk,hrel⟩:=zeroK_inv h
 refine⟨_,_,_,hk,ok_newbox pre hfr hle (hrel w pv ρ) hone ?_⟩
 simp only[execOp,ho,Instr.alloc,Sem.run_bind,zeroValue,typeInfo,run_program,Result.andThen_ok,hi,hz,Sem.run_pure,run_newVar]
theorem ok_typeAssert {β:Type} {r:β} (pre:Pre N w pv ρ hp) {x:Operand} {xt dst:TypeId} (ho:o.op = .typeAssert x xt dst true) (hx:Rel w pv ρ (a.eval x) (e x)) {k:KOp (Option β)}
 (h:(match P.underlying dst with
 |some (.interface _)=>none
 |none=>none
 |some _=>zeroK P dst none fun _=>(match e x with
  |.iface t v=>bif t==dst then k (.tup [v,.bool true]) [] [] else k (.tup [.top,.bool false]) [] []
  |.nili=>k (.tup [.top,.bool false]) [] []
  |_=>none))=some r):∃ v ws rd,k v ws rd=some r∧OpOk P N w pv ρ hp o a v ws:=by
 split at h
 ·cases h
 ·cases h
 ·rename_i d hni hd
  obtain⟨i,z,cs,hi,hz,hlen,hone,h,hrel⟩:=zeroK_inv h
  have hzero:(zeroValue dst).run P w = .ok z w:=by
   simp only[zeroValue,typeInfo,Sem.run_bind,run_program,Result.andThen_ok,hi,hz,Sem.run_pure]
  have tup2:∀ {v b:Value} {c:V} {q:Bool},Rel w pv ρ v c→b = .bool q→Rel w pv ρ (.tuple #[v,b]) (.tup [c,.bool q]):=by
   intro v b c q hv hb
   refine .tup rfl fun i u c' h1 h2=>?_
   match i with
   |0=>simp at h1 h2;subst h1 h2;exact hv
   |1=>simp at h1 h2;subst h1 h2 hb;exact .bool
   |n+2=>simp at h1
  generalize hvx:a.eval x=vx at *
  generalize hex:e x=ex at *
  have hund:(underlying dst).run P w = .ok d w:=run_underlying hd w
  cases ex with
  |iface t c =>
   have h:(bif t==dst then k (.tup [c,.bool true]) [] [] else k (.tup [.top,.bool false]) [] [])=some r:=h
   cases hx with
   |@iface _ _ u _ hr =>
    cases ht:t==dst with
    |true =>
     rw[ht,cond_true] at h
     have ht':t=dst:=by simpa using ht
     refine⟨_,[],[],h,OpOk.pure_ pre (v':=.tuple #[u,.bool true]) ?_ (tup2 hr rfl)⟩
     simp only[execOp,ho,hvx,Instr.typeAssert,Sem.run_bind,hund,Result.andThen_ok]
     cases d<;>first | exact absurd rfl (hni _) | simp[ht']
    |false =>
     rw[ht,cond_false] at h
     have ht':¬ t=dst:=by simpa using ht
     refine⟨_,[],[],h,OpOk.pure_ pre (v':=.tuple #[z,.bool false]) ?_ (tup2 .top rfl)⟩
     simp only[execOp,ho,hvx,Instr.typeAssert,Sem.run_bind,hund,Result.andThen_ok]
     cases d<;>first | exact absurd rfl (hni _) | simp[ht',hzero]
  |nili =>
   have h:k (.tup [.top,.bool false]) [] []=some r:=h
   cases hx
   refine⟨_,[],[],h,OpOk.pure_ pre (v':=.tuple #[z,.bool false]) ?_ (tup2 .top rfl)⟩
   simp only[execOp,ho,hvx,Instr.typeAssert,Sem.run_bind,hund,Result.andThen_ok]
   cases d<;>first | exact absurd rfl (hni _) | simp[hzero]
  |_=>cases h
theorem ok_len {β:Type} {r:β} (pre:Pre N w pv ρ hp) {c:Call} (ho:o.op = .call c) (hc:c.callee = .builtin .len) (he:∀ x,Rel w pv ρ (a.eval x) (e x)) {k:KOp (Option β)}
 (h:(match c.argTypes.toList,c.args.toList.map e with
  |[t],[x]=>(match P.underlying t,x with
   |some (.slice _),.row _ n _ _=>k (.int .i64 n) [] []
   |some (.slice _),.osl _ _ n=>k (.int .i64 n) [] []
   |some (.slice _),.psl _ _ n=>k (.int .i64 n) [] []
   |some (.slice _),.wsl _ n _=>k (.int .i64 n) [] []
   |some .string,.str s=>k (.int .i64 s.size) [] []
   |_,_=>none)
  |_,_=>none)=some r):∃ v ws rd,k v ws rd=some r∧OpOk P N w pv ρ hp o a v ws:=by
 split at h
 ·rename_i t x hty hargs
  obtain⟨y,hy,hey⟩:∃ y,c.args.toList=[y]∧e y=x:=by
   cases hl:c.args.toList with
   |nil=>rw[hl] at hargs;cases hargs
   |cons y ys =>
    rw[hl] at hargs
    cases ys with
    |nil=>exact⟨y,rfl,by simpa using hargs⟩
    |cons z zs=>simp at hargs
  have ha:c.args = #[y]:=by rw[← Array.toArray_toList (xs:=c.args),hy]
  have ht:c.argTypes = #[t]:=by rw[← Array.toArray_toList (xs:=c.argTypes),hty]
  have hr:=he y
  rw[hey] at hr
  have run_of:∀ {v':Value},(Builtin.len_ #[t] o.type #[a.eval y]).run P w = .ok v' w→(execOp a.eval o).run P w = .ok (.value v') w:=by
   intro v' h1
   simp only[execOp,ho,resolve,hc,ha,ht,Sem.run_bind,Sem.run_pure,Result.andThen_ok,invoke,builtin]
   simp only[List.map_toArray,List.map_cons,List.map_nil]
   simp[h1]
  generalize hvy:a.eval y=vy at *
  split at h
  ·rename_i el nl n wd get hu
   cases hr with
   |nilrow=>exact⟨_,[],[],h,OpOk.pure_ pre (v':=.int .i64 ((0:Nat):Int)) (run_of (by simp[Builtin.len_,run_underlying hu,goInt])) .int⟩
   |@row _ ad _ cap _ _ vs hcap hbl hl hcc hv hone=>exact⟨_,[],[],h,OpOk.pure_ pre (v':=.int .i64 (n:Int)) (run_of (by simp[Builtin.len_,run_underlying hu,goInt])) .int⟩
  ·rename_i el b lo n hu
   cases hr with
   |@osl _ _ _ _ r0 len wd cap el' cs hr hn hcap hcs hsz hmax=>exact⟨_,[],[],h,OpOk.pure_ pre (v':=.int .i64 (n:Int)) (run_of (by simp[Builtin.len_,run_underlying hu,goInt])) .int⟩
  ·rename_i el b off n hu
   cases hr with
   |psl hr hi=>exact⟨_,[],[],h,OpOk.pure_ pre (v':=.int .i64 (n:Int)) (run_of (by simp[Builtin.len_,run_underlying hu,goInt])) .int⟩
  ·rename_i el b n wd hu
   cases hr with
   |wsl hr hcap hcs hsz hmax=>exact⟨_,[],[],h,OpOk.pure_ pre (v':=.int .i64 (n:Int)) (run_of (by simp[Builtin.len_,run_underlying hu,goInt])) .int⟩
  ·rename_i s hu
   cases hr
   exact⟨_,[],[],h,OpOk.pure_ pre (v':=.int .i64 (s.size:Int)) (run_of (by simp[Builtin.len_,run_underlying hu,goInt])) .int⟩
  ·cases h
 ·cases h
end
end Go.Sim

namespace Go.Sim
open Go.RowKit
variable [Start]
section
variable {P:Program} {N:Nat→Prop} {w:World} {pv:Nat→Prop} {ρ:Nat→Option Info} {hp:List Slot} {o:Oper} {a:Act} {e:Operand→V}
theorem minmax_run (lo:Bool) (q:IntKind):∀ (ys:List Operand) (x:Int) {β:Type} {r:β} {k:V→Option β},(∀ x,Rel w pv ρ (a.eval x) (e x))→minmax lo q x (ys.map e) none k=some r →
 ∃ n,k (.int q n)=some r∧((ys.map a.eval).foldlM (if lo then Builtin.min2 else Builtin.max2) (.int q x)).run P w = .ok (.int q n) w:=by
 intro ys
 induction ys with
 |nil=>intro x β r k _ h;exact⟨x,h,by cases lo<;>rfl⟩
 |cons y ys ih =>
  intro x β r k he h
  simp only[List.map_cons,minmax] at h
  obtain⟨q',n,hy,h⟩:=tkInt_inv h
  obtain⟨m,hk,hrun⟩:=ih _ he h
  have hr:=he y
  rw[hy] at hr
  generalize hvy:a.eval y=vy at *
  cases hr
  refine⟨m,hk,?_⟩
  simp only[List.map_cons,List.foldlM_cons,hvy,Sem.run_bind]
  cases lo with
  |true=>simpa[Builtin.min2] using hrun
  |false=>simpa[Builtin.max2] using hrun
theorem list_of_map {xs:Array Operand} {x:V} {r:List V} (h:xs.toList.map e=x :: r):∃ y ys,xs.toList=y :: ys∧e y=x∧ys.map e=r:=by
 cases hl:xs.toList with
 |nil=>rw[hl] at h;cases h
 |cons y ys=>rw[hl] at h;simp at h;exact⟨y,ys,rfl,h.1,h.2⟩
theorem ok_minmax {β:Type} {r:β} (lo:Bool) (pre:Pre N w pv ρ hp) {c:Call} (ho:o.op = .call c) (hc:c.callee = .builtin (if lo then .min else .max)) (he:∀ x,Rel w pv ρ (a.eval x) (e x)) {k:KOp (Option β)}
 (h:(match c.args.toList.map e with
  |x :: r=>tkInt x none fun q n=>minmax lo q n r none fun v=>k v [] []
  |[]=>none)=some r):∃ v ws rd,k v ws rd=some r∧OpOk P N w pv ρ hp o a v ws:=by
 split at h
 ·rename_i x rest hargs
  obtain⟨y,ys,hl,hy,hys⟩:=list_of_map hargs
  obtain⟨q,n,hx,h⟩:=tkInt_inv h
  subst hys
  obtain⟨m,hk,hrun⟩:=minmax_run (P:=P) (w:=w) lo q ys n he h
  have hr:=he y
  rw[hy,hx] at hr
  generalize hvy:a.eval y=vy at *
  cases hr
  refine⟨_,[],[],hk,OpOk.pure_ pre (v':=.int q m) ?_ .int⟩
  have h1:(c.args.map a.eval).toList = .int q n :: ys.map a.eval:=by simp[hl,hvy]
  cases lo with
  |true =>
   simp only[if_true] at hc hrun
   simp only[execOp,ho,resolve,hc,Sem.run_bind,Sem.run_pure,Result.andThen_ok,invoke,builtin,Builtin.min_,h1,hrun]
  |false =>
   simp only[Bool.false_eq_true,if_false] at hc hrun
   simp only[execOp,ho,resolve,hc,Sem.run_bind,Sem.run_pure,Result.andThen_ok,invoke,builtin,Builtin.max_,h1,hrun]
 ·cases h
theorem boundK_run {lo:Option Operand} {d:Nat} {β:Type} {r:β} {k:Nat→Option β} (he:∀ x,Rel w pv ρ (a.eval x) (e x)) (h:boundK (lo.map e) d none k=some r) :
 ∃ n,k n=some r∧((lo=none∧n=d)∨∃ x q i,lo=some x∧a.eval x = .int q i∧0≤i∧i.toNat=n):=by
 cases lo with
 |none=>exact⟨d,h,.inl ⟨rfl,rfl⟩⟩
 |some x =>
  simp only[Option.map_some,boundK] at h
  obtain⟨q,i,hx,h⟩:=tkInt_inv h
  obtain⟨h0,h⟩:=bif_inv h
  have hr:=he x
  rw[hx] at hr
  generalize hvx:a.eval x=vx at *
  cases hr
  exact⟨_,h,.inr ⟨x,q,i,rfl,hvx,by simpa using h0,rfl⟩⟩
theorem run_sliceBounds (isSlice:Bool) (len cap:Nat) {lo hi:Option Operand} {l h:Nat} (hl:(lo=none∧l=0)∨∃ x q i,lo=some x∧a.eval x = .int q i∧0≤i∧i.toNat=l)
 (hh:(hi=none∧h=len)∨∃ x q i,hi=some x∧a.eval x = .int q i∧0≤i∧i.toNat=h) (h1:l≤h) (h2:h≤cap) :
 (Instr.sliceBounds isSlice len cap (lo.map a.eval) (hi.map a.eval) none).run P w = .ok (l,h,cap) w:=by
 unfold Instr.sliceBounds
 rcases hh with⟨rfl,rfl⟩ | ⟨x,q,i,rfl,hx,hi0,rfl⟩<;>rcases hl with⟨rfl,rfl⟩ | ⟨y,q',j,rfl,hy,hj0,rfl⟩
 ·simp
 ·simp[hy,Instr.sliceBound,asIntOf,show 0≤j∧j≤(h:Int) from ⟨hj0,by omega⟩]
 ·simp[hx,Instr.sliceBound,asIntOf,show 0≤i∧i≤(cap:Int) from ⟨hi0,by omega⟩]
 ·have hji:j≤i:=by omega
  have hic:i≤(cap:Int):=by omega
  simp[hx,hy,Instr.sliceBound,asIntOf,show 0≤i∧i≤(cap:Int) from ⟨hi0,hic⟩,hj0,show j≤(max i 0:Int) by omega]
theorem getD_live {b:Nat} {s:Slot} (h:hp.getD b .free=s) (hs:s ≠ .free):hp[b]? = some s:=by
 rw[List.getD_eq_getElem?_getD] at h
 cases hx:hp[b]? with
 |none=>simp[hx] at h;exact absurd h.symm hs
 |some s'=>simpa[hx] using h
theorem srel_kill (hs:SRel N w pv ρ hp) (hlt:∀ r,pv r→r<w.heap.size) {b:Nat} (hb:b<hp.length):SRel N w pv ρ (setSlot hp b .dead) :=
 SRel.set_ (Step.id_ hlt) hs (Nat.le_of_lt hb) (fun _ _=>rfl) (fun _ _ _ _ _ _ _=>⟨rfl,fun h=>h⟩) trivial (fun h=>by cases h)
theorem killed_get {b b':Nat} {s:Slot} (hb:b<hp.length) (h:(setSlot hp b .dead)[b']? = some s) (hl:s.live=true):b' ≠ b∧hp[b']? = some s:=by
 rw[setSlot_get hp b _ b' (Nat.le_of_lt hb)] at h
 by_cases hbb:b'=b
 ·rw[if_pos hbb] at h;cases h;cases hl
 ·rw[if_neg hbb] at h;exact⟨hbb,h⟩
theorem OpOk.view_ (pre:Pre N w pv ρ hp) {fr b:Nat} (hfr:hp[fr]? = none∨hp[fr]? = some .free) (hle:fr≤hp.length) {s0 s:Slot} (hb:hp[b]? = some s0) (hlive:s0.live=true) {i i0:Info} (hρ:ρ b=some i0) (hir:i.r=i0.r) {v:V} {v':Value}
 (hrun:(execOp a.eval o).run P w = .ok (.value v') w) (hnew:SlotR N w pv (fun x=>if x=fr then some i else ρ x) (some i) s) (hr:Rel w pv (fun x=>if x=fr then some i else ρ x) v' v):OpOk P N w pv ρ hp o a v [(b,.dead),(fr,s)]:=by
 intro next Q hn
 rw[hrun]
 have hblt:b<hp.length:=(List.getElem?_eq_some_iff.1 hb).1
 have hfrb:fr ≠ b:=fun hx=>by subst hx;rw[hb] at hfr;rcases hfr with hfr | hfr<;>cases hfr;cases hlive
 have hffr:ρ fr=none:=free_of pre.slots hfr
 have hle':fr≤(setSlot hp b .dead).length:=by rw[setSlot_len_lt _ _ _ hblt];exact hle
 have st':Step N w w pv pv ρ (fun x=>if x=fr then some i else ρ x):=⟨Keeps.refl _ _,BelowP.refl _ _,fun _ _ h=>h,pre.lt,fun _ _=>Iff.rfl,fun x y hxy=>by
  show (if x=fr then _ else ρ x)=some y
  rw[if_neg (fun hx=>by rw[hx,hffr] at hxy;cases hxy)];exact hxy⟩
 refine hn v' w pv _ st' hr ?_
 refine SRel.set_ st' (srel_kill pre.slots pre.lt hblt) hle' (fun b' hb'=>if_neg hb') (fun b' s' x _ _ _ _=>⟨rfl,fun h=>h⟩) ?_ ?_
 ·show SlotR N w pv _ (if fr=fr then _ else _) _
  rw[if_pos rfl]
  exact hnew
 ·intro _ b' s' x x' hb' hs' hl' hx hx' hxx
  obtain⟨h1,h2⟩:=killed_get hblt hs' hl'
  have hx2:x=i:=by
   have:(if fr=fr then some i else ρ fr)=some x:=hx
   rw[if_pos rfl] at this;cases this;rfl
  subst hx2
  exact h1 (pre.slots.inj b' b s' _ x' _ h2 hb hl' hlive hx' hρ (hxx.symm.trans hir))
theorem ok_slice {β:Type} {r:β} (pre:Pre N w pv ρ hp) {t:TypeId} {x:Operand} {lo hi:Option Operand} (ho:o.op = .slice t x lo hi none) (he:∀ x,Rel w pv ρ (a.eval x) (e x)) {fr:Nat} (hfr:hp[fr]? = none∨hp[fr]? = some .free) (hle:fr≤hp.length) {k:KOp (Option β)}
 (h:(match P.underlying t with
  |some (.slice el)=>szK P el none fun sz=>sliceK hp fr sz (e x) (lo.map e) (hi.map e) none k
  |some .string=>sliceStrK (e x) (lo.map e) (hi.map e) none k
  |some (.array n el)=>sliceArrK P n el (e x) (lo.map e) (hi.map e) none k
  |_=>none)=some r):∃ v ws rd,k v ws rd=some r∧OpOk P N w pv ρ hp o a v ws:=by
 have hr:=he x
 generalize hvx:a.eval x=vx at *
 split at h
 ·rename_i el hu
  obtain⟨ti,hti,h⟩:=szK_inv h
  have run_of:∀ {b:Option Addr} {n cap l hh:Nat},vx = .slice b n cap →
   (Instr.sliceBounds true n cap (lo.map a.eval) (hi.map a.eval) none).run P w = .ok (l,hh,cap) w →
   (execOp a.eval o).run P w = .ok (.value (.slice (if cap=l then b else b.map (·.add (l*ti.size))) (hh - l) (cap - l))) w:=by
   intro b n cap l hh h1 h2
   simp[execOp,ho,hvx,h1,Instr.sliceAt,Instr.slice,run_underlying hu,h2,run_size hti]
  unfold sliceK at h
  split at h
  ·rename_i nl n wd get hex
   obtain⟨hw,h⟩:=bif_inv h
   obtain⟨hh,h,hbh⟩:=boundK_run (w:=w) (pv:=pv) (ρ:=ρ) (a:=a) he h
   obtain⟨l,h,hbl⟩:=boundK_run (w:=w) (pv:=pv) (ρ:=ρ) (a:=a) he h
   obtain⟨h1,h⟩:=bif_inv h
   obtain⟨h2,hk⟩:=bif_inv h
   have h1':l≤hh:=by simpa using h1
   have h2':hh≤n:=by simpa using h2
   rw[hex] at hr
   cases hr with
   |nilrow =>
    have hrun:=run_of rfl (run_sliceBounds (P:=P) (w:=w) true 0 0 hbl hbh h1' (by omega))
    refine⟨_,[],[],hk,OpOk.pure_ pre hrun ?_⟩
    have hz:hh - l=0:=by omega
    rw[hz]
    simp only[Option.map_none,ite_self,Nat.zero_sub]
    exact .nilrow
   |@row _ ad _ cap _ _ vs hcap hb hl hc hv hone =>
    have hrun:=run_of rfl (run_sliceBounds (P:=P) (w:=w) true n cap hbl hbh h1' (by omega))
    have hwd:wd=ti.size:=by simpa using hw
    have hsl:∀ b:Option Addr,(if cap=l then some ad else (some ad).map (·.add (l*ti.size)))=some (if cap=l then ad else ad.add (l*ti.size)):=by intro _;split<;>rfl
    rw[hsl none] at hrun
    refine⟨_,[],[],hk,OpOk.pure_ pre hrun ?_⟩
    refine .row (fun i j=>vs (i+l) j) (by omega) (fun h0=>?_) (fun i hi=>hl (i+l) (by omega)) (fun i j hi hj=>?_) (fun i j c hi hcc=>hv (i+l) j c (by omega) hcc) (fun i j c hi hcc=>hone (i+l) j c (by omega) hcc)
    ·split
     ·exact hb (by omega)
     ·rw[block_add];exact hb (by omega)
    ·rw[if_neg (by omega),addr_add,← hwd]
     have h9:=hc (i+l) j (by omega) hj
     rw[Nat.add_mul] at h9
     rw[← h9]
     congr 2
     omega
  ·rename_i b s n hex
   obtain⟨hh,h,hbh⟩:=boundK_run (w:=w) (pv:=pv) (ρ:=ρ) (a:=a) he h
   obtain⟨l,h,hbl⟩:=boundK_run (w:=w) (pv:=pv) (ρ:=ρ) (a:=a) he h
   rw[hex] at hr
   cases hl0:decide (l=0) with
   |true =>
    rw[hl0,cond_true] at h
    obtain⟨h2,hk⟩:=bif_inv h
    have h1':l=0:=by simpa using hl0
    have h2':hh≤n:=by simpa using h2
    subst h1'
    cases hr with
    |@osl _ _ _ _ r0 len wd cap el' cs hr hn hcap hcs hsz hmax =>
     have hrun:=run_of rfl (run_sliceBounds (P:=P) (w:=w) true n cap hbl hbh (Nat.zero_le _) (by omega))
     have hz:(if cap=0 then (some ⟨r0,s*wd,none⟩:Option Addr) else (some ⟨r0,s*wd,none⟩:Option Addr).map (·.add (0*ti.size)))=some ⟨r0,s*wd,none⟩:=by
      split<;>simp[Addr.add]
     rw[hz,Nat.sub_zero,Nat.sub_zero] at hrun
     exact⟨_,[],[],hk,OpOk.pure_ pre hrun (.osl hr (by omega) (by omega) hcs hsz hmax)⟩
   |false =>
    rw[hl0,cond_false] at h
    split at h
    ·rename_i e0 wd _ get wr hsl
     obtain⟨hc0,hk⟩:=bif_inv h
     rw[Bool.and_eq_true,Bool.and_eq_true] at hc0
     obtain⟨hw0,h1,h2⟩:=hc0
     have hw0:=Nat.eq_of_beq_eq_true hw0
     have h1':l≤hh:=Nat.le_of_ble_eq_true h1
     have h2':hh≤n:=Nat.le_of_ble_eq_true h2
     have hb:=getD_live hsl (by simp)
     obtain⟨r1,vs,hρ,hN,hh0,hsz0,hgl,hgr,hwr⟩:=pre.slots.slot b _ hb
     cases hr with
     |@osl _ _ _ _ r0 len wd' cap el' cs hr hn hcap hcs hsz hmax =>
      rw[hρ] at hr
      injection hr with hr
      injection hr with e1 e2 e3
      subst e1 e2 e3
      obtain⟨_,hcs⟩:=hcs
      rw[hh0] at hcs
      injection hcs with hcs
      injection hcs with e4 e5
      subst e4 e5
      have hrun:=run_of rfl (run_sliceBounds (P:=P) (w:=w) true n cap hbl hbh h1' (by omega))
      rw[← hw0] at hrun
      have hml:(s+cap)*wd=s*wd+cap*wd:=Nat.add_mul ..
      have hz:(if cap=l then (some ⟨r1,s*wd,none⟩:Option Addr) else (some ⟨r1,s*wd,none⟩:Option Addr).map (·.add (l*wd)))=some ⟨r1,if cap=l then s*wd else s*wd+l*wd,none⟩:=by
       split<;>simp[Addr.add]
      rw[hz] at hrun
      refine⟨_,_,_,hk,OpOk.view_ (i:=⟨r1,if cap=l then s*wd else s*wd+l*wd,0⟩) pre hfr hle hb rfl hρ rfl hrun ?_ ?_⟩
      ·refine⟨r1,_,vs,rfl,hN,hh0,fun i hi=>hgl _ (by omega),fun i j c hi hc=>?_,hwr⟩
       obtain⟨v0,g1,g2,g3⟩:=hgr (i+(s+l)) j c (by omega) hc
       refine⟨v0,?_,g2,g3⟩
       rw[if_neg (by omega),← g1]
       congr 1
       rw[Nat.add_mul,Nat.add_mul]
       omega
      ·refine .wsl (if_pos rfl) (by omega) ⟨_,hh0⟩ ?_ (by omega)
       have hm2:l*wd+(cap - l)*wd=cap*wd:=by rw[← Nat.add_mul];congr 1;omega
       split
       ·have:cap - l=0:=by omega
        rw[this];omega
       ·omega
    ·cases h
  ·rename_i b n wd0 hex
   obtain⟨hh,h,hbh⟩:=boundK_run (w:=w) (pv:=pv) (ρ:=ρ) (a:=a) he h
   obtain⟨l,h,hbl⟩:=boundK_run (w:=w) (pv:=pv) (ρ:=ρ) (a:=a) he h
   rw[hex] at hr
   split at h
   ·rename_i e0 wd len get wr hsl
    obtain⟨hc0,hk⟩:=bif_inv h
    rw[Bool.and_eq_true,Bool.and_eq_true,Bool.and_eq_true,Bool.and_eq_true] at hc0
    obtain⟨⟨hw0,hw1⟩,h1,h2,h3⟩:=hc0
    have hw0:=Nat.eq_of_beq_eq_true hw0
    have hw1:=Nat.eq_of_beq_eq_true hw1
    have h1':l≤hh:=Nat.le_of_ble_eq_true h1
    have h2':hh≤n:=Nat.le_of_ble_eq_true h2
    have h3':n≤len:=Nat.le_of_ble_eq_true h3
    subst hw1
    have hb:=getD_live hsl (by simp)
    obtain⟨r1,base,vs,hρ,hN,hh0,hgl,hgr,hwr⟩:=pre.slots.slot b _ hb
    cases hr with
    |@wsl _ _ _ r0 base' cap _ el' cs hr hcap hcs hsz hmax =>
     rw[hρ] at hr
     injection hr with hr
     injection hr with e1 e2
     subst e1 e2
     obtain⟨_,hcs⟩:=hcs
     rw[hh0] at hcs
     injection hcs with hcs
     injection hcs with e4 e5
     subst e4 e5
     have hrun:=run_of rfl (run_sliceBounds (P:=P) (w:=w) true n cap hbl hbh h1' (by omega))
     rw[← hw0] at hrun
     have hz:(if cap=l then (some ⟨r1,base,none⟩:Option Addr) else (some ⟨r1,base,none⟩:Option Addr).map (·.add (l*wd0)))=some ⟨r1,if cap=l then base else base+l*wd0,none⟩:=by
      split<;>simp[Addr.add]
     rw[hz] at hrun
     refine⟨_,_,_,hk,OpOk.view_ (i:=⟨r1,if cap=l then base else base+l*wd0,0⟩) pre hfr hle hb rfl hρ rfl hrun ?_ ?_⟩
     ·refine⟨r1,_,vs,rfl,hN,hh0,fun i hi=>hgl _ (by omega),fun i j c hi hc=>?_,hwr⟩
      obtain⟨v0,g1,g2,g3⟩:=hgr (i+l) j c (by omega) hc
      refine⟨v0,?_,g2,g3⟩
      rw[if_neg (by omega),← g1]
      congr 1
      rw[Nat.add_mul]
      omega
     ·refine .wsl (if_pos rfl) (by omega) ⟨_,hh0⟩ ?_ (by omega)
      have hm2:l*wd0+(cap - l)*wd0=cap*wd0:=by rw[← Nat.add_mul];congr 1;omega
      split
      ·have:cap - l=0:=by omega
       rw[this];omega
      ·omega
   ·cases h
  ·cases h
 ·rename_i hu
  unfold sliceStrK at h
  split at h
  ·rename_i s hex
   obtain⟨hh,h,hbh⟩:=boundK_run (w:=w) (pv:=pv) (ρ:=ρ) (a:=a) he h
   obtain⟨l,h,hbl⟩:=boundK_run (w:=w) (pv:=pv) (ρ:=ρ) (a:=a) he h
   obtain⟨h1,h⟩:=bif_inv h
   obtain⟨h2,hk⟩:=bif_inv h
   rw[hex] at hr
   cases hr
   have hrun:=run_sliceBounds (P:=P) (w:=w) false s.size s.size hbl hbh (by simpa using h1) (by simpa using h2)
   exact⟨_,[],[],hk,OpOk.pure_ pre (v':=.string (s.extract l hh)) (by simp[execOp,ho,hvx,Instr.sliceAt,Instr.slice,run_underlying hu,hrun]) .str⟩
  ·cases h
 ·rename_i n el hu
  unfold sliceArrK at h
  split at h
  ·rename_i b off hex hlo hhi
   obtain⟨ti,hti,hk⟩:=szK_inv h
   rw[hex] at hr
   have hlo':lo=none:=by cases lo with | none=>rfl | some _=>cases hlo
   have hhi':hi=none:=by cases hi with | none=>rfl | some _=>cases hhi
   subst hlo' hhi'
   cases hr with
   |@optr _ _ _ _ r0 len wd hr hi =>
    refine⟨_,[],[],hk,OpOk.pure_ pre (v':=.slice (some ⟨r0,off,none⟩) n n) ?_ (.psl hr hi)⟩
    have hz:(if n=0 then (⟨r0,0*wd+off,none⟩:Addr) else (⟨r0,0*wd+off,none⟩:Addr).add (0*ti.size))=⟨r0,off,none⟩:=by split<;>simp[Addr.add]
    simp[execOp,ho,hvx,Instr.sliceAt,Instr.slice,run_underlying hu,Instr.sliceBounds,run_size hti,Instr.sureAddr,Addr.add]
  ·cases h
 ·cases h
theorem foldl_set (news:List Value):∀ (cs:Array Value) (off j0:Nat),off+j0+news.length≤cs.size →
 ((news.zipIdx j0).foldl (fun (cs:Array Value) (x:Value × Nat)=>cs.setIfInBounds (off+x.2) x.1) cs).toList=cs.toList.take (off+j0) ++ news ++ cs.toList.drop (off+j0+news.length):=by
 induction news with
 |nil=>intro cs off j0 _;simp
 |cons v r ih =>
  intro cs off j0 h
  simp only[List.zipIdx_cons,List.foldl_cons]
  rw[ih _ off (j0+1) (by simp at h ⊢;omega)]
  simp only[Array.toList_setIfInBounds]
  have hlt:off+j0<cs.toList.length:=by simp at h ⊢;omega
  rw[List.take_set,List.drop_set_of_lt (by omega)]
  have e1:(cs.toList.take (off+(j0+1))).set (off+j0) v=cs.toList.take (off+j0) ++ [v]:=by
   rw[show off+(j0+1)=off+j0+1 by omega,List.take_succ_eq_append_getElem hlt]
   have hlen:(cs.toList.take (off+j0)).length=off+j0:=by simp at hlt ⊢;omega
   rw[List.set_append_right _ _ (by omega),hlen,Nat.sub_self]
   rfl
  rw[e1]
  simp[Nat.add_assoc,Nat.add_comm,Nat.add_left_comm]
theorem relL_splice {vs:Array Value} {cs:List V} (h:RelL w pv ρ vs cs) {news:Array Value} {new:List V} (hn:RelL w pv ρ news new) (off:Nat) (hle:off+new.length≤cs.length) {vs':Array Value} (hvs:vs'.toList=vs.toList.take off ++ news.toList ++ vs.toList.drop (off+news.toList.length)) :
 RelL w pv ρ vs' (splice cs off new):=by
 have h1:=h.1;have h2:=hn.1
 have hsz:vs'.size=vs'.toList.length:=by simp
 refine⟨?_,fun i v c hv hc=>?_⟩
 ·rw[hsz,hvs];simp[splice];omega
 ·have hv':vs'.toList[i]? = some v:=by simpa using hv
  rw[hvs] at hv'
  unfold splice at hc
  have hl1:(vs.toList.take off).length=off:=by simp;omega
  have hl2:(cs.take off).length=off:=by simp;omega
  rcases Nat.lt_or_ge i off with hi | hi
  ·rw[List.append_assoc,List.getElem?_append_left (by omega),List.getElem?_take_of_lt hi] at hv' hc
   exact h.2 i v c (by simpa using hv') hc
  ·rw[List.append_assoc,List.getElem?_append_right (by omega)] at hv' hc
   rw[hl1] at hv';rw[hl2] at hc
   have hl3:news.toList.length=new.length:=by simpa using h2
   rcases Nat.lt_or_ge (i - off) new.length with hj | hj
   ·rw[List.getElem?_append_left (by omega)] at hv' hc
    exact hn.2 _ v c (by simpa using hv') hc
   ·rw[List.getElem?_append_right (by omega),List.getElem?_drop] at hv' hc
    rw[hl3] at hv'
    exact h.2 _ v c (by simpa using hv') hc
theorem one_splice {cs new:List V} (h:cs.all V.one=true) (hn:new.all V.one=true) (off:Nat):(splice cs off new).all V.one=true:=by
 simp only[splice,List.all_append,Bool.and_eq_true,List.all_eq_true] at h hn ⊢
 exact⟨⟨fun x hx=>h x (List.mem_of_mem_take hx),hn⟩,fun x hx=>h x (List.mem_of_mem_drop hx)⟩
theorem fill_run {pl:List (Nat × Nat)} {place:Nat→Option (Nat × Nat)} (hp:∀ (i:Nat) x,pl[i]? = some x→place i=some x) {ρ':Nat→Option Info} :
 ∀ (parts:List (Nat × V)) (vals:List (Nat × Value)) (vs:Array Value) (cs:List V) {β:Type} {r:β} {k:List V→Option β},
  parts.length=vals.length→(∀ (j:Nat) x y,parts[j]? = some x→vals[j]? = some y→x.1=y.1∧Rel w pv ρ' y.2 x.2)→RelL w pv ρ' vs cs→cs.all V.one=true →
  fillK pl cs parts none k=some r →
  ∃ vs' cs',k cs'=some r∧Instr.fill place vs vals=some vs'∧RelL w pv ρ' vs' cs'∧cs'.all V.one=true∧cs'.length=cs.length:=by
 intro parts
 induction parts with
 |nil =>
  intro vals vs cs β r k hl _ h hone hk
  cases vals with
  |nil=>exact⟨vs,cs,hk,rfl,h,hone,rfl⟩
  |cons y ys=>simp at hl
 |cons x rest ih =>
  obtain⟨i,v⟩:=x
  intro vals vs cs β r k hl he h hone hk
  cases vals with
  |nil=>simp at hl
  |cons y ys =>
   obtain⟨i',y⟩:=y
   have he0:=he 0 _ _ rfl rfl
   obtain⟨rfl,hr⟩:i=i'∧Rel w pv ρ' y v:=he0
   simp only[fillK] at hk
   cases hf:pl[i]? with
   |none=>simp[hf] at hk
   |some f =>
    obtain⟨off,n⟩:=f
    simp only[hf] at hk
    have hpl:=hp i _ hf
    have key:∀ new:List V,new.all V.one=true→RelL w pv ρ' y.cells new→new.length=n→off+new.length≤cs.length→fillK pl (splice cs off new) rest none k=some r →
     ∃ vs' cs',k cs'=some r∧Instr.fill place vs ((i,y) :: ys)=some vs'∧RelL w pv ρ' vs' cs'∧cs'.all V.one=true∧cs'.length=cs.length:=by
     intro new hnone hrel hlen hle hk
     have h1:=h.1;have h2:=hrel.1
     have hfold:∃ vs1:Array Value,(y.cells.zipIdx.foldl (fun cs (x:Value × Nat)=>cs.setIfInBounds (off+x.2) x.1) vs)=vs1∧vs1.toList=vs.toList.take off ++ y.cells.toList ++ vs.toList.drop (off+y.cells.toList.length):=by
      refine⟨_,rfl,?_⟩
      have:=foldl_set y.cells.toList vs off 0 (by simp;omega)
      rw[← Array.foldl_toList,Array.toList_zipIdx]
      simpa using this
     obtain⟨vs1,hf1,hvs1⟩:=hfold
     have hrel1:=relL_splice h hrel off hle hvs1
     obtain⟨vs',cs',hk',hfill,hrel',ho',hl'⟩:=ih ys vs1 _ (by simpa using hl) (fun j x y h1 h2=>he (j+1) x y (by simpa using h1) (by simpa using h2)) hrel1 (one_splice hone hnone off) hk
     refine⟨vs',cs',hk',?_,hrel',ho',hl'.trans (by simp[splice];omega)⟩
     unfold Instr.fill
     simp only[hpl]
     rw[if_neg (by simp;omega)]
     rw[← hfill]
     congr 1
    split at hk
    ·rename_i vs0
     obtain⟨g1,hk⟩:=bif_inv hk
     obtain⟨g2,hk⟩:=bif_inv hk
     obtain⟨g3,hk⟩:=bif_inv hk
     have g2':vs0.length=n:=by simpa using g2
     exact key vs0 g1 ((cells_rel hr).1 vs0 rfl) g2' (by rw[g2'];simpa using g3) hk
    ·obtain⟨g1,hk⟩:=bif_inv hk
     obtain⟨g2,hk⟩:=bif_inv hk
     obtain⟨g3,hk⟩:=bif_inv hk
     have g2':n=1:=by simpa using g2
     exact key [v] (by simp[g1]) ((cells_rel hr).2 g1) (by simp[g2']) (by simpa using g3) hk
theorem parts_rel {parts:List (Nat × Operand)} (he:∀ x,Rel w pv ρ (a.eval x) (e x)) :
 (parts.map fun p=>(p.1,e p.2)).length=(parts.map fun p=>(p.1,a.eval p.2)).length∧∀ (j:Nat) x y,(parts.map fun p=>(p.1,e p.2))[j]? = some x→(parts.map fun p=>(p.1,a.eval p.2))[j]? = some y→x.1=y.1∧Rel w pv ρ y.2 x.2:=by
 refine⟨by simp,fun j x y h1 h2=>?_⟩
 simp only[List.getElem?_map] at h1 h2
 cases hp:parts[j]? with
 |none=>simp[hp] at h1
 |some p=>simp[hp] at h1 h2;subst h1 h2;exact⟨rfl,he _⟩
theorem placesK_inv {β:Type} {r:β} {fs:List Field} {k:List (Nat × Nat)→Option β} (h:placesK P fs none k=some r):∃ l,placesOf P fs=some l∧k l=some r:=by
 unfold placesK at h;cases hl:placesOf P fs with
 |none=>simp[hl] at h
 |some l=>simp only[hl] at h;exact⟨l,rfl,h⟩
theorem rowPlaces_get {n wd i:Nat} {x:Nat × Nat} (h:(rowPlaces n wd)[i]? = some x):(fun i=>some (i*wd,wd)) i=some x:=by
 unfold rowPlaces at h
 by_cases hi:i<n
 ·simpa[List.getElem?_map,List.getElem?_range hi] using h
 ·rw[List.getElem?_eq_none (by simp;omega)] at h;cases h
theorem ok_build {β:Type} {r:β} (pre:Pre N w pv ρ hp) {t:TypeId} {parts:Array (Nat × Operand)} (ho:o.op = .build t parts) (he:∀ x,Rel w pv ρ (a.eval x) (e x)) {k:KOp (Option β)}
 (h:(match P.underlying t with
 |some (.struct fs)=>placesK P fs.toList none fun pl=>zeroK P t none fun z=>fillK pl z (parts.toList.map fun p=>(p.1,e p.2)) none fun cs=>k (.agg cs) [] []
 |some (.array n el)=>szK P el none fun wd=>zeroK P t none fun z=>fillK (rowPlaces n wd) z (parts.toList.map fun p=>(p.1,e p.2)) none fun cs=>k (.agg cs) [] []
 |_=>none)=some r):∃ v ws rd,k v ws rd=some r∧OpOk P N w pv ρ hp o a v ws:=by
 have hpr:=parts_rel (parts:=parts.toList) he
 have run_of:∀ {cells:Array Value},P.built t (parts.toList.map fun p=>(p.1,a.eval p.2))=some cells→(execOp a.eval o).run P w = .ok (.value (.agg cells)) w:=by
  intro cells hb
  have hb':P.built t (parts.map fun p=>(p.1,a.eval p.2)).toList=some cells:=by simpa using hb
  have:=run_build (P:=P) w t _ cells hb'
  simp only[execOp,ho,Sem.run_bind,this,Result.andThen_ok,Sem.run_pure]
 split at h
 ·rename_i fs hu
  obtain⟨pl,hpl,h⟩:=placesK_inv h
  obtain⟨i,z,cs,hi,hz,hlen,hone,h,hrel⟩:=zeroK_inv h
  obtain⟨vs',cs',hk,hfill,hrel',_,_⟩:=fill_run (w:=w) (pv:=pv) (ρ':=ρ) (place:=fun i=>pl.toArray[i]?) (fun i x hx=>by simpa using hx) _ _ z.cells cs hpr.1 hpr.2 (hrel w pv ρ) hone h
  refine⟨_,[],[],hk,OpOk.pure_ pre (run_of ?_) (.agg hrel'.1 hrel'.2)⟩
  unfold Program.built
  have hpl':fs.toList.mapM (fun f=>(P.info? f.type).map fun i=>(f.offset,i.size))=some pl:=hpl
  simp only[hi,hu,hz,hpl']
  exact hfill
 ·rename_i n el hu
  obtain⟨ti,hti,h⟩:=szK_inv h
  obtain⟨i,z,cs,hi,hz,hlen,hone,h,hrel⟩:=zeroK_inv h
  obtain⟨vs',cs',hk,hfill,hrel',_,_⟩:=fill_run (w:=w) (pv:=pv) (ρ':=ρ) (place:=fun i=>some (i*ti.size,ti.size)) (fun i x hx=>rowPlaces_get hx) _ _ z.cells cs hpr.1 hpr.2 (hrel w pv ρ) hone h
  refine⟨_,[],[],hk,OpOk.pure_ pre (run_of ?_) (.agg hrel'.1 hrel'.2)⟩
  unfold Program.built
  simp only[hi,hu,hz,hti]
  exact hfill
 ·cases h
end
end Go.Sim
