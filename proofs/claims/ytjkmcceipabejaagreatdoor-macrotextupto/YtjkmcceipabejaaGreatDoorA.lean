/- An abstract execution of the code, proved sound (first part): the values, the compiled form, what a step does. -/
import GoSem.Core.View
import Derived.Below
import Derived.Laws.Rows
import Derived.Laws.CopyRow
import Derived.Laws.AppendOwn
import Derived.IntWalk
import Derived.Laws.Strings
set_option linter.unusedSimpArgs false
set_option linter.unusedVariables false
set_option linter.unusedSectionVars false
namespace Go.Proofs.Ae
open Go
inductive Sp where
 |shared|full
 |own (a:Nat)
inductive AV where
 |undef
 |int (k:IntKind) (n:Int)
 |bool (b:Bool)
 |str (s:List UInt8)
 |ptr (id off:Nat)
 |nilp
 |eptr (a:AV)
 |slc (sp:Sp) (es:List AV)
 |osl (a g off n:Nat)
 |apt (a g off:Nat)
 |map (id:Nat)
 |nilm
 |fn (f:Nat) (fst cap:List AV)
 |yld (id:Nat)
 |iface (t:Nat) (a:AV)
 |nili
 |agg (cs:List AV)
 |tup (vs:List AV)
inductive Lay where
 |sc
 |ag (n:Nat)
def Lay.sz:Lay->Nat
 | .sc=>1
 | .ag n=>n
inductive Opd where
 |tmp (t:Nat)
 |const (v:AV)
 |glob (g:Nat)
 |fn (f:Nat)
inductive COp where
 |mov (x:Opd)
 |pick (c a b:Opd)
 |alloc (z:List AV)
 |allocT (t:Nat) (z:List AV)
 |box (x:Opd)
 |build (z:List AV) (ps:List (Nat×Nat×Opd))
 |bslice (len ty:Nat) (l:Lay) (z:AV) (ps:List (Nat×Opd))
 |load (l:Lay) (x:Opd)
 |store (n:Nat) (a x:Opd)
 |faddr (off:Nat) (l:Lay) (x:Opd)
 |iaddrS (l:Lay) (x i:Opd)
 |iaddrA (len:Nat) (l:Lay) (x i:Opd)
 |nilck (x:Opd)
 |bin (op:BinOp) (x y:Opd)
 |eqb (neg:Bool) (x y:Opd)
 |eqs (ks:List Nat) (neg:Bool) (x y:Opd)
 |isnil (kd:Nat) (neg:Bool) (x:Opd)
 |un (op:UnOp) (x:Opd)
 |convI (k:IntKind) (x:Opd)
 |convB (x:Opd)
 |convS (x:Opd)
 |fieldv (off:Nat) (l:Lay) (x:Opd)
 |idxS (x i:Opd)
 |idxA (len:Nat) (l:Lay) (x i:Opd)
 |slcS (x:Opd) (lo hi:Option Opd)
 |slcV (l:Lay) (x:Opd) (lo hi mx:Option Opd)
 |extr (x:Opd) (i:Nat)
 |mkif (t:Nat) (x:Opd)
 |tass (t:Nat) (x:Opd)
 |mkfn (f:Nat) (fst cap:List Opd)
 |mkmap
 |ins (ks:Bool) (x k v:Opd)
 |lkp (ks:Bool) (z:AV) (ok:Bool) (x k:Opd)
 |mksl (ty:Nat) (l:Lay) (z:AV) (n c:Opd)
 |len (kd:Nat) (x:Opd)
 |app (ty:Nat) (l:Lay) (bytes:Nat) (s x:Opd)
 |mins (xs:List Opd)
 |maxs (xs:List Opd)
 |mclone (x:Opd)
 |idxb (s c:Opd)
 |call (f:Opd) (xs:List Opd)
structure CO where
 dst:Option Nat
 op:COp
 gd:Option (Nat×Bool)
structure Ann where
 live:List Nat
 claims:List (Nat×Option Nat)
 kp:Bool
inductive DK where
 |light (lo hi:Nat)
 |heavy
 |alloc (z:List AV) (r hi:Nat)
structure DOp where
 co:CO
 dk:DK
 rd:List (Nat×Option Nat)
inductive dH where
 |skip
 |reg (ops:List CO)
 |drg (ops:List DOp)
 |seq (a b:dH)
 |cond (x:Opd) (a b:dH)
 |block (id:Nat) (c:dH)
 |loop (an:Ann) (c:dH)
 |rng (x:Opd) (ps:List Nat) (asg body:dH)
 |exit (id:Nat)
 |ret
inductive Res where
 |tmp (t:Nat)
 |cell (t:Nat) (l:Lay)
structure CFn where
 ntmps:Nat
 pure:Bool
 body:dH
 res:List Res
inductive Ex where
 |normal
 |exit (id:Nat)
 |ret
inductive Obj where
 |cells (cs:List AV)
 |map (es:List (AV×AV))
 |loop (st:Bool) (pend:Option Ex) (ts:List (Nat×AV)) (ps:List Nat) (asg body:dH)
 |mark
 |dead
 |bld (t:Nat) (cs:List AV)
inductive Arr where
 |app (n ty sz:Nat)
 |wr (g ty:Nat) (l:Lay) (cs:List AV)
structure Mem where
 objs:List Obj
 arrs:List Arr
abbrev dx:=List (Nat×AV)
structure St where
 ts:dx
 m:Mem
 mks:List Nat
def AV.isU:AV->Bool
 | .undef=>true
 |_=>false
def cells:AV->Option (List AV)
 | .undef=>none
 | .tup _=>none
 | .agg cs=>some cs
 |x=>some [x]
def unit (l:Lay) (cs:List AV):Option AV:=
 match l,cs with
 | .sc,[c]=>some c
 | .sc,_=>none
 | .ag n,cs=>if cs.length=n then some (.agg cs)else none
def sub (l:Lay) (off:Nat) (cs:List AV):Option AV:=
 match l with
 | .sc=>cs[off]?
 | .ag n=>if off+n<=cs.length then some (.agg ((cs.drop off).take n))else none
def setAt (cs:List AV) (off:Nat) (vs:List AV):List AV:=cs.take off++vs++cs.drop (off+vs.length)
mutual
def dY:AV->Option AV
 | .undef=>none
 | .ptr ..=>none
 | .osl ..=>none
 | .apt ..=>none
 | .map _=>none
 | .yld _=>none
 | .slc _ es=>some (.slc .shared es)
 | .fn f fst cap=>
  match gX fst with
  |none=>none
  |some fst=>match gX cap with
   |none=>none
   |some cap=>some (.fn f fst cap)
 | .agg cs=>match gX cs with
  |none=>none
  |some cs=>some (.agg cs)
 | .tup cs=>match gX cs with
  |none=>none
  |some cs=>some (.tup cs)
 | .iface t a=>match dY a with
  |none=>none
  |some a=>some (.iface t a)
 |x=>some x
def gX:List AV->Option (List AV)
 |[]=>some []
 |x::xs=>match dY x with
  |none=>none
  |some y=>match gX xs with
   |none=>none
   |some ys=>some (y::ys)
end
def gu:AV->Option AV
 | .slc .full es=>some (.slc .full es)
 |x=>dY x
def eh:List AV->Option (List AV)
 |[]=>some []
 |x::xs=>match gu x with
  |none=>none
  |some y=>match eh xs with
   |none=>none
   |some ys=>some (y::ys)
mutual
def scr (k m:Nat):AV->AV
 | .ptr id off=>if id<k then .ptr id off else .undef
 | .osl a g off n=>if a<m then .osl a g off n else .undef
 | .apt a g off=>if a<m then .apt a g off else .undef
 | .map id=>if id<k then .map id else .undef
 | .yld id=>if id<k then .yld id else .undef
 | .slc (.own a) es=>if a<m then .slc (.own a) es else .slc .shared es
 | .fn f fst cap=>.fn f (gj k m fst) (gj k m cap)
 | .agg cs=>.agg (gj k m cs)
 | .tup vs=>.tup (gj k m vs)
 | .iface t a=>.iface t (scr k m a)
 |x=>x
def gj (k m:Nat):List AV->List AV
 |[]=>[]
 |x::xs=>scr k m x::gj k m xs
end
def rS (k m:Nat):List (Nat×AV)->List (Nat×AV)
 |[]=>[]
 |(t,x)::xs=>(t,scr k m x)::rS k m xs
def vA (k m:Nat):Obj->Obj
 | .cells cs=>.cells (gj k m cs)
 | .map es=>.map (es.map fun e=>(e.1,scr k m e.2))
 | .loop st pend ts ps asg body=>.loop st pend (rS k m ts) ps asg body
 | .mark=>.mark
 | .dead=>.dead
 | .bld t cs=>.bld t (gj k m cs)
def vB (k m:Nat):Arr->Arr
 | .app n ty sz=>.app n ty sz
 | .wr g ty l cs=>.wr g ty l (gj k m cs)
def mH (k m:Nat) (M:Mem):Mem:={objs:=(M.objs.take k).map (vA k m),arrs:=(M.arrs.take m).map (vB k m)}
def look (t:Nat):dx->AV
 |[]=>.undef
 |e::es=>match Nat.beq e.1 t with
  |true=>e.2
  |false=>look t es
def keep (k m:Nat) (ts:dx):List Nat->dx
 |[]=>[]
 |t::l=>(t,scr k m (look t ts))::keep k m ts l
def fP (ts:dx):List Nat->dx
 |[]=>[]
 |t::l=>(t,look t ts)::fP ts l
def Opd.val (G:Nat->Option AV) (ts:dx):Opd->AV
 | .tmp t=>look t ts
 | .const v=>v
 | .glob g=>match G g with
  |some a=>.eptr a
  |none=>.undef
 | .fn f=>.fn f [] []
def dj (k:IntKind) (n:Int):Int:=match k,n with
 | .i64,.ofNat m=>match Nat.ble m 9223372036854775807 with
  |true=>.ofNat m
  |false=>IntKind.wrap .i64 (.ofNat m)
 |k,n=>k.wrap n
def rT (op:BinOp) (k:IntKind) (a b:Int):Option AV:=
 match op with
 | .add=>some (.int k (dj k (a+b)))
 | .sub=>some (.int k (dj k (a - b)))
 | .mul=>some (.int k (dj k (a*b)))
 | .quo=>if b=0 then none else some (.int k (dj k (a.tdiv b)))
 | .rem=>if b=0 then none else some (.int k (a.tmod b))
 | .and=>some (.int k (dj k ((BitVec.ofInt k.bits a) &&& (BitVec.ofInt k.bits b)).toNat))
 | .or=>some (.int k (dj k ((BitVec.ofInt k.bits a) ||| (BitVec.ofInt k.bits b)).toNat))
 | .xor=>some (.int k (dj k ((BitVec.ofInt k.bits a) ^^^ (BitVec.ofInt k.bits b)).toNat))
 | .andNot=>some (.int k (dj k ((BitVec.ofInt k.bits a) &&& ~~~(BitVec.ofInt k.bits b)).toNat))
 | .eql=>some (.bool (a==b))
 | .neq=>some (.bool (a !=b))
 | .lss=>some (.bool (decide (a<b)))
 | .leq=>some (.bool (decide (a<=b)))
 | .gtr=>some (.bool (decide (a>b)))
 | .geq=>some (.bool (decide (a>=b)))
 | .shl=>none
 | .shr=>none
def qg (op:BinOp) (k:IntKind) (a b:Int):Option AV:=
 if b<0 then none else
 match op with
 | .shl=>some (.int k (dj k (a*2^(min b.toNat k.bits))))
 | .shr=>some (.int k (a.fdiv (2^(min b.toNat k.bits))))
 |_=>none
def jB (a b:IntKind):Bool:=decide (a=b)
def dB (op:BinOp) (a b:List UInt8):Option AV:=
 match op with
 | .add=>if a.length+b.length<=9223372036854775807 then some (.str (a++b))else none
 | .eql=>some (.bool (a==b))
 | .neq=>some (.bool (!(a==b)))
 |_=>none
def eqL:List Nat->List AV->List AV->Option Bool
 |[],[],[]=>some true
 |0::ks,.bool a::xs,.bool b::ys=>if a==b then eqL ks xs ys else some false
 |1::ks,.int k a::xs,.int k' b::ys=>if jB k k' then(if a==b then eqL ks xs ys else some false)else none
 |2::ks,.str a::xs,.str b::ys=>if a==b then eqL ks xs ys else some false
 |_,_,_=>none
def vC (op:BinOp) (x y:AV):Option AV:=
 match x,y with
 | .int k a,.int k' b=>
  match op with
  | .shl=>qg .shl k a b
  | .shr=>qg .shr k a b
  |op=>if jB k k' then rT op k a b else none
 | .str a,.str b=>dB op a b
 |_,_=>none
def unA (op:UnOp) (x:AV):Option AV:=
 match op,x with
 | .not,.bool b=>some (.bool !b)
 | .neg,.int k n=>some (.int k (dj k (0 - n)))
 | .xor,.int k n=>some (.int k (dj k ((BitVec.ofInt k.bits (if k.signed then -1 else k.max)) ^^^ (BitVec.ofInt k.bits n)).toNat))
 |_,_=>none
def gK:List AV->Option (List UInt8)
 |[]=>some []
 | .int .u8 n::xs=>match gK xs with
  |some bs=>some (UInt8.ofNat n.toNat::bs)
  |none=>none
 |_=>none
def eqK:AV->AV->Option Bool
 | .int k a,.int k' b=>if jB k k' then some (a==b)else none
 | .str a,.str b=>some (a==b)
 |_,_=>none
def find (k:AV):List (AV×AV)->Option (Option AV)
 |[]=>some none
 |e::es=>match eqK k e.1 with
  |some true=>some (some e.2)
  |some false=>find k es
  |none=>none
def put (k v:AV):List (AV×AV)->Option (List (AV×AV))
 |[]=>some [(k,v)]
 |e::es=>match eqK k e.1 with
  |some true=>some ((k,v)::es)
  |some false=>match put k v es with
   |some es'=>some (e::es')
   |none=>none
  |none=>none
def Ss:AV->Option Int
 | .int _ n=>some n
 |_=>none
def dV (sz:Nat):List AV->Bool
 |[]=>true
 |e::_=>match cells e with
  |some cs=>decide (cs.length=sz)
  |none=>false
def mI (G:Nat->Option AV) (ts:dx):List (Nat×Nat×Opd)->List AV->Option (List AV)
 |[],cs=>some cs
 |(off,size,x)::ps,cs=>match cells (x.val G ts)with
  |some vs=>if vs.length=size then(if off+vs.length<=cs.length then mI G ts ps (setAt cs off vs)else none)else none
  |none=>none
def oi (G:Nat->Option AV) (ts:dx) (sz:Nat):List (Nat×Opd)->List AV->Option (List AV)
 |[],es=>some es
 |(i,x)::ps,es=>match dY (x.val G ts)with
  |some v=>match cells v with
   |some vs=>if vs.length=sz then(if i<es.length then oi G ts sz ps (es.set i v)else none)else none
   |none=>none
  |none=>none
def eR (G:Nat->Option AV) (ts:dx) (d:Nat):Option Opd->Option Nat
 |none=>some d
 |some x=>match x.val G ts with
  | .int _ n=>if 0<=n then some n.toNat else none
  |_=>none
def min2 (b:Bool):AV->AV->Option AV
 | .int k x,.int _ y=>some (.int k (if b then(if y<x then y else x)else(if y>x then y else x)))
 |_,_=>none
def oj (b:Bool) (x:AV):List AV->Option AV
 |[]=>some x
 |y::rest=>match min2 b x y with
  |some z=>oj b z rest
  |none=>none
def mJ (b:Bool):List AV->Option AV
 |[]=>none
 |x::rest=>oj b x rest
def ol (c:Int):List UInt8->Int->Int
 |[],_=> -1
 |b::bs,i=>if(b.toNat:Int)=c then i else ol c bs (i+1)
def newObj (M:Mem) (o:Obj):Mem:={M with objs:=M.objs++[o]}
def setObj (M:Mem) (id:Nat) (o:Obj):Mem:={M with objs:=M.objs.set id o}
def ok (v:AV) (M:Mem):Option (AV×Mem):=some (v,M)
def okO (v:Option AV) (M:Mem):Option (AV×Mem):=match v with
 |some v=>some (v,M)
 |none=>none
def gP (M:Mem) (a:Nat) (r:Arr):Mem:={M with arrs:=M.arrs.set a r}
def gk (M:Mem) (a g:Nat):Option (Nat×Lay×List AV):=
 match M.arrs[a]? with
 |some (.wr g' ty l cs)=>if g'=g then some (ty,l,cs)else none
 |_=>none
def dM:List AV->Option (List AV)
 |[]=>some []
 |e::es=>match cells e with
  |none=>none
  |some c=>match dM es with
   |none=>none
   |some cs=>some (c++cs)
def vD (M:Mem) (sz:Nat):AV->Option (List AV×Nat)
 | .slc _ es=>if dV sz es then(match dM es with
  |some cs=>some (cs,es.length)
  |none=>none)else none
 | .osl a g off n=>match gk M a g with
  |some (_,l,cs)=>if l.sz=sz/\(off+n)*sz<=cs.length then some ((cs.drop (off*sz)).take (n*sz),n)else none
  |none=>none
 |_=>none
def dI (ty:Nat) (l:Lay) (bytes:Nat) (s:AV) (xs:List AV) (M:Mem):Option (AV×Mem):=
 match s with
 | .slc sp es=>
  match xs with
  |[]=>some (.slc sp es,M)
  |x::xr=>
   if dV l.sz (x::xr)&&dV l.sz es&&decide ((es.length+(x::xr).length)*bytes<=140737488355328)&&decide (es.length+(x::xr).length<=140737488355328)then
    match sp with
    | .shared=>none
    | .full=>some (.slc (.own M.arrs.length) (es++(x::xr)),{M with arrs:=M.arrs++[.app (es.length+(x::xr).length) ty l.sz]})
    | .own a=>match M.arrs[a]? with
     |some (.app n ty' sz')=>
      if n=es.length/\(n=0\/(ty'=ty/\sz'=l.sz))then
       some (.slc (.own a) (es++(x::xr)),gP M a (.app (es.length+(x::xr).length) ty l.sz))
      else none
     |_=>none
   else none
 |_=>none
def za (ty:Nat) (l:Lay) (bytes:Nat) (s x:AV) (M:Mem):Option (AV×Mem):=
 match vD M l.sz x with
 |none=>none
 |some (xs,m)=>match s with
  | .slc sp es=>match m with
   |0=>some (.slc sp es,M)
   |m+1=>match sp,es with
    | .full,[]=>if(m+1)*bytes<=140737488355328/\m+1<=140737488355328 then some (.osl M.arrs.length 0 0 (m+1),{M with arrs:=M.arrs++[.wr 0 ty l xs]})else none
    |_,_=>none
  | .osl a g off n=>match gk M a g with
   |some (ty',l',cs)=>match m with
    |0=>some (.osl a g off n,M)
    |m+1=>
     if off=0/\cs.length=n*l.sz/\(ty'=ty/\l'.sz=l.sz)/\(n+(m+1))*bytes<=140737488355328/\n+(m+1)<=140737488355328 then
      some (.osl a (g+1) 0 (n+(m+1)),gP M a (.wr (g+1) ty l (cs++xs)))
     else none
   |none=>none
  |_=>none
def ept (v:AV) (M:Mem):Option (AV×Mem):=match cells v with
 |some _=>some (.eptr v,M)
 |none=>none
def iq:Nat->AV->Bool
 |0,.str _=>true
 |1,.slc ..=>true
 |1,.osl ..=>true
 |2,.map _=>true
 |2,.nilm=>true
 |3,.iface ..=>true
 |3,.nili=>true
 |4,.ptr ..=>true
 |4,.nilp=>true
 |_,_=>false
def i8:Bool->AV->Bool
 |true,.str _=>true
 |false,.int ..=>true
 |_,_=>false
def om (neg:Bool) (x:AV) (M:Mem):Option (AV×Mem):=match x with
  | .slc _ (_::_)=>ok (.bool neg) M
  | .osl a g _ (_+1)=>match gk M a g with
   |some _=>ok (.bool neg) M
   |none=>none
  | .map _=>ok (.bool neg) M
  | .nilm=>ok (.bool (!neg)) M
  | .iface _ _=>ok (.bool neg) M
  | .nili=>ok (.bool (!neg)) M
  | .ptr _ _=>ok (.bool neg) M
  | .nilp=>ok (.bool (!neg)) M
  |_=>none
def rU (x k v:AV) (M:Mem):Option (AV×Mem):=match x with
  | .map id=>match M.objs[id]? with
   |some (.map es)=>match put k v es with
    |some es'=>ok (.tup []) (setObj M id (.map es'))
    |none=>none
   |_=>none
  |_=>none
def gY (z:AV) (okv:Bool) (x k:AV) (M:Mem):Option (AV×Mem):=match x with
  | .map id=>match M.objs[id]? with
   |some (.map es)=>match find k es with
    |some (some v)=>ok (if okv then .tup [v,.bool true]else v) M
    |some none=>ok (if okv then .tup [z,.bool false]else z) M
    |none=>none
   |_=>none
  | .nilm=>ok (if okv then .tup [z,.bool false]else z) M
  |_=>none
def qh (x:AV) (M:Mem):Option (AV×Mem):=match x with
  | .str s=>ok (.int .i64 s.length) M
  | .slc _ es=>ok (.int .i64 es.length) M
  | .osl a g _ n=>match gk M a g with
   |some _=>ok (.int .i64 n) M
   |none=>none
  | .map id=>match M.objs[id]? with
   |some (.map es)=>ok (.int .i64 es.length) M
   |_=>none
  |_=>none
def dv (G:Nat->Option AV) (mu:Bool) (ts:dx) (M:Mem):COp->Option (AV×Mem)
 | .mov x=>ok (x.val G ts) M
 | .pick c a b=>match c.val G ts with
  | .bool t=>ok (if t then a.val G ts else b.val G ts) M
  |_=>none
 | .alloc z=>ok (.ptr M.objs.length 0) (newObj M (.cells z))
 | .allocT t z=>ok (.ptr M.objs.length 0) (newObj M (.bld t z))
 | .box x=>match cells (x.val G ts)with
  |some cs=>ok (.ptr M.objs.length 0) (newObj M (.cells cs))
  |none=>none
 | .build z ps=>match mI G ts ps z with
  |some cs=>ok (.agg cs) M
  |none=>none
 | .bslice len ty l z ps=>match mu with
  |false=>match oi G ts l.sz ps (List.replicate len z)with
   |some es=>ok (.slc .full es) M
   |none=>none
  |true=>match dM (List.replicate len z)with
   |some cs=>match mI G ts (ps.map fun p=>(p.1*l.sz,l.sz,p.2)) cs with
    |some cs=>ok (.osl M.arrs.length 0 0 len) {M with arrs:=M.arrs++[.wr 0 ty l cs]}
    |none=>none
   |none=>none
 | .load l x=>match x.val G ts with
  | .ptr id off=>match M.objs[id]? with
   |some (.cells cs)=>okO (sub l off cs) M
   |_=>none
  | .apt a g off=>match gk M a g with
   |some (_,_,cs)=>okO (sub l off cs) M
   |none=>none
  | .eptr a=>match cells a with
   |some cs=>okO (unit l cs) M
   |none=>none
  |_=>none
 | .store n a x=>match a.val G ts with
  | .ptr id off=>match M.objs[id]? with
   |some (.cells cs)=>match cells (x.val G ts)with
    |some vs=>if vs.length=n/\off+vs.length<=cs.length then ok (.tup []) (setObj M id (.cells (setAt cs off vs)))else none
    |none=>none
   |_=>none
  | .apt id g off=>match gk M id g with
   |some (ty,l,cs)=>match cells (x.val G ts)with
    |some vs=>if vs.length=n/\off+vs.length<=cs.length then ok (.tup []) (gP M id (.wr g ty l (setAt cs off vs)))else none
    |none=>none
   |none=>none
  |_=>none
 | .faddr off l x=>match x.val G ts with
  | .ptr id o=>ok (.ptr id (o+off)) M
  | .apt a g o=>match gk M a g with
   |some _=>ok (.apt a g (o+off)) M
   |none=>none
  | .eptr a=>match cells a with
   |some cs=>match sub l off cs with
    |some v=>ept v M
    |none=>none
   |none=>none
  |_=>none
 | .iaddrS l x i=>match x.val G ts,i.val G ts with
  | .slc _ es,.int _ n=>if 0<=n then(match es[n.toNat]? with
    |some e=>match cells e with
     |some cs=>match unit l cs with
      |some v=>ept v M
      |none=>none
     |none=>none
    |none=>none)else none
  | .osl a g off len,.int _ n=>if 0<=n/\n<len then(match gk M a g with
    |some (_,l',_)=>if l'.sz=l.sz then ok (.apt a g ((off+n.toNat)*l.sz)) M else none
    |none=>none)else none
  |_,_=>none
 | .iaddrA len l x i=>match x.val G ts,i.val G ts with
  | .ptr id off,.int _ n=>if 0<=n/\n<len then ok (.ptr id (off+n.toNat*l.sz)) M else none
  | .eptr a,.int _ n=>if 0<=n/\n<len then(match cells a with
    |some cs=>match sub l (n.toNat*l.sz) cs with
     |some v=>ept v M
     |none=>none
    |none=>none)else none
  |_,_=>none
 | .nilck x=>match x.val G ts with
  | .ptr id off=>ok (.ptr id off) M
  | .apt id g off=>match gk M id g with
   |some _=>ok (.apt id g off) M
   |none=>none
  | .eptr a=>ok (.eptr a) M
  | .fn f fst cap=>ok (.fn f fst cap) M
  | .yld id=>ok (.yld id) M
  |_=>none
 | .bin op x y=>okO (vC op (x.val G ts) (y.val G ts)) M
 | .eqb neg x y=>match x.val G ts,y.val G ts with
  | .bool a,.bool b=>ok (.bool (if neg then !(a==b)else a==b)) M
  |_,_=>none
 | .eqs ks neg x y=>match x.val G ts,y.val G ts with
  | .agg a,.agg b=>match eqL ks a b with
   |some t=>ok (.bool (if neg then !t else t)) M
   |none=>none
  |_,_=>none
 | .isnil kd neg x=>if iq kd (x.val G ts)then om neg (x.val G ts) M else none
 | .un op x=>okO (unA op (x.val G ts)) M
 | .convI k x=>match x.val G ts with
  | .int _ n=>ok (.int k (dj k n)) M
  |_=>none
 | .convB x=>match x.val G ts with
  | .slc _ es=>match gK es with
   |some s=>ok (.str s) M
   |none=>none
  | .osl a g off n=>match gk M a g with
   |some (_,.sc,cs)=>if off+n<=cs.length then(match gK ((cs.drop off).take n)with
    |some s=>ok (.str s) M
    |none=>none)else none
   |_=>none
  |_=>none
 | .convS x=>match x.val G ts with
  | .str s=>ok (.slc .shared (s.map fun b=>.int .u8 b.toNat)) M
  |_=>none
 | .fieldv off l x=>match x.val G ts with
  | .agg cs=>okO (sub l off cs) M
  |_=>none
 | .idxS x i=>match x.val G ts,i.val G ts with
  | .str s,.int _ n=>if 0<=n then(match s[n.toNat]? with
    |some b=>ok (.int .u8 b.toNat) M
    |none=>none)else none
  |_,_=>none
 | .idxA len l x i=>match x.val G ts,i.val G ts with
  | .agg cs,.int _ n=>if 0<=n/\n<len then okO (sub l (n.toNat*l.sz) cs) M else none
  |_,_=>none
 | .slcS x lo hi=>match x.val G ts with
  | .str s=>match eR G ts s.length hi with
   |some h=>match eR G ts 0 lo with
    |some l=>if l<=h/\h<=s.length then ok (.str ((s.take h).drop l)) M else none
    |none=>none
   |none=>none
  |_=>none
 | .slcV ly x lo hi mx=>match x.val G ts with
  | .slc sp es=>match eR G ts es.length hi with
   |some h=>match eR G ts 0 lo with
    |some l=>if l<=h/\h<=es.length/\dV ly.sz es=true then
      (match mx with
       |none=>ok (.slc (match sp with| .full=>if h=es.length then .full else .shared|_=>.shared) ((es.take h).drop l)) M
       |some m=>match eR G ts 0 (some m)with
        |some m=>if m=h then ok (.slc .full ((es.take h).drop l)) M else none
        |none=>none)
     else none
    |none=>none
   |none=>none
  | .osl a g off n=>match eR G ts n hi with
   |some h=>match eR G ts 0 lo with
    |some l=>if l<h/\h<=n then(match mx with
      |none=>(match gk M a g with
       |some (_,l',_)=>if l'.sz=ly.sz then ok (.osl a g (off+l) (h - l)) M else none
       |none=>none)
      |some _=>none)else if l=h/\h<=n/\0<n then(match mx with
      |none=>(match gk M a g with
       |some _=>ok (.slc .shared []) M
       |none=>none)
      |some _=>none)else none
    |none=>none
   |none=>none
  |_=>none
 | .extr x i=>match x.val G ts with
  | .tup vs=>okO vs[i]? M
  |_=>none
 | .mkif t x=>ok (.iface t (x.val G ts)) M
 | .tass t x=>match x.val G ts with
  | .iface t' v=>if t=t' then ok v M else none
  |_=>none
 | .mkfn f fst cap=>ok (.fn f (fst.map (·.val G ts)) (cap.map (·.val G ts))) M
 | .mkmap=>ok (.map M.objs.length) (newObj M (.map []))
 | .ins ks x k v=>if i8 ks (k.val G ts)then rU (x.val G ts) (k.val G ts) (v.val G ts) M else none
 | .lkp ks z okv x k=>if i8 ks (k.val G ts)then gY z okv (x.val G ts) (k.val G ts) M else none
 | .mksl ty l z n c=>match n.val G ts,c.val G ts with
  | .int _ n,.int _ c=>if 0<=n/\n=c/\c<=1048576 then(match dM (List.replicate n.toNat z)with
    |some cs=>ok (.osl M.arrs.length 0 0 n.toNat) {M with arrs:=M.arrs++[.wr 0 ty l cs]}
    |none=>none)else none
  |_,_=>none
 | .len kd x=>if iq kd (x.val G ts)then qh (x.val G ts) M else none
 | .app ty l bytes s x=>match mu with
  |false=>match x.val G ts with
   | .slc _ xs=>dI ty l bytes (s.val G ts) xs M
   |_=>none
  |true=>za ty l bytes (s.val G ts) (x.val G ts) M
 | .mins xs=>okO (mJ true (xs.map (·.val G ts))) M
 | .maxs xs=>okO (mJ false (xs.map (·.val G ts))) M
 | .mclone x=>match x.val G ts with
  | .iface t (.map id)=>match M.objs[id]? with
   |some (.map es)=>ok (.iface t (.map M.objs.length)) (newObj M (.map es))
   |_=>none
  |_=>none
 | .idxb s c=>match s.val G ts,c.val G ts with
  | .str s,.int .u8 n=>if 0<=n/\n<256 then ok (.int .i64 (ol n s 0)) M else none
  |_,_=>none
 | .call ..=>none
def mK (d:Option Nat) (v:AV) (ts:dx):dx:=match d with
 |some d=>(d,v)::ts
 |none=>ts
abbrev a7:=Nat->List AV->Mem->Option (AV×Mem)
abbrev Gls:=Nat->Option AV
def target (f:AV) (xs:List AV):Option (Nat×List AV):=match f with
 | .fn f fst cap=>some (f,fst++xs++cap)
 |_=>none
def jC (G:Gls) (mu:Bool) (cl:a7) (yl:a7) (ts:dx) (M:Mem) (o:COp):Option (AV×Mem):=
 match o with
 | .call f xs=>match f.val G ts with
  | .yld id=>yl id (xs.map (·.val G ts)) M
  |fv=>match target fv (xs.map (·.val G ts))with
   |some (f,as)=>cl f as M
   |none=>none
 |o=>dv G mu ts M o
def wanted (ts:dx):Option (Nat×Bool)->Option Bool
 |none=>some true
 |some (g,b)=>match look g ts with
  | .bool t=>some (t==b)
  | .tup []=>some false
  |_=>none
def gZ (G:Gls) (mu:Bool) (cl:a7) (yl:a7):List CO->St->Option St
 |[],s=>some s
 |o::os,s=>match wanted s.ts o.gd with
  |some true=>match jC G mu cl yl s.ts s.m o.op with
   |some (v,M)=>gZ G mu cl yl os ⟨mK o.dst v s.ts,M,s.mks⟩
   |none=>none
  |some false=>gZ G mu cl yl os ⟨mK o.dst (.tup []) s.ts,s.m,s.mks⟩
  |none=>none
mutual
def eqA:AV->AV->Bool
 | .undef,.undef=>true
 | .int k n,.int k' n'=>jB k k'&&decide (n=n')
 | .bool a,.bool b=>a==b
 | .str a,.str b=>a==b
 | .ptr a b,.ptr c d=>Nat.beq a c&&Nat.beq b d
 | .nilp,.nilp=>true
 | .nilm,.nilm=>true
 | .eptr a,.eptr b=>eqA a b
 | .slc .shared es,.slc .shared fs=>gQ es fs
 | .slc .full es,.slc .full fs=>gQ es fs
 | .slc (.own a) es,.slc (.own b) fs=>Nat.beq a b&&gQ es fs
 | .osl a b c d,.osl a' b' c' d'=>Nat.beq a a'&&Nat.beq b b'&&Nat.beq c c'&&Nat.beq d d'
 | .apt a b c,.apt a' b' c'=>Nat.beq a a'&&Nat.beq b b'&&Nat.beq c c'
 | .map a,.map b=>Nat.beq a b
 | .fn f a b,.fn g c d=>Nat.beq f g&&gQ a c&&gQ b d
 | .yld a,.yld b=>Nat.beq a b
 | .iface t a,.iface u b=>Nat.beq t u&&eqA a b
 | .nili,.nili=>true
 | .agg a,.agg b=>gQ a b
 | .tup a,.tup b=>gQ a b
 |_,_=>false
def gQ:List AV->List AV->Bool
 |[],[]=>true
 |x::xs,y::ys=>eqA x y&&gQ xs ys
 |_,_=>false
end
def eU (ts:dx) (vals:List (Option Nat×AV)):List (Nat×Option Nat)->dx
 |[]=>[]
 |(t,none)::l=>(t,look t ts)::eU ts vals l
 |(t,some j)::l=>(t,match vals[j]? with|some e=>e.2|none=>.undef)::eU ts vals l
def qi:COp->Bool
 | .load ..=>true
 | .faddr ..=>true
 | .iaddrS ..=>true
 | .iaddrA ..=>true
 | .nilck ..=>true
 | .isnil ..=>true
 | .convB ..=>true
 | .slcV ..=>true
 | .lkp ..=>true
 | .len ..=>true
 |_=>false
def qj:COp->Bool
 | .app ..=>true
 |_=>false
structure DS where
 vals:List (Option Nat×AV)
 ms:List Mem
 chk:List (dx×COp×AV×Nat×Nat)
def rV (G:Gls) (mu:Bool) (cl:a7) (yl:a7) (ss:dx) (M:Mem) (n0:Nat) (o:DOp) (d:DS):Option DS:=
 match o.dk with
 | .alloc _ r _=>some ⟨d.vals++[(o.co.dst,.ptr (n0+r) 0)],d.ms,d.chk⟩
 | .heavy=>match wanted ss o.co.gd with
  |some true=>match jC G mu cl yl ss M o.co.op with
   |some (v,M')=>some ⟨d.vals++[(o.co.dst,v)],M'::d.ms,d.chk⟩
   |none=>none
  |some false=>some ⟨d.vals++[(o.co.dst,.tup [])],M::d.ms,d.chk⟩
  |none=>none
 | .light lo hi=>match wanted ss o.co.gd with
  |some true=>if qj o.co.op then none else match dv G mu ss ⟨[],[]⟩ o.co.op with
   |some (v,⟨[],[]⟩)=>some ⟨d.vals++[(o.co.dst,v)],d.ms,d.chk⟩
   |_=>match qi o.co.op with
    |true=>match dv G mu ss M o.co.op with
     |some (v,_)=>some ⟨d.vals++[(o.co.dst,v)],d.ms,(ss,o.co.op,v,lo,hi)::d.chk⟩
     |none=>none
    |false=>none
  |some false=>some ⟨d.vals++[(o.co.dst,.tup [])],d.ms,d.chk⟩
  |none=>none
def oq (G:Gls) (mu:Bool) (cl:a7) (yl:a7) (ts:dx) (n0:Nat):List DOp->DS->Option DS
 |[],d=>some d
 |o::os,d=>match d.ms with
  |[]=>none
  |M::_=>match rV G mu cl yl (eU ts d.vals o.rd) M n0 o d with
   |some d=>oq G mu cl yl ts n0 os d
   |none=>none
def jb:List DOp->List Obj
 |[]=>[]
 |o::os=>match o.dk with
  | .alloc z _ _=>.cells z::jb os
  |_=>jb os
def ot (G:Gls) (mu:Bool) (ms:List Mem):List (dx×COp×AV×Nat×Nat)->Bool
 |[]=>true
 |(ss,o,v,lo,hi)::l=>((ms.take (hi+1)).drop lo).all (fun M=>match dv G mu ss M o with
   |some (v',_)=>eqA v' v
   |none=>false)&&ot G mu ms l
def ou (ms:List Mem) (n0:Nat):List DOp->Bool
 |[]=>true
 |o::os=>(match o.dk with
  | .alloc z r hi=>(ms.take (hi+1)).all (fun M=>match M.objs[n0+r]? with
   |some (.cells cs)=>gQ cs z
   |_=>false)
  |_=>true)&&ou ms n0 os
def lH:List (Option Nat×AV)->dx->dx
 |[],ts=>ts
 |(some d,v)::l,ts=>lH l ((d,v)::ts)
 |(none,_)::l,ts=>lH l ts
def lI (G:Gls) (mu:Bool) (cl:a7) (yl:a7) (ops:List DOp) (s:St):Option St:=
 match oq G mu cl yl s.ts s.m.objs.length ops ⟨[],[{s.m with objs:=s.m.objs++jb ops}],[]⟩with
 |some d=>if ot G mu d.ms.reverse d.chk&&ou d.ms.reverse s.m.objs.length ops then(match d.ms with
   |M::_=>some ⟨lH d.vals s.ts,M,s.mks⟩
   |[]=>none)else none
 |none=>none
def mL (s:St):Nat×Option Nat->St
 |(t,none)=>match look t s.ts with
  | .slc .full []=>⟨(t,.slc (.own s.m.arrs.length) [])::s.ts,{s.m with arrs:=s.m.arrs++[.app 0 0 0]},s.mks⟩
  |_=>s
 |(t,some c)=>match look t s.ts with
  | .ptr id off=>match s.m.objs[id]? with
   |some (.cells cs)=>match cs[off+c]? with
    |some (.slc .full [])=>⟨s.ts,{objs:=s.m.objs.set id (.cells (cs.set (off+c) (.slc (.own s.m.arrs.length) []))),arrs:=s.m.arrs++[.app 0 0 0]},s.mks⟩
    |_=>s
   |_=>s
  |_=>s
def fK (mu:Bool):List (Nat×Option Nat)->St->St
 |[],s=>s
 |c::cs,s=>if mu then s else fK mu cs (mL s c)
def eI (mu:Bool) (an:Ann) (k m:Nat) (s:St):St:=if mu then s else if an.kp then⟨fP s.ts an.live,s.m,s.mks⟩else⟨keep k m s.ts an.live,mH k m s.m,s.mks⟩
def dh (mu:Bool) (step:St->Option (Ex×St)) (an:Ann) (k m:Nat):Nat->St->Option (Ex×St)
 |0,_=>none
 |n+1,s=>match step s with
  |some (.normal,s')=>dh mu step an k m n (eI mu an k m s')
  |r=>r
def a8 (G:Gls) (mu:Bool) (cl:a7) (yl:a7) (n:Nat):dH->St->Option (Ex×St)
 | .skip,s=>some (.normal,s)
 | .reg ops,s=>match gZ G mu cl yl ops s with
  |some s'=>some (.normal,s')
  |none=>none
 | .drg ops,s=>match lI G mu cl yl ops s with
  |some s'=>some (.normal,s')
  |none=>none
 | .seq a b,s=>match a8 G mu cl yl n a s with
  |some (.normal,s')=>a8 G mu cl yl n b s'
  |r=>r
 | .cond x a b,s=>match x.val G s.ts with
  | .bool true=>a8 G mu cl yl n a s
  | .bool false=>a8 G mu cl yl n b s
  |_=>none
 | .block id c,s=>match a8 G mu cl yl n c s with
  |some (.exit i,s')=>if i=id then some (.normal,s')else some (.exit i,s')
  |r=>r
 | .loop an c,s=>dh mu (a8 G mu cl yl n c) an (fK mu an.claims s).m.objs.length (fK mu an.claims s).m.arrs.length n (eI mu an (fK mu an.claims s).m.objs.length (fK mu an.claims s).m.arrs.length (fK mu an.claims s))
 | .rng x ps asg body,s=>match target (x.val G s.ts) [.yld (s.m.objs.length+1)]with
  |some (f,as)=>match cl f as (newObj (newObj s.m .mark) (.loop true none s.ts ps asg body))with
   |some (_,M)=>match M.objs[s.m.objs.length+1]? with
    |some (.loop true none _ _ _ _)=>some (.normal,⟨s.ts,setObj M (s.m.objs.length+1) .dead,s.m.objs.length::s.mks⟩)
    |some (.loop false (some e) _ _ _ _)=>some (e,⟨s.ts,setObj M (s.m.objs.length+1) .dead,s.m.objs.length::s.mks⟩)
    |_=>none
   |none=>none
  |none=>none
 | .exit id,s=>some (.exit id,s)
 | .ret,s=>some (.ret,s)
def rX (s:St):Res->Option AV
 | .tmp t=>match look t s.ts with
  | .undef=>none
  |r=>some r
 | .cell t l=>match look t s.ts with
  | .ptr id off=>match s.m.objs[id]? with
   |some (.cells cs)=>sub l off cs
   |_=>none
  |_=>none
def kK (s:St):List Res->Option (List AV)
 |[]=>some []
 |r::rs=>match rX s r with
  |none=>none
  |some v=>match kK s rs with
   |none=>none
   |some vs=>some (v::vs)
def fd:List AV->AV
 |[v]=>v
 |vs=>.tup vs
def ov (n:Nat) (l:Lay):Nat->List AV->Option (List AV)
 |0,_=>some []
 |k+1,cs=>match unit l (cs.take n)with
  |some e=>match ov n l k (cs.drop n)with
   |some es=>some (e::es)
   |none=>none
  |none=>none
mutual
def eJ (M:Mem):Nat->AV->Option AV
 |0,_=>none
 |k+1,.osl a g off n=>match gk M a g with
  |some (_,l,cs)=>if(off+n)*l.sz<=cs.length then(match gv M k ((cs.drop (off*l.sz)).take (n*l.sz))with
    |some cs=>match ov l.sz l n cs with
     |some es=>some (.slc .shared es)
     |none=>none
    |none=>none)else none
  |none=>none
 |k+1,.agg cs=>match gv M k cs with
  |some cs=>some (.agg cs)
  |none=>none
 |k+1,.tup cs=>match gv M k cs with
  |some cs=>some (.tup cs)
  |none=>none
 |_+1,v=>dY v
def gv (M:Mem):Nat->List AV->Option (List AV)
 |0,_=>none
 |_+1,[]=>some []
 |k+1,x::xs=>match eJ M k x with
  |some y=>match gv M k xs with
   |some ys=>some (y::ys)
   |none=>none
  |none=>none
end
def rY (M:Mem) (v:AV):Option AV:=match v with
 | .slc (.own a) es=>match M.arrs[a]? with
  |some (.app n _ _)=>if n=es.length then some (.slc (.own a) es)else some (.slc .shared es)
  |_=>none
 | .slc .full es=>some (.slc .full es)
 |v=>eJ M 4000 v
def frame:Nat->List AV->dx
 |_,[]=>[]
 |i,a::as=>(i,a)::frame (i+1) as
def lJ:List Nat->List AV->dx->dx
 |p::ps,a::as,ts=>lJ ps as ((p,a)::ts)
 |_,_,ts=>ts
def ow:List Nat->Mem->Option Mem
 |[],M=>some M
 |i::l,M=>match M.objs[i]? with
  |some .mark=>ow l (setObj M i .dead)
  |_=>none
def mM (s:St) (res:List Res):Option (AV×Mem):=match ow s.mks s.m with
 |some M=>match kK ⟨s.ts,M,[]⟩ res with
  |some vs=>some (fd vs,M)
  |none=>none
 |none=>none
def qk (G:Gls) (mu:Bool) (cl:a7) (yl:a7) (n:Nat) (id:Nat) (args:List AV) (M:Mem):Option (AV×Mem):=
 match M.objs[id]? with
 |some (.loop true none ts ps asg body)=>
  if args.length=ps.length then
   match a8 G mu cl yl n asg ⟨lJ ps args ts,M,[]⟩with
   |some (.normal,s1)=>match s1.m.objs[id]? with
    |some (.loop true none ts1 ps1 asg1 body1)=>match a8 G mu cl yl n body ⟨s1.ts,setObj s1.m id (.loop false none ts1 ps1 asg1 body1),[]⟩with
     |some (.normal,s2)=>match s2.m.objs[id]? with
      |some (.loop false none ts2 ps2 asg2 body2)=>some (.bool true,setObj s2.m id (.loop true none ts2 ps2 asg2 body2))
      |_=>none
     |some (e,s2)=>match s2.m.objs[id]? with
      |some (.loop false none ts2 ps2 asg2 body2)=>some (.bool false,setObj s2.m id (.loop false (some e) ts2 ps2 asg2 body2))
      |_=>none
     |none=>none
    |_=>none
   |_=>none
  else none
 |_=>none
def dr (G:Gls) (mu:Bool) (cl:a7) (yl:a7) (n:Nat) (cf:CFn) (as:List AV) (M:Mem):Option (AV×Mem):=
 match a8 G mu cl yl n cf.body ⟨frame 0 as,M,[]⟩with
 |some (.exit _,_)=>none
 |some (_,s)=>mM s cf.res
 |none=>none
def dn (G:Gls) (mu:Bool) (cl:a7) (yl:a7) (n:Nat) (cf:CFn) (as:List AV):Option (AV×Option Arr):=
 match eh as with
 |some as=>match dr G mu cl yl n cf as ⟨[],[]⟩with
  |some (v,M)=>match rY M v with
   |some (.slc (.own a) es)=>some (.slc .shared es,M.arrs[a]?)
   |some v=>some (v,none)
   |none=>none
  |none=>none
 |none=>none
def ox:List AV->Bool
 |[]=>true
 | .int .. ::l=>ox l
 | .bool _::l=>ox l
 | .str _::l=>ox l
 |_=>false
def iJ (mu:Bool) (r:AV×Option Arr) (M:Mem):Option (AV×Mem):=match r with
 |(.slc _ es,some (.app n ty sz))=>match mu with
  |false=>some (.slc (.own M.arrs.length) es,{M with arrs:=M.arrs++[.app n ty sz]})
  |true=>match dM es with
   |some cs=>if ox cs&&dV sz es&&decide (0<es.length)then some (.osl M.arrs.length 0 0 es.length,{M with arrs:=M.arrs++[.wr 0 ty (if sz=1 then .sc else .ag sz) cs]})else none
   |none=>none
 |(v,_)=>some (v,M)
def rZ (mu:Bool) (r:AV×Option Arr) (M:Mem):Option (AV×Mem):=match mu with
 |false=>iJ false r M
 |true=>some (r.1,M)
def it (ty sz:Nat):List AV->Option (AV×Option Arr)
 |[.slc _ []]=>some (.slc .full [],none)
 |[.slc _ (e::es)]=>if dV sz (e::es)&&decide ((e::es).length*4096<=140737488355328)then some (.slc .shared (e::es),some (.app (e::es).length ty sz))else none
 |_=>none
structure lK where
 fns:Nat->Option CFn
 orc:Nat->List AV->Option (AV×Option Arr)
 mutf:Nat->Bool
def EH:Arr->Arr
 | .app n _ _=>.wr (n+1) 0 .sc []
 | .wr g _ _ _=>.wr (g+1) 0 .sc []
def ql (M:Mem):Mem:={M with arrs:=M.arrs.map EH}
def sealed (r:Option (AV×Mem)):Option (AV×Mem):=match r with
 |some (v,M)=>match eJ M 4000 v with
  |some v'=>some (v',ql M)
  |none=>none
 |none=>none
def eY (G:Gls) (T:lK) (n:Nat) (mu:Bool):Nat->a7×(a7)
 |0=>(fun _ _ _=>none,fun _ _ _=>none)
 |k+1=>
  (fun f as M=>match T.orc f as with
   |some r=>iJ mu r M
   |none=>match T.fns f with
    |some cf=>if cf.pure&&!(mu&&T.mutf f)&&(eh as).isSome then(match dn G (T.mutf f) (eY G T n (T.mutf f) k).1 (eY G T n (T.mutf f) k).2 n cf as with
      |some r=>rZ mu r M
      |none=>none)else if !mu&&T.mutf f then sealed (dr G true (eY G T n true k).1 (eY G T n true k).2 n cf as M)else dr G mu (eY G T n mu k).1 (eY G T n mu k).2 n cf as M
    |none=>none,
   qk G mu (eY G T n mu k).1 (eY G T n mu k).2 n)
end Go.Proofs.Ae
namespace Go.Proofs.Ae
open Go Go.RowKit
structure BA where
 g:Nat
 b:Nat
 cap:Nat
 sz:Nat
 nil:Bool
def BA.val (e:BA) (off n:Nat):Value:=if e.nil then .slice none 0 0 else .slice (some ⟨e.b,off*e.sz,none⟩) n (e.cap - off)
def eK (as as':List BA):Prop:= ∀(i:Nat) (e:BA),as[i]? =some e-> ∃e':BA,as'[i]? =some e'/\(e'=e\/e.g<e'.g)
def eB (bs bs':List (Option Nat)):Prop:= ∀(i:Nat) (b:Option Nat),bs[i]? =some b->bs'[i]? =some b
def jD (bs bs':List (Option Nat)):Prop:= ∀(i b:Nat),bs[i]? =some (some b)->bs'[i]? =some (some b)
theorem eB.weak {bs bs':List (Option Nat)} (h:eB bs bs'):jD bs bs':=fun i _ k=>h i _ k
theorem eK.refl (as:List BA):eK as as:=fun _ e h=>⟨e,h,.inl rfl⟩
theorem eB.refl (bs:List (Option Nat)):eB bs bs:=fun _ _ h=>h
theorem eK.trans {a b c:List BA} (h:eK a b) (k:eK b c):eK a c:=fun i e he=>by
 obtain⟨e1,h1,r1⟩:=h i e he;obtain⟨e2,h2,r2⟩:=k i e1 h1;refine⟨e2,h2,?_⟩;rcases r1 with rfl|r1<;>rcases r2 with rfl|r2
 ·exact .inl rfl
 ·exact .inr r2
 ·exact .inr r1
 ·exact .inr (Nat.lt_trans r1 r2)
theorem eB.trans {a b c:List (Option Nat)} (h:eB a b) (k:eB b c):eB a c:=fun i b hb=>k i b (h i b hb)
theorem eK.nil (as:List BA):eK [] as:=fun _ _ h=>by simp at h
theorem eB.nil (bs:List (Option Nat)):eB [] bs:=fun _ _ h=>by simp at h
theorem eB.append (bs xs:List (Option Nat)):eB bs (bs++xs):=fun i b h=>by
 have:=(List.getElem?_eq_some_iff.1 h).1;rw[List.getElem?_append_left this];exact h
theorem eK.append (as xs:List BA):eK as (as++xs):=fun i e h=>by
 have:=(List.getElem?_eq_some_iff.1 h).1;exact⟨e,by rw[List.getElem?_append_left this];exact h,.inl rfl⟩
def fL (U:Nat->Nat) (w:World) (p:Addr) (vs:List Value):Prop:=
 ∀(i:Nat) (v:Value),vs[i]? =some v->w.cell? (p.add i)=some v/\p.off+i<U p.block
theorem oy (p:Addr) (i:Nat):(p.add i).block=p.block:=by unfold Addr.add;split<;>rfl
theorem oz (p:Addr) (i:Nat):(p.add i).off=p.off+i:=by unfold Addr.add;split<;>simp_all
theorem qm (p:Addr) (i j:Nat):(p.add i).add j=p.add (i+j):=by
 unfold Addr.add;by_cases hi:i=0<;>by_cases hj:j=0<;>simp[hi,hj,Nat.add_assoc]
def iu (as:List BA) (n:Nat) (v:Value):Sp->Prop
 | .shared=>True
 | .full=> ∃p:Option Addr,v=.slice p n n
 | .own a=> ∃e:BA,as[a]? =some e/\n<=e.g/\(n=e.g->(e.nil=false/\v=e.val 0 n)\/(e.nil=true/\ ∃p:Option Addr,v=.slice p 0 0))
mutual
inductive Rep (U:Nat->Nat) (w:World):List (Option Nat)->List BA->AV->Value->Prop
 |undef {bs as v}:Rep U w bs as .undef v
 |int {bs as k n}:Rep U w bs as (.int k n) (.int k n)
 |bool {bs as b}:Rep U w bs as (.bool b) (.bool b)
 |str {bs as s}:Rep U w bs as (.str s) (.string ⟨s.toArray⟩)
 |ptr {bs as id off b} (h:bs[id]? =some (some b)):Rep U w bs as (.ptr id off) (.pointer (some ⟨b,off,none⟩))
 |nilp {bs as}:Rep U w bs as .nilp (.pointer none)
 |nilm {bs as}:Rep U w bs as .nilm (.map none)
 |eptr {bs as a cs vs p} (hc:cells a=some cs) (h:dt U w [] [] cs vs) (hr:fL U w p vs):Rep U w bs as (.eptr a) (.pointer (some p))
 |slcN {bs as sp} (h:iu as 0 (.slice none 0 0) sp):Rep U w bs as (.slc sp []) (.slice none 0 0)
 |slc {bs as sp es cs vs p sz cap} (hf:dM es=some cs) (h:dt U w [] [] cs vs) (hr:fL U w p vs) (hz: ∀e∈es,∃c,cells e=some c/\c.length=sz)
   (hs:iu as es.length (.slice (some p) es.length cap) sp) (hcap:es.length<=cap):Rep U w bs as (.slc sp es) (.slice (some p) es.length cap)
 |osl {bs as a g off n e v} (ha:as[a]? =some e) (hg:g<=e.g) (h:g=e.g->v=e.val off n/\(e.nil=true->n=0)/\off+n<=e.cap) (h1:v.oneCell'=true):Rep U w bs as (.osl a g off n) v
 |apt {bs as a g off e v} (ha:as[a]? =some e) (hg:g<=e.g) (h:g=e.g->e.nil=false/\v=.pointer (some ⟨e.b,off,none⟩)) (h1:v.oneCell'=true):Rep U w bs as (.apt a g off) v
 |map {bs as id b} (h:bs[id]? =some (some b)):Rep U w bs as (.map id) (.map (some b))
 |fn {bs as f fst cap vf vc} (hf:dU U w bs as fst vf) (hc:dU U w bs as cap vc):Rep U w bs as (.fn f fst cap) (.func (.func f) vf.toArray vc.toArray)
 |yld {bs as id b} (h:bs[id]? =some (some b)):Rep U w bs as (.yld id) (.func (.yield b) #[] #[])
 |iface {bs as t a v} (h:Rep U w bs as a v):Rep U w bs as (.iface t a) (.iface t v)
 |nili {bs as}:Rep U w bs as .nili .nilIface
 |agg {bs as cs vs} (h:dt U w bs as cs vs):Rep U w bs as (.agg cs) (.agg vs.toArray)
 |tup {bs as cs vs} (h:dU U w bs as cs vs):Rep U w bs as (.tup cs) (.tuple vs.toArray)
inductive dt (U:Nat->Nat) (w:World):List (Option Nat)->List BA->List AV->List Value->Prop
 |nil {bs as}:dt U w bs as [] []
 |cons {bs as a v cs vs} (h:Rep U w bs as a v) (h1:v.oneCell'=true) (t:dt U w bs as cs vs):dt U w bs as (a::cs) (v::vs)
inductive dU (U:Nat->Nat) (w:World):List (Option Nat)->List BA->List AV->List Value->Prop
 |nil {bs as}:dU U w bs as [] []
 |cons {bs as a v cs vs} (h:Rep U w bs as a v) (t:dU U w bs as cs vs):dU U w bs as (a::cs) (v::vs)
end
theorem iu.mono {as as':List BA} (h:eK as as') {n:Nat} {v:Value} {sp:Sp} (k:iu as n v sp):iu as' n v sp:=by
 cases sp with
 |shared=>trivial
 |full=>exact k
 |own a=>
  obtain⟨e,he,hn,hv⟩:=k;obtain⟨e',he',r⟩:=h a e he;refine⟨e',he',?_,?_⟩
  ·rcases r with rfl|r<;>omega
  ·intro hh;rcases r with rfl|r
   ·exact hv hh
   ·omega
section
variable {U U':Nat->Nat} {w w':World}
theorem fL.mono (hU: ∀b,U b<=U' b) (hw: ∀a:Addr,a.off<U a.block->w'.cell? a=w.cell? a) {p:Addr} {vs:List Value} (h:fL U w p vs):fL U' w' p vs:=fun i v hi=>by
 obtain⟨h1,h2⟩:=h i v hi;refine⟨?_,Nat.lt_of_lt_of_le h2 (hU _)⟩;rw[hw _ (by rw[oz,oy];exact h2)];exact h1
mutual
theorem Rep.mono (hU: ∀b,U b<=U' b) (hw: ∀a:Addr,a.off<U a.block->w'.cell? a=w.cell? a) {bs bs':List (Option Nat)} {as as':List BA} (hb:jD bs bs') (ha:eK as as'):
  ∀{a:AV} {v:Value},Rep U w bs as a v->Rep U' w' bs' as' a v
 |_,_,.undef=>.undef
 |_,_,.int=>.int
 |_,_,.bool=>.bool
 |_,_,.str=>.str
 |_,_,.ptr h=>.ptr (hb _ _ h)
 |_,_,.nilp=>.nilp
 |_,_,.nilm=>.nilm
 |_,_,.eptr hc h hr=>.eptr hc (dt.mono hU hw (eB.nil _).weak (eK.nil _) h) (hr.mono hU hw)
 |_,_,.slcN h=>.slcN (h.mono ha)
 |_,_,.slc hf h hr hz hs hc=>.slc hf (dt.mono hU hw (eB.nil _).weak (eK.nil _) h) (hr.mono hU hw) hz (hs.mono ha) hc
 |_,_,.osl (g:=g) hh hg h h1=>by
  obtain⟨e',he',r⟩:=ha _ _ hh;refine .osl he' ?_ ?_ h1
  ·rcases r with rfl|r<;>omega
  ·intro k;rcases r with rfl|r
   ·exact h k
   ·omega
 |_,_,.apt (g:=g) hh hg h h1=>by
  obtain⟨e',he',r⟩:=ha _ _ hh;refine .apt he' ?_ ?_ h1
  ·rcases r with rfl|r<;>omega
  ·intro k;rcases r with rfl|r
   ·exact h k
   ·omega
 |_,_,.map h=>.map (hb _ _ h)
 |_,_,.fn hf hc=>.fn (dU.mono hU hw hb ha hf) (dU.mono hU hw hb ha hc)
 |_,_,.yld h=>.yld (hb _ _ h)
 |_,_,.iface h=>.iface (Rep.mono hU hw hb ha h)
 |_,_,.nili=>.nili
 |_,_,.agg h=>.agg (dt.mono hU hw hb ha h)
 |_,_,.tup h=>.tup (dU.mono hU hw hb ha h)
theorem dt.mono (hU: ∀b,U b<=U' b) (hw: ∀a:Addr,a.off<U a.block->w'.cell? a=w.cell? a) {bs bs':List (Option Nat)} {as as':List BA} (hb:jD bs bs') (ha:eK as as'):
  ∀{cs:List AV} {vs:List Value},dt U w bs as cs vs->dt U' w' bs' as' cs vs
 |_,_,.nil=>.nil
 |_,_,.cons h h1 t=>.cons (Rep.mono hU hw hb ha h) h1 (dt.mono hU hw hb ha t)
theorem dU.mono (hU: ∀b,U b<=U' b) (hw: ∀a:Addr,a.off<U a.block->w'.cell? a=w.cell? a) {bs bs':List (Option Nat)} {as as':List BA} (hb:jD bs bs') (ha:eK as as'):
  ∀{cs:List AV} {vs:List Value},dU U w bs as cs vs->dU U' w' bs' as' cs vs
 |_,_,.nil=>.nil
 |_,_,.cons h t=>.cons (Rep.mono hU hw hb ha h) (dU.mono hU hw hb ha t)
end
end
section
variable {U:Nat->Nat} {w:World} {bs:List (Option Nat)} {as:List BA}
theorem dt.length {cs:List AV} {vs:List Value} (h:dt U w bs as cs vs):vs.length=cs.length:=by
 induction cs generalizing vs with
 |nil=>cases h;rfl
 |cons a cs ih=>cases h with|cons h h1 t=>simp[ih t]
theorem dU.length {cs:List AV} {vs:List Value} (h:dU U w bs as cs vs):vs.length=cs.length:=by
 induction cs generalizing vs with
 |nil=>cases h;rfl
 |cons a cs ih=>cases h with|cons h t=>simp[ih t]
theorem dt.one {cs:List AV} {vs:List Value} (h:dt U w bs as cs vs): ∀v∈vs,v.oneCell'=true:=by
 induction cs generalizing vs with
 |nil=>cases h;simp
 |cons a cs ih=>cases h with
  |cons h h1 t=>
   intro v hv;rcases List.mem_cons.1 hv with rfl|hv
   ·exact h1
   ·exact ih t v hv
theorem dt.at {cs:List AV} {vs:List Value} (h:dt U w bs as cs vs) {i:Nat} {a:AV} (ha:cs[i]? =some a): ∃v,vs[i]? =some v/\Rep U w bs as a v/\v.oneCell'=true:=by
 induction cs generalizing vs i with
 |nil=>simp at ha
 |cons c cs ih=>cases h with
  |cons h h1 t=>
   cases i with
   |zero=>simp at ha;subst ha;exact⟨_,rfl,h,h1⟩
   |succ i=>simp at ha;simpa using ih t ha
theorem dU.at {cs:List AV} {vs:List Value} (h:dU U w bs as cs vs) {i:Nat} {a:AV} (ha:cs[i]? =some a): ∃v,vs[i]? =some v/\Rep U w bs as a v:=by
 induction cs generalizing vs i with
 |nil=>simp at ha
 |cons c cs ih=>cases h with
  |cons h t=>
   cases i with
   |zero=>simp at ha;subst ha;exact⟨_,rfl,h⟩
   |succ i=>simp at ha;simpa using ih t ha
theorem dt.append {cs ds:List AV} {vs us:List Value} (h:dt U w bs as cs vs) (k:dt U w bs as ds us):dt U w bs as (cs++ds) (vs++us):=by
 induction cs generalizing vs with
 |nil=>cases h;exact k
 |cons a cs ih=>cases h with|cons h h1 t=>exact .cons h h1 (ih t)
theorem dU.append {cs ds:List AV} {vs us:List Value} (h:dU U w bs as cs vs) (k:dU U w bs as ds us):dU U w bs as (cs++ds) (vs++us):=by
 induction cs generalizing vs with
 |nil=>cases h;exact k
 |cons a cs ih=>cases h with|cons h t=>exact .cons h (ih t)
theorem dt.take {cs:List AV} {vs:List Value} (h:dt U w bs as cs vs) (n:Nat):dt U w bs as (cs.take n) (vs.take n):=by
 induction cs generalizing vs n with
 |nil=>cases h;simp;exact .nil
 |cons a cs ih=>cases h with
  |cons h h1 t=>cases n with
   |zero=>simp;exact .nil
   |succ n=>simp;exact .cons h h1 (ih t n)
theorem dt.drop {cs:List AV} {vs:List Value} (h:dt U w bs as cs vs) (n:Nat):dt U w bs as (cs.drop n) (vs.drop n):=by
 induction cs generalizing vs n with
 |nil=>cases h;simp;exact .nil
 |cons a cs ih=>cases h with
  |cons h h1 t=>cases n with
   |zero=>simp;exact .cons h h1 t
   |succ n=>simp;exact ih t n
theorem dt.setAt {cs ds:List AV} {vs us:List Value} (h:dt U w bs as cs vs) (k:dt U w bs as ds us) (off:Nat):dt U w bs as (setAt cs off ds) (vs.take off++us++vs.drop (off+us.length)):=by
 unfold Ae.setAt;rw[k.length];exact((h.take off).append k).append (h.drop _)
theorem vE {v:Value} (h:v.oneCell'=true):v.cells= #[v]:=by cases v<;>first|rfl|(simp[Value.oneCell']at h)
theorem Rep.cells {a:AV} {v:Value} (h:Rep U w bs as a v) {cs:List AV} (hc:cells a=some cs):dt U w bs as cs v.cells.toList:=by
 have one: ∀{a:AV},cs=[a]->Rep U w bs as a v->v.oneCell'=true->dt U w bs as cs v.cells.toList:=by
  intro a e h h1;subst e;rw[vE h1];exact .cons h h1 .nil
 cases a<;>simp only[Ae.cells,Option.some.injEq,reduceCtorEq]at hc<;>
  first
   |(subst hc;cases h;rename_i hh;simpa[Value.cells] using hh)
   |(refine one hc.symm h ?_;cases h<;>first|rfl|assumption)
def kM (l:Lay) (us:List Value) (v:Value):Prop:=match l with
 | .sc=>us=[v]
 | .ag n=>v=.agg us.toArray/\us.length=n
theorem Rep.unit {cs:List AV} {vs:List Value} (h:dt U w bs as cs vs) {l:Lay} {a:AV} (hu:unit l cs=some a):
  ∃v,Rep U w bs as a v/\kM l vs v:=by
 cases l with
 |sc=>
  cases cs with
  |nil=>simp[Ae.unit]at hu
  |cons c cs=>cases cs with
   |cons _ _=>simp[Ae.unit]at hu
   |nil=>
    simp[Ae.unit]at hu;subst hu;cases h with
    |cons h h1 t=>cases t;exact⟨_,h,rfl⟩
 |ag n=>
  simp only[Ae.unit]at hu;split at hu
  ·rename_i hn
   simp at hu;subst hu;exact⟨_,.agg h,rfl,by rw[h.length,hn]⟩
  ·simp at hu
theorem Rep.sub {cs:List AV} {vs:List Value} (h:dt U w bs as cs vs) {l:Lay} {off:Nat} {a:AV} (hu:sub l off cs=some a):
  ∃v us,Rep U w bs as a v/\kM l us v/\(∀(i:Nat) (u:Value),us[i]? =some u->vs[off+i]? =some u)/\(∀cs',Ae.cells a=some cs'->dt U w bs as cs' us):=by
 cases l with
 |sc=>
  obtain⟨v,hv,hr,h1⟩:=h.at (show cs[off]? =some a by simpa[Ae.sub] using hu);refine⟨v,[v],hr,rfl,?_,?_⟩
  ·intro i u hi;cases i with
   |zero=>simp at hi;subst hi;simpa using hv
   |succ i=>simp at hi
  ·intro cs' hc;have:=hr.cells hc
   rwa [vE h1]at this
 |ag n=>
  simp only[Ae.sub]at hu;split at hu
  ·rename_i hn
   simp at hu;subst hu;have hl:=h.length;refine⟨_,(vs.drop off).take n,.agg ((h.drop off).take n),⟨rfl,by simp;omega⟩,?_,?_⟩
   ·intro i u hi;rw[List.getElem?_take]at hi;split at hi
    ·simpa using hi
    ·cases hi
   ·intro cs' hc;simp[Ae.cells]at hc;subst hc;exact(h.drop off).take n
  ·simp at hu
end
inductive fW (U:Nat->Nat) (w:World) (bs:List (Option Nat)) (as:List BA):List (AV×AV)->List MapEntry->Prop
 |nil:fW U w bs as [] []
 |cons {k v e es ents} (hk:Rep U w [] [] k e.key) (hv:Rep U w bs as v e.val) (t:fW U w bs as es ents):fW U w bs as ((k,v)::es) (e::ents)
class eg where
 rel:Nat->Code->dH->Prop
variable [eg]
def EI:Ex->Code
 | .normal=>.skip
 | .ret=>.ret
 | .exit id=>.exit id
def EJ (U:Nat->Nat) (w:World) (bs:List (Option Nat)) (as:List BA) (st:Bool) (pend:Option Ex) (ts:dx) (ps:List Nat) (asg body:dH) (r:Loop):Prop:=
 (∃nt,nt<=r.tmps.size/\eg.rel nt r.assign asg/\eg.rel nt r.body body/\ ∀p∈ps,p<nt)/\r.params.toList=ps/\(∀t,Rep U w bs as (look t ts) (r.tmps.getD t undef))/\
 (st=true->r.state=.ready/\r.pending=none/\pend=none)/\(∀e,st=false->pend=some e->e≠ .normal/\r.state=.done/\r.pending=some (EI e))
def hD (U:Nat->Nat) (w:World) (bs:List (Option Nat)) (as:List BA) (b:Nat):Obj->Prop
 | .cells cs=> ∃(vs:List Value) (ty:Nat),w.heap[b]? =some (.cells vs.toArray ty (0,0))/\dt U w bs as cs vs
 | .map es=> ∃(ents:Array MapEntry) (ck:Nat),w.heap[b]? =some (.map ents ck)/\fW U w bs as es ents.toList
 | .loop st pend ts ps asg body=> ∃r:Loop,w.heap[b]? =some (.loop r)/\EJ U w bs as st pend ts ps asg body r
 | .mark=>w.heap[b]? =some (.deferred (some []))
 | .dead=>True
 | .bld t cs=> ∃vs:List Value,w.heap[b]? =some (.cells vs.toArray t (0,0))/\dt U w bs as cs vs/\(cs=[.nilp,.slc .full []]-> ∃v0,vs=[v0,.slice none 0 0])
def fj (base:Nat) (U:Nat->Nat) (w:World) (bs:List (Option Nat)) (as:List BA) (e:BA):Arr->Prop
 | .app n ty sz=>e.g=n/\((e.nil=true/\n=0)\/
   (e.nil=false/\base<=e.b/\e.b<w.heap.size/\0<n/\e.sz=sz/\n<=e.cap/\e.cap<=maxLen/\U e.b=n*sz/\ ∃cur:Array Value,w.heap[e.b]? =some (.cells cur ty (0,0))/\cur.size=e.cap*sz))
 | .wr g ty l cs=>e.g=g/\((e.nil=true/\cs=[])\/
   (e.nil=false/\base<=e.b/\e.b<w.heap.size/\e.sz=l.sz/\cs.length<=e.cap*l.sz/\e.cap<=maxLen/\U e.b=0/\ ∃(cur:Array Value) (vs:List Value),w.heap[e.b]? =some (.cells cur ty (0,0))/\cur.size=e.cap*l.sz/\
    cur.toList.take cs.length=vs/\dt U w bs as cs vs))
structure di (base:Nat) (U:Nat->Nat) (bs:List (Option Nat)) (as:List BA) (w:World) (M:Mem):Prop where
 lo:bs.length=M.objs.length
 la:as.length=M.arrs.length
 hb:base<=w.heap.size
 d1: ∀(i j b:Nat),bs[i]? =some (some b)->bs[j]? =some (some b)->i=j
 d2: ∀(i b j:Nat) (e:BA),bs[i]? =some (some b)->as[j]? =some e->e.nil=false->e.b≠b
 d3: ∀(i j:Nat) (e e':BA),as[i]? =some e->as[j]? =some e'->e.nil=false->e'.nil=false->e.b=e'.b->i=j
 ob: ∀(i b:Nat),bs[i]? =some (some b)->base<=b/\b<w.heap.size/\U b=0
 oo: ∀(i b:Nat) (o:Obj),bs[i]? =some (some b)->M.objs[i]? =some o->hD U w bs as b o
 ao: ∀(i:Nat) (e:BA) (r:Arr),as[i]? =some e->M.arrs[i]? =some r->fj base U w bs as e r
 fr: ∀b,w.heap.size<=b->U b=0
def csz (w:World) (b:Nat):Option Nat:=match w.heap[b]? with
 |some (.cells c _ _)=>some c.size
 |_=>none
theorem qo {w w':World} {b:Nat} (h:w'.heap[b]? =w.heap[b]?):csz w' b=csz w b:=by unfold csz;rw[h]
structure Evo (base:Nat) (U:Nat->Nat) (bs:List (Option Nat)) (as:List BA) (w:World) (U':Nat->Nat) (bs':List (Option Nat)) (as':List BA) (w':World):Prop where
 below:Below base w w'
 old: ∀b,b<base->U' b=U b
 up: ∀b,U b<=U' b
 cell: ∀a:Addr,a.off<U a.block->w'.cell? a=w.cell? a
 bsl:eB bs bs'
 asl:eK as as'
 csz: ∀b,0<U b->csz w' b=csz w b
section
variable {base:Nat} {U U1 U2:Nat->Nat} {bs bs1 bs2:List (Option Nat)} {as as1 as2:List BA} {w w1 w2:World}
theorem Evo.refl (base:Nat) (U:Nat->Nat) (bs:List (Option Nat)) (as:List BA) (w:World):Evo base U bs as w U bs as w:=
 ⟨Below.refl _ _,fun _ _=>rfl,fun _=>Nat.le_refl _,fun _ _=>rfl,eB.refl _,eK.refl _,fun _ _=>rfl⟩
theorem Evo.trans (h:Evo base U bs as w U1 bs1 as1 w1) (k:Evo base U1 bs1 as1 w1 U2 bs2 as2 w2):Evo base U bs as w U2 bs2 as2 w2:=
 ⟨h.below.trans k.below,fun b hb=>(k.old b hb).trans (h.old b hb),fun b=>Nat.le_trans (h.up b) (k.up b),
  fun a ha=>(k.cell a (Nat.lt_of_lt_of_le ha (h.up _))).trans (h.cell a ha),h.bsl.trans k.bsl,h.asl.trans k.asl,
  fun b hb=>(k.csz b (Nat.lt_of_lt_of_le hb (h.up b))).trans (h.csz b hb)⟩
theorem Evo.rep (h:Evo base U bs as w U1 bs1 as1 w1) {a:AV} {v:Value} (k:Rep U w bs as a v):Rep U1 w1 bs1 as1 a v:=k.mono h.up h.cell h.bsl.weak h.asl
theorem Evo.repL (h:Evo base U bs as w U1 bs1 as1 w1) {cs:List AV} {vs:List Value} (k:dt U w bs as cs vs):dt U1 w1 bs1 as1 cs vs:=k.mono h.up h.cell h.bsl.weak h.asl
theorem Evo.repV (h:Evo base U bs as w U1 bs1 as1 w1) {cs:List AV} {vs:List Value} (k:dU U w bs as cs vs):dU U1 w1 bs1 as1 cs vs:=k.mono h.up h.cell h.bsl.weak h.asl
theorem Evo.repP (h:Evo base U bs as w U1 bs1 as1 w1) {a:AV} {v:Value} (k:Rep U w [] [] a v):Rep U1 w1 [] [] a v:=k.mono h.up h.cell (eB.refl _).weak (eK.refl _)
theorem Evo.repLP (h:Evo base U bs as w U1 bs1 as1 w1) {cs:List AV} {vs:List Value} (k:dt U w [] [] cs vs):dt U1 w1 [] [] cs vs:=k.mono h.up h.cell (eB.refl _).weak (eK.refl _)
theorem Evo.row (h:Evo base U bs as w U1 bs1 as1 w1) {p:Addr} {vs:List Value} (k:fL U w p vs):fL U1 w1 p vs:=k.mono h.up h.cell
theorem fW.evo (h:Evo base U bs as w U1 bs1 as1 w1): ∀{es:List (AV×AV)} {ents:List MapEntry},fW U w bs as es ents->fW U1 w1 bs1 as1 es ents
 |_,_,.nil=>.nil
 |_,_,.cons hk hv t=>.cons (h.repP hk) (h.rep hv) (t.evo h)
theorem Rep.lift {a:AV} {v:Value} (k:Rep U w [] [] a v):Rep U w bs as a v:=k.mono (fun _=>Nat.le_refl _) (fun _ _=>rfl) (eB.nil _).weak (eK.nil _)
theorem dt.lift {cs:List AV} {vs:List Value} (k:dt U w [] [] cs vs):dt U w bs as cs vs:=k.mono (fun _=>Nat.le_refl _) (fun _ _=>rfl) (eB.nil _).weak (eK.nil _)
theorem dU.lift {cs:List AV} {vs:List Value} (k:dU U w [] [] cs vs):dU U w bs as cs vs:=k.mono (fun _=>Nat.le_refl _) (fun _ _=>rfl) (eB.nil _).weak (eK.nil _)
theorem jE (_h:base<=w.heap.size):Evo base U bs as w U bs as w.drew:=
 ⟨(Below.refl _ _).drew,fun _ _=>rfl,fun _=>Nat.le_refl _,fun _ _=>rfl,eB.refl _,eK.refl _,fun _ _=>rfl⟩
theorem hD.keep {b:Nat} {o:Obj} (h:hD U w bs as b o) (ev:Evo base U bs as w U1 bs1 as1 w1) (hh:w1.heap[b]? =w.heap[b]?):hD U1 w1 bs1 as1 b o:=by
 cases o with
 |cells cs=>obtain⟨vs,ty,h1,h2⟩:=h;exact⟨vs,ty,hh.trans h1,ev.repL h2⟩
 |map es=>obtain⟨ents,ck,h1,h2⟩:=h;exact⟨ents,ck,hh.trans h1,h2.evo ev⟩
 |loop=>obtain⟨r,h1,h2,h3,h4,h5⟩:=h;exact⟨r,hh.trans h1,h2,h3,fun t=>ev.rep (h4 t),h5⟩
 |mark=>exact hh.trans h
 |bld t cs=>obtain⟨vs,h1,h2,h3⟩:=h;exact⟨vs,hh.trans h1,ev.repL h2,h3⟩
 |dead=>trivial
theorem fj.keep {e:BA} {r:Arr} (h:fj base U w bs as e r) (ev:Evo base U bs as w U1 bs1 as1 w1) (hs:w.heap.size<=w1.heap.size)
  (hh:e.nil=false->w1.heap[e.b]? =w.heap[e.b]?/\U1 e.b=U e.b):fj base U1 w1 bs1 as1 e r:=by
 cases r with
 |app n ty sz=>
  obtain⟨h0,h⟩:=h;refine⟨h0,?_⟩;rcases h with h|⟨hn,h1,h2,h3,h4,h5,h6,h7,cur,h8,h9⟩
  ·exact .inl h
  ·exact .inr ⟨hn,h1,Nat.lt_of_lt_of_le h2 hs,h3,h4,h5,h6,(hh hn).2.trans h7,cur,(hh hn).1.trans h8,h9⟩
 |wr g ty l cs=>
  obtain⟨h0,h⟩:=h;refine⟨h0,?_⟩;rcases h with h|⟨hn,h1,h2,h3,h4,h5,h6,cur,vs,h7,h8,h9,h10⟩
  ·exact .inl h
  ·exact .inr ⟨hn,h1,Nat.lt_of_lt_of_le h2 hs,h3,h4,h5,(hh hn).2.trans h6,cur,vs,(hh hn).1.trans h7,h8,h9,ev.repL h10⟩
theorem fj.lt {e:BA} {r:Arr} (h:fj base U w bs as e r) (hn:e.nil=false):base<=e.b/\e.b<w.heap.size:=by
 cases r<;>rcases h.2 with hh|hh<;>first|exact⟨hh.2.1,hh.2.2.1⟩|(rw[hh.1]at hn;cases hn)
theorem di.drew {M:Mem} (h:di base U bs as w M):di base U bs as w.drew M:=
 {lo:=h.lo,la:=h.la,hb:=h.hb,d1:=h.d1,d2:=h.d2,d3:=h.d3,ob:=h.ob,
  oo:=fun i b o hb ho=>(h.oo i b o hb ho).keep (jE h.hb) rfl,
  ao:=fun i e r he hr=>(h.ao i e r he hr).keep (jE h.hb) (Nat.le_refl _) (fun _=>⟨rfl,rfl⟩),fr:=h.fr}
def upd (U:Nat->Nat) (b n:Nat):Nat->Nat:=fun k=>if k=b then n else U k
theorem gw (U:Nat->Nat) (b n:Nat):upd U b n b=n:=by simp[upd]
theorem ia (U:Nat->Nat) {b n k:Nat} (h:k≠b):upd U b n k=U k:=by simp[upd,h]
theorem ib (o:Go.Obj) (h:base<=w.heap.size) (hf: ∀b,w.heap.size<=b->U b=0) (n:Nat):Evo base U bs as w (upd U w.heap.size n) bs as (w.alloc o):=
 ⟨(Below.refl _ _).alloc h o,fun b hb=>ia U (by omega),fun b=>by
  by_cases e:b=w.heap.size
  ·subst e;rw[hf _ (Nat.le_refl _)];exact Nat.zero_le _
  ·rw[ia U e];exact Nat.le_refl _,
  fun a ha=>World.cell?_alloc_old w o a (fun e=>by rw[e,hf _ (Nat.le_refl _)]at ha;omega),eB.refl _,eK.refl _,
  fun b hb=>qo (Below.heap_alloc w o b (Nat.lt_of_not_le (fun e=>by rw[hf b e]at hb;cases hb)))⟩
theorem oC (o:Go.Obj) {b:Nat} (h:b<w.heap.size):(w.alloc o).heap[b]? =w.heap[b]?:=Below.heap_alloc w o b h
theorem di.alloc {M:Mem} (h:di base U bs as w M) (o:Go.Obj) (n:Nat):di base (upd U w.heap.size n) bs as (w.alloc o) M:=
 have ev:=ib (base:=base) (bs:=bs) (as:=as) o h.hb h.fr n
 {lo:=h.lo,la:=h.la,hb:=by have:=h.hb;simp;omega,d1:=h.d1,d2:=h.d2,d3:=h.d3
  ob:=fun i b hb=>by
   obtain⟨h1,h2,h3⟩:=h.ob i b hb;exact⟨h1,by simp;omega,by rw[ia U (by omega)];exact h3⟩
  oo:=fun i b o' hb ho=>(h.oo i b o' hb ho).keep ev (oC o (h.ob i b hb).2.1)
  ao:=fun i e r he hr=>by
   have ha:=h.ao i e r he hr;refine ha.keep ev (by simp) (fun hn=>?_);have hlt:=(ha.lt hn).2;exact⟨oC o hlt,ia U (by omega)⟩
  fr:=fun b hb=>by simp at hb;rw[ia U (by omega)];exact h.fr b (by omega)}
theorem oD (b:Nat):Evo base U bs as w U (bs++[some b]) as w:=
 ⟨Below.refl _ _,fun _ _=>rfl,fun _=>Nat.le_refl _,fun _ _=>rfl,eB.append _ _,eK.refl _,fun _ _=>rfl⟩
theorem mN (e:BA):Evo base U bs as w U bs (as++[e]) w:=
 ⟨Below.refl _ _,fun _ _=>rfl,fun _=>Nat.le_refl _,fun _ _=>rfl,eB.refl _,eK.append _ _,fun _ _=>rfl⟩
theorem kP {α:Type} (l:List α) (x:α) (i:Nat):(l++[x])[i]? =if i=l.length then some x else l[i]?:=by
 by_cases h:i=l.length
 ·subst h;simp
 ·by_cases h2:i<l.length
  ·rw[List.getElem?_append_left h2,if_neg h]
  ·rw[if_neg h,List.getElem?_eq_none (by simp;omega),List.getElem?_eq_none (by omega)]
theorem eD {α:Type} {l:List α} {i:Nat} {x:α} (h:l[i]? =some x):i<l.length:=(List.getElem?_eq_some_iff.1 h).1
theorem di.arr {M:Mem} (h:di base U bs as w M) {j:Nat} {e:BA} (he:as[j]? =some e): ∃r,M.arrs[j]? =some r/\fj base U w bs as e r:=by
 have hl:=eD he;rw[h.la]at hl;have hr:M.arrs[j]? =some M.arrs[j]:=List.getElem?_eq_getElem hl;exact⟨_,hr,h.ao j e _ he hr⟩
theorem di.addObj {M:Mem} (h:di base U bs as w M) (b:Nat) (o:Obj) (hb:base<=b) (hl:b<w.heap.size) (hU:U b=0)
  (n1: ∀i:Nat,bs[i]?≠some (some b)) (n2: ∀(j:Nat) (e:BA),as[j]? =some e->e.nil=false->e.b≠b) (ho:hD U w (bs++[some b]) as b o):
  di base U (bs++[some b]) as w (newObj M o):=
 have ev:=oD (base:=base) (U:=U) (bs:=bs) (as:=as) (w:=w) b
 {lo:=by simp[newObj,h.lo],la:=h.la,hb:=h.hb
  d1:=fun i j c hi hj=>by
   rw[kP]at hi hj;split at hi<;>split at hj
   ·omega
   ·simp at hi;subst hi;exact absurd hj (n1 _)
   ·simp at hj;subst hj;exact absurd hi (n1 _)
   ·exact h.d1 i j c hi hj
  d2:=fun i c j e hi he hn=>by
   rw[kP]at hi;split at hi
   ·simp at hi;subst hi;exact n2 j e he hn
   ·exact h.d2 i c j e hi he hn
  d3:=h.d3
  ob:=fun i c hi=>by
   rw[kP]at hi;split at hi
   ·simp at hi;subst hi;exact⟨hb,hl,hU⟩
   ·exact h.ob i c hi
  oo:=fun i c o' hi ho'=>by
   rw[kP]at hi;simp only[newObj]at ho';rw[kP,<-h.lo]at ho';split at hi
   ·rename_i e
    simp[e]at hi ho';subst hi ho';exact ho
   ·rename_i e
    simp[e]at ho';exact(h.oo i c o' hi ho').keep ev rfl
  ao:=fun i e r he hr=>(h.ao i e r he hr).keep ev (Nat.le_refl _) (fun _=>⟨rfl,rfl⟩)
  fr:=h.fr}
theorem di.addArr {M:Mem} (h:di base U bs as w M) (e:BA) (r:Arr) (hr:fj base U w bs (as++[e]) e r)
  (n1:e.nil=false-> ∀(i b:Nat),bs[i]? =some (some b)->e.b≠b) (n2:e.nil=false-> ∀(j:Nat) (e':BA),as[j]? =some e'->e'.nil=false->e'.b≠e.b):
  di base U bs (as++[e]) w {M with arrs:=M.arrs++[r]}:=
 have ev:=mN (base:=base) (U:=U) (bs:=bs) (as:=as) (w:=w) e
 {lo:=h.lo,la:=by simp[h.la],hb:=h.hb,d1:=h.d1
  d2:=fun i c j e' hi he hn=>by
   rw[kP]at he;split at he
   ·simp at he;subst he;exact n1 hn i c hi
   ·exact h.d2 i c j e' hi he hn
  d3:=fun i j e1 e2 h1 h2 k1 k2 hb=>by
   rw[kP]at h1 h2;split at h1<;>split at h2
   ·omega
   ·simp at h1;subst h1;exact absurd hb.symm (n2 k1 j e2 h2 k2)
   ·simp at h2;subst h2;exact absurd hb (n2 k2 i e1 h1 k1)
   ·exact h.d3 i j e1 e2 h1 h2 k1 k2 hb
  ob:=h.ob
  oo:=fun i c o hi ho=>(h.oo i c o hi ho).keep ev rfl
  ao:=fun i e' r' he hr'=>by
   simp only at hr';rw[kP]at he;rw[kP,<-h.la]at hr';split at he
   ·rename_i k
    simp[k]at he hr';subst he hr';exact hr
   ·rename_i k
    simp[k]at hr';exact(h.ao i e' r' he hr').keep ev (Nat.le_refl _) (fun _=>⟨rfl,rfl⟩)
  fr:=h.fr}
end
end Go.Proofs.Ae
namespace Go.Proofs.Ae
open Go Go.RowKit
variable [eg]
structure lL (w w':World) (b:Nat):Prop where
 os:w'.os=w.os
 tape:w'.tape=w.tape
 output:w'.output=w.output
 size:w'.heap.size=w.heap.size
 other: ∀k,k≠b->w'.heap[k]? =w.heap[k]?
theorem oE (w:World) (b:Nat) (cs:Array Value):lL w (w.setRow b cs) b:=⟨rfl,rfl,rfl,setRow_size w b cs,fun k h=>setRow_other w b k cs h⟩
theorem vF (w:World) (b:Nat) (o:Go.Obj):lL w {w with heap:=w.heap.setIfInBounds b o} b:=
 ⟨rfl,rfl,rfl,by simp,fun k h=>by simp[Ne.symm h]⟩
section
variable {base:Nat} {U:Nat->Nat} {bs:List (Option Nat)} {as:List BA} {w w':World}
theorem jF {b:Nat} (t:lL w w' b) (hb:base<=b) (hU:U b=0):Evo base U bs as w U bs as w':=
 ⟨⟨t.os,t.tape,t.output,Nat.le_of_eq t.size.symm,fun k hk=>t.other k (by omega)⟩,fun _ _=>rfl,fun _=>Nat.le_refl _,
  fun a ha=>World.cell?_of_block (t.other _ (fun e=>by rw[e,hU]at ha;omega)),eB.refl _,eK.refl _,
  fun k hk=>qo (t.other _ (fun e=>by rw[e,hU]at hk;cases hk))⟩
theorem fX {α:Type} (l:List α) (i j:Nat) (x:α):(l.set i x)[j]? =if i=j then(if i<l.length then some x else none)else l[j]?:=by
 rw[List.getElem?_set]
theorem di.turnObj {M:Mem} (h:di base U bs as w M) {id b:Nat} (hb:bs[id]? =some (some b)) (t:lL w w' b) (o:Obj) (ho:hD U w' bs as b o):
  di base U bs as w' (setObj M id o)/\Evo base U bs as w U bs as w':=by
 obtain⟨k1,k2,k3⟩:=h.ob id b hb;have ev:Evo base U bs as w U bs as w':=jF t k1 k3;refine⟨{lo:=by simp[setObj,h.lo],la:=h.la,hb:=by rw[t.size];exact h.hb,d1:=h.d1,d2:=h.d2,d3:=h.d3,ob:=?_,oo:=?_,ao:=?_,fr:=?_},ev⟩
 ·intro i c hi;rw[t.size];exact h.ob i c hi
 ·intro i c o' hi ho';simp only[setObj,fX]at ho';split at ho'
  ·rename_i e
   subst e;rw[hb]at hi;cases hi;split at ho'
   ·simp at ho';subst ho';exact ho
   ·simp at ho'
  ·rename_i e
   exact(h.oo i c o' hi ho').keep ev (t.other _ (fun e'=>e (h.d1 id i b hb (by rw[hi,e']))))
 ·intro i e r he hr;refine(h.ao i e r he hr).keep ev (Nat.le_of_eq t.size.symm) (fun hn=>⟨t.other _ (h.d2 id b i e hb he hn),rfl⟩)
 ·intro c hc;rw[t.size]at hc;exact h.fr c hc
theorem di.turnArr {M:Mem} (h:di base U bs as w M) {j:Nat} {e:BA} (he:as[j]? =some e) (hn:e.nil=false) (hU:U e.b=0) (t:lL w w' e.b) (r:Arr)
  (hr:fj base U w' bs as e r):di base U bs as w' (gP M j r)/\Evo base U bs as w U bs as w':=by
 obtain⟨r0,h0,hr0⟩:=h.arr he;obtain⟨k1,k2⟩:=hr0.lt hn;have ev:Evo base U bs as w U bs as w':=jF t k1 hU;refine⟨{lo:=h.lo,la:=by simp[gP,h.la],hb:=by rw[t.size];exact h.hb,d1:=h.d1,d2:=h.d2,d3:=h.d3,ob:=?_,oo:=?_,ao:=?_,fr:=?_},ev⟩
 ·intro i c hi;rw[t.size];exact h.ob i c hi
 ·intro i c o hi ho;exact(h.oo i c o hi ho).keep ev (t.other _ (fun e'=>h.d2 i c j e hi he hn e'.symm))
 ·intro i e' r' he' hr';simp only[gP,fX]at hr';split at hr'
  ·rename_i k
   subst k;rw[he]at he';cases he';split at hr'
   ·simp at hr';subst hr';exact hr
   ·simp at hr'
  ·rename_i k
   exact(h.ao i e' r' he' hr').keep ev (Nat.le_of_eq t.size.symm) (fun hn'=>⟨t.other _ (fun e2=>k (h.d3 j i e e' he he' hn hn' e2.symm)),rfl⟩)
 ·intro c hc;rw[t.size]at hc;exact h.fr c hc
theorem di.moveArr {M:Mem} {U':Nat->Nat} (h:di base U bs as w M) {j:Nat} {e e':BA} (he:as[j]? =some e) (_hg:e.g<e'.g)
  (ev:Evo base U bs as w U' bs (as.set j e') w') (hs:w.heap.size<=w'.heap.size) (r:Arr) (hr:fj base U' w' bs (as.set j e') e' r)
  (keepB: ∀b,b<w.heap.size->(e.nil=false->b≠e.b)->w'.heap[b]? =w.heap[b]?/\U' b=U b)
  (hnew:e'.nil=false->(e.nil=false/\e'.b=e.b)\/w.heap.size<=e'.b) (hfr: ∀b,w'.heap.size<=b->U' b=0):
  di base U' bs (as.set j e') w' (gP M j r):=by
 have hj:=eD he;refine {lo:=h.lo,la:=by simp[gP,h.la],hb:=Nat.le_trans h.hb hs,d1:=h.d1,d2:=?_,d3:=?_,ob:=?_,oo:=?_,ao:=?_,fr:=hfr}
 ·intro i b k e2 hi hk hn;rw[fX]at hk;split at hk
  ·simp at hk;subst hk;rcases hnew hn with⟨h1,h2⟩|h1
   ·rw[h2];exact h.d2 i b j e hi he h1
   ·have:=(h.ob i b hi).2.1;omega
  ·exact h.d2 i b k e2 hi hk hn
 ·intro i k e1 e2 h1 h2 n1 n2 hb;rw[fX]at h1 h2;split at h1<;>split at h2
  ·omega
  ·rename_i p q
   simp at h1;subst h1;rcases hnew n1 with⟨m1,m2⟩|m1
   ·exact absurd (h.d3 j k e e2 he h2 m1 n2 (by rw[<-m2,hb])) (by omega)
   ·obtain⟨r2,_,hr2⟩:=h.arr h2;have:=(hr2.lt n2).2;omega
  ·rename_i p q
   simp at h2;subst h2;rcases hnew n2 with⟨m1,m2⟩|m1
   ·exact absurd (h.d3 j i e e1 he h1 m1 n1 (by rw[<-m2,hb])) (by omega)
   ·obtain⟨r2,_,hr2⟩:=h.arr h1;have:=(hr2.lt n1).2;omega
  ·exact h.d3 i k e1 e2 h1 h2 n1 n2 hb
 ·intro i b hi;obtain⟨k1,k2,k3⟩:=h.ob i b hi;refine⟨k1,by omega,?_⟩;rw[(keepB b k2 (fun hn=>(h.d2 i b j e hi he hn).symm)).2];exact k3
 ·intro i b o hi ho;have k2:=(h.ob i b hi).2.1;exact(h.oo i b o hi ho).keep ev (keepB b k2 (fun hn=>(h.d2 i b j e hi he hn).symm)).1
 ·intro i e2 r2 hi hr2;simp only[gP,fX]at hr2;rw[fX]at hi;split at hi
  ·rename_i k
   subst k;simp at hi;subst hi;simp at hr2;rw[<-hr2.2];exact hr
  ·rename_i k
   simp[k]at hr2;have ha:=h.ao i e2 r2 hi hr2;exact ha.keep ev hs (fun hn=>keepB _ (ha.lt hn).2 (fun hn' e3=>k (h.d3 j i e e2 he hi hn' hn e3.symm)))
theorem qp {j:Nat} {e e':BA} (he:as[j]? =some e) (hg:e.g<e'.g):eK as (as.set j e'):=by
 intro i x hi;by_cases k:j=i
 ·subst k;rw[he]at hi;cases hi;exact⟨e',by rw[fX];simp[eD he],.inr hg⟩
 ·exact⟨x,by rw[fX,if_neg k];exact hi,.inl rfl⟩
end
end Go.Proofs.Ae
namespace Go.Proofs.Ae
open Go Go.RowKit
variable [eg]
def avC:Value->AV
 | .bool b=>.bool b
 | .int k n=>.int k n
 | .string s=>.str s.data.toList
 | .slice none 0 0=>.slc .full []
 | .pointer none=>.nilp
 | .map none=>.nilm
 | .nilIface=>.nili
 |_=>.undef
def sa:Value->AV
 | .agg cs=>if cs.toList.all (·.oneCell')then .agg (cs.toList.map avC)else .undef
 |v=>avC v
def dm:Operand->Opd
 | .tmp t=>.tmp t
 | .const v=>.const (sa v)
 | .global g=>.glob g
 | .func f=>.fn f
def eE (P:Program) (t:TypeId):Option Lay:=
 match P.info? t,P.underlying t with
 |some i,some (.struct _)=>some (.ag i.size)
 |some i,some (.array _ _)=>some (.ag i.size)
 |some i,some _=>if i.size=1 then some .sc else none
 |_,_=>none
def zC (P:Program) (t:TypeId):Option (List AV):=
 match P.info? t with
 |some i=>match i.zero with
  |some z=>if z.cells.toList.all (·.oneCell')then some (z.cells.toList.map avC)else none
  |none=>none
 |none=>none
def zV (P:Program) (t:TypeId):Option AV:=
 match P.info? t with
 |some i=>match i.zero with
  |some z=>some (sa z)
  |none=>none
 |none=>none
section
variable {P:Program} {U:Nat->Nat} {bs:List (Option Nat)} {as:List BA} {w:World}
theorem zb (v:Value):Rep U w bs as (avC v) v:=by
 unfold avC;split<;>first
  |exact .bool
  |exact .int
  |exact .nilp
  |exact .nilm
  |exact .nili
  |exact .undef
  |exact .slcN ⟨none,rfl⟩
  |(rename_i s;exact Rep.str (s:=s.data.toList))
theorem sd: ∀(l:List Value),l.all (·.oneCell')=true->dt U w bs as (l.map avC) l
 |[],_=>.nil
 |v::l,h=>by
  simp at h;exact .cons (zb v) h.1 (sd l (by simpa using h.2))
theorem zd (v:Value):Rep U w bs as (sa v) v:=by
 unfold sa;split
 ·split
  ·rename_i cs h
   exact Rep.agg (vs:=cs.toList) (sd _ h)
  ·exact .undef
 ·exact zb v
def fQ (U:Nat->Nat) (w:World) (G:Gls):Prop:=
 ∀(g:Nat) (v:AV),G g=some v-> ∃(cs:List AV) (vs:List Value),cells v=some cs/\dt U w [] [] cs vs/\fL U w ⟨g,0,none⟩ vs/\(0<vs.length->csz w g=some vs.length)
def gl (U:Nat->Nat) (w:World) (bs:List (Option Nat)) (as:List BA) (ts:dx) (a:Array Value):Prop:=
 ∀t,Rep U w bs as (look t ts) (a.getD t undef)
theorem vG {G:Gls} {ts:dx} {a:Act} (hg:fQ U w G) (hs:gl U w bs as ts a.tmps) (x:Operand):
  Rep U w bs as ((dm x).val G ts) (a.eval x):=by
 cases x with
 |tmp t=>exact hs t
 |const v=>exact zd v
 |global g=>
  simp only[dm,Opd.val,Act.eval];split
  ·rename_i v h
   obtain⟨cs,vs,h1,h2,h3,-⟩:=hg g v h;exact .eptr h1 h2 h3
  ·exact .undef
 |func f=>exact Rep.fn (vf:=[]) (vc:=[]) .nil .nil
def eL (base:Nat) (U:Nat->Nat) (bs:List (Option Nat)) (as:List BA) (w:World) (v:AV) (M':Mem) (x:Value) (w':World):Prop:=
 ∃U' bs' as',Rep U' w' bs' as' v x/\di base U' bs' as' w' M'/\Evo base U bs as w U' bs' as' w'
def ef (P:Program) (base:Nat) (U:Nat->Nat) (bs:List (Option Nat)) (as:List BA) (w:World) (v:AV) (M':Mem) (s:Sem Value):Prop:=
 ∃x w',s.run P w=.ok x w'/\eL base U bs as w v M' x w'
theorem dN {base:Nat} {v:AV} {M:Mem} {s:Sem Value} {x:Value} (h:di base U bs as w M) (hr:s.run P w=.ok x w) (hv:Rep U w bs as v x):
  ef P base U bs as w v M s:=⟨x,w,hr,U,bs,as,hv,h,Evo.refl _ _ _ _ _⟩
theorem dR {v v':AV} {M M':Mem} (h:ok v M=some (v',M')):v'=v/\M'=M:=by simp[ok]at h;exact⟨h.1.symm,h.2.symm⟩
theorem jY {v:Option AV} {v':AV} {M M':Mem} (h:okO v M=some (v',M')):v=some v'/\M'=M:=by
 cases v<;>simp[okO]at h;exact⟨by rw[h.1],h.2.symm⟩
theorem vH {t:TypeId} {l:Lay} (h:eE P t=some l): ∃i,P.info? t=some i/\i.size=l.sz:=by
 unfold eE at h;split at h
 ·rename_i i fs h1 h2;simp at h;subst h;exact⟨i,h1,rfl⟩
 ·rename_i i n e h1 h2;simp at h;subst h;exact⟨i,h1,rfl⟩
 ·rename_i i d hn1 hn2 h1 h2;split at h
  ·rename_i hs;simp at h;subst h;exact⟨i,h1,hs⟩
  ·simp at h
 ·simp at h
theorem ic {t:TypeId} {l:Lay} (h:eE P t=some l) (w:World):(sizeOf t).run P w=.ok l.sz w:=by
 obtain⟨i,h1,h2⟩:=vH h;simp[Go.sizeOf,typeInfo,h1,h2]
theorem vI {t:TypeId} {l:Lay} (h:eE P t=some l) (w:World):(isAgg t).run P w=.ok (match l with| .sc=>false| .ag _=>true) w:=by
 unfold eE at h;split at h
 ·rename_i i fs h1 h2;simp at h;subst h;simp[isAgg,run_underlying h2]
 ·rename_i i n e h1 h2;simp at h;subst h;simp[isAgg,run_underlying h2]
 ·rename_i i d hn1 hn2 h1 h2
  split at h
  ·simp at h;subst h;unfold isAgg;rw[Sem.run_bind,run_underlying h2];cases d<;>simp_all
  ·simp at h
 ·simp at h
theorem ze {t:TypeId} {l:Lay} (h:eE P t=some l) {p:Addr} {us:List Value} {v:Value} (hl:kM l us v)
  (hc: ∀(i:Nat) (u:Value),us[i]? =some u->w.cell? (p.add i)=some u):(loadVar t p).run P w=.ok v w:=by
 unfold loadVar;rw[Sem.run_bind,vI h];cases l with
 |sc=>
  simp only[kM]at hl;subst hl;have h0:=hc 0 v rfl;have:p.add 0=p:=by simp[Addr.add]
  rw[this]at h0;simp[run_load,h0]
 |ag n=>
  obtain⟨rfl,hn⟩:=hl;have hll:=run_loadCells_list (P:=P) w p us hc;have hsz:=ic h w;simp only[Lay.sz]at hsz;subst hn;simp[hsz,hll]
theorem vJ {t:TypeId} {l:Lay} (h:eE P t=some l) {p:Addr} {us:List Value} {v:Value} (hl:kM l us v)
  (hc: ∀(i:Nat) (u:Value),us[i]? =some u->w.cell? (p.add i)=some u):(Instr.loadAt t (.pointer (some p))).run P w=.ok v w:=by
 simp[Instr.loadAt,Instr.sureAddr,ze h hl hc]
variable {G:Gls} {mu:Bool} {ts:dx} {M M':Mem} {base:Nat} {v:AV}
theorem di.cellsAt (h:di base U bs as w M) {id b:Nat} (hb:bs[id]? =some (some b)) {cs:List AV} (ho:M.objs[id]? =some (.cells cs)):
  ∃(vs:List Value) (ty:Nat),w.heap[b]? =some (.cells vs.toArray ty (0,0))/\dt U w bs as cs vs/\ ∀(off i:Nat) (u:Value),vs[off+i]? =some u->w.cell? ((⟨b,off,none⟩:Addr).add i)=some u:=by
 obtain⟨vs,ty,h1,h2⟩:=h.oo id b _ hb ho;refine⟨vs,ty,h1,h2,?_⟩;intro off i u hu;have:(⟨b,off,none⟩:Addr).add i=⟨b,off+i,none⟩:=by unfold Addr.add;split<;>simp_all
 rw[this];simp[World.cell?,h1,hu]
theorem di.rowAt (h:di base U bs as w M) {j g:Nat} {e:BA} (he:as[j]? =some e) (hg:g=e.g) {ty:Nat} {l:Lay} {cs:List AV} (hr:gk M j g=some (ty,l,cs)) (hn:e.nil=false):
  e.sz=l.sz/\base<=e.b/\e.cap<=maxLen/\cs.length<=e.cap*l.sz/\U e.b=0/\ ∃(cur:Array Value) (vs:List Value),w.heap[e.b]? =some (.cells cur ty (0,0))/\cur.size=e.cap*l.sz/\cur.toList.take cs.length=vs/\dt U w bs as cs vs/\
   ∀(off i:Nat) (u:Value),vs[off+i]? =some u->w.cell? ((⟨e.b,off,none⟩:Addr).add i)=some u:=by
 obtain⟨r,h0,hr0⟩:=h.arr he;unfold gk at hr;rw[h0]at hr;cases r with
 |app n ty sz=>simp at hr
 |wr g' ty' l' cs'=>
  simp at hr;obtain⟨_,rfl,rfl,rfl⟩:=hr;obtain⟨_,hh⟩:=hr0;rcases hh with hh|⟨_,k1,k2,k3,k4,k5,k6,cur,vs,k7,k8,k9,k10⟩
  ·rw[hh.1]at hn;cases hn
  ·refine⟨k3,k1,k5,k4,k6,cur,vs,k7,k8,k9,k10,?_⟩;intro off i u hu;have:(⟨e.b,off,none⟩:Addr).add i=⟨e.b,off+i,none⟩:=by unfold Addr.add;split<;>simp_all
   rw[this];subst k9;rw[List.getElem?_take]at hu;split at hu
   ·simp[World.cell?,k7];simpa using hu
   ·cases hu
theorem iK (h:di base U bs as w M) {j g:Nat} {e:BA} (he:as[j]? =some e) {ty:Nat} {l:Lay} {cs:List AV} (hr:gk M j g=some (ty,l,cs)):g=e.g:=by
 obtain⟨r,h0,hr0⟩:=h.arr he;unfold gk at hr;rw[h0]at hr;cases r with
 |app n ty sz=>simp at hr
 |wr g' ty' l' cs'=>
  simp at hr;rw[hr0.1,<-hr.1]
theorem EK {t:TypeId} {l:Lay} {x:Opd} {vx:Value} (hl:eE P t=some l) (hx:Rep U w bs as (x.val G ts) vx) (hH:di base U bs as w M)
  (h:dv G mu ts M (.load l x)=some (v,M')):ef P base U bs as w v M' (Instr.loadAt t vx):=by
 simp only[dv]at h;split at h
 ·rename_i id off hv
  rw[hv]at hx;cases hx with
  |ptr hb=>
   split at h
   ·rename_i cs ho
    obtain⟨hs,rfl⟩:=jY h;obtain⟨vs,ty,h1,h2,h3⟩:=hH.cellsAt hb ho;obtain⟨u,us,k1,k2,k3,_⟩:=Rep.sub h2 hs;exact dN hH (vJ hl k2 fun i u hu=>h3 off i u (k3 i u hu)) k1
   ·simp at h
 ·rename_i a g off hv
  rw[hv]at hx;cases hx with
  |apt ha hg hh h1=>
   split at h
   ·rename_i ty l' cs hr
    obtain⟨hs,rfl⟩:=jY h;have hge:=iK hH ha hr;obtain⟨hn,rfl⟩:=hh hge;obtain⟨_,_,_,_,_,cur,vs,_,_,_,h2,h3⟩:=hH.rowAt ha hge hr hn;obtain⟨u,us,k1,k2,k3,_⟩:=Rep.sub h2 hs;exact dN hH (vJ hl k2 fun i u hu=>h3 off i u (k3 i u hu)) k1
   ·simp at h
 ·rename_i a hv
  rw[hv]at hx;cases hx with
  |eptr hc hL hr=>
   rw[hc]at h;obtain⟨hs,rfl⟩:=jY h;obtain⟨u,k1,k2⟩:=Rep.unit hL hs;exact dN hH (vJ hl k2 fun i u hu=>(hr i u hu).1) k1.lift
 ·simp at h
end
end Go.Proofs.Ae
namespace Go.Proofs.Ae
open Go Go.RowKit
variable [eg]
theorem lM {e:AV} {es F:List AV} (h:dM (e::es)=some F): ∃c cs,cells e=some c/\dM es=some cs/\F=c++cs:=by
 simp only[dM]at h;split at h
 ·simp at h
 ·rename_i c hc
  split at h
  ·simp at h
  ·rename_i cs hcs
   simp at h;exact⟨c,cs,hc,hcs,h.symm⟩
theorem zf {sz:Nat}: ∀{es F:List AV} {i:Nat} {e:AV} {c:List AV},dM es=some F->(∀e∈es,∃c,cells e=some c/\c.length=sz)->es[i]? =some e->cells e=some c->
  (F.drop (i*sz)).take sz=c
 |[],F,i,e,c,_,_,hi,_=>by simp at hi
 |x::es,F,i,e,c,h,hz,hi,hc=>by
  obtain⟨c0,cs,h1,h2,rfl⟩:=lM h;obtain⟨c1,h3,h4⟩:=hz x (by simp);rw[h1]at h3;cases h3;cases i with
  |zero=>
   simp at hi;subst hi;rw[h1]at hc;cases hc;simp[<-h4]
  |succ i=>
   simp at hi;have:=zf h2 (fun e he=>hz e (by simp[he])) hi hc;rw[Nat.succ_mul,Nat.add_comm,<-List.drop_drop,<-h4];rw[List.drop_left,h4];exact this
theorem jZ {sz:Nat}: ∀{es F:List AV},dM es=some F->(∀e∈es,∃c,cells e=some c/\c.length=sz)->F.length=es.length*sz
 |[],F,h,_=>by simp[dM]at h;subst h;simp
 |x::es,F,h,hz=>by
  obtain⟨c0,cs,h1,h2,rfl⟩:=lM h;obtain⟨c1,h3,h4⟩:=hz x (by simp);rw[h1]at h3;cases h3;simp[jZ h2 (fun e he=>hz e (by simp[he])),h4,Nat.succ_mul,Nat.add_comm]
theorem EL {l:Lay} {c:List AV} {v:AV} (h:unit l c=some v):c.length=l.sz:=by
 cases l with
 |sc=>match c,h with
  |[x],_=>rfl
 |ag n=>simp only[unit]at h;split at h<;>simp_all [Lay.sz]
section
variable {P:Program} {U:Nat->Nat} {bs:List (Option Nat)} {as:List BA} {w:World}
variable {G:Gls} {mu:Bool} {ts:dx} {M M':Mem} {base:Nat} {v:AV}
theorem EM {l:Lay} {us:List Value} {x:Value} (h:kM l us x) (h1: ∀u∈us,u.oneCell'=true):x.cells.toList=us:=by
 cases l with
 |sc=>simp only[kM]at h;subst h;rw[vE (h1 x (by simp))]
 |ag n=>obtain⟨rfl,_⟩:=h;simp[Value.cells]
theorem EN {l:Lay} {c:List AV} {us:List Value} {a:AV} {q:Addr} (h:dt U w [] [] c us) (hr:fL U w q us) (hu:unit l c=some a) {c':List AV} (hc:cells a=some c'):
  Rep U w bs as (.eptr a) (.pointer (some q)):=by
 obtain⟨x,k1,k2⟩:=Rep.unit h hu;have k3:=k1.cells hc;rw[EM k2 h.one]at k3;exact .eptr hc k3 hr
theorem zg {l:Lay} {off:Nat} {c:List AV} {us:List Value} {a:AV} {q:Addr} (h:dt U w [] [] c us) (hr:fL U w q us) (hu:sub l off c=some a) {c':List AV} (hc:cells a=some c'):
  Rep U w bs as (.eptr a) (.pointer (some (q.add off))):=by
 obtain⟨x,vs,k1,k2,k3,k4⟩:=Rep.sub h hu;refine .eptr hc (k4 c' hc) ?_;intro i u hi;have:=hr (off+i) u (k3 i u hi);rw[qm];refine⟨this.1,?_⟩;rw[oz,oy];have:=this.2;omega
theorem vK {a:AV} {M:Mem} (h:ept a M=some (v,M')): ∃c,cells a=some c/\v=.eptr a/\M'=M:=by
 unfold ept at h;split at h
 ·rename_i c hc
  simp at h;exact⟨c,hc,h.1.symm,h.2.symm⟩
 ·simp at h
theorem iv (b o i:Nat):(⟨b,o,none⟩:Addr).add i=⟨b,o+i,none⟩:=by unfold Addr.add;split<;>simp_all
theorem vL {s f:Nat} {fs:Array Field} {fld:Field} {l:Lay} (hu:P.underlying s=some (.struct fs)) (hf:fs[f]? =some fld) (hl:eE P fld.type=some l) (hz:l.sz≠0) (p:Addr):
  (Instr.fieldAt s (.pointer (some p)) f).run P w=.ok (.pointer (some (p.add fld.offset))) w:=by
 simp[Instr.fieldAt,run_underlying hu,hf,Instr.sureAddr,fieldPlace,ic hl,hz]
theorem EO {s f:Nat} {fs:Array Field} {fld:Field} {l:Lay} {x:Opd} {vx:Value} (hu:P.underlying s=some (.struct fs)) (hf:fs[f]? =some fld) (hl:eE P fld.type=some l) (hz:l.sz≠0)
  (hx:Rep U w bs as (x.val G ts) vx) (hH:di base U bs as w M) (h:dv G mu ts M (.faddr fld.offset l x)=some (v,M')):ef P base U bs as w v M' (Instr.fieldAt s vx f):=by
 simp only[dv]at h;split at h
 ·rename_i id o hv
  rw[hv]at hx;cases hx with
  |ptr hb=>
   obtain⟨rfl,rfl⟩:=dR h;exact dN hH (vL hu hf hl hz _) (by rw[iv];exact .ptr hb)
 ·rename_i a g o hv
  rw[hv]at hx;cases hx with
  |apt ha hg hh h1=>
   split at h
   ·rename_i r hr
    obtain⟨rfl,rfl⟩:=dR h;obtain⟨hn,rfl⟩:=hh (iK hH ha hr);exact dN hH (vL hu hf hl hz _) (by rw[iv];exact .apt ha hg (fun _=>⟨hn,rfl⟩) rfl)
   ·simp at h
 ·rename_i a hv
  rw[hv]at hx;cases hx with
  |eptr hc hL hr=>
   rw[hc]at h;dsimp only at h;split at h
   ·rename_i y hy
    obtain⟨c,h1,rfl,rfl⟩:=vK h;exact dN hH (vL hu hf hl hz _) (zg hL hr hy h1)
   ·simp at h
 ·simp at h
theorem zh {t e:Nat} {l:Lay} (hu:P.underlying t=some (.slice e)) (hl:eE P e=some l) (p:Addr) (n cap:Nat) (k:IntKind) (i:Int) (h0:0<=i) (h1:i<n):
  (Instr.indexAt t (.slice (some p) n cap) (.int k i)).run P w=.ok (.pointer (some (p.add (i.toNat*l.sz)))) w:=by
 simp[Instr.indexAt,asIntOf,run_underlying hu,h0,h1,ic hl]
theorem BA.val_some {e:BA} {off n:Nat} (hn:e.nil=false):e.val off n=.slice (some ⟨e.b,off*e.sz,none⟩) n (e.cap - off):=by simp[BA.val,hn]
theorem EP {t e:Nat} {l:Lay} {x i:Opd} {vx vi:Value} (hu:P.underlying t=some (.slice e)) (hl:eE P e=some l)
  (hx:Rep U w bs as (x.val G ts) vx) (hi:Rep U w bs as (i.val G ts) vi) (hH:di base U bs as w M) (h:dv G mu ts M (.iaddrS l x i)=some (v,M')):ef P base U bs as w v M' (Instr.indexAt t vx vi):=by
 simp only[dv]at h;split at h
 ·rename_i sp es k n hv1 hv2
  rw[hv1]at hx;rw[hv2]at hi;cases hi;split at h
  ·rename_i h0
   split at h
   ·rename_i el hel
    split at h
    ·rename_i c hc
     split at h
     ·rename_i y hy
      obtain⟨c',h1,rfl,rfl⟩:=vK h;have hlt:=eD hel;cases hx with
      |slcN hs=>simp at hel
      |slc hf hL hr hz hs hcap=>
       obtain⟨c2,h2,h3⟩:=hz el (List.mem_of_getElem? hel);rw[hc]at h2;cases h2;have hsz:=EL hy;have hat:=zf hf hz hel hc;rw[<-h3,hsz]at hat;have hrun:=zh (w:=w) hu hl (p:=by assumption) (n:=es.length) (cap:=by assumption) k n h0 (by omega);refine dN hH hrun ?_;have hL':=(hL.drop (n.toNat*l.sz)).take l.sz;rw[hat]at hL';refine EN hL' ?_ hy h1;intro j u hj;rw[List.getElem?_take]at hj;split at hj
       ·rw[List.getElem?_drop]at hj;have:=hr _ u hj;rw[qm,oz,oy];exact⟨this.1,by have:=this.2;omega⟩
       ·cases hj
     ·simp at h
    ·simp at h
   ·simp at h
  ·simp at h
 ·rename_i a g off len k n hv1 hv2
  rw[hv1]at hx;rw[hv2]at hi;cases hi;split at h
  ·rename_i h0
   split at h
   ·rename_i ty l' cs hr
    split at h
    ·rename_i hsz
     obtain⟨rfl,rfl⟩:=dR h;cases hx with
     |osl ha hg hh h1=>
      have hge:=iK hH ha hr;obtain⟨rfl,hn0,hcap⟩:=hh hge;have hn:(BA.nil (by assumption))=false:=by
       cases hq:BA.nil (by assumption)with
       |false=>rfl
       |true=>have:=hn0 hq;omega
      obtain⟨k3,_⟩:=hH.rowAt ha hge hr hn;rw[BA.val_some hn];have hrun:=zh (w:=w) hu hl ⟨BA.b (by assumption),off*BA.sz (by assumption),none⟩ len (BA.cap (by assumption) - off) k n h0.1 h0.2;refine dN hH hrun (.apt ha hg (fun _=>⟨hn,?_⟩) rfl);rw[iv,k3,hsz,Nat.add_mul]
    ·simp at h
   ·simp at h
  ·simp at h
 ·simp at h
end
end Go.Proofs.Ae
namespace Go.Proofs.Ae
open Go Go.RowKit
variable [eg]
theorem lN (k:IntKind) (n:Int):dj k n=k.wrap n:=by
 unfold dj;split
 ·rename_i m
  split
  ·rename_i h
   have hm:m<=9223372036854775807:=Nat.le_of_ble_eq_true h;exact(IntWalk.i64_in _ (by constructor<;>first|(simp;done)|(simp;omega))).symm
  ·rfl
 ·rfl
section
variable {P:Program} {U:Nat->Nat} {bs:List (Option Nat)} {as:List BA} {w:World}
variable {G:Gls} {mu:Bool} {ts:dx} {M M':Mem} {base:Nat} {v:AV}
theorem zi {t e n:Nat} {l:Lay} (hu:P.underlying t=some (.array n e)) (hl:eE P e=some l) (p:Addr) (k:IntKind) (i:Int) (h0:0<=i) (h1:i<n):
  (Instr.indexAt t (.pointer (some p)) (.int k i)).run P w=.ok (.pointer (some (p.add (i.toNat*l.sz)))) w:=by
 simp[Instr.indexAt,asIntOf,run_underlying hu,h0,h1,ic hl,Instr.sureAddr]
theorem ER {t e n:Nat} {l:Lay} {x i:Opd} {vx vi:Value} (hu:P.underlying t=some (.array n e)) (hl:eE P e=some l)
  (hx:Rep U w bs as (x.val G ts) vx) (hi:Rep U w bs as (i.val G ts) vi) (hH:di base U bs as w M) (h:dv G mu ts M (.iaddrA n l x i)=some (v,M')):ef P base U bs as w v M' (Instr.indexAt t vx vi):=by
 simp only[dv]at h;split at h
 ·rename_i id off k m hv1 hv2
  rw[hv1]at hx;rw[hv2]at hi;cases hi;cases hx with
  |ptr hb=>
   split at h
   ·rename_i h0
    obtain⟨rfl,rfl⟩:=dR h;exact dN hH (zi hu hl _ k m h0.1 h0.2) (by rw[iv];exact .ptr hb)
   ·simp at h
 ·rename_i a k m hv1 hv2
  rw[hv1]at hx;rw[hv2]at hi;cases hi;cases hx with
  |eptr hc hL hr=>
   split at h
   ·rename_i h0
    rw[hc]at h;dsimp only at h;split at h
    ·rename_i y hy
     obtain⟨c,h1,rfl,rfl⟩:=vK h;exact dN hH (zi hu hl _ k m h0.1 h0.2) (zg hL hr hy h1)
    ·simp at h
   ·simp at h
 ·simp at h
theorem ES {x:Opd} {vx:Value} (hx:Rep U w bs as (x.val G ts) vx) (hH:di base U bs as w M) (h:dv G mu ts M (.nilck x)=some (v,M')):
  Rep U w bs as v vx/\M'=M/\((∃p,vx=.pointer (some p))\/(∃f a b,vx=.func (.func f) a b)\/ ∃b,vx=.func (.yield b) #[] #[]):=by
 simp only[dv]at h;split at h
 ·rename_i id off hv
  rw[hv]at hx;obtain⟨rfl,rfl⟩:=dR h;cases hx with
  |ptr hb=>exact⟨.ptr hb,rfl,.inl ⟨_,rfl⟩⟩
 ·rename_i a g off hv
  rw[hv]at hx;split at h
  ·rename_i r hr
   obtain⟨rfl,rfl⟩:=dR h;cases hx with
   |apt ha hg hh h1=>
    obtain⟨hn,rfl⟩:=hh (iK hH ha hr);exact⟨.apt ha hg hh h1,rfl,.inl ⟨_,rfl⟩⟩
  ·simp at h
 ·rename_i a hv
  rw[hv]at hx;obtain⟨rfl,rfl⟩:=dR h;cases hx with
  |eptr hc hL hr=>exact⟨.eptr hc hL hr,rfl,.inl ⟨_,rfl⟩⟩
 ·rename_i f a b hv
  rw[hv]at hx;obtain⟨rfl,rfl⟩:=dR h;cases hx with
  |fn h1 h2=>exact⟨.fn h1 h2,rfl,.inr (.inl ⟨_,_,_,rfl⟩)⟩
 ·rename_i id hv
  rw[hv]at hx;obtain⟨rfl,rfl⟩:=dR h;cases hx with
  |yld h1=>exact⟨.yld h1,rfl,.inr (.inr ⟨_,rfl⟩)⟩
 ·simp at h
theorem ET {op:BinOp} {k:IntKind} {a b:Int} {r:AV} (h:rT op k a b=some r) (ho:op≠ .shl) (ho2:op≠ .shr) (xt:Nat):
  ∃x,(binOp op xt (.int k a) (.int k b)).run P w=.ok x w/\Rep U w bs as r x:=by
 cases op<;>simp only[rT,Option.some.injEq,reduceCtorEq]at h<;>
  first
   |exact absurd rfl ho
   |exact absurd rfl ho2
   |(subst h;refine⟨_,?_,by first|exact .int|exact .bool⟩;simp[binOp,Op.intArith,Op.intCmp,Op.intBits,lN];done)
   |(split at h
     ·simp at h
     ·rename_i hb
      simp at h;subst h;refine⟨_,?_,.int⟩;simp[binOp,Op.intDiv,hb,lN])
theorem se (s:List UInt8):(ByteArray.mk s.toArray).toList=s:=by
 rw[Go.ByteArray.toList_eq]
theorem mO (s:List UInt8):(ByteArray.mk s.toArray).size=s.length:=by show s.toArray.size=s.length;simp
theorem EU (a b:List UInt8):ByteArray.mk a.toArray++ByteArray.mk b.toArray=ByteArray.mk (a++b).toArray:=by
 apply ByteArray.ext;simp[ByteArray.data_append]
theorem zj {a b:IntKind}:jB a b=true↔a=b:=by simp[jB]
theorem vM {op:BinOp} {xt:Nat} {x y:Opd} {vx vy:Value} (hx:Rep U w bs as (x.val G ts) vx) (hy:Rep U w bs as (y.val G ts) vy) (hH:di base U bs as w M)
  (h:dv G mu ts M (.bin op x y)=some (v,M')) (xo yo:Operand):ef P base U bs as w v M' (do eqGuard op xt xo yo vx vy;binOp op xt vx vy):=by
 simp only[dv]at h;obtain⟨hq,rfl⟩:=jY h;clear h;have h:=hq;clear hq;have guard: ∀(a b:Value),(∀cs ds,¬(a=.agg cs/\b=.agg ds))-> ¬(a=.nilIface/\b=.nilIface)->(eqGuard op xt xo yo a b).run P w=.ok () w:=by
  intro a b h1 h2;unfold eqGuard
  (repeat' split)<;>first
   |rfl
   |exact absurd ⟨rfl,rfl⟩ h2
   |exact absurd ⟨rfl,rfl⟩ (h1 _ _)
   |simp_all
 unfold vC at h;split at h
 ·rename_i k a k' b hv1 hv2
  rw[hv1]at hx;rw[hv2]at hy;cases hx;cases hy;have hg:=guard (.int k a) (.int k' b) (by simp) (by simp);split at h
  ·unfold qg at h;split at h
   ·simp at h
   ·rename_i h0
    simp at h;subst h;refine dN hH ?_ .int;simp[hg,binOp,Op.shift,h0,lN]
  ·unfold qg at h;split at h
   ·simp at h
   ·rename_i h0
    simp at h;subst h;refine dN hH ?_ .int;simp[hg,binOp,Op.shift,h0]
  ·rename_i n1 n2
   split at h
   ·rename_i hk
    have hk:=zj.1 hk;subst hk;obtain⟨z,h1,h2⟩:=ET (P:=P) (w:=w) (U:=U) (bs:=bs) (as:=as) h n1 n2 xt;refine dN hH ?_ h2;rw[Sem.run_bind,hg];exact h1
   ·simp at h
 ·rename_i a b hv1 hv2
  rw[hv1]at hx;rw[hv2]at hy;cases hx;cases hy;have hg:=guard (.string ⟨a.toArray⟩) (.string ⟨b.toArray⟩) (by simp) (by simp);unfold dB at h;cases op<;>simp only[Option.some.injEq,reduceCtorEq]at h
  ·split at h
   ·rename_i hs
    simp at h;subst h;refine dN hH ?_ .str;have hs':((ByteArray.mk a.toArray).size:Int)+((ByteArray.mk b.toArray).size:Int)<=9223372036854775807:=by
     rw[mO,mO];omega
    simp[hg,binOp,Op.stringOp,hs',EU]
   ·simp at h
  ·subst h;refine dN hH ?_ .bool;simp[hg,binOp,Op.stringOp,se]
  ·subst h;refine dN hH ?_ .bool;simp[hg,binOp,Op.stringOp,se]
 ·simp at h
theorem EV {op:UnOp} {x:Opd} {vx:Value} (hx:Rep U w bs as (x.val G ts) vx) (hH:di base U bs as w M)
  (h:dv G mu ts M (.un op x)=some (v,M')):ef P base U bs as w v M' (Op.unary op vx):=by
 simp only[dv]at h;obtain⟨hq,rfl⟩:=jY h;clear h;have h:=hq;clear hq;unfold unA at h;split at h
 ·rename_i b hv
  rw[hv]at hx;cases hx;simp at h;subst h;exact dN hH (by simp[Op.unary]) .bool
 ·rename_i k n hv
  rw[hv]at hx;cases hx;simp at h;subst h;exact dN hH (by simp[Op.unary,Op.intArith,lN]) .int
 ·rename_i k n hv
  rw[hv]at hx;cases hx;simp at h;subst h;exact dN hH (by simp[Op.unary,Op.intBits,lN]) .int
 ·simp at h
theorem EW {src dst:Nat} {k k0:IntKind} {x:Opd} {vx:Value} (hs:P.underlying src=some (.int k0)) (hd:P.underlying dst=some (.int k)) (hx:Rep U w bs as (x.val G ts) vx) (hH:di base U bs as w M)
  (h:dv G mu ts M (.convI k x)=some (v,M')):ef P base U bs as w v M' (convert src dst vx):=by
 simp only[dv]at h;split at h
 ·rename_i k1 n hv
  rw[hv]at hx;cases hx;obtain⟨rfl,rfl⟩:=dR h;exact dN hH (by simp[convert,run_underlying hs,run_underlying hd,Conv.intToInt,lN]) .int
 ·simp at h
theorem zk {t:Nat} {l:Lay} (hl:eE P t=some l) {vs us:List Value} {u:Value} {off:Nat} (hL:kM l us u) (h: ∀(i:Nat) (x:Value),us[i]? =some x->vs[off+i]? =some x):
  (part t vs.toArray off).run P w=.ok u w:=by
 unfold part;rw[Sem.run_bind,vI hl];cases l with
 |sc=>
  simp only[kM]at hL;subst hL;have:=h 0 u rfl;simp at this;simp[this]
 |ag n=>
  obtain⟨rfl,hn⟩:=hL;have hsz:=ic hl w;simp only[Lay.sz]at hsz;simp only[Result.andThen_ok,if_true,Sem.run_bind,hsz];have e:vs.toArray.extract off (off+n)=us.toArray:=by
   apply Array.ext';simp only[Array.toList_extract,List.extract_eq_take_drop];apply List.ext_getElem?;intro i;rw[List.getElem?_take];split
   ·rename_i hi
    rw[List.getElem?_drop];have hlt:i<us.length:=by omega
    rw[List.getElem?_eq_getElem hlt];exact h i _ (List.getElem?_eq_getElem hlt)
   ·rw[List.getElem?_eq_none (by omega)]
  rw[e];rfl
theorem EX {t f:Nat} {fs:Array Field} {fld:Field} {l:Lay} {x:Opd} {vx:Value} (hu:P.underlying t=some (.struct fs)) (hf:fs[f]? =some fld) (hl:eE P fld.type=some l)
  (hx:Rep U w bs as (x.val G ts) vx) (hH:di base U bs as w M) (h:dv G mu ts M (.fieldv fld.offset l x)=some (v,M')):ef P base U bs as w v M' (Instr.field t vx f):=by
 simp only[dv]at h;split at h
 ·rename_i cs hv
  rw[hv]at hx;cases hx with
  |agg hL=>
   obtain⟨hs,rfl⟩:=jY h;obtain⟨u,us,k1,k2,k3,_⟩:=Rep.sub hL hs;refine dN hH ?_ k1;simp only[Instr.field,Sem.run_bind,run_underlying hu,Result.andThen_ok,hf,asAgg,Sem.run_pure];exact zk hl k2 k3
 ·simp at h
theorem EY {t e n:Nat} {l:Lay} {x i:Opd} {vx vi:Value} (hu:P.underlying t=some (.array n e)) (hl:eE P e=some l)
  (hx:Rep U w bs as (x.val G ts) vx) (hi:Rep U w bs as (i.val G ts) vi) (hH:di base U bs as w M) (h:dv G mu ts M (.idxA n l x i)=some (v,M')):ef P base U bs as w v M' (Instr.index t vx vi):=by
 simp only[dv]at h;split at h
 ·rename_i cs k m hv1 hv2
  rw[hv1]at hx;rw[hv2]at hi;cases hi;cases hx with
  |agg hL=>
   split at h
   ·rename_i h0
    obtain⟨hs,rfl⟩:=jY h;obtain⟨u,us,k1,k2,k3,_⟩:=Rep.sub hL hs;refine dN hH ?_ k1;simp only[Instr.index,Sem.run_bind,asIntOf,Sem.run_pure,run_underlying hu,Result.andThen_ok,h0.1,h0.2,true_and,and_self,if_true,ic hl];exact zk hl k2 k3
   ·simp at h
 ·simp at h
theorem EZ {t:Nat} {x i:Opd} {vx vi:Value} (hu:P.underlying t=some .string)
  (hx:Rep U w bs as (x.val G ts) vx) (hi:Rep U w bs as (i.val G ts) vi) (hH:di base U bs as w M) (h:dv G mu ts M (.idxS x i)=some (v,M')):ef P base U bs as w v M' (Instr.index t vx vi):=by
 simp only[dv]at h;split at h
 ·rename_i s k m hv1 hv2
  rw[hv1]at hx;rw[hv2]at hi;cases hi;cases hx;split at h
  ·rename_i h0
   split at h
   ·rename_i b hb
    obtain⟨rfl,rfl⟩:=dR h;refine dN hH ?_ .int;have:(ByteArray.mk s.toArray)[m.toNat]? =some b:=by
     have hlt:=eD hb;have hlt':m.toNat<(ByteArray.mk s.toArray).size:=by rw[mO];exact hlt
     rw[getElem?_pos (ByteArray.mk s.toArray) m.toNat hlt'];have:=(List.getElem?_eq_some_iff.1 hb).2;simpa[ByteArray.getElem_eq_getElem_data] using this
    simp[Instr.index,asIntOf,run_underlying hu,h0,this]
   ·simp at h
  ·simp at h
 ·simp at h
theorem E0 {x:Opd} {i:Nat} {vx:Value} (hx:Rep U w bs as (x.val G ts) vx) (hH:di base U bs as w M) (h:dv G mu ts M (.extr x i)=some (v,M')):ef P base U bs as w v M' (Instr.extract vx i):=by
 simp only[dv]at h;split at h
 ·rename_i vs hv
  rw[hv]at hx;cases hx with
  |tup hL=>
   obtain⟨hs,rfl⟩:=jY h;obtain⟨u,k1,k2⟩:=hL.at hs;exact dN hH (by simp[Instr.extract,k1]) k2
 ·simp at h
end
end Go.Proofs.Ae
namespace Go.Proofs.Ae
open Go Go.RowKit
variable [eg]
section
variable {P:Program} {U:Nat->Nat} {bs:List (Option Nat)} {as:List BA} {w:World}
variable {G:Gls} {mu:Bool} {ts:dx} {M M':Mem} {base:Nat} {v:AV}
theorem kQ {xt:Nat} {x y:Value} {r:Bool} (h: ∀d:Nat,(Op.equalIn (d+1) xt x y).run P w=.ok r w):(Op.equal xt x y).run P w=.ok r w:=h 9999
theorem E1 {xt:Nat} (hu:P.underlying xt=some .bool) (a b:Bool) (d:Nat):(Op.equalIn (d+1) xt (.bool a) (.bool b)).run P w=.ok (a==b) w:=by
 simp[Op.equalIn,run_underlying hu]
theorem zl {xt e:Nat} (hu:P.underlying xt=some (.slice e)) (p:Addr) (n c n' c':Nat) (d:Nat):(Op.equalIn (d+1) xt (.slice (some p) n c) (.slice none n' c')).run P w=.ok false w:=by
 simp[Op.equalIn,run_underlying hu]
theorem E2 {xt k e:Nat} (hu:P.underlying xt=some (.map k e)) (b d:Nat):(Op.equalIn (d+1) xt (.map (some b)) (.map none)).run P w=.ok false w:=by
 simp[Op.equalIn,run_underlying hu]
theorem E3 {xt k e:Nat} (hu:P.underlying xt=some (.map k e)) (d:Nat):(Op.equalIn (d+1) xt (.map none) (.map none)).run P w=.ok true w:=by
 simp[Op.equalIn,run_underlying hu]
theorem E4 {xt:Nat} {ms:Array (String×TypeId)} (hu:P.underlying xt=some (.interface ms)) (t:Nat) (x:Value) (d:Nat):(Op.equalIn (d+1) xt (.iface t x) .nilIface).run P w=.ok false w:=by
 simp[Op.equalIn,run_underlying hu]
theorem E5 {xt e:Nat} (hu:P.underlying xt=some (.pointer e)) (b:Addr) (d:Nat):(Op.equalIn (d+1) xt (.pointer (some b)) (.pointer none)).run P w=.ok false w:=by
 simp[Op.equalIn,run_underlying hu]
theorem E6 {xt e:Nat} (hu:P.underlying xt=some (.pointer e)) (d:Nat):(Op.equalIn (d+1) xt (.pointer none) (.pointer none)).run P w=.ok true w:=by
 simp[Op.equalIn,run_underlying hu]
theorem E7 {xt:Nat} {ms:Array (String×TypeId)} (hu:P.underlying xt=some (.interface ms)) (d:Nat):(Op.equalIn (d+1) xt .nilIface .nilIface).run P w=.ok true w:=by
 simp[Op.equalIn,run_underlying hu]
theorem zm {neg:Bool} {xt:Nat} {x y:Value} {r:Bool} {xo yo:Operand} (he:(Op.equal xt x y).run P w=.ok r w) (hg: ∀op,(eqGuard op xt xo yo x y).run P w=.ok () w)
  (h1: ∀op,op=.eql->binOp op xt x y=(do pure (.bool (<-Op.equal xt x y)))) (h2: ∀op,op=.neq->binOp op xt x y=(do pure (.bool (!(<-Op.equal xt x y))))):
  (do eqGuard (if neg then .neq else .eql) xt xo yo x y;binOp (if neg then .neq else .eql) xt x y:Sem Value).run P w=.ok (.bool (if neg then !r else r)) w:=by
 cases neg
 ·simp only[Bool.false_eq_true,if_false,Sem.run_bind,hg,Result.andThen_ok,h1 _ rfl,he,Sem.run_pure]
 ·simp only[if_true,Sem.run_bind,hg,Result.andThen_ok,h2 _ rfl,he,Sem.run_pure]
theorem lO {op:BinOp} {xt:Nat} {xo yo:Operand} {a b:Value} (h1: ∀cs ds,¬(a=.agg cs/\b=.agg ds)) (h2: ¬(a=.nilIface/\b=.nilIface)):(eqGuard op xt xo yo a b).run P w=.ok () w:=by
 unfold eqGuard
 (repeat' split)<;>first
  |rfl
  |exact absurd ⟨rfl,rfl⟩ h2
  |exact absurd ⟨rfl,rfl⟩ (h1 _ _)
  |simp_all
theorem E8 {neg:Bool} {xt:Nat} {x y:Opd} {vx vy:Value} (hu:P.underlying xt=some .bool) (hx:Rep U w bs as (x.val G ts) vx) (hy:Rep U w bs as (y.val G ts) vy) (hH:di base U bs as w M)
  (h:dv G mu ts M (.eqb neg x y)=some (v,M')) (xo yo:Operand):ef P base U bs as w v M' (do eqGuard (if neg then .neq else .eql) xt xo yo vx vy;binOp (if neg then .neq else .eql) xt vx vy):=by
 simp only[dv]at h;split at h
 ·rename_i a b hv1 hv2
  rw[hv1]at hx;rw[hv2]at hy;cases hx;cases hy;obtain⟨rfl,rfl⟩:=dR h;refine dN hH (zm (kQ (E1 hu a b)) (fun _=>lO (by simp) (by simp)) (by rintro _ rfl;rfl) (by rintro _ rfl;rfl)) .bool
 ·simp at h
def sf:Operand->Bool
 | .const _=>true
 |_=>false
def jG:TypeDesc->Option Value
 | .slice _=>some (.slice none 0 0)
 | .map _ _=>some (.map none)
 | .interface _=>some .nilIface
 | .pointer _=>some (.pointer none)
 |_=>none
theorem E9 {neg:Bool} {xt:Nat} {d:TypeDesc} {nv:Value} {x:Opd} {vx:Value} (hu:P.underlying xt=some d) (hd:jG d=some nv) (hk:(∃id,x.val G ts=.map id)\/x.val G ts=.nilm-> ∃k e,d=.map k e)
  (hki: ∀t a,x.val G ts=.iface t a-> ∃ms,d=.interface ms) (hkn:x.val G ts=.nili-> ∃ms,d=.interface ms)
  (hks:(∃sp es,x.val G ts=.slc sp es)\/(∃a g o n,x.val G ts=.osl a g o n)-> ∃e,d=.slice e)
  (hkp:(∃i o,x.val G ts=.ptr i o)\/x.val G ts=.nilp-> ∃e,d=.pointer e)
  (hx:Rep U w bs as (x.val G ts) vx) (hH:di base U bs as w M)
  (h:om neg (x.val G ts) M=some (v,M')) (xo yo:Operand) (hc:sf yo=true):ef P base U bs as w v M' (do eqGuard (if neg then .neq else .eql) xt xo yo vx nv;binOp (if neg then .neq else .eql) xt vx nv):=by
 have fin: ∀{r:Bool} {vx':Value},v=.bool (if neg then !r else r)->M'=M->(Op.equal xt vx' nv).run P w=.ok r w->(∀op,(eqGuard op xt xo yo vx' nv).run P w=.ok () w)->
   (∀op,op=.eql->binOp op xt vx' nv=(do pure (.bool (<-Op.equal xt vx' nv))))->(∀op,op=.neq->binOp op xt vx' nv=(do pure (.bool (!(<-Op.equal xt vx' nv)))))->
   ef P base U bs as w v M' (do eqGuard (if neg then .neq else .eql) xt xo yo vx' nv;binOp (if neg then .neq else .eql) xt vx' nv):=by
  intro r vx' h1 h2 h3 h4 h5 h6;subst h1 h2;exact dN hH (zm h3 h4 h5 h6) .bool
 simp only[om]at h;split at h
 ·rename_i sp e1 es hv
  obtain⟨e,rfl⟩:=hks (.inl ⟨_,_,hv⟩);simp[jG]at hd;subst hd;rw[hv]at hx;obtain⟨rfl,rfl⟩:=dR h;cases hx with
  |slc hf hL hr hz hs hcap=>
   exact fin (r:=false) (by cases neg<;>rfl) rfl (kQ (zl hu _ _ _ _ _)) (fun _=>lO (by simp) (by simp)) (by rintro _ rfl;rfl) (by rintro _ rfl;rfl)
 ·rename_i a g off n hv
  obtain⟨e,rfl⟩:=hks (.inr ⟨_,_,_,_,hv⟩);simp[jG]at hd;subst hd;rw[hv]at hx;split at h
  ·rename_i r hr
   obtain⟨rfl,rfl⟩:=dR h;cases hx with
   |osl ha hg hh h1=>
    rename_i e1
    obtain⟨rfl,hn0,hcap⟩:=hh (iK hH ha hr);have hn:e1.nil=false:=by
     cases hq:e1.nil with
     |false=>rfl
     |true=>have:=hn0 hq;omega
    rw[BA.val_some hn];exact fin (r:=false) (by cases neg<;>rfl) rfl (kQ (zl hu _ _ _ _ _)) (fun _=>lO (by simp) (by simp)) (by rintro _ rfl;rfl) (by rintro _ rfl;rfl)
  ·simp at h
 ·rename_i id hv
  obtain⟨k,e,rfl⟩:=hk (.inl ⟨id,hv⟩);simp[jG]at hd;subst hd;rw[hv]at hx;cases hx;obtain⟨rfl,rfl⟩:=dR h;exact fin (r:=false) (by cases neg<;>rfl) rfl (kQ (E2 hu _)) (fun _=>lO (by simp) (by simp)) (by rintro _ rfl;rfl) (by rintro _ rfl;rfl)
 ·rename_i hv
  obtain⟨k,e,rfl⟩:=hk (.inr hv);simp[jG]at hd;subst hd;rw[hv]at hx;cases hx;obtain⟨rfl,rfl⟩:=dR h;exact fin (r:=true) (by cases neg<;>rfl) rfl (kQ (E3 hu)) (fun _=>lO (by simp) (by simp)) (by rintro _ rfl;rfl) (by rintro _ rfl;rfl)
 ·rename_i t a hv
  obtain⟨ms,rfl⟩:=hki t a hv;simp[jG]at hd;subst hd;rw[hv]at hx;cases hx;obtain⟨rfl,rfl⟩:=dR h;exact fin (r:=false) (by cases neg<;>rfl) rfl (kQ (E4 hu _ _)) (fun _=>lO (by simp) (by simp)) (by rintro _ rfl;rfl) (by rintro _ rfl;rfl)
 ·rename_i hv
  obtain⟨ms,rfl⟩:=hkn hv;simp[jG]at hd;subst hd;rw[hv]at hx;cases hx;obtain⟨rfl,rfl⟩:=dR h;have hyo: ∃c,yo=.const c:=by cases yo<;>simp[sf]at hc;exact⟨_,rfl⟩
  obtain⟨c,rfl⟩:=hyo;exact fin (r:=true) (by cases neg<;>rfl) rfl (kQ (E7 hu)) (fun op=>by cases op<;>simp[eqGuard]) (by rintro _ rfl;rfl) (by rintro _ rfl;rfl)
 ·rename_i i o hv
  obtain⟨e,rfl⟩:=hkp (.inl ⟨_,_,hv⟩);simp[jG]at hd;subst hd;rw[hv]at hx;cases hx;obtain⟨rfl,rfl⟩:=dR h;exact fin (r:=false) (by cases neg<;>rfl) rfl (kQ (E5 hu _)) (fun _=>lO (by simp) (by simp)) (by rintro _ rfl;rfl) (by rintro _ rfl;rfl)
 ·rename_i hv
  obtain⟨e,rfl⟩:=hkp (.inr hv);simp[jG]at hd;subst hd;rw[hv]at hx;cases hx;obtain⟨rfl,rfl⟩:=dR h;exact fin (r:=true) (by cases neg<;>rfl) rfl (kQ (E6 hu)) (fun _=>lO (by simp) (by simp)) (by rintro _ rfl;rfl) (by rintro _ rfl;rfl)
 ·simp at h
def oG:TypeDesc->Option Nat
 | .string=>some 0
 | .slice _=>some 1
 | .map _ _=>some 2
 | .interface _=>some 3
 | .pointer _=>some 4
 |_=>none
theorem zn {d:TypeDesc} {k:Nat} (h:oG d=some k):(d=.string/\k=0)\/((∃e,d=.slice e)/\k=1)\/((∃a b,d=.map a b)/\k=2)\/((∃m,d=.interface m)/\k=3)\/((∃e,d=.pointer e)/\k=4):=by
 cases d<;>simp[oG]at h<;>subst h<;>simp
theorem Fa {kd:Nat} {neg:Bool} {xt:Nat} {d:TypeDesc} {nv:Value} {x:Opd} {vx:Value} (hu:P.underlying xt=some d) (hd:jG d=some nv) (hkd:oG d=some kd)
  (hx:Rep U w bs as (x.val G ts) vx) (hH:di base U bs as w M)
  (h:dv G mu ts M (.isnil kd neg x)=some (v,M')) (xo yo:Operand) (hc:sf yo=true):ef P base U bs as w v M' (do eqGuard (if neg then .neq else .eql) xt xo yo vx nv;binOp (if neg then .neq else .eql) xt vx nv):=by
 simp only[dv]at h;split at h
 ·rename_i hk
  have hq:=zn hkd;refine E9 hu hd ?_ ?_ ?_ ?_ ?_ hx hH h xo yo hc
  ·intro e;rcases e with⟨_,e⟩|e<;>rw[e]at hk<;>
    rcases hq with⟨e,rfl⟩|⟨⟨_,rfl⟩,rfl⟩|⟨⟨_,_,rfl⟩,rfl⟩|⟨⟨_,rfl⟩,rfl⟩|⟨⟨_,rfl⟩,rfl⟩<;>simp[iq]at hk⊢
  ·intro t a e;rw[e]at hk;rcases hq with⟨e,rfl⟩|⟨⟨_,rfl⟩,rfl⟩|⟨⟨_,_,rfl⟩,rfl⟩|⟨⟨_,rfl⟩,rfl⟩|⟨⟨_,rfl⟩,rfl⟩<;>simp[iq]at hk⊢
  ·intro e;rw[e]at hk;rcases hq with⟨e,rfl⟩|⟨⟨_,rfl⟩,rfl⟩|⟨⟨_,_,rfl⟩,rfl⟩|⟨⟨_,rfl⟩,rfl⟩|⟨⟨_,rfl⟩,rfl⟩<;>simp[iq]at hk⊢
  ·intro e;rcases e with⟨_,_,e⟩|⟨_,_,_,_,e⟩<;>rw[e]at hk<;>
    rcases hq with⟨e,rfl⟩|⟨⟨_,rfl⟩,rfl⟩|⟨⟨_,_,rfl⟩,rfl⟩|⟨⟨_,rfl⟩,rfl⟩|⟨⟨_,rfl⟩,rfl⟩<;>simp[iq]at hk⊢
  ·intro e;rcases e with⟨_,_,e⟩|e<;>rw[e]at hk<;>
    rcases hq with⟨e,rfl⟩|⟨⟨_,rfl⟩,rfl⟩|⟨⟨_,_,rfl⟩,rfl⟩|⟨⟨_,rfl⟩,rfl⟩|⟨⟨_,rfl⟩,rfl⟩<;>simp[iq]at hk⊢
 ·cases h
theorem mP (x:Value) (k:IntKind) (n:Int) (hx:x=.int k n) (h0:0<=n) (y:Nat) (code:BoundsCode) (h1:n.toNat<=y):
  (Instr.sliceBound x y code).run P w=.ok n.toNat w:=by
 subst hx;have:n<=(y:Int):=by omega
 simp[Instr.sliceBound,asIntOf,h0,this]
theorem qq {d:Nat} {o:Option Operand} {n:Nat} {ρ:Operand->Value} (hS: ∀x,Rep U w bs as ((dm x).val G ts) (ρ x)) (h:eR G ts d (o.map dm)=some n):
  (o=none/\n=d)\/ ∃x k m,o=some x/\ρ x=.int k m/\0<=m/\n=m.toNat:=by
 cases o with
 |none=>simp[eR]at h;exact .inl ⟨rfl,h.symm⟩
 |some x=>
  simp only[eR,Option.map_some]at h;split at h
  ·rename_i k m hv
   split at h
   ·rename_i h0
    have:=hS x;rw[hv]at this;generalize hρ:ρ x=y at this;cases this;simp at h;exact .inr ⟨x,k,m,rfl,hρ,h0,h.symm⟩
   ·simp at h
  ·simp at h
theorem qr {isS:Bool} {len cap:Nat} {lo hi:Option Operand} {l h:Nat} {ρ:Operand->Value} (hS: ∀x,Rep U w bs as ((dm x).val G ts) (ρ x))
  (h1:eR G ts len (hi.map dm)=some h) (h2:eR G ts 0 (lo.map dm)=some l) (hl:l<=h) (hc:h<=cap):
  (Instr.sliceBounds isS len cap (lo.map ρ) (hi.map ρ) none).run P w=.ok (l,h,cap) w:=by
 unfold Instr.sliceBounds;rcases qq hS h1 with⟨rfl,rfl⟩|⟨x,k,m,rfl,e1,e2,rfl⟩<;>rcases qq hS h2 with⟨rfl,rfl⟩|⟨y,k',m',rfl,f1,f2,rfl⟩
 ·simp
 ·simp[mP (P:=P) (w:=w) _ k' m' f1 f2 _ _ hl]
 ·simp[mP (P:=P) (w:=w) _ k m e1 e2 _ _ hc]
 ·simp[mP (P:=P) (w:=w) _ k m e1 e2 _ _ hc,mP (P:=P) (w:=w) _ k' m' f1 f2 _ _ hl]
theorem zo {len cap:Nat} {lo hi:Option Operand} {x:Operand} {l h:Nat} {ρ:Operand->Value} (hS: ∀x,Rep U w bs as ((dm x).val G ts) (ρ x))
  (h1:eR G ts len (hi.map dm)=some h) (h2:eR G ts 0 (lo.map dm)=some l) (h3:eR G ts 0 (some (dm x))=some h) (hl:l<=h) (hc:h<=cap) (hhi:hi.isSome=true):
  (Instr.sliceBounds true len cap (lo.map ρ) (hi.map ρ) (some (ρ x))).run P w=.ok (l,h,h) w:=by
 unfold Instr.sliceBounds;have h3':eR G ts 0 ((some x).map dm)=some h:=h3;rcases qq hS h3' with⟨hh,_⟩|⟨z,k2,m2,hz,g1,g2,g3⟩
 ·cases hh
 cases hz;rcases qq hS h1 with⟨rfl,rfl⟩|⟨y,k,m,rfl,e1,e2,rfl⟩
 ·cases hhi
 have b1:=mP (P:=P) (w:=w) _ k2 m2 g1 g2 cap .slice3Acap (by omega);have b2:=mP (P:=P) (w:=w) _ k m e1 e2 m2.toNat .slice3B (by omega);rcases qq hS h2 with⟨rfl,rfl⟩|⟨y',k',m',rfl,f1,f2,rfl⟩
 ·simp[b1,b2,g3]
 ·have b3:=mP (P:=P) (w:=w) _ k' m' f1 f2 m.toNat .slice3C hl;rw[g3]at b3;simp[b1,b2,b3,g3]
theorem Fb (s:List UInt8) (l h:Nat):(ByteArray.mk s.toArray).extract l h=ByteArray.mk ((s.take h).drop l).toArray:=by
 apply ByteArray.ext;simp[ByteArray.data_extract,List.extract_eq_take_drop,List.drop_take]
theorem Fc {t:Nat} {x:Operand} {lo hi:Option Operand} {ρ:Operand->Value} (hu:P.underlying t=some .string) (hS: ∀x,Rep U w bs as ((dm x).val G ts) (ρ x)) (hH:di base U bs as w M)
  (h:dv G mu ts M (.slcS (dm x) (lo.map dm) (hi.map dm))=some (v,M')):ef P base U bs as w v M' (Instr.sliceAt t (ρ x) (lo.map ρ) (hi.map ρ) none):=by
 simp only[dv]at h;split at h
 ·rename_i s hv
  have hx:=hS x;rw[hv]at hx;generalize ρ x=vx at hx;cases hx;split at h
  ·rename_i hh h1
   split at h
   ·rename_i ll h2
    split at h
    ·rename_i hc
     obtain⟨rfl,rfl⟩:=dR h;have hb:=qr (P:=P) (isS:=false) (cap:=(ByteArray.mk s.toArray).size) hS h1 h2 hc.1 (by rw[mO];exact hc.2);rw[<-mO s]at hb;refine dN hH ?_ .str;simp only[Instr.sliceAt,Sem.run_bind,run_underlying hu,Result.andThen_ok,Instr.slice,Option.isSome_none,Bool.false_eq_true,if_false,Sem.run_pure,hb,Fb]
    ·simp at h
   ·simp at h
  ·simp at h
 ·simp at h
theorem zp {sz:Nat}: ∀{es F:List AV} (n:Nat),dM es=some F->(∀e∈es,∃c,cells e=some c/\c.length=sz)->dM (es.take n)=some (F.take (n*sz))
 |[],F,n,h,_=>by simp[dM]at h;subst h;simp[dM]
 |x::es,F,0,h,_=>by simp[dM]
 |x::es,F,n+1,h,hz=>by
  obtain⟨c0,cs,h1,h2,rfl⟩:=lM h;obtain⟨c1,h3,h4⟩:=hz x (by simp);rw[h1]at h3;cases h3;have ih:=zp n h2 (fun e he=>hz e (by simp[he]));simp only[List.take_succ_cons,dM,h1,ih,Nat.succ_mul];rw[List.take_append,List.take_of_length_le (l:=c0) (by omega)];rw[show n*sz+sz - c0.length=n*sz by omega]
theorem zq {sz:Nat}: ∀{es F:List AV} (n:Nat),dM es=some F->(∀e∈es,∃c,cells e=some c/\c.length=sz)->dM (es.drop n)=some (F.drop (n*sz))
 |[],F,n,h,_=>by simp[dM]at h;subst h;simp[dM]
 |x::es,F,0,h,_=>by simp[h]
 |x::es,F,n+1,h,hz=>by
  obtain⟨c0,cs,h1,h2,rfl⟩:=lM h;obtain⟨c1,h3,h4⟩:=hz x (by simp);rw[h1]at h3;cases h3;have ih:=zq n h2 (fun e he=>hz e (by simp[he]));simp only[List.drop_succ_cons,ih,Nat.succ_mul];rw[List.drop_append,List.drop_of_length_le (l:=c0) (by omega),List.nil_append];rw[show n*sz+sz - c0.length=n*sz by omega]
theorem sg {sz sz':Nat} {es:List AV} (h:dV sz es=true) (hz: ∀e∈es,∃c,cells e=some c/\c.length=sz') (hne:es≠[]):sz'=sz:=by
 cases es with
 |nil=>exact absurd rfl hne
 |cons e es=>
  obtain⟨c,h1,h2⟩:=hz e (by simp);simp[dV,h1]at h;omega
theorem Fd {t e:Nat} {ly:Lay} {x:Operand} {lo hi mx:Option Operand} {ρ:Operand->Value} (hu:P.underlying t=some (.slice e)) (hl:eE P e=some ly) (hm:mx.isSome=true->hi.isSome=true)
  (hS: ∀x,Rep U w bs as ((dm x).val G ts) (ρ x)) (hH:di base U bs as w M)
  (h:dv G mu ts M (.slcV ly (dm x) (lo.map dm) (hi.map dm) (mx.map dm))=some (v,M')):ef P base U bs as w v M' (Instr.sliceAt t (ρ x) (lo.map ρ) (hi.map ρ) (mx.map ρ)):=by
 simp only[dv]at h;split at h
 ·rename_i sp es hv
  have hx:=hS x;rw[hv]at hx;generalize ρ x=vx at hx;split at h
  ·rename_i hh h1
   split at h
   ·rename_i ll h2
    split at h
    ·rename_i hc
     obtain⟨c1,c2,c3⟩:=hc;cases hx with
     |slcN hs=>
      simp at c2;subst c2;simp at c1;subst c1;cases mx with
      |none=>
       simp only[Option.map_none]at h;obtain⟨rfl,rfl⟩:=dR h;have hb:=qr (P:=P) (isS:=true) (cap:=0) (len:=0) hS h1 h2 (Nat.le_refl _) (Nat.le_refl _);refine dN hH (x:=.slice none 0 0) ?_ ?_
       ·simp only[Instr.sliceAt,Sem.run_bind,run_underlying hu,Result.andThen_ok,Instr.slice,Option.map_none,hb,ic hl,Sem.run_pure];rfl
       ·refine .slcN ?_;split
        ·split
         ·exact⟨none,rfl⟩
         ·trivial
        ·trivial
      |some m=>
       simp only[Option.map_some]at h;split at h
       ·rename_i mm h3
        split at h
        ·rename_i hmm
         subst hmm;obtain⟨rfl,rfl⟩:=dR h;have hb:=zo (P:=P) (cap:=0) (len:=0) hS h1 h2 h3 (Nat.le_refl _) (Nat.le_refl _) (hm rfl);refine dN hH (x:=.slice none 0 0) ?_ (.slcN ⟨none,rfl⟩);simp only[Instr.sliceAt,Sem.run_bind,run_underlying hu,Result.andThen_ok,Instr.slice,Option.map_some,hb,ic hl,Sem.run_pure];rfl
        ·simp at h
       ·simp at h
     |slc hf hL hr hz hs hcap=>
      rename_i cs vs p sz cap
      have hflat:=zq ll (zp hh hf hz) (fun e he=>hz e (List.mem_of_mem_take he));have hzz: ∀e∈(es.take hh).drop ll,∃c,cells e=some c/\c.length=sz:=fun e he=>hz e (List.mem_of_mem_take (List.mem_of_mem_drop he));have hlen:((es.take hh).drop ll).length=hh - ll:=by simp;omega
      have hsz:es≠[]->sz=ly.sz:=sg c3 hz;have hrow:fL U w (p.add (ll*ly.sz)) ((vs.take (hh*sz)).drop (ll*sz)):=by
       intro i u hi;by_cases hne:es=[]
       ·subst hne;simp[dM]at hf;subst hf;cases hL;simp at hi
       ·have e1:=hsz hne;subst e1;rw[List.getElem?_drop,List.getElem?_take]at hi;split at hi
        ·have:=hr _ u hi;rw[qm,oz,oy];exact⟨this.1,by have:=this.2;omega⟩
        ·cases hi
      -- the piece as a value, at whichever address
      have piece: ∀(sp':Sp) (q:Addr) (cap':Nat),(hh - ll=0\/q=p.add (ll*ly.sz))->hh - ll<=cap'->iu as (hh - ll) (.slice (some q) (hh - ll) cap') sp'->Rep U w bs as (.slc sp' ((es.take hh).drop ll)) (.slice (some q) (hh - ll) cap'):=by
       intro sp' q cap' hq hc' hsp;have key:=Rep.slc (bs:=bs) (as:=as) (U:=U) (w:=w) (sp:=sp') (p:=q) (cap:=cap') hflat ((hL.take _).drop _) (by
        rcases hq with hq|hq
        ·intro i u hi;have l0:((vs.take (hh*sz)).drop (ll*sz)).length=0:=by
          have:=jZ hflat hzz;rw[hlen,hq]at this;have l1:=((hL.take (hh*sz)).drop (ll*sz)).length;omega
         rw[List.eq_nil_of_length_eq_zero l0]at hi;simp at hi
        ·rw[hq];exact hrow) hzz (by rw[hlen];exact hsp) (by rw[hlen];exact hc')
       rw[hlen]at key;exact key
      cases mx with
      |none=>
       simp only[Option.map_none]at h;obtain⟨rfl,rfl⟩:=dR h;have hb:=qr (P:=P) (isS:=true) (cap:=cap) (len:=es.length) hS h1 h2 c1 (by omega);refine dN hH (x:=.slice (some (if cap=ll then p else p.add (ll*ly.sz))) (hh - ll) (cap - ll)) ?_ (piece _ _ _ ?_ (by omega) ?_)
       ·simp only[Instr.sliceAt,Sem.run_bind,run_underlying hu,Result.andThen_ok,Instr.slice,Option.map_none,hb,ic hl,Sem.run_pure]
        congr 2
        split<;>rfl
       ·split
        ·left;omega
        ·right;rfl
       ·cases sp with
        |shared=>trivial
        |own _=>trivial
        |full=>
         by_cases hfull:hh=es.length
         ·obtain⟨q,hq⟩:=hs;simp at hq;show iu as _ _ (if hh=es.length then Sp.full else Sp.shared);rw[if_pos hfull];exact⟨some _,by rw[hfull,hq.2]⟩
         ·show iu as _ _ (if hh=es.length then Sp.full else Sp.shared);rw[if_neg hfull];trivial
      |some m=>
       simp only[Option.map_some]at h;split at h
       ·rename_i mm h3
        split at h
        ·rename_i hmm
         subst hmm;obtain⟨rfl,rfl⟩:=dR h;have hb:=zo (P:=P) (cap:=cap) (len:=es.length) hS h1 h2 h3 c1 (by omega) (hm rfl);refine dN hH (x:=.slice (some (if mm=ll then p else p.add (ll*ly.sz))) (mm - ll) (mm - ll)) ?_ (piece _ _ _ ?_ (Nat.le_refl _) ⟨some _,rfl⟩)
         ·simp only[Instr.sliceAt,Sem.run_bind,run_underlying hu,Result.andThen_ok,Instr.slice,Option.map_some,hb,ic hl,Sem.run_pure]
          congr 2
          split<;>rfl
         ·split
          ·left;omega
          ·right;rfl
        ·simp at h
       ·simp at h
    ·simp at h
   ·simp at h
  ·simp at h
 ·rename_i a g off n hv
  have hx:=hS x;rw[hv]at hx;generalize ρ x=vx at hx;split at h
  ·rename_i hh h1
   split at h
   ·rename_i ll h2
    split at h
    ·rename_i hc
     cases mx with
     |some m=>simp at h
     |none=>
      simp only[Option.map_none]at h;split at h
      ·rename_i ty l' cs hr
       split at h
       ·rename_i hsz
        obtain⟨rfl,rfl⟩:=dR h;cases hx with
        |osl ha hg hh' h1'=>
         rename_i e1
         have hge:=iK hH ha hr;obtain⟨rfl,hn0,hcap⟩:=hh' hge;have hn:e1.nil=false:=by
          cases hq:e1.nil with
          |false=>rfl
          |true=>have:=hn0 hq;omega
         obtain⟨k3,_⟩:=hH.rowAt ha hge hr hn;have hb:=qr (P:=P) (isS:=true) (cap:=e1.cap - off) (len:=n) hS h1 h2 (by omega) (by omega);rw[BA.val_some hn];refine dN hH (x:=e1.val (off+ll) (hh - ll)) ?_ (.osl ha hg (fun _=>⟨rfl,⟨(fun hq=>absurd (hn.symm.trans hq) (by simp)),(by omega)⟩⟩) (by rw[BA.val_some hn];rfl));simp only[Instr.sliceAt,Sem.run_bind,run_underlying hu,Result.andThen_ok,Instr.slice,Option.map_none,hb,ic hl,Sem.run_pure];rw[BA.val_some hn];have hne: ¬(e1.cap - off=ll):=by omega
         simp only[hne,if_false,Option.map_some,iv]
         congr 2
         ·congr 2
          rw[k3,hsz,Nat.add_mul]
         ·omega
       ·simp at h
      ·simp at h
    ·split at h
     ·rename_i hc
      obtain⟨q1,q2,q3⟩:=hc;subst q1;cases mx with
      |some m=>simp at h
      |none=>
       simp only[Option.map_none]at h;split at h
       ·rename_i rr hr
        obtain⟨rfl,rfl⟩:=dR h;cases hx with
        |osl ha hg hh' h1'=>
         rename_i e1
         obtain⟨ty,l',cs⟩:=rr;have hge:=iK hH ha hr;obtain⟨rfl,hn0,hcap⟩:=hh' hge;have hn:e1.nil=false:=by
          cases hq:e1.nil with
          |false=>rfl
          |true=>have:=hn0 hq;omega
         have hb:=qr (P:=P) (isS:=true) (cap:=e1.cap - off) (len:=n) hS h1 h2 (by omega) (by omega);have emp: ∀(p:Addr) (c:Nat),Rep U w bs as (.slc .shared []) (.slice (some p) (ll - ll) c):=by
          intro p c;rw[Nat.sub_self];exact Rep.slc (cs:=[]) (vs:=[]) (sz:=1) rfl .nil (fun i u hi=>by simp at hi) (fun e he=>by cases he) trivial (Nat.zero_le _)
         rw[BA.val_some hn];refine dN hH ?_ (emp (if e1.cap - off=ll then⟨e1.b,off*e1.sz,none⟩else(⟨e1.b,off*e1.sz,none⟩:Addr).add (ll*ly.sz)) (e1.cap - off - ll));simp only[Instr.sliceAt,Sem.run_bind,run_underlying hu,Result.andThen_ok,Instr.slice,Option.map_none,hb,ic hl,Sem.run_pure]
         congr 2
         split<;>rfl
       ·simp at h
     ·simp at h
   ·simp at h
  ·simp at h
 ·simp at h
end
end Go.Proofs.Ae
namespace Go.Proofs.Ae
open Go Go.RowKit
variable [eg]
section
variable {P:Program} {U:Nat->Nat} {bs:List (Option Nat)} {as:List BA} {w:World}
variable {G:Gls} {mu:Bool} {ts:dx} {M M':Mem} {base:Nat} {v:AV}
theorem Fe {t:Nat} {d:TypeDesc} {x:Opd} {vx:Value} (hu:P.underlying t=some d) (hd: ∀ms,d≠ .interface ms) (hx:Rep U w bs as (x.val G ts) vx) (hH:di base U bs as w M)
  (h:dv G mu ts M (.mkif t x)=some (v,M')):ef P base U bs as w v M' (Instr.makeInterface t vx):=by
 simp only[dv]at h;obtain⟨rfl,rfl⟩:=dR h;refine dN hH (x:=.iface t vx) ?_ (.iface hx);unfold Instr.makeInterface;rw[Sem.run_bind,run_underlying hu];cases d<;>first|exact absurd rfl (hd _)|rfl
theorem Ff {t xt:Nat} {d:TypeDesc} {x:Opd} {vx:Value} (hu:P.underlying t=some d) (hd: ∀ms,d≠ .interface ms) (hx:Rep U w bs as (x.val G ts) vx) (hH:di base U bs as w M)
  (h:dv G mu ts M (.tass t x)=some (v,M')):ef P base U bs as w v M' (Instr.typeAssert vx xt t false):=by
 simp only[dv]at h;split at h
 ·rename_i t' a hv
  split at h
  ·rename_i ht
   subst ht;obtain⟨rfl,rfl⟩:=dR h;rw[hv]at hx;cases hx with
   |iface hx=>
    refine dN hH ?_ hx;unfold Instr.typeAssert;rw[Sem.run_bind,run_underlying hu];cases d<;>first|exact absurd rfl (hd _)|simp
  ·simp at h
 ·simp at h
theorem si {xs:List Operand} {ρ:Operand->Value} (hS: ∀x,Rep U w bs as ((dm x).val G ts) (ρ x)):dU U w bs as ((xs.map dm).map (·.val G ts)) (xs.map ρ):=by
 induction xs with
 |nil=>exact .nil
 |cons x xs ih=>exact .cons (hS x) ih
theorem Fg {f:Nat} {fst cap:Array Operand} {ρ:Operand->Value} (hS: ∀x,Rep U w bs as ((dm x).val G ts) (ρ x)) (hH:di base U bs as w M)
  (h:dv G mu ts M (.mkfn f (fst.toList.map dm) (cap.toList.map dm))=some (v,M')):ef P base U bs as w v M' (Instr.makeFunc (.func f) (fst.map ρ) (cap.map ρ)):=by
 simp only[dv]at h;obtain⟨rfl,rfl⟩:=dR h;have k:=Rep.fn (f:=f) (si (xs:=fst.toList) hS) (si (xs:=cap.toList) hS);refine dN hH ?_ k;simp only[Instr.makeFunc,Sem.run_pure]
 congr 2<;>(apply Array.ext';simp)
theorem Fh {src dst e:Nat} {x:Opd} {vx:Value} (hs:P.underlying src=some (.slice e)) (he:P.underlying e=some (.int .u8)) (hd:P.underlying dst=some .string) (hx:Rep U w bs as (x.val G ts) vx) (hH:di base U bs as w M)
  (h:dv G mu ts M (.convB x)=some (v,M')):ef P base U bs as w v M' (convert src dst vx):=by
 -- the bytes, one after the other
 have loop: ∀(cs:List AV) (vs:List Value) (s:List UInt8) (acc:ByteArray),dt U w bs as cs vs->gK cs=some s->
   (forIn vs acc (fun(c:Value) (r:ByteArray)=>(match c with
    | .int .u8 n=>pure (ForInStep.yield (r.push (UInt8.ofNat n.toNat)))
    |_=>do
     stuck "bytesToString: byte expected"
     pure (ForInStep.yield r):Sem (ForInStep ByteArray)))).run P w=.ok (acc++⟨s.toArray⟩) w:=by
  intro cs
  induction cs with
  |nil=>
   intro vs s acc hL hb;cases hL;simp[gK]at hb;subst hb;simp;apply ByteArray.ext;simp
  |cons c cs ih=>
   intro vs s acc hL hb;cases hL with
   |cons hc h1 t=>
    cases c<;>try (simp[gK]at hb;done)
    rename_i k n
    cases k<;>try (simp[gK]at hb;done)
    simp only[gK]at hb;split at hb
    ·rename_i bs' hbs
     simp at hb;subst hb;cases hc;simp only[List.forIn_cons,Sem.run_bind,Sem.run_pure,Result.andThen_ok];have:=ih _ _ (acc.push (UInt8.ofNat n.toNat)) t hbs;rw[this]
     congr 1
     apply ByteArray.ext;simp[ByteArray.data_append,ByteArray.data_push]
    ·simp at hb
 have run: ∀(p:Addr) (n cap:Nat) (cs:List AV) (vs:List Value) (s:List UInt8),dt U w bs as cs vs->gK cs=some s->vs.length=n->(∀(i:Nat) (u:Value),vs[i]? =some u->w.cell? (p.add i)=some u)->
   (convert src dst (.slice (some p) n cap)).run P w=.ok (.string ⟨s.toArray⟩) w:=by
  intro p n cap cs vs s hL hb hn hc;subst hn;have h1:=run_loadCells_list (P:=P) w p vs hc;have h2:=loop cs vs s .empty hL hb;simp only[convert,Sem.run_bind,run_underlying hs,run_underlying hd,run_underlying he,Result.andThen_ok,Conv.bytesToString,h1];simp only[List.forIn_toArray]
  erw [h2]
  simp only[Result.andThen_ok,Sem.run_pure]
  congr 2
 simp only[dv]at h;split at h
 ·rename_i sp es hv
  rw[hv]at hx;split at h
  ·rename_i s hb
   obtain⟨rfl,rfl⟩:=dR h;cases hx with
   |slcN hs'=>
    simp[gK]at hb;subst hb;refine dN hH ?_ .str;simp only[convert,Sem.run_bind,run_underlying hs,run_underlying hd,run_underlying he,Result.andThen_ok,Conv.bytesToString,Sem.run_pure];rfl
   |slc hf hL hr hz hs' hcap=>
    rename_i cs vs p sz cap
    -- byte elements are their own cells
    have same: ∀(es:List AV) (s:List UInt8) (F:List AV),gK es=some s->dM es=some F->F=es:=by
     intro es
     induction es with
     |nil=>intro s F _ h2;simp[dM]at h2;exact h2
     |cons e1 es ih=>
      intro s F h1 h2;obtain⟨c,cs',k1,k2,rfl⟩:=lM h2;cases e1<;>try (simp[gK]at h1;done)
      rename_i k n
      cases k<;>try (simp[gK]at h1;done)
      simp only[gK]at h1;split at h1
      ·rename_i bs' hbs
       simp[cells]at k1;subst k1;rw[ih _ _ hbs k2];rfl
      ·simp at h1
    have e1:=same _ _ _ hb hf;subst e1;exact dN hH (run p _ cap cs vs s hL.lift hb hL.length (fun i u hi=>(hr i u hi).1)) .str
  ·simp at h
 ·rename_i a g off n hv
  rw[hv]at hx;split at h
  ·rename_i ty cs hr
   split at h
   ·rename_i hl
    split at h
    ·rename_i s hb
     obtain⟨rfl,rfl⟩:=dR h;cases hx with
     |osl ha hg hh h1=>
      rename_i e1
      have hge:=iK hH ha hr;obtain⟨rfl,hn0,hcap⟩:=hh hge;cases hq:e1.nil with
      |true=>
       have hn:=hn0 hq;subst hn;simp[gK]at hb;subst hb;refine dN hH (x:=.string ⟨#[]⟩) ?_ (by exact Rep.str (s:=[]));simp only[BA.val,hq,if_true,convert,Sem.run_bind,run_underlying hs,run_underlying hd,run_underlying he,Result.andThen_ok,Conv.bytesToString,Sem.run_pure];rfl
      |false=>
       obtain⟨k3,k4,k5,k6,k7,cur,vs,k8,k9,k10,k11,k12⟩:=hH.rowAt ha hge hr hq;rw[BA.val_some hq];have e2:off*e1.sz=off:=by rw[k3];simp[Lay.sz]
       rw[e2];have hlen:=k11.length;refine dN hH (run _ _ _ _ ((vs.drop off).take n) s ((k11.drop off).take n) hb (by simp;omega) ?_) .str;intro i u hi;rw[List.getElem?_take]at hi;split at hi
       ·rw[List.getElem?_drop]at hi;exact k12 off i u hi
       ·cases hi
    ·simp at h
   ·simp at h
  ·simp at h
 ·simp at h
theorem vN {b:Bool}: ∀{xs:List AV} {vs:List Value} {x:AV} {vx:Value} {r:AV},dU U w bs as xs vs->Rep U w bs as x vx->oj b x xs=some r->
  ∃y,(vs.foldlM (if b then Builtin.min2 else Builtin.max2) vx).run P w=.ok y w/\Rep U w bs as r y
 |[],vs,x,vx,r,hV,hx,h=>by
  cases hV;simp[oj]at h;subst h;exact⟨vx,by simp,hx⟩
 |c::cs,vs,x,vx,r,hV,hx,h=>by
  cases hV with
  |cons hc t=>
   simp only[oj]at h;split at h
   ·rename_i z hz
    unfold min2 at hz;split at hz
    ·rename_i k a k' b'
     simp at hz;subst hz;cases hx;cases hc;obtain⟨y,h1,h2⟩:=vN t .int h;refine⟨y,?_,h2⟩;rw[List.foldlM_cons,Sem.run_bind];cases b
     ·simpa[Builtin.max2] using h1
     ·simpa[Builtin.min2] using h1
    ·simp at hz
   ·simp at h
theorem Fi {xs:Array Operand} {ats:Array Nat} {ty:Nat} {ρ:Operand->Value} (hS: ∀x,Rep U w bs as ((dm x).val G ts) (ρ x)) (hH:di base U bs as w M)
  (h:dv G mu ts M (.mins (xs.toList.map dm))=some (v,M')):ef P base U bs as w v M' (Builtin.min_ ats ty (xs.map ρ)):=by
 simp only[dv]at h;obtain⟨hq,rfl⟩:=jY h;have hV:=si (xs:=xs.toList) hS;have e:(xs.map ρ).toList=xs.toList.map ρ:=by simp
 unfold Builtin.min_;rw[e];cases hx:xs.toList with
 |nil=>rw[hx]at hq;simp[mJ]at hq
 |cons y ys=>
  rw[hx]at hq hV;cases hV with
  |cons h1 t=>
   simp only[List.map_cons,mJ]at hq;obtain⟨z,k1,k2⟩:=vN (P:=P) t h1 hq;exact dN hH (by simpa using k1) k2
theorem Fj {xs:Array Operand} {ats:Array Nat} {ty:Nat} {ρ:Operand->Value} (hS: ∀x,Rep U w bs as ((dm x).val G ts) (ρ x)) (hH:di base U bs as w M)
  (h:dv G mu ts M (.maxs (xs.toList.map dm))=some (v,M')):ef P base U bs as w v M' (Builtin.max_ ats ty (xs.map ρ)):=by
 simp only[dv]at h;obtain⟨hq,rfl⟩:=jY h;have hV:=si (xs:=xs.toList) hS;have e:(xs.map ρ).toList=xs.toList.map ρ:=by simp
 unfold Builtin.max_;rw[e];cases hx:xs.toList with
 |nil=>rw[hx]at hq;simp[mJ]at hq
 |cons y ys=>
  rw[hx]at hq hV;cases hV with
  |cons h1 t=>
   simp only[List.map_cons,mJ]at hq;obtain⟨z,k1,k2⟩:=vN (P:=P) t h1 hq;exact dN hH (by simpa using k1) k2
end
end Go.Proofs.Ae
namespace Go.Proofs.Ae
open Go Go.RowKit
variable [eg]
section
variable {P:Program} {U:Nat->Nat} {bs:List (Option Nat)} {as:List BA} {w:World}
variable {G:Gls} {mu:Bool} {ts:dx} {M M':Mem} {base:Nat} {v:AV}
theorem sj {t:Nat} {z:List AV} (h:zC P t=some z): ∃zv:Value,(zeroValue t).run P w=.ok zv w/\(∀(U:Nat->Nat) (w:World) (bs:List (Option Nat)) (as:List BA),dt U w bs as z zv.cells.toList):=by
 unfold zC at h;split at h
 ·rename_i i h1
  split at h
  ·rename_i zv h2
   split at h
   ·rename_i h3
    simp at h;subst h;exact⟨zv,by simp[zeroValue,typeInfo,h1,h2],fun U w bs as=>sd _ h3⟩
   ·simp at h
  ·simp at h
 ·simp at h
theorem sk {t:Nat} {z:AV} (h:zV P t=some z): ∃zv:Value,(zeroValue t).run P w=.ok zv w/\(∀(U:Nat->Nat) (w:World) (bs:List (Option Nat)) (as:List BA),Rep U w bs as z zv):=by
 unfold zV at h;split at h
 ·rename_i i h1
  split at h
  ·rename_i zv h2
   simp at h;subst h;exact⟨zv,by simp[zeroValue,typeInfo,h1,h2],fun U w bs as=>zd _⟩
  ·simp at h
 ·simp at h
theorem zr (hH:di base U bs as w M) {cs:List AV} {vs:List Value} (t:Nat) (hL:dt U w bs as cs vs):
  eL base U bs as w (.ptr M.objs.length 0) (newObj M (.cells cs)) (.pointer (some ⟨w.heap.size,0,none⟩)) (w.alloc (.cells vs.toArray t)):=by
 have ev:=ib (base:=base) (bs:=bs) (as:=as) (.cells vs.toArray t) hH.hb hH.fr 0;have h1:=hH.alloc (.cells vs.toArray t) 0;have ev2:Evo base (upd U w.heap.size 0) bs as (w.alloc (.cells vs.toArray t)) (upd U w.heap.size 0) (bs++[some w.heap.size]) as (w.alloc (.cells vs.toArray t)):=oD _;refine⟨upd U w.heap.size 0,bs++[some w.heap.size],as,.ptr (by rw[<-hH.lo];simp),h1.addObj w.heap.size _ hH.hb (by simp) (gw _ _ _) ?_ ?_ ?_,ev.trans ev2⟩
 ·intro i hi;have:=(hH.ob i _ hi).2.1;omega
 ·intro j e he hn hb;obtain⟨r,_,hr⟩:=hH.arr he;have:=(hr.lt hn).2;omega
 ·exact⟨vs,t,heap_alloc_new w _,ev2.repL (ev.repL hL)⟩
theorem Fk {t:Nat} {z:List AV} (hz:zC P t=some z) (hH:di base U bs as w M) (h:dv G mu ts M (.alloc z)=some (v,M')):ef P base U bs as w v M' (Instr.alloc t true (.tuple #[])):=by
 simp only[dv]at h;obtain⟨rfl,rfl⟩:=dR h;obtain⟨zv,h1,h2⟩:=sj (w:=w) hz;refine⟨_,_,?_,zr hH t (h2 U w bs as)⟩;simp[Instr.alloc,h1,newVar,newRow,newObj,Sem.run]
theorem Fl {t:Nat} {z:List AV} (h:zC P t=some z): ∃zv:Value,(zeroValue t).run P w=.ok zv w/\(∀(U:Nat->Nat) (w:World) (bs:List (Option Nat)) (as:List BA),dt U w bs as z zv.cells.toList)/\z=zv.cells.toList.map avC:=by
 unfold zC at h;split at h
 ·rename_i i h1
  split at h
  ·rename_i zv h2
   split at h
   ·rename_i h3
    simp at h;subst h;exact⟨zv,by simp[zeroValue,typeInfo,h1,h2],fun U w bs as=>sd _ h3,rfl⟩
   ·simp at h
  ·simp at h
 ·simp at h
theorem Fm {v:Value} (h:avC v=.slc .full []):v=.slice none 0 0:=by
 unfold avC at h;split at h<;>first|rfl|cases h
theorem Fo (hH:di base U bs as w M) {cs:List AV} {vs:List Value} (t:Nat) (hL:dt U w bs as cs vs) (hz:cs=[.nilp,.slc .full []]-> ∃v0,vs=[v0,.slice none 0 0]):
  eL base U bs as w (.ptr M.objs.length 0) (newObj M (.bld t cs)) (.pointer (some ⟨w.heap.size,0,none⟩)) (w.alloc (.cells vs.toArray t)):=by
 have ev:=ib (base:=base) (bs:=bs) (as:=as) (.cells vs.toArray t) hH.hb hH.fr 0;have h1:=hH.alloc (.cells vs.toArray t) 0;have ev2:Evo base (upd U w.heap.size 0) bs as (w.alloc (.cells vs.toArray t)) (upd U w.heap.size 0) (bs++[some w.heap.size]) as (w.alloc (.cells vs.toArray t)):=oD _;refine⟨upd U w.heap.size 0,bs++[some w.heap.size],as,.ptr (by rw[<-hH.lo];simp),h1.addObj w.heap.size _ hH.hb (by simp) (gw _ _ _) ?_ ?_ ?_,ev.trans ev2⟩
 ·intro i hi;have:=(hH.ob i _ hi).2.1;omega
 ·intro j e he hn hb;obtain⟨r,_,hr⟩:=hH.arr he;have:=(hr.lt hn).2;omega
 ·exact⟨vs,heap_alloc_new w _,ev2.repL (ev.repL hL),hz⟩
theorem Fp {t:Nat} {z:List AV} (hz:zC P t=some z) (hH:di base U bs as w M) (h:dv G mu ts M (.allocT t z)=some (v,M')):ef P base U bs as w v M' (Instr.alloc t true (.tuple #[])):=by
 simp only[dv]at h;obtain⟨rfl,rfl⟩:=dR h;obtain⟨zv,h1,h2,h3⟩:=Fl (w:=w) hz;refine⟨_,_,?_,Fo hH t (h2 U w bs as) fun e=>?_⟩;rotate_left
 ·rw[e]at h3;generalize zv.cells.toList=vs at h3
  match vs,h3 with
  |[v0,v1],h3=>
   simp only[List.map_cons,List.map_nil,List.cons.injEq,and_true]at h3;exact⟨v0,by rw[Fm h3.2.symm]⟩
  |[],h3=>cases h3
  |[v0],h3=>simp at h3
  |v0::v1::v2::r,h3=>simp at h3
 simp[Instr.alloc,h1,newVar,newRow,newObj,Sem.run]
theorem Fq {t:Nat} {x:Opd} {vx:Value} (hx:Rep U w bs as (x.val G ts) vx) (hH:di base U bs as w M) (h:dv G mu ts M (.box x)=some (v,M')):ef P base U bs as w v M' (Instr.box t vx):=by
 simp only[dv]at h;split at h
 ·rename_i cs hc
  obtain⟨rfl,rfl⟩:=dR h;refine⟨_,_,?_,zr hH t (hx.cells hc)⟩;simp[Instr.box,newVar,newRow,newObj,Sem.run]
 ·simp at h
theorem sq {pl:Nat->Option (Nat×Nat)} {ρ:Operand->Value} (hS: ∀x,Rep U w bs as ((dm x).val G ts) (ρ x)):
  ∀(ps:List (Nat×Operand)) (qs:List (Nat×Nat×Opd)) (cs cs':List AV) (vs:List Value),ps.length=qs.length->
   (∀(j:Nat) p q,ps[j]? =some p->qs[j]? =some q->pl p.1=some (q.1,q.2.1)/\q.2.2=dm p.2)->dt U w bs as cs vs->mI G ts qs cs=some cs'->
   ∃vs',Instr.fill pl vs.toArray (ps.map fun p=>(p.1,ρ p.2))=some vs'.toArray/\dt U w bs as cs' vs'/\vs'.length=vs.length
 |[],[],cs,cs',vs,_,_,hL,h=>by
  simp[mI]at h;subst h;exact⟨vs,rfl,hL,rfl⟩
 |[],_::_,_,_,_,hl,_,_,_=>by simp at hl
 |_::_,[],_,_,_,hl,_,_,_=>by simp at hl
 |p::ps,(off,size,x)::qs,cs,cs',vs,hl,hq,hL,h=>by
  obtain⟨h1,h2⟩:=hq 0 p (off,size,x) rfl rfl;simp only at h1 h2;subst h2;simp only[mI]at h;split at h
  ·rename_i us hu
   split at h
   ·rename_i hs
    split at h
    ·rename_i hf
     have hR:=(hS p.2).cells hu;have hlen:=hR.length;have hl2:=hL.length;obtain⟨vs',k1,k2,k3⟩:=sq hS ps qs _ cs' (vs.take off++(ρ p.2).cells.toList++vs.drop (off+(ρ p.2).cells.toList.length)) (by simpa using hl)
      (fun j a b ha hb=>hq (j+1) a b (by simpa using ha) (by simpa using hb)) (hL.setAt hR off) h
     refine⟨vs',?_,k2,?_⟩
     ·simp only[List.map_cons,Instr.fill,h1];have e1: ¬((ρ p.2).cells.size≠size\/vs.toArray.size<off+(ρ p.2).cells.size):=by
       have:(ρ p.2).cells.size=us.length:=by simpa using hlen
       simp only[List.size_toArray];omega
      have e2:((ρ p.2).cells.size≠size||off+(ρ p.2).cells.size>vs.toArray.size)=false:=by
       simpa using e1
      rw[e2];simp only[Bool.false_eq_true,if_false];rw[<-k1]
      congr 1
      -- the fold of the stores
      have fold: ∀(us:List Value) (i:Nat) (A:Array Value),off+i+us.length<=A.size->
        (us.zipIdx i).foldl (fun(cs:Array Value) (c:Value×Nat)=>cs.setIfInBounds (off+c.2) c.1) A=(A.toList.take (off+i)++us++A.toList.drop (off+i+us.length)).toArray:=by
       intro us
       induction us with
       |nil=>intro i A _;simp
       |cons u us ih=>
        intro i A hA;simp only[List.zipIdx_cons,List.foldl_cons];rw[ih (i+1) _ (by simp at hA⊢;omega)];have e:=list_seg_step A.toList (off+i) u us (by simp at hA⊢;omega);simpa[Array.toList_setIfInBounds,Nat.add_assoc,Nat.add_comm 1] using e
      have:=fold (ρ p.2).cells.toList 0 vs.toArray (by simp at hlen⊢;omega);rw[<-Array.foldl_toList,Array.toList_zipIdx];simpa using this
     ·rw[k3];simp;have:(ρ p.2).cells.size=us.length:=by simpa using hlen
      omega
    ·simp at h
   ·simp at h
  ·simp at h
end
end Go.Proofs.Ae
namespace Go.Proofs.Ae
open Go Go.RowKit
variable [eg]
def oH (P:Program):List Field->Option (List (Nat×Nat))
 |[]=>some []
 |f::fs=>match P.info? f.type with
  |some i=>match oH P fs with
   |some ps=>some ((f.offset,i.size)::ps)
   |none=>none
  |none=>none
def lP (pl:Nat->Option (Nat×Nat)):List (Nat×Operand)->Option (List (Nat×Nat×Opd))
 |[]=>some []
 |(i,x)::ps=>match pl i with
  |some (off,sz)=>match lP pl ps with
   |some qs=>some ((off,sz,dm x)::qs)
   |none=>none
  |none=>none
theorem vO {pl:Nat->Option (Nat×Nat)}: ∀{ps:List (Nat×Operand)} {qs:List (Nat×Nat×Opd)},lP pl ps=some qs->
  ps.length=qs.length/\ ∀(j:Nat) p q,ps[j]? =some p->qs[j]? =some q->pl p.1=some (q.1,q.2.1)/\q.2.2=dm p.2
 |[],qs,h=>by simp[lP]at h;subst h;simp
 |(i,x)::ps,qs,h=>by
  simp only[lP]at h;split at h
  ·rename_i off sz h1
   split at h
   ·rename_i qs' h2
    simp at h;subst h;obtain⟨k1,k2⟩:=vO h2;refine⟨by simp[k1],?_⟩;intro j p q hp hq;cases j with
    |zero=>simp at hp hq;subst hp hq;exact⟨h1,rfl⟩
    |succ j=>simp at hp hq;exact k2 j p q hp hq
   ·simp at h
  ·simp at h
section
variable {P:Program} {U:Nat->Nat} {bs:List (Option Nat)} {as:List BA} {w:World}
variable {G:Gls} {mu:Bool} {ts:dx} {M M':Mem} {base:Nat} {v:AV}
theorem Fr {fs:List Field} {ps:List (Nat×Nat)} (h:oH P fs=some ps):
  (fs.mapM (fun f=>do pure (f.offset,<-Go.sizeOf f.type):Field->Sem (Nat×Nat))).run P w=.ok ps w:=by
 induction fs generalizing ps with
 |nil=>simp[oH]at h;subst h;simp
 |cons f fs ih=>
  simp only[oH]at h;split at h
  ·rename_i i h1
   split at h
   ·rename_i ps' h2
    simp at h;subst h;have:=ih h2;have hf:((do pure (f.offset,<-Go.sizeOf f.type)):Sem (Nat×Nat)).run P w=.ok (f.offset,i.size) w:=by simp[Go.sizeOf,typeInfo,h1]
    rw[List.mapM_cons,Sem.run_bind,hf,Result.andThen_ok,Sem.run_bind,this];rfl
   ·simp at h
  ·simp at h
theorem vP {t:Nat} {i:TypeInfo} (h:P.info? t=some i):(Go.sizeOf t).run P w=.ok i.size w:=by simp[Go.sizeOf,typeInfo,h]
theorem Fs {t:Nat} {fs:Array Field} {pl:List (Nat×Nat)} {z:List AV} {parts:Array (Nat×Operand)} {ps:List (Nat×Nat×Opd)} {ρ:Operand->Value} (hu:P.underlying t=some (.struct fs)) (hpl:oH P fs.toList=some pl)
  (hz:zC P t=some z) (hps:lP (pl[·]?) parts.toList=some ps) (hS: ∀x,Rep U w bs as ((dm x).val G ts) (ρ x)) (hH:di base U bs as w M)
  (h:dv G mu ts M (.build z ps)=some (v,M')):ef P base U bs as w v M' (Instr.build t (parts.map fun(i,x)=>(i,ρ x))):=by
 simp only[dv]at h;split at h
 ·rename_i cs hf
  obtain⟨rfl,rfl⟩:=dR h;obtain⟨zv,h1,h2⟩:=sj (w:=w) hz;obtain⟨k1,k2⟩:=vO hps;obtain⟨vs',f1,f2,f3⟩:=sq (pl:=(pl[·]?)) hS parts.toList ps z cs zv.cells.toList k1 k2 (h2 U w bs as) hf;refine dN hH (x:=.agg vs'.toArray) ?_ (.agg f2);have hp:=Fr (w:=w) hpl;simp only[Instr.build,Sem.run_bind,h1,Result.andThen_ok,run_underlying hu,Array.mapM_eq_mapM_toList];simp only[Sem.run_map,hp,Result.andThen_ok];have e:(parts.map fun(x:Nat×Operand)=>(x.1,ρ x.2)).toList=parts.toList.map fun p=>(p.1,ρ p.2):=by simp
  have e2:zv.cells=zv.cells.toList.toArray:=by simp
  have e3:(fun i:Nat=>(pl.toArray)[i]?)=fun i=>pl[i]?:=by funext i;simp
  rw[e,e3,e2,f1];rfl
 ·simp at h
theorem Ft {t n e sz:Nat} {i:TypeInfo} {z:List AV} {parts:Array (Nat×Operand)} {ps:List (Nat×Nat×Opd)} {ρ:Operand->Value} (hu:P.underlying t=some (.array n e)) (hi:P.info? e=some i)
  (hz:zC P t=some z) (hps:lP (fun j=>some (j*i.size,i.size)) parts.toList=some ps) (hS: ∀x,Rep U w bs as ((dm x).val G ts) (ρ x)) (hH:di base U bs as w M)
  (h:dv G mu ts M (.build z ps)=some (v,M')):ef P base U bs as w v M' (Instr.build t (parts.map fun(i,x)=>(i,ρ x))):=by
 simp only[dv]at h;split at h
 ·rename_i cs hf
  obtain⟨rfl,rfl⟩:=dR h;obtain⟨zv,h1,h2⟩:=sj (w:=w) hz;obtain⟨k1,k2⟩:=vO hps;obtain⟨vs',f1,f2,f3⟩:=sq (pl:=fun j=>some (j*i.size,i.size)) hS parts.toList ps z cs zv.cells.toList k1 k2 (h2 U w bs as) hf;refine dN hH (x:=.agg vs'.toArray) ?_ (.agg f2);simp only[Instr.build,Sem.run_bind,h1,Result.andThen_ok,run_underlying hu];have e:(parts.map fun(x:Nat×Operand)=>(x.1,ρ x.2)).toList=parts.toList.map fun p=>(p.1,ρ p.2):=by simp
  have e2:zv.cells=zv.cells.toList.toArray:=by simp
  simp only[vP hi,Sem.run_bind,Result.andThen_ok,Sem.run_pure];rw[e,e2,f1];rfl
 ·simp at h
theorem Fu {t:Nat} {i:TypeInfo} {a x:Opd} {va vx:Value} (hi:P.info? t=some i) (ha:Rep U w bs as (a.val G ts) va) (hx:Rep U w bs as (x.val G ts) vx) (hH:di base U bs as w M)
  (h:dv G mu ts M (.store i.size a x)=some (v,M')):v=.tup []/\ ∃w',(Instr.storeAt t va vx).run P w=.ok () w'/\di base U bs as w' M'/\Evo base U bs as w U bs as w':=by
 simp only[dv]at h;split at h
 ·rename_i id off hv
  rw[hv]at ha;cases ha with
  |ptr hb=>
   rename_i b
   split at h
   ·rename_i cs ho
    split at h
    ·rename_i us hu
     split at h
     ·rename_i hc
      obtain⟨rfl,rfl⟩:=dR h;obtain⟨vs,ty,h1,h2,h3⟩:=hH.cellsAt hb ho;have hR:=hx.cells hu;have hlen:=hR.length;have hl2:=h2.length;have hrun:=run_storeCells_at P b off ty vx.cells.toList 0 vs.toArray w h1 (by simp at hlen⊢;omega) hR.one;simp only[Nat.add_zero]at hrun;have ho':hD U (w.setRow b (vs.take off++vx.cells.toList++vs.drop (off+vx.cells.toList.length)).toArray) bs as b (.cells (setAt cs off us)):=by
       refine⟨_,ty,setRow_heap w b _ _ ty _ h1,?_⟩;have ev:Evo base U bs as w U bs as (w.setRow b (vs.take off++vx.cells.toList++vs.drop (off+vx.cells.toList.length)).toArray):=jF (oE _ _ _) (hH.ob _ _ hb).1 (hH.ob _ _ hb).2.2;exact ev.repL (h2.setAt hR off)
      obtain⟨k1,k2⟩:=hH.turnObj hb (oE w b _) _ ho';refine⟨rfl,_,?_,k1,k2⟩;have hsz:vx.cells.size=i.size:=by simp at hlen;omega
      simp only[Instr.storeAt,Instr.sureAddr,Sem.run_bind,Sem.run_pure,Result.andThen_ok,storeVar,vP hi,hsz];simpa using hrun
     ·simp at h
    ·simp at h
   ·simp at h
 ·rename_i j g off hv
  rw[hv]at ha;cases ha with
  |apt hja hg hh h1=>
   rename_i e
   split at h
   ·rename_i ty l cs hr
    split at h
    ·rename_i us hu
     split at h
     ·rename_i hc
      obtain⟨rfl,rfl⟩:=dR h;have hge:=iK hH hja hr;obtain⟨hn,rfl⟩:=hh hge;obtain⟨k3,k4,k5,k6,k7,cur,vs,k8,k9,k10,k11,k12⟩:=hH.rowAt hja hge hr hn;obtain⟨r0,q0,q1⟩:=hH.arr hja;have hR:=hx.cells hu;have hlen:=hR.length;have hl2:=k11.length;have hcs:off+vx.cells.toList.length<=cur.size:=by rw[k9];simp at hlen⊢;omega
      have hrun:=run_storeCells_at P e.b off ty vx.cells.toList 0 cur w k8 (by simpa using hcs) hR.one;simp only[Nat.add_zero]at hrun;have hlt:=(q1.lt hn).2;have ev:Evo base U bs as w U bs as (w.setRow e.b (cur.toList.take off++vx.cells.toList++cur.toList.drop (off+vx.cells.toList.length)).toArray):=jF (oE _ _ _) k4 k7;have hra:fj base U (w.setRow e.b (cur.toList.take off++vx.cells.toList++cur.toList.drop (off+vx.cells.toList.length)).toArray) bs as e (.wr g ty l (setAt cs off us)):=by
       have hsl:(setAt cs off us).length=cs.length:=by simp[setAt];omega
       refine⟨hge.symm,.inr ⟨hn,k4,by rw[setRow_size];exact hlt,k3,by rw[hsl];exact k6,k5,k7,_,_,setRow_heap w e.b _ _ ty _ k8,?_,rfl,?_⟩⟩
       ·simp at hcs⊢;omega
       ·rw[hsl];have key:(cur.toList.take off++vx.cells.toList++cur.toList.drop (off+vx.cells.toList.length)).toArray.toList.take cs.length=vs.take off++vx.cells.toList++vs.drop (off+vx.cells.toList.length):=by
         rw[<-k10];simp only[List.toList_toArray];apply List.ext_getElem?;intro q;have hh2:off+vx.cells.toList.length<=cs.length:=by rw[hlen];exact hc.2
         have hcur:cs.length<=cur.toList.length:=by
          have:cur.toList.length=cur.size:=Array.length_toList;omega
         simp only[List.append_assoc,List.getElem?_take,List.getElem?_append,List.length_take,List.getElem?_drop,List.length_append];by_cases c1:q<off
         ·rw[if_pos (by omega),if_pos (by omega),if_pos (by omega),if_pos (by omega),if_pos (by omega),if_pos (by omega)]
         ·by_cases c2:q<off+vx.cells.toList.length
          ·rw[if_pos (by omega),if_neg (by omega),if_pos (by omega),if_neg (by omega),if_pos (by omega)]
           congr 1
           omega
          ·by_cases c3:q<cs.length
           ·rw[if_pos c3,if_neg (by omega),if_neg (by omega),if_neg (by omega),if_neg (by omega),if_pos (by omega)]
            congr 1
            omega
           ·rw[if_neg c3,if_neg (by omega),if_neg (by omega),if_neg (by omega)]
        rw[key];exact ev.repL (k11.setAt hR off)
      obtain⟨m1,m2⟩:=hH.turnArr hja hn k7 (oE w e.b _) _ hra;refine⟨rfl,_,?_,m1,m2⟩;have hsz:vx.cells.size=i.size:=by simp at hlen;omega
      simp only[Instr.storeAt,Instr.sureAddr,Sem.run_bind,Sem.run_pure,Result.andThen_ok,storeVar,vP hi,hsz];simpa using hrun
     ·simp at h
    ·simp at h
   ·simp at h
 ·simp at h
end
end Go.Proofs.Ae
namespace Go.Proofs.Ae
open Go Go.RowKit
variable [eg]
section
variable {P:Program} {U:Nat->Nat} {bs:List (Option Nat)} {as:List BA} {w:World}
variable {G:Gls} {mu:Bool} {ts:dx} {M M':Mem} {base:Nat} {v:AV}
mutual
theorem mQ {bs:List (Option Nat)} {as:List BA}: ∀{a a':AV} {x:Value},Rep U w bs as a x->dY a=some a'->Rep U w [] [] a' x
 |_,_,_,.undef,h=>by simp[dY]at h
 |_,_,_,.int,h=>by simp[dY]at h;subst h;exact .int
 |_,_,_,.bool,h=>by simp[dY]at h;subst h;exact .bool
 |_,_,_,.str,h=>by simp[dY]at h;subst h;exact .str
 |_,_,_,.ptr hb,h=>by simp[dY]at h
 |_,_,_,.nilp,h=>by simp[dY]at h;subst h;exact .nilp
 |_,_,_,.nilm,h=>by simp[dY]at h;subst h;exact .nilm
 |_,_,_,.eptr hc hL hr,h=>by simp[dY]at h;subst h;exact .eptr hc hL hr
 |_,_,_,.slcN (sp:=sp) hs,h=>by
  simp[dY]at h;subst h;exact .slcN trivial
 |_,_,_,.slc (sp:=sp) hf hL hr hz hs hc,h=>by
  simp[dY]at h;subst h;exact .slc hf hL hr hz trivial hc
 |_,_,_,.osl ha hg hh h1,h=>by simp[dY]at h
 |_,_,_,.apt ha hg hh h1,h=>by simp[dY]at h
 |_,_,_,.map hb,h=>by simp[dY]at h
 |_,_,_,.fn hf hc,h=>by
  simp only[dY]at h;split at h
  ·simp at h
  ·rename_i f' h1
   split at h
   ·simp at h
   ·rename_i c' h2
    simp at h;subst h;exact .fn (sr hf h1) (sr hc h2)
 |_,_,_,.yld hb,h=>by simp[dY]at h
 |_,_,_,.iface hx,h=>by
  simp only[dY]at h;split at h
  ·simp at h
  ·rename_i a' h1
   simp at h;subst h;exact .iface (mQ hx h1)
 |_,_,_,.nili,h=>by simp[dY]at h;subst h;exact .nili
 |_,_,_,.agg hL,h=>by
  simp only[dY]at h;split at h
  ·simp at h
  ·rename_i cs' h1
   simp at h;subst h;exact .agg (zt hL h1)
 |_,_,_,.tup hL,h=>by
  simp only[dY]at h;split at h
  ·simp at h
  ·rename_i cs' h1
   simp at h;subst h;exact .tup (sr hL h1)
theorem zt {bs:List (Option Nat)} {as:List BA}: ∀{cs cs':List AV} {vs:List Value},dt U w bs as cs vs->gX cs=some cs'->dt U w [] [] cs' vs
 |_,_,_,.nil,h=>by simp[gX]at h;subst h;exact .nil
 |_,_,_,.cons hx h1 t,h=>by
  simp only[gX]at h;split at h
  ·simp at h
  ·rename_i y k1
   split at h
   ·simp at h
   ·rename_i ys k2
    simp at h;subst h;exact .cons (mQ hx k1) h1 (zt t k2)
theorem sr {bs:List (Option Nat)} {as:List BA}: ∀{cs cs':List AV} {vs:List Value},dU U w bs as cs vs->gX cs=some cs'->dU U w [] [] cs' vs
 |_,_,_,.nil,h=>by simp[gX]at h;subst h;exact .nil
 |_,_,_,.cons hx t,h=>by
  simp only[gX]at h;split at h
  ·simp at h
  ·rename_i y k1
   split at h
   ·simp at h
   ·rename_i ys k2
    simp at h;subst h;exact .cons (mQ hx k1) (sr t k2)
end
theorem zu {bs:List (Option Nat)} {as:List BA} {a a':AV} {x:Value} (h:Rep U w bs as a x) (k:gu a=some a'):Rep U w [] [] a' x:=by
 unfold gu at k;split at k
 ·cases k;cases h with
  |slcN hs=>exact .slcN hs
  |slc hf hL hr hz hs hc=>exact .slc hf hL hr hz hs hc
 ·exact mQ h k
theorem qt {bs:List (Option Nat)} {as:List BA}: ∀{cs cs':List AV} {vs:List Value},dU U w bs as cs vs->eh cs=some cs'->dU U w [] [] cs' vs
 |_,_,_,.nil,h=>by simp[eh]at h;subst h;exact .nil
 |_,_,_,.cons hx t,h=>by
  simp only[eh]at h;split at h
  ·simp at h
  ·rename_i y k1
   split at h
   ·simp at h
   ·rename_i ys k2
    simp at h;subst h;exact .cons (zu hx k1) (qt t k2)
theorem Fv {pl:Nat->Option (Nat×Nat)} {i off sz:Nat} {x:Value} {rest:List (Nat×Value)} {vs:List Value} (hp:pl i=some (off,sz)) (hs:x.cells.size=sz) (hf:off+sz<=vs.length):
  Instr.fill pl vs.toArray ((i,x)::rest)=Instr.fill pl (vs.take off++x.cells.toList++vs.drop (off+x.cells.toList.length)).toArray rest:=by
 simp only[Instr.fill,hp];have e2:(x.cells.size≠sz||off+x.cells.size>vs.toArray.size)=false:=by
  simp[hs];omega
 rw[e2];simp only[Bool.false_eq_true,if_false]
 congr 1
 have fold: ∀(us:List Value) (i:Nat) (A:Array Value),off+i+us.length<=A.size->
   (us.zipIdx i).foldl (fun(cs:Array Value) (c:Value×Nat)=>cs.setIfInBounds (off+c.2) c.1) A=(A.toList.take (off+i)++us++A.toList.drop (off+i+us.length)).toArray:=by
  intro us
  induction us with
  |nil=>intro i A _;simp
  |cons u us ih=>
   intro i A hA;simp only[List.zipIdx_cons,List.foldl_cons];rw[ih (i+1) _ (by simp at hA⊢;omega)];have e:=list_seg_step A.toList (off+i) u us (by simp at hA⊢;omega);simpa[Array.toList_setIfInBounds,Nat.add_assoc,Nat.add_comm 1] using e
 have:=fold x.cells.toList 0 vs.toArray (by simp;omega);rw[<-Array.foldl_toList,Array.toList_zipIdx];simpa using this
theorem zw {sz:Nat}: ∀{es F:List AV} {i:Nat} {e:AV} {c:List AV},dM es=some F->(∀e∈es,∃c,cells e=some c/\c.length=sz)->i<es.length->cells e=some c->c.length=sz->
  dM (es.set i e)=some (setAt F (i*sz) c)
 |[],F,i,e,c,_,_,hi,_,_=>by simp at hi
 |x::es,F,0,e,c,h,hz,hi,hc,hl=>by
  obtain⟨c0,cs,h1,h2,rfl⟩:=lM h;obtain⟨c1,h3,h4⟩:=hz x (by simp);rw[h1]at h3;cases h3;simp only[List.set_cons_zero,dM,hc,h2,setAt,Nat.zero_mul,List.take_zero,List.nil_append,Nat.zero_add];rw[List.drop_append,List.drop_of_length_le (l:=c0) (by omega),List.nil_append,show c.length - c0.length=0 by omega,List.drop_zero]
 |x::es,F,i+1,e,c,h,hz,hi,hc,hl=>by
  obtain⟨c0,cs,h1,h2,rfl⟩:=lM h;obtain⟨c1,h3,h4⟩:=hz x (by simp);rw[h1]at h3;cases h3;have ih:=zw (i:=i) h2 (fun e he=>hz e (by simp[he])) (by simpa using hi) hc hl;simp only[List.set_cons_succ,dM,h1,ih,setAt,Nat.succ_mul];rw[List.take_append,List.take_of_length_le (l:=c0) (by omega),List.drop_append,List.drop_of_length_le (l:=c0) (by omega),List.nil_append];rw[show i*sz+sz - c0.length=i*sz by omega,show i*sz+sz+c.length - c0.length=i*sz+c.length by omega];simp
theorem Fw {sz:Nat} {es:List AV} {i:Nat} {e:AV} {c:List AV} (hz: ∀e∈es,∃c,cells e=some c/\c.length=sz) (hc:cells e=some c) (hl:c.length=sz):
  ∀e'∈es.set i e,∃c,cells e'=some c/\c.length=sz:=by
 intro e' he;rcases List.mem_or_eq_of_mem_set he with h|h
 ·exact hz e' h
 ·subst h;exact⟨c,hc,hl⟩
theorem zx {sz:Nat} {ρ:Operand->Value} (hS: ∀x,Rep U w bs as ((dm x).val G ts) (ρ x)):
  ∀(ps:List (Nat×Operand)) (es es' F:List AV) (vs:List Value),dM es=some F->(∀e∈es,∃c,cells e=some c/\c.length=sz)->dt U w [] [] F vs->
   oi G ts sz (ps.map fun p=>(p.1,dm p.2)) es=some es'->
   ∃F' vs',Instr.fill (fun i=>some (i*sz,sz)) vs.toArray (ps.map fun p=>(p.1,ρ p.2))=some vs'.toArray/\dM es'=some F'/\dt U w [] [] F' vs'/\(∀e∈es',∃c,cells e=some c/\c.length=sz)/\es'.length=es.length
 |[],es,es',F,vs,hf,hz,hL,h=>by
  simp[oi]at h;subst h;exact⟨F,vs,rfl,hf,hL,hz,rfl⟩
 |p::ps,es,es',F,vs,hf,hz,hL,h=>by
  simp only[List.map_cons,oi]at h;split at h
  ·rename_i a ha
   split at h
   ·rename_i us hu
    split at h
    ·rename_i hs
     split at h
     ·rename_i hi
      have hR:=(mQ (hS p.2) ha).cells hu;have hlen:=hR.length;have hl2:=hL.length;have hfl:=jZ hf hz;have hbound:p.1*sz+sz<=vs.length:=by
       rw[hl2,hfl];have:(p.1+1)*sz<=es.length*sz:=Nat.mul_le_mul_right _ hi;rw[Nat.succ_mul]at this;exact this
      obtain⟨F',vs',k1,k2,k3,k4,k5⟩:=zx hS ps (es.set p.1 a) es' (setAt F (p.1*sz) us) (vs.take (p.1*sz)++(ρ p.2).cells.toList++vs.drop (p.1*sz+(ρ p.2).cells.toList.length))
       (zw hf hz hi hu hs) (Fw hz hu hs) (hL.setAt hR _) h
      refine⟨F',vs',?_,k2,k3,k4,by simpa using k5⟩;simp only[List.map_cons];rw[Fv rfl (by simp at hlen;omega) hbound];exact k1
     ·simp at h
    ·simp at h
   ·simp at h
  ·simp at h
theorem su {z:AV} {c:List AV} (h:cells z=some c): ∀n,dM (List.replicate n z)=some ((List.replicate n c).flatten)
 |0=>by simp[dM]
 |n+1=>by
  rw[List.replicate_succ,List.replicate_succ];simp[dM,h,su h n]
theorem sy {c:List AV} {vs:List Value} (h:dt U w bs as c vs): ∀n,dt U w bs as ((List.replicate n c).flatten) ((List.replicate n vs).flatten)
 |0=>by simp;exact .nil
 |n+1=>by
  rw[List.replicate_succ,List.replicate_succ];simp only[List.flatten_cons];exact h.append (sy h n)
theorem zy (n:Nat) (vs:List Value):((Array.range (n*vs.length)).map (fun i=>vs.toArray[i%vs.toArray.size]!)).toList=(List.replicate n vs).flatten:=by
 by_cases h0:vs.length=0
 ·have:vs=[]:=List.eq_nil_of_length_eq_zero h0;subst this;have e:(List.replicate n ([]:List Value)).flatten=[]:=by
   induction n with
   |zero=>rfl
   |succ n ih=>rw[List.replicate_succ,List.flatten_cons,ih];rfl
  rw[e];simp
 ·induction n with
  |zero=>simp
  |succ n ih=>
   rw[List.replicate_succ',List.flatten_append,<-ih];apply List.ext_getElem?;intro i;simp only[Array.toList_map,Array.toList_range,List.getElem?_map,List.getElem?_append,List.length_map,List.length_range,List.flatten_cons,List.flatten_nil,List.append_nil,List.size_toArray];by_cases c1:i<n*vs.length
   ·rw[if_pos c1,List.getElem?_range (by rw[Nat.succ_mul];omega),List.getElem?_range c1]
   ·rw[if_neg c1];by_cases c2:i<(n+1)*vs.length
    ·rw[List.getElem?_range c2];have e:i%vs.length=i - n*vs.length:=by
      have h1:i=(i - n*vs.length)+vs.length*n:=by rw[Nat.mul_comm vs.length n];omega
      rw[h1,Nat.add_mul_mod_self_left,Nat.mod_eq_of_lt]
      ·omega
      ·rw[Nat.succ_mul]at c2;omega
     simp only[Option.map_some,e];have hlt:i - n*vs.length<vs.length:=by rw[Nat.succ_mul]at c2;omega
     rw[List.getElem?_eq_getElem hlt];simp[hlt]
    ·rw[List.getElem?_eq_none (by simp;omega),List.getElem?_eq_none (by rw[Nat.succ_mul]at c2;omega)];rfl
theorem Fx (hH:di base U bs as w M) {es F:List AV} {vs:List Value} {sz:Nat} (t:Nat) (hf:dM es=some F) (hz: ∀e∈es,∃c,cells e=some c/\c.length=sz) (hL:dt U w [] [] F vs):
  eL base U bs as w (.slc .full es) M (.slice (some ⟨w.heap.size,0,none⟩) es.length es.length) (w.alloc (.cells vs.toArray t)):=by
 have ev:=ib (base:=base) (bs:=bs) (as:=as) (.cells vs.toArray t) hH.hb hH.fr vs.length;have h1:=hH.alloc (.cells vs.toArray t) vs.length;refine⟨upd U w.heap.size vs.length,bs,as,?_,h1,ev⟩;refine .slc hf (ev.repLP hL) ?_ hz ⟨some _,rfl⟩ (Nat.le_refl _);intro i u hi;rw[iv];have hlt:=eD hi;refine⟨?_,?_⟩
 ·simp only[Nat.zero_add,World.cell?_alloc_new];simpa using hi
 ·show 0+i<upd U w.heap.size vs.length w.heap.size;rw[gw];omega
theorem zz (hH:di base U bs as w M) {F:List AV} {vs:List Value} {l:Lay} (t n:Nat) (hn:F.length=n*l.sz) (hm:n<=maxLen) (hL:dt U w bs as F vs):
  eL base U bs as w (.osl M.arrs.length 0 0 n) {M with arrs:=M.arrs++[.wr 0 t l F]} (.slice (some ⟨w.heap.size,0,none⟩) n n) (w.alloc (.cells vs.toArray t)):=by
 have ev:=ib (base:=base) (bs:=bs) (as:=as) (.cells vs.toArray t) hH.hb hH.fr 0;have h1:=hH.alloc (.cells vs.toArray t) 0;have hlen:=hL.length
 let e:BA:=⟨0,w.heap.size,n,l.sz,false⟩
 have ev2:Evo base (upd U w.heap.size 0) bs as (w.alloc (.cells vs.toArray t)) (upd U w.heap.size 0) bs (as++[e]) (w.alloc (.cells vs.toArray t)):=mN _;have hA:fj base (upd U w.heap.size 0) (w.alloc (.cells vs.toArray t)) bs (as++[e]) e (.wr 0 t l F):=by
  refine⟨rfl,.inr ⟨rfl,hH.hb,by simp[e],rfl,by simp[e,hn],hm,gw _ _ _,vs.toArray,vs,heap_alloc_new w _,by simp[e,hlen,hn],?_,ev2.repL (ev.repL hL)⟩⟩;simp[<-hlen]
 refine⟨upd U w.heap.size 0,bs,as++[e],.osl (e:=e) (by rw[<-hH.la];simp) (Nat.le_refl _) (fun _=>⟨by simp[BA.val,e],by simp[e],by simp[e]⟩) rfl,h1.addArr e _ hA ?_ ?_,ev.trans ev2⟩
 ·intro _ i b hi hb;have:=(hH.ob i b hi).2.1;simp[e]at hb;omega
 ·intro _ j e' he' hn' hb;obtain⟨r,_,hr⟩:=hH.arr he';have:=(hr.lt hn').2;simp[e]at hb;omega
theorem zA {z:AV} {c:List AV} {zv:Value} (h:Rep U w bs as z zv) (hc:cells z=some c):zv.cells.size=c.length:=by
 have:=(h.cells hc).length;simpa using this
theorem Fy {t e len:Nat} {l:Lay} {z:AV} {zc:List AV} {parts:Array (Nat×Operand)} {ρ:Operand->Value} (hu:P.underlying t=some (.slice e)) (hl:eE P e=some l) (hz:zV P e=some z) (hzc:cells z=some zc) (hzl:zc.length=l.sz)
  (hz0:l.sz≠0) (h24:len*l.sz<=2^24) (hS: ∀x,Rep U w bs as ((dm x).val G ts) (ρ x)) (hH:di base U bs as w M)
  (h:dv G mu ts M (.bslice len e l z (parts.toList.map fun p=>(p.1,dm p.2)))=some (v,M')):ef P base U bs as w v M' (Instr.buildSlice t len (parts.map fun(i,x)=>(i,ρ x))):=by
 obtain⟨zv,hz1,hz2⟩:=sk (w:=w) hz;have hzs:zv.cells.size=l.sz:=by rw[<-hzl];exact zA (hz2 U w [] []) hzc
 have hzL:=(hz2 U w [] []).cells hzc;have hnot: ¬(len*l.sz>2^24):=by omega
 have ep:(parts.map fun(x:Nat×Operand)=>(x.1,ρ x.2)).toList=parts.toList.map fun p=>(p.1,ρ p.2):=by simp
 have run: ∀(vs':List Value),Instr.fill (fun i=>some (i*l.sz,l.sz)) ((List.replicate len zv.cells.toList).flatten).toArray (parts.toList.map fun p=>(p.1,ρ p.2))=some vs'.toArray->
   (Instr.buildSlice t len (parts.map fun(i,x)=>(i,ρ x))).run P w=.ok (.slice (some ⟨w.heap.size,0,none⟩) len len) (w.alloc (.cells vs'.toArray e)):=by
  intro vs' hf;simp only[Instr.buildSlice,Sem.run_bind,run_underlying hu,Result.andThen_ok,ic hl,hnot,if_false,Sem.run_pure];by_cases h0:len*l.sz=0
  ·have e0:(List.replicate len zv.cells.toList).flatten.length=0:=by simp[hzs,h0]
   rw[List.eq_nil_of_length_eq_zero e0]at hf;have e1:Array.map (fun x=>(#[]:Array Value)[x%(#[]:Array Value).size]!) (Array.range 0)= #[]:=by simp
   simp only[h0,if_true,Sem.run_bind,Sem.run_pure,Result.andThen_ok];rw[ep,e1,hf];simp[newRow,newObj,Sem.run]
  ·have e1:Array.map (fun x=>zv.cells[x%zv.cells.size]!) (Array.range (len*l.sz))=((List.replicate len zv.cells.toList).flatten).toArray:=by
    have:=zy len zv.cells.toList;apply Array.ext';simp only[List.toList_toArray];rw[<-this];simp[hzs]
   simp only[h0,if_false,Sem.run_bind,hz1,Sem.run_pure,Result.andThen_ok];rw[ep,e1,hf];simp[newRow,newObj,Sem.run]
 simp only[dv]at h;cases mu with
 |false=>
  simp only at h;split at h
  ·rename_i es hes
   obtain⟨rfl,rfl⟩:=dR h;have hu0: ∀e∈List.replicate len z,∃c,cells e=some c/\c.length=l.sz:=by
    intro e he;rw[List.eq_of_mem_replicate he];exact⟨zc,hzc,hzl⟩
   obtain⟨F',vs',k1,k2,k3,k4,k5⟩:=zx hS parts.toList _ es _ _ (su hzc len) hu0 (sy hzL len) hes;have:=Fx hH e k2 k4 k3;rw[k5,List.length_replicate]at this;exact⟨_,_,run vs' k1,this⟩
  ·simp at h
 |true=>
  simp only[su hzc len]at h;split at h
  ·rename_i cs hcs
   obtain⟨rfl,rfl⟩:=dR h;obtain⟨vs',f1,f2,f3⟩:=sq (pl:=fun i=>some (i*l.sz,l.sz)) hS parts.toList _ _ cs ((List.replicate len zv.cells.toList).flatten) (by simp) (by
    intro j p q hp hq;simp only[List.map_map,List.getElem?_map,hp,Option.map_some,Option.some.injEq]at hq;subst hq;exact⟨rfl,rfl⟩) (sy (hz2 U w bs as |>.cells hzc) len) hcs
   have hlen:cs.length=len*l.sz:=by
    have a1:=f2.length;simp at f3;rw[hzs]at f3;omega
   have hm:len<=maxLen:=by
    have:len<=len*l.sz:=Nat.le_mul_of_pos_right _ (by omega);simp[maxLen];omega
   exact⟨_,_,run vs' f1,zz hH e len hlen hm f2⟩
  ·simp at h
end
end Go.Proofs.Ae
namespace Go.Proofs.Ae
open Go Go.RowKit
variable [eg]
section
variable {P:Program} {U:Nat->Nat} {bs:List (Option Nat)} {as:List BA} {w:World}
variable {G:Gls} {mu:Bool} {ts:dx} {M M':Mem} {base:Nat} {v:AV}
theorem Fz (size:Nat) (x:Value) (h:(∃p c,x=.slice (some p) 0 c)\/x=.slice none 0 0):(Builtin.firstCells size 0 x).run P w=.ok #[] w:=by
 rcases h with⟨p,c,rfl⟩|rfl
 ·simp[Builtin.firstCells,loadCells,loadCellsFrom]
 ·simp[Builtin.firstCells]
theorem oI {t ty e:Nat} {i:TypeInfo} (hu:P.underlying t=some (.slice e)) (hi:P.info? e=some i) (s x:Value) {base:Option Addr} {n cap:Nat} (hs:s=.slice base n cap) (hcap:n<=cap)
  (h:(∃p c,x=.slice (some p) 0 c)\/x=.slice none 0 0):(Builtin.append_ #[t,t] ty #[s,x]).run P w=.ok s w:=by
 subst hs;have h0:=Fz (P:=P) (w:=w) i.size x h;have hl:(Builtin.lenOf x).run P w=.ok 0 w:=by rcases h with⟨p,c,rfl⟩|rfl<;>simp[Builtin.lenOf]
 have hl':Builtin.lenOf x=Sem.pure 0:=by rcases h with⟨p,c,rfl⟩|rfl<;>rfl
 cases base with
 |none=>simp[Builtin.append_,run_underlying hu,sizeOf,typeInfo,hi,hl,hcap,h0]
 |some b=>simp[Builtin.append_,run_underlying hu,sizeOf,typeInfo,hi,hl,hcap,h0,storeCells]
theorem zB (hH:di base U bs as w M) {es F:List AV} {vs zs:List Value} {sz n cap t:Nat} (hn:es.length=n) (h0:0<n) (hf:dM es=some F) (hz: ∀e∈es,∃c,cells e=some c/\c.length=sz) (hL:dt U w [] [] F vs)
  (hcap:n<=cap) (hm:cap<=maxLen) (hzs:vs.length+zs.length=cap*sz):
  eL base U bs as w (.slc (.own M.arrs.length) es) {M with arrs:=M.arrs++[.app n t sz]} (.slice (some ⟨w.heap.size,0,none⟩) n cap) (w.drew.alloc (.cells (vs++zs).toArray t)):=by
 have hd:=hH.drew;have evd:=jE (U:=U) (bs:=bs) (as:=as) hH.hb;have ev:=ib (base:=base) (bs:=bs) (as:=as) (w:=w.drew) (.cells (vs++zs).toArray t) hd.hb hd.fr (n*sz);have h1:=hd.alloc (.cells (vs++zs).toArray t) (n*sz);have hlen:=hL.length;have hfl:=jZ hf hz;rw[hn]at hfl
 let e:BA:=⟨n,w.heap.size,cap,sz,false⟩
 have ev2:Evo base (upd U w.heap.size (n*sz)) bs as (w.drew.alloc (.cells (vs++zs).toArray t)) (upd U w.heap.size (n*sz)) bs (as++[e]) (w.drew.alloc (.cells (vs++zs).toArray t)):=mN _;have evA:=evd.trans (ev.trans ev2);have hA:fj base (upd U w.heap.size (n*sz)) (w.drew.alloc (.cells (vs++zs).toArray t)) bs (as++[e]) e (.app n t sz):=
  ⟨rfl,.inr ⟨rfl,hH.hb,by simp[e],h0,rfl,hcap,hm,gw _ _ _,_,heap_alloc_new w.drew _,by simp[e];omega⟩⟩
 refine⟨upd U w.heap.size (n*sz),bs,as++[e],?_,h1.addArr e _ hA ?_ ?_,evA⟩
 ·have k:=Rep.slc (U:=upd U w.heap.size (n*sz)) (w:=w.drew.alloc (.cells (vs++zs).toArray t)) (bs:=bs) (as:=as++[e]) (sp:=.own M.arrs.length) (p:=⟨w.heap.size,0,none⟩) (cap:=cap) hf (evA.repLP hL) (by
   intro i u hi;rw[iv];have hlt:=eD hi;refine⟨?_,?_⟩
   ·have:=World.cell?_alloc_new w.drew (vs++zs).toArray t (0+i);simp only[World.size_drew]at this;rw[this];simp only[Nat.zero_add,List.getElem?_toArray];rw[List.getElem?_append_left hlt];exact hi
   ·show 0+i<upd U w.heap.size (n*sz) w.heap.size;rw[gw];omega) hz ⟨e,by rw[<-hH.la];simp,by simp[e,hn],fun _=>.inl ⟨rfl,by simp[BA.val,e]⟩⟩ (by rw[hn];exact hcap)
  rw[hn]at k;exact k
 ·intro _ i b hi hb;have:=(hH.ob i b hi).2.1;simp[e]at hb;omega
 ·intro _ j e' he' hn' hb;obtain⟨r,_,hr⟩:=hH.arr he';have:=(hr.lt hn').2;simp[e]at hb;omega
theorem sB (hH:di base U bs as w M) {a:Nat} {e0:BA} (he0:as[a]? =some e0) {es F:List AV} {vs zs:List Value} {sz n cap t:Nat} (hg:e0.g<n) (hn:es.length=n) (hf:dM es=some F) (hz: ∀e∈es,∃c,cells e=some c/\c.length=sz) (hL:dt U w [] [] F vs)
  (hcap:n<=cap) (hm:cap<=maxLen) (hzs:vs.length+zs.length=cap*sz):
  eL base U bs as w (.slc (.own a) es) (gP M a (.app n t sz)) (.slice (some ⟨w.heap.size,0,none⟩) n cap) (w.drew.alloc (.cells (vs++zs).toArray t)):=by
 have hd:=hH.drew;have evd:=jE (U:=U) (bs:=bs) (as:=as) hH.hb;have ev:=ib (base:=base) (bs:=bs) (as:=as) (w:=w.drew) (.cells (vs++zs).toArray t) hd.hb hd.fr (n*sz);have hlen:=hL.length;have hfl:=jZ hf hz;rw[hn]at hfl
 let e:BA:=⟨n,w.heap.size,cap,sz,false⟩
 have ev2:Evo base (upd U w.heap.size (n*sz)) bs as (w.drew.alloc (.cells (vs++zs).toArray t)) (upd U w.heap.size (n*sz)) bs (as.set a e) (w.drew.alloc (.cells (vs++zs).toArray t)):=
  ⟨Below.refl _ _,fun _ _=>rfl,fun _=>Nat.le_refl _,fun _ _=>rfl,eB.refl _,qp he0 hg,fun _ _=>rfl⟩
 have evA:=evd.trans (ev.trans ev2);have hA:fj base (upd U w.heap.size (n*sz)) (w.drew.alloc (.cells (vs++zs).toArray t)) bs (as.set a e) e (.app n t sz):=
  ⟨rfl,.inr ⟨rfl,hH.hb,by simp[e],by omega,rfl,hcap,hm,gw _ _ _,_,heap_alloc_new w.drew _,by simp[e];omega⟩⟩
 have hlt:=eD he0;refine⟨upd U w.heap.size (n*sz),bs,as.set a e,?_,hH.moveArr he0 hg evA (by simp) _ hA ?_ (fun _=>.inr (Nat.le_refl _)) ?_,evA⟩
 ·have k:=Rep.slc (U:=upd U w.heap.size (n*sz)) (w:=w.drew.alloc (.cells (vs++zs).toArray t)) (bs:=bs) (as:=as.set a e) (sp:=.own a) (p:=⟨w.heap.size,0,none⟩) (cap:=cap) hf (evA.repLP hL) (by
   intro i u hi;rw[iv];have hlt:=eD hi;refine⟨?_,?_⟩
   ·have:=World.cell?_alloc_new w.drew (vs++zs).toArray t (0+i);simp only[World.size_drew]at this;rw[this];simp only[Nat.zero_add,List.getElem?_toArray];rw[List.getElem?_append_left hlt];exact hi
   ·show 0+i<upd U w.heap.size (n*sz) w.heap.size;rw[gw];omega) hz ⟨e,by rw[fX];simp[hlt],by simp[e,hn],fun _=>.inl ⟨rfl,by simp[BA.val,e]⟩⟩ (by rw[hn];exact hcap)
  rw[hn]at k;exact k
 ·intro b hb _;exact⟨oC _ hb,ia U (by omega)⟩
 ·intro b hb;simp at hb;rw[ia U (by omega)];exact hH.fr b (by omega)
theorem zD (hH:di base U bs as w M) {a:Nat} {e0:BA} (he0:as[a]? =some e0) (hnil:e0.nil=false) {es F:List AV} {vs us:List Value} {sz n m t:Nat} {cur:Array Value} (hg:e0.g<n+m) (hn:es.length=n+m) (hf:dM es=some F) (hz: ∀e∈es,∃c,cells e=some c/\c.length=sz)
  (hL:dt U w [] [] F (vs++us)) (hvl:vs.length=n*sz) (hul:us.length=m*sz) (hb:w.heap[e0.b]? =some (.cells cur t (0,0))) (hcs:cur.size=e0.cap*sz) (hsz:e0.sz=sz) (hU:U e0.b=n*sz) (hm:e0.cap<=maxLen) (hbase:base<=e0.b) (hlt:e0.b<w.heap.size)
  (hcap:n+m<=e0.cap) (hpre: ∀(j:Nat) (u:Value),vs[j]? =some u->cur[j]? =some u):
  eL base U bs as w (.slc (.own a) es) (gP M a (.app (n+m) t sz)) (.slice (some ⟨e0.b,0,none⟩) (n+m) e0.cap) (w.setRow e0.b (cur.toList.take (n*sz)++us++cur.toList.drop (n*sz+us.length)).toArray):=by
 have hfit:(n+m)*sz<=e0.cap*sz:=Nat.mul_le_mul_right _ hcap;rw[Nat.add_mul]at hfit;have hcl:cur.toList.length=cur.size:=Array.length_toList
 let e:BA:=⟨n+m,e0.b,e0.cap,sz,false⟩
 have hold: ∀(o:Nat),o<n*sz->(w.setRow e0.b (cur.toList.take (n*sz)++us++cur.toList.drop (n*sz+us.length)).toArray).cell? ⟨e0.b,o,none⟩=w.cell? ⟨e0.b,o,none⟩:=by
  intro o ho;simp only[World.cell?,setRow_heap w e0.b cur _ t _ hb,hb];simp only[Option.isSome_none,Bool.false_eq_true,if_false,List.getElem?_toArray,List.append_assoc];rw[List.getElem?_append_left (by simp;omega),List.getElem?_take,if_pos ho];simp
 have evA:Evo base U bs as w (upd U e0.b ((n+m)*sz)) bs (as.set a e) (w.setRow e0.b (cur.toList.take (n*sz)++us++cur.toList.drop (n*sz+us.length)).toArray):=by
  have t0:=oE w e0.b (cur.toList.take (n*sz)++us++cur.toList.drop (n*sz+us.length)).toArray;refine⟨⟨t0.os,t0.tape,t0.output,Nat.le_of_eq t0.size.symm,fun k hk=>t0.other k (by omega)⟩,fun b hb'=>ia U (by omega),?_,?_,eB.refl _,qp he0 hg,?_⟩
  ·intro b;by_cases hbb:b=e0.b
   ·subst hbb;rw[gw,hU,Nat.add_mul];omega
   ·rw[ia U hbb];exact Nat.le_refl _
  ·intro ad had;by_cases hbb:ad.block=e0.b
   ·rw[hbb,hU]at had;obtain⟨bk,o,sp⟩:=ad;simp only at hbb had;subst hbb;cases sp with
    |none=>exact hold o had
    |some q=>simp[World.cell?,setRow_heap w e0.b cur _ t _ hb,hb]
   ·exact World.cell?_of_block (t0.other _ hbb)
  ·intro b hb';by_cases hbb:b=e0.b
   ·subst hbb;simp only[csz,setRow_heap w e0.b cur _ t _ hb,hb];simp;omega
   ·exact qo (t0.other _ hbb)
 have hA:fj base (upd U e0.b ((n+m)*sz)) (w.setRow e0.b (cur.toList.take (n*sz)++us++cur.toList.drop (n*sz+us.length)).toArray) bs (as.set a e) e (.app (n+m) t sz):=
  ⟨rfl,.inr ⟨rfl,hbase,by rw[setRow_size];exact hlt,by omega,rfl,hcap,hm,gw _ _ _,_,setRow_heap w e0.b cur _ t _ hb,by simp[e];omega⟩⟩
 refine⟨upd U e0.b ((n+m)*sz),bs,as.set a e,?_,hH.moveArr he0 hg evA (by rw[setRow_size];exact Nat.le_refl _) _ hA ?_ (fun _=>.inl ⟨hnil,rfl⟩) ?_,evA⟩
 ·have k:=Rep.slc (U:=upd U e0.b ((n+m)*sz)) (bs:=bs) (as:=as.set a e) (sp:=.own a) (p:=⟨e0.b,0,none⟩) (cap:=e0.cap) hf (evA.repLP hL) (by
   intro i u hi;rw[iv];have hlt2:=eD hi;simp at hlt2;refine⟨?_,?_⟩
   ·simp only[World.cell?,setRow_heap w e0.b cur _ t _ hb,Option.isSome_none,Bool.false_eq_true,if_false,List.getElem?_toArray,Nat.zero_add,List.append_assoc];by_cases c1:i<n*sz
    ·rw[List.getElem?_append_left (by simp;omega),List.getElem?_take,if_pos c1];rw[List.getElem?_append_left (by omega)]at hi;have:=hpre i u hi;simpa using this
    ·rw[List.getElem?_append_right (by simp;omega)];rw[List.getElem?_append_right (by omega)]at hi;rw[List.getElem?_append_left (by simp;omega)];have e1:i - (List.take (n*sz) cur.toList).length=i - vs.length:=by simp;omega
     rw[e1];exact hi
   ·show 0+i<upd U e0.b ((n+m)*sz) e0.b;rw[gw,Nat.add_mul];omega) hz ⟨e,by rw[fX];simp[eD he0],by simp[e,hn],fun _=>.inl ⟨rfl,by simp[BA.val,e,hn]⟩⟩ (by rw[hn];exact hcap)
  rw[hn]at k;exact k
 ·intro b hb' hne;exact⟨setRow_other _ _ _ _ (hne hnil),ia U (hne hnil)⟩
 ·intro b hb';rw[setRow_size]at hb';rw[ia U (by omega)];exact hH.fr b hb'
theorem zE {sz:Nat} {es xs:List AV} (h1: ∀e∈es,∃c,cells e=some c/\c.length=sz) (h2: ∀e∈xs,∃c,cells e=some c/\c.length=sz): ∀e∈es++xs,∃c,cells e=some c/\c.length=sz:=by
 intro e he;rcases List.mem_append.1 he with h|h
 ·exact h1 e h
 ·exact h2 e h
theorem vQ: ∀{es xs F X:List AV},dM es=some F->dM xs=some X->dM (es++xs)=some (F++X)
 |[],xs,F,X,h,k=>by simp[dM]at h;subst h;exact k
 |e::es,xs,F,X,h,k=>by
  obtain⟨c0,cs,h1,h2,rfl⟩:=lM h;have:=vQ h2 k;simp[dM,h1,this]
theorem zF {sp:Sp} {xs:List AV} {vx:Value} (hx:Rep U w bs as (.slc sp xs) vx) (hne:xs≠[]) {sz:Nat} (hsz:dV sz xs=true):
  ∃(p:Addr) (c:Nat) (X:List AV) (vs:List Value),vx=.slice (some p) xs.length c/\dM xs=some X/\dt U w [] [] X vs/\vs.length=xs.length*sz/\(∀e∈xs,∃c,cells e=some c/\c.length=sz)/\
   ∀(j:Nat) (u:Value),vs[j]? =some u->w.cell? (p.add j)=some u:=by
 cases hx with
 |slcN hs=>exact absurd rfl hne
 |slc hf hL hr hz hs hcap=>
  have e:=sg hsz hz hne;subst e;refine⟨_,_,_,_,rfl,hf,hL,?_,hz,fun j u hu=>(hr j u hu).1⟩;rw[hL.length,jZ hf hz]
theorem FA {t ty e:Nat} {i:TypeInfo} {zv:Value} {l:Lay} {s x:Opd} {vs vx:Value} (hu:P.underlying t=some (.slice e)) (hi:P.info? e=some i) (hl:eE P e=some l) (hzv:i.zero=some zv) (hzs:zv.cells.size=l.sz) (hl0:0<l.sz)
  (hs:Rep U w bs as (s.val G ts) vs) (hx:Rep U w bs as (x.val G ts) vx) (hH:di base U bs as w M)
  (h:dv G false ts M (.app e l i.bytes s x)=some (v,M')):ef P base U bs as w v M' (Builtin.append_ #[t,t] ty #[vs,vx]):=by
 obtain⟨i2,hi2,hsz⟩:=vH hl;rw[hi]at hi2;cases hi2;simp only[dv]at h;split at h
 ·rename_i sx xs hvx
  rw[hvx]at hx;unfold dI at h;split at h
  ·rename_i sp es hvs
   rw[hvs]at hs;split at h
   ·simp at h;obtain⟨rfl,rfl⟩:=h;have hx0:(∃p c,vx=.slice (some p) 0 c)\/vx=.slice none 0 0:=by
     cases hx with
     |slcN _=>exact .inr rfl
     |slc hf hL hr hz hs' hcap=>exact .inl ⟨_,_,rfl⟩
    cases hs with
    |slcN hsp=>exact dN hH (oI hu hi _ vx rfl (Nat.le_refl _) hx0) (.slcN hsp)
    |slc hf hL hr hz hsp hcap=>exact dN hH (oI hu hi _ vx rfl hcap hx0) (.slc hf hL hr hz hsp hcap)
   ·rename_i xx xr
    split at h
    ·rename_i hc
     simp only[Bool.and_eq_true,decide_eq_true_eq]at hc;obtain⟨⟨⟨c1,c2⟩,c3⟩,c4⟩:=hc;obtain⟨p,cx,X,us,rfl,hfx,hLx,hlx,hzx,hcx⟩:=zF hx (by simp) c1;have h63:((es.length+(xx::xr).length:Nat):Int)<=9223372036854775807:=by omega
     have hmax:es.length+(xx::xr).length<=maxLen:=by simp only[maxLen];omega
     -- the slice's own cells
     have hes: ∃F vs',dM es=some F/\dt U w [] [] F vs'/\vs'.length=es.length*l.sz/\(∀e∈es,∃c,cells e=some c/\c.length=l.sz)/\
       ((es=[]/\vs=.slice none 0 0)\/ ∃q cap,vs=.slice (some q) es.length cap/\es.length<=cap/\(∀(j:Nat) (u:Value),vs'[j]? =some u->w.cell? (q.add j)=some u)/\fL U w q vs'):=by
      cases hs with
      |slcN hsp=>exact⟨[],[],rfl,.nil,by simp,by simp,.inl ⟨rfl,rfl⟩⟩
      |slc hf hL hr hz hsp hcap=>
       by_cases hne:es=[]
       ·subst hne;simp[dM]at hf;subst hf;cases hL;exact⟨[],[],rfl,.nil,by simp,by simp,.inr ⟨_,_,rfl,hcap,by simp,by intro i v hi;simp at hi⟩⟩
       ·have e1:=sg c2 hz hne;subst e1;exact⟨_,_,hf,hL,by rw[hL.length,jZ hf hz],hz,.inr ⟨_,_,rfl,hcap,fun j u hu=>(hr j u hu).1,hr⟩⟩
     obtain⟨F,ws,hfe,hLe,hle,hze,hcase⟩:=hes;have hfa:=vQ hfe hfx;have hza:=zE hze hzx
     -- into a new block
     have grow: ∀(cap0:Nat),cap0<es.length+(xx::xr).length->vs=.slice none 0 0/\es=[]/\cap0=0\/(∃q,vs=.slice (some q) es.length cap0/\ ∀(j:Nat) (u:Value),ws[j]? =some u->w.cell? (q.add j)=some u)->
       ∃cap',es.length+(xx::xr).length<=cap'/\cap'<=maxLen/\(Builtin.append_ #[t,t] ty #[vs,.slice (some p) (xx::xr).length cx]).run P w=
        .ok (.slice (some ⟨w.heap.size,0,none⟩) (es.length+(xx::xr).length) cap') (w.drew.alloc (.cells ((ws++us)++(Builtin.zeroCells zv.cells (cap' - (es.length+(xx::xr).length))).toList).toArray e)):=by
      intro cap0 hlt hcs;refine⟨grownCap w (es.length+(xx::xr).length) cap0 e,grownCap_ge _ _ _ _,grownCap_le_maxLen _ _ _ _ hmax,?_⟩;rcases hcs with⟨rfl,rfl,rfl⟩|⟨q,rfl,hq⟩
      ·have hr:=run_append_nil (P:=P) w t ty e i zv hu hi hzv p (xx::xr).length cx us (by rw[hlx,hsz]) hcx (by simp) (by simpa using h63) (by simp at c3⊢;omega);have hw0:ws=[]:=List.eq_nil_of_length_eq_zero (by simpa using hle);subst hw0;rw[hr];simp
       congr 2
       apply Array.ext';simp
      ·have hr:=run_append_grow (P:=P) w t ty e i zv hu hi hzv q es.length cap0 ws (by rw[hle,hsz]) hq p (xx::xr).length cx us (by rw[hlx,hsz]) hcx hlt h63 (growslice_fits hlt c3);rw[hr];simp
       congr 2
       apply Array.ext';simp
     have good: ∀cap',es.length+(xx::xr).length<=cap'->cap'<=maxLen->
       eL base U bs as w (.slc (.own M.arrs.length) (es++xx::xr)) {M with arrs:=M.arrs++[.app (es.length+(xx::xr).length) e l.sz]} (.slice (some ⟨w.heap.size,0,none⟩) (es.length+(xx::xr).length) cap')
        (w.drew.alloc (.cells ((ws++us)++(Builtin.zeroCells zv.cells (cap' - (es.length+(xx::xr).length))).toList).toArray e)):=by
      intro cap' k1 k2;refine zB hH (es:=es++xx::xr) (F:=F++X) (vs:=ws++us) (sz:=l.sz) (by simp) (by simp;omega) hfa hza (hLe.append hLx) k1 k2 ?_;have hzc:(Builtin.zeroCells zv.cells (cap' - (es.length+(xx::xr).length))).toList.length=(cap' - (es.length+(xx::xr).length))*l.sz:=by
       simp[Builtin.zeroCells,hzs]
      rw[List.length_append,hzc,hle,hlx,<-Nat.add_mul,<-Nat.add_mul]
      congr 1
      omega
     split at h
     ·simp at h
     ·simp at h;obtain⟨rfl,rfl⟩:=h;cases hs with
      |slcN hsp=>
       obtain⟨cap',k1,k2,k3⟩:=grow 0 (by simp) (.inl ⟨rfl,rfl,rfl⟩);exact⟨_,_,k3,by simpa using good cap' k1 k2⟩
      |slc hf hL hr hz hsp hcap=>
       obtain⟨q0,hq0⟩:=hsp;simp at hq0;rcases hcase with⟨_,hbad⟩|⟨q,cap,hq,hcap',hcell,_⟩
       ·cases hbad
       ·simp at hq;obtain⟨cap',k1,k2,k3⟩:=grow es.length (by simp) (.inr ⟨q,by rw[hq.1,hq0.2],hcell⟩);rw[hq.1,hq0.2]at*;exact⟨_,_,k3,by simpa using good cap' k1 k2⟩
     ·rename_i a
      split at h
      ·rename_i n ty' sz' har
       split at h
       ·rename_i hcond
        simp at h;obtain⟨rfl,rfl⟩:=h;obtain⟨hn,hty⟩:=hcond
        -- the row's place
        have hsp:iu as es.length vs (.own a):=by
         cases hs with
         |slcN hsp=>exact hsp
         |slc _ _ _ _ hsp _=>exact hsp
        obtain⟨e0,he0,hg0,hv0⟩:=hsp;obtain⟨r,hr1,hr2⟩:=hH.arr he0;rw[har]at hr1;cases hr1;obtain⟨hgn,hkind⟩:=hr2;have hval:=hv0 (by rw[hgn,hn]);have hlen1:(xx::xr).length=xr.length+1:=rfl;rcases hkind with⟨hnil,hn0⟩|⟨hnil,b1,b2,b3,b4,b5,b6,b7,cur,b8,b9⟩
        ·have hes0:es=[]:=List.eq_nil_of_length_eq_zero (by omega);subst hes0;obtain⟨pp,hvs⟩: ∃p:Option Addr,vs=.slice p 0 0:=by
          rcases hval with⟨q,_⟩|⟨_,q⟩
          ·rw[hnil]at q;cases q
          ·exact q
         subst hvs;have hw0:ws=[]:=List.eq_nil_of_length_eq_zero (by simpa using hle);subst hw0;obtain⟨cap',k1,k2,k3⟩:=grow 0 (by simp) (by
          cases pp with
          |none=>exact .inl ⟨rfl,rfl,rfl⟩
          |some q=>exact .inr ⟨q,rfl,by simp⟩)
         refine⟨_,_,k3,?_⟩;have hzc:(Builtin.zeroCells zv.cells (cap' - (([]:List AV).length+(xx::xr).length))).toList.length=(cap' - (([]:List AV).length+(xx::xr).length))*l.sz:=by
          simp[Builtin.zeroCells,hzs]
         refine sB hH he0 (es:=[]++xx::xr) (F:=F++X) (vs:=[]++us) (by rw[hgn];simp only[List.length_cons,List.length_nil];omega) (by simp) hfa hza (hLe.append hLx) k1 k2 ?_;rw[List.length_append,hzc,hle,hlx,<-Nat.add_mul,<-Nat.add_mul]
         congr 1
         omega
        ·have hval:vs=e0.val 0 es.length:=by
          rcases hval with⟨_,q⟩|⟨q,_⟩
          ·exact q
          ·rw[hnil]at q;cases q
         rcases hcase with⟨_,hbad⟩|⟨q,cap,hq,hcap',hcell,hrow⟩
         ·rw[hbad]at hval;simp[BA.val,hnil]at hval
         ·rw[hq]at hval;simp[BA.val,hnil]at hval;obtain⟨rfl,rfl⟩:=hval;subst hq;have htyy:ty'=e/\sz'=l.sz:=hty.resolve_left (by omega);obtain⟨rfl,rfl⟩:=htyy;by_cases hroom:es.length+(xx::xr).length<=e0.cap
          ·have hfit:es.length*i.size+us.length<=cur.size:=by
            rw[b9,hlx,hsz,<-Nat.add_mul];exact Nat.mul_le_mul_right _ hroom
           have hr:=run_append_room (P:=P) w t ty ty' i hu hi e0.b es.length e0.cap cur b8 p (xx::xr).length cx us (by rw[hlx,hsz]) hcx hLx.one hroom hfit;rw[hsz]at hr;refine⟨_,_,hr,?_⟩;refine zD hH he0 hnil (es:=es++xx::xr) (F:=F++X) (vs:=ws) (us:=us) (n:=es.length) (m:=(xx::xr).length) (by rw[hgn];simp only[List.length_cons,List.length_nil];omega) (by simp) hfa hza (hLe.append hLx) hle hlx b8 b9 b4 (by rw[b7,hn]) b6 b1 b2 hroom ?_;intro j u hu';have:=hcell j u hu';rw[iv]at this;simpa[World.cell?,b8] using this
          ·obtain⟨cap',k1,k2,k3⟩:=grow e0.cap (by omega) (.inr ⟨_,rfl,hcell⟩);refine⟨_,_,k3,?_⟩;have hzc:(Builtin.zeroCells zv.cells (cap' - (es.length+(xx::xr).length))).toList.length=(cap' - (es.length+(xx::xr).length))*l.sz:=by
            simp[Builtin.zeroCells,hzs]
           refine sB hH he0 (es:=es++xx::xr) (F:=F++X) (vs:=ws++us) (n:=es.length+(xx::xr).length) (by rw[hgn];simp only[List.length_cons,List.length_nil];omega) (by simp) hfa hza (hLe.append hLx) k1 k2 ?_;rw[List.length_append,hzc,hle,hlx,<-Nat.add_mul,<-Nat.add_mul]
           congr 1
           omega
       ·simp at h
      ·simp at h
    ·simp at h
  ·simp at h
 ·simp at h
end
end Go.Proofs.Ae
namespace Go.Proofs.Ae
open Go Go.RowKit
variable [eg]
section
variable {P:Program} {U:Nat->Nat} {bs:List (Option Nat)} {as:List BA} {w:World}
variable {G:Gls} {mu:Bool} {ts:dx} {M M':Mem} {base:Nat} {v:AV}
theorem FB (hH:di base U bs as w M) {cs:List AV} {vs zs:List Value} {l:Lay} {n cap t:Nat} (hL:dt U w bs as cs vs) (hn:cs.length=n*l.sz)
  (hcap:n<=cap) (hm:cap<=maxLen) (hzs:vs.length+zs.length=cap*l.sz):
  eL base U bs as w (.osl M.arrs.length 0 0 n) {M with arrs:=M.arrs++[.wr 0 t l cs]} (.slice (some ⟨w.heap.size,0,none⟩) n cap) (w.drew.alloc (.cells (vs++zs).toArray t)):=by
 have hd:=hH.drew;have evd:=jE (U:=U) (bs:=bs) (as:=as) hH.hb;have ev:=ib (base:=base) (bs:=bs) (as:=as) (w:=w.drew) (.cells (vs++zs).toArray t) hd.hb hd.fr 0;have h1:=hd.alloc (.cells (vs++zs).toArray t) 0;have hlen:=hL.length
 let e:BA:=⟨0,w.heap.size,cap,l.sz,false⟩
 have ev2:Evo base (upd U w.heap.size 0) bs as (w.drew.alloc (.cells (vs++zs).toArray t)) (upd U w.heap.size 0) bs (as++[e]) (w.drew.alloc (.cells (vs++zs).toArray t)):=mN _;have evA:=evd.trans (ev.trans ev2);have hA:fj base (upd U w.heap.size 0) (w.drew.alloc (.cells (vs++zs).toArray t)) bs (as++[e]) e (.wr 0 t l cs):=by
  refine⟨rfl,.inr ⟨rfl,hH.hb,by simp[e],rfl,?_,hm,gw _ _ _,(vs++zs).toArray,vs,heap_alloc_new w.drew _,by simp[e];omega,?_,evA.repL hL⟩⟩
  ·rw[hn];exact Nat.mul_le_mul_right _ hcap
  ·simp[<-hlen]
 refine⟨upd U w.heap.size 0,bs,as++[e],.osl (e:=e) (by rw[<-hH.la];simp) (Nat.le_refl _) (fun _=>⟨by simp[BA.val,e],by simp[e],by simp[e,hcap]⟩) rfl,h1.addArr e _ hA ?_ ?_,evA⟩
 ·intro _ i b hi hb;have:=(hH.ob i b hi).2.1;simp[e]at hb;omega
 ·intro _ j e' he' hn' hb;obtain⟨r,_,hr⟩:=hH.arr he';have:=(hr.lt hn').2;simp[e]at hb;omega
theorem zG (hH:di base U bs as w M) {a g:Nat} {e0:BA} (he0:as[a]? =some e0) (hg:e0.g=g) {cs:List AV} {vs zs:List Value} {l:Lay} {n cap t:Nat} (hL:dt U w bs as cs vs) (hn:cs.length=n*l.sz)
  (hcap:n<=cap) (hm:cap<=maxLen) (hzs:vs.length+zs.length=cap*l.sz):
  eL base U bs as w (.osl a (g+1) 0 n) (gP M a (.wr (g+1) t l cs)) (.slice (some ⟨w.heap.size,0,none⟩) n cap) (w.drew.alloc (.cells (vs++zs).toArray t)):=by
 have hd:=hH.drew;have evd:=jE (U:=U) (bs:=bs) (as:=as) hH.hb;have ev:=ib (base:=base) (bs:=bs) (as:=as) (w:=w.drew) (.cells (vs++zs).toArray t) hd.hb hd.fr 0;have hlen:=hL.length
 let e:BA:=⟨g+1,w.heap.size,cap,l.sz,false⟩
 have hgl:e0.g<e.g:=by simp[e];omega
 have ev2:Evo base (upd U w.heap.size 0) bs as (w.drew.alloc (.cells (vs++zs).toArray t)) (upd U w.heap.size 0) bs (as.set a e) (w.drew.alloc (.cells (vs++zs).toArray t)):=
  ⟨Below.refl _ _,fun _ _=>rfl,fun _=>Nat.le_refl _,fun _ _=>rfl,eB.refl _,qp he0 hgl,fun _ _=>rfl⟩
 have evA:=evd.trans (ev.trans ev2);have hA:fj base (upd U w.heap.size 0) (w.drew.alloc (.cells (vs++zs).toArray t)) bs (as.set a e) e (.wr (g+1) t l cs):=by
  refine⟨rfl,.inr ⟨rfl,hH.hb,by simp[e],rfl,?_,hm,gw _ _ _,(vs++zs).toArray,vs,heap_alloc_new w.drew _,by simp[e];omega,?_,evA.repL hL⟩⟩
  ·rw[hn];exact Nat.mul_le_mul_right _ hcap
  ·simp[<-hlen]
 refine⟨upd U w.heap.size 0,bs,as.set a e,.osl (e:=e) (by rw[fX];simp[eD he0]) (Nat.le_refl _) (fun _=>⟨by simp[BA.val,e],by simp[e],by simp[e,hcap]⟩) rfl,
  hH.moveArr he0 hgl evA (by simp) _ hA ?_ (fun _=>.inr (Nat.le_refl _)) ?_,evA⟩
 ·intro b hb _;exact⟨oC _ hb,ia U (by omega)⟩
 ·intro b hb;simp at hb;rw[ia U (by omega)];exact hH.fr b (by omega)
theorem FC (hH:di base U bs as w M) {a g:Nat} {e0:BA} (he0:as[a]? =some e0) (hg:e0.g=g) (hnil:e0.nil=false) {cs xs:List AV} {vs us:List Value} {l:Lay} {n m t:Nat} {cur:Array Value}
  (hL:dt U w bs as cs vs) (hX:dt U w bs as xs us) (hn:cs.length=n*l.sz) (hx:xs.length=m*l.sz) (hb:w.heap[e0.b]? =some (.cells cur t (0,0))) (hcs:cur.size=e0.cap*l.sz) (hsz:e0.sz=l.sz) (hU:U e0.b=0) (hm:e0.cap<=maxLen) (hbase:base<=e0.b) (hlt:e0.b<w.heap.size)
  (hcap:n+m<=e0.cap) (hpre:cur.toList.take cs.length=vs):
  eL base U bs as w (.osl a (g+1) 0 (n+m)) (gP M a (.wr (g+1) t l (cs++xs))) (.slice (some ⟨e0.b,0,none⟩) (n+m) e0.cap) (w.setRow e0.b (cur.toList.take (n*l.sz)++us++cur.toList.drop (n*l.sz+us.length)).toArray):=by
 have hfit:(n+m)*l.sz<=e0.cap*l.sz:=Nat.mul_le_mul_right _ hcap;rw[Nat.add_mul]at hfit;have hcl:cur.toList.length=cur.size:=Array.length_toList;have hlv:=hL.length;have hlx:=hX.length
 let e:BA:=⟨g+1,e0.b,e0.cap,l.sz,false⟩
 have hgl:e0.g<e.g:=by simp[e];omega
 have evA:Evo base U bs as w U bs (as.set a e) (w.setRow e0.b (cur.toList.take (n*l.sz)++us++cur.toList.drop (n*l.sz+us.length)).toArray):=
  (jF (oE w e0.b _) hbase hU).trans ⟨Below.refl _ _,fun _ _=>rfl,fun _=>Nat.le_refl _,fun _ _=>rfl,eB.refl _,qp he0 hgl,fun _ _=>rfl⟩
 have hA:fj base U (w.setRow e0.b (cur.toList.take (n*l.sz)++us++cur.toList.drop (n*l.sz+us.length)).toArray) bs (as.set a e) e (.wr (g+1) t l (cs++xs)):=by
  refine⟨rfl,.inr ⟨rfl,hbase,by rw[setRow_size];exact hlt,rfl,?_,hm,hU,_,vs++us,setRow_heap w e0.b cur _ t _ hb,?_,?_,(evA.repL hL).append (evA.repL hX)⟩⟩
  ·simp[e];omega
  ·simp[e];omega
  ·rw[<-hpre];simp only[List.toList_toArray,List.length_append];rw[hn];rw[List.take_append_of_le_length (by simp;omega)];rw[List.take_of_length_le (by simp;omega)]
 refine⟨U,bs,as.set a e,.osl (e:=e) (by rw[fX];simp[eD he0]) (Nat.le_refl _) (fun _=>⟨by simp[BA.val,e],by simp[e],by simp[e,hcap]⟩) rfl,
  hH.moveArr he0 hgl evA (by rw[setRow_size];exact Nat.le_refl _) _ hA ?_ (fun _=>.inl ⟨hnil,rfl⟩) ?_,evA⟩
 ·intro b hb' hne;exact⟨setRow_other _ _ _ _ (hne hnil),rfl⟩
 ·intro b hb';rw[setRow_size]at hb';exact hH.fr b hb'
theorem FD {x:AV} {vx:Value} (hx:Rep U w bs as x vx) (hH:di base U bs as w M) {sz m:Nat} {xs:List AV} (h:vD M sz x=some (xs,m)):
  xs.length=m*sz/\ ∃us,dt U w bs as xs us/\((m=0/\((∃p c,vx=.slice (some p) 0 c)\/vx=.slice none 0 0))\/ ∃p c,vx=.slice (some p) m c/\ ∀(j:Nat) (u:Value),us[j]? =some u->w.cell? (p.add j)=some u):=by
 unfold vD at h;split at h
 ·rename_i sp es
  split at h
  ·rename_i hsz
   split at h
   ·rename_i F hf
    simp at h;obtain⟨rfl,rfl⟩:=h;by_cases hne:es=[]
    ·subst hne;simp[dM]at hf;subst hf;refine⟨by simp,[],.nil,.inl ⟨rfl,?_⟩⟩;cases hx with
     |slcN _=>exact .inr rfl
     |slc _ _ _ _ _ _=>exact .inl ⟨_,_,rfl⟩
    ·obtain⟨p,c,X,vs,rfl,h2,h3,h4,h5,h6⟩:=zF hx hne hsz;rw[hf]at h2;cases h2;exact⟨jZ hf h5,vs,h3.lift,.inr ⟨p,c,rfl,h6⟩⟩
   ·simp at h
  ·simp at h
 ·rename_i a g off n
  split at h
  ·rename_i ty l cs hr
   split at h
   ·rename_i hc
    simp at h;obtain⟨rfl,rfl⟩:=h;obtain⟨hc1,hc2⟩:=hc;cases hx with
    |osl ha hg hh h1=>
     rename_i e1
     have hge:=iK hH ha hr;obtain⟨rfl,hn0,hcap⟩:=hh hge;cases hq:e1.nil with
     |true=>
      have hn:=hn0 hq;subst hn;refine⟨by simp,[],by simp;exact .nil,.inl ⟨rfl,.inr ?_⟩⟩;simp[BA.val,hq]
     |false=>
      obtain⟨k3,k4,k5,k6,k7,cur,vs,k8,k9,k10,k11,k12⟩:=hH.rowAt ha hge hr hq;refine⟨by simp;rw[Nat.add_mul]at hc2;omega,(vs.drop (off*sz)).take (n*sz),(k11.drop _).take _,.inr ⟨_,_,BA.val_some hq,?_⟩⟩;intro j u hj;rw[List.getElem?_take]at hj;split at hj
      ·rw[List.getElem?_drop]at hj;rw[k3,hc1];exact k12 (off*sz) j u hj
      ·cases hj
   ·simp at h
  ·simp at h
 ·simp at h
theorem FE {t ty e:Nat} {i:TypeInfo} {zv:Value} {l:Lay} {s x:Opd} {vs vx:Value} (hu:P.underlying t=some (.slice e)) (hi:P.info? e=some i) (hl:eE P e=some l) (hzv:i.zero=some zv) (hzs:zv.cells.size=l.sz) (hl0:0<l.sz)
  (hs:Rep U w bs as (s.val G ts) vs) (hx:Rep U w bs as (x.val G ts) vx) (hH:di base U bs as w M)
  (h:dv G true ts M (.app e l i.bytes s x)=some (v,M')):ef P base U bs as w v M' (Builtin.append_ #[t,t] ty #[vs,vx]):=by
 obtain⟨i2,hi2,hsz⟩:=vH hl;rw[hi]at hi2;cases hi2;simp only[dv,za]at h;split at h
 ·simp at h
 ·rename_i xs m hsrc
  obtain⟨hxl,us,hX,hcase⟩:=FD hx hH hsrc;have hul:=hX.length;split at h
  ·rename_i sp es hvs
   rw[hvs]at hs;split at h
   ·simp at h;obtain⟨rfl,rfl⟩:=h;have hx0:(∃p c,vx=.slice (some p) 0 c)\/vx=.slice none 0 0:=by
     rcases hcase with⟨_,hh⟩|⟨p,c,rfl,_⟩
     ·exact hh
     ·exact .inl ⟨_,_,rfl⟩
    cases hs with
    |slcN hsp=>exact dN hH (oI hu hi _ vx rfl (Nat.le_refl _) hx0) (.slcN hsp)
    |slc hf hL hr hz hsp hcap=>exact dN hH (oI hu hi _ vx rfl hcap hx0) (.slc hf hL hr hz hsp hcap)
   ·rename_i m
    split at h
    ·split at h
     ·rename_i hc
      simp at h;obtain⟨rfl,rfl⟩:=h;rcases hcase with⟨hbad,_⟩|⟨p,c,rfl,hcx⟩
      ·omega
      have h63:((m+1:Nat):Int)<=9223372036854775807:=by omega
      have hmax:m+1<=maxLen:=by simp only[maxLen];omega
      have hzc:(Builtin.zeroCells zv.cells (grownCap w (m+1) 0 e - (m+1))).toList.length=(grownCap w (m+1) 0 e - (m+1))*l.sz:=by simp[Builtin.zeroCells,hzs]
      have hge:=grownCap_ge w (m+1) 0 e;have good:=FB (t:=e) hH hX hxl hge (grownCap_le_maxLen _ _ _ _ hmax) (zs:=(Builtin.zeroCells zv.cells (grownCap w (m+1) 0 e - (m+1))).toList) (by
       rw[hzc,hul,hxl,<-Nat.add_mul];congr 1;omega)
      refine⟨_,_,?_,good⟩;cases hs with
      |slcN hsp=>
       have hr:=run_append_nil (P:=P) w t ty e i zv hu hi hzv p (m+1) c us (by rw[hul,hxl,hsz]) hcx (by omega) h63 (by omega);rw[hr]
       congr 3
       apply Array.ext';simp
      |slc hf hL hr hz hsp hcap=>
       rename_i cs' vs' q0 sz' cap0
       obtain⟨q,hq⟩:=hsp;simp at hq;obtain⟨_,rfl⟩:=hq;have hr:=run_append_grow (P:=P) w t ty e i zv hu hi hzv q0 0 0 [] (by simp) (by simp) p (m+1) c us (by rw[hul,hxl,hsz]) hcx (by omega) (by simpa using h63) (by
        have:=growslice_fits (need:=0+(m+1)) (old:=0) (bytes:=i.bytes) (by omega) (by simpa using hc.1);exact this)
       simp only[List.length_nil]at hr⊢;rw[hr];simp
       congr 2
       apply Array.ext';simp
     ·simp at h
    ·simp at h
  ·rename_i a g off n hvs
   rw[hvs]at hs;split at h
   ·rename_i ty' l' cs hrow
    cases hs with
    |osl ha hg hh h1=>
     rename_i e0
     have hge:=iK hH ha hrow;obtain⟨rfl,hn0,hcap⟩:=hh hge;split at h
     ·simp at h;obtain⟨rfl,rfl⟩:=h;have hx0:(∃p c,vx=.slice (some p) 0 c)\/vx=.slice none 0 0:=by
       rcases hcase with⟨_,hh⟩|⟨p,c,rfl,_⟩
       ·exact hh
       ·exact .inl ⟨_,_,rfl⟩
      cases hq:e0.nil with
      |true=>
       have hn:=hn0 hq;subst hn;refine dN hH (oI hu hi _ vx (base:=none) (n:=0) (cap:=0) (by simp[BA.val,hq]) (Nat.le_refl _) hx0) (.osl ha hg (fun _=>⟨rfl,hn0,hcap⟩) h1)
      |false=>
       refine dN hH (oI hu hi _ vx (BA.val_some hq) (by omega) hx0) (.osl ha hg (fun _=>⟨rfl,hn0,hcap⟩) h1)
     ·rename_i m
      split at h
      ·rename_i hc
       simp at h;obtain⟨rfl,rfl⟩:=h;obtain⟨rfl,c2,c3,c4,c5⟩:=hc;rcases hcase with⟨hbad,_⟩|⟨p,c,rfl,hcx⟩
       ·omega
       have h63:((n+(m+1):Nat):Int)<=9223372036854775807:=by omega
       have hmax:n+(m+1)<=maxLen:=by simp only[maxLen];omega
       cases hq:e0.nil with
       |true=>
        have hn:=hn0 hq;subst hn;have hcs0:cs=[]:=List.eq_nil_of_length_eq_zero (by simpa using c2);subst hcs0;have hzc:(Builtin.zeroCells zv.cells (grownCap w (m+1) 0 e - (m+1))).toList.length=(grownCap w (m+1) 0 e - (m+1))*l.sz:=by simp[Builtin.zeroCells,hzs]
        have hge2:=grownCap_ge w (m+1) 0 e;have good:=zG (t:=e) hH ha hge.symm hX hxl hge2 (grownCap_le_maxLen _ _ _ _ (by omega)) (zs:=(Builtin.zeroCells zv.cells (grownCap w (m+1) 0 e - (m+1))).toList) (by
         rw[hzc,hul,hxl,<-Nat.add_mul];congr 1;omega)
        simp only[List.nil_append,Nat.zero_add];refine⟨_,_,?_,good⟩;have hr:=run_append_nil (P:=P) w t ty e i zv hu hi hzv p (m+1) c us (by rw[hul,hxl,hsz]) hcx (by omega) (by simpa using h63) (by simp only[Nat.zero_add]at c4;omega);have e1:e0.val 0 0=.slice none 0 0:=by simp[BA.val,hq]
        rw[e1,hr]
        congr 3
        apply Array.ext';simp
       |false=>
        obtain⟨k3,k4,k5,k6,k7,cur,ws,k8,k9,k10,k11,k12⟩:=hH.rowAt ha hge hrow hq;obtain⟨r0,_,q1⟩:=hH.arr ha;have hlt:=(q1.lt hq).2;have hwl:=k11.length;have e1:e0.val 0 n=.slice (some ⟨e0.b,0,none⟩) n e0.cap:=by rw[BA.val_some hq];simp
        rw[e1];have hcell: ∀(j:Nat) (u:Value),ws[j]? =some u->w.cell? ((⟨e0.b,0,none⟩:Addr).add j)=some u:=fun j u hu=>k12 0 j u (by simpa using hu)
        ·obtain⟨rfl,hls⟩:=c3;by_cases hroom:n+(m+1)<=e0.cap
         ·have hr:=run_append_room (P:=P) w t ty ty' i hu hi e0.b n e0.cap cur k8 p (m+1) c us (by rw[hul,hxl,hsz]) hcx hX.one hroom (by
           rw[hsz,k9,hul,hxl,hls,<-Nat.add_mul];exact Nat.mul_le_mul_right _ hroom)
          rw[hsz]at hr;refine⟨_,_,hr,?_⟩;exact FC hH ha hge.symm hq k11 hX c2 hxl k8 (by rw[k9,hls]) (by rw[k3,hls]) k7 k5 k4 hlt hroom k10
         ·have hzc:(Builtin.zeroCells zv.cells (grownCap w (n+(m+1)) e0.cap ty' - (n+(m+1)))).toList.length=(grownCap w (n+(m+1)) e0.cap ty' - (n+(m+1)))*l.sz:=by simp[Builtin.zeroCells,hzs]
          have hge2:=grownCap_ge w (n+(m+1)) e0.cap ty';have hr:=run_append_grow (P:=P) w t ty ty' i zv hu hi hzv ⟨e0.b,0,none⟩ n e0.cap ws (by rw[hwl,c2,hsz]) hcell p (m+1) c us (by rw[hul,hxl,hsz]) hcx (by omega) h63 (growslice_fits (by omega) c4);have good:=zG (t:=ty') hH ha hge.symm (k11.append hX) (n:=n+(m+1)) (by rw[List.length_append,c2,hxl,<-Nat.add_mul]) hge2 (grownCap_le_maxLen _ _ _ _ hmax) (zs:=(Builtin.zeroCells zv.cells (grownCap w (n+(m+1)) e0.cap ty' - (n+(m+1)))).toList) (by
           rw[hzc,List.length_append,hul,hxl,hwl,c2,<-Nat.add_mul,<-Nat.add_mul];congr 1;omega)
          refine⟨_,_,?_,good⟩;rw[hr]
          congr 3
          apply Array.ext';simp
      ·simp at h
   ·simp at h
  ·simp at h
end
end Go.Proofs.Ae
