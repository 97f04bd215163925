/- Further functions: what they answer, and what that means. -/
import Derived.Test.YtjkmcceipabejaaGreatDoorP
import Derived.Lib.AppendStr
import Derived.Shelf.Strings.Builder1
set_option linter.unusedSimpArgs false
set_option linter.unusedVariables false
set_option linter.unusedSectionVars false
namespace Go.Proofs.Ae
open Go Go.RowKit
def tgt (op:Int):Int:=if op=15 then 1 else if op=14 then 2 else if op=13 then 3 else if op=12 then 4 else if op=11∨op=16∨op=17 then 5 else 6
def opw (op:Int):Str:=if op=2 then [61]else if op=3 then [105,110]else if op=4 then [115,117,98]else if op=5 then [97,100,106]else if op=6 then [111,110]else if op=11 then wNot else if op=12 then wAnd else if op=13 then wOr else if op=14 then wImp else if op=15 then wIff else if op=16 then wSome else if op=17 then wEvery else []
def numW (k:Int):Str:=Lib.decDigits k.toNat
def comW:List Str→List Str
 |[]=>[]
 |[x]=>[x]
 |x::y::l=>x::wCom::comW (y::l)
def atmT (op:Int) (ns:List Str) (nn mm:Int):List Str:=
 if op=0 then [wTrue]else if op=1 then [wFalse]
 else if op=7 then [ns.headD [],wIs,numW nn]
 else if op=8 then [wSize,ns.headD [],wMod,numW mm,wIs,numW nn]
 else if op=9 then [wOne,ns.headD []]
 else if op=10 then ns.headD []::wL::(comW ns.tail++[wR])
 else [ns.headD [],opw op,(ns.tail).headD []]
def okP (least:Int) (op:Int) (last:Bool):Bool:=decide (least≤tgt op)&&(last||!(op==16||op==17))
def prN:Nd→Bool→List Str
 | .mk op ns _ nn mm [],_=>atmT op ns nn mm
 | .mk op ns so _ _ [a],last=>if op=11 then wNot::(if okP 5 a.op last then prN a last else wL::(prN a true++[wR]))else opw op::snm so::ns.headD []::wCol::prN a true
 | .mk op _ _ _ _ (a::b::_),last=>
  (if okP (if op=14 then tgt op+1 else tgt op) a.op false then prN a false else wL::(prN a true++[wR]))++
   opw op::(if okP (if op=14 then tgt op else tgt op+1) b.op last then prN b last else wL::(prN b true++[wR]))
def opN (least:Int) (x:Nd) (last:Bool):List Str:=if okP least x.op last then prN x last else wL::(prN x true++[wR])
theorem prN_not (a:Nd) (last:Bool):prN (nd 11 [a]) last=wNot::opN 5 a last:=by
 simp only[nd,prN,opN,if_true]
theorem prN_qnt (op:Int) (x:Str) (so:Int) (a:Nd) (last:Bool) (h:op=16∨op=17):prN (qn op x so a) last=opw op::snm so::x::wCol::prN a true:=by
 have: ¬op=11:=by omega
 simp only[qn,prN,this,if_false,List.headD_cons]
theorem prN_bin (op:Int) (a b:Nd) (last:Bool):prN (nd op [a,b]) last=opN (if op=14 then tgt op+1 else tgt op) a false++opw op::opN (if op=14 then tgt op else tgt op+1) b last:=by
 simp only[nd,prN,opN]
theorem comW_len: ∀l:List Str,(comW l).length≤2*l.length
 |[]=>by simp[comW]
 |[x]=>by simp[comW]
 |x::y::l=>by
  have:=comW_len (y::l);simp only[comW,List.length_cons]at this⊢;omega
theorem atm_len (op:Int) (ns:List Str) (nn mm:Int):(atmT op ns nn mm).length≤6+2*ns.length:=by
 have h1:=comW_len ns.tail;rw[List.length_tail]at h1;unfold atmT
 repeat' split
 all_goals simp only[List.length_cons,List.length_append,List.length_nil]
 all_goals omega
theorem prN_len: ∀(n:Nd) (last:Bool),(prN n last).length+2≤8*bk n
 | .mk op ns so nn mm [],last=>by
  have h1:=atm_len op ns nn mm;have h2:=len_bkS ns;simp only[prN,bk,bkL];omega
 | .mk op ns so nn mm [a],last=>by
  have h1:=prN_len a last;have h2:=prN_len a true;simp only[prN,bk,bkL];split
  ·split<;>simp only[List.length_cons,List.length_append,List.length_nil]<;>omega
  ·simp only[List.length_cons,List.length_append,List.length_nil];omega
 | .mk op ns so nn mm (a::b::l),last=>by
  have h1:=prN_len a false;have h2:=prN_len a true;have h3:=prN_len b last;have h4:=prN_len b true;simp only[prN,bk,bkL]
  repeat' split
  all_goals simp only[List.length_cons,List.length_append,List.length_nil]
  all_goals omega
theorem opN_len (least:Int) (n:Nd) (last:Bool):(opN least n last).length≤8*bk n:=by
 have h1:=prN_len n last;have h2:=prN_len n true;unfold opN;split
 ·omega
 ·simp only[List.length_cons,List.length_append,List.length_nil];omega
def Pw (O:List Obj) (R:List Arr) (p:Nat) (ws:List Str):Prop:= ∃sp,O[p]? =some (.cells [.slc sp (ws.map .str)])∧(sp=.full∧ws=[]∨ ∃a,sp=.own a∧R[a]? =some (.app ws.length 9 1))
theorem Pw.app {O:List Obj} {R:List Arr} {p:Nat} {ws:List Str} (h:Pw O R p ws) (X:List Obj) (Y:List Arr):Pw (O++X) (R++Y) p ws:=by
 obtain⟨sp,h1,h2⟩:=h;refine⟨sp,get_old h1 X,?_⟩;rcases h2 with h2|⟨a,h2,h3⟩
 ·exact .inl h2
 ·exact .inr ⟨a,h2,get_old h3 Y⟩
theorem Pw.appO {O:List Obj} {R:List Arr} {p:Nat} {ws:List Str} (h:Pw O R p ws) (X:List Obj):Pw (O++X) R p ws:=by simpa using h.app X []
def PR (r:Option (AV×Mem)) (p:Nat) (O:List Obj) (ws:List Str):Prop:= ∃O' R',r=some (.tup [],⟨O',R'⟩)∧Fro p O O'∧Pw O' R' p ws
theorem szOk_strL (l:List Str):szOk 1 (l.map AV.str)=true:=by cases l<;>rfl
section
variable {t:Nat} {cl:Caller} {yl:Nat→List AV→Mem→Option (AV×Mem)} {N:Nat}
variable {O:List Obj} {R:List Arr} {p:Nat} {ws:List Str}
theorem ev141 {G:Nat→Option AV} (h:Pw O R p ws) (sp:Sp) (es:List Str) (hb:ws.length+es.length<8589934592):PR (callA G false cl yl N c141 [.ptr p 0,.slc sp (es.map .str)] ⟨O,R⟩) p O (ws++es):=by
 obtain⟨s1,h1,h2⟩:=h;have hp:p<O.length:=(List.getElem?_eq_some_iff.1 h1).1;cases es with
 |nil=>
  refine⟨O.set p (.cells [.slc s1 (ws.map .str)]),R,?_,.set _ _ _,?_⟩
  ·simp -implicitDefEqProofs [c141,h1,resV]
  ·rw[List.append_nil];exact⟨s1,List.getElem?_set_self hp,h2⟩
 |cons x es=>
  simp only[List.length_cons]at hb;have b1:(ws.length+(es.length+1))*16≤140737488355328:=by omega
  have b2:ws.length+(es.length+1)≤140737488355328:=by omega
  have z1:=szOk_strL ws;have z2:=szOk_strL (x::es);simp only[List.map_cons]at z2;have hl:(ws.map AV.str++ .str x::es.map .str)=(ws++x::es).map .str:=by simp
  rcases h2 with⟨rfl,-⟩|⟨a,rfl,h3⟩
  ·refine⟨O.set p (.cells [.slc (.own R.length) (ws.map .str++ .str x::es.map .str)]),R++[.app (ws.length+(es.length+1)) 9 1],?_,.set _ _ _,.own R.length,by rw[List.getElem?_set_self hp,hl],.inr ⟨_,rfl,by simp⟩⟩;simp -implicitDefEqProofs [c141,h1,z1,z2,b1,b2,resV]
  ·have hla:a<R.length:=(List.getElem?_eq_some_iff.1 h3).1;refine⟨O.set p (.cells [.slc (.own a) (ws.map .str++ .str x::es.map .str)]),R.set a (.app (ws.length+(es.length+1)) 9 1),?_,.set _ _ _,.own a,by rw[List.getElem?_set_self hp,hl],.inr ⟨a,rfl,by simp[hla]⟩⟩;simp -implicitDefEqProofs [c141,h1,h3,z1,z2,b1,b2,resV]
theorem G1_at (op:Int) (h:0≤op∧op<18): ∃cs,GG t 1=some (.agg cs)∧cs.length=18∧cs[op.toNat]? =some (.str (opw op)):=by
 refine⟨_,rfl,rfl,?_⟩;rcases op_cases h.1 h.2 with rfl|rfl|rfl|rfl|rfl|rfl|rfl|rfl|rfl|rfl|rfl|rfl|rfl|rfl|rfl|rfl|rfl|rfl<;>rfl
theorem ev142 (n:Nd) (h:0≤n.op∧n.op<18):pureA (GG t) false cl yl N c142 [av n]=some (.int .i64 (tgt n.op),none):=by
 have hG:GG t 2=some (.agg (([0,0,0,0,0,0,0,0,0,0,0,5,4,3,2,1,5,5]:List Int).map fun i=>.int .i64 i)):=rfl;have hx:=op_cases h.1 h.2;generalize ho:n.op=op at*;rcases hx with rfl|rfl|rfl|rfl|rfl|rfl|rfl|rfl|rfl|rfl|rfl|rfl|rfl|rfl|rfl|rfl|rfl|rfl<;>simp -implicitDefEqProofs [c142,hG,ho,tgt]
theorem ev146 {G:Nat→Option AV} (n:Nd):pureA G false cl yl N c146 [av n]=some (.bool (n.op==16||n.op==17),none):=by
 by_cases h1:n.op=16
 ·simp -implicitDefEqProofs [c146,h1]
 ·have h1':(n.op==16)=false:=by simp[h1]
  simp -implicitDefEqProofs [c146,h1,h1']
theorem ev147 (n:Nd) (x:Str) (h:n.op=16∨n.op=17) (hns:n.ns=[x]) (h47: ∀M,cl 47 [.int .i64 n.so] M=some (.str (snm n.so),M)):
  pureA (GG t) false cl yl N c147 [av n]=some (.slc .full (([opw n.op,snm n.so,x,wCol]:List Str).map .str),none):=by
 obtain⟨cs,g1,g2,g3⟩:=G1_at (t:=t) n.op (by omega);rcases h with h|h
 ·rw[h]at g3⊢;have g4:=(List.getElem?_eq_some_iff.1 g3).2;simp -implicitDefEqProofs at g4;simp -implicitDefEqProofs [c147,g1,g2,g4,h47,wCol,h,hns]
 ·rw[h]at g3⊢;have g4:=(List.getElem?_eq_some_iff.1 g3).2;simp -implicitDefEqProofs at g4;simp -implicitDefEqProofs [c147,g1,g2,g4,h47,wCol,h,hns]
end
theorem comW_snoc: ∀(l:List Str) (x:Str),comW (l++[x])=if l=[]then [x]else comW l++[wCom,x]
 |[],x=>rfl
 |[y],x=>rfl
 |y::z::l,x=>by
  have:=comW_snoc (z::l) x;simp only[List.cons_append,comW,if_neg (List.cons_ne_nil _ _)]at this⊢;rw[this]
def atR (n:Nd):AV×Option Arr:=if n.op=10 then(.slc .shared ((atmT n.op n.ns n.nn n.mm).map .str),some (.app (atmT n.op n.ns n.nn n.mm).length 9 1))else(.slc .full ((atmT n.op n.ns n.nn n.mm).map .str),none)
section
variable {t:Nat} {cl:Caller} {yl:Nat→List AV→Mem→Option (AV×Mem)} {N:Nat}
theorem loop145 {G:Nat→Option AV} (f:Str) (xs:List Str) (O:List Obj) (hb:xs.length<big) (hN:xs.length<N):
  ∃e s',iter false (evalC G false cl yl N c145b0) ⟨[4,57,58,59],[(4,none),(59,none)],true⟩ 1 0 N ⟨[(4,.slc .full [.str f,.str [40]]),(57,.slc .shared (xs.map .str)),(58,.int .i64 xs.length),(59,.int .i64 ((0:Nat):Int))],⟨O,[]⟩,[]⟩=some (e,s')∧e≠ .normal∧
   (e=.exit 1∧s'.mks=[]∧ ∃s1 R',s'.m=⟨O,R'⟩∧look 4 s'.ts=.slc s1 ((f::[40]::comW xs).map .str)∧ApN (f::[40]::comW xs).length [] s1 R'):=by
 unfold big at hb;refine(iter_inv (mu:=false) (step:=evalC G false cl yl N c145b0) (an:=⟨[4,57,58,59],[(4,none),(59,none)],true⟩) (k:=1) (m:=0) (N:=N) xs (fun _=>(none:Option Unit))
  (fun i st=> ∃s1 R',st=⟨[(4,.slc s1 ((f::[40]::comW (xs.take i)).map .str)),(57,.slc .shared (xs.map .str)),(58,.int .i64 xs.length),(59,.int .i64 (i:Nat))],⟨O,R'⟩,[]⟩∧ApN (f::[40]::comW (xs.take i)).length [] s1 R')
  (fun r e s'=>e=.exit 1∧s'.mks=[]∧ ∃s1 R',s'.m=⟨O,R'⟩∧look 4 s'.ts=.slc s1 ((f::[40]::comW xs).map .str)∧ApN (f::[40]::comW xs).length [] s1 R') hN ⟨.full,[],rfl,.inl ⟨rfl,rfl⟩⟩ ?_ ?_)
 ·rintro i x st hx hi ⟨s1,R',rfl,hA⟩;have hx':=(List.getElem?_eq_some_iff.1 hx).2;have w1:=wrap_succ (i:=i) (by omega);have hcl:=comW_len (xs.take i);have hlt:(xs.take i).length≤i:=by simp;omega
  rw[take_succ_of hx,comW_snoc];have hne:xs.take i=[]↔i=0:=by
   constructor
   ·intro h;have:=congrArg List.length h;simp at this;rcases this with h|h
    ·exact h
    ·subst h;simp at hi
   ·rintro rfl;rfl
  by_cases h0:i=0
  ·rw[if_pos (hne.2 h0)];have hp:=app_ok hA ((f::[40]::comW (xs.take i)).map .str) (by simp) (szOk_strL _) x O (by simp only[List.length_cons];omega);rw[hne.2 h0]at hp⊢;have h0': ¬(0:Int)<(i:Int):=by omega
   have h0n: ¬0<i:=by omega
   simp only[comW,List.map_cons,List.map_nil,List.length_cons,List.length_nil,List.nil_append]at hp;simp -implicitDefEqProofs [-appS,c145b0,hi,hx',w1,h0',h0n,hp,comW];exact⟨_,_,⟨rfl,rfl⟩,.inr ⟨rfl,rfl⟩⟩
  ·rw[if_neg (fun h=>h0 (hne.1 h))];have hp:=app_ok hA ((f::[40]::comW (xs.take i)).map .str) (by simp) (szOk_strL _) [44] O (by simp only[List.length_cons];omega);have hA2:ApN ((f::[40]::comW (xs.take i)).length+1) [] (.own ([]:List Arr).length) ([]++[.app ((f::[40]::comW (xs.take i)).length+1) 9 1]):=.inr ⟨rfl,rfl⟩;have hp2:=app_ok hA2 ((f::[40]::comW (xs.take i)).map .str++[.str [44]]) (by simp) (by simp) x O (by simp only[List.length_cons];omega);have h0':(0:Int)<(i:Int):=by omega
   have hi0:0<i:=by omega
   generalize comW (xs.take i)=cs at*;simp only[List.map_cons,List.length_cons,List.cons_append,List.length_nil,List.nil_append]at hp hp2;simp -implicitDefEqProofs [-appS,c145b0,hi,hx',w1,h0',hi0,hp,hp2,wCom];exact⟨_,_,⟨rfl,rfl⟩,.inr ⟨rfl,rfl⟩⟩
 ·rintro st ⟨s1,R',rfl,hA⟩;rw[List.take_length]at hA⊢;simp -implicitDefEqProofs [c145b0];exact hA
theorem ev145 (n:Nd) (h:ndE n=0) (hl:n.op≤10) (hb:bk n≤big) (hN:bk n<N) (h179: ∀i:Nat,i<big→ ∀M,cl 179 [.int .i64 (i:Nat)] M=some (.str (Lib.decDigits i),M)):
  pureA (GG t) false cl yl N c145 [av n]=some (atR n):=by
 have hv:=vk_of h;clear h;unfold atR atmT;cases hv with
 |cst op h=>rcases h with rfl|rfl<;>simp -implicitDefEqProofs [c145,nd,av,ndc,Nd.op,Nd.ns,Nd.nn,Nd.mm,wTrue,wFalse]
 |two op x y h hx hy=>
  obtain⟨cs,g1,g2,g3⟩:=G1_at (t:=t) op (by omega);have g4:=(List.getElem?_eq_some_iff.1 g3).2;have e0: ¬op=0:=by omega
  have e1: ¬op=1:=by omega
  have e7: ¬op=7:=by omega
  have e8: ¬op=8:=by omega
  have e9: ¬op=9:=by omega
  have e10: ¬op=10:=by omega
  have f0:(op==0)=false:=by simp[e0]
  have f1:(op==1)=false:=by simp[e1]
  have f7:(op==7)=false:=by simp[e7]
  have f8:(op==8)=false:=by simp[e8]
  have f9:(op==9)=false:=by simp[e9]
  have f10:(op==10)=false:=by simp[e10]
  have h0:0≤op:=by omega
  have h18:op<18:=by omega
  have h18':op.toNat<18:=by omega
  simp -implicitDefEqProofs [c145,av,ndc,Nd.op,Nd.ns,Nd.nn,Nd.mm,e0,e1,e7,e8,e9,e10,f0,f1,f7,f8,f9,f10,g1,g2,g4,h0,h18,h18']
 |lab x k hx h=>
  have hk:((k.toNat:Nat):Int)=k:=Int.toNat_of_nonneg h.1;have k1:=h179 k.toNat (by unfold big;omega);rw[hk]at k1;simp -implicitDefEqProofs [c145,av,ndc,Nd.op,Nd.ns,Nd.nn,Nd.mm,k1,numW,wIs]
 |smd x k m hx h=>
  have hk:((k.toNat:Nat):Int)=k:=Int.toNat_of_nonneg h.2.2.1;have hm:((m.toNat:Nat):Int)=m:=Int.toNat_of_nonneg (by omega);have k1:=h179 k.toNat (by unfold big;omega);have k2:=h179 m.toNat (by unfold big;omega);rw[hk]at k1;rw[hm]at k2;simp -implicitDefEqProofs [c145,av,ndc,Nd.op,Nd.ns,Nd.nn,Nd.mm,k1,k2,numW,wIs,wSize,wMod]
 |sng x hx=>simp -implicitDefEqProofs [c145,av,ndc,Nd.op,Nd.ns,Nd.nn,Nd.mm,wOne]
 |cal x xs h hx=>
  have hz:=szOk_strL (x::xs);simp only[List.map_cons]at hz;have h2:=len_bkS (x::xs);have hbk:bk (.mk 10 (x::xs) 0 0 0 [])=bkS (x::xs)+1:=by simp[bk,bkL]
  simp only[List.length_cons]at h2;obtain⟨e,⟨ts,M,mks⟩,k1,-,rfl,rfl,s1,R',rfl,k2,hA⟩:=loop145 (G:=GG t) (cl:=cl) (yl:=yl) (N:=N) x xs [.cells (ndc (.mk 10 (x::xs) 0 0 0 []))] (by omega) (by omega);have hcl:=comW_len xs;have hp:=app_ok hA ((x::[40]::comW xs).map .str) (by simp) (szOk_strL _) [41] [.cells (ndc (.mk 10 (x::xs) 0 0 0 []))] (by unfold big at hb;simp only[List.length_cons];omega);simp only[List.map_cons,List.length_cons,List.cons_append,List.length_nil,List.nil_append]at hp k2;have htk:List.take xs.length (xs.map AV.str)=xs.map AV.str:=List.take_of_length_le (by simp);unfold ndc at k1 hp;simp only[List.map_cons]at hp;simp -implicitDefEqProofs at k1;simp -implicitDefEqProofs [-appS,c145,av,ndc,Nd.op,Nd.ns,Nd.nn,Nd.mm,hz,htk,k1,k2,hp,wL,wR]
 |not a ha=>exact absurd hl (by simp[nd,Nd.op])
 |bin op a b h ha hb=>exact absurd hl (by have:(nd op [a,b]).op=op:=rfl;omega)
 |qnt op x so a h hx hs ha=>exact absurd hl (by have:(qn op x so a).op=op:=rfl;omega)
end
abbrev lim:Nat:=8589934592
abbrev H141 (cl:Caller) (p:Nat):Prop:= ∀O R ws sp (es:List Str),Pw O R p ws→ws.length+es.length<lim→PR (cl 141 [.ptr p 0,.slc sp (es.map .str)] ⟨O,R⟩) p O (ws++es)
abbrev H83 (cl:Caller) (p:Nat) (n:Nd):Prop:= ∀O R ws last,Pw O R p ws→ws.length+8*bk n<lim→PR (cl 83 [.ptr p 0,av n,.bool last] ⟨O,R⟩) p O (ws++prN n last)
abbrev H144 (cl:Caller) (p:Nat) (n:Nd):Prop:= ∀O R ws (least:Int) last,Pw O R p ws→ws.length+8*bk n+2<lim→PR (cl 144 [.ptr p 0,av n,.int .i64 least,.bool last] ⟨O,R⟩) p O (ws++opN least n last)
theorem PR.fro {r:Option (AV×Mem)} {p:Nat} {O O1:List Obj} {ws:List Str} (h:PR r p O1 ws) (f:Fro p O O1):PR r p O ws:=by
 obtain⟨O',R',h1,h2,h3⟩:=h;exact⟨O',R',h1,f.trans h2,h3⟩
section
variable {t:Nat} {cl:Caller} {yl:Nat→List AV→Mem→Option (AV×Mem)} {N:Nat}
variable {O:List Obj} {R:List Arr} {p:Nat} {ws:List Str}
theorem ev144 {G:Nat→Option AV} (h:Pw O R p ws) (n:Nd) (least:Int) (last:Bool) (hb:ws.length+8*bk n+2<lim) (h141:H141 cl p) (h83:H83 cl p n)
  (h142: ∀M,cl 142 [av n] M=some (.int .i64 (tgt n.op),M)) (h146: ∀M,cl 146 [av n] M=some (.bool (n.op==16||n.op==17),M)):
  PR (callA G false cl yl N c144 [.ptr p 0,av n,.int .i64 least,.bool last] ⟨O,R⟩) p O (ws++opN least n last):=by
 have hp:p<O.length:=by obtain⟨_,h1,_⟩:=h;exact(List.getElem?_eq_some_iff.1 h1).1
 have hpos:=bk_pos n;have f0:Fro p O (O++[.cells (ndc n)]):=.app _ _ _;have hP:=h.appO [.cells (ndc n)];have hbox:(O++[Obj.cells (ndc n)])[O.length]? =some (.cells (ndc n)):=by simp
 by_cases hok:okP least n.op last=true
 ·have hopN:opN least n last=prN n last:=by unfold opN;rw[if_pos hok]
  rw[hopN];obtain⟨O1,R1,k1,f1,p1⟩:=h83 (O++[.cells (ndc n)]) R ws last hP (by omega);refine⟨O1,R1,?_,f0.trans f1,p1⟩;unfold okP at hok;simp only[Bool.and_eq_true,decide_eq_true_eq]at hok;obtain⟨o1,o2⟩:=hok;have o1':tgt n.op≥least:=o1;cases last with
  |true=>simp -implicitDefEqProofs [c144,h142,o1,o1',k1,resV]
  |false=>
   simp only[Bool.false_or,Bool.not_eq_true']at o2;rw[o2]at h146;simp -implicitDefEqProofs [c144,h142,h146,o1,o1',k1,resV]
 ·have hopN:opN least n last=wL::(prN n true++[wR]):=by unfold opN;rw[if_neg hok]
  have hl:=prN_len n true;obtain⟨O1,R1,k1,f1,p1⟩:=h141 (O++[.cells (ndc n)]) R ws .full [wL] hP (by simp only[List.length_cons,List.length_nil];omega);have b1:=f1.old hbox (by omega);obtain⟨O2,R2,k2,f2,p2⟩:=h83 O1 R1 (ws++[wL]) true p1 (by simp only[List.length_append,List.length_cons,List.length_nil];omega);obtain⟨O3,R3,k3,f3,p3⟩:=h141 O2 R2 (ws++[wL]++prN n true) .full [wR] p2 (by simp only[List.length_append,List.length_cons,List.length_nil];omega);refine⟨O3,R3,?_,((f0.trans f1).trans f2).trans f3,by rw[hopN];simpa using p3⟩;have hw1:wL=[40]:=rfl;have hw2:wR=[41]:=rfl;rw[hw1]at k1;rw[hw2]at k3;simp only[List.map_cons,List.map_nil]at k1 k3;unfold okP at hok;by_cases o1:least≤tgt n.op
  ·have o1':tgt n.op≥least:=o1;simp only[o1,decide_true,Bool.true_and,Bool.or_eq_true,not_or,Bool.not_eq_true]at hok;obtain⟨rfl,o2⟩:=hok;have o3:(n.op==16||n.op==17)=true:=by cases hh:(n.op==16||n.op==17)with
    |true=>rfl
    |false=>rw[hh]at o2;simp at o2
   rw[o3]at h146;simp -implicitDefEqProofs [c144,h142,h146,o1,o1',k1,b1,k2,k3,resV]
  ·have o1': ¬tgt n.op≥least:=o1;simp -implicitDefEqProofs [c144,h142,h146,o1,o1',k1,b1,k2,k3,resV]
theorem ev143 {b3 b4 b5:Nat} (h:Pw O R p ws) (n a b:Nd) (r:List Nd) (hl:n.l=a::b::r) (ho:0≤n.op∧n.op<18) (f s:Int) (last:Bool) (hb:ws.length+8*bk n<lim) (h141:H141 cl p) (ha:H144 cl p a) (hbb:H144 cl p b)
  (g3:O[b3]? =some (.cells [.ptr p 0])) (g4:O[b4]? =some (.cells (ndc n))) (g5:O[b5]? =some (.cells [.bool last])) (n3:b3≠p) (n4:b4≠p) (n5:b5≠p):
  PR (callA (GG t) false cl yl N c143 [.int .i64 f,.int .i64 s,.ptr b3 0,.ptr b4 0,.ptr b5 0] ⟨O,R⟩) p O (ws++(opN f a false++opw n.op::opN s b last)):=by
 obtain⟨cs,e1,e2,e3⟩:=G1_at (t:=t) n.op ho;have e4:=(List.getElem?_eq_some_iff.1 e3).2;have hbk:=bk_eq n;rw[hl]at hbk;simp only[bkL]at hbk;have la:=opN_len f a false;have hz:avL n.l=av a::av b::avL r:=by rw[hl];rfl
 have hzs:szOk 6 (avL n.l)=true:=by simp
 obtain⟨O1,R1,k1,f1,p1⟩:=ha O R ws f false h (by omega);have g31:=f1.old g3 n3;have g41:=f1.old g4 n4;have g51:=f1.old g5 n5;obtain⟨O2,R2,k2,f2,p2⟩:=h141 O1 R1 (ws++opN f a false) .full [opw n.op] p1 (by simp only[List.length_append,List.length_cons,List.length_nil];omega);have g32:=f2.old g31 n3;have g42:=f2.old g41 n4;have g52:=f2.old g51 n5;obtain⟨O3,R3,k3,f3,p3⟩:=hbb O2 R2 (ws++opN f a false++[opw n.op]) s last p2 (by simp only[List.length_append,List.length_cons,List.length_nil];omega);refine⟨O3,R3,?_,(f1.trans f2).trans f3,by simpa using p3⟩;simp only[List.map_cons,List.map_nil]at k2;clear p1 p2 p3 f1 f2 f3 ha hbb h141 h la hb hbk;simp -implicitDefEqProofs [c143,g3,g4,g5,hz,hl,k1,g31,g41,g51,e1,e2,e4,ho,k2,g32,g42,g52,k3,resV]
end
theorem prk {n:Nd} (h:ndE n=0):(n.op≤10∧n.l=[]∧tgt n.op=6∧ ∀last,prN n last=atmT n.op n.ns n.nn n.mm)∨
  (n.op=11∧ ∃a,n.l=[a]∧ ∀last,prN n last=wNot::opN 5 a last)∨
  ((12≤n.op∧n.op≤15)∧ ∃a b,n.l=[a,b]∧ ∀last,prN n last=opN (if n.op=14 then tgt n.op+1 else tgt n.op) a false++opw n.op::opN (if n.op=14 then tgt n.op else tgt n.op+1) b last)∨
  ((n.op=16∨n.op=17)∧ ∃a x,n.l=[a]∧n.ns=[x]∧ ∀last,prN n last=opw n.op::snm n.so::x::wCol::prN a true):=by
 have hk:=vk_of h;clear h;cases hk with
 |cst op h=>exact .inl ⟨by rcases h with rfl|rfl<;>decide,rfl,by rcases h with rfl|rfl<;>decide,fun _=>rfl⟩
 |two op x y h hx hy=>exact .inl ⟨by show op≤10;omega,rfl,by show tgt op=6;unfold tgt;repeat' split;all_goals omega,fun _=>rfl⟩
 |lab x k hx h=>exact .inl ⟨by show(7:Int)≤10;decide,rfl,rfl,fun _=>rfl⟩
 |smd x k m hx h=>exact .inl ⟨by show(8:Int)≤10;decide,rfl,rfl,fun _=>rfl⟩
 |sng x hx=>exact .inl ⟨by show(9:Int)≤10;decide,rfl,rfl,fun _=>rfl⟩
 |cal x xs h hx=>exact .inl ⟨by show(10:Int)≤10;decide,rfl,rfl,fun _=>rfl⟩
 |not a ha=>exact .inr (.inl ⟨rfl,a,rfl,prN_not a⟩)
 |bin op a b h ha hb=>exact .inr (.inr (.inl ⟨h,a,b,rfl,prN_bin op a b⟩))
 |qnt op x so a h hx hs ha=>exact .inr (.inr (.inr ⟨h,a,x,rfl,rfl,fun last=>prN_qnt op x so a last h⟩))
section
variable {t:Nat} {cl:Caller} {yl:Nat→List AV→Mem→Option (AV×Mem)} {N:Nat}
variable {O:List Obj} {R:List Arr} {p:Nat} {ws:List Str}
structure Cs83 (cl:Caller) (p:Nat) (n:Nd):Prop where
 h141:H141 cl p
 h142: ∀M,cl 142 [av n] M=some (.int .i64 (tgt n.op),M)
 h146: ∀M,cl 146 [av n] M=some (.bool (n.op==16||n.op==17),M)
 h145:n.op≤10→ ∀O R,∃s1 Y,cl 145 [av n] ⟨O,R⟩=some (.slc s1 ((atmT n.op n.ns n.nn n.mm).map .str),⟨O,R++Y⟩)
 h147:(n.op=16∨n.op=17)→ ∀x,n.ns=[x]→ ∀M,cl 147 [av n] M=some (.slc .full (([opw n.op,snm n.so,x,wCol]:List Str).map .str),M)
 k83: ∀x∈n.l,H83 cl p x
 k144: ∀x∈n.l,H144 cl p x
 h143: ∀O R b3 b4 b5 ws (a b:Nd) r (f s:Int) (last:Bool),Pw O R p ws→n.l=a::b::r→ws.length+8*bk n<lim→O[b3]? =some (.cells [.ptr p 0])→O[b4]? =some (.cells (ndc n))→O[b5]? =some (.cells [.bool last])→b3≠p→b4≠p→b5≠p→
  PR (cl 143 [.int .i64 f,.int .i64 s,.ptr b3 0,.ptr b4 0,.ptr b5 0] ⟨O,R⟩) p O (ws++(opN f a false++opw n.op::opN s b last))
theorem ev83 (h:Pw O R p ws) (n:Nd) (last:Bool) (hv:ndE n=0) (hb:ws.length+8*bk n<lim) (c:Cs83 cl p n):
  PR (callA (GG t) false cl yl N c83 [.ptr p 0,av n,.bool last] ⟨O,R⟩) p O (ws++prN n last):=by
 obtain⟨h141,h142,h146,h145,h147,k83,k144,h143⟩:=c;have hp:p<O.length:=by obtain⟨_,h1,_⟩:=h;exact(List.getElem?_eq_some_iff.1 h1).1
 have hpl:=prN_len n last;have hbk:=bk_eq n;obtain⟨O0,hO0⟩: ∃O0,O++[Obj.cells [.ptr p 0],.cells (ndc n),.cells [.bool last]]=O0:=⟨_,rfl⟩
 have f0:Fro p O O0:=by rw[←hO0];exact .app _ _ _
 have hP:Pw O0 R p ws:=by rw[←hO0];exact h.appO _
 have g3:O0[O.length]? =some (.cells [.ptr p 0]):=by rw[←hO0];exact get_new O _ 0
 have g4:O0[O.length+1]? =some (.cells (ndc n)):=by rw[←hO0];exact get_new O _ 1
 have g5:O0[O.length+1+1]? =some (.cells [.bool last]):=by rw[←hO0];exact get_new O _ 2
 rcases prk hv with⟨ho,hl,h6,hpr⟩|⟨ho,a,hl,hpr⟩|⟨ho,a,b,hl,hpr⟩|⟨ho,a,x,hl,hns,hpr⟩
 ·rw[hpr]at hpl⊢;obtain⟨s1,Y,k1⟩:=h145 ho O0 R;obtain⟨O1,R1,k2,f1,p1⟩:=h141 O0 (R++Y) ws s1 (atmT n.op n.ns n.nn n.mm) (by simpa using hP.app [] Y) (by omega);refine⟨O1,R1,?_,f0.trans f1,p1⟩;rw[h6]at h142;generalize atmT n.op n.ns n.nn n.mm=ts at*;clear f1 f0 p1 hP h143 k83 k144 h h141 h147 h146 h145;simp -implicitDefEqProofs [c83,hO0,h142,g3,g4,k1,k2,resV]
 ·rw[hpr]at hpl⊢;rw[hl]at hbk;simp only[bkL]at hbk;obtain⟨cs,e1,e2,e3⟩:=G1_at (t:=t) 11 (by decide);have hw:opw 11=[110,111,116]:=rfl;rw[hw]at e3;have e4:=(List.getElem?_eq_some_iff.1 e3).2;obtain⟨O1,R1,k1,f1,p1⟩:=h141 O0 R ws .full [wNot] hP (by simp only[List.length_cons,List.length_nil];omega);have g31:=f1.old g3 (by omega);have g41:=f1.old g4 (by omega);have g51:=f1.old g5 (by omega);obtain⟨O2,R2,k2,f2,p2⟩:=k144 a (by rw[hl];simp) O1 R1 (ws++[wNot]) 5 last p1 (by simp only[List.length_append,List.length_cons,List.length_nil];omega);refine⟨O2,R2,?_,(f0.trans f1).trans f2,by simpa using p2⟩;have hz:avL n.l=[av a]:=by rw[hl];rfl
  have ht:tgt 11=5:=rfl;rw[ho,ht]at h142;simp only[List.map_cons,List.map_nil,wNot]at k1;simp -implicitDefEqProofs at e4;clear f1 f2 f0 p1 p2 hP h143 k83 k144 h h141 h147 h146 h145 hpl hpr hw;simp -implicitDefEqProofs [c83,hO0,h142,ho,g3,g4,g5,e1,e2,e4,k1,g31,g41,g51,hz,hl,k2,resV]
 ·rw[hpr]at hpl⊢;have hn1: ¬n.op=11:=by omega
  have hn1':(n.op==11)=false:=by simp[hn1]
  have h146':(n.op==16||n.op==17)=false:=by
   have a1: ¬n.op=16:=by omega
   have a2: ¬n.op=17:=by omega
   simp[a1,a2]
  rw[h146']at h146;have ht:tgt n.op=1∨tgt n.op=2∨tgt n.op=3∨tgt n.op=4:=by
   have:n.op=12∨n.op=13∨n.op=14∨n.op=15:=by omega
   rcases this with h|h|h|h<;>rw[h]<;>decide
  have hw1:wrapF .i64 (tgt n.op+1)=tgt n.op+1:=wrap_id (by omega) (by omega);have hn6: ¬tgt n.op=6:=by omega
  have hn6':(tgt n.op==6)=false:=by simp[hn6]
  obtain⟨O1,R1,k1,f1,p1⟩:=h143 O0 R O.length (O.length+1) (O.length+1+1) ws a b [] (if n.op=14 then tgt n.op+1 else tgt n.op) (if n.op=14 then tgt n.op else tgt n.op+1) last hP hl hb g3 g4 g5 (by omega) (by omega) (by omega);refine⟨O1,R1,?_,f0.trans f1,p1⟩;clear f1 f0 p1 hP h143 k83 k144 h h141 h147 h145 hpl hpr;generalize tgt n.op=g at*;by_cases h14:n.op=14
  ·rw[if_pos h14,if_pos h14]at k1;simp -implicitDefEqProofs [c83,hO0,h142,h146,hn1,hn1',hn6,hn6',h14,g3,g4,g5,k1,hw1,resV]
  ·rw[if_neg h14,if_neg h14]at k1;have h14':(n.op==14)=false:=by simp[h14]
   simp -implicitDefEqProofs [c83,hO0,h142,h146,hn1,hn1',hn6,hn6',h14,h14',g3,g4,g5,k1,hw1,resV]
 ·rw[hpr]at hpl⊢;rw[hl]at hbk;simp only[bkL]at hbk;have hn1: ¬n.op=11:=by omega
  have hn1':(n.op==11)=false:=by simp[hn1]
  have h146':(n.op==16||n.op==17)=true:=by rcases ho with h|h<;>rw[h]<;>rfl
  rw[h146']at h146;have ht:tgt n.op=5:=by rcases ho with h|h<;>rw[h]<;>rfl
  rw[ht]at h142;have k1:=h147 ho x hns;obtain⟨O1,R1,k2,f1,p1⟩:=h141 O0 R ws .full [opw n.op,snm n.so,x,wCol] hP (by simp only[List.length_cons,List.length_nil];omega);have g31:=f1.old g3 (by omega);have g41:=f1.old g4 (by omega);have g51:=f1.old g5 (by omega);obtain⟨O2,R2,k3,f2,p2⟩:=k83 a (by rw[hl];simp) O1 R1 (ws++[opw n.op,snm n.so,x,wCol]) true p1 (by simp only[List.length_append,List.length_cons,List.length_nil];omega);refine⟨O2,R2,?_,(f0.trans f1).trans f2,by simpa using p2⟩;have hz:avL n.l=[av a]:=by rw[hl];rfl
  generalize opw n.op=w1 at*;generalize snm n.so=w2 at*;generalize wCol=w3 at*;simp only[List.map_cons,List.map_nil]at k1 k2;clear f1 f2 f0 p1 p2 hP h143 k83 k144 h h141 h147 h145 hpl hpr;simp -implicitDefEqProofs [c83,hO0,h142,h146,hn1,hn1',g3,g4,g5,k1,k2,g31,g41,g51,hz,hl,k3,resV]
end
end Go.Proofs.Ae
namespace Go.Proofs.Ae
open Go Go.RowKit
set_option maxRecDepth 100000
theorem nat1_inj (a b:Nat) (h:[AV.int .i64 (a:Int)]=[AV.int .i64 (b:Int)]):a=b:=by
 simp only[List.cons.injEq,AV.int.injEq,and_true,true_and]at h;omega
section
variable {t:Nat}
noncomputable abbrev sp179:List AV→Ores:=spR (fun i:Nat=>[.int .i64 (i:Int)]) (fun i=>(.str (Lib.decDigits i),none)) (fun i=>i<big)
noncomputable abbrev T3 (t:Nat):List (Nat×(List AV→Ores)):=(147,spR e1 (fun n=>(.slc .full (([opw n.op,snm n.so,n.ns.headD [],wCol]:List Str).map .str),none)) (fun n=>(n.op=16∨n.op=17)∧ ∃x,n.ns=[x]))::
 (145,spR e1 atR (fun n=>ndE n=0∧n.op≤10∧bk n≤big))::(146,sNd (fun n=>.bool (n.op==16||n.op==17)) fun _=>True)::(142,sNd (fun n=>.int .i64 (tgt n.op)) fun n=>0≤n.op∧n.op<18)::(179,sp179)::T2 t
theorem t3ok:OrcOK Tryz.prog (GG t) (orcOf (T3 t)):=by
 refine orc_bw _ _ _ ok147 (fun n h=>⟨1,2,?_⟩) (orc_con _ _ _ ok145 (fun n h=>⟨bk n+1,?_⟩) (orc_con _ _ _ ok146 (fun n _=>⟨1,ev146 n⟩) (orc_con _ _ _ ok142 (fun n h=>⟨1,ev142 n h⟩) (orc_cons t2ok fun ags r hr=>?_))))
 ·obtain⟨ho,x,hx⟩:=h;have:=ev147 (t:=t) (cl:=BW (GG t) (orcOf ((145,spR e1 atR (fun n=>ndE n=0∧n.op≤10∧bk n≤big))::(146,sNd (fun n=>.bool (n.op==16||n.op==17)) fun _=>True)::(142,sNd (fun n=>.int .i64 (tgt n.op)) fun n=>0≤n.op∧n.op<18)::(179,sp179)::T2 t)) 1 2) (yl:=YW (GG t) (orcOf ((145,spR e1 atR (fun n=>ndE n=0∧n.op≤10∧bk n≤big))::(146,sNd (fun n=>.bool (n.op==16||n.op==17)) fun _=>True)::(142,sNd (fun n=>.int .i64 (tgt n.op)) fun n=>0≤n.op∧n.op<18)::(179,sp179)::T2 t)) 1 2) (N:=1) n x ho hx fun M=>bw_pure (k:=1) (cf:=c47) (by unfold orcW;split<;>rfl) rfl rfl rfl rfl (ev47 n.so) M;rw[this,hx];rfl
 ·exact ev145 n h.1 h.2.1 h.2.2 (Nat.lt_succ_self _) fun i hi M=>spC_v nat1_inj i (by repeat first|exact .here|refine .there ?_ rfl) (by exact hi) (by rfl) (by rfl) M
 ·obtain⟨i,rfl,hi,rfl⟩:=spR_inv hr;exact orc179 i hi
variable {N k p:Nat}
noncomputable abbrev B3 (t N k:Nat):Caller:=BW (GG t) (orcOf (T3 t)) N k
noncomputable abbrev Y3 (t N k:Nat):=YW (GG t) (orcOf (T3 t)) N k
theorem w141:H141 (B3 t N (k+1)) p:=fun O R ws sp es h hb=>by
 rw[B3,bw_in (cf:=c141) (by unfold orcW;split<;>rfl) rfl rfl rfl];exact ev141 h sp es hb
theorem w142 {n:Nd} (hv:ndE n=0) (M:Mem):B3 t N (k+1) 142 [av n] M=some (.int .i64 (tgt n.op),M):=by
 have:=vd_iff.1 hv;exact bw_sp (spC_v av1_inj n (by repeat first|exact .here|refine .there ?_ rfl) (by exact⟨this.op0,this.op1⟩) (by exact a1 n) (by rfl) M)
theorem w146 (n:Nd) (M:Mem):B3 t N (k+1) 146 [av n] M=some (.bool (n.op==16||n.op==17),M):=
 bw_sp (spC_v av1_inj n (by repeat first|exact .here|refine .there ?_ rfl) (by exact trivial) (by exact a1 n) (by rfl) M)
theorem w145 {n:Nd} (hv:ndE n=0) (hb:bk n≤big) (ho:n.op≤10) (O:List Obj) (R:List Arr): ∃s1 Y,B3 t N (k+1) 145 [av n] ⟨O,R⟩=some (.slc s1 ((atmT n.op n.ns n.nn n.mm).map .str),⟨O,R++Y⟩):=by
 have h:=spC_at (l:=T3 t) (f:=145) (enc:=e1) (F:=atR) (ok:=fun n=>ndE n=0∧n.op≤10∧bk n≤big) av1_inj n (by repeat first|exact .here|refine .there ?_ rfl) ⟨hv,ho,hb⟩ (a1 n) (M:=⟨O,R⟩);unfold atR at h;by_cases h10:n.op=10
 ·rw[if_pos h10]at h;exact⟨.own R.length,[.app (atmT n.op n.ns n.nn n.mm).length 9 1],bw_sp (by rw[h];rfl)⟩
 ·rw[if_neg h10]at h;exact⟨.full,[],bw_sp (by rw[h,List.append_nil];rfl)⟩
theorem w83: ∀(sn:Nat) (n:Nd),sz n≤sn→ndE n=0→bk n≤big→ ∀k,3*dp n≤k→H83 (B3 t N (k+2)) p n:=by
 intro sn
 induction sn with
 |zero=>intro n h;have:=sz_eq n;omega
 |succ sn ih=>
  intro n hsn hv hb k hk O R ws last hP hlim;have hd1:1≤dp n:=by have:=dp_eq n;omega
  obtain⟨k,rfl⟩: ∃j,k=j+3:=⟨k - 3,by omega⟩
  have ih': ∀x∈n.l,∀j,k≤j→H83 (B3 t N (j+2)) p x:=fun x hx j hj=>by
   have:=dp_child hx;have:=bk_child hx;have:=sz_child hx;exact ih x (by omega) (ndE_kid hv hx) (by omega) j (by omega)
  have i144: ∀x∈n.l,∀j,k≤j→H144 (B3 t N (j+3)) p x:=fun x hx j hj O R ws least last hP hl=>by
   rw[B3,bw_in (cf:=c144) (by unfold orcW;split<;>rfl) rfl rfl rfl];exact ev144 hP x least last hl (w141 (k:=j+1)) (ih' x hx j hj) (w142 (k:=j+1) (ndE_kid hv hx)) (w146 (k:=j+1) x)
  rw[B3,bw_in (cf:=c83) (by unfold orcW;split<;>rfl) rfl rfl rfl];refine ev83 hP n last hv hlim ⟨w141 (k:=k+3),w142 (k:=k+3) hv,w146 (k:=k+3) n,fun ho O R=>w145 (k:=k+3) hv hb ho O R,fun ho x hx M=>?_,fun x hx=>ih' x hx (k+2) (by omega),fun x hx=>i144 x hx (k+1) (by omega),?_⟩
  ·refine bw_sp (k:=k+3) (spC_v av1_inj n (by repeat first|exact .here|refine .there ?_ rfl) (by exact⟨ho,x,hx⟩) (by exact a1 n) ?_ M);simp only[hx,List.headD_cons]
  ·intro O R b3 b4 b5 ws a b r f s last hP hl hlm g3 g4 g5 n3 n4 n5;rw[bw_in (cf:=c143) (by unfold orcW;split<;>rfl) rfl rfl rfl];have:=vd_iff.1 hv;exact ev143 hP n a b r hl ⟨this.op0,this.op1⟩ f s last hlm (w141 (k:=k+2)) (i144 a (by rw[hl];simp) k (Nat.le_refl _)) (i144 b (by rw[hl];simp) k (Nat.le_refl _)) g3 g4 g5 n3 n4 n5
end
def prT (n:Nd):Str:=Lib.join (prN n true) [32]
def nodR (n:Nd):Str×Int:=if chk n=0 then(if 65536<(prT n).length then([],2)else(prT n,0))else([],chk n)
theorem prN_ne: ∀(n:Nd) (last:Bool),prN n last≠[]
 | .mk op ns so nn mm [],last=>by
  simp only[prN,atmT]
  repeat' split
  all_goals simp
 | .mk op ns so nn mm [a],last=>by
  simp only[prN];split<;>simp
 | .mk op ns so nn mm (a::b::l),last=>by
  simp only[prN];simp
section
variable {t:Nat} {cl:Caller} {yl:Nat→List AV→Mem→Option (AV×Mem)} {N:Nat}
theorem ev84 {G:Nat→Option AV} {O:List Obj} {R:List Arr} {p:Nat} {ws:List Str} (h:Pw O R p ws) (hne:ws≠[]) (h49: ∀a M,cl 49 [.slc (.own a) (ws.map .str),.str [32]] M=some (.str (Lib.join ws [32]),M)):
  callA G false cl yl N c84 [.ptr p 0] ⟨O,R⟩=some (.tup [.str (if 65536<(Lib.join ws [32]).length then []else Lib.join ws [32]),.int .i64 (if 65536<(Lib.join ws [32]).length then 2 else 0)],⟨O,R⟩):=by
 obtain⟨sp,h1,h2⟩:=h;rcases h2 with⟨-,h2⟩|⟨a,rfl,h3⟩
 ·exact absurd h2 hne
 ·have k:=h49 a;generalize Lib.join ws [32]=tx at*;by_cases hl:65536<tx.length
  ·have hl':(65536:Int)<(tx.length:Int):=by omega
   simp -implicitDefEqProofs [c84,h1,k,hl,hl']
  ·have hl': ¬(65536:Int)<(tx.length:Int):=by omega
   simp -implicitDefEqProofs [c84,h1,k,hl,hl']
theorem ev46 (n:Nd) (h38: ∀M,cl 38 [av n] M=some (.int .i64 (chk n),M)) (h83:chk n=0→PR (cl 83 [.ptr 1 0,av n,.bool true] ⟨[.cells (ndc n),.cells [.slc .full []]],[]⟩) 1 [.cells (ndc n),.cells [.slc .full []]] (prN n true))
  (h84:chk n=0→ ∀O R,Pw O R 1 (prN n true)→cl 84 [.ptr 1 0] ⟨O,R⟩=some (.tup [.str (nodR n).1,.int .i64 (nodR n).2],⟨O,R⟩)):
  pureA (GG t) false cl yl N c46 [av n]=some (.tup [.str (nodR n).1,.int .i64 (nodR n).2],none):=by
 by_cases hc:chk n=0
 ·obtain⟨O1,R1,k1,f1,p1⟩:=h83 hc;have k2:=h84 hc O1 R1 p1;have b1:=f1.old (i:=0) rfl (by decide);generalize nodR n=r at*;rw[hc]at h38;simp -implicitDefEqProofs [c46,h38,k1,b1,k2]
 ·have hc':(chk n !=0)=true:=by simp[hc]
  have e1:nodR n=([],chk n):=by unfold nodR;rw[if_neg hc]
  rw[e1];simp -implicitDefEqProofs [c46,h38,hc,hc']
end
section
variable {t:Nat}
theorem sum_join_le: ∀(l:List Str) (b:Nat),(∀x∈l,x.length≤b)→(Lib.join l [32]).length≤(b+1)*l.length:=by
 intro l b h;have h1:=join_len l;have:(l.map List.length).sum≤b*l.length:=by
  clear h1
  induction l with
  |nil=>simp
  |cons x l ih=>
   have:=ih fun y hy=>h y (List.mem_cons_of_mem _ hy);have:=h x (List.mem_cons_self ..);simp only[List.map_cons,List.sum_cons,List.length_cons,Nat.mul_add,Nat.mul_one];omega
 have e:(b+1)*l.length=b*l.length+l.length:=Nat.succ_mul _ _;omega
end
def wdF:List Str:=[wTrue,wFalse,wIs,wSize,wMod,wOne,wL,wR,wCom,wCol,wNot,wAnd,wOr,wImp,wIff,wSome,wEvery,[61],[105,110],[115,117,98],[97,100,106],[111,110],snm 0,snm 1,snm 2,snm 3]
def wdL:List Str:=[wTrue,wFalse,wIs,wSize,wMod,wOne,wL,wR,wCom,wCol,wNot,wAnd,wOr,wImp,wIff,wSome,wEvery,[61],[105,110],[115,117,98],[97,100,106],[111,110],snm 0,snm 1,snm 2,snm 3,wLet,wSem]
def Wd (w:Str):Prop:=isId w=true∨(∃k:Nat,k≤64∧w=Lib.decDigits k)∨w∈wdL
theorem dig_len: ∀k:Nat,k≤64→(Lib.decDigits k).length≤2:=by
 have h:(List.range 65).all (fun k=>decide ((Lib.decDigits k).length≤2))=true:=by kernel_rfl
 intro k hk;have:=List.all_eq_true.1 h k (List.mem_range.2 (by omega));simpa using this
theorem Wd.len {w:Str} (h:Wd w):w.length≤16:=by
 rcases h with h|⟨k,hk,rfl⟩|h
 ·exact isId_len h
 ·have:=dig_len k hk;omega
 ·have:wdL.all (fun w=>decide (w.length≤16))=true:=by decide
  have:=List.all_eq_true.1 this w h;simpa using this
theorem wdM {w:Str} (h:w∈wdL):Wd w:=.inr (.inr h)
theorem comW_wd: ∀{l:List Str},(∀x∈l,Wd x)→ ∀w∈comW l,Wd w
 |[],_,w,h=>by simp[comW]at h
 |[x],hl,w,h=>by simp only[comW,List.mem_singleton]at h;exact hl w (by simp[h])
 |x::y::l,hl,w,h=>by
  simp only[comW,List.mem_cons]at h;rcases h with rfl|rfl|h
  ·exact hl _ (by simp)
  ·exact wdM (by decide)
  ·exact comW_wd (l:=y::l) (fun z hz=>hl z (List.mem_cons_of_mem _ hz)) w (by simpa using h)
theorem numW_wd {k:Int} (h:0≤k∧k≤64):Wd (numW k):=.inr (.inl ⟨k.toNat,by omega,rfl⟩)
theorem opw_wd {op:Int} (h:2≤op∧op≤6∨11≤op∧op≤17):Wd (opw op):=by
 have:op=2∨op=3∨op=4∨op=5∨op=6∨op=11∨op=12∨op=13∨op=14∨op=15∨op=16∨op=17:=by omega
 rcases this with rfl|rfl|rfl|rfl|rfl|rfl|rfl|rfl|rfl|rfl|rfl|rfl<;>exact wdM (by decide)
theorem snm_wd {k:Int} (h:0≤k∧k<4):Wd (snm k):=by
 have:k=0∨k=1∨k=2∨k=3:=by omega
 rcases this with rfl|rfl|rfl|rfl<;>exact wdM (by decide)
theorem opw_wf {op:Int} (h:2≤op∧op≤6∨11≤op∧op≤17):opw op∈wdF:=by
 have:op=2∨op=3∨op=4∨op=5∨op=6∨op=11∨op=12∨op=13∨op=14∨op=15∨op=16∨op=17:=by omega
 rcases this with rfl|rfl|rfl|rfl|rfl|rfl|rfl|rfl|rfl|rfl|rfl|rfl<;>decide
theorem snm_wf {k:Int} (h:0≤k∧k<4):snm k∈wdF:=by
 have:k=0∨k=1∨k=2∨k=3:=by omega
 rcases this with rfl|rfl|rfl|rfl<;>decide
theorem comW_q {Q:Str→Prop} (hc:Q wCom): ∀{l:List Str},(∀x∈l,Q x)→ ∀w∈comW l,Q w
 |[],_,w,h=>by simp[comW]at h
 |[x],hl,w,h=>by simp only[comW,List.mem_singleton]at h;exact hl w (by simp[h])
 |x::y::l,hl,w,h=>by
  simp only[comW,List.mem_cons]at h;rcases h with rfl|rfl|h
  ·exact hl _ (by simp)
  ·exact hc
  ·exact comW_q hc (l:=y::l) (fun z hz=>hl z (List.mem_cons_of_mem _ hz)) w (by simpa using h)
theorem prN_q {Q:Str→Prop} (hid: ∀w,isId w=true→Q w) (hnum: ∀k:Int,0≤k∧k≤64→Q (numW k)) (hfix: ∀w∈wdF,Q w): ∀(sn:Nat) (n:Nd),sz n≤sn→ndE n=0→ ∀last,∀w∈prN n last,Q w:=by
 intro sn
 induction sn with
 |zero=>intro n h;have:=sz_eq n;omega
 |succ sn ih=>
  intro n hsn hv last w hw;have ih': ∀x∈n.l,∀last,∀w∈prN x last,Q w:=fun x hx=>ih x (by have:=sz_child hx;omega) (ndE_kid hv hx);have io: ∀x∈n.l,∀(least:Int) last,∀w∈opN least x last,Q w:=by
   intro x hx least last w hw;unfold opN at hw;split at hw
   ·exact ih' x hx _ w hw
   ·simp only[List.mem_cons,List.mem_append,List.not_mem_nil,or_false]at hw;rcases hw with rfl|hw|rfl
    ·exact hfix _ (by decide)
    ·exact ih' x hx _ w hw
    ·exact hfix _ (by decide)
  have hk:=vk_of hv;clear hv;cases hk with
  |cst op h=>
   rcases h with rfl|rfl
   ·have:w∈[wTrue]:=hw;simp only[List.mem_singleton]at this;subst this;exact hfix _ (by decide)
   ·have:w∈[wFalse]:=hw;simp only[List.mem_singleton]at this;subst this;exact hfix _ (by decide)
  |two op x y h hx hy=>
   have e:prN (.mk op [x,y] 0 0 0 []) last=[x,opw op,y]:=by
    simp only[prN,atmT];rw[if_neg (by omega),if_neg (by omega),if_neg (by omega),if_neg (by omega),if_neg (by omega),if_neg (by omega)];rfl
   rw[e]at hw;simp only[List.mem_cons,List.not_mem_nil,or_false]at hw;rcases hw with rfl|rfl|rfl
   ·exact hid _ hx
   ·exact hfix _ (opw_wf (.inl h))
   ·exact hid _ hy
  |lab x k hx h=>
   have:w∈[x,wIs,numW k]:=hw;simp only[List.mem_cons,List.not_mem_nil,or_false]at this;rcases this with rfl|rfl|rfl
   ·exact hid _ hx
   ·exact hfix _ (by decide)
   ·exact hnum _ (by omega)
  |smd x k m hx h=>
   have:w∈[wSize,x,wMod,numW m,wIs,numW k]:=hw;simp only[List.mem_cons,List.not_mem_nil,or_false]at this;rcases this with rfl|rfl|rfl|rfl|rfl|rfl
   ·exact hfix _ (by decide)
   ·exact hid _ hx
   ·exact hfix _ (by decide)
   ·exact hnum _ (by omega)
   ·exact hfix _ (by decide)
   ·exact hnum _ (by omega)
  |sng x hx=>
   have:w∈[wOne,x]:=hw;simp only[List.mem_cons,List.not_mem_nil,or_false]at this;rcases this with rfl|rfl
   ·exact hfix _ (by decide)
   ·exact hid _ hx
  |cal x xs h hx=>
   have:w∈x::wL::(comW xs++[wR]):=hw;simp only[List.mem_cons,List.mem_append,List.not_mem_nil,or_false]at this;simp only[List.all_cons,Bool.and_eq_true,List.all_eq_true]at hx;rcases this with rfl|rfl|h|rfl
   ·exact hid _ hx.1
   ·exact hfix _ (by decide)
   ·exact comW_q (hfix _ (by decide)) (fun y hy=>hid _ (hx.2 y hy)) w h
   ·exact hfix _ (by decide)
  |not a ha=>
   rw[prN_not]at hw;rcases List.mem_cons.1 hw with rfl|hw
   ·exact hfix _ (by decide)
   ·exact io a (by simp[nd,Nd.l]) _ _ w hw
  |bin op a b h ha hb=>
   rw[prN_bin]at hw;simp only[List.mem_append,List.mem_cons]at hw;rcases hw with hw|rfl|hw
   ·exact io a (by simp[nd,Nd.l]) _ _ w hw
   ·exact hfix _ (opw_wf (.inr (by omega)))
   ·exact io b (by simp[nd,Nd.l]) _ _ w hw
  |qnt op x so a h hx hs ha=>
   rw[prN_qnt op x so a last h]at hw;simp only[List.mem_cons]at hw;rcases hw with rfl|rfl|rfl|rfl|hw
   ·exact hfix _ (opw_wf (.inr (by omega)))
   ·exact hfix _ (snm_wf hs)
   ·exact hid _ hx
   ·exact hfix _ (by decide)
   ·exact ih' a (by simp[qn,Nd.l]) _ w hw
theorem wdF_L: ∀w∈wdF,w∈wdL:=by decide
theorem prN_wd (sn:Nat) (n:Nd) (h:sz n≤sn) (hv:ndE n=0) (last:Bool): ∀w∈prN n last,Wd w:=prN_q (Q:=Wd) (fun _ h=>.inl h) (fun _ h=>numW_wd h) (fun w h=>wdM (wdF_L w h)) sn n h hv last
theorem dig_ne:(List.range 65).all (fun k=>decide (Lib.decDigits k≠wSem))=true:=by kernel_rfl
theorem prN_ns {n:Nd} (hv:ndE n=0) (last:Bool): ∀w∈prN n last,w≠wSem:=by
 refine prN_q (Q:=fun w=>w≠wSem) (fun w h e=>?_) (fun k h=>?_) (by decide) (sz n) n (Nat.le_refl _) hv last
 ·rw[e]at h;exact absurd h (by decide)
 ·have:=List.all_eq_true.1 dig_ne k.toNat (List.mem_range.2 (by omega));simpa[numW] using this
theorem bkS_idz: ∀{l:List Str},(∀x∈l,isId x=true)→bkS l≤17*l.length
 |[],_=>by simp[bkS]
 |x::l,h=>by
  have h1:=isId_len (h x (by simp));have h2:=bkS_idz (l:=l) fun y hy=>h y (by simp[hy]);simp[bkS];omega
theorem ns_idz {n:Nd} (h:ndE n=0): ∀x∈n.ns,isId x=true:=by
 have:=(has_parts (vd_iff.1 h).has).2.2.2.1;rw[List.all_eq_true]at this;exact this
mutual
theorem bk_vdz: ∀(n:Nd),ndE n=0→bk n≤290*sz n
 | .mk op ns so nn mm l,h=>by
  have h1:=bkS_idz (ns_idz h);have h2:=ns_le h;have h3:=bkL_vdz l (fun x hx=>ndE_kid h hx);simp only[Nd.ns]at h1 h2;simp only[bk,sz];omega
theorem bkL_vdz: ∀(l:List Nd),(∀x∈l,ndE x=0)→bkL l≤290*szL l
 |[],_=>by simp[bkL]
 |x::xs,h=>by
  have h1:=bk_vdz x (h x (by simp));have h2:=bkL_vdz xs (fun y hy=>h y (by simp[hy]));simp only[bkL,szL];omega
end
theorem chk_bk {n:Nd} (h:chk n=0):ndE n=0∧bk n≤1187840∧dp n≤256:=by
 have h1:=chk_vd h;have h2:=chk_lim h;have h3:=bk_vdz n h1;exact⟨h1,by omega,h2.2⟩
section
variable {t:Nat}
theorem w49 {N k:Nat} (sp:Sp) (hs:sp≠ .full) (l:List Str) (hl: ∀x∈l,x.length≤70000) (hn:l.length≤16777216) (M:Mem):B3 t N (k+1) 49 [.slc sp (l.map .str),.str [32]] M=some (.str (Lib.join l [32]),M):=by
 have h1:=sum_join_le l 70000 hl;have ha:argL [.slc sp (l.map .str),.str [32]]=some (joinE (l,[32])):=by cases sp<;>first|exact absurd rfl hs|rfl
 exact bw_sp (spC_v joinE_inj (l,[32]) (by repeat first|exact .here|refine .there ?_ rfl) (by exact⟨by show(Lib.join l [32]).length≤joinB;unfold joinB;omega,by show l.length≤joinB;unfold joinB;omega⟩) ha (by rfl) M)
theorem ex46 (n:Nd) (hb:bk n≤big): ∃N k,pureA (GG t) false (B3 t N k) (Y3 t N k) N c46 [av n]=some (.tup [.str (nodR n).1,.int .i64 (nodR n).2],none):=by
 refine⟨1,3*dp n+3,ev46 n (fun M=>bw_sp (k:=3*dp n+2) (spC_v av1_inj n (by repeat first|exact .here|refine .there ?_ rfl) (by exact hb) (by exact a1 n) (by rfl) M)) (fun hc=>?_) fun hc O R hP=>?_⟩
 ·obtain⟨h1,h2,h3⟩:=chk_bk hc;have hP:Pw [.cells (ndc n),.cells [.slc .full []]] [] 1 []:=⟨.full,rfl,.inl ⟨rfl,rfl⟩⟩
  have:=w83 (t:=t) (N:=1) (p:=1) (sz n) n (Nat.le_refl _) h1 hb (3*dp n+1) (by omega) _ _ _ true hP (by unfold lim;simp only[List.length_nil];omega);simpa using this
 ·obtain⟨h1,h2,h3⟩:=chk_bk hc;have hl:=prN_len n true;rw[B3,bw_in (cf:=c84) (by unfold orcW;split<;>rfl) rfl rfl rfl];have:=ev84 (G:=GG t) (cl:=B3 t 1 (3*dp n+2)) (yl:=Y3 t 1 (3*dp n+2)) (N:=1) hP (prN_ne n true) fun a M=>w49 (t:=t) (k:=3*dp n+1) (.own a) (by simp) (prN n true) (fun x hx=>by have:=(prN_wd _ n (Nat.le_refl _) h1 true x hx).len;omega) (by omega) M;refine this.trans ?_;unfold nodR;rw[if_pos hc];unfold prT;split<;>rfl
noncomputable abbrev T4 (t:Nat):List (Nat×(List AV→Ores)):=(46,spR e1 (fun n=>(.tup [.str (nodR n).1,.int .i64 (nodR n).2],none)) (fun n=>bk n≤big))::T3 t
theorem t4ok:OrcOK Tryz.prog (GG t) (orcOf (T4 t)):=orc_bw _ _ _ ok46 (fun n hb=>ex46 n hb) t3ok
end
end Go.Proofs.Ae
namespace Go.Proofs.Ae
open Go Go.RowKit
variable [KRel]
variable {P:Program} {U:Nat→Nat} {bs:List (Option Nat)} {ars:List BA} {w:World} {base:Nat} {M:Mem}
def FineB (P:Program) (base:Nat) (U:Nat→Nat) (bs:List (Option Nat)) (ars:List BA) (w:World) (v:AV) (M':Mem) (s:Sem Value):Prop:=
 ∃x w',s.run P w=.ok x w'∧Good base U bs ars w v M' x w'∧ ∀(i b:Nat),bs[i]? =some (some b)→w'.heap[b]? =w.heap[b]?
structure AppSrc (P:Program) (U:Nat→Nat) (w:World) (t u ty e:Nat) (i:TypeInfo) (src:Value) (xs:List AV) (us:List Value):Prop where
 fx:flat xs=some xs
 rep:RepL U w [] [] xs us
 one: ∀e∈xs,∃c,cells e=some c∧c.length=1
 nilR:((xs.length:Nat):Int)≤9223372036854775807→xs.length*i.bytes≤281474976710656→(Builtin.append_ #[t,u] ty #[.slice none 0 0,src]).run P w=
   .ok (.slice (some ⟨w.heap.size,0,none⟩) xs.length (grownCap w xs.length 0 e)) (w.drew.alloc (.cells (us.toArray++Builtin.zeroCells (Value.int .u8 0).cells (grownCap w xs.length 0 e - xs.length)) e))
 grow: ∀(q:Addr) (n cap:Nat) (ws:List Value),ws.length=n*i.size→(∀(j:Nat) (v:Value),ws[j]? =some v→w.cell? (q.add j)=some v)→cap<n+xs.length→((n+xs.length:Nat):Int)≤9223372036854775807→Builtin.nextslicecap (n+xs.length) cap*i.bytes≤281474976710656→
  (Builtin.append_ #[t,u] ty #[.slice (some q) n cap,src]).run P w=
   .ok (.slice (some ⟨w.heap.size,0,none⟩) (n+xs.length) (grownCap w (n+xs.length) cap e)) (w.drew.alloc (.cells (ws.toArray++us.toArray++Builtin.zeroCells (Value.int .u8 0).cells (grownCap w (n+xs.length) cap e - (n+xs.length))) e))
 room: ∀(g n cap:Nat) (cur:Array Value),w.heap[g]? =some (.cells cur e (0,0))→n+xs.length≤cap→n+xs.length≤cur.size→
  (Builtin.append_ #[t,u] ty #[.slice (some ⟨g,0,none⟩) n cap,src]).run P w=.ok (.slice (some ⟨g,0,none⟩) (n+xs.length) cap) (w.setRow g (cur.toList.take n++us++cur.toList.drop (n+xs.length)).toArray)
theorem s_appB {t u ty e:Nat} {i:TypeInfo} {sv v:AV} {vs src:Value} {M':Mem} {xx:AV} {xr:List AV} {us:List Value} (hsz:i.size=1) (hby:i.bytes=1) (hS:AppSrc P U w t u ty e i src (xx::xr) us)
  (hs:Rep U w bs ars sv vs) (hH:HRel base U bs ars w M)
  (h:appS e .sc i.bytes sv (xx::xr) M=some (v,M')):FineB P base U bs ars w v M' (Builtin.append_ #[t,u] ty #[vs,src]):=by
 have hfx:=hS.fx;have hLx:=hS.rep;have hzx:=hS.one;have hlx:us.length=(xx::xr).length*1:=by rw[hLx.length,Nat.mul_one]
 have frD: ∀(o:Go.Obj) (i b:Nat),bs[i]? =some (some b)→(w.drew.alloc o).heap[b]? =w.heap[b]?:=fun o i b hb=>heap_alloc_ne (w:=w.drew) _ (hH.ob i b hb).2.1;have hzs:(Value.int .u8 0).cells.size=1:=rfl;have hl1:Lay.sc.sz=1:=rfl;unfold appS at h;simp only[hl1]at h;split at h
 ·rename_i sp es
  split at h
  ·rename_i hc
   simp only[Bool.and_eq_true,decide_eq_true_eq]at hc;obtain⟨⟨⟨c1,c2⟩,c3⟩,c4⟩:=hc;have h63:((es.length+(xx::xr).length:Nat):Int)≤9223372036854775807:=by omega
   have hmax:es.length+(xx::xr).length≤maxLen:=by simp only[maxLen];omega
   -- the slice's own cells
   have hes: ∃F vs',flat es=some F∧RepL U w [] [] F vs'∧vs'.length=es.length*1∧(∀e∈es,∃c,cells e=some c∧c.length=1)∧
     ((es=[]∧vs=.slice none 0 0)∨ ∃q cap,vs=.slice (some q) es.length cap∧es.length≤cap∧(∀(j:Nat) (u:Value),vs'[j]? =some u→w.cell? (q.add j)=some u)∧RowAt U w q vs'):=by
    cases hs with
    |slcN hsp=>exact⟨[],[],rfl,.nil,by simp,by simp,.inl ⟨rfl,rfl⟩⟩
    |slc hf hL hr hz hsp hcap=>
     by_cases hne:es=[]
     ·subst hne;simp[flat]at hf;subst hf;cases hL;exact⟨[],[],rfl,.nil,by simp,by simp,.inr ⟨_,_,rfl,hcap,by simp,by intro i v hi;simp at hi⟩⟩
     ·have e1:=szOk_eq c2 hz hne;subst e1;exact⟨_,_,hf,hL,by rw[hL.length,flat_len hf hz],hz,.inr ⟨_,_,rfl,hcap,fun j u hu=>(hr j u hu).1,hr⟩⟩
   obtain⟨F,ws,hfe,hLe,hle,hze,hcase⟩:=hes;have hfa:=flat_append hfe hfx;have hza:=uni_append hze hzx
   -- into a new block
   have grow: ∀(cap0:Nat),cap0<es.length+(xx::xr).length→vs=.slice none 0 0∧es=[]∧cap0=0∨(∃q,vs=.slice (some q) es.length cap0∧ ∀(j:Nat) (u:Value),ws[j]? =some u→w.cell? (q.add j)=some u)→
     ∃cap',es.length+(xx::xr).length≤cap'∧cap'≤maxLen∧(Builtin.append_ #[t,u] ty #[vs,src]).run P w=
      .ok (.slice (some ⟨w.heap.size,0,none⟩) (es.length+(xx::xr).length) cap') (w.drew.alloc (.cells ((ws++us)++(Builtin.zeroCells (Value.int .u8 0).cells (cap' - (es.length+(xx::xr).length))).toList).toArray e)):=by
    intro cap0 hlt hcs;refine⟨grownCap w (es.length+(xx::xr).length) cap0 e,grownCap_ge _ _ _ _,grownCap_le_maxLen _ _ _ _ hmax,?_⟩;rcases hcs with⟨rfl,rfl,rfl⟩|⟨q,rfl,hq⟩
    ·have hr:=hS.nilR (by simpa using h63) (by rw[hby];rw[hby]at c3;simp at c3⊢;omega);have hw0:ws=[]:=List.eq_nil_of_length_eq_zero (by simpa using hle);subst hw0;simp only[List.length_nil,Nat.zero_add]at hr⊢;rw[hr];simp
     congr 2
     apply Array.ext';simp
    ·have hr:=hS.grow q es.length cap0 ws (by rw[hle,hsz]) hq hlt h63 (growslice_fits hlt c3);rw[hr];simp
     congr 2
     apply Array.ext';simp
   have good: ∀cap',es.length+(xx::xr).length≤cap'→cap'≤maxLen→
     Good base U bs ars w (.slc (.own M.arrs.length) (es++xx::xr)) {M with arrs:=M.arrs++[.app (es.length+(xx::xr).length) e 1]} (.slice (some ⟨w.heap.size,0,none⟩) (es.length+(xx::xr).length) cap')
      (w.drew.alloc (.cells ((ws++us)++(Builtin.zeroCells (Value.int .u8 0).cells (cap' - (es.length+(xx::xr).length))).toList).toArray e)):=by
    intro cap' k1 k2;refine grown_app hH (es:=es++xx::xr) (F:=F++(xx::xr)) (vs:=ws++us) (sz:=1) (by simp) (by simp;omega) hfa hza (hLe.append hLx) k1 k2 ?_;have hzc:(Builtin.zeroCells (Value.int .u8 0).cells (cap' - (es.length+(xx::xr).length))).toList.length=(cap' - (es.length+(xx::xr).length))*1:=by
     simp[Builtin.zeroCells,hzs]
    rw[List.length_append,hzc,hle,hlx,←Nat.add_mul,←Nat.add_mul]
    congr 1
    omega
   split at h
   ·simp at h
   ·simp at h;obtain⟨rfl,rfl⟩:=h;cases hs with
    |slcN hsp=>
     obtain⟨cap',k1,k2,k3⟩:=grow 0 (by simp) (.inl ⟨rfl,rfl,rfl⟩);exact⟨_,_,k3,by simpa using good cap' k1 k2,frD _⟩
    |slc hf hL hr hz hsp hcap=>
     obtain⟨q0,hq0⟩:=hsp;simp at hq0;rcases hcase with⟨_,hbad⟩|⟨q,cap,hq,hcap',hcell,_⟩
     ·cases hbad
     ·simp at hq;obtain⟨cap',k1,k2,k3⟩:=grow es.length (by simp) (.inr ⟨q,by rw[hq.1,hq0.2],hcell⟩);rw[hq.1,hq0.2]at*;exact⟨_,_,k3,by simpa using good cap' k1 k2,frD _⟩
   ·rename_i a
    split at h
    ·rename_i n ty' sz' har
     split at h
     ·rename_i hcond
      simp at h;obtain⟨rfl,rfl⟩:=h;obtain⟨hn,hty⟩:=hcond
      -- the row's place
      have hsp:SpOk ars es.length vs (.own a):=by
       cases hs with
       |slcN hsp=>exact hsp
       |slc _ _ _ _ hsp _=>exact hsp
      obtain⟨e0,he0,hg0,hv0⟩:=hsp;obtain⟨r,hr1,hr2⟩:=hH.arr he0;rw[har]at hr1;cases hr1;obtain⟨hgn,hkind⟩:=hr2;have hval:=hv0 (by rw[hgn,hn]);have hlen1:(xx::xr).length=xr.length+1:=rfl;rcases hkind with⟨hnil,hn0⟩|⟨hnil,b1,b2,b3,b4,b5,b6,b7,cur,b8,b9⟩
      ·have hes0:es=[]:=List.eq_nil_of_length_eq_zero (by omega);subst hes0;obtain⟨pp,hvs⟩: ∃p:Option Addr,vs=.slice p 0 0:=by
        rcases hval with⟨q,_⟩|⟨_,q⟩
        ·rw[hnil]at q;cases q
        ·exact q
       subst hvs;have hw0:ws=[]:=List.eq_nil_of_length_eq_zero (by simpa using hle);subst hw0;obtain⟨cap',k1,k2,k3⟩:=grow 0 (by simp) (by
        cases pp with
        |none=>exact .inl ⟨rfl,rfl,rfl⟩
        |some q=>exact .inr ⟨q,rfl,by simp⟩)
       refine⟨_,_,k3,?_,frD _⟩;have hzc:(Builtin.zeroCells (Value.int .u8 0).cells (cap' - (([]:List AV).length+(xx::xr).length))).toList.length=(cap' - (([]:List AV).length+(xx::xr).length))*1:=by
        simp[Builtin.zeroCells,hzs]
       refine own_grow hH he0 (es:=[]++xx::xr) (F:=F++(xx::xr)) (vs:=[]++us) (by rw[hgn];simp only[List.length_cons,List.length_nil];omega) (by simp) hfa hza (hLe.append hLx) k1 k2 ?_;rw[List.length_append,hzc,hle,hlx,←Nat.add_mul,←Nat.add_mul]
       congr 1
       omega
      ·have hval:vs=e0.val 0 es.length:=by
        rcases hval with⟨_,q⟩|⟨q,_⟩
        ·exact q
        ·rw[hnil]at q;cases q
       rcases hcase with⟨_,hbad⟩|⟨q,cap,hq,hcap',hcell,hrow⟩
       ·rw[hbad]at hval;simp[BA.val,hnil]at hval
       ·rw[hq]at hval;simp[BA.val,hnil]at hval;obtain⟨rfl,rfl⟩:=hval;subst hq;have htyy:ty'=e∧sz'=1:=hty.resolve_left (by omega);obtain⟨rfl,rfl⟩:=htyy;by_cases hroom:es.length+(xx::xr).length≤e0.cap
        ·have hr:=hS.room e0.b es.length e0.cap cur b8 hroom (by rw[b9,Nat.mul_one];exact hroom);refine⟨_,_,hr,?_,fun i b hb=>setRow_other w e0.b b _ (fun eq=>hH.d2 i b _ e0 hb he0 hnil eq.symm)⟩;rw[show List.drop (es.length+(xx::xr).length) cur.toList=List.drop (es.length*1+us.length) cur.toList from by rw[hlx];simp,show List.take es.length cur.toList=List.take (es.length*1) cur.toList from by rw[Nat.mul_one]];refine own_room hH he0 hnil (es:=es++xx::xr) (F:=F++(xx::xr)) (vs:=ws) (us:=us) (n:=es.length) (m:=(xx::xr).length) (by rw[hgn];simp only[List.length_cons,List.length_nil];omega) (by simp) hfa hza (hLe.append hLx) hle hlx b8 b9 b4 (by rw[b7,hn]) b6 b1 b2 hroom ?_;intro j u hu';have:=hcell j u hu';rw[add_lit]at this;simpa[World.cell?,b8] using this
        ·obtain⟨cap',k1,k2,k3⟩:=grow e0.cap (by omega) (.inr ⟨_,rfl,hcell⟩);refine⟨_,_,k3,?_,frD _⟩;have hzc:(Builtin.zeroCells (Value.int .u8 0).cells (cap' - (es.length+(xx::xr).length))).toList.length=(cap' - (es.length+(xx::xr).length))*1:=by
          simp[Builtin.zeroCells,hzs]
         refine own_grow hH he0 (es:=es++xx::xr) (F:=F++(xx::xr)) (vs:=ws++us) (n:=es.length+(xx::xr).length) (by rw[hgn];simp only[List.length_cons,List.length_nil];omega) (by simp) hfa hza (hLe.append hLx) k1 k2 ?_;rw[List.length_append,hzc,hle,hlx,←Nat.add_mul,←Nat.add_mul]
         congr 1
         omega
     ·simp at h
    ·simp at h
  ·simp at h
 ·simp at h
end Go.Proofs.Ae
namespace Go.Proofs.Ae
open Go Go.RowKit
set_option maxHeartbeats 1000000
set_option maxRecDepth 100000
theorem turn_cell (w:World) (b j:Nat) (v:Value):Turn w (w.setCell ⟨b,j,none⟩ v) b:=
 ⟨rfl,rfl,rfl,by simp[World.setCell],fun k h=>Below.heap_setCell _ _ _ _ (fun e=>h e)⟩
theorem heap_cell {w:World} {b:Nat} {cs:Array Value} {T:TypeId} (hb:w.heap[b]? =some (.cells cs T (0,0))) (j:Nat) (v:Value):(w.setCell ⟨b,j,none⟩ v).heap[b]? =some (.cells (cs.setIfInBounds j v) T (0,0)):=by
 simp[World.setCell,Array.getElem?_modify,hb]
theorem chk102 {w:World} {b:Nat} {vp vb:Value} (hb:w.heap[b]? =some (.cells #[vp,vb] 103 (0,0))) (hp:vp=.pointer none∨vp=.pointer (some ⟨b,0,none⟩)):
  Calls Tryz.prog 102 #[.pointer (some ⟨b,0,none⟩)] w fun e w'=>e=.returned (.tuple #[])∧(w'=w∨w'=w.setCell ⟨b,0,none⟩ (.pointer (some ⟨b,0,none⟩)))∧w'.heap[b]? =some (.cells #[.pointer (some ⟨b,0,none⟩),vb] 103 (0,0)):=by
 rcases hp with rfl|rfl
 ·refine(Any.Builder_copyCheck_fresh (P:=Tryz.prog) (ρ:=Tryz.lays156_ren) {Tryz.lays156 with} Tryz.Builder_Extra_156.toX72 b w (by rw[Lib.cell_of_heap hb];rfl) (by simp only[World.shape?,hb];rfl) (Lib.frozen_of_heap hb 0)).mono ?_;rintro e w' ⟨rfl,rfl⟩;refine⟨rfl,.inr rfl,?_⟩;rw[heap_cell hb];rfl
 ·refine(Any.Builder_copyCheck_used (P:=Tryz.prog) (ρ:=Tryz.lays156_ren) {Tryz.lays156 with} Tryz.Builder_Extra_156.toX72 b w (by rw[Lib.cell_of_heap hb];rfl)).mono ?_;rintro e w' ⟨rfl,rfl⟩;exact⟨rfl,.inl rfl,hb⟩
theorem wp_app {P:Program} {w w':World} {ops:Array Oper} {rest:List Oper} {o:Oper} {a:Act} {Q:Exit→Act→World→Prop} (hgd:o.guard=none) (sl x:Operand) (t u:TypeId)
  (ho:o.op=.call {callee:=.builtin .append,args:= #[sl,x],argTypes:= #[t,u]}) (v xv:Value) (hs:a.eval sl=v) (hx:a.eval x=xv) (v':Value) (hr:(Builtin.append_ #[t,u] o.type #[v,xv]).run P w=.ok v' w')
  (h:wpList P ops Q rest (a.put o.dst v') w'):wpList P ops Q (o::rest) a w:=by
 refine wpList_plain hgd fun K hK=>?_;unfold Oper.wp execOp;simp only[ho,resolve,invoke,builtin,Sem.run_bind,Sem.run_pure,Result.andThen_ok,List.map_toArray,List.map_cons,List.map_nil,hs,hx,hr];exact hK _ _ h
theorem wr48 {w:World} {b:Nat} {vp vb:Value} {s:ByteArray} (hb:w.heap[b]? =some (.cells #[vp,vb] 103 (0,0))) (hp:vp=.pointer none∨vp=.pointer (some ⟨b,0,none⟩))
  (hap: ∀w1,(w1=w∨w1=w.setCell ⟨b,0,none⟩ (.pointer (some ⟨b,0,none⟩)))→w1.heap[b]? =some (.cells #[.pointer (some ⟨b,0,none⟩),vb] 103 (0,0))→ ∃ao n cap w2,(Builtin.append_ #[101,9] 101 #[vb,.string s]).run Tryz.prog w1=.ok (.slice ao n cap) w2∧w2.heap[b]? =w1.heap[b]?):
  Calls Tryz.prog 48 #[.pointer (some ⟨b,0,none⟩),.string s] w fun e w'=>e=.returned (.tuple #[.int .i64 s.size,.nilIface])∧
   ∃w1 w2 ao n cap,(w1=w∨w1=w.setCell ⟨b,0,none⟩ (.pointer (some ⟨b,0,none⟩)))∧w1.heap[b]? =some (.cells #[.pointer (some ⟨b,0,none⟩),vb] 103 (0,0))∧w2.heap[b]? =w1.heap[b]?∧(Builtin.append_ #[101,9] 101 #[vb,.string s]).run Tryz.prog w1=.ok (.slice ao n cap) w2∧w'=w2.setCell ⟨b,1,none⟩ (.slice ao n cap):=by
 have e102: ∀args w,(callFunc 102 args).run Tryz.prog w=.ok (.enter 102 args) w:=enters_of Tryz.func102 (by kernel_rfl) rfl;have u103:=run_underlying Tryz.underlying103
 go_enter Tryz.func48,Tryz.ntmps48
 go_wp2_with (go_at_fn 102;refine(chk102 hb hp).mono ?_)
 rintro e w1 ⟨rfl,h1,hb1⟩;have c0:w1.cell? ⟨b,0,none⟩=some (.pointer (some ⟨b,0,none⟩)):=by rw[Lib.cell_of_heap hb1];rfl
 have c1:w1.cell? ⟨b,1,none⟩=some vb:=by rw[Lib.cell_of_heap hb1];rfl
 obtain⟨ao,n,cap,w2,hr,h2⟩:=hap w1 h1 hb1;have hb2:w2.heap[b]? =some (.cells #[.pointer (some ⟨b,0,none⟩),vb] 103 (0,0)):=h2.trans hb1;have d0:w2.cell? ⟨b,0,none⟩=some (.pointer (some ⟨b,0,none⟩)):=by rw[Lib.cell_of_heap hb2];rfl
 have d1:w2.cell? ⟨b,1,none⟩=some vb:=by rw[Lib.cell_of_heap hb2];rfl
 have f1:w2.frozen? ⟨b,1,none⟩=false:=Lib.frozen_of_heap hb2 1
 go_wp2_with (at_builtin;refine wp_app rfl _ _ 101 9 rfl _ _ rfl rfl _ hr ?_)
 go_wp2
 go_ret2
 exact⟨rfl,w1,w2,ao,n,cap,h1,hb1,h2,hr,rfl⟩
theorem wr50 {w:World} {b:Nat} {vp vb:Value} {c:Int} (hb:w.heap[b]? =some (.cells #[vp,vb] 103 (0,0))) (hp:vp=.pointer none∨vp=.pointer (some ⟨b,0,none⟩))
  (hap: ∀w1,(w1=w∨w1=w.setCell ⟨b,0,none⟩ (.pointer (some ⟨b,0,none⟩)))→w1.heap[b]? =some (.cells #[.pointer (some ⟨b,0,none⟩),vb] 103 (0,0))→ ∃ao n cap w2,(Builtin.append_ #[101,101] 101 #[vb,.slice (some ⟨w1.heap.size,0,none⟩) 1 1]).run Tryz.prog (w1.alloc (.cells #[.int .u8 c] 5))=.ok (.slice ao n cap) w2∧w2.heap[b]? =w1.heap[b]?):
  Calls Tryz.prog 50 #[.pointer (some ⟨b,0,none⟩),.int .u8 c] w fun e w'=>e=.returned .nilIface∧
   ∃w1 w2 ao n cap,(w1=w∨w1=w.setCell ⟨b,0,none⟩ (.pointer (some ⟨b,0,none⟩)))∧w1.heap[b]? =some (.cells #[.pointer (some ⟨b,0,none⟩),vb] 103 (0,0))∧w2.heap[b]? =w1.heap[b]?∧(Builtin.append_ #[101,101] 101 #[vb,.slice (some ⟨w1.heap.size,0,none⟩) 1 1]).run Tryz.prog (w1.alloc (.cells #[.int .u8 c] 5))=.ok (.slice ao n cap) w2∧w'=w2.setCell ⟨b,1,none⟩ (.slice ao n cap):=by
 have e102: ∀args w,(callFunc 102 args).run Tryz.prog w=.ok (.enter 102 args) w:=enters_of Tryz.func102 (by kernel_rfl) rfl;have u103:=run_underlying Tryz.underlying103
 go_enter Tryz.func50,Tryz.ntmps50
 go_wp2_with (go_at_fn 102;refine(chk102 hb hp).mono ?_)
 rintro e w1 ⟨rfl,h1,hb1⟩;have c0:w1.cell? ⟨b,0,none⟩=some (.pointer (some ⟨b,0,none⟩)):=by rw[Lib.cell_of_heap hb1];rfl
 have c1:w1.cell? ⟨b,1,none⟩=some vb:=by rw[Lib.cell_of_heap hb1];rfl
 obtain⟨ao,n,cap,w2,hr,h2⟩:=hap w1 h1 hb1;have hb2:w2.heap[b]? =some (.cells #[.pointer (some ⟨b,0,none⟩),vb] 103 (0,0)):=h2.trans hb1;have d0:w2.cell? ⟨b,0,none⟩=some (.pointer (some ⟨b,0,none⟩)):=by rw[Lib.cell_of_heap hb2];rfl
 have d1:w2.cell? ⟨b,1,none⟩=some vb:=by rw[Lib.cell_of_heap hb2];rfl
 have f1:w2.frozen? ⟨b,1,none⟩=false:=Lib.frozen_of_heap hb2 1
 go_wp2_with (at_builtin;refine wp_app rfl _ _ 101 101 rfl _ _ rfl rfl _ hr ?_)
 go_wp2
 go_ret
 exact⟨rfl,w1,w2,ao,n,cap,h1,hb1,h2,hr,rfl⟩
theorem str51 {w:World} {b g cap:Nat} {vp:Value} {cur:Array Value} {l:List UInt8} (h0:l≠[]) (hb:w.heap[b]? =some (.cells #[vp,.slice (some ⟨g,0,none⟩) l.length cap] 103 (0,0))) (hg:w.heap[g]? =some (.cells cur 5 (0,0))) (hc:l.length≤cap) (hm:cap≤maxLen) (hs:cur.size=cap)
  (hl: ∀(j:Nat) (x:UInt8),l[j]? =some x→cur[j]? =some (.int .u8 x.toNat)):
  Calls Tryz.prog 51 #[.pointer (some ⟨b,0,none⟩)] w fun e w'=>e=.returned (.string ⟨l.toArray⟩)∧w'=w.drew.freeze ⟨g,0,none⟩ l.length:=by
 have mixed:Tryz.prog.follows .mixedOrders=true:=hmix;have hl0:l.length≠0:=by simpa using h0
 have hb':w.drew.heap[b]? =some (.cells #[vp,.slice (some ⟨g,0,none⟩) l.length cap] 103 (0,0)):=hb;have hg':w.drew.heap[g]? =some (.cells cur 5 (0,0)):=hg;have c1:w.drew.cell? ⟨b,1,none⟩=some (.slice (some ⟨g,0,none⟩) l.length cap):=by rw[Lib.cell_of_heap hb'];rfl
 have hSD:(Builtin.unsafeSliceData_ #[101] 182 #[.slice (some ⟨g,0,none⟩) l.length cap]).run Tryz.prog w.drew=.ok (.pointer (some ⟨g,0,none⟩)) w.drew:=
  Lib.run_unsafeSliceData_row _ _ _ _ _ _ (by omega)
 have hUS:(Builtin.unsafeString_ #[182,3] 9 #[.pointer (some ⟨g,0,none⟩),.int .i64 l.length]).run Tryz.prog w.drew=.ok (.string ⟨l.toArray⟩) (w.drew.freeze ⟨g,0,none⟩ l.length):=by
  refine Lib.run_unsafeString_row w.drew 182 3 9 5 Tryz.underlying182 Tryz.Builder_Extra_156.cellsByte g cur.size (by simp[World.shape?,hg']) l h0 (by omega) (by unfold maxLen at hm;omega) ?_;intro j x hx;rw[add_lit,Lib.cell_of_heap hg',Nat.zero_add];exact hl j x hx
 have u103:=run_underlying Tryz.underlying103;have u101:=run_underlying Tryz.underlying101;have u9:=run_underlying Tryz.underlying9
 go_enter Tryz.func51,Tryz.ntmps51
 go_wp2
 go_region_o
 all_goals (go_wp2;go_ret;exact⟨rfl,rfl⟩)
theorem str51n {w:World} {b:Nat} {vp:Value} (hb:w.heap[b]? =some (.cells #[vp,.slice none 0 0] 103 (0,0))):
  Calls Tryz.prog 51 #[.pointer (some ⟨b,0,none⟩)] w fun e w'=>e=.returned (.string ⟨([]:List UInt8).toArray⟩)∧w'=w.drew:=by
 have mixed:Tryz.prog.follows .mixedOrders=true:=hmix;have hb':w.drew.heap[b]? =some (.cells #[vp,.slice none 0 0] 103 (0,0)):=hb;have c1:w.drew.cell? ⟨b,1,none⟩=some (.slice none 0 0):=by rw[Lib.cell_of_heap hb'];rfl
 have hSD:(Builtin.unsafeSliceData_ #[101] 182 #[.slice none 0 0]).run Tryz.prog w.drew=.ok (.pointer none) w.drew:=Lib.run_unsafeSliceData_nil w.drew _ _ _ _;have hUS:(Builtin.unsafeString_ #[182,3] 9 #[.pointer none,.int .i64 0]).run Tryz.prog w.drew=.ok (.string ⟨([]:List UInt8).toArray⟩) w.drew:=Lib.run_unsafeString_none w.drew _ _ _ _;have u103:=run_underlying Tryz.underlying103;have u101:=run_underlying Tryz.underlying101;have u9:=run_underlying Tryz.underlying9
 go_enter Tryz.func51,Tryz.ntmps51
 go_wp2
 go_region_o
 all_goals (go_wp2;go_ret;exact⟨rfl,rfl⟩)
def bB (s:List UInt8):List AV:=s.map fun b=>.int .u8 b.toNat
section
variable {P:Program} {U:Nat→Nat} {w:World} {t u ty e:Nat} {i:TypeInfo}
theorem src_str (hu:P.underlying t=some (.slice e)) (hus:P.underlying u=some .string) (hi:P.info? e=some i) (hsz:i.size=1) (hzv:i.zero=some (.int .u8 0)) {s:List UInt8} (h0:s≠[]):
  AppSrc P U w t u ty e i (.string ⟨s.toArray⟩) (bB s) (Lib.strCells ⟨s.toArray⟩):=by
 have hbs:(⟨s.toArray⟩:ByteArray).size=(bB s).length:=by simp[ByteArray.size,bB]
 have hc:Lib.strCells ⟨s.toArray⟩=s.map fun b=>Value.int .u8 b.toNat:=by simp[Lib.strCells]
 have he1:((⟨s.toArray⟩:ByteArray).data.map fun b=>Value.int .u8 b.toNat)=(Lib.strCells ⟨s.toArray⟩).toArray:=by
  apply Array.ext';simp[Lib.strCells]
 have hpos:0<(bB s).length:=by
  cases s with
  |nil=>exact absurd rfl h0
  |cons=>simp[bB]
 refine⟨?_,?_,?_,fun h1 h2=>?_,fun q n cap ws h1 h2 h3 h4 h5=>?_,fun g n cap cur h1 h2 h3=>?_⟩
 ·unfold bB;clear hbs hc he1 hpos h0
  induction s with
  |nil=>rfl
  |cons c s ih=>simp only[List.map_cons,flat,cells,ih];rfl
 ·rw[hc];unfold bB;clear hbs hc he1 hpos h0
  induction s with
  |nil=>exact .nil
  |cons c s ih=>exact .cons .int rfl ih
 ·intro x hx;obtain⟨b,_,rfl⟩:=List.mem_map.1 hx;exact⟨_,rfl,rfl⟩
 ·have hr:=run_append_nil_string (P:=P) w t u ty e i (.int .u8 0) hu hus hi hzv ⟨s.toArray⟩ (by rw[hbs];exact hpos) (by rw[hbs];exact h1) (by rw[hbs];exact h2);rw[hbs,he1]at hr;exact hr
 ·have hr:=Lib.run_append_grow_string (P:=P) w t u ty e i (.int .u8 0) hu hus hi hzv q n cap ws h1 h2 ⟨s.toArray⟩ (by rw[hbs];exact h3) (by rw[hbs];exact h4) (by rw[hbs];exact h5);rw[hbs]at hr;exact hr
 ·have hr:=Lib.run_append_room_string (P:=P) w t u ty e i hu hus hi hsz g n cap cur h1 ⟨s.toArray⟩ (by rw[hbs];exact h2) (by rw[hbs];exact h3);rw[hbs]at hr;exact hr
theorem src_one (hu:P.underlying t=some (.slice e)) (hi:P.info? e=some i) (hsz:i.size=1) (hzv:i.zero=some (.int .u8 0)) {p:Addr} {c:Int} (hp:w.cell? p=some (.int .u8 c)):
  AppSrc P U w t t ty e i (.slice (some p) 1 1) [.int .u8 c] [.int .u8 c]:=by
 have hcx: ∀(j:Nat) (v:Value),[Value.int .u8 c][j]? =some v→w.cell? (p.add j)=some v:=by
  intro j v hj;cases j with
  |zero=>simp at hj;subst hj;simpa[Addr.add] using hp
  |succ j=>simp at hj
 refine⟨rfl,.cons .int rfl .nil,by simp[cells],fun h1 h2=>?_,fun q n cap ws h1 h2 h3 h4 h5=>?_,fun g n cap cur h1 h2 h3=>?_⟩
 ·exact run_append_nil (P:=P) w t ty e i (.int .u8 0) hu hi hzv p 1 1 [.int .u8 c] (by rw[hsz];rfl) hcx (by simp) (by simp) (by simpa using h2)
 ·exact run_append_grow (P:=P) w t ty e i (.int .u8 0) hu hi hzv q n cap ws h1 h2 p 1 1 [.int .u8 c] (by rw[hsz];rfl) hcx h3 h4 h5
 ·have hr:=run_append_room (P:=P) w t ty e i hu hi g n cap cur h1 p 1 1 [.int .u8 c] (by rw[hsz];rfl) hcx (by simp[Value.oneCell']) h2 (by rw[hsz];simpa using h3);rw[hsz]at hr;simpa using hr
end
end Go.Proofs.Ae
namespace Go.Proofs.Ae
open Go Go.RowKit
def selfP (id:Nat):AV→Bool
 | .nilp=>true
 | .ptr i o=>i==id&&o==0
 |_=>false
def bldW (id:Nat) (xs:List AV) (r:AV) (M:Mem):Option (AV×Mem):=match M.objs[id]? with
 |some (.bld T [p,bf])=>if T=103∧selfP id p=true then(match appS 5 .sc 1 bf xs M with
   |some (b',M')=>some (r,setObj M' id (.bld 103 [.ptr id 0,b']))
   |none=>none)else none
 |_=>none
theorem appS_obj {s:AV} {xs:List AV} {M M':Mem} {v:AV} (id:Nat) (o:Obj) (h:appS 5 .sc 1 s xs M=some (v,M')):appS 5 .sc 1 s xs (setObj M id o)=some (v,setObj M' id o):=by
 unfold appS at h⊢;split at h
 ·split at h
  ·simp only[Option.some.injEq,Prod.mk.injEq]at h;obtain⟨rfl,rfl⟩:=h;rfl
  ·split at h
   ·rename_i hc
    rw[if_pos hc];split at h
    ·cases h
    ·simp only[Option.some.injEq,Prod.mk.injEq]at h;obtain⟨rfl,rfl⟩:=h;rfl
    ·rename_i a
     split at h
     ·rename_i n ty' sz' ha
      split at h
      ·rename_i hcc
       simp only[Option.some.injEq,Prod.mk.injEq]at h;obtain⟨rfl,rfl⟩:=h;have:(setObj M id o).arrs[a]? =some (.app n ty' sz'):=ha;simp only[this];rw[if_pos hcc];rfl
      ·cases h
     ·cases h
   ·cases h
 ·cases h
section
variable {G:Nat→Option AV} {base:Nat} {U:Nat→Nat} {bs:List (Option Nat)} {ar:List BA} {w:World} {M M':Mem}
theorem info5: ∃i,Tryz.prog.info? 5=some i∧i.zero=some (.int .u8 0)∧i.size=1∧i.bytes=1:=by
 have h:=Tryz.Builder_Extra_156.infoByte;obtain⟨i,hi,he⟩:=Option.map_eq_some_iff.1 h;simp only[Prod.mk.injEq]at he;exact⟨i,hi,he⟩
theorem bld_in (hH:HRel base U bs ar w M) {id b:Nat} (hb:bs[id]? =some (some b)) {p bf:AV} (ho:M.objs[id]? =some (.bld 103 [p,bf])) (hp:selfP id p=true):
  ∃vp vb,w.heap[b]? =some (.cells #[vp,vb] 103 (0,0))∧(vp=.pointer none∨vp=.pointer (some ⟨b,0,none⟩))∧Rep U w bs ar bf vb∧vb.oneCell'=true:=by
 obtain⟨vs,h1,h2,-⟩:=hH.oo id b _ hb ho;cases h2 with
 |cons a1 a2 t=>
  cases t with
  |cons c1 c2 t2=>
   cases t2;refine⟨_,_,h1,?_,c1,c2⟩;cases p with
   |nilp=>cases a1;exact .inl rfl
   |ptr i o=>
    simp only[selfP,Bool.and_eq_true,beq_iff_eq]at hp;obtain⟨rfl,rfl⟩:=hp;cases a1 with
    |ptr h=>
     rw[hb]at h;cases h;exact .inr rfl
   |_=>simp[selfP]at hp
theorem bld_mid (hH:HRel base U bs ar w M) {id b:Nat} (hb:bs[id]? =some (some b)) {bf:AV} {vb:Value} (hr:Rep U w bs ar bf vb) (h1:vb.oneCell'=true) {w1:World} (hw:w1=w∨w1=w.setCell ⟨b,0,none⟩ (.pointer (some ⟨b,0,none⟩))) (hh:w1.heap[b]? =some (.cells #[.pointer (some ⟨b,0,none⟩),vb] 103 (0,0))):
  HRel base U bs ar w1 (setObj M id (.bld 103 [.ptr id 0,bf]))∧Evo base U bs ar w U bs ar w1:=by
 have t:Turn w w1 b:=by
  rcases hw with rfl|rfl
  ·exact⟨rfl,rfl,rfl,rfl,fun _ _=>rfl⟩
  ·exact turn_cell _ _ _ _
 obtain⟨k1,k2,k3⟩:=hH.ob id b hb;have ev:Evo base U bs ar w U bs ar w1:=evo_turn t k1 k3;refine hH.turnObj hb t _ ⟨[.pointer (some ⟨b,0,none⟩),vb],hh,.cons (.ptr hb) rfl (.cons (ev.rep hr) h1 .nil),fun h=>by cases h⟩
end
theorem slc_inv {U:Nat→Nat} {w:World} {bs:List (Option Nat)} {ar:List BA} {sp:Sp} {es:List AV} {x:Value} (h:Rep U w bs ar (.slc sp es) x): ∃ao n cap,x=.slice ao n cap:=by
 cases h with
 |slcN _=>exact⟨_,_,_,rfl⟩
 |slc _ _ _ _ _ _=>exact⟨_,_,_,rfl⟩
theorem appS_slc {s:AV} {xs:List AV} {M M':Mem} {v:AV} (h:appS 5 .sc 1 s xs M=some (v,M')): ∃sp es,v=.slc sp es:=by
 unfold appS at h;split at h
 ·split at h
  ·simp only[Option.some.injEq,Prod.mk.injEq]at h;exact⟨_,_,h.1.symm⟩
  ·split at h
   ·split at h
    ·cases h
    ·simp only[Option.some.injEq,Prod.mk.injEq]at h;exact⟨_,_,h.1.symm⟩
    ·split at h
     ·split at h
      ·simp only[Option.some.injEq,Prod.mk.injEq]at h;exact⟨_,_,h.1.symm⟩
      ·cases h
     ·cases h
   ·cases h
 ·cases h
section
variable {base:Nat} {U:Nat→Nat} {bs:List (Option Nat)} {ar:List BA} {w w1 w2:World} {M M':Mem}
theorem setObj_two (M:Mem) (id:Nat) (o o':Obj):setObj (setObj M id o) id o'=setObj M id o':=by
 simp[setObj]
theorem bld_fin {id b:Nat} (hb:bs[id]? =some (some b)) {bf b':AV} {vb x:Value} {U1:Nat→Nat} {r:AV} {rv:Value} (hrv: ∀U w bs ar,Rep U w bs ar r rv) (ev:Evo base U bs ar w U1 bs ar w1) (hg:Good base U1 bs ar w1 b' (setObj M' id (.bld 103 [.ptr id 0,bf])) x w2)
  (h2:w2.heap[b]? =some (.cells #[.pointer (some ⟨b,0,none⟩),vb] 103 (0,0))) (hx:x.oneCell'=true):Good base U bs ar w r (setObj M' id (.bld 103 [.ptr id 0,b'])) rv (w2.setCell ⟨b,1,none⟩ x):=by
 obtain⟨U2,bs2,as2,g1,g2,g3⟩:=hg;have hb2:bs2[id]? =some (some b):=g3.bsl _ _ hb;obtain⟨k1,k2,k3⟩:=g2.ob id b hb2;have ev3:Evo base U2 bs2 as2 w2 U2 bs2 as2 (w2.setCell ⟨b,1,none⟩ x):=evo_turn (turn_cell _ _ _ _) k1 k3;obtain⟨q1,q2⟩:=g2.turnObj hb2 (turn_cell w2 b 1 x) (.bld 103 [.ptr id 0,b']) ⟨[.pointer (some ⟨b,0,none⟩),x],by rw[heap_cell h2];rfl,.cons (.ptr hb2) rfl (.cons (ev3.rep g1) hx .nil),fun h=>by cases h⟩;rw[setObj_two]at q1;exact⟨U2,bs2,as2,hrv _ _ _ _,q1,(ev.trans g3).trans q2⟩
theorem bld48 (hH:HRel base U bs ar w M) {id b:Nat} (hb:bs[id]? =some (some b)) {p bf b':AV} (ho:M.objs[id]? =some (.bld 103 [p,bf])) (hp:selfP id p=true) {s:List UInt8} (h0:s≠[]) (ha:appS 5 .sc 1 bf (bB s) M=some (b',M')):
  Calls Tryz.prog 48 #[.pointer (some ⟨b,0,none⟩),.string ⟨s.toArray⟩] w fun e w'=> ∃x,e=.returned x∧Good base U bs ar w (.tup [.int .i64 s.length,.nili]) (setObj M' id (.bld 103 [.ptr id 0,b'])) x w':=by
 obtain⟨vp,vb,e1,e2,e3,e4⟩:=bld_in hH hb ho hp;obtain⟨i,hi,hz,hs1,hby⟩:=info5;obtain⟨xx,xr,hxx⟩: ∃xx xr,bB s=xx::xr:=by
  cases s with
  |nil=>exact absurd rfl h0
  |cons c s=>exact⟨_,_,rfl⟩
 obtain⟨sp',es',rfl⟩:=appS_slc ha;have key: ∀w1,(w1=w∨w1=w.setCell ⟨b,0,none⟩ (.pointer (some ⟨b,0,none⟩)))→w1.heap[b]? =some (.cells #[.pointer (some ⟨b,0,none⟩),vb] 103 (0,0))→
   Evo base U bs ar w U bs ar w1∧ ∃ao n cap w2,(Builtin.append_ #[101,9] 101 #[vb,.string ⟨s.toArray⟩]).run Tryz.prog w1=.ok (.slice ao n cap) w2∧w2.heap[b]? =w1.heap[b]?∧Good base U bs ar w1 (.slc sp' es') (setObj M' id (.bld 103 [.ptr id 0,bf])) (.slice ao n cap) w2:=by
  intro w1 hw hh;obtain⟨H1,ev1⟩:=bld_mid hH hb e3 e4 hw hh;have hsrc:=src_str (P:=Tryz.prog) (U:=U) (w:=w1) (t:=101) (u:=9) (ty:=101) Tryz.underlying101 Tryz.underlying9 hi hs1 hz h0;rw[hxx]at hsrc;have hap:=appS_obj id (.bld 103 [.ptr id 0,bf]) ha;rw[hxx]at hap;obtain⟨x,w2,r1,r2,r3⟩:=s_appB (ty:=101) hs1 hby hsrc (ev1.rep e3) H1 (by rw[hby];exact hap);have hr2:=r2;obtain⟨U2,bs2,as2,g1,_⟩:=hr2;obtain⟨ao,n,cap,rfl⟩:=slc_inv g1;exact⟨ev1,ao,n,cap,w2,r1,r3 id b hb,r2⟩
 refine(wr48 (s:=⟨s.toArray⟩) e1 e2 fun w1 hw hh=>?_).mono ?_
 ·obtain⟨_,ao,n,cap,w2,k1,k2,_⟩:=key w1 hw hh;exact⟨ao,n,cap,w2,k1,k2⟩
 ·rintro e w' ⟨rfl,w1,w2,ao,n,cap,hw,hh,h2,hr,rfl⟩;obtain⟨ev1,ao',n',cap',w2',k1,k2,k3⟩:=key w1 hw hh;rw[hr]at k1;cases k1;refine⟨_,rfl,bld_fin hb (fun U w bs ar=>?_) ev1 k3 (h2.trans hh) rfl⟩;have hl:(⟨s.toArray⟩:ByteArray).size=s.length:=by simp[ByteArray.size]
  rw[hl];exact .tup (.cons .int (.cons .nili .nil))
theorem bld50 (hH:HRel base U bs ar w M) {id b:Nat} (hb:bs[id]? =some (some b)) {p bf b':AV} (ho:M.objs[id]? =some (.bld 103 [p,bf])) (hp:selfP id p=true) {c:Int} (ha:appS 5 .sc 1 bf [.int .u8 c] M=some (b',M')):
  Calls Tryz.prog 50 #[.pointer (some ⟨b,0,none⟩),.int .u8 c] w fun e w'=> ∃x,e=.returned x∧Good base U bs ar w .nili (setObj M' id (.bld 103 [.ptr id 0,b'])) x w':=by
 obtain⟨vp,vb,e1,e2,e3,e4⟩:=bld_in hH hb ho hp;obtain⟨i,hi,hz,hs1,hby⟩:=info5;obtain⟨sp',es',rfl⟩:=appS_slc ha;have key: ∀w1,(w1=w∨w1=w.setCell ⟨b,0,none⟩ (.pointer (some ⟨b,0,none⟩)))→w1.heap[b]? =some (.cells #[.pointer (some ⟨b,0,none⟩),vb] 103 (0,0))→
   ∃U1,Evo base U bs ar w U1 bs ar (w1.alloc (.cells #[.int .u8 c] 5))∧ ∃ao n cap w2,(Builtin.append_ #[101,101] 101 #[vb,.slice (some ⟨w1.heap.size,0,none⟩) 1 1]).run Tryz.prog (w1.alloc (.cells #[.int .u8 c] 5))=.ok (.slice ao n cap) w2∧w2.heap[b]? =w1.heap[b]?∧Good base U1 bs ar (w1.alloc (.cells #[.int .u8 c] 5)) (.slc sp' es') (setObj M' id (.bld 103 [.ptr id 0,bf])) (.slice ao n cap) w2:=by
  intro w1 hw hh;obtain⟨H1,ev1⟩:=bld_mid hH hb e3 e4 hw hh;have H2:=H1.alloc (.cells #[.int .u8 c] 5) 0;have ev2:Evo base _ bs ar w1 _ bs ar _:=evo_alloc (.cells #[.int .u8 c] 5) H1.hb H1.fr 0;have hcell:(w1.alloc (.cells #[.int .u8 c] 5)).cell? ⟨w1.heap.size,0,none⟩=some (.int .u8 c):=by
   have:=World.cell?_alloc_new w1 #[.int .u8 c] 5 0;rw[this];rfl
  have hsrc:=src_one (P:=Tryz.prog) (U:=upd U w1.heap.size 0) (w:=w1.alloc (.cells #[.int .u8 c] 5)) (t:=101) (ty:=101) Tryz.underlying101 hi hs1 hz hcell;obtain⟨x,w2,r1,r2,r3⟩:=s_appB (ty:=101) hs1 hby hsrc ((ev1.trans ev2).rep e3) H2 (by rw[hby];exact appS_obj id (.bld 103 [.ptr id 0,bf]) ha);have hr2:=r2;obtain⟨U2,bs2,as2,g1,_⟩:=hr2;obtain⟨ao,n,cap,rfl⟩:=slc_inv g1;exact⟨_,ev1.trans ev2,ao,n,cap,w2,r1,(r3 id b hb).trans (heap_alloc_ne _ (H1.ob id b hb).2.1),r2⟩
 refine(wr50 e1 e2 fun w1 hw hh=>?_).mono ?_
 ·obtain⟨_,_,ao,n,cap,w2,k1,k2,_⟩:=key w1 hw hh;exact⟨ao,n,cap,w2,k1,k2⟩
 ·rintro e w' ⟨rfl,w1,w2,ao,n,cap,hw,hh,h2,hr,rfl⟩;obtain⟨U1,ev1,ao',n',cap',w2',k1,k2,k3⟩:=key w1 hw hh;rw[hr]at k1;cases k1;obtain⟨U2,bs2,as2,g1,g2,g3⟩:=k3;have hb2:bs2[id]? =some (some b):=g3.bsl _ _ hb;obtain⟨q1,q2,q3⟩:=g2.ob id b hb2;have hb3:=h2.trans hh;have ev3:Evo base U2 bs2 as2 w2 U2 bs2 as2 (w2.setCell ⟨b,1,none⟩ (.slice ao n cap)):=evo_turn (turn_cell _ _ _ _) q1 q3;obtain⟨z1,z2⟩:=g2.turnObj hb2 (turn_cell w2 b 1 (.slice ao n cap)) (.bld 103 [.ptr id 0,.slc sp' es']) ⟨[.pointer (some ⟨b,0,none⟩),.slice ao n cap],by rw[heap_cell hb3];rfl,.cons (.ptr hb2) rfl (.cons (ev3.rep g1) rfl .nil),fun h=>by cases h⟩;rw[setObj_two]at z1;exact⟨_,rfl,U2,bs2,as2,.nili,z1,(ev1.trans g3).trans z2⟩
end
section
variable {w:World} {g n:Nat} {cur:Array Value}
theorem frz_heap (hg:w.heap[g]? =some (.cells cur 5 (0,0))) (h0:n≠0): ∃fz,(w.freeze ⟨g,0,none⟩ n).heap[g]? =some (.cells cur 5 fz):=by
 refine⟨(0,0+n),?_⟩;simp[World.freeze,h0,Array.getElem?_modify,hg]
theorem frz_oth {k:Nat} (hk:k≠g):(w.freeze ⟨g,0,none⟩ n).heap[k]? =w.heap[k]?:=by
 unfold World.freeze;split
 ·rfl
 ·simp only[Array.getElem?_modify];rw[if_neg (fun e=>hk e.symm)]
theorem frz_size:(w.freeze ⟨g,0,none⟩ n).heap.size=w.heap.size:=by
 unfold World.freeze;split
 ·rfl
 ·simp
end
section
variable {base:Nat} {U:Nat→Nat} {bs:List (Option Nat)} {ar:List BA} {w:World} {M M':Mem}
theorem ints_rep {U:Nat→Nat} {w:World}: ∀{s:List UInt8} {vs:List Value},RepL U w [] [] (bB s) vs→vs=s.map fun b=>Value.int .u8 b.toNat
 |[],_,.nil=>rfl
 |c::s,_,.cons h _ t=>by
  cases h;rw[ints_rep t];rfl
theorem flat_bB: ∀s:List UInt8,flat (bB s)=some (bB s)
 |[]=>rfl
 |c::s=>by
  have:=flat_bB s;unfold bB at this⊢;simp only[List.map_cons,flat,cells,this];rfl
theorem bld51 (hH:HRel base U bs ar w M) {id b a:Nat} (hb:bs[id]? =some (some b)) {p:AV} {s:List UInt8} (ho:M.objs[id]? =some (.bld 103 [p,.slc (.own a) (bB s)])) (hp:selfP id p=true) (h0:s≠[]) (har:M.arrs[a]? =some (.app s.length 5 1)):
  Calls Tryz.prog 51 #[.pointer (some ⟨b,0,none⟩)] w fun e w'=> ∃x,e=.returned x∧Good base U bs ar w (.str s) (setArr M a (.wr (s.length+1) 5 .sc [])) x w':=by
 obtain⟨vp,vb,e1,e2,e3,e4⟩:=bld_in hH hb ho hp;have hsl:s.length≠0:=by simpa using h0
 have hbl:(bB s).length=s.length:=by simp[bB]
 generalize hB:bB s=es at e3;cases e3 with
 |slcN h=>exact absurd (show s.length=0 by rw[←hbl,hB];rfl) hsl
 |slc hf hL hr hz hsp hcap=>
  subst hB
  rename_i cs vs q sz cap
  obtain⟨e0,he0,hg0,hv0⟩:=hsp;obtain⟨r,hr1,hr2⟩:=hH.arr he0;rw[har]at hr1;cases hr1;obtain⟨hgn,hkind⟩:=hr2;rcases hkind with⟨_,hn0⟩|⟨hnil,b1,b2,b3,b4,b5,b6,b7,cur,b8,b9⟩
  ·exact absurd hn0 hsl
  ·have hval:Value.slice (some q) (bB s).length cap=e0.val 0 (bB s).length:=by
    rcases hv0 (by rw[hbl,hgn])with⟨_,h⟩|⟨h,_⟩
    ·exact h
    ·rw[hnil]at h;cases h
   simp[BA.val,hnil]at hval;obtain⟨rfl,rfl⟩:=hval;rw[flat_bB]at hf;cases hf;have hvs:=ints_rep hL;subst hvs;rw[hbl]at e1;have hcur: ∀(j:Nat) (x:UInt8),s[j]? =some x→cur[j]? =some (.int .u8 x.toNat):=by
    intro j x hj;have:=(hr j (.int .u8 x.toNat) (by simp[hj])).1;rw[add_lit,Lib.cell_of_heap b8,Nat.zero_add]at this;exact this
   refine(str51 h0 e1 b8 b5 b6 (by simpa using b9) hcur).mono ?_;rintro e w' ⟨rfl,rfl⟩;have b8':w.drew.heap[e0.b]? =some (.cells cur 5 (0,0)):=b8;obtain⟨fz,hfz⟩:=frz_heap (n:=s.length) b8' hsl;have hoth: ∀k,k≠e0.b→(w.drew.freeze ⟨e0.b,0,none⟩ s.length).heap[k]? =w.heap[k]?:=fun k hk=>(frz_oth (w:=w.drew) hk).trans rfl;have hsize:(w.drew.freeze ⟨e0.b,0,none⟩ s.length).heap.size=w.heap.size:=(frz_size (w:=w.drew)).trans rfl;have hgg:e0.g<(⟨s.length+1,e0.b,e0.cap,e0.sz,true⟩:BA).g:=by show e0.g<s.length+1;omega
   have ev:Evo base U bs ar w U bs (ar.set a ⟨s.length+1,e0.b,e0.cap,e0.sz,true⟩) (w.drew.freeze ⟨e0.b,0,none⟩ s.length):=by
    refine⟨Lib.below_freeze (Below.drew (Below.refl base w)) (p:=⟨e0.b,0,none⟩) b1 _,fun _ _=>rfl,fun _=>Nat.le_refl _,fun ad _=>?_,BsLe.refl _,asLe_set he0 hgg,fun k _=>?_⟩
    ·by_cases hk:ad.block=e0.b
     ·obtain⟨bk,o,sp⟩:=ad;simp only at hk;subst hk;simp only[World.cell?,hfz,b8]
     ·exact World.cell?_of_block (hoth _ hk)
    ·by_cases hk:k=e0.b
     ·subst hk;simp only[csz,hfz,b8]
     ·exact csz_block (hoth _ hk)
   refine⟨_,rfl,U,bs,_,.str,hH.moveArr he0 hgg ev (Nat.le_of_eq hsize.symm) (.wr (s.length+1) 5 .sc []) ⟨rfl,.inl ⟨rfl,rfl⟩⟩ (fun k _ hk=>⟨hoth k (hk hnil),rfl⟩) (fun h=>by cases h) (fun k hk=>hH.fr k (by rw[hsize]at hk;exact hk)),ev⟩
theorem bld51n (hH:HRel base U bs ar w M) {id b:Nat} (hb:bs[id]? =some (some b)) (ho:M.objs[id]? =some (.bld 103 [.nilp,.slc .full []])):
  Calls Tryz.prog 51 #[.pointer (some ⟨b,0,none⟩)] w fun e w'=> ∃x,e=.returned x∧Good base U bs ar w (.str []) M x w':=by
 obtain⟨vs,h1,h2,h3⟩:=hH.oo id b _ hb ho;obtain⟨v0,rfl⟩:=h3 rfl;refine(str51n h1).mono ?_;rintro e w' ⟨rfl,rfl⟩;exact⟨_,rfl,U,bs,ar,.str,hH.drew,evo_drew hH.hb⟩
end
def unB (es:List AV):Str:=es.map fun a=>match a with
 | .int _ k=>UInt8.ofNat k.toNat
 |_=>0
theorem unB_bB (s:Str):unB (bB s)=s:=by
 unfold unB bB;rw[List.map_map]
 conv=>rhs;rw[←List.map_id s]
 apply List.map_congr_left;intro c _;simp
open Classical in
noncomputable def bldS (id:Nat) (M:Mem):Option (AV×Mem):=match M.objs[id]? with
 |some (.bld T [.nilp,.slc .full []])=>if T=103 then some (.str [],M)else none
 |some (.bld T [p,.slc (.own a) es])=>(match M.arrs[a]? with
  |some (.app n ty sz)=>if T=103∧selfP id p=true∧es=bB (unB es)∧es≠[]∧n=es.length∧ty=5∧sz=1 then some (.str (unB es),setArr M a (.wr (es.length+1) 5 .sc []))else none
  |_=>none)
 |_=>none
noncomputable def bldC:Caller:=fun f ags M=>
 if f=48 then(match ags with
  |[.ptr id 0,.str s]=>if s=[]then none else bldW id (bB s) (.tup [.int .i64 s.length,.nili]) M
  |_=>none)
 else if f=50 then(match ags with
  |[.ptr id 0,.int .u8 c]=>bldW id [.int .u8 c] .nili M
  |_=>none)
 else if f=51 then(match ags with
  |[.ptr id 0]=>bldS id M
  |_=>none)
 else none
theorem bldW_inv {id:Nat} {xs:List AV} {r v:AV} {M M':Mem} (h:bldW id xs r M=some (v,M')): ∃p bf b' M1,M.objs[id]? =some (.bld 103 [p,bf])∧selfP id p=true∧appS 5 .sc 1 bf xs M=some (b',M1)∧v=r∧M'=setObj M1 id (.bld 103 [.ptr id 0,b']):=by
 unfold bldW at h;split at h
 ·rename_i T p bf ho
  split at h
  ·rename_i hc
   obtain⟨rfl,hp⟩:=hc;split at h
   ·rename_i b' M1 ha
    simp only[Option.some.injEq,Prod.mk.injEq]at h;exact⟨p,bf,b',M1,ho,hp,ha,h.1.symm,h.2.symm⟩
   ·cases h
  ·cases h
 ·cases h
theorem bldC_ok {G:Nat→Option AV}:CallerOK Tryz.prog G bldC:=by
 intro f ags M v M' h base U bs ar w args hG hV hH;unfold bldC at h;split at h
 ·rename_i hf
  subst hf;split at h
  ·rename_i id s
   split at h
   ·cases h
   ·rename_i h0
    obtain⟨p,bf,b',M1,ho,hp,ha,rfl,rfl⟩:=bldW_inv h;cases hV with
    |cons a1 t=>
     cases t with
     |cons a2 t2=>
      cases t2;cases a1 with
      |ptr hb=>
       cases a2;exact⟨fn_enter ok48 _ _,bld48 hH hb ho hp h0 ha⟩
  ·cases h
 ·split at h
  ·rename_i hf
   subst hf;split at h
   ·rename_i id c
    obtain⟨p,bf,b',M1,ho,hp,ha,rfl,rfl⟩:=bldW_inv h;cases hV with
    |cons a1 t=>
     cases t with
     |cons a2 t2=>
      cases t2;cases a1 with
      |ptr hb=>
       cases a2;exact⟨fn_enter ok50 _ _,bld50 hH hb ho hp ha⟩
   ·cases h
  ·split at h
   ·rename_i hf
    subst hf;split at h
    ·rename_i id
     unfold bldS at h;split at h
     ·rename_i T ho
      split at h
      ·rename_i hT
       subst hT;cases h;cases hV with
       |cons a1 t=>
        cases t;cases a1 with
        |ptr hb=>exact⟨fn_enter ok51 _ _,bld51n hH hb ho⟩
      ·cases h
     ·rename_i T p a es ho
      split at h
      ·rename_i n ty sz har
       split at h
       ·rename_i hc
        obtain⟨rfl,hp,hes,hne,rfl,rfl,rfl⟩:=hc;simp only[Option.some.injEq,Prod.mk.injEq]at h;obtain⟨rfl,rfl⟩:=h;cases hV with
        |cons a1 t=>
         cases t;cases a1 with
         |ptr hb=>
          have hl:es.length=(unB es).length:=by simp[unB]
          have hne':unB es≠[]:=by
           intro hh;rw[hh]at hl;exact hne (List.eq_nil_of_length_eq_zero hl)
          rw[hl]at har⊢;rw[hes]at ho;exact⟨fn_enter ok51 _ _,bld51 hH hb ho hp hne' har⟩
       ·cases h
      ·cases h
     ·cases h
    ·cases h
   ·cases h
def BldAt (O:List Obj) (R:List Arr) (q r0:Nat) (acc:Str):Prop:=
 (acc=[]∧O[q]? =some (.bld 103 [.nilp,.slc .full []]))∨(acc≠[]∧ ∃a,r0≤a∧O[q]? =some (.bld 103 [.ptr q 0,.slc (.own a) (bB acc)])∧R[a]? =some (.app acc.length 5 1))
def RowF (r0:Nat) (R R':List Arr):Prop:= ∀b,b<r0→R'[b]? =R[b]?
theorem RowF.refl (r0:Nat) (R:List Arr):RowF r0 R R:=fun _ _=>rfl
theorem RowF.trans {r0:Nat} {R R1 R2:List Arr} (h:RowF r0 R R1) (k:RowF r0 R1 R2):RowF r0 R R2:=fun b hb=>(k b hb).trans (h b hb)
theorem RowF.app {r0:Nat} {R:List Arr} (h:r0≤R.length) (Y:List Arr):RowF r0 R (R++Y):=fun b hb=>List.getElem?_append_left (by omega)
theorem RowF.set {r0 a:Nat} (h:r0≤a) (R:List Arr) (x:Arr):RowF r0 R (R.set a x):=fun b hb=>List.getElem?_set_ne (by omega)
theorem BldAt.grow {O:List Obj} {R:List Arr} {q r0:Nat} {acc:Str} (h:BldAt O R q r0 acc) (X:List Obj) (Y:List Arr):BldAt (O++X) (R++Y) q r0 acc:=by
 rcases h with⟨h1,h2⟩|⟨h1,a,h2,h3,h4⟩
 ·exact .inl ⟨h1,get_old h2 X⟩
 ·exact .inr ⟨h1,a,h2,get_old h3 X,get_old h4 Y⟩
abbrev H48 (cl:Caller) (q r0:Nat):Prop:= ∀O R acc s,BldAt O R q r0 acc→s≠[]→acc.length+s.length<lim→r0≤R.length→ ∃O' R',cl 48 [.ptr q 0,.str s] ⟨O,R⟩=some (.tup [.int .i64 s.length,.nili],⟨O',R'⟩)∧BldAt O' R' q r0 (acc++s)∧Fro q O O'∧RowF r0 R R'∧R.length≤R'.length
abbrev H50 (cl:Caller) (q r0:Nat):Prop:= ∀O R acc (c:UInt8),BldAt O R q r0 acc→acc.length+1<lim→r0≤R.length→ ∃O' R',cl 50 [.ptr q 0,.int .u8 c.toNat] ⟨O,R⟩=some (.nili,⟨O',R'⟩)∧BldAt O' R' q r0 (acc++[c])∧Fro q O O'∧RowF r0 R R'∧R.length≤R'.length
abbrev H51 (cl:Caller) (q r0:Nat):Prop:= ∀O R acc,BldAt O R q r0 acc→ ∃R',cl 51 [.ptr q 0] ⟨O,R⟩=some (.str acc,⟨O,R'⟩)∧RowF r0 R R'
theorem bB_app (a b:Str):bB (a++b)=bB a++bB b:=by simp[bB]
theorem szOk_bB (a:Str):szOk 1 (bB a)=true:=by cases a<;>rfl
theorem app_bB {O:List Obj} {R:List Arr} {q r0:Nat} {acc s:Str} (h:BldAt O R q r0 acc) (hs:s≠[]) (hb:acc.length+s.length<lim) (hr:r0≤R.length) (v:AV):
  ∃O' R',bldW q (bB s) v ⟨O,R⟩=some (v,⟨O',R'⟩)∧BldAt O' R' q r0 (acc++s)∧Fro q O O'∧RowF r0 R R'∧R.length≤R'.length:=by
 obtain⟨c,s',rfl⟩: ∃c s',s=c::s':=by
  cases s with
  |nil=>exact absurd rfl hs
  |cons c s'=>exact⟨c,s',rfl⟩
 have hz:=szOk_bB (c::s');have hz2:=szOk_bB acc;have hl:(bB (c::s')).length=(c::s').length:=by simp[bB]
 have hl2:(bB acc).length=acc.length:=by simp[bB]
 unfold lim at hb;simp only[List.length_cons]at hb hl;have hcons:bB (c::s')=.int .u8 c.toNat::bB s':=rfl;have hne:acc++c::s'≠[]:=by simp
 rcases h with⟨rfl,h2⟩|⟨h1,a,h2,h3,h4⟩
 ·have hlt:=(List.getElem?_eq_some_iff.1 h2).1;have hap:appS 5 .sc 1 (.slc .full []) (bB (c::s')) ⟨O,R⟩=some (.slc (.own R.length) (bB (c::s')),⟨O,R++[.app (c::s').length 5 1]⟩):=by
   have b1:(s'.length+1)*1≤140737488355328:=by omega
   have b2:s'.length+1≤140737488355328:=by omega
   have hl3:(bB s').length=s'.length:=by simp[bB]
   rw[hcons]at hz⊢;simp[appS,hz,hl3,b2]
  refine⟨O.set q (.bld 103 [.ptr q 0,.slc (.own R.length) (bB (c::s'))]),R++[.app (c::s').length 5 1],?_,.inr ⟨hne,R.length,hr,List.getElem?_set_self hlt,by simp⟩,.set _ _ _,.app hr _,by simp⟩;unfold bldW;simp only[h2];rw[if_pos ⟨trivial,rfl⟩,hap];rfl
 ·have hlt:=(List.getElem?_eq_some_iff.1 h3).1;have hla:=(List.getElem?_eq_some_iff.1 h4).1;have hap:appS 5 .sc 1 (.slc (.own a) (bB acc)) (bB (c::s')) ⟨O,R⟩=some (.slc (.own a) (bB (acc++c::s')),⟨O,R.set a (.app (acc++c::s').length 5 1)⟩):=by
   have b2:acc.length+(s'.length+1)≤140737488355328:=by omega
   have hl3:(bB s').length=s'.length:=by simp[bB]
   rw[bB_app];rw[hcons]at hz⊢;simp[appS,hz,hz2,hl2,hl3,b2,h4]
  refine⟨O.set q (.bld 103 [.ptr q 0,.slc (.own a) (bB (acc++c::s'))]),R.set a (.app (acc++c::s').length 5 1),?_,.inr ⟨hne,a,h2,List.getElem?_set_self hlt,List.getElem?_set_self hla⟩,.set _ _ _,.set h2 _ _,by simp⟩;unfold bldW;simp only[h3];rw[if_pos ⟨trivial,by simp[selfP]⟩,hap];rfl
theorem x48 {q r0:Nat}:H48 bldC q r0:=fun O R acc s h hs hb hr=>by
 obtain⟨O',R',h1,h2⟩:=app_bB h hs hb hr (.tup [.int .i64 s.length,.nili]);refine⟨O',R',?_,h2⟩;unfold bldC;rw[if_pos rfl];simp only;rw[if_neg hs];exact h1
theorem x50 {q r0:Nat}:H50 bldC q r0:=fun O R acc c h hb hr=>by
 obtain⟨O',R',h1,h2⟩:=app_bB h (s:=[c]) (by simp) (by simpa using hb) hr .nili;refine⟨O',R',?_,h2⟩;unfold bldC;rw[if_neg (by decide),if_pos rfl];exact h1
theorem x51 {q r0:Nat}:H51 bldC q r0:=fun O R acc h=>by
 rcases h with⟨rfl,h2⟩|⟨h1,a,h2,h3,h4⟩
 ·refine⟨R,?_,.refl _ _⟩;unfold bldC;rw[if_neg (by decide),if_neg (by decide),if_pos rfl];simp only;unfold bldS;simp only[h2,if_true]
 ·refine⟨R.set a (.wr (acc.length+1) 5 .sc []),?_,.set h2 _ _⟩;have hl2:(bB acc).length=acc.length:=by simp[bB]
  have hne:bB acc≠[]:=by
   intro hh;rw[hh]at hl2;exact h1 (List.eq_nil_of_length_eq_zero hl2.symm)
  unfold bldC;rw[if_neg (by decide),if_neg (by decide),if_pos rfl];simp only;unfold bldS;simp only[h3,h4];rw[if_pos ⟨rfl,by simp[selfP],by rw[unB_bB],hne,hl2.symm,rfl,rfl⟩,unB_bB,hl2];rfl
def parW:List Vr→List Str
 |[]=>[]
 |[v]=>[snm v.so,v.nm]
 |v::u::l=>snm v.so::v.nm::wCom::parW (u::l)
theorem parW_snoc: ∀(l:List Vr) (v:Vr),parW (l++[v])=if l=[]then [snm v.so,v.nm]else parW l++[wCom,snm v.so,v.nm]
 |[],v=>rfl
 |[u],v=>rfl
 |u::z::l,v=>by
  have:=parW_snoc (z::l) v;simp only[List.cons_append,parW,if_neg (List.cons_ne_nil _ _)]at this⊢;rw[this]
theorem parW_len: ∀l:List Vr,(parW l).length≤3*l.length
 |[]=>by simp[parW]
 |[v]=>by simp[parW]
 |v::u::l=>by
  have:=parW_len (u::l);simp only[parW,List.length_cons]at this⊢;omega
def headW (nm:Str) (ps:List Vr):List Str:=wLet::nm::wL::parW ps
def lnW (m:Mc) (body:Str):List Str:=headW m.nm m.ps++[wR,wCol,body,wSem]
def lnT (m:Mc) (body:Str):Str:=Lib.join (lnW m body) [32]++[10]
def RwW (n:Nat) (R:List Arr) (s1:Sp) (R':List Arr):Prop:=(s1=.full∧R'=R)∨(s1=.own R.length∧R'=R++[.app n 9 1])
theorem appW_ok {R R':List Arr} {s1:Sp} (ws:List Str) (h:RwW ws.length R s1 R') (x:Str) (xs:List Str) (O:List Obj) (hn:ws.length+xs.length+1<lim):
  appS 9 .sc 16 (.slc s1 (ws.map .str)) (.str x::xs.map .str) ⟨O,R'⟩=some (.slc (.own R.length) ((ws++x::xs).map .str),⟨O,R++[.app (ws++x::xs).length 9 1]⟩):=by
 unfold lim at hn;have h1:(ws.length+(xs.length+1))*16≤140737488355328:=by omega
 have h2:ws.length+(xs.length+1)≤140737488355328:=by omega
 have z1:=szOk_strL ws;have z2:szOk 1 (AV.str x::xs.map .str)=true:=szOk_strL (x::xs);rcases h with⟨rfl,rfl⟩|⟨rfl,rfl⟩
 ·simp[appS,z1,z2,h1,h2]
 ·simp[appS,z1,z2,h1,h2]
section
variable {cl:Caller} {yl:Nat→List AV→Mem→Option (AV×Mem)} {N:Nat}
theorem loop18 {G:Nat→Option AV} (nm body:Str) (ps:List Vr) {q:Nat} {sp:Sp} {w:List Mc} {i0:Nat} (O:List Obj) (R:List Arr) (hb:ps.length<1073741824) (hN:ps.length<N) (h47: ∀k M,cl 47 [.int .i64 k] M=some (.str (snm k),M)) (kk mm:Nat):
  ∃e s',iter false (evalC G false cl yl N c18b0) ⟨[4,7,9,17,18,19,36,37,38],[(9,none),(38,none)],true⟩ kk mm N ⟨[(4,.ptr q 0),(7,.str body),(9,.slc .full [.str wLet,.str nm,.str wL]),(17,.slc sp (w.map mcv)),(18,.int .i64 w.length),(19,.int .i64 (i0:Nat)),(36,.slc .shared (ps.map vrv)),(37,.int .i64 ps.length),(38,.int .i64 ((0:Nat):Int))],⟨O,R⟩,[]⟩=some (e,s')∧e≠ .normal∧
   (e=.exit 2∧s'.mks=[]∧ ∃X s1 R',s'.m=⟨O++X,R'⟩∧look 4 s'.ts=.ptr q 0∧look 7 s'.ts=.str body∧look 9 s'.ts=.slc s1 ((headW nm ps).map .str)∧look 17 s'.ts=.slc sp (w.map mcv)∧look 18 s'.ts=.int .i64 w.length∧look 19 s'.ts=.int .i64 (i0:Nat)∧RwW (headW nm ps).length R s1 R'):=by
 refine(iter_inv (mu:=false) (step:=evalC G false cl yl N c18b0) (an:=⟨[4,7,9,17,18,19,36,37,38],[(9,none),(38,none)],true⟩) (k:=kk) (m:=mm) (N:=N) ps (fun _=>(none:Option Unit))
  (fun i st=> ∃X s1 R',st=⟨[(4,.ptr q 0),(7,.str body),(9,.slc s1 ((headW nm (ps.take i)).map .str)),(17,.slc sp (w.map mcv)),(18,.int .i64 w.length),(19,.int .i64 (i0:Nat)),(36,.slc .shared (ps.map vrv)),(37,.int .i64 ps.length),(38,.int .i64 (i:Nat))],⟨O++X,R'⟩,[]⟩∧RwW (headW nm (ps.take i)).length R s1 R')
  (fun r e s'=>e=.exit 2∧s'.mks=[]∧ ∃X s1 R',s'.m=⟨O++X,R'⟩∧look 4 s'.ts=.ptr q 0∧look 7 s'.ts=.str body∧look 9 s'.ts=.slc s1 ((headW nm ps).map .str)∧look 17 s'.ts=.slc sp (w.map mcv)∧look 18 s'.ts=.int .i64 w.length∧look 19 s'.ts=.int .i64 (i0:Nat)∧RwW (headW nm ps).length R s1 R') hN ⟨[],.full,R,by simp[headW,parW],.inl ⟨rfl,rfl⟩⟩ ?_ ?_)
 ·rintro i v st hx hi ⟨X,s1,R',rfl,hA⟩;have hx':=(List.getElem?_eq_some_iff.1 hx).2;have w1:=wrap_succ (i:=i) (by omega);have hcl:=parW_len (ps.take i);have hlt:(ps.take i).length≤i:=by simp;omega
  have k47:=h47 v.so;have e0:headW nm (ps.take (i+1))=wLet::nm::wL::parW (ps.take i++[v]):=by rw[take_succ_of hx];rfl
  have hne:ps.take i=[]↔i=0:=by
   constructor
   ·intro h;have:=congrArg List.length h;simp at this;rcases this with h|h
    ·exact h
    ·subst h;simp at hi
   ·rintro rfl;rfl
  rw[e0,parW_snoc];by_cases h0:i=0
  ·rw[if_pos (hne.2 h0)];have hp:=appW_ok (headW nm (ps.take i)) hA (snm v.so) [v.nm] (O++X++[.cells (vrc v)]) (by unfold lim;simp only[headW,List.length_cons,List.length_nil];omega);rw[hne.2 h0]at hp⊢;have h0': ¬(0:Int)<(i:Int):=by omega
   have h0n: ¬0<i:=by omega
   generalize snm v.so=sw at*;simp only[headW,parW,wLet,wL,List.map_cons,List.map_nil,List.cons_append,List.nil_append,vrc]at hp⊢;simp -implicitDefEqProofs [-appS]at hp;simp -implicitDefEqProofs [-appS,c18b0,hi,hx',w1,h0',h0n,k47,hp];exact⟨_,_,_,⟨rfl,rfl,rfl⟩,.inr ⟨rfl,rfl⟩⟩
  ·rw[if_neg (fun h=>h0 (hne.1 h))];have h0':(0:Int)<(i:Int):=by omega
   have hi0:0<i:=by omega
   have hp:=appW_ok (headW nm (ps.take i)) hA wCom [] (O++X++[.cells (vrc v)]) (by unfold lim;simp only[headW,List.length_cons,List.length_nil];omega);have hA2:RwW (headW nm (ps.take i)++[wCom]).length R (.own R.length) (R++[.app (headW nm (ps.take i)++[wCom]).length 9 1]):=.inr ⟨rfl,rfl⟩;have hp2:=appW_ok (headW nm (ps.take i)++[wCom]) hA2 (snm v.so) [v.nm] (O++X++[.cells (vrc v)]) (by unfold lim;simp only[headW,List.length_append,List.length_cons,List.length_nil];omega);generalize snm v.so=sw at*;simp only[headW,wLet,wL,wCom,List.map_cons,List.map_nil,List.map_append,List.cons_append,List.nil_append,List.append_assoc,vrc,List.length_cons,List.length_append,List.length_nil]at hp hp2⊢;simp -implicitDefEqProofs [-appS]at hp hp2;simp -implicitDefEqProofs [-appS,c18b0,hi,hx',w1,h0',hi0,k47,hp,hp2];exact⟨_,_,_,⟨rfl,rfl,rfl⟩,.inr ⟨rfl,rfl⟩⟩
 ·rintro st ⟨X,s1,R',rfl,hA⟩;rw[List.take_length]at hA⊢;simp -implicitDefEqProofs [c18b0];exact⟨X,s1,R',⟨rfl,rfl⟩,rfl,hA⟩
end
def errG (m:Mc):Option Int:=if(nodR m.bd).2=0 then none else some (nodR m.bd).2
def accT:List Mc→Str
 |[]=>[]
 |m::w=>lnT m (nodR m.bd).1++accT w
theorem accT_app (a b:List Mc):accT (a++b)=accT a++accT b:=by
 induction a with
 |nil=>rfl
 |cons m a ih=>simp[accT,ih]
def fmtR (w:List Mc):Str×Int:=match w.findSome? errG with
 |some e=>([],e)
 |none=>(accT w,0)
structure Cs18 (cl:Caller) (w:List Mc) (q r0:Nat):Prop where
 h46: ∀m∈w,∀M,cl 46 [av m.bd] M=some (.tup [.str (nodR m.bd).1,.int .i64 (nodR m.bd).2],M)
 h47: ∀k M,cl 47 [.int .i64 k] M=some (.str (snm k),M)
 h49: ∀m∈w,∀a M,cl 49 [.slc (.own a) ((lnW m (nodR m.bd).1).map .str),.str [32]] M=some (.str (Lib.join (lnW m (nodR m.bd).1) [32]),M)
 h48:H48 cl q r0
 h50:H50 cl q r0
 h51:H51 cl q r0
structure Ok18 (w:List Mc):Prop where
 ps: ∀m∈w,m.ps.length<1073741824
 tx: ∀m∈w,(lnT m (nodR m.bd).1).length<10000000
 n:w.length≤64
theorem join_ne (m:Mc) (b:Str):Lib.join (lnW m b) [32]≠[]:=by
 have:lnW m b=wLet::m.nm::(lnW m b).drop 2:=by simp[lnW,headW]
 rw[this,joinW_cons];simp[wLet]
theorem accT_len {w:List Mc} (h: ∀m∈w,(lnT m (nodR m.bd).1).length<10000000):(accT w).length≤10000000*w.length:=by
 induction w with
 |nil=>simp[accT]
 |cons m w ih=>
  have h1:=ih fun x hx=>h x (List.mem_cons_of_mem _ hx);have h2:=h m (List.mem_cons_self ..);simp only[accT,List.length_append,List.length_cons];omega
section
variable {cl:Caller} {yl:Nat→List AV→Mem→Option (AV×Mem)} {N:Nat}
theorem step18 {G:Nat→Option AV} {q r0:Nat} {w:List Mc} (c:Cs18 cl w q r0) (k:Ok18 w) {i:Nat} {m:Mc} (hx:w[i]? =some m) {sp:Sp} {O:List Obj} {R:List Arr} {acc:Str} (hB:BldAt O R q r0 acc) (hq:q<O.length) (hr:r0≤R.length) (ha:acc.length≤1000000000) (he:(nodR m.bd).2=0) (hN: ∀m∈w,m.ps.length<N):
  ∃ts1 O3 R3,evalC G false cl yl N c18b1 ⟨[(4,.ptr q 0),(17,.slc sp (w.map mcv)),(18,.int .i64 w.length),(19,.int .i64 (i:Nat))],⟨O,R⟩,[]⟩=some (.normal,⟨ts1,⟨O3,R3⟩,[]⟩)∧keepT ts1 [4,17,18,19]=[(4,.ptr q 0),(17,.slc sp (w.map mcv)),(18,.int .i64 w.length),(19,.int .i64 ((i+1:Nat):Int))]∧
   BldAt O3 R3 q r0 (acc++lnT m (nodR m.bd).1)∧Fro q O O3∧RowF r0 R R3∧R.length≤R3.length:=by
 have hil:=(List.getElem?_eq_some_iff.1 hx).1;have hx':=(List.getElem?_eq_some_iff.1 hx).2;have hm:=List.mem_of_getElem? hx;have hps:=k.ps m hm;have htx:=k.tx m hm;have hn:=k.n;have k46:=c.h46 m hm;have k49:=c.h49 m hm R.length;have w1:=wrap_succ (i:=i) (by omega);rw[he]at k46;obtain⟨e,⟨ts,M,mks⟩,k1,-,rfl,rfl,X,s1,R',rfl,l4,l7,l9,l17,l18,l19,hA⟩:=loop18 (G:=G) (cl:=cl) (yl:=yl) (N:=N) m.nm (nodR m.bd).1 m.ps (q:=q) (sp:=sp) (w:=w) (i0:=i) (O++[.cells (mcc m)]) R hps (hN m hm) c.h47 (O++[Obj.cells (mcc m)]).length R.length;have hap:=appW_ok (headW m.nm m.ps) hA wR [wCol,(nodR m.bd).1,wSem] (O++[.cells (mcc m)]++X) (by have:=parW_len m.ps;unfold lim;simp only[headW,List.length_cons,List.length_nil];omega);have hB1:=hB.grow ([.cells (mcc m)]++X) [.app (headW m.nm m.ps++wR::[wCol,(nodR m.bd).1,wSem]).length 9 1];rw[←List.append_assoc]at hB1;have hjl:(Lib.join (lnW m (nodR m.bd).1) [32]).length<10000000:=by
  unfold lnT at htx;rw[List.length_append]at htx;omega
 have hlw:lnW m (nodR m.bd).1=headW m.nm m.ps++wR::[wCol,(nodR m.bd).1,wSem]:=rfl;obtain⟨O2,R2,k48,b2,f2,r2,n2⟩:=c.h48 _ _ acc (Lib.join (lnW m (nodR m.bd).1) [32]) hB1 (join_ne _ _) (by unfold lim;omega) (by simp;omega);obtain⟨O3,R3,k50,b3,f3,r3,n3⟩:=c.h50 O2 R2 _ 10 b2 (by rw[List.length_append];unfold lim;omega) (by have:=n2;simp at this;omega);have hfr:Fro q O (O++[.cells (mcc m)]++X):=(Fro.app q O _).trans (.app _ _ _);have hrr:RowF r0 R (R++[.app (headW m.nm m.ps++wR::[wCol,(nodR m.bd).1,wSem]).length 9 1]):=.app hr _;rw[hlw]at k49 k48;generalize Lib.join (headW m.nm m.ps++wR::[wCol,(nodR m.bd).1,wSem]) [32]=line at*;have hu:((10:UInt8).toNat:Int)=10:=rfl;rw[hu]at k50
 suffices hx: ∃ts1,evalC G false cl yl N c18b1 ⟨[(4,.ptr q 0),(17,.slc sp (w.map mcv)),(18,.int .i64 w.length),(19,.int .i64 (i:Nat))],⟨O,R⟩,[]⟩=some (.normal,⟨ts1,⟨O3,R3⟩,[]⟩)∧keepT ts1 [4,17,18,19]=[(4,.ptr q 0),(17,.slc sp (w.map mcv)),(18,.int .i64 w.length),(19,.int .i64 ((i+1:Nat):Int))]by
  obtain⟨ts1,z1,z2⟩:=hx;exact⟨ts1,O3,R3,z1,z2,by unfold lnT;rw[←List.append_assoc];exact b3,(hfr.trans f2).trans f3,(hrr.trans r2).trans r3,by have:=n2;simp at this;omega⟩
 clear hB hB1 b2 b3 f2 f3 r2 r3 hfr hrr c k hA n2 n3 htx hjl hlw;generalize nodR m.bd=nb at*;obtain⟨body,ee⟩:=nb;simp only at he k46 k49 k1 hap k48 l4 l7 l9 l17 l18 l19 k50;subst he;simp only[wR,wCol,wSem,wLet,wL,List.map_cons,List.map_nil]at hap k1 k49;simp -implicitDefEqProofs [mcc_eq]at k1;simp -implicitDefEqProofs [-appS,mcc_eq]at hap;simp -implicitDefEqProofs at k49;simp -implicitDefEqProofs [mcc_eq]at k48;apply Exists.intro;apply And.intro
 ·simp -implicitDefEqProofs [-appS,c18b1,hil,hx',mcc_eq,k46,k1,l4,l7,l9,l17,l18,l19,hap,k49,k48,k50,w1];rfl
 ·simp[l4,l7,l9,l17,l18,l19]
end
section
variable {cl:Caller} {yl:Nat→List AV→Mem→Option (AV×Mem)} {N:Nat}
theorem loop18o {G:Nat→Option AV} {q r0:Nat} {w:List Mc} (c:Cs18 cl w q r0) (k:Ok18 w) {sp:Sp} {O:List Obj} {R:List Arr} (hB:BldAt O R q r0 []) (hq:q<O.length) (hr:r0≤R.length) (hN: ∀m∈w,m.ps.length<N) (hwN:w.length<N) (kk mm:Nat):
  ∃e s',iter false (evalC G false cl yl N c18b1) ⟨[4,17,18,19],[(19,none)],true⟩ kk mm N ⟨[(4,.ptr q 0),(17,.slc sp (w.map mcv)),(18,.int .i64 w.length),(19,.int .i64 ((0:Nat):Int))],⟨O,R⟩,[]⟩=some (e,s')∧e≠ .normal∧
   (s'.mks=[]∧ ∃O' R',s'.m=⟨O',R'⟩∧Fro q O O'∧RowF r0 R R'∧match w.findSome? errG with
    |none=>e=.exit 0∧look 4 s'.ts=.ptr q 0∧BldAt O' R' q r0 (accT w)
    |some r=>e=.ret∧look 2 s'.ts=.str []∧look 3 s'.ts=.int .i64 r):=by
 refine iter_inv (mu:=false) (step:=evalC G false cl yl N c18b1) (an:=⟨[4,17,18,19],[(19,none)],true⟩) (k:=kk) (m:=mm) (N:=N) w errG
  (fun i st=> ∃O1 R1,st=⟨[(4,.ptr q 0),(17,.slc sp (w.map mcv)),(18,.int .i64 w.length),(19,.int .i64 (i:Nat))],⟨O1,R1⟩,[]⟩∧BldAt O1 R1 q r0 (accT (w.take i))∧Fro q O O1∧RowF r0 R R1∧R.length≤R1.length)
  (fun r e s'=>s'.mks=[]∧ ∃O' R',s'.m=⟨O',R'⟩∧Fro q O O'∧RowF r0 R R'∧match r with
    |none=>e=.exit 0∧look 4 s'.ts=.ptr q 0∧BldAt O' R' q r0 (accT w)
    |some r=>e=.ret∧look 2 s'.ts=.str []∧look 3 s'.ts=.int .i64 r) hwN ⟨O,R,rfl,hB,.refl _ _,.refl _ _,Nat.le_refl _⟩ ?_ ?_
 ·rintro i m st hx hi ⟨O1,R1,rfl,hB1,f1,r1,n1⟩;have hacc:(accT (w.take i)).length≤1000000000:=by
   have h1:=accT_len (w:=w.take i) fun x hx=>k.tx x (List.mem_of_mem_take hx);have h2:=k.n;have h3:(w.take i).length≤64:=by simp;omega
   omega
  have hq1:q<O1.length:=by have:=f1.len;omega
  by_cases he:(nodR m.bd).2=0
  ·obtain⟨ts1,O3,R3,z1,z2,b3,f3,r3,n3⟩:=step18 (G:=G) (yl:=yl) c k hx (sp:=sp) hB1 hq1 (by omega) hacc he hN;have e1:errG m=none:=by unfold errG;rw[if_pos he]
   rw[e1];simp only[z1,Post];refine⟨trivial,O3,R3,?_,?_,f1.trans f3,r1.trans r3,by omega⟩
   ·simp only[tidy,Bool.false_eq_true,if_false,if_true,z2]
   ·rw[take_succ_of hx,accT_app];simpa[accT] using b3
  ·have e1:errG m=some (nodR m.bd).2:=by unfold errG;rw[if_neg he]
   rw[e1];have hx':=(List.getElem?_eq_some_iff.1 hx).2;have k46:=c.h46 m (List.mem_of_getElem? hx);have he':((nodR m.bd).2 !=0)=true:=by simp[he]
   have hf:Fro q O (O1++[.cells (mcc m)]):=f1.trans (.app _ _ _);generalize nodR m.bd=nb at*
   suffices hx: ∃ts1,evalC G false cl yl N c18b1 ⟨[(4,.ptr q 0),(17,.slc sp (w.map mcv)),(18,.int .i64 w.length),(19,.int .i64 (i:Nat))],⟨O1,R1⟩,[]⟩=some (.ret,⟨ts1,⟨O1++[.cells (mcc m)],R1⟩,[]⟩)∧look 2 ts1=.str []∧look 3 ts1=.int .i64 nb.2 by
    obtain⟨ts1,z1,z2,z3⟩:=hx;simp only[z1,Post];exact⟨by simp,trivial,_,_,rfl,hf,r1,trivial,z2,z3⟩
   clear hB1 f1 r1 n1 hf c k hB;apply Exists.intro;apply And.intro
   ·simp -implicitDefEqProofs [c18b1,hi,hx',mcc_eq,k46,he,he'];rfl
   ·refine⟨?_,?_⟩<;>first|rfl|simp
 ·rintro st ⟨O1,R1,rfl,hB1,f1,r1,n1⟩;rw[List.take_length]at hB1;simp -implicitDefEqProofs [c18b1];exact⟨O1,R1,⟨rfl,rfl⟩,f1,r1,hB1⟩
theorem ev18 {G:Nat→Option AV} {w:List Mc} {id:Nat} {a:Option Nat} {O:List Obj} {R:List Arr} (hs:SetAt O R id a w) (c:Cs18 cl w O.length R.length) (k:Ok18 w) (hN: ∀m∈w,m.ps.length<N) (hwN:w.length<N):
  ∃O' R',callA G false cl yl N c18 [.ptr id 0] ⟨O,R⟩=some (.tup [.str (fmtR w).1,.int .i64 (fmtR w).2],⟨O',R'⟩)∧Old O O'∧Old R R':=by
 obtain⟨sp,hg⟩:=hs.get;have hid:id<O.length:=(List.getElem?_eq_some_iff.1 hg).1;have hg':=get_old hg [.bld 103 [.nilp,.slc .full []]];have hB:BldAt (O++[.bld 103 [.nilp,.slc .full []]]) R O.length R.length []:=.inl ⟨rfl,by simp⟩;obtain⟨e,⟨ts,M,mks⟩,j1,-,rfl,O1,R1,rfl,f1,r1,j2⟩:=loop18o (G:=G) (yl:=yl) (N:=N) c k (sp:=sp) hB (by simp) (Nat.le_refl _) hN hwN (O++[Obj.bld 103 [.nilp,.slc .full []]]).length R.length;have hO:Old O O1:=fun i x hi=>by
  have hil:=(List.getElem?_eq_some_iff.1 hi).1;exact f1.old (get_old hi _) (by omega)
 have hR:Old R R1:=fun b x hb=>by rw[r1 b (List.getElem?_eq_some_iff.1 hb).1];exact hb
 have h51:=c.h51;unfold fmtR;cases hf:w.findSome? errG with
 |none=>
  rw[hf]at j2;obtain⟨rfl,l4,b1⟩:=j2;obtain⟨R2,k51,r2⟩:=h51 O1 R1 (accT w) b1;have hR2:Old R R2:=fun b x hb=>by rw[r2 b (List.getElem?_eq_some_iff.1 hb).1];exact hR b x hb
  refine⟨O1,R2,?_,hO,hR2⟩;simp -implicitDefEqProofs at j1 l4;simp -implicitDefEqProofs [c18,hg',j1,l4,k51]
 |some r=>
  rw[hf]at j2;obtain⟨rfl,l2,l3⟩:=j2;refine⟨O1,R1,?_,hO,hR⟩;simp -implicitDefEqProofs at j1 l2 l3;simp -implicitDefEqProofs [c18,hg',j1,l2,l3]
end
end Go.Proofs.Ae
namespace Go.Proofs.Ae
open Go Go.RowKit
set_option maxRecDepth 100000
theorem parL_ids: ∀(ps done:List Vr),parL done ps=0→ ∀v∈ps,isId v.nm=true∧0≤v.so∧v.so<4
 |[],_,_,v,h=>by cases h
 |u::ps,done,h,v,hv=>by
  unfold parL at h;split at h
  ·cases h
  ·rename_i h1
   split at h
   ·cases h
   ·rename_i h2
    split at h
    ·cases h
    ·rcases List.mem_cons.1 hv with rfl|hv
     ·exact⟨by simpa using h1,by omega,by omega⟩
     ·exact parL_ids ps _ h v hv
theorem parE_ids {ps:List Vr} (h:parE ps=0): ∀v∈ps,isId v.nm=true∧0≤v.so∧v.so<4:=by
 unfold parE at h;split at h
 ·cases h
 ·exact parL_ids ps [] h
theorem parW_wd: ∀{ps:List Vr},(∀v∈ps,isId v.nm=true∧0≤v.so∧v.so<4)→ ∀x∈parW ps,Wd x
 |[],_,x,hx=>by cases hx
 |[v],h,x,hx=>by
  simp only[parW,List.mem_cons,List.not_mem_nil,or_false]at hx;have:=h v (by simp);rcases hx with rfl|rfl
  ·exact snm_wd this.2
  ·exact .inl this.1
 |v::u::l,h,x,hx=>by
  simp only[parW,List.mem_cons]at hx;have:=h v (by simp);rcases hx with rfl|rfl|rfl|hx
  ·exact snm_wd this.2
  ·exact .inl this.1
  ·exact wdM (by decide)
  ·exact parW_wd (ps:=u::l) (fun z hz=>h z (List.mem_cons_of_mem _ hz)) x hx
theorem wf_md {w:List Mc} (h:Wf w): ∀m∈w,∃u,Md u m:=by
 intro m hm;obtain⟨u,v,rfl⟩:=List.append_of_mem hm;exact⟨u,may_md (h u m v rfl)⟩
theorem nodR_len (n:Nd):(nodR n).1.length≤65536:=by
 unfold nodR;split
 ·split
  ·simp
  ·show(prT n).length≤65536;omega
 ·simp
theorem headW_wd {u:List Mc} {m:Mc} (h:Md u m): ∀x∈headW m.nm m.ps,Wd x:=by
 intro x hx;simp only[headW,List.mem_cons]at hx;rcases hx with rfl|rfl|rfl|hx
 ·exact wdM (by decide)
 ·exact .inl h.id
 ·exact wdM (by decide)
 ·exact parW_wd (parE_ids h.ps) x hx
theorem lnW_ok {u:List Mc} {m:Mc} (h:Md u m):(∀x∈lnW m (nodR m.bd).1,x.length≤65536)∧(lnW m (nodR m.bd).1).length≤25:=by
 have h6:=parE_len h.ps;have hl:=parW_len m.ps;have hn:=nodR_len m.bd;refine⟨fun x hx=>?_,?_⟩
 ·unfold lnW at hx;rcases List.mem_append.1 hx with hx|hx
  ·have:=(headW_wd h x hx).len;omega
  ·simp only[List.mem_cons,List.not_mem_nil,or_false]at hx;rcases hx with rfl|rfl|rfl|rfl
   ·simp[wR]
   ·simp[wCol]
   ·exact hn
   ·simp[wSem]
 ·simp only[lnW,headW,List.length_append,List.length_cons,List.length_nil];omega
theorem okw18 {w:List Mc} (hg:Gd w) (hw:Wf w):Ok18 w:=by
 refine⟨fun m hm=>?_,fun m hm=>?_,hg.len⟩
 ·obtain⟨u,hu⟩:=wf_md hw m hm;have:=parE_len hu.ps;omega
 ·obtain⟨u,hu⟩:=wf_md hw m hm;obtain⟨h1,h2⟩:=lnW_ok hu;have:=sum_join_le _ 65536 h1;unfold lnT;rw[List.length_append,List.length_singleton];omega
section
variable {t N:Nat}
noncomputable abbrev B4 (t N k:Nat):Caller:=BW (GG t) (orcOf (T4 t)) N k
def s18 (f:Nat):Bool:=Nat.beq f 48||Nat.beq f 50||Nat.beq f 51
noncomputable def K18 (t N:Nat):Caller:=twoC s18 bldC (B4 t N 1000)
theorem k18_ok:CallerOK Tryz.prog (GG t) (K18 t N):=twoC_ok bldC_ok (both_ok (T:=TW (orcOf (T4 t))) hmix kis tabOK (orcW_ok t4ok) 1000 false).1
theorem x18 {w:List Mc} (hg:Gd w) (hw:Wf w) {id:Nat} {a:Option Nat} {O:List Obj} {R:List Arr} (hs:SetAt O R id a w) (hN:65<N):
  ∃O' R',callA (GG t) false (K18 t N) (YW (GG t) (orcOf (T4 t)) N 1000) N c18 [.ptr id 0] ⟨O,R⟩=some (.tup [.str (fmtR w).1,.int .i64 (fmtR w).2],⟨O',R'⟩)∧Old O O'∧Old R R':=by
 have c1: ∀{f:Nat} {ags:List AV} {M:Mem},s18 f=true→K18 t N f ags M=bldC f ags M:=fun h=>by unfold K18;exact twoC_t h
 have c2: ∀{f:Nat} {ags:List AV} {M:Mem},s18 f=false→K18 t N f ags M=B4 t N 1000 f ags M:=fun h=>by unfold K18;exact twoC_f h
 have hlen:=hg.len;refine ev18 hs ⟨fun m hm M=>?_,fun k M=>?_,fun m hm a M=>?_,fun O R acc s h1 h2 h3 h4=>?_,fun O R acc c h1 h2 h3=>?_,fun O R acc h=>?_⟩ (okw18 hg hw) (fun m hm=>?_) (by omega)
 ·rw[c2 rfl];exact bw_sp (k:=999) (spC_v av1_inj m.bd (by repeat first|exact .here|refine .there ?_ rfl) (by exact(hg.ok m hm).bd) (by exact a1 m.bd) (by rfl) M)
 ·rw[c2 rfl];exact bw_pure (k:=999) (cf:=c47) (by unfold orcW;split<;>rfl) rfl rfl rfl rfl (ev47 k) M
 ·rw[c2 rfl];obtain⟨u,hu⟩:=wf_md hw m hm;obtain⟨h1,h2⟩:=lnW_ok hu;have h3:=sum_join_le _ 65536 h1;exact bw_sp (k:=999) (spC_v joinE_inj (lnW m (nodR m.bd).1,[32]) (by repeat first|exact .here|refine .there ?_ rfl) (by exact⟨by show(Lib.join (lnW m (nodR m.bd).1) [32]).length≤joinB;unfold joinB;omega,by show(lnW m (nodR m.bd).1).length≤joinB;unfold joinB;omega⟩) (by rfl) (by rfl) M)
 ·rw[c1 rfl];exact x48 O R acc s h1 h2 h3 h4
 ·rw[c1 rfl];exact x50 O R acc c h1 h2 h3
 ·rw[c1 rfl];exact x51 O R acc h
 ·obtain⟨u,hu⟩:=wf_md hw m hm;have:=parE_len hu.ps;omega
end
end Go.Proofs.Ae
