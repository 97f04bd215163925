/- Further functions: what they answer, and what that means. -/
import Derived.Test.YtjkmcceipabejaaGreatDoorL
set_option linter.unusedSimpArgs false
set_option linter.unusedVariables false
set_option linter.unusedSectionVars false
namespace Go.Proofs.Ae
open Go Go.RowKit
def kD (n:Nd):Bool:=
 if n.op=7 then decide (0<=n.nn)&&decide (n.nn<=7)
 else if n.op=8 then decide (1<=n.mm)&&decide (n.mm<=64)&&decide (0<=n.nn)&&decide (n.nn<n.mm)
 else decide (0<=n.so)&&decide (n.so<4)
def nQ (n:Nd):Int:=if n.op<0\/n.op>=18 then 11 else if jO n=false then 3 else if kD n=false then 2 else 0
mutual
def ndE:Nd->Int
 | .mk o ns s n m l=>if nQ (.mk o ns s n m l)=0 then me l else nQ (.mk o ns s n m l)
def me:List Nd->Int
 |[]=>0
 |x::xs=>if ndE x=0 then me xs else ndE x
end
theorem xw (n:Nd):ndE n=if nQ n=0 then me n.l else nQ n:=by cases n;rfl
theorem xy: ∀{l:List Nd},me l=0↔ ∀x∈l,ndE x=0
 |[]=>by simp[me]
 |x::xs=>by
  simp only[me,List.mem_cons,forall_eq_or_imp];by_cases h:ndE x=0
  ·simp[h,xy (l:=xs)]
  ·simp[h]
def grt (n:Nd):Int:=if sz n>4096 then 8 else if dp n>256 then 16 else 0
def chk (n:Nd):Int:=if ndE n=0 then grt n else ndE n
structure Vd (n:Nd):Prop where
 op0:0<=n.op
 op1:n.op<18
 has:jO n=true
 rng:kD n=true
 kids: ∀x∈n.l,ndE x=0
theorem lw {n:Nd}:ndE n=0↔Vd n:=by
 rw[xw];unfold nQ;constructor
 ·intro h;by_cases h1:n.op<0\/n.op>=18
  ·rw[if_pos h1]at h;simp at h
  ·rw[if_neg h1]at h;cases h2:jO n with
   |false=>simp[h2]at h
   |true=>
    cases h3:kD n with
    |false=>simp[h2,h3]at h
    |true=>
     simp[h2,h3]at h;exact⟨by omega,by omega,h2,h3,xy.1 h⟩
 ·intro h;have h1: ¬(n.op<0\/n.op>=18):=by have:=h.op0;have:=h.op1;omega
  simp[h1,h.has,h.rng,xy.2 h.kids]
theorem mf {n x:Nd} (h:ndE n=0) (hx:x∈n.l):ndE x=0:=(lw.1 h).kids x hx
def nd (op:Int) (l:List Nd):Nd:=.mk op [] 0 0 0 l
def qn (op:Int) (x:Str) (so:Int) (a:Nd):Nd:=.mk op [x] so 0 0 [a]
theorem BV {n:Nd} (h:jO n=true): ¬((n.ns.length:Int)<fA n.op)/\ ¬((n.ns.length:Int)>fB n.op)/\(n.l.length:Int)=fC n.op/\n.ns.all dy=true/\(fD n.op=true\/n.so=0)/\(n.op=7\/n.op=8\/n.nn=0)/\(n.op=8\/n.mm=0):=by
 unfold jO at h;simp only[Bool.and_eq_true,Bool.not_eq_true',decide_eq_false_iff_not,decide_eq_true_eq,Bool.or_eq_true,beq_iff_eq]at h;obtain⟨⟨⟨⟨⟨⟨h1,h2⟩,h3⟩,h4⟩,h5⟩,h6⟩,h7⟩:=h;exact⟨h1,h2,h3,h4,h5,by rcases h6 with(h6|h6)|h6<;>simp[h6],h7⟩
theorem mg {α:Type} {l:List α} (h:(l.length:Int)=1): ∃a,l=[a]:=by
 match l,h with
 |[a],_=>exact⟨a,rfl⟩
 |[],h=>simp at h
 |_::_::_,h=>simp at h;omega
theorem BX {α:Type} {l:List α} (h:(l.length:Int)=2): ∃a b,l=[a,b]:=by
 match l,h with
 |[a,b],_=>exact⟨a,b,rfl⟩
 |[],h=>simp at h
 |[_],h=>simp at h
 |_::_::_::_,h=>simp at h;omega
inductive Vk:Nd->Prop
 |cst (op:Int) (h:op=0\/op=1):Vk (nd op [])
 |two (op:Int) (x y:Str) (h:2<=op/\op<=6) (hx:dy x=true) (hy:dy y=true):Vk (.mk op [x,y] 0 0 0 [])
 |lab (x:Str) (k:Int) (hx:dy x=true) (h:0<=k/\k<=7):Vk (.mk 7 [x] 0 k 0 [])
 |smd (x:Str) (k m:Int) (hx:dy x=true) (h:1<=m/\m<=64/\0<=k/\k<m):Vk (.mk 8 [x] 0 k m [])
 |sng (x:Str) (hx:dy x=true):Vk (.mk 9 [x] 0 0 0 [])
 |cal (x:Str) (xs:List Str) (h:(x::xs).length<=17) (hx:(x::xs).all dy=true):Vk (.mk 10 (x::xs) 0 0 0 [])
 |not (a:Nd) (ha:ndE a=0):Vk (nd 11 [a])
 |bin (op:Int) (a b:Nd) (h:12<=op/\op<=15) (ha:ndE a=0) (hb:ndE b=0):Vk (nd op [a,b])
 |qnt (op:Int) (x:Str) (so:Int) (a:Nd) (h:op=16\/op=17) (hx:dy x=true) (hs:0<=so/\so<4) (ha:ndE a=0):Vk (qn op x so a)
theorem pS {op:Int} (h0:0<=op) (h1:op<18):op=0\/op=1\/op=2\/op=3\/op=4\/op=5\/op=6\/op=7\/op=8\/op=9\/op=10\/op=11\/op=12\/op=13\/op=14\/op=15\/op=16\/op=17:=by omega
theorem lz {n:Nd} (h:ndE n=0):Vk n:=by
 obtain⟨h0,h1,hh,hr,hk⟩:=lw.1 h;obtain⟨p1,p2,p3,p4,p5,p6,p7⟩:=BV hh;obtain⟨op,ns,so,nn,mm,l⟩:=n;simp only[Nd.op,Nd.ns,Nd.so,Nd.nn,Nd.mm,Nd.l]at*;unfold kD at hr;simp only[Nd.op,Nd.ns,Nd.so,Nd.nn,Nd.mm,Nd.l]at hr;rcases pS h0 h1 with rfl|rfl|rfl|rfl|rfl|rfl|rfl|rfl|rfl|rfl|rfl|rfl|rfl|rfl|rfl|rfl|rfl|rfl
 all_goals simp[fA,fB,fC,fD]at p1 p2 p3 p5 p6 p7
 case inl=>obtain rfl:=p5;obtain rfl:=p6;obtain rfl:=p7;subst p3;subst p2;exact .cst 0 (.inl rfl)
 case inr.inl=>obtain rfl:=p5;obtain rfl:=p6;obtain rfl:=p7;subst p3;subst p2;exact .cst 1 (.inr rfl)
 case inr.inr.inr.inr.inr.inr.inr.inl=>
  obtain⟨x,rfl⟩:=mg (l:=ns) (by omega);subst p3 p5 p7;simp at hr p4;exact .lab x nn p4 ⟨of_decide_eq_true hr.1,of_decide_eq_true hr.2⟩
 case inr.inr.inr.inr.inr.inr.inr.inr.inl=>
  obtain⟨x,rfl⟩:=mg (l:=ns) (by omega);subst p3 p5;simp at hr p4;exact .smd x nn mm p4 ⟨of_decide_eq_true hr.1.1.1,of_decide_eq_true hr.1.1.2,of_decide_eq_true hr.1.2,of_decide_eq_true hr.2⟩
 case inr.inr.inr.inr.inr.inr.inr.inr.inr.inl=>
  obtain⟨x,rfl⟩:=mg (l:=ns) (by omega);subst p3 p5 p6 p7;simp at p4;exact .sng x p4
 case inr.inr.inr.inr.inr.inr.inr.inr.inr.inr.inl=>
  subst p3 p5 p6 p7;cases ns with
  |nil=>simp at p1
  |cons x xs=>exact .cal x xs (by simp at p2⊢;omega) p4
 case inr.inr.inr.inr.inr.inr.inr.inr.inr.inr.inr.inl=>
  obtain⟨a,rfl⟩:=mg (l:=l) (by omega);subst p2 p5 p6 p7;exact .not a (hk a (by simp))
 case inr.inr.inr.inr.inr.inr.inr.inr.inr.inr.inr.inr.inr.inr.inr.inr.inl=>
  obtain⟨a,rfl⟩:=mg (l:=l) (by omega);obtain⟨x,rfl⟩:=mg (l:=ns) (by omega);subst p6 p7;simp at hr p4;exact .qnt 16 x so a (.inl rfl) p4 ⟨of_decide_eq_true hr.1,of_decide_eq_true hr.2⟩ (hk a (by simp))
 case inr.inr.inr.inr.inr.inr.inr.inr.inr.inr.inr.inr.inr.inr.inr.inr.inr=>
  obtain⟨a,rfl⟩:=mg (l:=l) (by omega);obtain⟨x,rfl⟩:=mg (l:=ns) (by omega);subst p6 p7;simp at hr p4;exact .qnt 17 x so a (.inr rfl) p4 ⟨of_decide_eq_true hr.1,of_decide_eq_true hr.2⟩ (hk a (by simp))
 all_goals first
  |(obtain⟨x,y,rfl⟩:=BX (l:=ns) (by omega)
    subst p3 p5 p6 p7;simp at p4;exact .two _ x y (by omega) p4.1 p4.2)
  |(obtain⟨a,b,rfl⟩:=BX (l:=l) (by omega)
    subst p2 p5 p6 p7;exact .bin _ a b (by omega) (hk a (by simp)) (hk b (by simp)))
theorem kG {s:Str} (h:dy s=true):s.length<=16:=by
 unfold dy at h;simp only[Bool.and_eq_true,decide_eq_true_eq]at h;exact(uv h.2).2.1
def mi (done:List Vr):List Vr->Int
 |[]=>0
 |v::vs=>if dy v.nm=false then 3 else if v.so<0\/3<v.so then 2 else if done.any (fun o=>o.nm==v.nm)then 7 else mi (done++[v]) vs
def fu (ps:List Vr):Int:=if 6<ps.length then 2 else mi [] ps
def may (w:List Mc) (d:Mc):Int:=
 if 64<=w.length then 8 else if dy d.nm=false then 3 else if(fnd w d.nm).isSome then 7
 else if fu d.ps=0 then(if chk d.bd=0 then wlk w true d.bd d.ps else chk d.bd)else fu d.ps
theorem BZ: ∀{vs done:List Vr},mi done vs=0-> ∀v∈vs,dy v.nm=true/\0<=v.so/\v.so<=3
 |[],_,_=>by simp
 |v::vs,done,h=>by
  simp only[mi]at h;split at h
  ·cases h
  ·rename_i h1
   split at h
   ·cases h
   ·rename_i h2
    split at h
    ·cases h
    ·intro x hx;rcases List.mem_cons.1 hx with rfl|hx
     ·exact⟨by simpa using h1,by omega,by omega⟩
     ·exact BZ h x hx
theorem Ls {ps:List Vr} (h:fu ps=0): ∀v∈ps,0<=v.so:=by
 unfold fu at h;split at h
 ·cases h
 ·exact fun v hv=>(BZ h v hv).2.1
section
variable {G:Gls} {cl:a7} {yl:a7} {N:Nat}
theorem Lu (n:Nd):dn G false cl yl N ky [av n]=some (.bool (kD n),none):=by
 unfold kD;by_cases h7:n.op=7
 ·by_cases c1:0<=n.nn
  ·simp -implicitDefEqProofs [ky,h7,c1]
  ·simp -implicitDefEqProofs [ky,h7,c1]
 ·have h7':(n.op==7)=false:=by simp[h7]
  by_cases h8:n.op=8
  ·by_cases c1:1<=n.mm
   ·by_cases c2:n.mm<=64
    ·by_cases c3:0<=n.nn
     ·simp -implicitDefEqProofs [ky,h8,c1,c2,c3]
     ·simp -implicitDefEqProofs [ky,h8,c1,c2,c3]
    ·simp -implicitDefEqProofs [ky,h8,c1,c2]
   ·simp -implicitDefEqProofs [ky,h8,c1]
  ·have h8':(n.op==8)=false:=by simp[h8]
   by_cases c1:0<=n.so
   ·simp -implicitDefEqProofs [ky,h7,h8,h7',h8',c1]
   ·simp -implicitDefEqProofs [ky,h7,h8,h7',h8',c1]
def ndG (x:Nd):Option Int:=if ndE x=0 then none else some (ndE x)
theorem xz: ∀l:List Nd,me l=(l.findSome? ndG).getD 0
 |[]=>rfl
 |x::xs=>by
  simp only[me,List.findSome?_cons,ndG];by_cases h:ndE x=0
  ·simp only[h,if_true];exact xz xs
  ·simp[h]
theorem Lv (n:Nd) (hb:bk n<=big) (hN:n.l.length<N) (h95:0<=n.op->n.op<18-> ∀M,cl 154 [av n] M=some (.bool (jO n),M)) (h96: ∀M,cl 155 [av n] M=some (.bool (kD n),M))
  (hc: ∀x∈n.l,∀M,cl 93 [av x] M=some (.int .i64 (ndE x),M)):dn G false cl yl N c93 [av n]=some (.int .i64 (ndE n),none):=by
 have hlen:=iy n;unfold big at hb;rw[xw];unfold nQ;by_cases h0:n.op<0
 ·simp -implicitDefEqProofs [c93,h0]
 by_cases h1:18<=n.op
 ·simp -implicitDefEqProofs [c93,h0,h1]
 have h95':=h95 (by omega) (by omega);have hor: ¬(n.op<0\/18<=n.op):=by omega
 cases h2:jO n with
 |false=>
  rw[h2]at h95';simp -implicitDefEqProofs [c93,h0,h1,h95']
 |true=>
  rw[h2]at h95';cases h3:kD n with
  |false=>
   rw[h3]at h96;simp -implicitDefEqProofs [c93,h0,h1,h95',h96]
  |true=>
   rw[h3]at h96;have l1:=oW (mu:=false) (step:=a8 G false cl yl N qM) (an:=⟨[24,25,26],[(26,none)],false⟩) (k:=1) (m:=0) (N:=N) n.l ndG
    (fun i=>⟨[(24,.slc .shared (avL n.l)),(25,.int .i64 n.l.length),(26,.int .i64 (i:Int))],⟨[.cells (ndc n)],[]⟩,[]⟩) (fun r e s'=>e=.ret/\look 2 s'.ts=.int .i64 r/\s'.mks=[]) (.exit 1)
    ⟨[(27,.bool false),(24,.slc .shared (avL n.l)),(25,.int .i64 n.l.length),(26,.int .i64 n.l.length)],⟨[.cells (ndc n)],[]⟩,[]⟩ hN (by simp) ?_ ?_
   ·rw[xz];cases hf:n.l.findSome? ndG with
    |none=>
     rw[hf]at l1;simp at l1;simp -implicitDefEqProofs [c93,h0,h1,h95',h96,l1]
    |some r=>
     rw[hf]at l1;obtain⟨e,s',q1,-,rfl,q2,q3⟩:=l1;simp at q1;simp -implicitDefEqProofs [c93,h0,h1,h95',h96,q1,q2,q3]
   ·intro i x hx hi;have w1:=dF (i:=i) (by omega);have hc':=hc x (fR hx);have hx':=(List.getElem?_eq_some_iff.1 hx).2;by_cases hn:ndE x=0
    ·simp -implicitDefEqProofs [qM,ndG,hi,hx',hc',w1,hn]
    ·have hn':(ndE x !=0)=true:=by simp[hn]
     simp -implicitDefEqProofs [qM,ndG,hi,hx',hc',w1,hn,hn']
   ·simp -implicitDefEqProofs [qM]
theorem Lw (n:Nd) (h32: ∀M,cl 156 [av n] M=some (.int .i64 (sz n),M)) (h33: ∀M,cl 157 [av n] M=some (.int .i64 (dp n),M)):dn G false cl yl N c94 [av n]=some (.int .i64 (grt n),none):=by
 unfold grt;by_cases c1:sz n>4096
 ·have c1':(4096:Int)<(sz n:Int):=by omega
  simp -implicitDefEqProofs [c94,h32,c1,c1']
 ·have c1': ¬(4096:Int)<(sz n:Int):=by omega
  by_cases c2:dp n>256
  ·have c2':(256:Int)<(dp n:Int):=by omega
   simp -implicitDefEqProofs [c94,h32,h33,c1,c1',c2,c2']
  ·have c2': ¬(256:Int)<(dp n:Int):=by omega
   simp -implicitDefEqProofs [c94,h32,h33,c1,c1',c2,c2']
theorem Lx (n:Nd) (h61: ∀M,cl 93 [av n] M=some (.int .i64 (ndE n),M)) (h62: ∀M,cl 94 [av n] M=some (.int .i64 (grt n),M)):dn G false cl yl N c38 [av n]=some (.int .i64 (chk n),none):=by
 unfold chk;by_cases c1:ndE n=0
 ·simp -implicitDefEqProofs [c38,h61,h62,c1]
 ·have c1':(ndE n !=0)=true:=by simp[c1]
  simp -implicitDefEqProofs [c38,h61,h62,c1,c1']
theorem Ly (s:Str) (hs:s.length<big) (hN:s.length<N) (hc: ∀(c:UInt8) M,cl 117 [.int .u8 c.toNat] M=some (.bool (de c),M)):
  dn G false cl yl N c85 [.str s,.int .i64 0]=some (.int .i64 (dE de s),none):=by
 unfold big at hs;have hle:=lr de s;obtain⟨e,⟨ts,M,mks⟩,h1,h2,rfl,rfl,rfl,h5⟩:=jp (mu:=false) (step:=a8 G false cl yl N ld) (an:=⟨[0,1,5],[(5,none)],false⟩) (kk:=0) (m:=0)
  (fun k st=> ∃i,i<=(s.takeWhile de).length/\k=(s.takeWhile de).length - i/\st=⟨[(0,.str s),(1,.int .i64 0),(5,.int .i64 (i:Nat))],⟨[],[]⟩,[]⟩)
  (fun e s'=>e=.exit 0/\s'.m=⟨[],[]⟩/\s'.mks=[]/\look 5 s'.ts=.int .i64 (dE de s))
  (by
   rintro k _ ⟨i,hi,rfl,rfl⟩;by_cases hlt:i<(s.takeWhile de).length
   ·obtain⟨hx,hg⟩:=um (List.getElem?_eq_getElem hlt);generalize(s.takeWhile de)[i]=x at hx hg;obtain⟨hil,hx'⟩:=List.getElem?_eq_some_iff.1 hx;have w1:dj .i64 ((i:Int)+1)=((i+1:Nat):Int):=dF (by omega);have w0:dj .i64 (i:Int)=(i:Int):=dJ (by omega) (by omega);have hp:(0:Int)<=(i:Int):=by omega
    simp -implicitDefEqProofs [ld,hil,hx',hc,hg,w1,w0,hp];exact⟨_,by omega,i+1,by omega,rfl,by simp⟩
   ·have hi':i=(s.takeWhile de).length:=by omega
    have w0:dj .i64 ((s.takeWhile de).length:Int)=((s.takeWhile de).length:Int):=dJ (by omega) (by omega);rcases uo (g:=de) s with k|⟨y,k1,k2⟩
    ·have hil: ¬i<s.length:=by omega
     rw[k]at w0;simp -implicitDefEqProofs [ld,hil,dE,hi',k,w0]
    ·obtain⟨hil,hx'⟩:=List.getElem?_eq_some_iff.1 k1;have hp:(0:Int)<=((s.takeWhile de).length:Int):=by omega
     simp -implicitDefEqProofs [ld,hil,hx',hi',hp,hc,k2,dE,w0])
  N _ _ ⟨0,by omega,rfl,rfl⟩ (by omega)
 rw[show((0:Nat):Int)=0 from rfl]at h1;simp only[]at h5;simp -implicitDefEqProofs [c85,h1,h5]
theorem Lz:dn G false cl yl N wM []=some (.slc .full (kwL.map .str),none):=by
 simp -implicitDefEqProofs [wM,kwL]
theorem LA (s:Str) (hN:26<N) (h177: ∀M,cl 194 [] M=some (.slc .full (kwL.map .str),M)):dn G false cl yl N tz [.str s]=some (.bool (kwL.contains s),none):=by
 have hl:kwL.length=26:=rfl;have hfd:(kwL.findSome? fun x=>if x==s then some ()else none).isSome=kwL.contains s:=by
  generalize kwL=l
  induction l with
  |nil=>rfl
  |cons x l ih=>
   rw[List.findSome?_cons,List.contains_cons];by_cases h:x=s
   ·subst h;simp
   ·have h1:(x==s)=false:=by simp[h]
    have h2:(s==x)=false:=by simp;exact fun e=>h e.symm
    simp[h1,h2];simpa using ih
 have l1:=oW (mu:=false) (step:=a8 G false cl yl N tw) (an:=⟨[0,3,4],[(4,none)],false⟩) (k:=0) (m:=0) (N:=N) kwL (fun x=>if x==s then some ()else none)
  (fun i=>⟨[(0,.str s),(3,.slc .full (kwL.map .str)),(4,.int .i64 (i:Int))],⟨[],[]⟩,[]⟩) (fun _ e s'=>e=.ret/\look 2 s'.ts=.bool true/\s'.mks=[]) (.exit 0)
  ⟨[(9,.bool false),(8,.int .i64 26),(7,.slc .full (kwL.map .str)),(6,.int .i64 26),(0,.str s),(3,.slc .full (kwL.map .str)),(4,.int .i64 26)],⟨[],[]⟩,[]⟩ (by rw[hl];omega) (by simp) ?_ ?_
 ·rw[<-hfd];generalize hk:kwL.map AV.str=kv at*;cases hf:kwL.findSome? fun x=>if x==s then some ()else none with
  |none=>
   rw[hf]at l1;simp at l1;simp -implicitDefEqProofs [tz,h177,l1]
  |some r=>
   rw[hf]at l1;obtain⟨e,s',q1,-,rfl,q2,q3⟩:=l1;simp at q1;simp -implicitDefEqProofs [tz,h177,q1,q2,q3]
 ·intro i x hx hi;have w1:=dF (i:=i) (by omega);have hx':=(List.getElem?_eq_some_iff.1 hx).2;cases hs:x==s<;>simp -implicitDefEqProofs [tw,dB,hi,hx',hs,w1]
 ·rw[hl];simp -implicitDefEqProofs [tw,hl]
theorem LB (s:Str) (h0:s≠[]) (hs:s.length<big) (hN:s.length<N) (hc: ∀(c:UInt8) M,cl 148 [.int .u8 c.toNat] M=some (.bool (ed c),M)):
  ∃v e,dn G false cl yl N gR [.str s]=some (.tup [.int .i64 v,.int .i64 e],none):=by
 unfold big at hs;obtain⟨e,⟨ts,M,mks⟩,h1,h2,rfl,rfl,h5⟩:=jp (mu:=false) (step:=a8 G false cl yl N lh) (an:=⟨[0,4],[(4,none)],false⟩) (kk:=0) (m:=0)
  (fun k st=> ∃i,i<=s.length/\k=s.length - i/\(∀c∈s.take i,ed c=true)/\st=⟨[(0,.str s),(4,.int .i64 (i:Nat))],⟨[],[]⟩,[]⟩)
  (fun e s'=>s'.m=⟨[],[]⟩/\s'.mks=[]/\((e=.exit 0/\look 0 s'.ts=.str s/\ ∀c∈s,ed c=true)\/(e=.ret/\look 2 s'.ts=.int .i64 0/\look 3 s'.ts=.int .i64 3)))
  (by
   rintro k _ ⟨i,hi,rfl,hda,rfl⟩;by_cases hil:i<s.length
   ·have w1:dj .i64 ((i:Int)+1)=((i+1:Nat):Int):=dF (by omega);have hp:(0:Int)<=(i:Int):=by omega
    cases hd:ed s[i]with
    |true=>
     simp -implicitDefEqProofs [lh,hil,hc,hd,w1,hp];refine⟨_,by omega,i+1,by omega,rfl,?_,by simp⟩;intro c hcm;rw[ij (List.getElem?_eq_getElem hil)]at hcm;rcases List.mem_append.1 hcm with h|h
     ·exact hda c h
     ·simp at h;rw[h];exact hd
    |false=>simp -implicitDefEqProofs [lh,hil,hc,hd,hp]
   ·have:i=s.length:=by omega
    subst this;rw[List.take_length]at hda;simp -implicitDefEqProofs [lh,hil];exact hda)
  N _ _ ⟨0,by omega,rfl,by simp,rfl⟩ (by omega)
 rw[show((0:Nat):Int)=0 from rfl]at h1;rcases h5 with⟨rfl,h5,hall⟩|⟨rfl,h5,h6⟩
 ·obtain⟨c,r,rfl⟩: ∃c r,s=c::r:=by
   cases s with
   |nil=>exact absurd rfl h0
   |cons c r=>exact⟨c,r,rfl⟩
  simp only[]at h5;by_cases hz:(1:Int)<(((c::r).length:Nat):Int)/\((c.toNat:Int)==48)=true
  ·obtain⟨hz1,hz2⟩:=hz;simp at hz1;exact⟨0,3,by simp -implicitDefEqProofs [gR,h1,h5,hz1,hz2]⟩
  ·obtain⟨e',⟨ts',M',mks'⟩,k1,k2,rfl,rfl,k5⟩:=jp (mu:=false) (step:=a8 G false cl yl N li) (an:=⟨[0,5,6],[(5,none),(6,none)],false⟩) (kk:=0) (m:=0)
    (fun k st=> ∃i,∃v:Int,i<=(c::r).length/\k=(c::r).length - i/\(0<=v/\v<=2147483647)/\st=⟨[(0,.str (c::r)),(5,.int .i64 v),(6,.int .i64 (i:Nat))],⟨[],[]⟩,[]⟩)
    (fun e s'=>s'.m=⟨[],[]⟩/\s'.mks=[]/\((e=.exit 2/\ ∃v,look 5 s'.ts=.int .i64 v)\/(e=.ret/\look 2 s'.ts=.int .i64 0/\look 3 s'.ts=.int .i64 2)))
    (by
     rintro k _ ⟨i,v,hi,rfl,hv,rfl⟩;by_cases hil:i<(c::r).length
     ·have w1:dj .i64 ((i:Int)+1)=((i+1:Nat):Int):=dF (by omega);have hp:(0:Int)<=(i:Int):=by omega
      have hd:=hall _ (List.getElem_mem hil);have hil':i<r.length+1:=by simpa using hil
      have hi':(i:Int)<(r.length:Int)+1:=by omega
      generalize hx:(c::r)[i]=x at hd;have hb:48<=x.toNat/\x.toNat<=57:=by
       unfold ed at hd;simp at hd;have h1:=UInt8.le_iff_toNat_le.1 hd.1;have h2:=UInt8.le_iff_toNat_le.1 hd.2;exact⟨by simpa using h1,by simpa using h2⟩
      have w2:dj .i64 (10*v)=10*v:=dJ (by omega) (by omega);have w3:dj .i64 ((x.toNat:Nat):Int)=(x.toNat:Int):=dJ (by omega) (by omega);have w4:dj .i64 (10*v+(x.toNat:Int))=10*v+(x.toNat:Int):=dJ (by omega) (by omega);have w5:dj .i64 (10*v+(x.toNat:Int) - 48)=10*v+(x.toNat:Int) - 48:=dJ (by omega) (by omega);by_cases hbig:2147483647<10*v+(x.toNat:Int) - 48
      ·simp -implicitDefEqProofs [li,hil',hi',hx,w1,w2,w3,w4,w5,hp,hbig]
      ·simp -implicitDefEqProofs [li,hil',hi',hx,w1,w2,w3,w4,w5,hp,hbig];refine⟨_,?_,i+1,by omega,rfl,10*v+(x.toNat:Int) - 48,by omega,rfl,by simp⟩;omega
     ·have hil': ¬i<r.length+1:=by simpa using hil
      have hi': ¬(i:Int)<(r.length:Int)+1:=by omega
      simp -implicitDefEqProofs [li,hil',hi'])
    N _ _ ⟨0,0,by omega,rfl,by omega,rfl⟩ (by omega)
   rw[show((0:Nat):Int)=0 from rfl]at k1;have hz':(1:Int)<(r.length:Int)+1->((c.toNat:Int)==48)=false:=fun h=>by
    cases hb:((c.toNat:Int)==48)with
    |false=>rfl
    |true=>exact absurd ⟨by simpa using h,hb⟩ hz
   have hq: ∃b,(1:Int)<(r.length:Int)+1/\b=true\/ ¬(1:Int)<(r.length:Int)+1/\b=false:=by
    by_cases h:(1:Int)<(r.length:Int)+1
    ·exact⟨true,.inl ⟨h,rfl⟩⟩
    ·exact⟨false,.inr ⟨h,rfl⟩⟩
   obtain⟨b,hq⟩:=hq;rcases k5 with⟨rfl,v,k5⟩|⟨rfl,k5,k6⟩
   ·simp only[]at k5;refine⟨v,0,?_⟩;rcases hq with⟨hq,-⟩|⟨hq,-⟩
    ·simp -implicitDefEqProofs [gR,h1,h5,k1,k5,hq,hz' hq]
    ·simp -implicitDefEqProofs [gR,h1,h5,k1,k5,hq]
   ·simp only[]at k5 k6;refine⟨0,2,?_⟩;rcases hq with⟨hq,-⟩|⟨hq,-⟩
    ·simp -implicitDefEqProofs [gR,h1,h5,k1,k5,k6,hq,hz' hq]
    ·simp -implicitDefEqProofs [gR,h1,h5,k1,k5,k6,hq]
 ·simp only[]at h5 h6;exact⟨0,3,by simp -implicitDefEqProofs [gR,h1,h5,h6]⟩
def rt (s:Str):Bool:=!ed (s.headD 0)&&gm (s.headD 0)&&!kwL.contains s&&decide (s.length<=16)
theorem LC (s:Str) (h0:s≠[]) (hs:s.length<big) (h167: ∀(c:UInt8) M,cl 148 [.int .u8 c.toNat] M=some (.bool (ed c),M)) (h169: ∀(c:UInt8) M,cl 150 [.int .u8 c.toNat] M=some (.bool (gm c),M))
  (h168: ∃v e,∀M,cl 149 [.str s] M=some (.tup [.int .i64 v,.int .i64 e],M)) (h170: ∀M,cl 151 [.str s] M=some (.bool (kwL.contains s),M)):
  ∃k tx v e,dn G false cl yl N c86 [.str s]=some (.tup [.agg [.int .i64 k,.str tx,.int .i64 v,.int .i64 0,.int .i64 0],.int .i64 e],none)/\(decide (e=0)&&decide (k=1))=rt s:=by
 obtain⟨c,r,rfl⟩: ∃c r,s=c::r:=by
  cases s with
  |nil=>exact absurd rfl h0
  |cons c r=>exact⟨c,r,rfl⟩
 obtain⟨v,e,h168⟩:=h168;unfold rt;cases hd:ed c with
 |true=>exact⟨2,c::r,v,e,by simp -implicitDefEqProofs [c86,h167,hd,h168],by simp[hd]⟩
 |false=>
  cases hl:gm c with
  |false=>exact⟨0,[],0,3,by simp -implicitDefEqProofs [c86,h167,h169,hd,hl],by simp[hd,hl]⟩
  |true=>
   cases hk:kwL.contains (c::r)with
   |true=>
    rw[hk]at h170;exact⟨3,c::r,0,0,by simp -implicitDefEqProofs [c86,h167,h169,hd,hl,h170],by simp[hd,hl]⟩
   |false=>
    rw[hk]at h170;by_cases h16:(16:Int)<((c::r).length:Int)
    ·have h16':(16:Int)<(r.length:Int)+1:=by simpa using h16
     refine⟨0,[],0,2,by simp -implicitDefEqProofs [c86,h167,h169,hd,hl,h170,h16'],?_⟩;have: ¬(c::r).length<=16:=by simp at h16⊢;omega
     simp only[this,decide_false,Bool.and_false];rfl
    ·have h16': ¬(16:Int)<(r.length:Int)+1:=by simpa using h16
     refine⟨1,c::r,0,0,by simp -implicitDefEqProofs [c86,h167,h169,hd,hl,h170,h16'],?_⟩;have:(c::r).length<=16:=by simp at h16⊢;omega
     simp[hd,hl,this];simpa using this
theorem LD (s:Str) (h0:s≠[]) (ha:s.all de=true):dy s=rt s:=by
 rw[xn ha h0];unfold rt dw;by_cases hk:s∈kwL
 ·have:kwL.contains s=true:=by simpa using hk
  rw[if_pos hk,this];simp
 ·have:kwL.contains s=false:=by simpa using hk
  rw[if_neg hk,this];cases hd:ed (s.headD 0)with
  |true=>simp
  |false=>
   cases hl:gm (s.headD 0)with
   |false=>simp
   |true=>
    by_cases hs:s.length>16
    ·have: ¬s.length<=16:=by omega
     simp[hs,this]
    ·have:s.length<=16:=by omega
     simp[hs,this]
theorem LF (s:Str) (hs:s.length<big) (h149:s≠[]-> ∀M,cl 85 [.str s,.int .i64 0] M=some (.int .i64 (dE de s),M))
  (h150:s≠[]-> ∃k tx v e,(∀M,cl 86 [.str s] M=some (.tup [.agg [.int .i64 k,.str tx,.int .i64 v,.int .i64 0,.int .i64 0],.int .i64 e],M))/\(decide (e=0)&&decide (k=1))=rt s):
  dn G false cl yl N c32 [.str s]=some (.bool (dy s),none):=by
 by_cases h0:s=[]
 ·subst h0;rw[uw (.inr rfl)];simp -implicitDefEqProofs [c32]
 ·have hlen: ¬(s.length:Int)=0:=by
   intro h;exact h0 (List.eq_nil_of_length_eq_zero (by omega))
  have hlen':((s.length:Int)==0)=false:=by simpa using hlen
  replace h149:=h149 h0;obtain⟨k,tx,v,e,h150,h2⟩:=h150 h0;cases ha:s.all de with
  |false=>
   have hne: ¬dE de s=s.length:=fun h=>by
    have:=(pQ (g:=de) s).1 h;rw[ha]at this;cases this
   have hne':((dE de s:Int) !=(s.length:Int))=true:=by simp;omega
   rw[uw (.inl ha)];simp -implicitDefEqProofs [c32,hlen,hlen',h149,hne']
  |true=>
   have hc:=xm ha;rw[hc]at h149;rw[LD s h0 ha,<-h2];by_cases he:e=0
   ·by_cases hk:k=1
    ·simp -implicitDefEqProofs [c32,hlen,hlen',h149,h150,he,hk]
    ·have hk':(k==1)=false:=by simp[hk]
     simp -implicitDefEqProofs [c32,hlen,hlen',h149,h150,he,hk,hk']
   ·have he':(e==0)=false:=by simp[he]
    simp -implicitDefEqProofs [c32,hlen,hlen',h149,h150,he,he']
theorem LG (op:Int) (h0:0<=op) (h1:op<18):dn G false cl yl N wG [.int .i64 op]=some (.tup [.int .i64 (fA op),.int .i64 (fB op),.int .i64 (fC op)],none):=by
 rcases pS h0 h1 with rfl|rfl|rfl|rfl|rfl|rfl|rfl|rfl|rfl|rfl|rfl|rfl|rfl|rfl|rfl|rfl|rfl|rfl<;>simp -implicitDefEqProofs [wG,fA,fB,fC]
def mj (x:Str):Option Unit:=if dy x then none else some ()
theorem B0: ∀l:List Str,(l.findSome? mj).isNone=l.all dy
 |[]=>rfl
 |x::l=>by
  simp only[List.findSome?_cons,List.all_cons,mj];cases dy x with
  |true=>simpa using B0 l
  |false=>rfl
theorem LH (n:Nd) (hb:n.ns.length<big) (hN:n.ns.length<N) (h117: ∀x∈n.ns,∀M,cl 32 [.str x] M=some (.bool (dy x),M)):
  match n.ns.findSome? mj with
  |none=>dh false (a8 G false cl yl N nk) ⟨[1,6],[(6,none)],false⟩ 1 0 N ⟨[(1,.ptr 0 0),(6,.int .i64 ((0:Nat):Int))],⟨[.cells (ndc n)],[]⟩,[]⟩=
    some (.exit 0,⟨[(47,.bool false),(46,.int .i64 n.ns.length),(45,.slc .shared (n.ns.map .str)),(44,.ptr 0 1),(43,.int .i64 n.ns.length),(1,.ptr 0 0),(6,.int .i64 n.ns.length)],⟨[.cells (ndc n)],[]⟩,[]⟩)
  |some r=> ∃e s',dh false (a8 G false cl yl N nk) ⟨[1,6],[(6,none)],false⟩ 1 0 N ⟨[(1,.ptr 0 0),(6,.int .i64 ((0:Nat):Int))],⟨[.cells (ndc n)],[]⟩,[]⟩=some (e,s')/\e≠ .normal/\(e=.ret/\look 2 s'.ts=.int .i64 3/\s'.mks=[]):=by
 unfold big at hb;have h:=oW (mu:=false) (step:=a8 G false cl yl N nk) (an:=⟨[1,6],[(6,none)],false⟩) (k:=1) (m:=0) (N:=N) n.ns mj (fun i=>⟨[(1,.ptr 0 0),(6,.int .i64 (i:Int))],⟨[.cells (ndc n)],[]⟩,[]⟩) (fun _ e s'=>e=.ret/\look 2 s'.ts=.int .i64 3/\s'.mks=[]) (.exit 0) ⟨[(47,.bool false),(46,.int .i64 n.ns.length),(45,.slc .shared (n.ns.map .str)),(44,.ptr 0 1),(43,.int .i64 n.ns.length),(1,.ptr 0 0),(6,.int .i64 n.ns.length)],⟨[.cells (ndc n)],[]⟩,[]⟩ hN (by simp) ?_ ?_
 ·cases hf:n.ns.findSome? mj with
  |none=>rw[hf]at h;exact h
  |some r=>rw[hf]at h;exact h
 ·intro i x hx hi;have w1:=dF (i:=i) (by omega);have hx':=(List.getElem?_eq_some_iff.1 hx).2;have k:=h117 x (fR hx);cases hs:dy x with
  |true=>rw[hs]at k;simp -implicitDefEqProofs [mj,nk,hi,hx',hs,k,w1]
  |false=>rw[hs]at k;simp -implicitDefEqProofs [mj,nk,hi,hx',hs,k,w1]
 ·simp -implicitDefEqProofs [nk]
theorem LI (n:Nd) (hb:n.l.length<big) (hN:n.l.length<N) (hc: ∀x∈n.l,∀M,cl 87 [av x] M=some (.int .i64 (ndE x),M)):
  match n.l.findSome? ndG with
  |none=>dh false (a8 G false cl yl N nl) ⟨[1,7],[(7,none)],false⟩ 1 0 N ⟨[(1,.ptr 0 0),(7,.int .i64 ((0:Nat):Int))],⟨[.cells (ndc n)],[]⟩,[]⟩=
    some (.exit 2,⟨[(144,.bool false),(143,.int .i64 n.l.length),(142,.slc .shared (avL n.l)),(141,.ptr 0 5),(140,.int .i64 n.l.length),(1,.ptr 0 0),(7,.int .i64 n.l.length)],⟨[.cells (ndc n)],[]⟩,[]⟩)
  |some r=> ∃e s',dh false (a8 G false cl yl N nl) ⟨[1,7],[(7,none)],false⟩ 1 0 N ⟨[(1,.ptr 0 0),(7,.int .i64 ((0:Nat):Int))],⟨[.cells (ndc n)],[]⟩,[]⟩=some (e,s')/\e≠ .normal/\(e=.ret/\look 2 s'.ts=.int .i64 r/\s'.mks=[]):=by
 unfold big at hb;have h:=oW (mu:=false) (step:=a8 G false cl yl N nl) (an:=⟨[1,7],[(7,none)],false⟩) (k:=1) (m:=0) (N:=N) n.l ndG (fun i=>⟨[(1,.ptr 0 0),(7,.int .i64 (i:Int))],⟨[.cells (ndc n)],[]⟩,[]⟩) (fun r e s'=>e=.ret/\look 2 s'.ts=.int .i64 r/\s'.mks=[]) (.exit 2) ⟨[(144,.bool false),(143,.int .i64 n.l.length),(142,.slc .shared (avL n.l)),(141,.ptr 0 5),(140,.int .i64 n.l.length),(1,.ptr 0 0),(7,.int .i64 n.l.length)],⟨[.cells (ndc n)],[]⟩,[]⟩ hN (by simp) ?_ ?_
 ·cases hf:n.l.findSome? ndG with
  |none=>rw[hf]at h;exact h
  |some r=>rw[hf]at h;exact h
 ·intro i x hx hi;have w1:=dF (i:=i) (by omega);have hx':=(List.getElem?_eq_some_iff.1 hx).2;have k:=hc x (fR hx);by_cases hn:ndE x=0
  ·simp -implicitDefEqProofs [nl,ndG,hi,hx',k,w1,hn]
  ·have hn':(ndE x !=0)=true:=by simp[hn]
   simp -implicitDefEqProofs [nl,ndG,hi,hx',k,w1,hn,hn']
 ·simp -implicitDefEqProofs [nl]
theorem LJ (n:Nd) (h37: ∀M,cl 63 [av n] M=some (.int .i64 (sz n),M)) (h38: ∀M,cl 64 [av n] M=some (.int .i64 (dp n),M)):dn G false cl yl N c88 [av n]=some (.int .i64 (grt n),none):=by
 unfold grt;by_cases c1:sz n>4096
 ·have c1':(4096:Int)<(sz n:Int):=by omega
  simp -implicitDefEqProofs [c88,h37,c1,c1']
 ·have c1': ¬(4096:Int)<(sz n:Int):=by omega
  by_cases c2:dp n>256
  ·have c2':(256:Int)<(dp n:Int):=by omega
   simp -implicitDefEqProofs [c88,h37,h38,c1,c1',c2,c2']
  ·have c2': ¬(256:Int)<(dp n:Int):=by omega
   simp -implicitDefEqProofs [c88,h37,h38,c1,c1',c2,c2']
theorem LK (n:Nd) (h76: ∀M,cl 87 [av n] M=some (.int .i64 (ndE n),M)) (h77: ∀M,cl 88 [av n] M=some (.int .i64 (grt n),M)):dn G false cl yl N c34 [av n]=some (.int .i64 (chk n),none):=by
 unfold chk;by_cases c1:ndE n=0
 ·simp -implicitDefEqProofs [c34,h76,h77,c1]
 ·have c1':(ndE n !=0)=true:=by simp[c1]
  simp -implicitDefEqProofs [c34,h76,h77,c1,c1']
end
end Go.Proofs.Ae
namespace Go.Proofs.Ae
open Go Go.RowKit
set_option maxRecDepth 20000
section
variable {G:Gls} {cl:a7} {yl:a7} {N:Nat}
theorem LM {op:Int} (h0:0<=op) (h1:op<18):fD op=decide (16<=op):=by
 rcases pS h0 h1 with rfl|rfl|rfl|rfl|rfl|rfl|rfl|rfl|rfl|rfl|rfl|rfl|rfl|rfl|rfl|rfl|rfl|rfl<;>rfl
theorem LN (n:Nd) (hb:bk n<=big) (hN:bk n<N) (h116:0<=n.op->n.op<18-> ∀M,cl 152 [.int .i64 n.op] M=some (.tup [.int .i64 (fA n.op),.int .i64 (fB n.op),.int .i64 (fC n.op)],M))
  (h117: ∀x∈n.ns,∀M,cl 32 [.str x] M=some (.bool (dy x),M)) (hc: ∀x∈n.l,∀M,cl 87 [av x] M=some (.int .i64 (ndE x),M)):
  dn G false cl yl N c87 [av n]=some (.int .i64 (ndE n),none):=by
 have hlen:=iy n;have hnl:=jI n;rw[xw];unfold nQ;by_cases h0:n.op<0
 ·simp -implicitDefEqProofs [c87,h0]
 by_cases h1:17<n.op
 ·have h1':18<=n.op:=by omega
  simp -implicitDefEqProofs [c87,h0,h1,h1']
 have h18: ¬18<=n.op:=by omega
 replace h116:=h116 (by omega) (by omega);have hfD:=LM (op:=n.op) (by omega) (by omega);have l1:=LH (G:=G) (cl:=cl) (yl:=yl) (N:=N) n (by omega) (by omega) h117;have l2:=LI (G:=G) (cl:=cl) (yl:=yl) (N:=N) n (by omega) (by omega) hc;rw[show((0:Nat):Int)=0 from rfl]at l1 l2;have hall:=B0 n.ns;unfold jO kD;rw[hfD,xz];generalize fA n.op=a at*;generalize fB n.op=b at*;generalize fC n.op=c at*;by_cases c1:(n.ns.length:Int)<a
 ·simp -implicitDefEqProofs [c87,h0,h1,h18,h116,c1]
 by_cases c2:b<(n.ns.length:Int)
 ·simp -implicitDefEqProofs [c87,h0,h1,h18,h116,c1,c2]
 by_cases c3:(n.l.length:Int)=c
 case neg=>
  have c3':((n.l.length:Int) !=c)=true:=by simp[c3]
  simp -implicitDefEqProofs [c87,h0,h1,h18,h116,c1,c2,c3,c3']
 cases hf:n.ns.findSome? mj with
 |some r=>
  rw[hf]at l1 hall;obtain⟨e,s',q1,-,rfl,q2,q3⟩:=l1;have hall':n.ns.all dy=false:=by rw[<-hall];rfl
  simp -implicitDefEqProofs [c87,h0,h1,h18,h116,c1,c2,c3,q1,q2,q3,hall']
 |none=>
  rw[hf]at l1 hall;have hall':n.ns.all dy=true:=by rw[<-hall];rfl
  simp only[]at l1;rw[hall'];by_cases g7:n.op=7
  case pos=>
   rw[g7]at h116;by_cases m0:n.mm=0
   case pos=>
    by_cases s0:n.so=0
    case pos=>
     by_cases n1:n.nn<0
     case pos=>
      have n1a: ¬0<=n.nn:=by omega
      simp -implicitDefEqProofs [c87,h0,h1,h18,h116,c1,c2,c3,l1,g7,m0,s0,n1,n1a]
     case neg=>
      by_cases n2:7<n.nn
      case pos=>
       have n2a: ¬n.nn<=7:=by omega
       simp -implicitDefEqProofs [c87,h0,h1,h18,h116,c1,c2,c3,l1,g7,m0,s0,n1,n2,n2a]
      case neg=>
       have n1a:0<=n.nn:=by omega
       have n2a:n.nn<=7:=by omega
       cases hg:n.l.findSome? ndG with
       |none=>
        rw[hg]at l2;simp only[]at l2;simp -implicitDefEqProofs [c87,h0,h1,h18,h116,c1,c2,c3,l1,g7,m0,s0,n1,n1a,n2,n2a,l2]
       |some r=>
        rw[hg]at l2;obtain⟨e,s',q1,-,rfl,q2,q3⟩:=l2;simp -implicitDefEqProofs [c87,h0,h1,h18,h116,c1,c2,c3,l1,g7,m0,s0,n1,n1a,n2,n2a,q1,q2,q3]
    case neg=>
     have s0a:(n.so !=0)=true:=by simp[s0]
     have s0b:(n.so==0)=false:=by simp[s0]
     simp -implicitDefEqProofs [c87,h0,h1,h18,h116,c1,c2,c3,l1,g7,m0,s0,s0a,s0b]
   case neg=>
    have m0a:(n.mm !=0)=true:=by simp[m0]
    have m0b:(n.mm==0)=false:=by simp[m0]
    simp -implicitDefEqProofs [c87,h0,h1,h18,h116,c1,c2,c3,l1,g7,m0,m0a,m0b]
  case neg=>
   have g7a:(n.op !=7)=true:=by simp[g7]
   have g7b:(n.op==7)=false:=by simp[g7]
   by_cases g8:n.op=8
   case pos=>
    rw[g8]at h116;by_cases s0:n.so=0
    case pos=>
     by_cases m1:n.mm<1
     case pos=>
      have m1a: ¬1<=n.mm:=by omega
      simp -implicitDefEqProofs [c87,h0,h1,h18,h116,c1,c2,c3,l1,g8,s0,m1,m1a]
     case neg=>
      by_cases m2:64<n.mm
      case pos=>
       have m2a: ¬n.mm<=64:=by omega
       simp -implicitDefEqProofs [c87,h0,h1,h18,h116,c1,c2,c3,l1,g8,s0,m1,m2,m2a]
      case neg=>
       by_cases n1:n.nn<0
       case pos=>
        have n1a: ¬0<=n.nn:=by omega
        simp -implicitDefEqProofs [c87,h0,h1,h18,h116,c1,c2,c3,l1,g8,s0,m1,m2,n1,n1a]
       case neg=>
        by_cases n2:n.mm<=n.nn
        case pos=>
         have n2a: ¬n.nn<n.mm:=by omega
         simp -implicitDefEqProofs [c87,h0,h1,h18,h116,c1,c2,c3,l1,g8,s0,m1,m2,n1,n2,n2a]
        case neg=>
         have m1a:1<=n.mm:=by omega
         have m2a:n.mm<=64:=by omega
         have n1a:0<=n.nn:=by omega
         have n2a:n.nn<n.mm:=by omega
         cases hg:n.l.findSome? ndG with
         |none=>
          rw[hg]at l2;simp only[]at l2;simp -implicitDefEqProofs [c87,h0,h1,h18,h116,c1,c2,c3,l1,g8,s0,m1,m2,n1,n2,m1a,m2a,n1a,n2a,l2]
         |some r=>
          rw[hg]at l2;obtain⟨e,s',q1,-,rfl,q2,q3⟩:=l2;simp -implicitDefEqProofs [c87,h0,h1,h18,h116,c1,c2,c3,l1,g8,s0,m1,m2,n1,n2,m1a,m2a,n1a,n2a,q1,q2,q3]
    case neg=>
     have s0a:(n.so !=0)=true:=by simp[s0]
     have s0b:(n.so==0)=false:=by simp[s0]
     simp -implicitDefEqProofs [c87,h0,h1,h18,h116,c1,c2,c3,l1,g8,s0,s0a,s0b]
   case neg=>
    have g8a:(n.op !=8)=true:=by simp[g8]
    have g8b:(n.op==8)=false:=by simp[g8]
    by_cases g16:n.op<16
    case pos=>
     have g16a: ¬16<=n.op:=by omega
     by_cases k0:n.nn=0
     case pos=>
      by_cases m0:n.mm=0
      case pos=>
       by_cases s0:n.so=0
       case pos=>
        cases hg:n.l.findSome? ndG with
        |none=>
         rw[hg]at l2;simp only[]at l2;simp -implicitDefEqProofs [c87,h0,h1,h18,h116,c1,c2,c3,l1,g7,g7a,g7b,g8,g8a,g8b,g16,g16a,k0,m0,s0,l2]
        |some r=>
         rw[hg]at l2;obtain⟨e,s',q1,-,rfl,q2,q3⟩:=l2;simp -implicitDefEqProofs [c87,h0,h1,h18,h116,c1,c2,c3,l1,g7,g7a,g7b,g8,g8a,g8b,g16,g16a,k0,m0,s0,q1,q2,q3]
       case neg=>
        have s0a:(n.so !=0)=true:=by simp[s0]
        have s0b:(n.so==0)=false:=by simp[s0]
        simp -implicitDefEqProofs [c87,h0,h1,h18,h116,c1,c2,c3,l1,g7,g7a,g7b,g8,g8a,g8b,g16,g16a,k0,m0,s0,s0a,s0b]
      case neg=>
       have m0a:(n.mm !=0)=true:=by simp[m0]
       have m0b:(n.mm==0)=false:=by simp[m0]
       simp -implicitDefEqProofs [c87,h0,h1,h18,h116,c1,c2,c3,l1,g7,g7a,g7b,g8,g8a,g8b,g16,g16a,k0,m0,m0a,m0b]
     case neg=>
      have k0a:(n.nn !=0)=true:=by simp[k0]
      have k0b:(n.nn==0)=false:=by simp[k0]
      simp -implicitDefEqProofs [c87,h0,h1,h18,h116,c1,c2,c3,l1,g7,g7a,g7b,g8,g8a,g8b,g16,g16a,k0,k0a,k0b]
    case neg=>
     have g16a:16<=n.op:=by omega
     by_cases k0:n.nn=0
     case pos=>
      by_cases m0:n.mm=0
      case pos=>
       by_cases s1:n.so<0
       case pos=>
        have s1a: ¬0<=n.so:=by omega
        simp -implicitDefEqProofs [c87,h0,h1,h18,h116,c1,c2,c3,l1,g7,g7a,g7b,g8,g8a,g8b,g16,g16a,k0,m0,s1,s1a]
       case neg=>
        by_cases s2:3<n.so
        case pos=>
         have s2a: ¬n.so<4:=by omega
         simp -implicitDefEqProofs [c87,h0,h1,h18,h116,c1,c2,c3,l1,g7,g7a,g7b,g8,g8a,g8b,g16,g16a,k0,m0,s1,s2,s2a]
        case neg=>
         have s1a:0<=n.so:=by omega
         have s2a:n.so<4:=by omega
         cases hg:n.l.findSome? ndG with
         |none=>
          rw[hg]at l2;simp only[]at l2;simp -implicitDefEqProofs [c87,h0,h1,h18,h116,c1,c2,c3,l1,g7,g7a,g7b,g8,g8a,g8b,g16,g16a,k0,m0,s1,s2,s1a,s2a,l2]
         |some r=>
          rw[hg]at l2;obtain⟨e,s',q1,-,rfl,q2,q3⟩:=l2;simp -implicitDefEqProofs [c87,h0,h1,h18,h116,c1,c2,c3,l1,g7,g7a,g7b,g8,g8a,g8b,g16,g16a,k0,m0,s1,s2,s1a,s2a,q1,q2,q3]
      case neg=>
       have m0a:(n.mm !=0)=true:=by simp[m0]
       have m0b:(n.mm==0)=false:=by simp[m0]
       simp -implicitDefEqProofs [c87,h0,h1,h18,h116,c1,c2,c3,l1,g7,g7a,g7b,g8,g8a,g8b,g16,g16a,k0,m0,m0a,m0b]
     case neg=>
      have k0a:(n.nn !=0)=true:=by simp[k0]
      have k0b:(n.nn==0)=false:=by simp[k0]
      simp -implicitDefEqProofs [c87,h0,h1,h18,h116,c1,c2,c3,l1,g7,g7a,g7b,g8,g8a,g8b,g16,g16a,k0,k0a,k0b]
end
end Go.Proofs.Ae
namespace Go.Proofs.Ae
open Go Go.RowKit
attribute [simp] eR
@[simp] theorem Ub (n:Nd):AV.agg [.int .i64 n.op,.slc .shared (n.ns.map .str),.int .i64 n.so,.int .i64 n.nn,.int .i64 n.mm,.slc .shared (avL n.l)]=av n:=by cases n;rfl
@[simp] theorem Uc (m:Mc):AV.agg [.str m.nm,.slc .shared (m.ps.map vrv),.int .i64 m.bd.op,.slc .shared (m.bd.ns.map .str),.int .i64 m.bd.so,.int .i64 m.bd.nn,.int .i64 m.bd.mm,.slc .shared (avL m.bd.l)]=mcv m:=(lm m).symm
@[simp] theorem LO (v:Vr):AV.agg [.str v.nm,.int .i64 v.so]=vrv v:=rfl
def Gr (r:Option (AV×Mem)) (v:AV) (O:List Obj) (R:List Arr):Prop:= ∃X,r=some (v,⟨O++X,R⟩)
def vrc (v:Vr):List AV:=[.str v.nm,.int .i64 v.so]
inductive Sc (O:List Obj):AV->List Vr->Prop
 |nil:Sc O (.fn 98 [] []) []
 |snoc {c:AV} {env:List Vr} {v:Vr} {i j:Nat} (h:Sc O c env) (hi:O[i]? =some (.cells (vrc v))) (hj:O[j]? =some (.cells [c])):Sc O (.fn 158 [] [.ptr i 0,.ptr j 0]) (env++[v])
theorem Sc.grow {O:List Obj} {c:AV} {env:List Vr} (h:Sc O c env) (X:List Obj):Sc (O++X) c env:=by
 induction h with
 |nil=>exact .nil
 |snoc h hi hj ih=>exact .snoc ih (dD hi X) (dD hj X)
theorem Sc.cells {O:List Obj} {c:AV} {env:List Vr} (h:Sc O c env):cells c=some [c]:=by cases h<;>rfl
def lkv (env:List Vr) (x:Str):AV:=match env.reverse.find? (fun v=>v.nm==x)with
 |none=>.tup [.int .i64 0,.bool false]
 |some v=>.tup [.int .i64 v.so,.bool true]
theorem LP (env:List Vr) (v:Vr) (x:Str):lkv (env++[v]) x=if v.nm==x then .tup [.int .i64 v.so,.bool true]else lkv env x:=by
 unfold lkv;rw[List.reverse_append,List.reverse_singleton,List.singleton_append,List.find?_cons];cases v.nm==x<;>rfl
def pT (cl:a7) (O:List Obj) (c:AV) (env:List Vr):Prop:= ∃f cap,c=.fn f [] cap/\ ∀x X R,cl f (.str x::cap) ⟨O++X,R⟩=some (lkv env x,⟨O++X,R⟩)
theorem pT.grow {cl:a7} {O:List Obj} {c:AV} {env:List Vr} (h:pT cl O c env) (X:List Obj):pT cl (O++X) c env:=by
 obtain⟨f,cap,rfl,h⟩:=h;exact⟨f,cap,rfl,fun x Y R=>by rw[List.append_assoc];exact h x _ R⟩
inductive dQ (O:List Obj) (R:List Arr) (id:Nat):Option Nat->List Mc->Prop
 |nil (h:O[id]? =some (.cells [.slc .full []])):dQ O R id none []
 |own {a:Nat} {w:List Mc} (h:O[id]? =some (.cells [.slc (.own a) (w.map mcv)])) (hr:R[a]? =some (.app w.length 42 8)):dQ O R id (some a) w
theorem dQ.grow {O:List Obj} {R:List Arr} {id:Nat} {a:Option Nat} {w:List Mc} (h:dQ O R id a w) (X:List Obj) (Y:List Arr):dQ (O++X) (R++Y) id a w:=by
 cases h with
 |nil h=>exact .nil (dD h X)
 |own h hr=>exact .own (dD h X) (dD hr Y)
theorem dQ.growO {O:List Obj} {R:List Arr} {id:Nat} {a:Option Nat} {w:List Mc} (h:dQ O R id a w) (X:List Obj):dQ (O++X) R id a w:=by
 simpa using h.grow X []
theorem dQ.get {O:List Obj} {R:List Arr} {id:Nat} {a:Option Nat} {w:List Mc} (h:dQ O R id a w): ∃sp,O[id]? =some (.cells [.slc sp (w.map mcv)]):=by
 cases h with
 |nil h=>exact⟨_,h⟩
 |own h hr=>exact⟨_,h⟩
def mc0:AV:=.agg [.str [],.slc .full [],.int .i64 0,.slc .full [],.int .i64 0,.int .i64 0,.int .i64 0,.slc .full []]
def lup (w:List Mc) (x:Str):AV:=match fnd w x with
 |none=>.tup [mc0,.bool false]
 |some d=>.tup [mcv d,.bool true]
section
variable {G:Gls} {cl:a7} {yl:a7} {N:Nat}
theorem LQ {O:List Obj} {R:List Arr} {c:AV} {v:Vr} (hc:cells c=some [c]):
  dr G false cl yl N c97 [c,vrv v] ⟨O,R⟩=some (.fn 158 [] [.ptr (O.length+1) 0,.ptr O.length 0],⟨O++[.cells [c],.cells (vrc v)],R⟩):=by
 simp -implicitDefEqProofs [c97,hc,vrc]
theorem B1 {O:List Obj} {c:AV} {env:List Vr} (h:Sc O c env) (v:Vr):Sc (O++[.cells [c],.cells (vrc v)]) (.fn 158 [] [.ptr (O.length+1) 0,.ptr O.length 0]) (env++[v]):=
 .snoc (h.grow _) (by simp) (by simp)
theorem LR {O:List Obj} {R:List Arr} {c:AV} {v:Vr} {i j:Nat} (x:Str) (hi:O[i]? =some (.cells (vrc v))) (hv:(v.nm==x)=true):
  dr G false cl yl N nw [.str x,.ptr i 0,.ptr j 0] ⟨O,R⟩=some (.tup [.int .i64 v.so,.bool true],⟨O,R⟩):=by
 have hv':(x==v.nm)=true:=by simp at hv⊢;exact hv.symm
 simp -implicitDefEqProofs [nw,hi,vrc,dB,hv']
theorem LS {O:List Obj} {R:List Arr} {env:List Vr} {v:Vr} {i j f:Nat} {cap:List AV} (x:Str) (hi:O[i]? =some (.cells (vrc v))) (hj:O[j]? =some (.cells [.fn f [] cap])) (hv:(v.nm==x)=false)
  (hc:cl f (.str x::cap) ⟨O,R⟩=some (lkv env x,⟨O,R⟩)):
  dr G false cl yl N nw [.str x,.ptr i 0,.ptr j 0] ⟨O,R⟩=some (lkv env x,⟨O,R⟩):=by
 have hv':(x==v.nm)=false:=by
  simp at hv⊢;exact fun h=>hv h.symm
 unfold lkv at hc⊢;cases hf:env.reverse.find? (fun v=>v.nm==x)with
 |none=>
  rw[hf]at hc;simp -implicitDefEqProofs [nw,hi,hj,vrc,dB,hv',hc]
 |some u=>
  rw[hf]at hc;simp -implicitDefEqProofs [nw,hi,hj,vrc,dB,hv',hc]
theorem LU (x:Str):dn G false cl yl N c98 [.str x]=some (lkv [] x,none):=by
 simp -implicitDefEqProofs [c98,lkv]
theorem LV {O:List Obj} {R:List Arr} {p:Nat} {x:Str} (m:Mc) (hp:O[p]? =some (.cells [.str x])):
  dr G false cl yl N c45 [mcv m,.ptr p 0] ⟨O,R⟩=some (.bool (m.nm==x),⟨O++[.cells (mcc m)],R⟩):=by
 have hp':=fun r=>dD hp r;simp -implicitDefEqProofs [c45,hp',dB,ec]
theorem LW (w:List Mc) (sp:Sp) (x:Str) {O:List Obj} {R:List Arr} {p:Nat} (hp:O[p]? =some (.cells [.str x])) (hb:w.length<big) (hN:w.length<N)
  (h45: ∀m X,cl 45 [mcv m,.ptr p 0] ⟨O++X,R⟩=some (.bool (m.nm==x),⟨O++X++[.cells (mcc m)],R⟩)):
  ∃e s',dh false (a8 G false cl yl N pe) ⟨[0,1,7,8],[(8,none)],true⟩ O.length R.length N ⟨[(0,.slc sp (w.map mcv)),(1,.fn 45 [] [.ptr p 0]),(7,.int .i64 w.length),(8,.int .i64 0)],⟨O,R⟩,[]⟩=some (e,s')/\e≠ .normal/\
   (s'.mks=[]/\(∃X,s'.m=⟨O++X,R⟩)/\((e=.exit 0/\fix w x= -1)\/(e=.ret/\look 4 s'.ts=.int .i64 (fix w x)))):=by
 unfold big at hb;have h:=eN (mu:=false) (step:=a8 G false cl yl N pe) (an:=⟨[0,1,7,8],[(8,none)],true⟩) (k:=O.length) (m:=R.length) (N:=N) (w.zipIdx 0) (mc x)
  (fun i s=> ∃X,s=⟨[(0,.slc sp (w.map mcv)),(1,.fn 45 [] [.ptr p 0]),(7,.int .i64 w.length),(8,.int .i64 (i:Int))],⟨O++X,R⟩,[]⟩)
  (fun r e s'=>s'.mks=[]/\(∃X,s'.m=⟨O++X,R⟩)/\match r with
   |none=>e=.exit 0
   |some j=>e=.ret/\look 4 s'.ts=.int .i64 (j:Int)) (s0:=⟨[(0,.slc sp (w.map mcv)),(1,.fn 45 [] [.ptr p 0]),(7,.int .i64 w.length),(8,.int .i64 0)],⟨O,R⟩,[]⟩) (by simpa using hN) ⟨[],by simp⟩ ?_ ?_
 ·obtain⟨e,s',h1,h2,h3,h4,h5⟩:=h;refine⟨e,s',h1,h2,h3,h4,?_⟩;rw[wV]at h5;unfold fix;cases hf:w.findIdx? (fun m=>m.nm==x)with
  |none=>rw[hf]at h5;exact .inl ⟨h5,rfl⟩
  |some j=>rw[hf]at h5;exact .inr h5
 ·rintro i ⟨m,j⟩ s hx hi ⟨X,rfl⟩;rw[List.getElem?_zipIdx]at hx;have hil:i<w.length:=by simpa using hi
  rw[List.getElem?_eq_getElem hil]at hx;simp at hx;obtain⟨rfl,rfl⟩:=hx;have w1:=dF (i:=i) (by omega);have k:=h45 w[i] X;cases hs:w[i].nm==x with
  |true=>
   rw[hs]at k;simp -implicitDefEqProofs at k;simp -implicitDefEqProofs [mc,pe,hil,hs,w1,k]
  |false=>
   rw[hs]at k;simp -implicitDefEqProofs at k;simp -implicitDefEqProofs [mc,pe,hil,hs,w1,k]
 ·rintro s ⟨X,rfl⟩;simp -implicitDefEqProofs [pe]
theorem LX (w:List Mc) (sp:Sp) (x:Str) {O:List Obj} {R:List Arr} {p:Nat} (hp:O[p]? =some (.cells [.str x])) (hb:w.length<big) (hN:w.length<N)
  (h45: ∀m X,cl 45 [mcv m,.ptr p 0] ⟨O++X,R⟩=some (.bool (m.nm==x),⟨O++X++[.cells (mcc m)],R⟩)):
  Gr (dr G false cl yl N c44 [.slc sp (w.map mcv),.fn 45 [] [.ptr p 0]] ⟨O,R⟩) (.int .i64 (fix w x)) O R:=by
 obtain⟨e,⟨ts,M,mks⟩,h1,h2,rfl,⟨X,rfl⟩,h3⟩:=LW (G:=G) (cl:=cl) (yl:=yl) w sp x hp hb hN h45;refine⟨X,?_⟩;rcases h3 with⟨rfl,h3⟩|⟨rfl,h3⟩
 ·rw[h3];simp -implicitDefEqProofs [c44,h1]
 ·simp at h3;simp -implicitDefEqProofs [c44,h1,h3]
theorem LY (w:List Mc) (x:Str) {O:List Obj} {R:List Arr} {id:Nat} {a:Option Nat} (hs:dQ O R id a w)
  (h44: ∀sp X p,(O++X)[p]? =some (.cells [.str x])->Gr (cl 44 [.slc sp (w.map mcv),.fn 45 [] [.ptr p 0]] ⟨O++X,R⟩) (.int .i64 (fix w x)) (O++X) R)
  (h41: ∀d∈w,∀M,cl 41 [mcv d] M=some (mcv d,M)):
  Gr (dr G false cl yl N c15 [.ptr id 0,.str x] ⟨O,R⟩) (lup w x) O R:=by
 obtain⟨sp,hg⟩:=hs.get;have hg':=fun r=>dD hg r;obtain⟨Y,hY⟩:=h44 sp [.cells [.str x],.cells [.str [],.slc .full [],.int .i64 0,.slc .full [],.int .i64 0,.int .i64 0,.int .i64 0,.slc .full []]] O.length (by simp);simp -implicitDefEqProofs at hY;unfold lup;cases hf:fnd w x with
 |none=>
  have h1:fix w x<0:=uf.2 hf;unfold Gr;apply Exists.intro;simp -implicitDefEqProofs [c15,hg',hY,h1,mc0];rfl
 |some d=>
  obtain⟨j,hj,hd⟩:=ug hf;rw[hj]at hY;have hj1:j<w.length:=(List.getElem?_eq_some_iff.1 hd).1;have hd':w[j]=d:=(List.getElem?_eq_some_iff.1 hd).2;have hp: ¬(j:Int)<0:=by omega
  have k:=h41 d (List.mem_of_find?_eq_some hf);unfold Gr;apply Exists.intro;simp -implicitDefEqProofs [c15,hg',hY,hj1,hd',hp,k,ec];rfl
end
def lkP (env:List Vr) (x:Str):Int×Bool:=match env.reverse.find? (fun v=>v.nm==x)with
 |none=>(0,false)
 |some v=>(v.so,true)
theorem B7 (env:List Vr) (x:Str):lkv env x=.tup [.int .i64 (lkP env x).1,.bool (lkP env x).2]:=by
 unfold lkv lkP;cases env.reverse.find? (fun v=>v.nm==x)<;>rfl
theorem B8 {env:List Vr} (he: ∀v∈env,0<=v.so) {x:Str} (h:mns env x<0):(lkP env x).2=false:=by
 rw[wU he]at h;unfold lkP;rw[h]
theorem B9 {env:List Vr} (he: ∀v∈env,0<=v.so) {x:Str} (h: ¬mns env x<0):lkP env x=(mns env x,true):=by
 rw[wU he]at h;unfold lkP mns;cases hf:env.reverse.find? (fun v=>v.nm==x)with
 |none=>exact absurd hf h
 |some v=>rfl
section
variable {G:Gls} {cl:a7} {yl:a7} {N:Nat}
theorem LZ (xs:List Str) (s:Str) (env:List Vr) (he: ∀v∈env,0<=v.so) (d:Mc) {O:List Obj} {R:List Arr} {q f:Nat} {cap:List AV} (hq:O[q]? =some (.cells (mcc d))) (hlen:xs.length=d.ps.length) (hb:xs.length<big) (hN:xs.length<N)
  (hl: ∀x,cl f (.str x::cap) ⟨O,R⟩=some (lkv env x,⟨O,R⟩)):
  ∃e s',dh false (a8 G false cl yl N np) ⟨[2,7,36,37,38],[(38,none)],true⟩ O.length R.length N ⟨[(2,.fn f [] cap),(7,.ptr q 0),(36,.slc .shared (xs.map .str)),(37,.int .i64 xs.length),(38,.int .i64 0)],⟨O,R⟩,[]⟩=some (e,s')/\e≠ .normal/\
   (s'.mks=[]/\s'.m=⟨O,R⟩/\match(xs.zip d.ps).findSome? (iB env)with
    |none=>e=.exit 1
    |some r=>e=.ret/\look 6 s'.ts=.int .i64 r):=by
 unfold big at hb;refine eN (mu:=false) (step:=a8 G false cl yl N np) (an:=⟨[2,7,36,37,38],[(38,none)],true⟩) (k:=O.length) (m:=R.length) (N:=N) (xs.zip d.ps) (iB env)
  (fun i st=>st=⟨[(2,.fn f [] cap),(7,.ptr q 0),(36,.slc .shared (xs.map .str)),(37,.int .i64 xs.length),(38,.int .i64 (i:Int))],⟨O,R⟩,[]⟩)
  (fun r e s'=>s'.mks=[]/\s'.m=⟨O,R⟩/\match r with
   |none=>e=.exit 1
   |some r=>e=.ret/\look 6 s'.ts=.int .i64 r) (by simp;omega) rfl ?_ ?_
 ·rintro i ⟨x,p⟩ st hx hi rfl;have hi1:i<xs.length:=by simp at hi;omega
  have hi2:i<d.ps.length:=by omega
  rw[List.getElem?_eq_getElem hi]at hx;simp at hx;obtain⟨hx1,hx2⟩:=hx;have k:=hl x;rw[B7]at k;have w1:=dF (i:=i) (by omega);by_cases h1:mns env x<0
  ·have hn:=B8 he h1;rw[hn]at k;simp -implicitDefEqProofs [iB,np,hi1,hx1,k,h1]
  ·have hn:=B9 he h1;rw[hn]at k;simp only at k;by_cases h2:mns env x=p.so
   ·have h3: ¬p.so<0:=by omega
    rw[h2]at k;simp -implicitDefEqProofs [iB,np,hi1,hi2,hx1,hx2,k,h2,h3,hq,ec,w1]
   ·have h2':(mns env x !=p.so)=true:=by simp[h2]
    simp -implicitDefEqProofs [iB,np,hi1,hi2,hx1,hx2,k,h1,h2,h2',hq,ec,w1]
 ·rintro st rfl;simp -implicitDefEqProofs [np,hlen]
theorem L2 (w:List Mc) (n:Nd) (env:List Vr) (he: ∀v∈env,0<=v.so) (hne:n.ns≠[]) (hb:n.ns.length<big) (hN:n.ns.length<N) {O:List Obj} {R:List Arr} {id:Nat} {c:AV}
  (h15: ∀x∈n.ns,∀X,Gr (cl 15 [.ptr id 0,.str x] ⟨O++X,R⟩) (lup w x) (O++X) R) (hl:pT cl O c env):
  Gr (dr G false cl yl N c95 [.ptr id 0,av n,c] ⟨O,R⟩) (.int .i64 (iA w n.ns env)) O R:=by
 obtain⟨f,cap,rfl,hl⟩:=hl;cases hn:n.ns with
 |nil=>exact absurd hn hne
 |cons s xs=>
  obtain⟨Y,hY⟩:=h15 s (by rw[hn];simp) [.cells (ndc n)];simp only[iA];unfold lup at hY;cases hf:fnd w s with
  |none=>
   rw[hf]at hY;simp -implicitDefEqProofs [mc0]at hY;unfold Gr;apply Exists.intro;simp -implicitDefEqProofs [c95,hn,hY];rfl
  |some d=>
   rw[hf]at hY;simp -implicitDefEqProofs at hY;have w2:dj .i64 (xs.length:Int)=(xs.length:Int):=by
    rw[hn]at hb;unfold big at hb;simp at hb;exact dJ (by omega) (by omega)
   by_cases hlen:xs.length=d.ps.length
   ·obtain⟨e,⟨ts,M,mks⟩,h1,h2,rfl,rfl,h3⟩:=LZ (G:=G) (cl:=cl) (yl:=yl) (N:=N) xs s env he d (O:=O++(.cells (ndc n)::(Y++[.cells (mcc d)]))) (R:=R) (q:=O.length+(Y.length+1)) (f:=f) (cap:=cap) (by simp) hlen (by rw[hn]at hb;simp at hb;unfold big at hb⊢;omega) (by rw[hn]at hN;simp at hN;omega)
     (fun x=>hl x _ R)
    simp only[ne_eq,hlen,not_true_eq_false,if_false];rw[wW];simp[ec]at h1;have hq:((xs.length:Int) !=(d.ps.length:Int))=false:=by simp;omega
    have hz:dV 1 (.str s::xs.map .str)=true:=rfl;have ht:(xs.map AV.str).take xs.length=xs.map .str:=by rw[List.take_of_length_le (by simp)]
    cases hr:(xs.zip d.ps).findSome? (iB env)with
    |none=>
     rw[hr]at h3;subst h3;unfold Gr;apply Exists.intro;simp -implicitDefEqProofs [c95,hn,hY,hq,h1,w2,hz,ht,eR];rfl
    |some r=>
     rw[hr]at h3;obtain⟨rfl,h4⟩:=h3;simp at h4;unfold Gr;apply Exists.intro;simp -implicitDefEqProofs [c95,hn,hY,hq,h1,h4,w2,hz,ht,eR];rfl
   ·have hl':((xs.length:Int) !=(d.ps.length:Int))=true:=by simp;omega
    unfold Gr;apply Exists.intro;simp -implicitDefEqProofs [c95,hn,hY,hlen,hl',w2];rfl
theorem L3 (n:Nd):dn G false cl yl N c96 [av n]=some (.bool (n.op==16||n.op==17),none):=by
 cases h:n.op==16 with
 |true=>simp -implicitDefEqProofs [c96,h]
 |false=>cases h':n.op==17<;>simp -implicitDefEqProofs [c96,h,h']
theorem L4 (n:Nd) (id:Nat) (env:List Vr) (he: ∀v∈env,0<=v.so) (all:Bool) {O:List Obj} {R:List Arr} {f:Nat} {cap:List AV} {p:Nat} (hb:n.ns.length<big) (hN:n.ns.length<N)
  (hl: ∀x,cl f (.str x::cap) ⟨O,R⟩=some (lkv env x,⟨O,R⟩)):
  ∃e s',dh false (a8 G false cl yl N pd) ⟨[0,2,3,5,39,40,41],[(41,none)],true⟩ O.length R.length N ⟨[(0,.ptr id 0),(2,.fn f [] cap),(3,.bool all),(5,.ptr p 0),(39,.slc .shared (n.ns.map .str)),(40,.int .i64 n.ns.length),(41,.int .i64 0)],⟨O,R⟩,[]⟩=some (e,s')/\e≠ .normal/\
   (s'.mks=[]/\s'.m=⟨O,R⟩/\match n.ns.findSome? (jo env)with
    |none=>e=.exit 1/\look 0 s'.ts=.ptr id 0/\look 2 s'.ts=.fn f [] cap/\look 3 s'.ts=.bool all/\look 5 s'.ts=.ptr p 0
    |some _=>e=.ret/\look 8 s'.ts=.int .i64 21):=by
 unfold big at hb;refine eN (mu:=false) (step:=a8 G false cl yl N pd) (an:=⟨[0,2,3,5,39,40,41],[(41,none)],true⟩) (k:=O.length) (m:=R.length) (N:=N) n.ns (jo env)
  (fun i st=>st=⟨[(0,.ptr id 0),(2,.fn f [] cap),(3,.bool all),(5,.ptr p 0),(39,.slc .shared (n.ns.map .str)),(40,.int .i64 n.ns.length),(41,.int .i64 (i:Int))],⟨O,R⟩,[]⟩)
  (fun r e s'=>s'.mks=[]/\s'.m=⟨O,R⟩/\match r with
   |none=>e=.exit 1/\look 0 s'.ts=.ptr id 0/\look 2 s'.ts=.fn f [] cap/\look 3 s'.ts=.bool all/\look 5 s'.ts=.ptr p 0
   |some _=>e=.ret/\look 8 s'.ts=.int .i64 21) hN rfl ?_ ?_
 ·rintro i x st hx hi rfl;have k:=hl x;rw[B7]at k;have hx':=(List.getElem?_eq_some_iff.1 hx).2;have w1:=dF (i:=i) (by omega);by_cases h1:mns env x<0
  ·have hn:=B8 he h1;rw[hn]at k;simp -implicitDefEqProofs [jo,pd,hi,hx',k,h1]
  ·have hn:=B9 he h1;rw[hn]at k;simp -implicitDefEqProofs [jo,pd,hi,hx',k,h1,w1]
 ·rintro st rfl;simp -implicitDefEqProofs [pd]
theorem L5 (w:List Mc) (n:Nd) (id:Nat) (env:List Vr) (all:Bool) {O:List Obj} {R:List Arr} {f:Nat} {cap:List AV} (hb:n.l.length<big) (hN:n.l.length<N)
  (h39: ∀x∈n.l,∀X,Gr (cl 39 [.ptr id 0,av x,.fn f [] cap,.bool all] ⟨O++X,R⟩) (.int .i64 (wlk w all x env)) (O++X) R):
  ∃e s',dh false (a8 G false cl yl N nj) ⟨[0,2,3,55,56,57],[(57,none)],true⟩ O.length R.length N ⟨[(0,.ptr id 0),(2,.fn f [] cap),(3,.bool all),(55,.slc .shared (avL n.l)),(56,.int .i64 n.l.length),(57,.int .i64 0)],⟨O,R⟩,[]⟩=some (e,s')/\e≠ .normal/\
   (s'.mks=[]/\(∃X,s'.m=⟨O++X,R⟩)/\match n.l.findSome? (jm w all env)with
    |none=>e=.exit 3
    |some r=>e=.ret/\look 8 s'.ts=.int .i64 r):=by
 unfold big at hb;refine eN (mu:=false) (step:=a8 G false cl yl N nj) (an:=⟨[0,2,3,55,56,57],[(57,none)],true⟩) (k:=O.length) (m:=R.length) (N:=N) n.l (jm w all env)
  (fun i st=> ∃X,st=⟨[(0,.ptr id 0),(2,.fn f [] cap),(3,.bool all),(55,.slc .shared (avL n.l)),(56,.int .i64 n.l.length),(57,.int .i64 (i:Int))],⟨O++X,R⟩,[]⟩)
  (fun r e s'=>s'.mks=[]/\(∃X,s'.m=⟨O++X,R⟩)/\match r with
   |none=>e=.exit 3
   |some r=>e=.ret/\look 8 s'.ts=.int .i64 r) hN ⟨[],by simp⟩ ?_ ?_
 ·rintro i x st hx hi ⟨X,rfl⟩;obtain⟨Y,hY⟩:=h39 x (fR hx) (X++[.cells (ndc x)]);have hx':=(List.getElem?_eq_some_iff.1 hx).2;have w1:=dF (i:=i) (by omega);simp -implicitDefEqProofs at hY;by_cases h1:wlk w all x env=0
  ·rw[h1]at hY;simp -implicitDefEqProofs [jm,nj,hi,hx',hY,h1,w1]
  ·have h1':(wlk w all x env !=0)=true:=by simp[h1]
   simp -implicitDefEqProofs [jm,nj,hi,hx',hY,h1,h1']
 ·rintro st ⟨X,rfl⟩;simp -implicitDefEqProofs [nj]
end
theorem Sc.fn {O:List Obj} {c:AV} {env:List Vr} (h:Sc O c env): ∃f cap,c=.fn f [] cap:=by cases h<;>exact⟨_,_,rfl⟩
section
variable {G:Gls} {cl:a7} {yl:a7} {N:Nat}
structure L6 (cl:a7) (w:List Mc) (all:Bool) (n:Nd) (env:List Vr) (id:Nat) (c:AV) (O:List Obj) (R:List Arr):Prop where
 ns0:15<n.op->n.ns≠[]
 cal:n.op=10->n.l=[]
 opv:n.op<18
 sc:Sc O c env
 look: ∀X,pT cl (O++X) c env
 kids: ∀x∈n.l,∀X c',Sc (O++X) c' (inn n env)->Gr (cl 39 [.ptr id 0,av x,c',.bool all] ⟨O++X,R⟩) (.int .i64 (wlk w all x (inn n env))) (O++X) R
 h95:n.op=10-> ∀X,Gr (cl 95 [.ptr id 0,av n,c] ⟨O++X,R⟩) (.int .i64 (iA w n.ns env)) (O++X) R
 h96: ∀M,cl 96 [av n] M=some (.bool (n.op==16||n.op==17),M)
 h97: ∀v X,cl 97 [c,vrv v] ⟨O++X,R⟩=some (.fn 158 [] [.ptr ((O++X).length+1) 0,.ptr (O++X).length 0],⟨O++X++[.cells [c],.cells (vrc v)],R⟩)
theorem L7 (w:List Mc) (all:Bool) (n:Nd) (env:List Vr) (he: ∀v∈env,0<=v.so) {id:Nat} {c:AV} {O:List Obj} {R:List Arr} (hb1:n.ns.length<big) (hN1:n.ns.length<N) (hb2:n.l.length<big) (hN2:n.l.length<N) (h:L6 cl w all n env id c O R):
  Gr (dr G false cl yl N c39 [.ptr id 0,av n,c,.bool all] ⟨O,R⟩) (.int .i64 (wlk w all n env)) O R:=by
 obtain⟨ns0,cal,opv,sc,look,kids,h95,h96,h97⟩:=h;rw[Bd];unfold stE
 -- the children, from a scope on
 have ch: ∀(X:List Obj) (f:Nat) (cap:List AV),Sc (O++X) (.fn f [] cap) (inn n env)-> ∃e s',dh false (a8 G false cl yl N nj) ⟨[0,2,3,55,56,57],[(57,none)],true⟩ (O++X).length R.length N ⟨[(0,.ptr id 0),(2,.fn f [] cap),(3,.bool all),(55,.slc .shared (avL n.l)),(56,.int .i64 n.l.length),(57,.int .i64 0)],⟨O++X,R⟩,[]⟩=some (e,s')/\s'.mks=[]/\(∃Y,s'.m=⟨O++X++Y,R⟩)/\
   ((e=.exit 3/\jK w all n.l (inn n env)=0)\/(e=.ret/\Ae.look 8 s'.ts=.int .i64 (jK w all n.l (inn n env)))):=by
  intro X f cap hc;obtain⟨e,s',k1,k2,k3,k4,k5⟩:=L5 (G:=G) (cl:=cl) (yl:=yl) (N:=N) w n id (inn n env) all (O:=O++X) (R:=R) (f:=f) (cap:=cap) hb2 hN2 (fun x hx Y=>by
   have:=kids x hx (X++Y) (.fn f [] cap) (by rw[<-List.append_assoc];exact hc.grow Y)
   rwa [<-List.append_assoc]at this)
  refine⟨e,s',k1,k3,k4,?_⟩;rw[wX];cases hr:n.l.findSome? (jm w all (inn n env))with
  |none=>rw[hr]at k5;exact .inl ⟨k5,rfl⟩
  |some r=>rw[hr]at k5;exact .inr k5
 by_cases h10:n.op=10
 ·obtain⟨Y,hY⟩:=h95 h10 [.cells (ndc n)];have hin:inn n env=env:=by unfold inn;rw[if_neg (by omega)]
  simp -implicitDefEqProofs at hY;have e0:(if iA w n.ns env=0 then jK w all n.l (inn n env)else iA w n.ns env)=iA w n.ns env:=by
   rw[cal h10];simp only[jK];split
   ·rename_i h;exact h.symm
   ·rfl
  simp only[h10,if_true,e0];unfold Gr;apply Exists.intro;simp -implicitDefEqProofs [c39,h10,hY];rfl
 ·have h10':(n.op==10)=false:=by simp[h10]
  by_cases h15:n.op>15
  ·have hq:(n.op==16||n.op==17)=true:=by
    have:n.op=16\/n.op=17:=by omega
    rcases this with h|h<;>simp[h]
   rw[hq]at h96;obtain⟨s,xs,hn⟩: ∃s xs,n.ns=s::xs:=by
    cases hn:n.ns with
    |nil=>exact absurd hn (ns0 h15)
    |cons s xs=>exact⟨s,xs,rfl⟩
   have hin:inn n env=env++[⟨s,n.so⟩]:=by unfold inn;rw[if_pos h15,hn];rfl
   have k97:=h97 ⟨s,n.so⟩ [.cells (ndc n)];have s97:=B1 (sc.grow [.cells (ndc n)]) ⟨s,n.so⟩;rw[<-hin]at s97;obtain⟨f,cap,rfl⟩:=sc.fn;simp -implicitDefEqProofs [vrc]at k97;rw[show vrv ⟨s,n.so⟩=.agg [.str s,.int .i64 n.so] from rfl]at k97;simp -implicitDefEqProofs [vrc]at s97;obtain⟨e,⟨ts,M,mks⟩,k1,rfl,⟨Y,rfl⟩,k2⟩:=ch _ _ _ s97;simp -implicitDefEqProofs at k1;simp only[h10,h15,if_true,if_false];unfold Gr;rcases k2 with⟨rfl,k2⟩|⟨rfl,k2⟩
   ·rw[k2];apply Exists.intro;simp -implicitDefEqProofs [c39,h10,h10',h96,hn,k97,k1];rfl
   ·simp at k2;apply Exists.intro;simp -implicitDefEqProofs [c39,h10,h10',h96,hn,k97,k1,k2];rfl
  ·have hq:(n.op==16||n.op==17)=false:=by
    have h1:(n.op==16)=false:=by simp;omega
    have h2:(n.op==17)=false:=by simp;omega
    rw[h1,h2];rfl
   rw[hq]at h96;have hin:inn n env=env:=by unfold inn;rw[if_neg h15]
   rw[hin]at ch⊢;obtain⟨f,cap,rfl⟩:=sc.fn;obtain⟨e,⟨ts,M,mks⟩,k1,rfl,⟨Y,rfl⟩,k2⟩:=ch [.cells (ndc n)] _ _ (sc.grow _);simp -implicitDefEqProofs at k1;simp only[h10,h15,if_false];cases all with
   |false=>
    simp only[Bool.false_eq_true,if_false,if_true];unfold Gr;rcases k2 with⟨rfl,k2⟩|⟨rfl,k2⟩
    ·rw[k2];apply Exists.intro;simp -implicitDefEqProofs [c39,h10,h10',h96,k1];rfl
    ·simp at k2;apply Exists.intro;simp -implicitDefEqProofs [c39,h10,h10',h96,k1,k2];rfl
   |true=>
    obtain⟨f',cap',e',hl⟩:=look [.cells (ndc n)];cases e';obtain⟨e2,⟨ts2,M2,mks2⟩,q1,q2,rfl,rfl,q3⟩:=L4 (G:=G) (cl:=cl) (yl:=yl) (N:=N) n id env he true (O:=O++[.cells (ndc n)]) (R:=R) (f:=f) (cap:=cap) (p:=O.length) hb1 hN1 (fun x=>by simpa using hl x [] R);simp -implicitDefEqProofs at q1;simp only[if_true];rw[wY];cases hr:n.ns.findSome? (jo env)with
    |none=>
     rw[hr]at q3;obtain⟨rfl,p0,p2,p3,p5⟩:=q3;simp at p0 p2 p3 p5;simp only[Option.isSome_none,Bool.false_eq_true,if_false,if_true];unfold Gr;rcases k2 with⟨rfl,k2⟩|⟨rfl,k2⟩
     ·rw[k2];apply Exists.intro;simp -implicitDefEqProofs [c39,h10,h10',h96,q1,p0,p2,p3,p5,k1];rfl
     ·simp at k2;apply Exists.intro;simp -implicitDefEqProofs [c39,h10,h10',h96,q1,p0,p2,p3,p5,k1,k2];rfl
    |some r=>
     rw[hr]at q3;obtain⟨rfl,q3⟩:=q3;simp at q3;unfold Gr;apply Exists.intro;simp -implicitDefEqProofs [c39,h10,h10',h96,q1,q3];rfl
theorem L8 (sp:Sp) (ps:List Vr) {O:List Obj} {R:List Arr} (hb:ps.length<big) (hN:ps.length<N)
  (h97: ∀c v X,cells c=some [c]->cl 97 [c,vrv v] ⟨O++X,R⟩=some (.fn 158 [] [.ptr ((O++X).length+1) 0,.ptr (O++X).length 0],⟨O++X++[.cells [c],.cells (vrc v)],R⟩)):
  ∃e s',dh false (a8 G false cl yl N qK) ⟨[3,6,7,8],[(3,none),(8,none)],true⟩ O.length R.length N ⟨[(3,.fn 98 [] []),(6,.slc sp (ps.map vrv)),(7,.int .i64 ps.length),(8,.int .i64 0)],⟨O,R⟩,[]⟩=some (e,s')/\e≠ .normal/\
   (e=.exit 0/\s'.mks=[]/\ ∃X c,s'.m=⟨O++X,R⟩/\look 3 s'.ts=c/\Sc (O++X) c ps):=by
 unfold big at hb;refine(eN (mu:=false) (step:=a8 G false cl yl N qK) (an:=⟨[3,6,7,8],[(3,none),(8,none)],true⟩) (k:=O.length) (m:=R.length) (N:=N) ps (fun _=>(none:Option Unit))
  (fun i st=> ∃X c,st=⟨[(3,c),(6,.slc sp (ps.map vrv)),(7,.int .i64 ps.length),(8,.int .i64 (i:Int))],⟨O++X,R⟩,[]⟩/\Sc (O++X) c (ps.take i))
  (fun r e s'=>e=.exit 0/\s'.mks=[]/\ ∃X c,s'.m=⟨O++X,R⟩/\look 3 s'.ts=c/\Sc (O++X) c ps) hN ⟨[],.fn 98 [] [],by simp,.nil⟩ ?_ ?_)
 ·rintro i v st hx hi ⟨X,c,rfl,hc⟩;have k:=h97 c v (X++[.cells (vrc v)]) hc.cells;have hx':=(List.getElem?_eq_some_iff.1 hx).2;have w1:=dF (i:=i) (by omega);have s97:=B1 (hc.grow [.cells (vrc v)]) v;obtain⟨f,cap,rfl⟩:=hc.fn;simp -implicitDefEqProofs [vrc]at k;rw[ij hx];simp -implicitDefEqProofs [vrc]at s97;simp -implicitDefEqProofs [qK,hi,hx',k,w1,vrc];exact⟨_,_,⟨rfl,rfl⟩,s97⟩
 ·rintro st ⟨X,c,rfl,hc⟩;rw[List.take_length]at hc;simp -implicitDefEqProofs [qK]
  first|exact hc|exact⟨_,rfl,hc⟩
theorem L9 (sp:Sp) (ps:List Vr) {O:List Obj} {R:List Arr} (hb:ps.length<big) (hN:ps.length<N)
  (h97: ∀c v X,cells c=some [c]->cl 97 [c,vrv v] ⟨O++X,R⟩=some (.fn 158 [] [.ptr ((O++X).length+1) 0,.ptr (O++X).length 0],⟨O++X++[.cells [c],.cells (vrc v)],R⟩)):
  ∃c X,dr G false cl yl N c40 [.slc sp (ps.map vrv)] ⟨O,R⟩=some (c,⟨O++X,R⟩)/\Sc (O++X) c ps:=by
 obtain⟨e,⟨ts,M,mks⟩,h1,h2,rfl,rfl,X,c,rfl,h4,h5⟩:=L8 (G:=G) (cl:=cl) (yl:=yl) (N:=N) sp ps hb hN h97;refine⟨c,X,?_,h5⟩;obtain⟨f,cap,rfl⟩:=h5.fn;simp at h4;simp -implicitDefEqProofs [c40,h1,h4]
theorem Ma {O:List Obj} {R:List Arr} {p:Nat} {v:Vr} (o:Vr) (hp:O[p]? =some (.cells (vrc v))):
  dr G false cl yl N c92 [vrv o,.ptr p 0] ⟨O,R⟩=some (.bool (o.nm==v.nm),⟨O++[.cells (vrc o)],R⟩):=by
 have hp':=fun r=>dD hp r;simp -implicitDefEqProofs [vrc]at hp';simp -implicitDefEqProofs [c92,hp',dB,vrc]
def nR (x:Str) (o:Vr):Option Unit:=if o.nm==x then some ()else none
theorem Ca (x:Str): ∀l:List Vr,(l.findSome? (nR x)).isSome=l.any (fun o=>o.nm==x)
 |[]=>rfl
 |o::l=>by
  simp only[List.findSome?_cons,List.any_cons,nR];cases h:o.nm==x with
  |true=>simp
  |false=>simpa using Ca x l
theorem Mb (l:List Vr) (v:Vr) {O:List Obj} {R:List Arr} {p:Nat} (hp:O[p]? =some (.cells (vrc v))) (hb:l.length<big) (hN:l.length<N)
  (h92: ∀o X,cl 92 [vrv o,.ptr p 0] ⟨O++X,R⟩=some (.bool (o.nm==v.nm),⟨O++X++[.cells (vrc o)],R⟩)):
  ∃e s',dh false (a8 G false cl yl N pu) ⟨[0,1,7,8],[(8,none)],true⟩ O.length R.length N ⟨[(0,.slc .shared (l.map vrv)),(1,.fn 92 [] [.ptr p 0]),(7,.int .i64 l.length),(8,.int .i64 0)],⟨O,R⟩,[]⟩=some (e,s')/\e≠ .normal/\
   (s'.mks=[]/\(∃X,s'.m=⟨O++X,R⟩)/\match l.findSome? (nR v.nm)with
    |none=>e=.exit 0
    |some _=>e=.ret/\ ∃j:Nat,look 4 s'.ts=.int .i64 j):=by
 unfold big at hb;refine eN (mu:=false) (step:=a8 G false cl yl N pu) (an:=⟨[0,1,7,8],[(8,none)],true⟩) (k:=O.length) (m:=R.length) (N:=N) l (nR v.nm)
  (fun i s=> ∃X,s=⟨[(0,.slc .shared (l.map vrv)),(1,.fn 92 [] [.ptr p 0]),(7,.int .i64 l.length),(8,.int .i64 (i:Int))],⟨O++X,R⟩,[]⟩)
  (fun r e s'=>s'.mks=[]/\(∃X,s'.m=⟨O++X,R⟩)/\match r with
    |none=>e=.exit 0
    |some _=>e=.ret/\ ∃j:Nat,look 4 s'.ts=.int .i64 j) hN ⟨[],by simp⟩ ?_ ?_
 ·rintro i o s hx hi ⟨X,rfl⟩;have w1:=dF (i:=i) (by omega);have k:=h92 o X;have hx':=(List.getElem?_eq_some_iff.1 hx).2;cases hs:o.nm==v.nm with
  |true=>
   rw[hs]at k;simp -implicitDefEqProofs at k;simp -implicitDefEqProofs [nR,pu,hi,hx',hs,w1,k];exact⟨i,rfl⟩
  |false=>
   rw[hs]at k;simp -implicitDefEqProofs at k;simp -implicitDefEqProofs [nR,pu,hi,hx',hs,w1,k]
 ·rintro s ⟨X,rfl⟩;simp -implicitDefEqProofs [pu]
theorem Me (l:List Vr) (v:Vr) {O:List Obj} {R:List Arr} {p:Nat} (hp:O[p]? =some (.cells (vrc v))) (hb:l.length<big) (hN:l.length<N)
  (h92: ∀o X,cl 92 [vrv o,.ptr p 0] ⟨O++X,R⟩=some (.bool (o.nm==v.nm),⟨O++X++[.cells (vrc o)],R⟩)):
  ∃i:Int,(0<=i↔l.any (fun o=>o.nm==v.nm)=true)/\Gr (dr G false cl yl N qX [.slc .shared (l.map vrv),.fn 92 [] [.ptr p 0]] ⟨O,R⟩) (.int .i64 i) O R:=by
 obtain⟨e,⟨ts,M,mks⟩,h1,h2,rfl,⟨X,rfl⟩,h3⟩:=Mb (G:=G) (cl:=cl) (yl:=yl) l v hp hb hN h92;rw[<-Ca];cases hr:l.findSome? (nR v.nm)with
 |none=>
  rw[hr]at h3;subst h3;refine⟨-1,by simp,X,?_⟩;simp -implicitDefEqProofs [qX,h1]
 |some _=>
  rw[hr]at h3;obtain⟨rfl,j,h3⟩:=h3;simp at h3;refine⟨j,by simp,X,?_⟩;simp -implicitDefEqProofs [qX,h1,h3]
theorem Mg (l:List Vr) (v:Vr) {O:List Obj} {R:List Arr} {p:Nat}
  (h153: ∃i:Int,(0<=i↔l.any (fun o=>o.nm==v.nm)=true)/\Gr (cl 153 [.slc .shared (l.map vrv),.fn 92 [] [.ptr p 0]] ⟨O,R⟩) (.int .i64 i) O R):
  Gr (dr G false cl yl N c91 [.slc .shared (l.map vrv),.fn 92 [] [.ptr p 0]] ⟨O,R⟩) (.bool (l.any (fun o=>o.nm==v.nm))) O R:=by
 obtain⟨i,hi,X,hX⟩:=h153;refine⟨X,?_⟩;cases ha:l.any (fun o=>o.nm==v.nm)with
 |true=>
  have:0<=i:=hi.2 ha;simp -implicitDefEqProofs [c91,hX,this]
 |false=>
  have: ¬0<=i:=fun h=>by rw[hi.1 h]at ha;cases ha
  simp -implicitDefEqProofs [c91,hX,this]
def gz (ps:List Vr) (p:Vr×Nat):Option Int:=if dy p.1.nm=false then some 3 else if p.1.so<0\/3<p.1.so then some 2 else if(ps.take p.2).any (fun o=>o.nm==p.1.nm)then some 7 else none
theorem xA (ps:List Vr): ∀(rest done:List Vr),ps=done++rest->mi done rest=((rest.zipIdx done.length).findSome? (gz ps)).getD 0
 |[],done,_=>rfl
 |v::vs,done,h=>by
  have ht:ps.take done.length=done:=by rw[h];simp
  simp only[mi,List.zipIdx_cons,List.findSome?_cons,gz,ht];by_cases h1:dy v.nm=false
  ·simp[h1]
  ·by_cases h2:v.so<0\/3<v.so
   ·simp[h1,h2]
   ·cases h3:done.any (fun o=>o.nm==v.nm)with
    |true=>simp[h1,h2,h3]
    |false=>
     have:=xA ps vs (done++[v]) (by rw[h];simp);simp only[h1,h2,if_false,Bool.false_eq_true];simpa using this
theorem Mh (ps:List Vr) (hb:ps.length<big) (hN:ps.length<N) (h36: ∀v∈ps,∀M,cl 36 [.str v.nm] M=some (.bool (dy v.nm),M))
  (h91: ∀(l:List Vr) (v:Vr) (X:List Obj),l.length<=ps.length->Gr (cl 91 [.slc .shared (l.map vrv),.fn 92 [] [.ptr X.length 0]] ⟨X++[.cells (vrc v)],[]⟩) (.bool (l.any (fun o=>o.nm==v.nm))) (X++[.cells (vrc v)]) []):
  ∃e s',dh false (a8 G false cl yl N kr) ⟨[0,8,9,10],[(10,none)],true⟩ 0 0 N ⟨[(0,.slc .shared (ps.map vrv)),(8,.slc .shared (ps.map vrv)),(9,.int .i64 ps.length),(10,.int .i64 0)],⟨[],[]⟩,[]⟩=some (e,s')/\e≠ .normal/\
   (s'.mks=[]/\match(ps.zipIdx 0).findSome? (gz ps)with
    |none=>e=.exit 0
    |some r=>e=.ret/\look 2 s'.ts=.int .i64 r):=by
 unfold big at hb;refine eN (mu:=false) (step:=a8 G false cl yl N kr) (an:=⟨[0,8,9,10],[(10,none)],true⟩) (k:=0) (m:=0) (N:=N) (ps.zipIdx 0) (gz ps)
  (fun i st=> ∃X,st=⟨[(0,.slc .shared (ps.map vrv)),(8,.slc .shared (ps.map vrv)),(9,.int .i64 ps.length),(10,.int .i64 (i:Int))],⟨X,[]⟩,[]⟩)
  (fun r e s'=>s'.mks=[]/\match r with
    |none=>e=.exit 0
    |some r=>e=.ret/\look 2 s'.ts=.int .i64 r) (by simpa using hN) ⟨[],rfl⟩ ?_ ?_
 ·rintro i ⟨v,j⟩ st hx hi ⟨X,rfl⟩;rw[List.getElem?_zipIdx]at hx;have hil:i<ps.length:=by simpa using hi
  rw[List.getElem?_eq_getElem hil]at hx;simp at hx;obtain⟨hx',rfl⟩:=hx;have k36:=h36 v (by rw[<-hx'];exact List.getElem_mem hil);obtain⟨Y,hX⟩:=h91 (ps.take i) v X (by simp;omega);have w1:=dF (i:=i) (by omega);have hle:i<=ps.length:=by omega
  have hsz:dV 2 (ps.map vrv)=true:=by simp
  rw[List.map_take]at hX;simp -implicitDefEqProofs [vrc]at hX;cases h1:dy v.nm with
  |false=>
   rw[h1]at k36;simp -implicitDefEqProofs [gz,kr,hil,hx',k36,h1]
  |true=>
   rw[h1]at k36;by_cases h2:v.so<0
   ·simp -implicitDefEqProofs [gz,kr,hil,hx',k36,h1,h2]
   ·by_cases h3:3<v.so
    ·simp -implicitDefEqProofs [gz,kr,hil,hx',k36,h1,h2,h3]
    ·cases h4:(ps.take i).any (fun o=>o.nm==v.nm)with
     |true=>
      rw[h4]at hX;simp -implicitDefEqProofs [gz,kr,hil,hx',k36,h1,h2,h3,h4,hX,hle,hsz]
     |false=>
      rw[h4]at hX;simp -implicitDefEqProofs [gz,kr,hil,hx',k36,h1,h2,h3,h4,hX,hle,hsz,w1]
 ·rintro st ⟨X,rfl⟩;simp -implicitDefEqProofs [kr]
theorem Mi (ps:List Vr) (hb:ps.length<big) (hN:ps.length<N) (h36: ∀v∈ps,∀M,cl 36 [.str v.nm] M=some (.bool (dy v.nm),M))
  (h91: ∀(l:List Vr) (v:Vr) (X:List Obj),l.length<=ps.length->Gr (cl 91 [.slc .shared (l.map vrv),.fn 92 [] [.ptr X.length 0]] ⟨X++[.cells (vrc v)],[]⟩) (.bool (l.any (fun o=>o.nm==v.nm))) (X++[.cells (vrc v)]) []):
  dn G false cl yl N c37 [.slc .shared (ps.map vrv)]=some (.int .i64 (fu ps),none):=by
 unfold fu;by_cases h6:6<ps.length
 ·have h6':(6:Int)<(ps.length:Int):=by omega
  simp -implicitDefEqProofs [c37,h6,h6']
 ·have h6': ¬(6:Int)<(ps.length:Int):=by omega
  obtain⟨e,⟨ts,M,mks⟩,h1,h2,rfl,h3⟩:=Mh (G:=G) (cl:=cl) (yl:=yl) (N:=N) ps hb hN h36 h91;rw[xA ps ps [] rfl];simp only[h6,if_false,List.length_nil];cases hr:(ps.zipIdx 0).findSome? (gz ps)with
  |none=>
   rw[hr]at h3;subst h3;simp -implicitDefEqProofs [c37,h6',h1]
  |some r=>
   rw[hr]at h3;obtain⟨rfl,h3⟩:=h3;simp at h3;simp -implicitDefEqProofs [c37,h6',h1,h3]
structure xB (cl:a7) (w:List Mc) (m:Mc) (id:Nat) (O:List Obj) (R:List Arr):Prop where
 h15: ∀X,Gr (cl 15 [.ptr id 0,.str m.nm] ⟨O++X,R⟩) (lup w m.nm) (O++X) R
 h36: ∀M,cl 36 [.str m.nm] M=some (.bool (dy m.nm),M)
 h37: ∀M,cl 37 [.slc .shared (m.ps.map vrv)] M=some (.int .i64 (fu m.ps),M)
 h38: ∀M,cl 38 [av m.bd] M=some (.int .i64 (chk m.bd),M)
 h40: ∀X,∃c Y,cl 40 [.slc .shared (m.ps.map vrv)] ⟨O++X,R⟩=some (c,⟨O++X++Y,R⟩)/\Sc (O++X++Y) c m.ps
 h39:chk m.bd=0->fu m.ps=0-> ∀X c,Sc (O++X) c m.ps->Gr (cl 39 [.ptr id 0,av m.bd,c,.bool true] ⟨O++X,R⟩) (.int .i64 (wlk w true m.bd m.ps)) (O++X) R
 h41: ∀M,cl 41 [mcv m] M=some (mcv m,M)
theorem ru (w:List Mc) (x:Str): ∃dc:List AV,dc.length=8/\lup w x=.tup [.agg dc,.bool (fnd w x).isSome]:=by
 unfold lup;cases hf:fnd w x with
 |none=>exact⟨_,rfl,rfl⟩
 |some d=>exact⟨mcc d,by simp[ec],rfl⟩
theorem nS (m:Mc) (l:List AV):dV 8 (mcv m::l)=true:=by simp[dV]
theorem nT: ∀w:List Mc,dV 8 (w.map mcv)=true
 |[]=>rfl
 |m::w=>nS m _
theorem rx {α:Type} {l:List α} {i:Nat} (h:i<l.length) (r:List α) (x:α):(l++r).set i x=l.set i x++r:=List.set_append_left _ _ h
theorem Mj (w:List Mc) (m:Mc) {id:Nat} {a:Option Nat} {O:List Obj} {R:List Arr} (hs:dQ O R id a w) (h:xB cl w m id O R) (hm:may w m≠0):
  Gr (dr G false cl yl N c12 [.ptr id 0,mcv m] ⟨O,R⟩) (.int .i64 (may w m)) O R:=by
 obtain⟨h15,h36,h37,h38,h40,h39,h41⟩:=h;obtain⟨sp,hg⟩:=hs.get;have hg':=fun r=>dD hg r;obtain⟨Y,hY⟩:=h15 [.cells (mcc m)];obtain⟨dc,hdc,hl⟩:=ru w m.nm;rw[hl]at hY;unfold may at hm⊢;simp -implicitDefEqProofs [ec]at hY;by_cases c1:64<=w.length
 ·have c1':(64:Int)<=(w.length:Int):=by omega
  simp only[c1,if_true];unfold Gr;apply Exists.intro;simp -implicitDefEqProofs [c12,ec,hY,hdc,hg',c1'];rfl
 ·have c1': ¬(64:Int)<=(w.length:Int):=by omega
  simp only[c1,if_false]at hm⊢;cases c2:dy m.nm with
  |false=>
   rw[c2]at h36;simp only[if_true];unfold Gr;apply Exists.intro;simp -implicitDefEqProofs [c12,ec,hY,hdc,hg',c1',h36];rfl
  |true=>
   rw[c2]at h36 hm;simp only[Bool.true_eq_false,if_false]at hm⊢;cases c3:(fnd w m.nm).isSome with
   |true=>
    rw[c3]at hY;simp only[if_true];unfold Gr;apply Exists.intro;simp -implicitDefEqProofs [c12,ec,hY,hdc,hg',c1',h36];rfl
   |false=>
    rw[c3]at hY hm;simp only[Bool.false_eq_true,if_false]at hm⊢;by_cases c4:fu m.ps=0
    ·rw[c4]at h37;simp only[c4,if_true]at hm⊢;by_cases c5:chk m.bd=0
     ·rw[c5]at h38;simp only[c5,if_true]at hm⊢;obtain⟨c,Z,hZ,hc⟩:=h40 (.cells (mcc m)::(Y++[.cells dc]));obtain⟨Q,hQ⟩:=h39 c5 c4 ((.cells (mcc m)::(Y++[.cells dc]))++Z) c (by rw[<-List.append_assoc];exact hc);simp -implicitDefEqProofs [ec]at hZ hQ;have hm':(wlk w true m.bd m.ps==0)=false:=by simp[hm]
      unfold Gr;apply Exists.intro;simp -implicitDefEqProofs [c12,ec,hY,hdc,hg',c1',h36,h37,h38,hZ,hQ,hm'];rfl
     ·simp only[c5,if_false]at hm⊢;have c5':(chk m.bd==0)=false:=by simp[c5]
      unfold Gr;apply Exists.intro;simp -implicitDefEqProofs [c12,ec,hY,hdc,hg',c1',h36,h37,h38,c5'];rfl
    ·simp only[c4,if_false];have c4':(fu m.ps==0)=false:=by simp[c4]
     unfold Gr;apply Exists.intro;simp -implicitDefEqProofs [c12,ec,hY,hdc,hg',c1',h36,h37,c4'];rfl
structure ry (O:List Obj) (R:List Arr) (id:Nat) (a:Option Nat) (w:List Mc) (O':List Obj) (R':List Arr) (a':Option Nat):Prop where
 set:dQ O' R' id a' w
 obj: ∀i o,i≠id->O[i]? =some o->O'[i]? =some o
 row: ∀b r,some b≠a->R[b]? =some r->R'[b]? =some r
 own:a'=a\/(a=none/\ ∃k,R.length<=k/\a'=some k)
theorem Mk (w:List Mc) (m:Mc) {id:Nat} {a:Option Nat} {O:List Obj} {R:List Arr} (hs:dQ O R id a w) (h:xB cl w m id O R) (hm:may w m=0):
  ∃O' R' a',dr G false cl yl N c12 [.ptr id 0,mcv m] ⟨O,R⟩=some (.int .i64 0,⟨O',R'⟩)/\ry O R id a (w++[m]) O' R' a':=by
 obtain⟨h15,h36,h37,h38,h40,h39,h41⟩:=h;obtain⟨Y,hY⟩:=h15 [.cells (mcc m)];obtain⟨dc,hdc,hl⟩:=ru w m.nm;rw[hl]at hY;unfold may at hm;simp -implicitDefEqProofs [ec]at hY;by_cases c1:64<=w.length
 ·simp[c1]at hm
 ·have c1': ¬(64:Int)<=(w.length:Int):=by omega
  simp only[c1,if_false]at hm;cases c2:dy m.nm with
  |false=>simp[c2]at hm
  |true=>
   rw[c2]at h36 hm;simp only[Bool.true_eq_false,if_false]at hm;cases c3:(fnd w m.nm).isSome with
   |true=>simp[c3]at hm
   |false=>
    rw[c3]at hY hm;simp only[Bool.false_eq_true,if_false]at hm;by_cases c4:fu m.ps=0
    ·rw[c4]at h37;simp only[c4,if_true]at hm;by_cases c5:chk m.bd=0
     ·rw[c5]at h38;simp only[c5,if_true]at hm;obtain⟨c,Z,hZ,hc⟩:=h40 (.cells (mcc m)::(Y++[.cells dc]));obtain⟨Q,hQ⟩:=h39 c5 c4 ((.cells (mcc m)::(Y++[.cells dc]))++Z) c (by rw[<-List.append_assoc];exact hc);rw[hm]at hQ;have hsz:=nT w;have hsm:=nS m [];have hq1:(w.length+1)*120<=140737488355328:=by omega
      have hq2:w.length+1<=140737488355328:=by omega
      simp -implicitDefEqProofs [ec]at hZ hQ hsm h41;cases hs with
      |nil hg=>
       have hg':=fun r=>dD hg r;have hlt:id<O.length:=(List.getElem?_eq_some_iff.1 hg).1;have hst:=fun r x=>rx (l:=O) hlt r x;obtain⟨X,hX⟩: ∃X,dr G false cl yl N c12 [.ptr id 0,mcv m] ⟨O,R⟩=some (.int .i64 0,⟨O.set id (.cells [.slc (.own R.length) [mcv m]])++X,R++[.app 1 42 8]⟩):=by
        apply Exists.intro;simp -implicitDefEqProofs [c12,ec,hY,hdc,hg',c1',h36,h37,h38,hZ,hQ,hst,hsm,h41];rfl
       refine⟨_,_,some R.length,hX,?_⟩;refine⟨.own (a:=R.length) ?_ (by simp),?_,?_,.inr ⟨rfl,R.length,Nat.le_refl _,rfl⟩⟩
       ·exact dD (by simp[hlt]) _
       ·intro i o hi ho;refine dD ?_ _;rw[List.getElem?_set_ne (by omega)];exact ho
       ·intro b r hb hr;exact dD hr _
      |own hg hr=>
       rename_i a
       have hg':=fun r=>dD hg r;have hlt:id<O.length:=(List.getElem?_eq_some_iff.1 hg).1;have hla:a<R.length:=(List.getElem?_eq_some_iff.1 hr).1;have hst:=fun r x=>rx (l:=O) hlt r x;obtain⟨X,hX⟩: ∃X,dr G false cl yl N c12 [.ptr id 0,mcv m] ⟨O,R⟩=some (.int .i64 0,⟨O.set id (.cells [.slc (.own a) ((w++[m]).map mcv)])++X,R.set a (.app (w++[m]).length 42 8)⟩):=by
        apply Exists.intro;simp -implicitDefEqProofs [c12,ec,hY,hdc,hg',c1',h36,h37,h38,hZ,hQ,hst,hsm,h41,hr,hsz,hq1,hq2];rfl
       refine⟨_,_,some a,hX,?_⟩;refine⟨.own (a:=a) ?_ (by simp[hla]),?_,?_,.inl rfl⟩
       ·exact dD (by simp[hlt]) _
       ·intro i o hi ho;refine dD ?_ _;rw[List.getElem?_set_ne (by omega)];exact ho
       ·intro b r hb hr';rw[List.getElem?_set_ne (by intro e;exact hb (by rw[e]))];exact hr'
     ·simp[c5]at hm
    ·simp[c4]at hm
end
def Gw (r:Option (AV×Mem)) (v:AV) (O:List Obj) (R:List Arr):Prop:= ∃X Y,r=some (v,⟨O++X,R++Y⟩)
def Dst (w:List Mc):Prop:= ∀d∈w,fnd w d.nm=some d
section
variable {G:Gls} {cl:a7} {yl:a7} {N:Nat}
theorem Ml (w:List Mc) (sp:Sp) {O:List Obj} {R:List Arr} (hb:w.length<big) (hN:w.length<N):
  ∃e s',dh false (a8 G false cl yl N qJ) ⟨[3,11,12,13],[(3,none),(13,none)],true⟩ O.length (R.length+1) N ⟨[(3,.slc (.own R.length) []),(11,.slc sp (w.map mcv)),(12,.int .i64 w.length),(13,.int .i64 0)],⟨O,R++[.app 0 0 0]⟩,[]⟩=some (e,s')/\e≠ .normal/\
   (e=.exit 0/\s'.mks=[]/\look 3 s'.ts=.slc (.own R.length) (w.map fun m=>.str m.nm)/\ ∃X,s'.m=⟨O++X,R++[dA w.length 9 1]⟩):=by
 unfold big at hb;refine(eN (mu:=false) (step:=a8 G false cl yl N qJ) (an:=⟨[3,11,12,13],[(3,none),(13,none)],true⟩) (k:=O.length) (m:=R.length+1) (N:=N) w (fun _=>(none:Option Unit))
  (fun i st=> ∃X,st=⟨[(3,.slc (.own R.length) ((w.take i).map fun m=>.str m.nm)),(11,.slc sp (w.map mcv)),(12,.int .i64 w.length),(13,.int .i64 (i:Int))],⟨O++X,R++[dA i 9 1]⟩,[]⟩)
  (fun r e s'=>e=.exit 0/\s'.mks=[]/\look 3 s'.ts=.slc (.own R.length) (w.map fun m=>.str m.nm)/\ ∃X,s'.m=⟨O++X,R++[dA w.length 9 1]⟩) hN ⟨[],by simp[dA]⟩ ?_ ?_)
 ·rintro i m st hx hi ⟨X,rfl⟩;have hx':=(List.getElem?_eq_some_iff.1 hx).2;have w1:=dF (i:=i) (by omega);have hm:min i w.length=i:=by omega
  have hq:(i+1)*16<=140737488355328:=by omega
  have hq2:i+1<=140737488355328:=by omega
  have hr:i=0\/ ¬i=0:=Decidable.em _;have hz0: ∀l:List Mc,dV 1 (l.map fun m=>AV.str m.nm)=true:=fun l=>by cases l<;>rfl
  have hz1:=hz0 (w.take i);have hz2:dV 1 ((w.map fun m=>AV.str m.nm).take i)=true:=by rw[<-List.map_take];exact hz1
  rw[ij hx];simp -implicitDefEqProofs [qJ,dA,hi,hx',w1,hm,hq,hq2,hr,ec,hz1,hz2]
 ·rintro st ⟨X,rfl⟩;rw[List.take_length];simp -implicitDefEqProofs [qJ]
theorem Mm (w:List Mc) {id:Nat} {a:Option Nat} {O:List Obj} {R:List Arr} (hs:dQ O R id a w) (hb:w.length<big) (hN:w.length<N):
  ∃X,dr G false cl yl N c28 [.ptr id 0] ⟨O,R⟩=some (.slc (.own R.length) (w.map fun m=>.str m.nm),⟨O++X,R++[dA w.length 9 1]⟩):=by
 obtain⟨sp,hg⟩:=hs.get;obtain⟨e,⟨ts,M,mks⟩,h1,h2,rfl,rfl,h3,X,rfl⟩:=Ml (G:=G) (cl:=cl) (yl:=yl) (N:=N) w sp (O:=O) (R:=R) hb hN;refine⟨X,?_⟩;simp at h3;simp -implicitDefEqProofs [c28,hg,h1,h3]
structure Mn (cl:a7) (w:List Mc) (id:Nat) (O:List Obj) (R:List Arr):Prop where
 h28: ∃X,cl 28 [.ptr id 0] ⟨O,R⟩=some (.slc (.own R.length) (w.map fun m=>.str m.nm),⟨O++X,R++[dA w.length 9 1]⟩)
 h15: ∀d∈w,∀X Y,Gr (cl 15 [.ptr id 0,.str d.nm] ⟨O++X,R++Y⟩) (.tup [mcv d,.bool true]) (O++X) (R++Y)
 h42: ∀d∈w,∀M,cl 42 [mcv d] M=some (mcv d,M)
 h43: ∀sp sp' M,sp≠ .full->sp'≠ .full->cl 43 [.slc sp (w.map mcv),.slc sp' (w.map mcv)] M=some (.bool true,M)
theorem Mo (w:List Mc) (id:Nat) (sw:Sp) {O:List Obj} {R:List Arr} (X0:List Obj) (h15: ∀d∈w,∀X Y,Gr (cl 15 [.ptr id 0,.str d.nm] ⟨O++X,R++Y⟩) (.tup [mcv d,.bool true]) (O++X) (R++Y)) (h42: ∀d∈w,∀M,cl 42 [mcv d] M=some (mcv d,M)) (hb:w.length<big) (hN:w.length<N):
  ∃e s',dh false (a8 G false cl yl N qI) ⟨[0,1,5,6,7],[(6,none),(7,none)],true⟩ (O++X0).length (R.length+2) N ⟨[(0,.ptr id 0),(1,.slc sw (w.map mcv)),(5,.slc (.own R.length) (w.map fun m=>.str m.nm)),(6,.slc (.own (R.length+1)) []),(7,.int .i64 0)],⟨O++X0,R++[dA w.length 9 1,.app 0 0 0]⟩,[]⟩=some (e,s')/\e≠ .normal/\
   (e=.exit 0/\s'.mks=[]/\look 1 s'.ts=.slc sw (w.map mcv)/\look 6 s'.ts=.slc (.own (R.length+1)) (w.map mcv)/\ ∃X,s'.m=⟨O++X,R++[dA w.length 9 1,dA w.length 34 8]⟩):=by
 unfold big at hb;refine(eN (mu:=false) (step:=a8 G false cl yl N qI) (an:=⟨[0,1,5,6,7],[(6,none),(7,none)],true⟩) (k:=(O++X0).length) (m:=R.length+2) (N:=N) w (fun _=>(none:Option Unit))
  (fun i st=> ∃X,st=⟨[(0,.ptr id 0),(1,.slc sw (w.map mcv)),(5,.slc (.own R.length) (w.map fun m=>.str m.nm)),(6,.slc (.own (R.length+1)) ((w.take i).map mcv)),(7,.int .i64 (i:Int))],⟨O++X,R++[dA w.length 9 1,dA i 34 8]⟩,[]⟩)
  (fun r e s'=>e=.exit 0/\s'.mks=[]/\look 1 s'.ts=.slc sw (w.map mcv)/\look 6 s'.ts=.slc (.own (R.length+1)) (w.map mcv)/\ ∃X,s'.m=⟨O++X,R++[dA w.length 9 1,dA w.length 34 8]⟩) hN ⟨X0,by simp[dA]⟩ ?_ ?_)
 ·rintro i m st hx hi ⟨X,rfl⟩;have hx':=(List.getElem?_eq_some_iff.1 hx).2;obtain⟨Z,hZ⟩:=h15 m (fR hx) X [dA w.length 9 1,dA i 34 8];have k42:=h42 m (fR hx);have w1:=dF (i:=i) (by omega);have hm:min i w.length=i:=by omega
  have hq:(i+1)*120<=140737488355328:=by omega
  have hq2:i+1<=140737488355328:=by omega
  have hr:i=0\/ ¬i=0:=Decidable.em _;have hz:=nT (w.take i);have hz2:dV 8 ((w.map mcv).take i)=true:=by rw[<-List.map_take];exact hz
  have hz1:=nS m [];simp -implicitDefEqProofs [dA]at hZ;rw[ij hx];simp -implicitDefEqProofs [qI,dA,hi,hx',w1,hm,hq,hq2,hr,hZ,k42,hz,hz1,hz2]
 ·rintro st ⟨X,rfl⟩;rw[List.take_length];simp -implicitDefEqProofs [qI]
theorem Mp (w:List Mc) {id:Nat} {O:List Obj} {R:List Arr} (sw:Sp) (hsw:sw≠ .full) (h:Mn cl w id O R) (hb:w.length<big) (hN:w.length<N):
  Gw (dr G false cl yl N c14 [.ptr id 0,.slc sw (w.map mcv)] ⟨O,R⟩) (.bool true) O R:=by
 obtain⟨⟨X0,h28⟩,h15,h42,h43⟩:=h;obtain⟨e,⟨ts,M,mks⟩,h1,h2,rfl,rfl,h3,h4,X,rfl⟩:=Mo (G:=G) (cl:=cl) (yl:=yl) (N:=N) w id sw X0 h15 h42 hb hN;simp at h1 h3 h4;replace h43:=fun M=>h43 (.own (R.length+1)) sw M (by simp) hsw;refine⟨X,[dA w.length 9 1,dA w.length 34 8],?_⟩;simp -implicitDefEqProofs [c14,h28,h1,h3,h4,h43]
end
mutual
def nmq:Nd->Bool
 | .mk _ ns _ _ _ l=>decide (ns.length<=20)&&ns.all (fun x=>decide (x.length<=20))&&rz l
def rz:List Nd->Bool
 |[]=>true
 |x::xs=>nmq x&&rz xs
end
theorem Mq (n:Nd):nmq n=(decide (n.ns.length<=20)&&n.ns.all (fun x=>decide (x.length<=20))&&rz n.l):=by cases n;rfl
def nmG (x:Nd):Option Unit:=if nmq x then none else some ()
theorem Cb: ∀l:List Nd,rz l=(l.findSome? nmG).isNone
 |[]=>rfl
 |x::l=>by simp only[rz,List.findSome?_cons,Cb l,nmG];cases nmq x<;>simp
def pU (x:Str):Option Unit:=if x.length<=20 then none else some ()
theorem Cc: ∀l:List Str,l.all (fun x=>decide (x.length<=20))=(l.findSome? pU).isNone
 |[]=>rfl
 |x::l=>by
  simp only[List.all_cons,List.findSome?_cons,Cc l,pU];by_cases h:x.length<=20<;>simp[h]
def few (n:Nd):Bool:=decide (sz n<=30)&&decide (dp n<=20)&&nmq n
def nU (m:Mc):Bool:=few m.bd&&decide (m.ps.length<=10)
def sme (l:List Mc):Bool:=decide (l.length<=5)&&l.all nU
def smG (m:Mc):Option Unit:=if nU m then none else some ()
theorem Cd: ∀l:List Mc,l.all nU=(l.findSome? smG).isNone
 |[]=>rfl
 |x::l=>by simp only[List.all_cons,List.findSome?_cons,Cd l,smG];cases nU x<;>simp
section
variable {G:Gls} {cl:a7} {yl:a7} {N:Nat}
theorem Mr (n:Nd) (hb:bk n<=big) (hN1:n.ns.length<N) (hN:n.l.length<N) (hc: ∀x∈n.l,∀M,cl 65 [av x] M=some (.bool (nmq x),M)):
  dn G false cl yl N c65 [av n]=some (.bool (nmq n),none):=by
 have hlen:=iy n;have hnl:=jI n;unfold big at hb;rw[Mq];by_cases hns:n.ns.length<=20
 ·have hd: ¬((20:Int)<(n.ns.length:Int)):=by omega
  have h1:=eN (mu:=false) (step:=a8 G false cl yl N qL) (an:=⟨[1,3],[(3,none)],false⟩) (k:=1) (m:=0) (N:=N) n.ns pU
   (fun i st=>st=⟨[(1,.ptr 0 0),(3,.int .i64 (i:Int))],⟨[.cells (ndc n)],[]⟩,[]⟩)
   (fun r e s'=>s'.mks=[]/\match r with
    |none=>e=.exit 0/\s'.m=⟨[.cells (ndc n)],[]⟩/\look 1 s'.ts=.ptr 0 0
    |some _=>e=.ret/\look 2 s'.ts=.bool false) (s0:=⟨[(1,.ptr 0 0),(3,.int .i64 0)],⟨[.cells (ndc n)],[]⟩,[]⟩) hN1 rfl ?_ ?_
  ·obtain⟨e,⟨ts,M,mks⟩,h1,-,rfl,h3⟩:=h1;rw[Cc];cases hf:n.ns.findSome? pU with
   |some r=>
    rw[hf]at h3;obtain⟨rfl,h3⟩:=h3;simp at h3;simp -implicitDefEqProofs [c65,hns,hd,h1,h3]
   |none=>
    rw[hf]at h3;obtain⟨rfl,rfl,h3⟩:=h3;simp at h3;have k1:=eN (mu:=false) (step:=a8 G false cl yl N tc) (an:=⟨[1,4],[(4,none)],false⟩) (k:=1) (m:=0) (N:=N) n.l nmG
     (fun i st=>st=⟨[(1,.ptr 0 0),(4,.int .i64 (i:Int))],⟨[.cells (ndc n)],[]⟩,[]⟩)
     (fun r e s'=>s'.mks=[]/\match r with
      |none=>e=.exit 2
      |some _=>e=.ret/\look 2 s'.ts=.bool false) (s0:=⟨[(1,.ptr 0 0),(4,.int .i64 0)],⟨[.cells (ndc n)],[]⟩,[]⟩) hN rfl ?_ ?_
    ·obtain⟨e,⟨ts',M',mks'⟩,k1,-,rfl,k3⟩:=k1;rw[Cb];cases hg:n.l.findSome? nmG with
     |none=>
      rw[hg]at k3;subst k3;simp -implicitDefEqProofs [c65,hns,hd,h1,h3,k1]
     |some r=>
      rw[hg]at k3;obtain⟨rfl,k3⟩:=k3;simp at k3;simp -implicitDefEqProofs [c65,hns,hd,h1,h3,k1,k3]
    ·rintro i x st hx hi rfl;have w1:=dF (i:=i) (by omega);have hc':=hc x (fR hx);have hx':=(List.getElem?_eq_some_iff.1 hx).2;cases hn:nmq x<;>simp -implicitDefEqProofs [nmG,tc,hi,hx',hc',w1,hn]
    ·rintro st rfl;simp -implicitDefEqProofs [tc]
  ·rintro i x st hx hi rfl;have w1:=dF (i:=i) (by omega);have hx':=(List.getElem?_eq_some_iff.1 hx).2;by_cases hn:x.length<=20
   ·have hn': ¬(20:Int)<(x.length:Int):=by omega
    simp -implicitDefEqProofs [pU,qL,hi,hx',w1,hn,hn']
   ·have hn':(20:Int)<(x.length:Int):=by omega
    simp -implicitDefEqProofs [pU,qL,hi,hx',w1,hn,hn']
  ·rintro st rfl;simp -implicitDefEqProofs [qL]
 ·have hd:(20:Int)<(n.ns.length:Int):=by omega
  simp -implicitDefEqProofs [c65,hns,hd]
theorem Mt (n:Nd) (h37: ∀M,cl 63 [av n] M=some (.int .i64 (sz n),M)) (h38: ∀M,cl 64 [av n] M=some (.int .i64 (dp n),M)) (h39: ∀M,cl 65 [av n] M=some (.bool (nmq n),M)):
  dn G false cl yl N c23 [av n]=some (.bool (few n),none):=by
 unfold few;by_cases h1:sz n<=30<;>by_cases h2:dp n<=20<;>cases h3:nmq n
 all_goals
  have k1:((30:Int)<(sz n:Int))= ¬(sz n<=30):=by apply propext;omega
  have k2:((20:Int)<(dp n:Int))= ¬(dp n<=20):=by apply propext;omega
  simp -implicitDefEqProofs [c23,h37,h38,h39,h1,h2,h3,k1,k2]
theorem ev8 (l:List Mc) (hN:6<N) (hc: ∀m∈l,∀M,cl 23 [av m.bd] M=some (.bool (few m.bd),M)):
  dn G false cl yl N c8 [.slc .shared (l.map mcv)]=some (.bool (sme l),none):=by
 unfold sme;by_cases hl:l.length<=5
 ·have hd: ¬(5:Int)<(l.length:Int):=by omega
  have h1:=eN (mu:=false) (step:=a8 G false cl yl N o4) (an:=⟨[0,3],[(3,none)],false⟩) (k:=0) (m:=0) (N:=N) l smG
   (fun i st=>st=⟨[(0,.slc .shared (l.map mcv)),(3,.int .i64 (i:Int))],⟨[],[]⟩,[]⟩)
   (fun r e s'=>s'.mks=[]/\match r with
    |none=>e=.exit 0
    |some _=>e=.ret/\look 2 s'.ts=.bool false) (s0:=⟨[(0,.slc .shared (l.map mcv)),(3,.int .i64 0)],⟨[],[]⟩,[]⟩) (by omega) rfl ?_ ?_
  ·obtain⟨e,⟨ts,M,mks⟩,h1,-,rfl,h3⟩:=h1;rw[Cd];cases hf:l.findSome? smG with
   |none=>
    rw[hf]at h3;subst h3;simp -implicitDefEqProofs [c8,hl,hd,h1]
   |some r=>
    rw[hf]at h3;obtain⟨rfl,h3⟩:=h3;simp at h3;simp -implicitDefEqProofs [c8,hl,hd,h1,h3]
  ·rintro i m st hx hi rfl;have w1:=dF (i:=i) (by omega);have hx':=(List.getElem?_eq_some_iff.1 hx).2;have hc':=hc m (fR hx);cases hf:few m.bd with
   |false=>
    rw[hf]at hc';simp -implicitDefEqProofs [smG,nU,o4,hi,hx',hc',w1,hf]
   |true=>
    rw[hf]at hc';by_cases hp:m.ps.length<=10
    ·have hp': ¬(10:Int)<(m.ps.length:Int):=by omega
     simp -implicitDefEqProofs [smG,nU,o4,hi,hx',hc',w1,hf,hp,hp']
    ·have hp':(10:Int)<(m.ps.length:Int):=by omega
     simp -implicitDefEqProofs [smG,nU,o4,hi,hx',hc',w1,hf,hp,hp']
  ·rintro st rfl;simp -implicitDefEqProofs [o4]
 ·have hd:(5:Int)<(l.length:Int):=by omega
  simp -implicitDefEqProofs [c8,hl,hd]
end
structure Qn where
 fr:List Vr
 bd:Nd
def qsc (q:Qn):List AV:=[.slc .shared (q.fr.map vrv),.int .i64 q.bd.op,.slc .shared (q.bd.ns.map .str),.int .i64 q.bd.so,.int .i64 q.bd.nn,.int .i64 q.bd.mm,.slc .shared (avL q.bd.l)]
def qsv (q:Qn):AV:=.agg (qsc q)
@[simp] theorem Ud (q:Qn):cells (qsv q)=some [.slc .shared (q.fr.map vrv),.int .i64 q.bd.op,.slc .shared (q.bd.ns.map .str),.int .i64 q.bd.so,.int .i64 q.bd.nn,.int .i64 q.bd.mm,.slc .shared (avL q.bd.l)]:=rfl
theorem rA (fr:List Vr) (n:Nd):AV.agg (.slc .shared (fr.map vrv)::ndc n)=qsv ⟨fr,n⟩:=by rw[gL];rfl
theorem Ce (m:Mc):AV.agg (.str m.nm::.slc .shared (m.ps.map vrv)::ndc m.bd)=mcv m:=rfl
@[simp] theorem Ue (q:Qn):gu (qsv q)=some (qsv q):=rfl
@[simp] theorem Uf (q:Qn):dY (qsv q)=some (qsv q):=rfl
section
variable {G:Gls} {cl:a7} {yl:a7} {N:Nat}
theorem pV {mu:Bool} {cf:CFn} {ags:List AV} {cs cs':List AV} (ha:eh ags=some ags) (h: ∃M,dr G mu cl yl N cf ags ⟨[],[]⟩=some (.agg cs,M)) (hd: ∀M,eJ M 4000 (.agg cs)=some (.agg cs')):dn G mu cl yl N cf ags=some (.agg cs',none):=by
 obtain⟨M,h⟩:=h;unfold dn;rw[ha];simp only[h,rY,hd]
theorem Mu (q:Qn) (hb:q.fr.length<big) (hN:q.fr.length<N) (h72: ∀M,cl 72 [av q.bd] M=some (av q.bd,M)):
  dn G false cl yl N c25 [qsv q]=some (qsv q,none):=by
 unfold big at hb;refine pV (cs:=[.slc (.own 0) (q.fr.map vrv),.int .i64 q.bd.op,.slc .shared (q.bd.ns.map .str),.int .i64 q.bd.so,.int .i64 q.bd.nn,.int .i64 q.bd.mm,.slc .shared (avL q.bd.l)]) (cs':=qsc q) (by simp) ?_ (fun M=>rfl);have h1:=jg (mu:=false) (step:=a8 G false cl yl N s8) (an:=⟨[1,2,3,4],[(3,some 0),(4,none)],false⟩) (k:=3) (m:=1) (N:=N) q.fr
  (fun i=>⟨[(1,.ptr 0 0),(2,.ptr 1 0),(3,.ptr 2 0),(4,.int .i64 (i:Int))],⟨[.cells (qsc q),.cells [.slc .full [],.int .i64 0,.slc .full [],.int .i64 0,.int .i64 0,.int .i64 0,.slc .full []],.cells [.slc (.own 0) ((q.fr.take i).map vrv),.int .i64 q.bd.op,.slc .shared (q.bd.ns.map .str),.int .i64 q.bd.so,.int .i64 q.bd.nn,.int .i64 q.bd.mm,.slc .shared (avL q.bd.l)]],[dA i 74 2]⟩,[]⟩)
  (.exit 0) ⟨[(13,.bool false),(12,.int .i64 q.fr.length),(11,.slc .shared (q.fr.map vrv)),(10,.ptr 0 0),(9,.int .i64 q.fr.length),(1,.ptr 0 0),(2,.ptr 1 0),(3,.ptr 2 0),(4,.int .i64 q.fr.length)],⟨[.cells (qsc q),.cells [.slc .full [],.int .i64 0,.slc .full [],.int .i64 0,.int .i64 0,.int .i64 0,.slc .full []],.cells [.slc (.own 0) (q.fr.map vrv),.int .i64 q.bd.op,.slc .shared (q.bd.ns.map .str),.int .i64 q.bd.so,.int .i64 q.bd.nn,.int .i64 q.bd.mm,.slc .shared (avL q.bd.l)]],[dA q.fr.length 74 2]⟩,[]⟩ hN (by simp) ?_ ?_
 ·simp[qsc,dA]at h1;exact⟨_,by
   simp -implicitDefEqProofs [c25,h72,h1,gL];rfl⟩
 ·intro i v hx hi;have w1:=dF (i:=i) (by omega);have hx':=(List.getElem?_eq_some_iff.1 hx).2;have hm:min i q.fr.length=i:=by omega
  have hq:(i+1)*24<=140737488355328:=by omega
  have hq2:i+1<=140737488355328:=by omega
  have hr:i=0\/ ¬i=0:=Decidable.em _;have hz:=Bf (q.fr.take i);have hz2:dV 2 ((q.fr.map vrv).take i)=true:=by rw[<-List.map_take];exact hz
  rw[ij hx];simp -implicitDefEqProofs [s8,qsc,dA,hi,hx',w1,hm,hq,hq2,hr,hz,hz2]
 ·rw[List.take_length];simp -implicitDefEqProofs [s8,qsc]
theorem Mv (q:Qn) (hb:q.fr.length<big) (hN:q.fr.length<N) (h72: ∀M,cl 159 [av q.bd] M=some (av q.bd,M)):
  dn G false cl yl N wz [qsv q]=some (qsv q,none):=by
 unfold big at hb;refine pV (cs:=[.slc (.own 0) (q.fr.map vrv),.int .i64 q.bd.op,.slc .shared (q.bd.ns.map .str),.int .i64 q.bd.so,.int .i64 q.bd.nn,.int .i64 q.bd.mm,.slc .shared (avL q.bd.l)]) (cs':=qsc q) (by simp) ?_ (fun M=>rfl);have h1:=jg (mu:=false) (step:=a8 G false cl yl N tf) (an:=⟨[1,2,3,4],[(3,some 0),(4,none)],false⟩) (k:=3) (m:=1) (N:=N) q.fr
  (fun i=>⟨[(1,.ptr 0 0),(2,.ptr 1 0),(3,.ptr 2 0),(4,.int .i64 (i:Int))],⟨[.cells (qsc q),.cells [.slc .full [],.int .i64 0,.slc .full [],.int .i64 0,.int .i64 0,.int .i64 0,.slc .full []],.cells [.slc (.own 0) ((q.fr.take i).map vrv),.int .i64 q.bd.op,.slc .shared (q.bd.ns.map .str),.int .i64 q.bd.so,.int .i64 q.bd.nn,.int .i64 q.bd.mm,.slc .shared (avL q.bd.l)]],[dA i 85 2]⟩,[]⟩)
  (.exit 0) ⟨[(13,.bool false),(12,.int .i64 q.fr.length),(11,.slc .shared (q.fr.map vrv)),(10,.ptr 0 0),(9,.int .i64 q.fr.length),(1,.ptr 0 0),(2,.ptr 1 0),(3,.ptr 2 0),(4,.int .i64 q.fr.length)],⟨[.cells (qsc q),.cells [.slc .full [],.int .i64 0,.slc .full [],.int .i64 0,.int .i64 0,.int .i64 0,.slc .full []],.cells [.slc (.own 0) (q.fr.map vrv),.int .i64 q.bd.op,.slc .shared (q.bd.ns.map .str),.int .i64 q.bd.so,.int .i64 q.bd.nn,.int .i64 q.bd.mm,.slc .shared (avL q.bd.l)]],[dA q.fr.length 85 2]⟩,[]⟩ hN (by simp) ?_ ?_
 ·simp[qsc,dA]at h1;exact⟨_,by
   simp -implicitDefEqProofs [wz,h72,h1,gL];rfl⟩
 ·intro i v hx hi;have w1:=dF (i:=i) (by omega);have hx':=(List.getElem?_eq_some_iff.1 hx).2;have hm:min i q.fr.length=i:=by omega
  have hq:(i+1)*24<=140737488355328:=by omega
  have hq2:i+1<=140737488355328:=by omega
  have hr:i=0\/ ¬i=0:=Decidable.em _;have hz:=Bf (q.fr.take i);have hz2:dV 2 ((q.fr.map vrv).take i)=true:=by rw[<-List.map_take];exact hz
  rw[ij hx];simp -implicitDefEqProofs [tf,qsc,dA,hi,hx',w1,hm,hq,hq2,hr,hz,hz2]
 ·rw[List.take_length];simp -implicitDefEqProofs [tf,qsc]
theorem Mw (m:Mc) (h25: ∀M,cl 25 [qsv ⟨m.ps,m.bd⟩] M=some (qsv ⟨m.ps,m.bd⟩,M)):dn G false cl yl N c13 [mcv m]=some (mcv m,none):=by
 rw[show mcv m=.agg (mcc m) from rfl];refine pV (cs:=mcc m) (cs':=mcc m) (by show eh [mcv m]=_;simp;rfl) ?_ (fun M=>by rw[ec];rfl);show∃M,dr G false cl yl N c13 [mcv m] ⟨[],[]⟩=some (mcv m,M);exact⟨_,by
  simp -implicitDefEqProofs [c13,ec,rA,Ce,h25];rfl⟩
theorem Mx (m:Mc) (h100: ∀M,cl 100 [qsv ⟨m.ps,m.bd⟩] M=some (qsv ⟨m.ps,m.bd⟩,M)):dn G false cl yl N c42 [mcv m]=some (mcv m,none):=by
 rw[show mcv m=.agg (mcc m) from rfl];refine pV (cs:=mcc m) (cs':=mcc m) (by show eh [mcv m]=_;simp;rfl) ?_ (fun M=>by rw[ec];rfl);show∃M,dr G false cl yl N c42 [mcv m] ⟨[],[]⟩=some (mcv m,M);exact⟨_,by
  simp -implicitDefEqProofs [c42,ec,rA,Ce,h100];rfl⟩
def pW (l:List Vr) (M:Mem):Option (AV×Mem):=match l with
 |[]=>some (.slc .full [],M)
 |v::vs=>some (.slc (.own M.arrs.length) ((v::vs).map vrv),{M with arrs:=M.arrs++[.app (v::vs).length 74 2]})
theorem My (m:Mc) (h70: ∀M,cl 70 [.slc .shared (m.ps.map vrv)] M=pW m.ps M) (h99: ∀M,cl 99 [av m.bd] M=some (av m.bd,M)):dn G false cl yl N c41 [mcv m]=some (mcv m,none):=by
 rw[show mcv m=.agg (mcc m) from rfl];cases hp:m.ps with
 |nil=>
  rw[hp]at h70;simp only[pW,List.map_nil]at h70;refine pV (cs:=[.str m.nm,.slc .full [],.int .i64 m.bd.op,.slc .shared (m.bd.ns.map .str),.int .i64 m.bd.so,.int .i64 m.bd.nn,.int .i64 m.bd.mm,.slc .shared (avL m.bd.l)]) (cs':=mcc m) (by show eh [mcv m]=_;simp;rfl) ?_ (fun M=>by rw[ec,hp];rfl);show∃M,dr G false cl yl N c41 [mcv m] ⟨[],[]⟩=some (_,M);exact⟨_,by
   simp -implicitDefEqProofs [c41,ec,hp,h70,h99,gL];rfl⟩
 |cons v vs=>
  rw[hp]at h70;simp only[pW]at h70;refine pV (cs:=[.str m.nm,.slc (.own 0) ((v::vs).map vrv),.int .i64 m.bd.op,.slc .shared (m.bd.ns.map .str),.int .i64 m.bd.so,.int .i64 m.bd.nn,.int .i64 m.bd.mm,.slc .shared (avL m.bd.l)]) (cs':=mcc m) (by show eh [mcv m]=_;simp;rfl) ?_ (fun M=>by rw[ec,hp];rfl);show∃M,dr G false cl yl N c41 [mcv m] ⟨[],[]⟩=some (_,M);simp only[List.map_cons]at h70;exact⟨_,by
   simp -implicitDefEqProofs [c41,ec,hp,h70,h99,gL];rfl⟩
theorem Mz (q:Qn) (hb:q.fr.length<big) (hN:q.fr.length<N) (h160: ∀M,cl 160 [av q.bd,av q.bd] M=some (.bool true,M)):
  dn G false cl yl N wA [qsv q,qsv q]=some (.bool true,none):=by
 unfold big at hb;have h1:=jg (mu:=false) (step:=a8 G false cl yl N tg) (an:=⟨[2,3,5],[(5,none)],false⟩) (k:=2) (m:=0) (N:=N) q.fr
  (fun i=>⟨[(2,.ptr 0 0),(3,.ptr 1 0),(5,.int .i64 (i:Int))],⟨[.cells (qsc q),.cells (qsc q)],[]⟩,[]⟩)
  (.exit 0) ⟨[(17,.bool false),(16,.int .i64 q.fr.length),(15,.slc .shared (q.fr.map vrv)),(14,.ptr 0 0),(13,.int .i64 q.fr.length),(2,.ptr 0 0),(3,.ptr 1 0),(5,.int .i64 q.fr.length)],⟨[.cells (qsc q),.cells (qsc q)],[]⟩,[]⟩ hN (by simp) ?_ ?_
 ·simp[qsc]at h1;simp -implicitDefEqProofs [wA,h1,h160]
 ·intro i v hx hi;have w1:=dF (i:=i) (by omega);have hx':=(List.getElem?_eq_some_iff.1 hx).2;have he:eqL [2,1] [.str v.nm,.int .i64 v.so] [.str v.nm,.int .i64 v.so]=some true:=by simp[eqL,jB]
  have hv:vrv v=.agg [.str v.nm,.int .i64 v.so]:=rfl;simp -implicitDefEqProofs [tg,qsc,hi,hx',w1,hv,he,-LO]
 ·simp -implicitDefEqProofs [tg,qsc]
theorem MA (w:List Mc) (hb:w.length<big) (hN:w.length<N) (h101: ∀m∈w,∀M,cl 101 [qsv ⟨m.ps,m.bd⟩,qsv ⟨m.ps,m.bd⟩] M=some (.bool true,M)):
  dn G false cl yl N c43 [.slc .shared (w.map mcv),.slc .shared (w.map mcv)]=some (.bool true,none):=by
 unfold big at hb;have h1:=jg (mu:=false) (step:=a8 G false cl yl N s9) (an:=⟨[0,1,5],[(5,none)],false⟩) (k:=0) (m:=0) (N:=N) w
  (fun i=>⟨[(0,.slc .shared (w.map mcv)),(1,.slc .shared (w.map mcv)),(5,.int .i64 (i:Int))],⟨[],[]⟩,[]⟩)
  (.exit 0) ⟨[(14,.bool false),(13,.int .i64 w.length),(12,.slc .shared (w.map mcv)),(11,.int .i64 w.length),(0,.slc .shared (w.map mcv)),(1,.slc .shared (w.map mcv)),(5,.int .i64 w.length)],⟨[],[]⟩,[]⟩ hN (by simp) ?_ ?_
 ·simp at h1;simp -implicitDefEqProofs [c43,h1]
 ·intro i m hx hi;have w1:=dF (i:=i) (by omega);have hx':=(List.getElem?_eq_some_iff.1 hx).2;have k:=h101 m (fR hx);simp -implicitDefEqProofs [s9,hi,hx',w1,dB,rA,k]
 ·simp -implicitDefEqProofs [s9]
theorem MB {env:List Vr} (he: ∀v∈env,0<=v.so) (x:Str):decide (0<=mns env x)=env.any (fun o=>o.nm==x):=by
 have h:=wU he (x:=x);cases ha:env.any (fun o=>o.nm==x)with
 |true=>
  have: ¬mns env x<0:=by
   rw[h,List.find?_eq_none];intro k;rw[List.any_eq_true]at ha;obtain⟨o,ho,hx⟩:=ha;exact absurd hx (k o (by simpa using ho))
  simp;omega
 |false=>
  have:mns env x<0:=by
   rw[h,List.find?_eq_none];intro o ho hx;rw[List.any_eq_false]at ha;exact ha o (by simpa using ho) hx
  simp;omega
theorem MC (b:List Mc) (m:Mc) (hb:m.ps.length<big) (hN:m.ps.length<N) (h32: ∀v∈m.ps,∀M,cl 32 [.str v.nm] M=some (.bool (dy v.nm),M))
  (h33: ∀i v M,v∈m.ps->cl 33 [.slc .shared ((m.ps.take i).map vrv),.str v.nm] M=some (.int .i64 (mns (m.ps.take i) v.nm),M)):
  ∃e s',dh false (a8 G false cl yl N kZ) ⟨[0,3,5],[(5,none)],false⟩ 1 0 N ⟨[(0,.slc .shared (b.map mcv)),(3,.ptr 0 0),(5,.int .i64 0)],⟨[.cells (mcc m)],[]⟩,[]⟩=some (e,s')/\e≠ .normal/\
   (s'.mks=[]/\match(m.ps.zipIdx 0).findSome? (gz m.ps)with
    |none=>e=.exit 0/\s'.m=⟨[.cells (mcc m)],[]⟩/\look 0 s'.ts=.slc .shared (b.map mcv)/\look 3 s'.ts=.ptr 0 0
    |some r=>e=.ret/\look 4 s'.ts=.int .i64 r):=by
 unfold big at hb;refine eN (mu:=false) (step:=a8 G false cl yl N kZ) (an:=⟨[0,3,5],[(5,none)],false⟩) (k:=1) (m:=0) (N:=N) (m.ps.zipIdx 0) (gz m.ps)
  (fun i st=>st=⟨[(0,.slc .shared (b.map mcv)),(3,.ptr 0 0),(5,.int .i64 (i:Int))],⟨[.cells (mcc m)],[]⟩,[]⟩/\ ∀v∈m.ps.take i,0<=v.so)
  (fun r e s'=>s'.mks=[]/\match r with
    |none=>e=.exit 0/\s'.m=⟨[.cells (mcc m)],[]⟩/\look 0 s'.ts=.slc .shared (b.map mcv)/\look 3 s'.ts=.ptr 0 0
    |some r=>e=.ret/\look 4 s'.ts=.int .i64 r) (by simpa using hN) ⟨rfl,by simp⟩ ?_ ?_
 ·rintro i ⟨v,j⟩ st hx hi ⟨rfl,hso⟩;rw[List.getElem?_zipIdx]at hx;have hil:i<m.ps.length:=by simpa using hi
  have hxo:m.ps[i]? =some m.ps[i]:=List.getElem?_eq_getElem hil;rw[hxo]at hx;simp at hx;obtain⟨hx',rfl⟩:=hx;have hmem:v∈m.ps:=by rw[<-hx'];exact List.getElem_mem hil
  have k32:=h32 v hmem;have k33:=fun M=>h33 i v M hmem;have hmn:=MB hso v.nm;have w1:=dF (i:=i) (by omega);have hle:i<=m.ps.length:=by omega
  have hsz:dV 2 (m.ps.map vrv)=true:=by simp
  rw[List.map_take]at k33;cases h1:dy v.nm with
  |false=>
   rw[h1]at k32;simp -implicitDefEqProofs [gz,kZ,ec,hil,hx',k32,h1]
  |true=>
   rw[h1]at k32;by_cases h2:v.so<0
   ·simp -implicitDefEqProofs [gz,kZ,ec,hil,hx',k32,h1,h2]
   ·by_cases h3:3<v.so
    ·simp -implicitDefEqProofs [gz,kZ,ec,hil,hx',k32,h1,h2,h3]
    ·cases h4:(m.ps.take i).any (fun o=>o.nm==v.nm)with
     |true=>
      rw[h4]at hmn;have hmn':0<=mns (m.ps.take i) v.nm:=of_decide_eq_true hmn;simp -implicitDefEqProofs [gz,kZ,ec,hil,hx',k32,h1,h2,h3,h4,k33,hle,hsz,hmn']
     |false=>
      rw[h4]at hmn;have hmn': ¬0<=mns (m.ps.take i) v.nm:=of_decide_eq_false hmn;have hso': ∀u∈m.ps.take (i+1),0<=u.so:=by
       intro u hu;rw[ij hxo]at hu;rcases List.mem_append.1 hu with hu|hu
       ·exact hso u hu
       ·simp at hu;subst hu;rw[hx'];omega
      simp -implicitDefEqProofs [gz,kZ,ec,hil,hx',k32,h1,h2,h3,h4,k33,hle,hsz,hmn',w1];exact hso'
 ·rintro st ⟨rfl,-⟩;simp -implicitDefEqProofs [kZ,ec]
structure MD (cl:a7) (b:List Mc) (m:Mc):Prop where
 h32: ∀M,cl 32 [.str m.nm] M=some (.bool (dy m.nm),M)
 h32p: ∀v∈m.ps,∀M,cl 32 [.str v.nm] M=some (.bool (dy v.nm),M)
 h16: ∀M,cl 16 [.slc .shared (b.map mcv),.str m.nm] M=some (.int .i64 (fix b m.nm),M)
 h33: ∀i v M,v∈m.ps->cl 33 [.slc .shared ((m.ps.take i).map vrv),.str v.nm] M=some (.int .i64 (mns (m.ps.take i) v.nm),M)
 h34: ∀M,cl 34 [av m.bd] M=some (.int .i64 (chk m.bd),M)
 h35:chk m.bd=0->fu m.ps=0-> ∀M,cl 35 [.slc .shared (b.map mcv),av m.bd,.slc .shared (m.ps.map vrv),.bool true] M=some (.int .i64 (wlk b true m.bd m.ps),M)
theorem ME (b:List Mc) (m:Mc) (hb:m.ps.length<big) (hN:6<N) (h:MD cl b m):
  dn G false cl yl N c11 [.slc .shared (b.map mcv),mcv m]=some (.int .i64 (may b m),none):=by
 obtain⟨h32,h32p,h16,h33,h34,h35⟩:=h;unfold may;by_cases c1:64<=b.length
 ·have c1':(64:Int)<=(b.length:Int):=by omega
  simp -implicitDefEqProofs [c11,ec,c1,c1']
 ·have c1': ¬(64:Int)<=(b.length:Int):=by omega
  simp only[c1,if_false];cases c2:dy m.nm with
  |false=>
   rw[c2]at h32;simp -implicitDefEqProofs [c11,ec,c1',h32]
  |true=>
   rw[c2]at h32;simp only[Bool.true_eq_false,if_false];cases c3:fnd b m.nm with
   |some d=>
    obtain⟨j,hj,-⟩:=ug c3;rw[hj]at h16;simp -implicitDefEqProofs [c11,ec,c1',h32,h16]
   |none=>
    have h1: ¬0<=fix b m.nm:=by have:=uf.2 c3;omega
    simp only[Option.isSome_none,Bool.false_eq_true,if_false];unfold fu at h35⊢;by_cases c6:6<m.ps.length
    ·have c6':(6:Int)<(m.ps.length:Int):=by omega
     simp -implicitDefEqProofs [c11,ec,c1',h32,h16,h1,c6,c6']
    ·have c6': ¬(6:Int)<(m.ps.length:Int):=by omega
     obtain⟨e,⟨ts,M,mks⟩,k1,-,rfl,k3⟩:=MC (G:=G) (cl:=cl) (yl:=yl) (N:=N) b m hb (by omega) h32p h33;rw[xA m.ps m.ps [] rfl]at h35⊢;simp only[c6,if_false,List.length_nil]at h35⊢;simp[ec]at k1;cases hr:(m.ps.zipIdx 0).findSome? (gz m.ps)with
     |some r=>
      rw[hr]at k3;obtain⟨rfl,k3⟩:=k3;simp at k3;have hr0:r≠0:=by
       obtain⟨p,-,hp⟩:=List.exists_of_findSome?_eq_some hr;unfold gz at hp;split at hp
       ·cases hp;decide
       ·split at hp
        ·cases hp;decide
        ·split at hp
         ·cases hp;decide
         ·cases hp
      simp -implicitDefEqProofs [c11,ec,c1',h32,h16,h1,c6',k1,k3,hr0]
     |none=>
      rw[hr]at k3 h35;obtain⟨rfl,rfl,p0,p3⟩:=k3;simp at p0 p3;simp only[Option.getD_none,if_true]at h35⊢;by_cases c5:chk m.bd=0
      ·have k35:=h35 c5 trivial;rw[c5]at h34;simp only[c5,if_true];simp -implicitDefEqProofs [c11,ec,c1',h32,h16,h1,c6',k1,p0,p3,h34,k35]
      ·have c5':(chk m.bd !=0)=true:=by simp[c5]
       simp only[c5,if_false];simp -implicitDefEqProofs [c11,ec,c1',h32,h16,h1,c6',k1,p0,p3,h34,c5,c5']
end
end Go.Proofs.Ae
