/- What single functions answer for every input, by the abstract execution. -/
import Derived.Test.YtjkmcceipabejaaGreatDoorD
set_option linter.unusedSimpArgs false
set_option linter.unusedVariables false
set_option linter.unusedSectionVars false
namespace Go.Proofs.Ae
open Go
variable {G:Gls} {cl:a7} {N:Nat}
theorem H8 (n:Nd) (hb:bk n<=big) (hN:n.l.length<N) (hc: ∀x∈n.l,∀M,cl 156 [av x] M=some (.int .i64 (sz x),M)):
  dn G false cl eW N wH [av n]=some (.int .i64 (sz n),none):=by
 have hlen:=iy n;have hsz:=qH n;have hsl:=oU n;unfold big at hb;have h1:=jg (mu:=false) (step:=a8 G false cl eW N tA) (an:=⟨[3,7,8,9],[(3,none),(9,none)],false⟩) (k:=1) (m:=0) (N:=N) n.l
  (fun i=>⟨[(3,.int .i64 (1+szL (n.l.take i))),(7,.slc .shared (avL n.l)),(8,.int .i64 n.l.length),(9,.int .i64 i)],⟨[.cells (ndc n)],[]⟩,[]⟩) (.exit 0)
  ⟨[(10,.bool false),(3,.int .i64 (1+szL n.l)),(7,.slc .shared (avL n.l)),(8,.int .i64 n.l.length),(9,.int .i64 n.l.length)],⟨[.cells (ndc n)],[]⟩,[]⟩ hN (by simp) ?_ ?_
 ·simp[szL]at h1;simp -implicitDefEqProofs [wH,h1];omega
 ·intro i x hx hi;have w1:=dF (i:=i) (by omega);have hc':=hc x (fR hx);have ht:=A6 hx;have hle:=A5 n.l (i+1);have w2:dj .i64 (1+(szL (n.l.take i):Int)+(sz x:Int))=1+(szL (n.l.take (i+1)):Int):=by rw[dJ (by omega) (by omega)];omega
  have hx':=(List.getElem?_eq_some_iff.1 hx).2;simp -implicitDefEqProofs [tA,hi,hx',hc',w1,w2]
 ·simp -implicitDefEqProofs [tA]
theorem H9 (n:Nd) (hb:bk n<=big) (hN:n.l.length<N) (hc: ∀x∈n.l,∀M,cl 63 [av x] M=some (.int .i64 (sz x),M)):
  dn G false cl eW N c63 [av n]=some (.int .i64 (sz n),none):=by
 have hlen:=iy n;have hsz:=qH n;have hsl:=oU n;unfold big at hb;have h1:=jg (mu:=false) (step:=a8 G false cl eW N ta) (an:=⟨[1,3,4],[(3,none),(4,none)],false⟩) (k:=1) (m:=0) (N:=N) n.l
  (fun i=>⟨[(1,.ptr 0 0),(3,.int .i64 (1+szL (n.l.take i))),(4,.int .i64 i)],⟨[.cells (ndc n)],[]⟩,[]⟩) (.exit 0)
  ⟨[(9,.bool false),(8,.int .i64 n.l.length),(7,.slc .shared (avL n.l)),(6,.ptr 0 5),(5,.int .i64 n.l.length),(1,.ptr 0 0),(3,.int .i64 (1+szL n.l)),(4,.int .i64 n.l.length)],⟨[.cells (ndc n)],[]⟩,[]⟩ hN (by simp) ?_ ?_
 ·simp[szL]at h1;simp -implicitDefEqProofs [c63,h1];omega
 ·intro i x hx hi;have w1:=dF (i:=i) (by omega);have hc':=hc x (fR hx);have ht:=A6 hx;have hle:=A5 n.l (i+1);have w2:dj .i64 (1+(szL (n.l.take i):Int)+(sz x:Int))=1+(szL (n.l.take (i+1)):Int):=by rw[dJ (by omega) (by omega)];omega
  have hx':=(List.getElem?_eq_some_iff.1 hx).2;simp -implicitDefEqProofs [ta,hi,hx',hc',w1,w2]
 ·simp -implicitDefEqProofs [ta]
theorem A7 (a b:Nat):(if(b:Int)>(a:Int)then(b:Int)else(a:Int))=((max a b:Nat):Int):=by split<;>omega
theorem Ia (n:Nd) (hb:bk n<=big) (hN:n.l.length<N) (hc: ∀x∈n.l,∀M,cl 157 [av x] M=some (.int .i64 (dp x),M)):
  dn G false cl eW N wI [av n]=some (.int .i64 (dp n),none):=by
 have hlen:=iy n;have hsz:=qH n;have hds:=wx n;have hsl:=oV n;unfold big at hb;have h1:=jg (mu:=false) (step:=a8 G false cl eW N tB) (an:=⟨[3,7,8,9],[(3,none),(9,none)],false⟩) (k:=1) (m:=0) (N:=N) n.l
  (fun i=>⟨[(3,.int .i64 (dpL (n.l.take i))),(7,.slc .shared (avL n.l)),(8,.int .i64 n.l.length),(9,.int .i64 i)],⟨[.cells (ndc n)],[]⟩,[]⟩) (.exit 0)
  ⟨[(10,.bool false),(3,.int .i64 (dpL n.l)),(7,.slc .shared (avL n.l)),(8,.int .i64 n.l.length),(9,.int .i64 n.l.length)],⟨[.cells (ndc n)],[]⟩,[]⟩ hN (by simp) ?_ ?_
 ·have w:dj .i64 ((dpL n.l:Int)+1)=(dp n:Int):=by rw[dJ (by omega) (by omega)];omega
  simp[dpL]at h1;simp -implicitDefEqProofs [wI,h1,w]
 ·intro i x hx hi;have w1:=dF (i:=i) (by omega);have hc':=hc x (fR hx);have w2:=A7 (dpL (n.l.take i)) (dp x);have hx':=(List.getElem?_eq_some_iff.1 hx).2;rw[<-A4 hx]at w2;simp -implicitDefEqProofs [tB,hi,hx',hc',w1];simpa using w2
 ·simp -implicitDefEqProofs [tB]
theorem Ib (n:Nd) (hb:bk n<=big) (hN:n.l.length<N) (hc: ∀x∈n.l,∀M,cl 64 [av x] M=some (.int .i64 (dp x),M)):
  dn G false cl eW N c64 [av n]=some (.int .i64 (dp n),none):=by
 have hlen:=iy n;have hsz:=qH n;have hds:=wx n;have hsl:=oV n;unfold big at hb;have h1:=jg (mu:=false) (step:=a8 G false cl eW N tb) (an:=⟨[1,3,4],[(3,none),(4,none)],false⟩) (k:=1) (m:=0) (N:=N) n.l
  (fun i=>⟨[(1,.ptr 0 0),(3,.int .i64 (dpL (n.l.take i))),(4,.int .i64 i)],⟨[.cells (ndc n)],[]⟩,[]⟩) (.exit 0)
  ⟨[(9,.bool false),(8,.int .i64 n.l.length),(7,.slc .shared (avL n.l)),(6,.ptr 0 5),(5,.int .i64 n.l.length),(1,.ptr 0 0),(3,.int .i64 (dpL n.l)),(4,.int .i64 n.l.length)],⟨[.cells (ndc n)],[]⟩,[]⟩ hN (by simp) ?_ ?_
 ·have w:dj .i64 (1+(dpL n.l:Int))=(dp n:Int):=by rw[dJ (by omega) (by omega)];omega
  simp[dpL]at h1;simp -implicitDefEqProofs [c64,h1,w]
 ·intro i x hx hi;have w1:=dF (i:=i) (by omega);have hc':=hc x (fR hx);have w2:=A7 (dpL (n.l.take i)) (dp x);have hx':=(List.getElem?_eq_some_iff.1 hx).2;rw[<-A4 hx]at w2;simp -implicitDefEqProofs [tb,hi,hx',hc',w1];simpa using w2
 ·simp -implicitDefEqProofs [tb]
end Go.Proofs.Ae
namespace Go.Proofs.Ae
open Go
variable {G:Gls} {cl:a7} {N:Nat}
@[simp] theorem Ic (n:Nd) (l:List AV):dV 6 (av n::l)=true:=by cases n;rfl
@[simp] theorem TE (l:List Nd):dV 6 (avL l)=true:=by
 cases l with
 |nil=>rfl
 |cons x l=>exact Ic x _
@[simp] theorem TF (k:Nat):dV k []=true:=rfl
@[simp] theorem TG (s:Str) (l:List AV):dV 1 (.str s::l)=true:=rfl
@[simp] theorem TH (l:List Str):dV 1 (l.map .str)=true:=by cases l<;>rfl
def dA (i ty k:Nat):Arr:=.app i (if i=0 then 0 else ty) (if i=0 then 0 else k)
theorem lk (a b:List Nd):avL (a++b)=avL a++avL b:=by rw[mX,mX,mX,List.map_append]
theorem wQ {l:List Nd} {i:Nat} {x:Nd} (h:l[i]? =some x):avL (l.take i)++[av x]=avL (l.take (i+1)):=by
 rw[List.take_add_one,h,lk];rfl
def nmv (ns:List Str):AV:=match ns with
 |[]=>.slc .full []
 |s::ns=>.slc (.own 0) ((s::ns).map .str)
def nmr (ns:List Str):List Arr:=match ns with
 |[]=>[]
 |s::ns=>[.app (ns.length+1) 9 1]
def z6:List AV:=[.int .i64 0,.slc .full [],.int .i64 0,.int .i64 0,.int .i64 0,.slc .full []]
theorem Ie (n:Nd) (hb:bk n<=big) (hN:n.l.length<N) (hc: ∀x∈n.l,∀M,cl 72 [av x] M=some (av x,M)):
  dh false (a8 G false cl eW N td) ⟨[1,2,3,4],[(3,some 5),(4,none)],false⟩ 3 ((nmr n.ns).length+1) N
   ⟨[(1,.ptr 0 0),(2,.ptr 1 0),(3,.ptr 2 0),(4,.int .i64 ((0:Nat):Int))],⟨[.cells (ndc n),.cells z6,.cells [.int .i64 n.op,nmv n.ns,.int .i64 n.so,.int .i64 n.nn,.int .i64 n.mm,.slc (.own (nmr n.ns).length) (avL (n.l.take 0))]],nmr n.ns++[dA 0 40 6]⟩,[]⟩=
  some (.exit 0,⟨[(22,.bool false),(21,.int .i64 n.l.length),(20,.slc .shared (avL n.l)),(19,.ptr 0 5),(18,.int .i64 n.l.length),(1,.ptr 0 0),(2,.ptr 1 0),(3,.ptr 2 0),(4,.int .i64 n.l.length)],
   ⟨[.cells (ndc n),.cells z6,.cells [.int .i64 n.op,nmv n.ns,.int .i64 n.so,.int .i64 n.nn,.int .i64 n.mm,.slc (.own (nmr n.ns).length) (avL n.l)]],nmr n.ns++[dA n.l.length 40 6]⟩,[]⟩):=by
 have hlen:=iy n;unfold big at hb;refine jg n.l
  (fun i=>⟨[(1,.ptr 0 0),(2,.ptr 1 0),(3,.ptr 2 0),(4,.int .i64 (i:Int))],⟨[.cells (ndc n),.cells z6,.cells [.int .i64 n.op,nmv n.ns,.int .i64 n.so,.int .i64 n.nn,.int .i64 n.mm,.slc (.own (nmr n.ns).length) (avL (n.l.take i))]],nmr n.ns++[dA i 40 6]⟩,[]⟩) (.exit 0) _ hN (by simp) ?_ ?_
 ·intro i x hx hi;have w1:=dF (i:=i) (by omega);have hc':=hc x (fR hx);have hx':=(List.getElem?_eq_some_iff.1 hx).2;have ht:=wQ hx;have hm:min i n.l.length=i:=by omega
  have hq:(i+1)*80<=140737488355328:=by omega
  have hq2:i+1<=140737488355328:=by omega
  have hr:i=0\/ ¬i=0:=Decidable.em _;cases hns:n.ns<;>simp -implicitDefEqProofs [td,nmr,nmv,z6,dA,hi,hx',hc',w1,hm,hq,hq2,ht,hr]
 ·cases hns:n.ns<;>simp -implicitDefEqProofs [td,nmr,nmv,z6]
theorem Ig (n:Nd) (hb:bk n<=big) (hN:n.l.length<N) (hc: ∀x∈n.l,∀M,cl 72 [av x] M=some (av x,M)):
  dn G false cl eW N c72 [av n]=some (av n,none):=by
 have h1:=Ie (G:=G) (cl:=cl) n hb hN hc;have hlen:=jI n;unfold big at hb;have hq:n.ns.length*16<=140737488355328:=by omega
 have hq2:n.ns.length<=140737488355328:=by omega
 cases hns:n.ns with
 |nil=>
  simp[nmr,nmv,hns,z6,avL,dA]at h1;simp -implicitDefEqProofs [c72,hns,h1];simp[jH,gL,hns]
 |cons s ns=>
  rw[hns]at hq hq2;simp at hq hq2;simp[nmr,nmv,hns,z6,avL,dA]at h1;simp -implicitDefEqProofs [c72,hns,h1,hq,hq2];simp[jH,gL,hns]
theorem Ih (n:Nd) (hb:bk n<=big) (hN:n.l.length<N) (hc: ∀x∈n.l,∀M,cl 159 [av x] M=some (av x,M)):
  dh false (a8 G false cl eW N tC) ⟨[1,2,3,4],[(3,some 5),(4,none)],false⟩ 3 ((nmr n.ns).length+1) N
   ⟨[(1,.ptr 0 0),(2,.ptr 1 0),(3,.ptr 2 0),(4,.int .i64 ((0:Nat):Int))],⟨[.cells (ndc n),.cells z6,.cells [.int .i64 n.op,nmv n.ns,.int .i64 n.so,.int .i64 n.nn,.int .i64 n.mm,.slc (.own (nmr n.ns).length) (avL (n.l.take 0))]],nmr n.ns++[dA 0 32 6]⟩,[]⟩=
  some (.exit 0,⟨[(22,.bool false),(21,.int .i64 n.l.length),(20,.slc .shared (avL n.l)),(19,.ptr 0 5),(18,.int .i64 n.l.length),(1,.ptr 0 0),(2,.ptr 1 0),(3,.ptr 2 0),(4,.int .i64 n.l.length)],
   ⟨[.cells (ndc n),.cells z6,.cells [.int .i64 n.op,nmv n.ns,.int .i64 n.so,.int .i64 n.nn,.int .i64 n.mm,.slc (.own (nmr n.ns).length) (avL n.l)]],nmr n.ns++[dA n.l.length 32 6]⟩,[]⟩):=by
 have hlen:=iy n;unfold big at hb;refine jg n.l
  (fun i=>⟨[(1,.ptr 0 0),(2,.ptr 1 0),(3,.ptr 2 0),(4,.int .i64 (i:Int))],⟨[.cells (ndc n),.cells z6,.cells [.int .i64 n.op,nmv n.ns,.int .i64 n.so,.int .i64 n.nn,.int .i64 n.mm,.slc (.own (nmr n.ns).length) (avL (n.l.take i))]],nmr n.ns++[dA i 32 6]⟩,[]⟩) (.exit 0) _ hN (by simp) ?_ ?_
 ·intro i x hx hi;have w1:=dF (i:=i) (by omega);have hc':=hc x (fR hx);have hx':=(List.getElem?_eq_some_iff.1 hx).2;have ht:=wQ hx;have hm:min i n.l.length=i:=by omega
  have hq:(i+1)*80<=140737488355328:=by omega
  have hq2:i+1<=140737488355328:=by omega
  have hr:i=0\/ ¬i=0:=Decidable.em _;cases hns:n.ns<;>simp -implicitDefEqProofs [tC,nmr,nmv,z6,dA,hi,hx',hc',w1,hm,hq,hq2,ht,hr]
 ·cases hns:n.ns<;>simp -implicitDefEqProofs [tC,nmr,nmv,z6]
theorem Ii (n:Nd) (hb:bk n<=big) (hN:n.l.length<N) (hc: ∀x∈n.l,∀M,cl 159 [av x] M=some (av x,M)):
  dn G false cl eW N tD [av n]=some (av n,none):=by
 have h1:=Ih (G:=G) (cl:=cl) n hb hN hc;have hlen:=jI n;unfold big at hb;have hq:n.ns.length*16<=140737488355328:=by omega
 have hq2:n.ns.length<=140737488355328:=by omega
 cases hns:n.ns with
 |nil=>
  simp[nmr,nmv,hns,z6,avL,dA]at h1;simp -implicitDefEqProofs [tD,hns,h1];simp[jH,gL,hns]
 |cons s ns=>
  rw[hns]at hq hq2;simp at hq hq2;simp[nmr,nmv,hns,z6,avL,dA]at h1;simp -implicitDefEqProofs [tD,hns,h1,hq,hq2];simp[jH,gL,hns]
def re (ns:List Str) (M:Mem):Option (AV×Mem):=match ns with
 |[]=>some (.slc .full [],M)
 |s::ns=>some (.slc (.own M.arrs.length) ((s::ns).map .str),{M with arrs:=M.arrs++[.app (ns.length+1) 9 1]})
theorem Ij (n:Nd) (hb:bk n<=big) (hN:n.l.length<N) (hc: ∀x∈n.l,∀M,cl 99 [av x] M=some (av x,M)):
  dh false (a8 G false cl eW N te) ⟨[1,2,13,14,15],[(1,some 5),(15,none)],false⟩ 2 ((nmr n.ns).length+1) N
   ⟨[(1,.ptr 0 0),(2,.ptr 1 0),(13,.slc .shared (avL n.l)),(14,.int .i64 n.l.length),(15,.int .i64 ((0:Nat):Int))],⟨[.cells [.int .i64 n.op,nmv n.ns,.int .i64 n.so,.int .i64 n.nn,.int .i64 n.mm,.slc (.own (nmr n.ns).length) (avL (n.l.take 0))],.cells z6],nmr n.ns++[dA 0 40 6]⟩,[]⟩=
  some (.exit 0,⟨[(16,.bool false),(1,.ptr 0 0),(2,.ptr 1 0),(13,.slc .shared (avL n.l)),(14,.int .i64 n.l.length),(15,.int .i64 n.l.length)],
   ⟨[.cells [.int .i64 n.op,nmv n.ns,.int .i64 n.so,.int .i64 n.nn,.int .i64 n.mm,.slc (.own (nmr n.ns).length) (avL n.l)],.cells z6],nmr n.ns++[dA n.l.length 40 6]⟩,[]⟩):=by
 have hlen:=iy n;unfold big at hb;refine jg n.l
  (fun i=>⟨[(1,.ptr 0 0),(2,.ptr 1 0),(13,.slc .shared (avL n.l)),(14,.int .i64 n.l.length),(15,.int .i64 (i:Int))],⟨[.cells [.int .i64 n.op,nmv n.ns,.int .i64 n.so,.int .i64 n.nn,.int .i64 n.mm,.slc (.own (nmr n.ns).length) (avL (n.l.take i))],.cells z6],nmr n.ns++[dA i 40 6]⟩,[]⟩) (.exit 0) _ hN (by simp) ?_ ?_
 ·intro i x hx hi;have w1:=dF (i:=i) (by omega);have hc':=hc x (fR hx);have hx':=(List.getElem?_eq_some_iff.1 hx).2;have ht:=wQ hx;have hm:min i n.l.length=i:=by omega
  have hq:(i+1)*80<=140737488355328:=by omega
  have hq2:i+1<=140737488355328:=by omega
  have hr:i=0\/ ¬i=0:=Decidable.em _;cases hns:n.ns<;>simp -implicitDefEqProofs [te,nmr,nmv,z6,dA,hi,hx',hc',w1,hm,hq,hq2,ht,hr]
 ·cases hns:n.ns<;>simp -implicitDefEqProofs [te,nmr,nmv,z6]
theorem Ik (n:Nd) (hb:bk n<=big) (hN:n.l.length<N) (hc: ∀x∈n.l,∀M,cl 99 [av x] M=some (av x,M)) (h74: ∀M,cl 125 [.slc .shared (n.ns.map .str)] M=re n.ns M):
  dn G false cl eW N c99 [av n]=some (av n,none):=by
 have h1:=Ij (G:=G) (cl:=cl) n hb hN hc;cases hns:n.ns with
 |nil=>
  rw[hns]at h74;simp -implicitDefEqProofs [re]at h74;simp[nmr,nmv,hns,z6,avL,dA]at h1;simp -implicitDefEqProofs [c99,hns,h1,h74,gL];simp[jH,gL,hns]
 |cons s ns=>
  rw[hns]at h74;simp -implicitDefEqProofs [re]at h74;simp[nmr,nmv,hns,z6,avL,dA]at h1;simp -implicitDefEqProofs [c99,hns,h1,h74,gL];simp[jH,gL,hns]
end Go.Proofs.Ae
namespace Go.Proofs.Ae
open Go
variable {G:Gls} {cl:a7} {N:Nat}
mutual
def iP:Nd->Nd->Bool
 | .mk o ns s n m l,.mk o' ns' s' n' m' l'=>o==o'&&s==s'&&n==n'&&m==m'&&ns==ns'&&jl l l'
def jl:List Nd->List Nd->Bool
 |[],[]=>true
 |x::xs,y::ys=>iP x y&&jl xs ys
 |_,_=>false
end
mutual
theorem A8: ∀a b:Nd,iP a b=true↔a=b
 | .mk o ns s n m l,.mk o' ns' s' n' m' l'=>by
  have:=wS l l';simp only[iP,Bool.and_eq_true,beq_iff_eq,this,Nd.mk.injEq];constructor<;>(intro h;simp_all)
theorem wS: ∀a b:List Nd,jl a b=true↔a=b
 |[],[]=>by simp[jl]
 |[],_::_=>by simp[jl]
 |_::_,[]=>by simp[jl]
 |x::xs,y::ys=>by simp[jl,A8 x y,wS xs ys]
end
theorem Il (a b:Nd):iP a b=(a.op==b.op&&a.so==b.so&&a.nn==b.nn&&a.mm==b.mm&&a.ns==b.ns&&jl a.l b.l):=by cases a;cases b;rfl
theorem A9: ∀(a b:List Nd),a.length=b.length->jl a b=((a.zip b).findSome? (fun p=>if iP p.1 p.2 then none else some ())).isNone
 |[],[],_=>rfl
 |x::xs,y::ys,h=>by
  simp only[jl,List.zip_cons_cons,List.findSome?_cons];cases iP x y<;>simp;exact A9 xs ys (by simpa using h)
theorem Ba: ∀(a b:List Str),a.length=b.length->(a==b)=((a.zip b).findSome? (fun p=>if p.1==p.2 then none else some ())).isNone
 |[],[],_=>rfl
 |x::xs,y::ys,h=>by
  have:=Ba xs ys (by simpa using h);simp only[List.zip_cons_cons,List.findSome?_cons,List.cons_beq_cons,this];cases hxy:x==y<;>simp
theorem Bb {α β:Type} {a:List α} {b:List β} {i:Nat} {p:α×β} (h:(a.zip b)[i]? =some p):a[i]? =some p.1/\b[i]? =some p.2:=by
 rw[List.getElem?_zip_eq_some]at h;exact h
theorem Im (a b:Nd) (ha:bk a<=big) (hb:bk b<=big) (hN:bk a<N) (hc: ∀x∈a.l,∀y∈b.l,∀M,cl 160 [av x,av y] M=some (.bool (iP x y),M)):
  dn G false cl eW N jJ [av a,av b]=some (.bool (iP a b),none):=by
 have hlen:=iy a;have hnl:=jI a;unfold big at ha hb;rw[Il];by_cases h1: ¬a.op=b.op
 ·have:(a.op==b.op)=false:=by simpa using h1
  have hq:(a.op !=b.op)=true:=by simpa using h1
  simp -implicitDefEqProofs [jJ,hq,this]
 have h1:=Decidable.not_not.1 h1;by_cases h2: ¬a.so=b.so
 ·have:(a.so==b.so)=false:=by simpa using h2
  have hq:(a.so !=b.so)=true:=by simpa using h2
  simp -implicitDefEqProofs [jJ,h1,hq,this]
 have h2:=Decidable.not_not.1 h2;by_cases h3: ¬a.nn=b.nn
 ·have:(a.nn==b.nn)=false:=by simpa using h3
  have hq:(a.nn !=b.nn)=true:=by simpa using h3
  simp -implicitDefEqProofs [jJ,h1,h2,hq,this]
 have h3:=Decidable.not_not.1 h3;by_cases h4: ¬a.mm=b.mm
 ·have:(a.mm==b.mm)=false:=by simpa using h4
  have hq:(a.mm !=b.mm)=true:=by simpa using h4
  simp -implicitDefEqProofs [jJ,h1,h2,h3,hq,this]
 have h4:=Decidable.not_not.1 h4;by_cases h5: ¬a.ns.length=b.ns.length
 ·have:(a.ns==b.ns)=false:=by
   cases h:a.ns==b.ns with
   |false=>rfl
   |true=>exact absurd (by rw[eq_of_beq h]) h5
  have k:((a.ns.length:Int) !=(b.ns.length:Int))=true:=by simp;omega
  simp -implicitDefEqProofs [jJ,h1,h2,h3,h4,k,this]
 have h5:=Decidable.not_not.1 h5;by_cases h6: ¬a.l.length=b.l.length
 ·have:jl a.l b.l=false:=by
   cases h:jl a.l b.l with
   |false=>rfl
   |true=>exact absurd (by rw[(wS _ _).1 h]) h6
  have k:((a.l.length:Int) !=(b.l.length:Int))=true:=by simp;omega
  have k5:((a.ns.length:Int)=(b.ns.length:Int)):=by omega
  simp -implicitDefEqProofs [jJ,h1,h2,h3,h4,k5,k,this]
 have h6:=Decidable.not_not.1 h6;have k5:((a.ns.length:Int) !=(b.ns.length:Int))=false:=by simp;omega
 have k6:((a.l.length:Int) !=(b.l.length:Int))=false:=by simp;omega
 have h1':(a.op !=b.op)=false:=by simp[h1]
 have h2':(a.so !=b.so)=false:=by simp[h2]
 have h3':(a.nn !=b.nn)=false:=by simp[h3]
 have h4':(a.mm !=b.mm)=false:=by simp[h4]
 have z5:(a.ns.zip b.ns).length=a.ns.length:=by simp[h5]
 have z6':(a.l.zip b.l).length=a.l.length:=by simp[h6]
 have l1:=oW (mu:=false) (step:=a8 G false cl eW N tE) (an:=⟨[2,3,5],[(5,none)],false⟩) (k:=2) (m:=0) (N:=N) (a.ns.zip b.ns) (fun p=>if p.1==p.2 then none else some ())
  (fun i=>⟨[(2,.ptr 0 0),(3,.ptr 1 0),(5,.int .i64 (i:Int))],⟨[.cells (ndc a),.cells (ndc b)],[]⟩,[]⟩) (fun _ e s'=>e=.ret/\look 4 s'.ts=.bool false/\s'.mks=[]) (.exit 0)
  ⟨[(55,.bool false),(54,.int .i64 a.ns.length),(53,.slc .shared (a.ns.map .str)),(52,.ptr 0 1),(51,.int .i64 a.ns.length),(2,.ptr 0 0),(3,.ptr 1 0),(5,.int .i64 a.ns.length)],⟨[.cells (ndc a),.cells (ndc b)],[]⟩,[]⟩ (by rw[z5];omega) (by simp) ?_ ?_
 ·have l2:=oW (mu:=false) (step:=a8 G false cl eW N tF) (an:=⟨[2,3,6],[(6,none)],false⟩) (k:=2) (m:=0) (N:=N) (a.l.zip b.l) (fun p=>if iP p.1 p.2 then none else some ())
   (fun i=>⟨[(2,.ptr 0 0),(3,.ptr 1 0),(6,.int .i64 (i:Int))],⟨[.cells (ndc a),.cells (ndc b)],[]⟩,[]⟩) (fun _ e s'=>e=.ret/\look 4 s'.ts=.bool false/\s'.mks=[]) (.exit 2)
   ⟨[(73,.bool false),(72,.int .i64 a.l.length),(71,.slc .shared (avL a.l)),(70,.ptr 0 5),(69,.int .i64 a.l.length),(2,.ptr 0 0),(3,.ptr 1 0),(6,.int .i64 a.l.length)],⟨[.cells (ndc a),.cells (ndc b)],[]⟩,[]⟩ (by rw[z6'];omega) (by simp) ?_ ?_
  ·rw[Ba _ _ h5,A9 _ _ h6];have e1:(a.op==b.op&&a.so==b.so&&a.nn==b.nn&&a.mm==b.mm)=true:=by simp[h1,h2,h3,h4]
   rw[e1,Bool.true_and];cases hf:(a.ns.zip b.ns).findSome? (fun p=>if p.1==p.2 then none else some ())with
   |some r=>
    rw[hf]at l1;obtain⟨e,s',q1,-,rfl,q2,q3⟩:=l1;simp at q1;simp -implicitDefEqProofs [jJ,h1',h2',h3',h4',k5,k6,q1,q2,q3]
   |none=>
    rw[hf]at l1;simp at l1;cases hf2:(a.l.zip b.l).findSome? (fun p=>if iP p.1 p.2 then none else some ())with
    |some r=>
     rw[hf2]at l2;obtain⟨e,s',q1,-,rfl,q2,q3⟩:=l2;simp at q1;simp -implicitDefEqProofs [jJ,h1',h2',h3',h4',k5,k6,l1,q1,q2,q3]
    |none=>
     rw[hf2]at l2;simp at l2;simp -implicitDefEqProofs [jJ,h1',h2',h3',h4',k5,k6,l1,l2]
  ·intro i p hp hi;obtain⟨x,y⟩:=p;obtain⟨p1,p2⟩:=Bb hp;rw[z6']at hi;have hib:i<b.l.length:=by omega
   have w1:=dF (i:=i) (by omega);have hc':=hc x (fR p1) y (fR p2);have hx':=(List.getElem?_eq_some_iff.1 p1).2;have hy':=(List.getElem?_eq_some_iff.1 p2).2;simp only at hx' hy';cases hs:iP x y<;>simp -implicitDefEqProofs [tF,hi,hib,hx',hy',hc',hs,w1]
  ·rw[z6'];simp -implicitDefEqProofs [tF]
 ·intro i p hp hi;obtain⟨x,y⟩:=p;obtain⟨p1,p2⟩:=Bb hp;rw[z5]at hi;have hib:i<b.ns.length:=by omega
  have w1:=dF (i:=i) (by omega);have hx':=(List.getElem?_eq_some_iff.1 p1).2;have hy':=(List.getElem?_eq_some_iff.1 p2).2;simp only at hx' hy';cases hs:x==y<;>simp -implicitDefEqProofs [tE,dB,hi,hib,hx',hy',hs,w1]
 ·rw[z5];simp -implicitDefEqProofs [tE]
end Go.Proofs.Ae
namespace Go.Proofs.Ae
open Go Go.RowKit
theorem eN {α ρ:Type} {mu:Bool} {step:St->Option (Ex×St)} {an:Ann} {k m N:Nat} (xs:List α) (g:α->Option ρ) (S:Nat->St->Prop) (Q:Option ρ->Ex->St->Prop) {s0:St} (hN:xs.length<N) (h0:S 0 s0)
  (hstep: ∀i x s,xs[i]? =some x->i<xs.length->S i s->match g x with
   |none=>fk (fun e s'=>e=.normal/\S (i+1) (eI mu an k m s')) (step s)
   |some r=>fk (fun e s'=>e≠ .normal/\Q (some r) e s') (step s))
  (hend: ∀s,S xs.length s->fk (fun e s'=>e≠ .normal/\Q none e s') (step s)):
  ∃e s',dh mu step an k m N s0=some (e,s')/\e≠ .normal/\Q (xs.findSome? g) e s':=by
 have stop: ∀{N:Nat} {s:St} {Q':Ex->St->Prop},fk (fun e s'=>e≠ .normal/\Q' e s') (step s)-> ∃e s',dh mu step an k m (N+1) s=some (e,s')/\e≠ .normal/\Q' e s':=by
  intro N s Q' h;obtain⟨e,s',h1,h2,h3⟩:=h.out;refine⟨e,s',?_,h2,h3⟩;simp only[dh,h1];cases e<;>first|exact absurd rfl h2|rfl
 suffices main: ∀(rest done:List α) (N:Nat) (s:St),xs=done++rest->rest.length<N->S done.length s-> ∃e s',dh mu step an k m N s=some (e,s')/\e≠ .normal/\Q (rest.findSome? g) e s' from
  main xs [] N s0 rfl hN h0
 intro rest
 induction rest with
 |nil=>
  intro done N s hx hN hS;have e0:xs.length=done.length:=by rw[hx];simp
  cases N with
  |zero=>simp at hN
  |succ N=>exact stop (hend s (by rw[e0];exact hS))
 |cons x rest ih=>
  intro done N s hx hN hS;cases N with
  |zero=>simp at hN
  |succ N=>
   have hxi:xs[done.length]? =some x:=by rw[hx];simp
   have hs:=hstep done.length x s hxi (by rw[hx];simp) hS;simp only[List.findSome?_cons];cases hg:g x with
   |none=>
    rw[hg]at hs;obtain⟨e,s',h1,rfl,h3⟩:=hs.out;simp only[dh,h1];exact ih (done++[x]) N _ (by rw[hx];simp) (by simp at hN;omega) (by simpa using h3)
   |some r=>
    rw[hg]at hs;exact stop hs
theorem dD {α:Type} {l:List α} {i:Nat} {x:α} (h:l[i]? =some x) (r:List α):(l++r)[i]? =some x:=by
 have:=(List.getElem?_eq_some_iff.1 h).1;rw[List.getElem?_append_left this];exact h
@[simp] theorem ue {α:Type} (l r:List α) (i:Nat):(l++r)[l.length+i]? =r[i]?:=by
 rw[List.getElem?_append_right (by omega),Nat.add_sub_cancel_left]
@[simp] theorem Bc {α:Type} (l r:List α):(l++r)[l.length]? =r[0]?:=ue l r 0
@[simp] theorem Ip {α:Type} (l r:List α) (i:Nat) (x:α):(l++r).set (l.length+i) x=l++r.set i x:=by
 rw[List.set_append_right _ _ (by omega),Nat.add_sub_cancel_left]
@[simp] theorem TI {α:Type} (l r:List α) (x:α):(l++r).set l.length x=l++r.set 0 x:=Ip l r 0 x
theorem ij {α:Type} {l:List α} {i:Nat} {x:α} (h:l[i]? =some x):l.take (i+1)=l.take i++[x]:=by
 rw[List.take_add_one,h];rfl
structure Vr where
 nm:Str
 so:Int
structure Mc where
 nm:Str
 ps:List Vr
 bd:Nd
def vrv (v:Vr):AV:=.agg [.str v.nm,.int .i64 v.so]
def mcc (m:Mc):List AV:=.str m.nm::.slc .shared (m.ps.map vrv)::ndc m.bd
def mcv (m:Mc):AV:=.agg (mcc m)
def fix (w:List Mc) (x:Str):Int:=match w.findIdx? (fun m=>m.nm==x)with
 |none=> -1
 |some i=>i
def fnd (w:List Mc) (x:Str):Option Mc:=w.find? fun m=>m.nm==x
def mns (env:List Vr) (x:Str):Int:=match env.reverse.find? fun v=>v.nm==x with
 |none=> -1
 |some v=>v.so
def pM (env:List Vr):List Str->List Vr->Int
 |x::xs,p::ps=>if mns env x<0 then 21 else if mns env x≠p.so then 11 else pM env xs ps
 |_,_=>0
def iA (w:List Mc) (ns:List Str) (env:List Vr):Int:=match ns with
 |[]=>0
 |x::xs=>match fnd w x with
  |none=>6
  |some d=>if xs.length≠d.ps.length then 3 else pM env xs d.ps
def wT (env:List Vr) (ns:List Str):Int:=if ns.any fun x=>decide (mns env x<0)then 21 else 0
def stE (w:List Mc) (all:Bool) (n:Nd) (env:List Vr):Int:=
 if n.op=10 then iA w n.ns env else if n.op>15 then 0 else if all then wT env n.ns else 0
def hdS (ns:List Str):Str:=match ns with
 |[]=>[]
 |x::_=>x
def inn (n:Nd) (env:List Vr):List Vr:=if n.op>15 then env++[⟨hdS n.ns,n.so⟩]else env
mutual
def wlk (w:List Mc) (all:Bool):Nd->List Vr->Int
 | .mk o ns s nn mm l,env=>if stE w all (.mk o ns s nn mm l) env=0 then jK w all l (inn (.mk o ns s nn mm l) env)else stE w all (.mk o ns s nn mm l) env
def jK (w:List Mc) (all:Bool):List Nd->List Vr->Int
 |[],_=>0
 |x::xs,env=>if wlk w all x env=0 then jK w all xs env else wlk w all x env
end
theorem Bd (w:List Mc) (all:Bool) (n:Nd) (env:List Vr):wlk w all n env=if stE w all n env=0 then jK w all n.l (inn n env)else stE w all n env:=by cases n;rfl
theorem uf {w:List Mc} {x:Str}:fix w x<0↔fnd w x=none:=by
 unfold fix fnd;cases h:w.findIdx? (fun m=>m.nm==x)with
 |none=>
  rw[List.findIdx?_eq_none_iff]at h;simp only[List.find?_eq_none];constructor
  ·intro _ y hy;rw[h y hy];simp
  ·intro _;decide
 |some i=>
  simp only;constructor
  ·intro k;omega
  ·intro k;rw[List.find?_eq_none]at k;rw[List.findIdx?_eq_some_iff_getElem]at h;obtain⟨h1,h2,-⟩:=h;exact absurd h2 (k _ (List.getElem_mem h1))
theorem ug {w:List Mc} {x:Str} {d:Mc} (h:fnd w x=some d): ∃i:Nat,fix w x=i/\w[i]? =some d:=by
 unfold fix;unfold fnd at h;cases k:w.findIdx? (fun m=>m.nm==x)with
 |none=>
  rw[List.findIdx?_eq_none_iff]at k;have hm:=List.mem_of_find?_eq_some h;have hp:=List.find?_some h;rw[k d hm]at hp;cases hp
 |some i=>
  refine⟨i,rfl,?_⟩;rw[List.findIdx?_eq_some_iff_getElem]at k;obtain⟨h1,h2,h3⟩:=k;rw[List.find?_eq_some_iff_getElem]at h;obtain⟨q1,j,q2,q3,q4⟩:=h;have:i=j:=by
   rcases Nat.lt_trichotomy i j with c|c|c
   ·have:=q4 i c;simp_all
   ·exact c
   ·have:=h3 j c;simp_all
  subst this;rw[List.getElem?_eq_getElem h1,q3]
theorem wU {env:List Vr} (he: ∀v∈env,0<=v.so) {x:Str}:mns env x<0↔env.reverse.find? (fun v=>v.nm==x)=none:=by
 unfold mns;cases h:env.reverse.find? (fun v=>v.nm==x)with
 |none=>simp
 |some v=>
  have:=he v (by simpa using List.mem_of_find?_eq_some h);simp;omega
theorem ec (m:Mc):mcc m=[.str m.nm,.slc .shared (m.ps.map vrv),.int .i64 m.bd.op,.slc .shared (m.bd.ns.map .str),.int .i64 m.bd.so,.int .i64 m.bd.nn,.int .i64 m.bd.mm,.slc .shared (avL m.bd.l)]:=by rw[mcc,gL]
theorem lm (m:Mc):mcv m=.agg [.str m.nm,.slc .shared (m.ps.map vrv),.int .i64 m.bd.op,.slc .shared (m.bd.ns.map .str),.int .i64 m.bd.so,.int .i64 m.bd.nn,.int .i64 m.bd.mm,.slc .shared (avL m.bd.l)]:=by rw[mcv,ec]
@[simp] theorem TJ (m:Mc):cells (mcv m)=some [.str m.nm,.slc .shared (m.ps.map vrv),.int .i64 m.bd.op,.slc .shared (m.bd.ns.map .str),.int .i64 m.bd.so,.int .i64 m.bd.nn,.int .i64 m.bd.mm,.slc .shared (avL m.bd.l)]:=by rw[lm];rfl
@[simp] theorem TK (m:Mc):unit (.ag 8) [.str m.nm,.slc .shared (m.ps.map vrv),.int .i64 m.bd.op,.slc .shared (m.bd.ns.map .str),.int .i64 m.bd.so,.int .i64 m.bd.nn,.int .i64 m.bd.mm,.slc .shared (avL m.bd.l)]=some (mcv m):=by rw[lm];rfl
@[simp] theorem TL (m:Mc):sub (.ag 8) 0 [.str m.nm,.slc .shared (m.ps.map vrv),.int .i64 m.bd.op,.slc .shared (m.bd.ns.map .str),.int .i64 m.bd.so,.int .i64 m.bd.nn,.int .i64 m.bd.mm,.slc .shared (avL m.bd.l)]=some (mcv m):=by rw[lm];rfl
@[simp] theorem TM (a b:AV) (n:Nd):sub (.ag 6) 2 [a,b,.int .i64 n.op,.slc .shared (n.ns.map .str),.int .i64 n.so,.int .i64 n.nn,.int .i64 n.mm,.slc .shared (avL n.l)]=some (av n):=by rw[jH,gL];rfl
@[simp] theorem TN (v:Vr):cells (vrv v)=some [.str v.nm,.int .i64 v.so]:=rfl
@[simp] theorem TP (v:Vr):unit (.ag 2) [.str v.nm,.int .i64 v.so]=some (vrv v):=rfl
@[simp] theorem TQ (m:Mc):gu (mcv m)=some (mcv m):=by rw[lm];simp[gu,dY,gX]
@[simp] theorem TR (v:Vr):gu (vrv v)=some (vrv v):=rfl
@[simp] theorem TS (v:Vr):dY (vrv v)=some (vrv v):=rfl
@[simp] theorem TU (m:Mc):dY (mcv m)=some (mcv m):=by rw[lm];simp[dY,gX]
section
variable {G:Gls} {cl:a7} {yl:a7} {N:Nat}
def mc (x:Str) (p:Mc×Nat):Option Nat:=if p.1.nm==x then some p.2 else none
theorem wV (x:Str): ∀(w:List Mc) (k:Nat),(w.zipIdx k).findSome? (mc x)=(w.findIdx? (fun m=>m.nm==x)).map (· +k)
 |[],k=>rfl
 |m::w,k=>by
  simp only[List.zipIdx_cons,List.findSome?_cons,List.findIdx?_cons,mc];cases h:m.nm==x with
  |true=>simp
  |false=>
   simp only[Bool.false_eq_true,if_false,wV x w (k+1),Option.map_map]
   congr 1
   funext j;simp only[Function.comp];omega
theorem Iq (w:List Mc) (x:Str) (hb:w.length<big) (hN:w.length<N):
  ∃e s',dh false (a8 G false cl yl N o5) ⟨[0,1,5],[(5,none)],false⟩ 0 0 N ⟨[(0,.slc .shared (w.map mcv)),(1,.str x),(5,.int .i64 0)],⟨[],[]⟩,[]⟩=some (e,s')/\e≠ .normal/\
   (s'.mks=[]/\s'.m=⟨[],[]⟩/\((e=.exit 0/\fix w x= -1)\/(e=.ret/\look 4 s'.ts=.int .i64 (fix w x)))):=by
 unfold big at hb;have h:=eN (mu:=false) (step:=a8 G false cl yl N o5) (an:=⟨[0,1,5],[(5,none)],false⟩) (k:=0) (m:=0) (N:=N) (w.zipIdx 0) (mc x)
  (fun i s=>s=⟨[(0,.slc .shared (w.map mcv)),(1,.str x),(5,.int .i64 (i:Int))],⟨[],[]⟩,[]⟩)
  (fun r e s'=>s'.mks=[]/\s'.m=⟨[],[]⟩/\match r with
   |none=>e=.exit 0
   |some j=>e=.ret/\look 4 s'.ts=.int .i64 (j:Int)) (by simpa using hN) rfl ?_ ?_
 ·obtain⟨e,s',h1,h2,h3,h4,h5⟩:=h;refine⟨e,s',h1,h2,h3,h4,?_⟩;rw[wV]at h5;unfold fix;cases hf:w.findIdx? (fun m=>m.nm==x)with
  |none=>rw[hf]at h5;exact .inl ⟨h5,rfl⟩
  |some j=>rw[hf]at h5;exact .inr h5
 ·rintro i ⟨m,j⟩ s hx hi rfl;rw[List.getElem?_zipIdx]at hx;have hil:i<w.length:=by simpa using hi
  rw[List.getElem?_eq_getElem hil]at hx;simp at hx;obtain⟨rfl,rfl⟩:=hx;have w1:=dF (i:=i) (by omega);cases hs:w[i].nm==x with
  |true=>simp -implicitDefEqProofs [mc,o5,dB,hil,hs,w1]
  |false=>simp -implicitDefEqProofs [mc,o5,dB,hil,hs,w1]
 ·rintro s rfl;simp -implicitDefEqProofs [o5]
theorem Ir (w:List Mc) (x:Str) (hb:w.length<big) (hN:w.length<N):dn G false cl yl N c16 [.slc .shared (w.map mcv),.str x]=some (.int .i64 (fix w x),none):=by
 obtain⟨e,⟨ts,M,mks⟩,h1,h2,rfl,rfl,h3⟩:=Iq (G:=G) (cl:=cl) (yl:=yl) w x hb hN;rcases h3 with⟨rfl,h3⟩|⟨rfl,h3⟩
 ·rw[h3];simp -implicitDefEqProofs [c16,h1]
 ·simp at h3;simp -implicitDefEqProofs [c16,h1,h3]
def rg (x:Str) (v:Vr):Option Int:=if v.nm==x then some v.so else none
theorem Be (x:Str): ∀(l:List Vr),l.findSome? (rg x)=(l.find? fun v=>v.nm==x).map (·.so)
 |[]=>rfl
 |v::l=>by
  simp only[List.findSome?_cons,List.find?_cons,rg];cases h:v.nm==x with
  |true=>simp
  |false=>simpa[h] using Be x l
theorem It (w:List Vr) (sp:Sp) (x:Str) (hb:w.length<big) (hN:w.length<N):
  ∃e s',dh false (a8 G false cl yl N pb) ⟨[0,1,5],[(5,none)],false⟩ 0 0 N ⟨[(0,.slc .shared (w.map vrv)),(1,.str x),(5,.int .i64 ((w.length:Int) - 1))],⟨[],[]⟩,[]⟩=some (e,s')/\e≠ .normal/\
   (s'.mks=[]/\s'.m=⟨[],[]⟩/\((e=.exit 0/\mns w x= -1)\/(e=.ret/\look 4 s'.ts=.int .i64 (mns w x)))):=by
 unfold big at hb;have h:=eN (mu:=false) (step:=a8 G false cl yl N pb) (an:=⟨[0,1,5],[(5,none)],false⟩) (k:=0) (m:=0) (N:=N) w.reverse (rg x)
  (fun i s=>s=⟨[(0,.slc .shared (w.map vrv)),(1,.str x),(5,.int .i64 ((w.length:Int) - 1 - i))],⟨[],[]⟩,[]⟩)
  (fun r e s'=>s'.mks=[]/\s'.m=⟨[],[]⟩/\match r with
   |none=>e=.exit 0
   |some j=>e=.ret/\look 4 s'.ts=.int .i64 j) (s0:=⟨[(0,.slc .shared (w.map vrv)),(1,.str x),(5,.int .i64 ((w.length:Int) - 1))],⟨[],[]⟩,[]⟩) (by simpa using hN) (by simp) ?_ ?_
 ·obtain⟨e,s',h1,h2,h3,h4,h5⟩:=h;refine⟨e,s',h1,h2,h3,h4,?_⟩;rw[Be]at h5;unfold mns;cases hf:w.reverse.find? (fun v=>v.nm==x)with
  |none=>rw[hf]at h5;exact .inl ⟨h5,rfl⟩
  |some j=>rw[hf]at h5;exact .inr h5
 ·rintro i v s hx hi rfl;have hil:i<w.length:=by simpa using hi
  obtain⟨j,hj⟩: ∃j:Nat,w.length - 1 - i=j:=⟨_,rfl⟩
  have hj1:j<w.length:=by omega
  have hx':w[j]=v:=by
   rw[List.getElem?_reverse hil,hj,List.getElem?_eq_getElem hj1]at hx;simpa using hx
  have e1:(w.length:Int) - 1 - i=(j:Int):=by omega
  have e2:(w.length:Int) - 1 - (i+1:Nat)=(j:Int) - 1:=by omega
  have w1:dj .i64 ((j:Int) - 1)=(j:Int) - 1:=dJ (by omega) (by omega);have e3:(w.length:Int) - 1 - (i+1)=(j:Int) - 1:=by omega
  have hp:(0:Int)<=(j:Int):=by omega
  rw[e1];cases hs:v.nm==x with
  |true=>simp -implicitDefEqProofs [rg,pb,dB,hj1,hx',hs,hp]
  |false=>simp -implicitDefEqProofs [rg,pb,dB,hj1,hx',hs,w1,e3,hp]
 ·rintro s rfl;have e1:(w.length:Int) - 1 - (w.reverse.length:Nat)= -1:=by simp;omega
  rw[e1];simp -implicitDefEqProofs [pb]
theorem Iu (w:List Vr) (sp:Sp) (x:Str) (hb:w.length<big) (hN:w.length<N):dn G false cl yl N c33 [.slc .shared (w.map vrv),.str x]=some (.int .i64 (mns w x),none):=by
 obtain⟨e,⟨ts,M,mks⟩,h1,h2,rfl,rfl,h3⟩:=It (G:=G) (cl:=cl) (yl:=yl) w sp x hb hN;unfold big at hb;have w1:dj .i64 ((w.length:Int) - 1)=(w.length:Int) - 1:=dJ (by omega) (by omega);rcases h3 with⟨rfl,h3⟩|⟨rfl,h3⟩
 ·rw[h3];simp -implicitDefEqProofs [c33,h1,w1]
 ·simp at h3;simp -implicitDefEqProofs [c33,h1,h3,w1]
end
def iB (env:List Vr) (p:Str×Vr):Option Int:=if mns env p.1<0 then some 21 else if mns env p.1≠p.2.so then some 11 else none
theorem wW (env:List Vr): ∀(xs:List Str) (ps:List Vr),pM env xs ps=((xs.zip ps).findSome? (iB env)).getD 0
 |[],_=>by simp[pM]
 |_::_,[]=>by simp[pM]
 |x::xs,p::ps=>by
  simp only[pM,List.zip_cons_cons,List.findSome?_cons,iB];by_cases h1:mns env x<0
  ·simp[h1]
  ·by_cases h2:mns env x=p.so
   ·have h3: ¬p.so<0:=by omega
    simp[h2,h3];exact wW env xs ps
   ·simp[h1,h2]
section
variable {G:Gls} {cl:a7} {yl:a7} {N:Nat}
theorem Iv (w:List Mc) (n:Nd) (s:Str) (xs:List Str) (env:List Vr) (d:Mc) (j:Nat) (hn:n.ns=s::xs) (hd:w[j]? =some d) (hlen:xs.length=d.ps.length) (hb:xs.length<big) (hN:xs.length<N)
  (h33: ∀x∈xs,∀M,cl 33 [.slc .shared (env.map vrv),.str x] M=some (.int .i64 (mns env x),M)):
  ∃e s',dh false (a8 G false cl yl N no) ⟨[0,2,4,7,8],[(8,none)],false⟩ 1 0 N ⟨[(0,.slc .shared (w.map mcv)),(2,.slc .shared (env.map vrv)),(4,.ptr 0 0),(7,.int .i64 j),(8,.int .i64 1)],⟨[.cells (ndc n)],[]⟩,[]⟩=some (e,s')/\e≠ .normal/\
   (s'.mks=[]/\match(xs.zip d.ps).findSome? (iB env)with
    |none=>e=.exit 0
    |some r=>e=.ret/\look 6 s'.ts=.int .i64 r):=by
 unfold big at hb;refine eN (mu:=false) (step:=a8 G false cl yl N no) (an:=⟨[0,2,4,7,8],[(8,none)],false⟩) (k:=1) (m:=0) (N:=N) (xs.zip d.ps) (iB env)
  (fun i st=>st=⟨[(0,.slc .shared (w.map mcv)),(2,.slc .shared (env.map vrv)),(4,.ptr 0 0),(7,.int .i64 j),(8,.int .i64 ((i:Int)+1))],⟨[.cells (ndc n)],[]⟩,[]⟩)
  (fun r e s'=>s'.mks=[]/\match r with
   |none=>e=.exit 0
   |some r=>e=.ret/\look 6 s'.ts=.int .i64 r) (by simp;omega) rfl ?_ ?_
 ·rintro i ⟨x,p⟩ st hx hi rfl;have hi1:i<xs.length:=by simp at hi;omega
  have hi2:i<d.ps.length:=by omega
  rw[List.getElem?_eq_getElem hi]at hx;simp at hx;obtain⟨hx1,hx2⟩:=hx;have k:=h33 x (by rw[<-hx1];exact List.getElem_mem hi1);have w1:dj .i64 ((i:Int)+1+1)=(i:Int)+1+1:=dJ (by omega) (by omega);have w2:dj .i64 (i:Int)=(i:Int):=dJ (by omega) (by omega);have hj:j<w.length:=(List.getElem?_eq_some_iff.1 hd).1;have hd':w[j]=d:=(List.getElem?_eq_some_iff.1 hd).2;have e1:((i:Int)+1).toNat=i+1:=by omega
  have e2:(i:Int)+1<(xs.length:Int)+1:=by omega
  have e3:(0:Int)<=(i:Int)+1:=by omega
  by_cases h1:mns env x<0
  ·simp -implicitDefEqProofs [iB,no,hn,hi1,hx1,k,e1,e2,e3,h1]
  ·by_cases h2:mns env x=p.so
   ·have h3: ¬p.so<0:=by omega
    simp -implicitDefEqProofs [iB,no,hn,hi1,hi2,hx1,hx2,k,e1,e2,e3,h2,h3,hj,hd',w1,w2]
   ·have h2':(mns env x !=p.so)=true:=by simp[h2]
    simp -implicitDefEqProofs [iB,no,hn,hi1,hi2,hx1,hx2,k,e1,e2,e3,h1,h2,h2',hj,hd',w1,w2]
 ·rintro st rfl;have e2: ¬((xs.zip d.ps).length:Int)+1<(xs.length:Int)+1:=by simp;omega
  simp -implicitDefEqProofs only[List.length_zip]at e2;simp -implicitDefEqProofs [no,hn,e2,hlen]
theorem Iw (w:List Mc) (n:Nd) (env:List Vr) (hne:n.ns≠[]) (hb:n.ns.length<big) (hN:n.ns.length<N)
  (h16: ∀x∈n.ns,∀M,cl 16 [.slc .shared (w.map mcv),.str x] M=some (.int .i64 (fix w x),M))
  (h33: ∀x∈n.ns,∀M,cl 33 [.slc .shared (env.map vrv),.str x] M=some (.int .i64 (mns env x),M)):
  dn G false cl yl N c89 [.slc .shared (w.map mcv),av n,.slc .shared (env.map vrv)]=some (.int .i64 (iA w n.ns env),none):=by
 cases hn:n.ns with
 |nil=>exact absurd hn hne
 |cons s xs=>
  have k16:=h16 s (by rw[hn];simp);simp only[iA];cases hf:fnd w s with
  |none=>
   have h1:fix w s<0:=uf.2 hf;simp -implicitDefEqProofs [c89,hn,k16,h1]
  |some d=>
   obtain⟨j,hj,hd⟩:=ug hf;rw[hj]at k16;have hj1:j<w.length:=(List.getElem?_eq_some_iff.1 hd).1;have hd':w[j]=d:=(List.getElem?_eq_some_iff.1 hd).2;have hp: ¬(j:Int)<0:=by omega
   have w2:dj .i64 (xs.length:Int)=(xs.length:Int):=by
    rw[hn]at hb;unfold big at hb;simp at hb;exact dJ (by omega) (by omega)
   by_cases hl:xs.length=d.ps.length
   ·obtain⟨e,⟨ts,M,mks⟩,h1,h2,rfl,h3⟩:=Iv (G:=G) (cl:=cl) (yl:=yl) (N:=N) w n s xs env d j hn hd hl (by rw[hn]at hb;simp at hb;unfold big at hb⊢;omega) (by rw[hn]at hN;simp at hN;omega) (fun x hx=>h33 x (by rw[hn];simp[hx]));simp only[ne_eq,hl,not_true_eq_false,if_false];rw[wW];have hq:((xs.length:Int) !=(d.ps.length:Int))=false:=by simp;omega
    cases hr:(xs.zip d.ps).findSome? (iB env)with
    |none=>
     rw[hr]at h3;subst h3;simp -implicitDefEqProofs [c89,hn,k16,hj1,hd',hp,hq,h1,w2]
    |some r=>
     rw[hr]at h3;obtain⟨rfl,h4⟩:=h3;simp at h4;simp -implicitDefEqProofs [c89,hn,k16,hj1,hd',hp,hq,h1,h4,w2]
   ·have hl':((xs.length:Int) !=(d.ps.length:Int))=true:=by simp;omega
    simp -implicitDefEqProofs [c89,hn,k16,hj1,hd',hp,hl,hl',w2]
end
def jm (w:List Mc) (all:Bool) (env:List Vr) (x:Nd):Option Int:=if wlk w all x env=0 then none else some (wlk w all x env)
theorem wX (w:List Mc) (all:Bool) (env:List Vr): ∀l:List Nd,jK w all l env=(l.findSome? (jm w all env)).getD 0
 |[]=>rfl
 |x::l=>by
  simp only[jK,List.findSome?_cons,jm];by_cases h:wlk w all x env=0
  ·simp only[h,if_true];exact wX w all env l
  ·simp[h]
def jo (env:List Vr) (x:Str):Option Unit:=if mns env x<0 then some ()else none
theorem wY (env:List Vr): ∀l:List Str,wT env l=if(l.findSome? (jo env)).isSome then 21 else 0
 |[]=>rfl
 |x::l=>by
  have ih:=wY env l;unfold wT at ih⊢;simp only[List.any_cons,List.findSome?_cons,jo];by_cases h:mns env x<0
  ·simp[h]
  ·simp only[h,decide_false,Bool.false_or,if_false];exact ih
def spO (b:Bool):Sp:=if b then .own 0 else .shared
def arO (b:Bool) (n:Nat):List Arr:=if b then [.app n 85 2]else []
@[simp] theorem TV (k:Nat):dV k []=true:=rfl
@[simp] theorem TX (a b:AV) (l:List AV):dV 2 (.agg [a,b]::l)=true:=rfl
@[simp] theorem Bf (l:List Vr):dV 2 (l.map vrv)=true:=by cases l<;>rfl
@[simp] theorem TY (v:Vr) (l:List AV):dV 2 (vrv v::l)=true:=rfl
section
variable {G:Gls} {cl:a7} {yl:a7} {N:Nat}
theorem Ix (w:List Mc) (n:Nd) (env:List Vr) (all:Bool) (hb:n.ns.length<big) (hN:n.ns.length<N)
  (h33: ∀x∈n.ns,∀M,cl 33 [.slc .shared (env.map vrv),.str x] M=some (.int .i64 (mns env x),M)):
  ∃e s',dh false (a8 G false cl yl N pc) ⟨[0,2,3,5,10],[(10,none)],false⟩ 1 0 N ⟨[(0,.slc .shared (w.map mcv)),(2,.slc .shared (env.map vrv)),(3,.bool all),(5,.ptr 0 0),(10,.int .i64 0)],⟨[.cells (ndc n)],[]⟩,[]⟩=some (e,s')/\e≠ .normal/\
   (s'.mks=[]/\match n.ns.findSome? (jo env)with
    |none=>e=.exit 1/\s'.m=⟨[.cells (ndc n)],[]⟩/\look 0 s'.ts=.slc .shared (w.map mcv)/\look 2 s'.ts=.slc .shared (env.map vrv)/\look 3 s'.ts=.bool all/\look 5 s'.ts=.ptr 0 0
    |some _=>e=.ret/\look 8 s'.ts=.int .i64 21):=by
 unfold big at hb;refine eN (mu:=false) (step:=a8 G false cl yl N pc) (an:=⟨[0,2,3,5,10],[(10,none)],false⟩) (k:=1) (m:=0) (N:=N) n.ns (jo env)
  (fun i st=>st=⟨[(0,.slc .shared (w.map mcv)),(2,.slc .shared (env.map vrv)),(3,.bool all),(5,.ptr 0 0),(10,.int .i64 (i:Int))],⟨[.cells (ndc n)],[]⟩,[]⟩)
  (fun r e s'=>s'.mks=[]/\match r with
   |none=>e=.exit 1/\s'.m=⟨[.cells (ndc n)],[]⟩/\look 0 s'.ts=.slc .shared (w.map mcv)/\look 2 s'.ts=.slc .shared (env.map vrv)/\look 3 s'.ts=.bool all/\look 5 s'.ts=.ptr 0 0
   |some _=>e=.ret/\look 8 s'.ts=.int .i64 21) hN rfl ?_ ?_
 ·rintro i x st hx hi rfl;have k:=h33 x (fR hx);have hx':=(List.getElem?_eq_some_iff.1 hx).2;have w1:=dF (i:=i) (by omega);by_cases h1:mns env x<0
  ·simp -implicitDefEqProofs [jo,pc,hi,hx',k,h1]
  ·simp -implicitDefEqProofs [jo,pc,hi,hx',k,h1,w1]
 ·rintro st rfl;simp -implicitDefEqProofs [pc]
theorem Iy (w:List Mc) (n:Nd) (env:List Vr) (all b:Bool) (c:Nat) (hb:n.l.length<big) (hN:n.l.length<N)
  (h35: ∀x∈n.l,∀M,cl 35 [.slc .shared (w.map mcv),av x,.slc (spO b) (env.map vrv),.bool all] M=some (.int .i64 (wlk w all x env),M)):
  ∃e s',dh false (a8 G false cl yl N nh) ⟨[0,2,3,5,11],[(11,none)],false⟩ 1 (arO b c).length N ⟨[(0,.slc .shared (w.map mcv)),(2,.slc (spO b) (env.map vrv)),(3,.bool all),(5,.ptr 0 0),(11,.int .i64 0)],⟨[.cells (ndc n)],arO b c⟩,[]⟩=some (e,s')/\e≠ .normal/\
   (s'.mks=[]/\match n.l.findSome? (jm w all env)with
    |none=>e=.exit 3
    |some r=>e=.ret/\look 8 s'.ts=.int .i64 r):=by
 unfold big at hb;refine eN (mu:=false) (step:=a8 G false cl yl N nh) (an:=⟨[0,2,3,5,11],[(11,none)],false⟩) (k:=1) (m:=(arO b c).length) (N:=N) n.l (jm w all env)
  (fun i st=>st=⟨[(0,.slc .shared (w.map mcv)),(2,.slc (spO b) (env.map vrv)),(3,.bool all),(5,.ptr 0 0),(11,.int .i64 (i:Int))],⟨[.cells (ndc n)],arO b c⟩,[]⟩)
  (fun r e s'=>s'.mks=[]/\match r with
   |none=>e=.exit 3
   |some r=>e=.ret/\look 8 s'.ts=.int .i64 r) hN rfl ?_ ?_
 ·rintro i x st hx hi rfl;have k:=h35 x (fR hx);have hx':=(List.getElem?_eq_some_iff.1 hx).2;have w1:=dF (i:=i) (by omega);by_cases h1:wlk w all x env=0
  ·cases b<;>simp[spO]at k<;>simp -implicitDefEqProofs [jm,nh,spO,arO,hi,hx',k,h1,w1]
  ·have h1':(wlk w all x env !=0)=true:=by simp[h1]
   cases b<;>simp[spO]at k<;>simp -implicitDefEqProofs [jm,nh,spO,arO,hi,hx',k,h1,h1']
 ·rintro st rfl;cases b<;>simp -implicitDefEqProofs [nh,spO,arO]
structure Iz (cl:a7) (w:List Mc) (all:Bool) (n:Nd) (env:List Vr):Prop where
 ns0:n.op=10\/15<n.op->n.ns≠[]
 kids: ∀x∈n.l,∀(b:Bool) M,cl 35 [.slc .shared (w.map mcv),av x,.slc (spO b) ((inn n env).map vrv),.bool all] M=some (.int .i64 (wlk w all x (inn n env)),M)
 h89:n.op=10-> ∀M,cl 89 [.slc .shared (w.map mcv),av n,.slc .shared (env.map vrv)] M=some (.int .i64 (iA w n.ns env),M)
 h33: ∀x∈n.ns,∀M,cl 33 [.slc .shared (env.map vrv),.str x] M=some (.int .i64 (mns env x),M)
theorem IA (w:List Mc) (all:Bool) (n:Nd) (env:List Vr) (hb1:n.ns.length<big) (hN1:n.ns.length<N) (hb2:n.l.length<big) (hN2:n.l.length<N) (hb3:env.length<big) (h:Iz cl w all n env):
  dn G false cl yl N c35 [.slc .shared (w.map mcv),av n,.slc .shared (env.map vrv),.bool all]=some (.int .i64 (wlk w all n env),none):=by
 obtain⟨ns0,kids,h89,h33⟩:=h;rw[Bd];unfold stE
 -- the children, from a scope's row on
 have ch: ∀(b:Bool) (c:Nat),∃e s',dh false (a8 G false cl yl N nh) ⟨[0,2,3,5,11],[(11,none)],false⟩ 1 (arO b c).length N ⟨[(0,.slc .shared (w.map mcv)),(2,.slc (spO b) ((inn n env).map vrv)),(3,.bool all),(5,.ptr 0 0),(11,.int .i64 0)],⟨[.cells (ndc n)],arO b c⟩,[]⟩=some (e,s')/\s'.mks=[]/\
   ((e=.exit 3/\jK w all n.l (inn n env)=0)\/(e=.ret/\look 8 s'.ts=.int .i64 (jK w all n.l (inn n env)))):=by
  intro b c;obtain⟨e,s',k1,k2,k3,k4⟩:=Iy (G:=G) (cl:=cl) (yl:=yl) (N:=N) w n (inn n env) all b c hb2 hN2 (fun x hx M=>kids x hx b M);refine⟨e,s',k1,k3,?_⟩;rw[wX];cases hr:n.l.findSome? (jm w all (inn n env))with
  |none=>rw[hr]at k4;exact .inl ⟨k4,rfl⟩
  |some r=>rw[hr]at k4;exact .inr k4
 by_cases h10:n.op=10
 ·have k:=h89 h10;have hin:inn n env=env:=by unfold inn;rw[if_neg (by omega)]
  rw[hin]at ch⊢;by_cases hz:iA w n.ns env=0
  ·obtain⟨e,⟨ts,M,mks⟩,k1,rfl,k2⟩:=ch false 0;simp only[h10,hz,if_true];simp[spO,arO]at k1;rcases k2 with⟨rfl,k2⟩|⟨rfl,k2⟩
   ·rw[k2];simp -implicitDefEqProofs [c35,h10,k,hz,k1]
   ·simp at k2;simp -implicitDefEqProofs [c35,h10,k,hz,k1,k2]
  ·have hz':(iA w n.ns env !=0)=true:=by simp[hz]
   simp only[h10,hz,if_true,if_false];simp -implicitDefEqProofs [c35,h10,k,hz,hz']
 ·have h10':(n.op==10)=false:=by simp[h10]
  by_cases h15:n.op>15
  ·have h15':(15:Int)<n.op:=h15;obtain⟨s,xs,hn⟩: ∃s xs,n.ns=s::xs:=by
    cases hn:n.ns with
    |nil=>exact absurd hn (ns0 (.inr h15'))
    |cons s xs=>exact⟨s,xs,rfl⟩
   have hin:inn n env=env++[⟨s,n.so⟩]:=by unfold inn;rw[if_pos h15,hn];rfl
   rw[hin]at ch⊢;simp only[h10,h15,if_true,if_false];obtain⟨e,⟨ts,M,mks⟩,k1,rfl,k2⟩:=ch true (env.length+1);simp[spO,arO,vrv]at k1;have hq:(env.length+1)*24<=140737488355328:=by unfold big at hb3;omega
   have hq1:env.length*24<=140737488355328:=by unfold big at hb3;omega
   have hq2:env.length+1<=140737488355328:=by unfold big at hb3;omega
   have hq3:env.length<=140737488355328:=by unfold big at hb3;omega
   cases henv:env with
   |nil=>
    rw[henv]at k1 k2;simp[vrv]at k1 k2;rcases k2 with⟨rfl,k2⟩|⟨rfl,k2⟩
    ·simp only[List.nil_append];rw[k2];simp -implicitDefEqProofs [c35,h10,h10',h15',hn,k1,vrv]
    ·simp -implicitDefEqProofs [c35,h10,h10',h15',hn,k1,k2,vrv]
   |cons v vs=>
    rw[henv]at k1 k2 hq hq1 hq2 hq3;simp[vrv]at k1 k2 hq hq1 hq2 hq3;rcases k2 with⟨rfl,k2⟩|⟨rfl,k2⟩
    ·simp only[List.cons_append];rw[k2];simp -implicitDefEqProofs [c35,h10,h10',h15',hn,k1,vrv,hq,hq1,hq2,hq3]
    ·simp -implicitDefEqProofs [c35,h10,h10',h15',hn,k1,k2,vrv,hq,hq1,hq2,hq3]
  ·have h15': ¬(15:Int)<n.op:=h15;have hin:inn n env=env:=by unfold inn;rw[if_neg h15]
   rw[hin]at ch⊢;obtain⟨e,⟨ts,M,mks⟩,k1,rfl,k2⟩:=ch false 0;simp[spO,arO]at k1;simp only[h10,h15,if_false];cases all with
   |false=>
    simp only[Bool.false_eq_true,if_false,if_true];rcases k2 with⟨rfl,k2⟩|⟨rfl,k2⟩
    ·rw[k2];simp -implicitDefEqProofs [c35,h10,h10',h15',k1]
    ·simp at k2;simp -implicitDefEqProofs [c35,h10,h10',h15',k1,k2]
   |true=>
    simp only[if_true];obtain⟨e2,⟨ts2,M2,mks2⟩,q1,q2,rfl,q3⟩:=Ix (G:=G) (cl:=cl) (yl:=yl) (N:=N) w n env true hb1 hN1 h33;rw[wY];cases hr:n.ns.findSome? (jo env)with
    |none=>
     rw[hr]at q3;obtain⟨rfl,rfl,p0,p2,p3,p5⟩:=q3;simp at p0 p2 p3 p5;simp only[Option.isSome_none,Bool.false_eq_true,if_false,if_true];rcases k2 with⟨rfl,k2⟩|⟨rfl,k2⟩
     ·rw[k2];simp -implicitDefEqProofs [c35,h10,h10',h15',q1,p0,p2,p3,p5,k1]
     ·simp at k2;simp -implicitDefEqProofs [c35,h10,h10',h15',q1,p0,p2,p3,p5,k1,k2]
    |some r=>
     rw[hr]at q3;obtain⟨rfl,q3⟩:=q3;simp at q3;simp -implicitDefEqProofs [c35,h10,h10',h15',q1,q3]
end
end Go.Proofs.Ae
