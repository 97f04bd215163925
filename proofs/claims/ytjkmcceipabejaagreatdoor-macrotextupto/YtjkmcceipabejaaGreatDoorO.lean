/- Further functions: what they answer, and what that means. -/
import Derived.Test.YtjkmcceipabejaaGreatDoorN
set_option linter.unusedSimpArgs false
set_option linter.unusedVariables false
set_option linter.unusedSectionVars false
namespace Go.Proofs.Ae
open Go Go.RowKit
def Old {α:Type} (l l1:List α):Prop:= ∀(i:Nat) (x:α),l[i]? =some x->l1[i]? =some x
theorem Old.refl {α:Type} (l:List α):Old l l:=fun _ _ h=>h
theorem Old.trans {α:Type} {l l1 l2:List α} (h:Old l l1) (k:Old l1 l2):Old l l2:=fun i x hi=>k i x (h i x hi)
theorem Old.app {α:Type} (l r:List α):Old l (l++r):=fun _ _ h=>dD h r
theorem Old.pre {α:Type} {l l1:List α} (h:Old l l1): ∃X,l1=l++X:=by
 refine⟨l1.drop l.length,?_⟩;apply List.ext_getElem?;intro i;by_cases hi:i<l.length
 ·rw[List.getElem?_append_left hi,List.getElem?_eq_getElem hi];exact h i _ (List.getElem?_eq_getElem hi)
 ·rw[List.getElem?_append_right (by omega),List.getElem?_drop]
  congr 1
  omega
theorem Old.len {α:Type} {l l1:List α} (h:Old l l1):l.length<=l1.length:=by
 obtain⟨X,rfl⟩:=h.pre;simp
section
variable {P:Program} {G:Gls}
def lA (s:Nat->Bool) (c1 c2:a7):a7:=fun f ags M=>match s f with
 |true=>c1 f ags M
 |false=>c2 f ags M
theorem xO {s:Nat->Bool} {c1 c2:a7} (h1:fw P G c1) (h2:fw P G c2):fw P G (lA s c1 c2):=by
 intro f ags M v M' h;unfold lA at h;split at h
 ·exact h1 _ _ _ _ _ h
 ·exact h2 _ _ _ _ _ h
theorem uC {s:Nat->Bool} {c1 c2:a7} {f:Nat} {ags:List AV} {M:Mem} (h:s f=true):lA s c1 c2 f ags M=c1 f ags M:=by
 unfold lA;rw[h]
theorem xP {s:Nat->Bool} {c1 c2:a7} {f:Nat} {ags:List AV} {M:Mem} (h:s f=false):lA s c1 c2 f ags M=c2 f ags M:=by
 unfold lA;rw[h]
end
section
variable {t:Nat} {N:Nat}
theorem Cv (k:Nat):fw Tryz.prog (GG t) (BP t N k)/\iL Tryz.prog (GG t) (YP t N k):=
 je (T:=TW (dg N7)) fp kis dz (jr o37) k false
end
def uD (O:List Obj) (id:Nat) (w:List Mc):Prop:= ∃sp,O[id]? =some (.cells [.slc sp (w.map mcv)])
theorem uD.grow {O:List Obj} {id:Nat} {w:List Mc} (h:uD O id w) (X:List Obj):uD (O++X) id w:=by
 obtain⟨sp,h⟩:=h;exact⟨sp,dD h X⟩
theorem dQ.r {O:List Obj} {R:List Arr} {id:Nat} {a:Option Nat} {w:List Mc} (h:dQ O R id a w):uD O id w:=h.get
def nc6 (op so nn mm:Int) (nv kv:AV):List AV:=[.int .i64 op,nv,.int .i64 so,.int .i64 nn,.int .i64 mm,kv]
def MW:AV->List AV
 | .agg cs=>cs
 |_=>[]
def flC (vs:List AV):List AV:=(vs.map MW).flatten
def uE (ar:List Arr) (ns:List Str) (lo m:Nat) (nv:AV):Prop:=(ns=[]/\nv=.slc .full []/\lo<=m)\/(ns≠[]/\lo<m/\nv=.osl lo 0 0 ns.length/\ar[lo]? =some (.wr 0 9 .sc (ns.map .str)))
def uF (ar:List Arr) (n b:Nat) (vs:List AV) (kv:AV) (m hi:Nat):Prop:=(n=0/\kv=.slc .full [])\/(∃k,n=k+1/\kv=.osl b k 0 (k+1)/\ar[b]? =some (.wr k 40 (.ag 6) (flC vs))/\m<=b/\b<hi)
mutual
def Ld (ar:List Arr):Nd->Nat->Nat->AV->Prop
 | .mk op ns so nn mm l,lo,hi,v=> ∃nv kv m b vs,v=.agg (nc6 op so nn mm nv kv)/\uE ar ns lo m nv/\m<=hi/\uF ar l.length b vs kv m hi/\LdL ar l m hi b vs
def LdL (ar:List Arr):List Nd->Nat->Nat->Nat->List AV->Prop
 |[],lo,hi,b,vs=>vs=[]
 |x::xs,lo,hi,b,vs=> ∃v vs' l1 h1,vs=v::vs'/\lo<=l1/\l1<=h1/\h1<=hi/\(b<l1\/h1<=b)/\Ld ar x l1 h1 v/\LdL ar xs h1 hi b vs'
end
theorem uE.frame {ar ar':List Arr} {ns:List Str} {lo m:Nat} {nv:AV} (hf: ∀i,lo<=i->i<m->ar'[i]? =ar[i]?) (h:uE ar ns lo m nv):uE ar' ns lo m nv:=by
 rcases h with h|⟨h1,h2,h3,h4⟩
 ·exact .inl h
 ·exact .inr ⟨h1,h2,h3,by rw[hf lo (Nat.le_refl _) h2];exact h4⟩
theorem uF.frame {ar ar':List Arr} {n b:Nat} {vs:List AV} {kv:AV} {m hi:Nat} (hf: ∀i,m<=i->i<hi->ar'[i]? =ar[i]?) (h:uF ar n b vs kv m hi):uF ar' n b vs kv m hi:=by
 rcases h with h|⟨k,h1,h2,h3,h4,h5⟩
 ·exact .inl h
 ·exact .inr ⟨k,h1,h2,by rw[hf b h4 h5];exact h3,h4,h5⟩
mutual
theorem Ld.frame {ar ar':List Arr}: ∀(n:Nd) {lo hi:Nat} {v:AV},(∀i,lo<=i->i<hi->ar'[i]? =ar[i]?)->Ld ar n lo hi v->Ld ar' n lo hi v
 | .mk op ns so nn mm l,lo,hi,v,hf,h=>by
  simp only[Ld]at h⊢;obtain⟨nv,kv,m,b,vs,h1,h2,h3,h4,h5⟩:=h;have hm:lo<=m:=by rcases h2 with⟨_,_,h⟩|⟨_,h,_⟩<;>omega
  exact⟨nv,kv,m,b,vs,h1,h2.frame (fun i a c=>hf i a (by omega)),h3,h4.frame (fun i a c=>hf i (by omega) c),LdL.frame l (fun i a c=>hf i (by omega) c) h5⟩
theorem LdL.frame {ar ar':List Arr}: ∀(l:List Nd) {lo hi b:Nat} {vs:List AV},(∀i,lo<=i->i<hi->ar'[i]? =ar[i]?)->LdL ar l lo hi b vs->LdL ar' l lo hi b vs
 |[],lo,hi,b,vs,hf,h=>by simp only[LdL]at h⊢;exact h
 |x::xs,lo,hi,b,vs,hf,h=>by
  simp only[LdL]at h⊢;obtain⟨v,vs',l1,h1,e,a1,a2,a3,a4,a5,a6⟩:=h;exact⟨v,vs',l1,h1,e,a1,a2,a3,a4,Ld.frame x (fun i a c=>hf i (by omega) (by omega)) a5,LdL.frame xs (fun i a c=>hf i (by omega) c) a6⟩
end
theorem LdL.snoc {ar:List Arr} {x:Nd} {v:AV}: ∀(l:List Nd) {lo h0 l1 h1 hi b:Nat} {vs:List AV},LdL ar l lo h0 b vs->lo<=h0->h0<=l1->l1<=h1->h1<=hi->(b<l1\/h1<=b)->Ld ar x l1 h1 v->LdL ar (l++[x]) lo hi b (vs++[v])
 |[],lo,h0,l1,h1,hi,b,vs,h,g0,g1,g2,g3,g4,g5=>by
  simp only[LdL]at h;subst h;simp only[List.nil_append,LdL];exact⟨v,[],l1,h1,rfl,by omega,g2,g3,g4,g5,rfl⟩
 |y::ys,lo,h0,l1,h1,hi,b,vs,h,g0,g1,g2,g3,g4,g5=>by
  simp only[LdL]at h;obtain⟨u,us,l2,h2,rfl,a1,a2,a3,a4,a5,a6⟩:=h;simp only[List.cons_append,LdL];exact⟨u,us++[v],l2,h2,rfl,a1,a2,by omega,a4,a5,LdL.snoc ys a6 a3 g1 g2 g3 g4 g5⟩
abbrev Kn:=List (Str×Nat×Nat)
def Wf (w:List Mc):Prop:= ∀u d v,w=u++d::v->may u d=0
theorem MX:Wf []:=by
 intro u d v h;cases u<;>simp at h
theorem Wf.snoc {w:List Mc} {d:Mc} (h:Wf w) (hm:may w d=0):Wf (w++[d]):=by
 intro u e v he;rcases List.eq_nil_or_concat v with rfl|⟨v',x,rfl⟩
 ·obtain⟨h1,h2⟩:=List.append_inj_left' he rfl,List.append_inj_right' he rfl;simp at h2;rw[<-h1,<-h2];exact hm
 ·have he':w++[d]=(u++e::v')++[x]:=by simpa using he
  exact h u e v' (List.append_inj_left' he' rfl)
theorem Wf.left {u v:List Mc} (h:Wf (u++v)):Wf u:=by
 intro a d b he;exact h a d (b++v) (by rw[he];simp)
structure Md (u:List Mc) (d:Mc):Prop where
 id:dy d.nm=true
 new:fnd u d.nm=none
 ps:fu d.ps=0
 bd:chk d.bd=0
 wl:wlk u true d.bd d.ps=0
theorem MY {u:List Mc} {d:Mc} (h:may u d=0):Md u d:=by
 have hn:=(Ct h).1;unfold may at h;split at h
 ·cases h
 ·split at h
  ·cases h
  ·rename_i h2
   split at h
   ·cases h
   ·split at h
    ·split at h
     ·rename_i h4 h5
      exact⟨by simpa using h2,hn,h4,h5,h⟩
     ·rename_i h4 h5
      exact absurd h h5
    ·rename_i h4
     exact absurd h h4
theorem Md.vd {u:List Mc} {d:Mc} (h:Md u d):ndE d.bd=0:=uA h.bd
theorem MZ {n:Nd} (h:ndE n=0):n.ns.length<=17:=by
 cases lz h with
 |cst op h=>simp[nd,Nd.ns]
 |two op x y h hx hy=>simp[Nd.ns]
 |lab x k hx h=>simp[Nd.ns]
 |smd x k m hx h=>simp[Nd.ns]
 |sng x hx=>simp[Nd.ns]
 |cal x xs hl hx=>exact hl
 |not a ha=>simp[nd,Nd.ns]
 |bin op a b h ha hb=>simp[nd,Nd.ns]
 |qnt op x so a h hx hs ha=>simp[qn,Nd.ns]
structure Wm (l w:List Mc):Prop where
 wf:Wf w
 mem: ∀d∈w,d∈l
section
variable {G:Gls} {cl:a7} {yl:a7} {N:Nat}
def xQ (l:List Mc) (O:List Obj) (R:List Arr) (i:Nat) (st:St):Prop:=
 ∃O1 R1 a w,st=⟨[(0,.slc .shared (l.map mcv)),(4,.ptr O.length 0),(5,.slc (.own R.length) (w.map mcv)),(6,.int .i64 (i:Int))],⟨O1,R1⟩,[]⟩/\dQ O1 R1 O.length a w/\R1[R.length]? =some (dA w.length 34 8)/\(∀b,a=some b->R.length<b)/\Gd w/\Old O O1/\Old R R1/\Wm l w/\w.length<=i
theorem M0 (l:List Mc) (hl:l.length<=5) (hm: ∀d∈l,OkM d) (hN:6<N) (h:Cs3 cl l) (O:List Obj) (R:List Arr):
  ∃e s',dh false (a8 G false cl yl N o6) ⟨[0,4,5,6],[(5,none),(6,none)],true⟩ (O.length+1) (R.length+1) N ⟨[(0,.slc .shared (l.map mcv)),(4,.ptr O.length 0),(5,.slc (.own R.length) []),(6,.int .i64 0)],⟨O++[.cells [.slc .full []]],R++[.app 0 0 0]⟩,[]⟩=some (e,s')/\e≠ .normal/\
   (e=.exit 0/\s'.mks=[]/\ ∃O1 R1 a w,s'.m=⟨O1,R1⟩/\look 4 s'.ts=.ptr O.length 0/\look 5 s'.ts=.slc (.own R.length) (w.map mcv)/\dQ O1 R1 O.length a w/\(∀b,a=some b->R.length<b)/\Gd w/\Old O O1/\Old R R1/\Wm l w/\w.length<=l.length):=by
 obtain⟨h8,h9,h10,h11,h13,h12y,h12n,h14,h15,h16⟩:=h;refine(eN (mu:=false) (step:=a8 G false cl yl N o6) (an:=⟨[0,4,5,6],[(5,none),(6,none)],true⟩) (k:=O.length+1) (m:=R.length+1) (N:=N) l (fun _=>(none:Option Unit)) (xQ l O R)
  (fun r e s'=>e=.exit 0/\s'.mks=[]/\ ∃O1 R1 a w,s'.m=⟨O1,R1⟩/\look 4 s'.ts=.ptr O.length 0/\look 5 s'.ts=.slc (.own R.length) (w.map mcv)/\dQ O1 R1 O.length a w/\(∀b,a=some b->R.length<b)/\Gd w/\Old O O1/\Old R R1/\Wm l w/\w.length<=l.length) (by omega)
  ⟨O++[.cells [.slc .full []]],R++[.app 0 0 0],none,[],rfl,.nil (by simp),by simp[dA],fun b h=>(by cases h),uB,.app _ _,.app _ _,⟨MX,by simp⟩,Nat.le_refl _⟩ ?_ ?_)
 ·rintro i d st hx hi ⟨O1,R1,a,w,rfl,hs,hr,ha,hg,hO,hR,hwf,hwl⟩;have hx':=(List.getElem?_eq_some_iff.1 hx).2;have hd:=fR hx;have w1:=dF (i:=i) (by omega);have k11:=fun M=>h11 w d (.own R.length) M hg hd (by simp);have k13:=h13 d hd;by_cases hc:may w d=0
  ·obtain⟨O',R',a',k12,hA⟩:=h12y w d O1 R1 O.length a hs hg hd hc;rw[hc]at k11;have hr':R'[R.length]? =some (dA w.length 34 8):=hA.row R.length _ (fun e=>by have:=ha R.length e.symm;omega) hr;have hRlen:R.length<R1.length:=(List.getElem?_eq_some_iff.1 hr).1;have ha': ∀b,a'=some b->R.length<b:=by
    intro b hb;rcases hA.own with e|⟨-,k,hk,e⟩
    ·rw[e]at hb;exact ha b hb
    ·rw[e]at hb;cases hb;omega
   have hg':=hg.snoc hc (hm d hd);have hq:(w.length+1)*120<=140737488355328:=by have:=hg.len;omega
   have hq2:w.length+1<=140737488355328:=by have:=hg.len;omega
   have hz:=nT w;have hz1:=nS d [];have hrr:w=[]\/ ¬w=[]:=Decidable.em _;simp only[dA]at hr';have fin:xQ l O R (i+1) ⟨[(0,.slc .shared (l.map mcv)),(4,.ptr O.length 0),(5,.slc (.own R.length) (w.map mcv++[mcv d])),(6,.int .i64 ((i+1:Nat):Int))],⟨O',R'.set R.length (.app (w.length+1) 34 8)⟩,[]⟩:=by
    have hne:a'≠some R.length:=fun e=>by have:=ha' _ e;omega
    refine⟨O',R'.set R.length (.app (w.length+1) 34 8),a',w++[d],by simp,hA.set.setRow hne _,?_,ha',hg',?_,?_,⟨hwf.wf.snoc hc,fun x hx=>by
     rcases List.mem_append.1 hx with hx|hx
     ·exact hwf.mem x hx
     ·simp at hx;rw[hx];exact hd⟩,by simp;omega⟩
    ·have:R.length<R'.length:=(List.getElem?_eq_some_iff.1 hr').1;simp[dA,this]
    ·intro j o hj;exact hA.obj j o (by have:=(List.getElem?_eq_some_iff.1 hj).1;omega) (hO j o hj)
    ·intro j r hj;have hjl:=(List.getElem?_eq_some_iff.1 hj).1;rw[List.getElem?_set_ne (by omega)];exact hA.row j r (fun e=>by have:=ha j e.symm;omega) (hR j r hj)
   simp -implicitDefEqProofs [o6,hi,hx',w1,k11,k13,k12,hr',hq,hq2,hz,hz1,hrr];simpa using fin
  ·obtain⟨X,k12⟩:=h12n w d O1 R1 O.length a hs hg hd hc;have hc':(may w d==0)=false:=by simp[hc]
   have fin:xQ l O R (i+1) ⟨[(0,.slc .shared (l.map mcv)),(4,.ptr O.length 0),(5,.slc (.own R.length) (w.map mcv)),(6,.int .i64 ((i+1:Nat):Int))],⟨O1,R1⟩,[]⟩:=
    ⟨O1,R1,a,w,rfl,hs,hr,ha,hg,hO,hR,hwf,by omega⟩
   simp -implicitDefEqProofs [o6,hi,hx',w1,k11,hc'];simpa using fin
 ·rintro st ⟨O1,R1,a,w,rfl,hs,hr,ha,hg,hO,hR,hwf,hwl⟩;simp -implicitDefEqProofs [o6];exact⟨O1,R1,⟨rfl,rfl⟩,a,w,rfl,hs,ha,hg,hO,hR,hwf,hwl⟩
theorem M7 (l:List Mc) (hl:l.length<=5) (hm: ∀d∈l,OkM d) (hN:6<N) (h:Cs3 cl l) (O:List Obj) (R:List Arr):
  ∃X Y a w,dr G false cl yl N c17 [.slc .shared (l.map mcv)] ⟨O,R⟩=some (.tup [.ptr O.length 0,.slc (.own R.length) (w.map mcv)],⟨O++X,R++Y⟩)/\dQ (O++X) (R++Y) O.length a w/\(∀b,a=some b->R.length<b)/\Gd w/\Wm l w/\w.length<=l.length:=by
 obtain⟨e,⟨ts,M,mks⟩,h1,-,rfl,rfl,O1,R1,a,w,rfl,h3,h4,hs,ha,hg,hO,hR,hwf,hwl⟩:=M0 (G:=G) (cl:=cl) (yl:=yl) (N:=N) l hl hm hN h O R;obtain⟨X,rfl⟩:=hO.pre;obtain⟨Y,rfl⟩:=hR.pre;have k10:=h.h10 O R;simp at h3 h4;refine⟨X,Y,a,w,?_,hs,ha,hg,hwf,hwl⟩;simp -implicitDefEqProofs [c17,k10,h1,h3,h4]
end
def tkE (l:List Str):List (AV×AV):=l.map fun s=>(.str s,.bool true)
@[simp] theorem Ug (k m:Nat) (l:List Str):(tkE l).map (fun e=>(e.1,scr k m e.2))=tkE l:=by simp[tkE]
def snm (k:Int):Str:=if k=0 then [118,101,114,116,101,120]else if k=1 then [101,100,103,101]else if k=2 then [115,101,116]else if k=3 then [101,100,103,101,115]else []
section
variable {t:Nat} {cl:a7} {yl:a7} {N:Nat}
theorem xR (k:Int):dn (GG t) false cl yl N c47 [.int .i64 k]=some (.str (snm k),none):=by
 have hG:GG t 0=some (.agg [.str [118,101,114,116,101,120],.str [101,100,103,101],.str [115,101,116],.str [101,100,103,101,115]]):=rfl;by_cases h1:k<0
 ·have e0: ¬k=0:=by omega
  have e1: ¬k=1:=by omega
  have e2: ¬k=2:=by omega
  have e3: ¬k=3:=by omega
  simp -implicitDefEqProofs [c47,h1,snm,e0,e1,e2,e3]
 ·by_cases h2:4<=k
  ·have e0: ¬k=0:=by omega
   have e1: ¬k=1:=by omega
   have e2: ¬k=2:=by omega
   have e3: ¬k=3:=by omega
   simp -implicitDefEqProofs [c47,h1,h2,snm,e0,e1,e2,e3]
  ·have:k=0\/k=1\/k=2\/k=3:=by omega
   rcases this with rfl|rfl|rfl|rfl<;>simp -implicitDefEqProofs [c47,hG,snm]
end
structure Fro (p:Nat) (O O':List Obj):Prop where
 len:O.length<=O'.length
 get: ∀i,i<O.length->i≠p->O'[i]? =O[i]?
theorem Fro.refl (p:Nat) (O:List Obj):Fro p O O:=⟨Nat.le_refl _,fun _ _ _=>rfl⟩
theorem Fro.trans {p:Nat} {O O1 O2:List Obj} (h:Fro p O O1) (k:Fro p O1 O2):Fro p O O2:=
 ⟨Nat.le_trans h.len k.len,fun i hi hp=>(k.get i (Nat.lt_of_lt_of_le hi h.len) hp).trans (h.get i hi hp)⟩
theorem Fro.app (p:Nat) (O X:List Obj):Fro p O (O++X):=⟨by simp,fun i hi _=>List.getElem?_append_left hi⟩
theorem Fro.set (p:Nat) (O:List Obj) (x:Obj):Fro p O (O.set p x):=⟨by simp,fun i hi hp=>List.getElem?_set_ne (by omega)⟩
theorem Fro.old {p:Nat} {O O':List Obj} (h:Fro p O O') {i:Nat} {x:Obj} (hi:O[i]? =some x) (hp:i≠p):O'[i]? =some x:=by
 rw[h.get i (List.getElem?_eq_some_iff.1 hi).1 hp];exact hi
structure mp (O:List Obj) (c p id tq:Nat) (tk:List Str):Prop where
 c:O[c]? =some (.cells [.ptr p 0])
 p:O[p]? =some (.cells [.ptr id 0,.map tq,.int .i64 0])
 tq:O[tq]? =some (.map (tkE tk))
theorem mp.app {O:List Obj} {c p id tq:Nat} {tk:List Str} (h:mp O c p id tq tk) (X:List Obj):mp (O++X) c p id tq tk:=
 ⟨dD h.c X,dD h.p X,dD h.tq X⟩
theorem mp.nec {O:List Obj} {c p id tq:Nat} {tk:List Str} (h:mp O c p id tq tk):c≠tq/\p≠tq:=by
 refine⟨fun e=>?_,fun e=>?_⟩
 ·have:=h.c;rw[e,h.tq]at this;simp at this
 ·have:=h.p;rw[e,h.tq]at this;simp at this
theorem mp.fro {O O':List Obj} {c p id tq:Nat} {tk tk':List Str} (h:mp O c p id tq tk) (k:Fro tq O O') (ht:O'[tq]? =some (.map (tkE tk'))):mp O' c p id tq tk':=
 ⟨k.old h.c h.nec.1,k.old h.p h.nec.2,ht⟩
def msz (a:Nat):Int:=((min a 1073741824:Nat):Int)
def knV (a:Nat×Nat):AV:=.agg [.int .i64 (msz a.1),.int .i64 (msz a.2)]
def knE (kn:Kn):List (AV×AV):=kn.map fun p=>(.str p.1,knV p.2)
structure xS (O:List Obj) (a b m:Nat) (kn:Kn):Prop where
 fa:O[a]? =some (.cells [.map m])
 fb:O[b]? =some (.cells [.fn 123 [] [.ptr a 0,.ptr b 0]])
 fm:O[m]? =some (.map (knE kn))
theorem xS.app {O:List Obj} {a b m:Nat} {kn:Kn} (h:xS O a b m kn) (X:List Obj):xS (O++X) a b m kn:=⟨dD h.fa X,dD h.fb X,dD h.fm X⟩
structure Ps where
 i:Nat
 e:Int
 o:Nat
def adv (s:Ps):Ps:=⟨s.i+1,s.e,s.o⟩
def wrg (s:Ps) (c:Int):Ps:=if s.e=0 then⟨s.i,c,s.o⟩else s
def ndZ:Nd:=.mk 0 [] 0 0 0 []
def gA:Str:=[116,114,117,101]
def gB:Str:=[102,97,108,115,101]
def gn:Str:=[115,105,122,101]
def go:Str:=[111,110,101]
def fH:Str:=[110,111,116]
def gc:Str:=[115,111,109,101]
def gf:Str:=[101,118,101,114,121]
def wL:Str:=[40]
def wR:Str:=[41]
def eu:Str:=[44]
def dK:Str:=[58]
def wIs:Str:=[105,115]
def fI:Str:=[109,111,100]
def jP:Str:=[97,110,100]
def wOr:Str:=[111,114]
def js:Str:=[105,109,112,108,105,101,115]
def jQ:Str:=[105,102,102]
def fJ:List Str:=[[61],[105,110],[115,117,98],[97,100,106],[111,110]]
section
variable (L:List Tk)
def tkA (i:Nat):Tk:=L.getD i ⟨0,[],0,0,0⟩
def isS (s:Ps) (w:Str):Bool:=decide (s.e=0)&&(decide ((tkA L s.i).k=3)||decide ((tkA L s.i).k=4))&&((tkA L s.i).tx==w)
def iU (s:Ps) (w:Str):Ps:=if isS L s w then adv s else s
def dX (s:Ps) (w:Str):Ps:=if isS L s w then adv s else wrg s 3
def dq (s:Ps):Str×Ps:=
 if(if(tkA L s.i).k=1 then s else wrg s 3).e=0 then((tkA L s.i).tx,adv s)else([],if(tkA L s.i).k=1 then s else wrg s 3)
def iC (s:Ps) (lo hi:Int):Ps:=if(tkA L s.i).k=2 then(if(tkA L s.i).v<lo\/hi<(tkA L s.i).v then wrg s 2 else s)else wrg s 3
def eP (s:Ps) (lo hi:Int):Int×Ps:=if(iC L s lo hi).e=0 then((tkA L s.i).v,adv s)else(0,iC L s lo hi)
def lB (s:Ps):List Int->Int×Ps
 |[]=>(0,wrg s 3)
 |k::ks=>if isS L s (snm k)then(k,adv s)else lB s ks
def dW (s:Ps):Int×Ps:=lB L s [0,1,2,3]
def gC (f:Str):Nat->List Str->Ps->Option (List Str×Ps)
 |0,_,_=>none
 |h+1,ns,s=>if s.e=0 then
   (if(tkA L s.i).k=1/\ns.length=17 then some (ns,wrg s 8)else
    if isS L (dq L s).2 eu then gC f h (ns++[(dq L s).1]) (adv (dq L s).2)else some (ns++[(dq L s).1],dX L (dq L s).2 wR))
  else some (ns,s)
def iE (f:Str) (h:Nat) (s:Ps):Option (Nd×Ps):=
 if isS L (adv s) wR then some (.mk 10 [f] 0 0 0 [],adv (adv s))else(gC L f h [f] (adv s)).map fun r=>(.mk 10 r.1 0 0 0 [],r.2)
def iV (a:Str) (s:Ps):Int->List Str->Nd×Ps
 |_,[]=>(ndZ,wrg s 3)
 |k,w::ws=>if isS L s w then(.mk k [a,(dq L (adv s)).1] 0 0 0 [],(dq L (adv s)).2)else iV a s (k+1) ws
def gU (h:Nat) (s:Ps):Option (Nd×Ps):=
 if isS L (dq L s).2 wL then iE L (dq L s).1 h (dq L s).2
 else if isS L (dq L s).2 wIs then some (.mk 7 [(dq L s).1] 0 (eP L (adv (dq L s).2) 0 7).1 0 [],(eP L (adv (dq L s).2) 0 7).2)
 else some (iV L (dq L s).1 (dq L s).2 2 fJ)
def jR (s:Ps):Nd×Ps:=
 let a:=dq L (adv s)
 let m:=eP L (dX L a.2 fI) 1 64
 let k:=eP L (dX L m.2 wIs) 0 (m.1 - 1)
 (.mk 8 [a.1] 0 k.1 m.1 [],k.2)
def jt (s:Ps):Nd×Ps:=(.mk 9 [(dq L (adv s)).1] 0 0 0 [],(dq L (adv s)).2)
def lvl (s:Ps) (f:Ps->Option (Nd×Ps)):Option (Nd×Ps):=
 if s.o=256 then some (ndZ,wrg s 16)else(f ⟨s.i+1,s.e,s.o+1⟩).map fun r=>(r.1,⟨r.2.i,r.2.e,r.2.o - 1⟩)
def chn:List Nd->Nd
 |[]=>ndZ
 |[n]=>n
 |n::l=>nd 14 [n,chn l]
inductive Kd where
 |opd|ands|ors|imp|fml
 |tAnd (n:Nd)|tOr (n:Nd)|tIff (n:Nd)|tImp (l:List Nd)
def pr':Nat->Kd->Ps->Option (Nd×Ps)
 |0,_,_=>none
 |h+1,.opd,s=>if((tkA L s.i).k=3\/(tkA L s.i).k=4)/\s.e=0 then
   (if(tkA L s.i).tx=gA then some (ndZ,adv s)
   else if(tkA L s.i).tx=gB then some (nd 1 [],adv s)
   else if(tkA L s.i).tx=gn then some (jR L s)
   else if(tkA L s.i).tx=go then some (jt L s)
   else if(tkA L s.i).tx=fH then lvl s fun s1=>(pr' h .opd s1).map fun r=>(nd 11 [r.1],r.2)
   else if(tkA L s.i).tx=gc then lvl s fun s1=>(pr' h .fml (dX L (dq L (dW L s1).2).2 dK)).map fun r=>(qn 16 (dq L (dW L s1).2).1 (dW L s1).1 r.1,r.2)
   else if(tkA L s.i).tx=gf then lvl s fun s1=>(pr' h .fml (dX L (dq L (dW L s1).2).2 dK)).map fun r=>(qn 17 (dq L (dW L s1).2).1 (dW L s1).1 r.1,r.2)
   else if(tkA L s.i).tx=wL then lvl s fun s1=>(pr' h .fml s1).map fun r=>(r.1,dX L r.2 wR)
   else gU L h s)
  else gU L h s
 |h+1,.ands,s=>(pr' h .opd s).bind fun r=>pr' h (.tAnd r.1) r.2
 |h+1,.tAnd n,s=>if isS L s jP then(pr' h .opd (adv s)).bind fun r=>pr' h (.tAnd (nd 12 [n,r.1])) r.2 else some (n,s)
 |h+1,.ors,s=>(pr' h .ands s).bind fun r=>pr' h (.tOr r.1) r.2
 |h+1,.tOr n,s=>if isS L s wOr then(pr' h .ands (adv s)).bind fun r=>pr' h (.tOr (nd 13 [n,r.1])) r.2 else some (n,s)
 |h+1,.imp,s=>(pr' h .ors s).bind fun r=>pr' h (.tImp [r.1]) r.2
 |h+1,.tImp l,s=>if isS L s js then(pr' h .ors (adv s)).bind fun r=>pr' h (.tImp (l++[r.1])) r.2 else some (chn l,s)
 |h+1,.fml,s=>(pr' h .imp s).bind fun r=>pr' h (.tIff r.1) r.2
 |h+1,.tIff n,s=>if isS L s jQ then(pr' h .imp (adv s)).bind fun r=>pr' h (.tIff (nd 15 [n,r.1])) r.2 else some (n,s)
end
structure Lok (L:List Tk):Prop where
 pos:0<L.length
 last: ∀i,i+1=L.length->(tkA L i).k=0
structure Stp (L:List Tk) (s s':Ps):Prop where
 o:s'.o=s.o
 le:s.i<=s'.i
 lt:s.i<L.length->s'.i<L.length
 er:s.e≠0->s'=s
section
variable {L:List Tk}
theorem Stp.refl (s:Ps):Stp L s s:=⟨rfl,Nat.le_refl _,id,fun _=>rfl⟩
theorem Stp.trans {s s1 s2:Ps} (h:Stp L s s1) (k:Stp L s1 s2):Stp L s s2:=
 ⟨k.o.trans h.o,Nat.le_trans h.le k.le,fun x=>k.lt (h.lt x),fun x=>by have e:=h.er x;subst e;exact k.er x⟩
theorem Stp.e0 {s s':Ps} (h:Stp L s s') (k:s'.e=0):s.e=0:=by
 apply Classical.byContradiction;intro hn;have:=h.er hn;subst this;exact hn k
theorem mq (s:Ps) (c:Int):Stp L s (wrg s c):=by
 unfold wrg;split
 ·exact⟨rfl,Nat.le_refl _,id,fun h=>absurd (by assumption) h⟩
 ·exact .refl s
theorem iG {s:Ps} {c:Int} (hc:c≠0):(wrg s c).e≠0:=by
 unfold wrg;split
 ·exact hc
 ·assumption
theorem rE (s:Ps) (c:Int):(wrg s c).i=s.i:=by unfold wrg;split<;>rfl
theorem mr (hL:Lok L) {i:Nat} (hi:i<L.length) (hk:(tkA L i).k≠0):i+1<L.length:=by
 apply Classical.byContradiction;intro hn;exact hk (hL.last i (by omega))
theorem uG (hL:Lok L) {s:Ps} (he:s.e=0) (hk:(tkA L s.i).k≠0):Stp L s (adv s):=
 ⟨rfl,by simp[adv],fun h=>mr hL h hk,fun h=>absurd he h⟩
theorem iH {s:Ps} {w:Str}:isS L s w=true↔s.e=0/\((tkA L s.i).k=3\/(tkA L s.i).k=4)/\(tkA L s.i).tx=w:=by
 unfold isS;simp[and_assoc]
theorem ju {s:Ps} {w:Str} (h:isS L s w=true):(tkA L s.i).k≠0:=by
 have:=(iH.1 h).2.1;omega
theorem eS (hL:Lok L) {s:Ps} {w:Str} (h:isS L s w=true):Stp L s (adv s):=uG hL (iH.1 h).1 (ju h)
theorem M8 {s:Ps} {w:Str} (h:s.e≠0):isS L s w=false:=by
 cases hh:isS L s w with
 |false=>rfl
 |true=>exact absurd (iH.1 hh).1 h
theorem gp (hL:Lok L) (s:Ps) (w:Str):Stp L s (dX L s w):=by
 unfold dX;split
 ·exact eS hL (by assumption)
 ·exact mq s 3
theorem fT (hL:Lok L) (s:Ps):Stp L s (dq L s).2:=by
 unfold dq;by_cases hk:(tkA L s.i).k=1
 ·simp only[hk,if_true];by_cases he:s.e=0
  ·simp only[he,if_true];exact uG hL he (by omega)
  ·simp only[he,if_false];exact .refl s
 ·simp only[hk,if_false,iG (s:=s) (c:=3) (by decide)];exact mq s 3
theorem M9 (s:Ps) (lo hi:Int):Stp L s (iC L s lo hi):=by
 unfold iC;split
 ·split
  ·exact mq s 2
  ·exact .refl s
 ·exact mq s 3
theorem Na {s:Ps} {lo hi:Int} (h:(iC L s lo hi).e=0):iC L s lo hi=s/\(tkA L s.i).k=2:=by
 unfold iC at h⊢;split at h
 ·split at h
  ·exact absurd h (iG (by decide))
  ·rename_i h1 h2
   rw[if_pos h1,if_neg h2];exact⟨rfl,h1⟩
 ·exact absurd h (iG (by decide))
theorem mt (hL:Lok L) (s:Ps) (lo hi:Int):Stp L s (eP L s lo hi).2:=by
 unfold eP;split
 ·rename_i h
  obtain⟨h1,h2⟩:=Na h;rw[h1]at h;exact uG hL h (by omega)
 ·exact M9 s lo hi
theorem mw (hL:Lok L) (s:Ps): ∀ks:List Int,Stp L s (lB L s ks).2
 |[]=>mq s 3
 |k::ks=>by
  unfold lB;split
  ·exact eS hL (by assumption)
  ·exact mw hL s ks
theorem Cw (hL:Lok L) (f:Str): ∀(h:Nat) (ns:List Str) (s:Ps) (r:List Str×Ps),gC L f h ns s=some r->Stp L s r.2
 |0,_,_,_,h=>by simp[gC]at h
 |h+1,ns,s,r,e=>by
  unfold gC at e;split at e
  ·split at e
   ·cases e;exact mq s 8
   ·split at e
    ·exact(fT hL s).trans ((eS hL (by assumption)).trans (Cw hL f h _ _ r e))
    ·cases e;exact(fT hL s).trans (gp hL _ _)
  ·cases e;exact .refl s
theorem Cx (hL:Lok L) (a:Str) (s:Ps): ∀(k:Int) (ws:List Str),Stp L s (iV L a s k ws).2
 |k,[]=>mq s 3
 |k,w::ws=>by
  unfold iV;split
  ·exact(eS hL (by assumption)).trans (fT hL _)
  ·exact Cx hL a s (k+1) ws
theorem Nb (hL:Lok L) {f:Str} {h:Nat} {s:Ps} {r:Nd×Ps} (hs:isS L s wL=true) (e:iE L f h s=some r):Stp L s r.2:=by
 unfold iE at e;split at e
 ·cases e;exact(eS hL hs).trans (eS hL (by assumption))
 ·simp only[Option.map_eq_some_iff]at e;obtain⟨q,hq,rfl⟩:=e;exact(eS hL hs).trans (Cw hL f h _ _ _ hq)
theorem Cy (hL:Lok L) {h:Nat} {s:Ps} {r:Nd×Ps} (e:gU L h s=some r):Stp L s r.2:=by
 unfold gU at e;split at e
 ·exact(fT hL s).trans (Nb hL (by assumption) e)
 ·split at e
  ·cases e;exact(fT hL s).trans ((eS hL (by assumption)).trans (mt hL _ _ _))
  ·cases e;exact(fT hL s).trans (Cx hL _ _ _ _)
theorem Nc (hL:Lok L) {s:Ps} (h:Stp L s (adv s)):Stp L s (jR L s).2:=
 h.trans ((fT hL _).trans ((gp hL _ _).trans ((mt hL _ _ _).trans ((gp hL _ _).trans (mt hL _ _ _)))))
theorem Nf (hL:Lok L) {s:Ps} (h:Stp L s (adv s)):Stp L s (jt L s).2:=h.trans (fT hL _)
theorem uH {s:Ps} {f:Ps->Option (Nd×Ps)} {r:Nd×Ps} (hL:Lok L) (he:s.e=0) (hk:(tkA L s.i).k≠0) (hf: ∀r,f ⟨s.i+1,s.e,s.o+1⟩=some r->Stp L ⟨s.i+1,s.e,s.o+1⟩ r.2) (e:lvl s f=some r):Stp L s r.2:=by
 unfold lvl at e;split at e
 ·cases e;exact mq s 16
 ·simp only[Option.map_eq_some_iff]at e;obtain⟨q,hq,rfl⟩:=e;have h:=hf q hq;refine⟨by have:=h.o;simp only at this⊢;omega,by have:=h.le;simp only at this⊢;omega,fun hi=>h.lt (mr hL hi hk),fun hn=>absurd he hn⟩
theorem gD (hL:Lok L): ∀(h:Nat) (k:Kd) (s:Ps) (r:Nd×Ps),pr' L h k s=some r->Stp L s r.2
 |0,_,_,_,e=>by simp[pr']at e
 |h+1,k,s,r,e=>by
  have ih:=gD hL h;have bnd: ∀{k1:Kd} {s1:Ps} {g:Nd->Kd},Stp L s s1->((pr' L h k1 s1).bind fun r=>pr' L h (g r.1) r.2)=some r->Stp L s r.2:=by
   intro k1 s1 g hs1 e;rw[Option.bind_eq_some_iff]at e;obtain⟨q,h1,h2⟩:=e;exact hs1.trans ((ih _ _ _ h1).trans (ih _ _ _ h2))
  cases k with
  |opd=>
   simp only[pr']at e;split at e
   ·rename_i hh
    have hk:(tkA L s.i).k≠0:=by omega
    have ha:=uG hL hh.2 hk;split at e
    ·cases e;exact ha
    ·split at e
     ·cases e;exact ha
     ·split at e
      ·cases e;exact Nc hL ha
      ·split at e
       ·cases e;exact Nf hL ha
       ·split at e
        ·refine uH hL hh.2 hk (fun r hr=>?_) e;simp only[Option.map_eq_some_iff]at hr;obtain⟨q,hq,rfl⟩:=hr;have h2:=ih _ _ q hq;exact h2
        ·split at e
         ·refine uH hL hh.2 hk (fun r hr=>?_) e;simp only[Option.map_eq_some_iff]at hr;obtain⟨q,hq,rfl⟩:=hr;have h2:=ih _ _ q hq;have h3:=(mw hL ⟨s.i+1,s.e,s.o+1⟩ [0,1,2,3]).trans ((fT hL _).trans ((gp hL _ dK).trans h2));exact h3
         ·split at e
          ·refine uH hL hh.2 hk (fun r hr=>?_) e;simp only[Option.map_eq_some_iff]at hr;obtain⟨q,hq,rfl⟩:=hr;have h2:=ih _ _ q hq;have h3:=(mw hL ⟨s.i+1,s.e,s.o+1⟩ [0,1,2,3]).trans ((fT hL _).trans ((gp hL _ dK).trans h2));exact h3
          ·split at e
           ·refine uH hL hh.2 hk (fun r hr=>?_) e;simp only[Option.map_eq_some_iff]at hr;obtain⟨q,hq,rfl⟩:=hr;have h2:=ih _ _ q hq;exact h2.trans (gp hL _ _)
           ·exact Cy hL e
   ·exact Cy hL e
  |ands=>exact bnd (.refl s) e
  |ors=>exact bnd (.refl s) e
  |imp=>
   simp only[pr']at e;exact bnd (g:=fun n=>.tImp [n]) (.refl s) e
  |fml=>exact bnd (.refl s) e
  |tAnd n=>
   simp only[pr']at e;split at e
   ·exact bnd (g:=fun m=>.tAnd (nd 12 [n,m])) (eS hL (by assumption)) e
   ·cases e;exact .refl s
  |tOr n=>
   simp only[pr']at e;split at e
   ·exact bnd (g:=fun m=>.tOr (nd 13 [n,m])) (eS hL (by assumption)) e
   ·cases e;exact .refl s
  |tIff n=>
   simp only[pr']at e;split at e
   ·exact bnd (g:=fun m=>.tIff (nd 15 [n,m])) (eS hL (by assumption)) e
   ·cases e;exact .refl s
  |tImp l=>
   simp only[pr']at e;split at e
   ·exact bnd (g:=fun m=>.tImp (l++[m])) (eS hL (by assumption)) e
   ·cases e;exact .refl s
theorem Cz (hL:Lok L) (f:Str): ∀(h:Nat) (ns:List Str) (s:Ps),s.i<L.length->L.length - s.i<h-> ∃r,gC L f h ns s=some r
 |0,_,_,_,h=>by omega
 |h+1,ns,s,hi,hh=>by
  unfold gC;split
  ·split
   ·exact⟨_,rfl⟩
   ·split
    ·rename_i hc
     have h1:=fT hL s;have h2:=eS hL hc;have h3:=h1.le;have h4:=h1.lt hi;exact Cz hL f h _ _ (h2.lt h4) (by simp only[adv];omega)
    ·exact⟨_,rfl⟩
  ·exact⟨_,rfl⟩
theorem Ng (hL:Lok L) {h:Nat} {s:Ps} (hi:s.i<L.length) (hh:L.length - s.i<h): ∃r,gU L h s=some r:=by
 have h1:=fT hL s;unfold gU;split
 ·rename_i hc
  have h2:=eS hL hc;unfold iE;split
  ·exact⟨_,rfl⟩
  ·obtain⟨q,hq⟩:=Cz hL (dq L s).1 h [(dq L s).1] (adv (dq L s).2) (h2.lt (h1.lt hi)) (by have:=h1.le;simp only[adv];omega);rw[hq];exact⟨_,rfl⟩
 ·split<;>exact⟨_,rfl⟩
def rnk:Kd->Nat
 | .opd=>1| .tAnd _=>1| .tOr _=>1| .tIff _=>1| .tImp _=>1
 | .ands=>2| .ors=>3| .imp=>4| .fml=>5
theorem CA (hL:Lok L): ∀(h:Nat) (k:Kd) (s:Ps),s.i<L.length->6*(L.length - s.i)+rnk k<=h-> ∃r,pr' L h k s=some r
 |0,k,s,hi,hh=>by cases k<;>simp[rnk]at hh
 |h+1,k,s,hi,hh=>by
  have ih:=CA hL h;have two: ∀{k1:Kd} {s1:Ps} {g:Nd->Kd},Stp L s s1->6*(L.length - s1.i)+rnk k1<=h->(∀n,rnk (g n)=1)->6*(L.length - s1.i)+1<=h-> ∃r,((pr' L h k1 s1).bind fun r=>pr' L h (g r.1) r.2)=some r:=by
   intro k1 s1 g h1 h2 h3 h4;obtain⟨q,hq⟩:=ih k1 s1 (h1.lt hi) h2;have h5:=gD hL _ _ _ _ hq;have h6:=h5.le;obtain⟨r,hr⟩:=ih (g q.1) q.2 (h5.lt (h1.lt hi)) (by rw[h3];omega);exact⟨r,by rw[hq];exact hr⟩
  have adv1: ∀{w:Str},isS L s w=true->6*(L.length - (adv s).i)+5<6*(L.length - s.i):=by
   intro w hw;have:=(eS hL hw).lt hi;simp only[adv]at this⊢;omega
  cases k with
  |opd=>
   simp only[rnk]at hh;simp only[pr'];have ha:=Ng (h:=h) hL hi (by omega);split
   ·rename_i hc
    have hk:(tkA L s.i).k≠0:=by omega
    have hlt:=mr hL hi hk;have lv: ∀{f:Ps->Option (Nd×Ps)},(∃r,f ⟨s.i+1,s.e,s.o+1⟩=some r)-> ∃r,lvl s f=some r:=by
     intro f hf;unfold lvl;split
     ·exact⟨_,rfl⟩
     ·obtain⟨r,hr⟩:=hf;rw[hr];exact⟨_,rfl⟩
    have bn: ∀{op:Int},∃r,lvl s (fun s1=>(pr' L h .fml (dX L (dq L (dW L s1).2).2 dK)).map fun r=>(qn op (dq L (dW L s1).2).1 (dW L s1).1 r.1,r.2))=some r:=by
     intro op;refine lv ?_;have h1:=(mw hL ⟨s.i+1,s.e,s.o+1⟩ [0,1,2,3]).trans ((fT hL _).trans (gp hL _ dK));obtain⟨q,hq⟩:=ih .fml (dX L (dq L (dW L ⟨s.i+1,s.e,s.o+1⟩).2).2 dK) (h1.lt hlt) (by
      have:=h1.le;simp only[rnk]at this⊢;unfold dW;omega)
     exact⟨_,by simp only[hq];rfl⟩
    split
    ·exact⟨_,rfl⟩
    ·split
     ·exact⟨_,rfl⟩
     ·split
      ·exact⟨_,rfl⟩
      ·split
       ·exact⟨_,rfl⟩
       ·split
        ·refine lv ?_;obtain⟨q,hq⟩:=ih .opd ⟨s.i+1,s.e,s.o+1⟩ hlt (by simp only[rnk];omega);exact⟨_,by simp only[hq];rfl⟩
        ·split
         ·exact bn
         ·split
          ·exact bn
          ·split
           ·refine lv ?_;obtain⟨q,hq⟩:=ih .fml ⟨s.i+1,s.e,s.o+1⟩ hlt (by simp only[rnk];omega);exact⟨_,by simp only[hq];rfl⟩
           ·exact ha
   ·exact ha
  |ands=>simp only[rnk]at hh;exact two (.refl s) (by simp only[rnk];omega) (fun _=>rfl) (by omega)
  |ors=>simp only[rnk]at hh;exact two (.refl s) (by simp only[rnk];omega) (fun _=>rfl) (by omega)
  |imp=>simp only[rnk]at hh;exact two (g:=fun n=>.tImp [n]) (.refl s) (by simp only[rnk];omega) (fun _=>rfl) (by omega)
  |fml=>simp only[rnk]at hh;exact two (.refl s) (by simp only[rnk];omega) (fun _=>rfl) (by omega)
  |tAnd n=>
   simp only[rnk]at hh;simp only[pr'];split
   ·rename_i hw
    have:=adv1 hw;exact two (g:=fun m=>.tAnd (nd 12 [n,m])) (eS hL hw) (by simp only[rnk];omega) (fun _=>rfl) (by omega)
   ·exact⟨_,rfl⟩
  |tOr n=>
   simp only[rnk]at hh;simp only[pr'];split
   ·rename_i hw
    have:=adv1 hw;exact two (g:=fun m=>.tOr (nd 13 [n,m])) (eS hL hw) (by simp only[rnk];omega) (fun _=>rfl) (by omega)
   ·exact⟨_,rfl⟩
  |tIff n=>
   simp only[rnk]at hh;simp only[pr'];split
   ·rename_i hw
    have:=adv1 hw;exact two (g:=fun m=>.tIff (nd 15 [n,m])) (eS hL hw) (by simp only[rnk];omega) (fun _=>rfl) (by omega)
   ·exact⟨_,rfl⟩
  |tImp l=>
   simp only[rnk]at hh;simp only[pr'];split
   ·rename_i hw
    have:=adv1 hw;exact two (g:=fun m=>.tImp (l++[m])) (eS hL hw) (by simp only[rnk];omega) (fun _=>rfl) (by omega)
   ·exact⟨_,rfl⟩
def Wt (L:List Tk):Nat->Nat
 |0=>0
 |i+1=>Wt L i+(tkA L i).tx.length+4
theorem Nh {i j:Nat} (h:i<=j):Wt L i<=Wt L j:=by
 induction j with
 |zero=>
  have:i=0:=by omega
  subst this;exact Nat.le_refl _
 |succ j ih=>
  by_cases hj:i=j+1
  ·subst hj;exact Nat.le_refl _
  ·have:=ih (by omega);simp only[Wt];omega
theorem pY (s:Ps):(dq L s).1.length+Wt L s.i<=Wt L (dq L s).2.i:=by
 unfold dq;by_cases hk:(tkA L s.i).k=1
 ·simp only[hk,if_true];split
  ·show(tkA L s.i).tx.length+Wt L s.i<=Wt L (s.i+1);simp only[Wt];omega
  ·simp
 ·simp only[hk,if_false];rw[if_neg (iG (by decide))];simp[rE]
theorem jS (s:Ps):Wt L s.i+4<=Wt L (adv s).i:=by
 show Wt L s.i+4<=Wt L (s.i+1);simp only[Wt];omega
theorem lC {s s':Ps} (h:Stp L s s'):Wt L s.i<=Wt L s'.i:=Nh h.le
theorem CB (a b:List Str):bkS (a++b)=bkS a+bkS b:=by
 induction a with
 |nil=>simp[bkS]
 |cons x a ih=>simp[bkS,ih];omega
theorem Ni (a b:List Nd):bkL (a++b)=bkL a+bkL b:=by
 induction a with
 |nil=>simp[bkL]
 |cons x a ih=>simp[bkL,ih];omega
theorem CC: ∀{l:List Nd},l≠[]->bk (chn l)+1<=bkL l+l.length
 |[],h=>absurd rfl h
 |[n],_=>by simp[chn,bkL]
 |n::m::l,_=>by
  have:=CC (l:=m::l) (by simp);simp only[chn,nd,bk,bkS,bkL,List.length_cons]at this⊢;omega
theorem CD (hL:Lok L) (f:Str): ∀(h:Nat) (ns:List Str) (s:Ps) (r:List Str×Ps),gC L f h ns s=some r->bkS r.1+Wt L s.i<=Wt L r.2.i+bkS ns+1
 |0,ns,s,r,e=>by simp[gC]at e
 |h+1,ns,s,r,e=>by
  simp only[gC]at e;have hn:=pY (L:=L) s;split at e
  ·split at e
   ·cases e;simp only[rE];omega
   ·split at e
    ·have:=CD hL f h _ _ r e;have ha:=jS (L:=L) (dq L s).2;rw[CB]at this;simp only[bkS]at this;omega
    ·cases e;have:=lC (gp hL (dq L s).2 wR);simp only[CB,bkS];omega
  ·cases e;simp only[];omega
theorem CE (hL:Lok L) (a:Str) (s:Ps): ∀(k:Int) (ws:List Str),bk (iV L a s k ws).1+Wt L s.i<=Wt L (iV L a s k ws).2.i+1+a.length
 |k,[]=>by simp[iV,ndZ,bk,bkS,bkL,rE];omega
 |k,w::ws=>by
  unfold iV;split
  ·have h1:=jS (L:=L) s;have h2:=pY (L:=L) (adv s);simp only[bk,bkS,bkL];omega
  ·exact CE hL a s (k+1) ws
theorem CF (hL:Lok L) {h:Nat} {s:Ps} {r:Nd×Ps} (e:gU L h s=some r):bk r.1+Wt L s.i<=Wt L r.2.i+1:=by
 have hn:=pY (L:=L) s;unfold gU at e;split at e
 ·have ha:=jS (L:=L) (dq L s).2;unfold iE at e;split at e
  ·cases e;have hb:=jS (L:=L) (adv (dq L s).2);simp only[bk,bkS,bkL];omega
  ·simp only[Option.map_eq_some_iff]at e;obtain⟨q,hq,rfl⟩:=e;have:=CD hL _ _ _ _ _ hq;simp only[bk,bkS,bkL]at this⊢;omega
 ·split at e
  ·cases e;have ha:=jS (L:=L) (dq L s).2;have hb:=lC (mt hL (adv (dq L s).2) 0 7);simp only[bk,bkS,bkL];omega
  ·cases e;have:=CE hL (dq L s).1 (dq L s).2 2 fJ;omega
theorem uI {s:Ps} {f:Ps->Option (Nd×Ps)} {r:Nd×Ps} (hf: ∀q,f ⟨s.i+1,s.e,s.o+1⟩=some q->bk q.1+Wt L (s.i+1)<=Wt L q.2.i+4) (e:lvl s f=some r):bk r.1+Wt L s.i<=Wt L r.2.i+1:=by
 unfold lvl at e;split at e
 ·cases e;simp only[rE,ndZ,bk,bkS,bkL];omega
 ·simp only[Option.map_eq_some_iff]at e;obtain⟨q,hq,rfl⟩:=e;have h1:=hf q hq;have h2:=jS (L:=L) s;have h3:(adv s).i=s.i+1:=rfl;rw[h3]at h2;simp only[]at h1⊢;omega
def crd:Kd->Nat
 | .tAnd n=>bk n
 | .tOr n=>bk n
 | .tIff n=>bk n
 | .tImp l=>bkL l+l.length - 1
 |_=>1
theorem xT (hL:Lok L): ∀(h:Nat) (k:Kd) (s:Ps) (r:Nd×Ps),(∀l,k=.tImp l->l≠[])->pr' L h k s=some r->bk r.1+Wt L s.i<=Wt L r.2.i+crd k
 |0,_,_,_,_,e=>by simp[pr']at e
 |h+1,k,s,r,hl,e=>by
  have ih:=fun(k:Kd) (s:Ps) (r:Nd×Ps) (hk: ∀l,k≠ .tImp l)=>xT hL h k s r (fun l hh=>absurd hh (hk l));have ihI:=fun(l:List Nd) (s:Ps) (r:Nd×Ps) (hl:l≠[])=>xT hL h (.tImp l) s r (fun l' hh=>by cases hh;exact hl);have qnt: ∀(op:Int) (q:Nd×Ps),(pr' L h .fml (dX L (dq L (dW L ⟨s.i+1,s.e,s.o+1⟩).2).2 dK)).map (fun r=>(qn op (dq L (dW L ⟨s.i+1,s.e,s.o+1⟩).2).1 (dW L ⟨s.i+1,s.e,s.o+1⟩).1 r.1,r.2))=some q->bk q.1+Wt L (s.i+1)<=Wt L q.2.i+4:=by
   intro op q hq;simp only[Option.map_eq_some_iff]at hq;obtain⟨q',h1,rfl⟩:=hq;have h2:=ih _ _ _ (by simp) h1;have h3:=lC (mw hL ⟨s.i+1,s.e,s.o+1⟩ [0,1,2,3]);have h4:=pY (L:=L) (dW L ⟨s.i+1,s.e,s.o+1⟩).2;have h5:=lC (gp hL (dq L (dW L ⟨s.i+1,s.e,s.o+1⟩).2).2 dK);have h6:Wt L (s.i+1)<=Wt L (dW L ⟨s.i+1,s.e,s.o+1⟩).2.i:=h3;simp only[crd,qn,bk,bkS,bkL]at h2⊢;omega
  cases k with
  |opd=>
   simp only[pr']at e;simp only[crd];have hadv:=jS (L:=L) s;split at e
   ·split at e
    ·cases e;simp only[ndZ,bk,bkS,bkL];omega
    ·split at e
     ·cases e;simp only[nd,bk,bkS,bkL];omega
     ·split at e
      ·cases e;have h1:=pY (L:=L) (adv s);have h2:=lC (gp hL (dq L (adv s)).2 fI);have h3:=lC (mt hL (dX L (dq L (adv s)).2 fI) 1 64);have h4:=lC (gp hL (eP L (dX L (dq L (adv s)).2 fI) 1 64).2 wIs);have h5:=lC (mt hL (dX L (eP L (dX L (dq L (adv s)).2 fI) 1 64).2 wIs) 0 ((eP L (dX L (dq L (adv s)).2 fI) 1 64).1 - 1));simp only[jR,bk,bkS,bkL];omega
      ·split at e
       ·cases e;have h1:=pY (L:=L) (adv s);simp only[jt,bk,bkS,bkL];omega
       ·split at e
        ·refine uI (fun q hq=>?_) e;simp only[Option.map_eq_some_iff]at hq;obtain⟨q',h1,rfl⟩:=hq;have h2:=ih _ _ _ (by simp) h1;simp only[crd,nd,bk,bkS,bkL]at h2⊢;omega
        ·split at e
         ·exact uI (fun q hq=>qnt 16 q hq) e
         ·split at e
          ·exact uI (fun q hq=>qnt 17 q hq) e
          ·split at e
           ·refine uI (fun q hq=>?_) e;simp only[Option.map_eq_some_iff]at hq;obtain⟨q',h1,rfl⟩:=hq;have h2:=ih _ _ _ (by simp) h1;have h3:=lC (gp hL q'.2 wR);simp only[crd]at h2⊢;omega
           ·exact CF hL e
   ·exact CF hL e
  |ands=>
   simp only[pr',Option.bind_eq_some_iff]at e;obtain⟨q,e1,e2⟩:=e;have h1:=ih _ _ _ (by simp) e1;have h2:=ih _ _ _ (by simp) e2;simp only[crd]at h1 h2⊢;omega
  |ors=>
   simp only[pr',Option.bind_eq_some_iff]at e;obtain⟨q,e1,e2⟩:=e;have h1:=ih _ _ _ (by simp) e1;have h2:=ih _ _ _ (by simp) e2;simp only[crd]at h1 h2⊢;omega
  |fml=>
   simp only[pr',Option.bind_eq_some_iff]at e;obtain⟨q,e1,e2⟩:=e;have h1:=ih _ _ _ (by simp) e1;have h2:=ih _ _ _ (by simp) e2;simp only[crd]at h1 h2⊢;omega
  |imp=>
   simp only[pr',Option.bind_eq_some_iff]at e;obtain⟨q,e1,e2⟩:=e;have h1:=ih _ _ _ (by simp) e1;have h2:=ihI _ _ _ (by simp) e2;simp only[crd,bkL,List.length_cons,List.length_nil]at h1 h2⊢;omega
  |tAnd n=>
   simp only[pr']at e;split at e
   ·simp only[Option.bind_eq_some_iff]at e;obtain⟨q,e1,e2⟩:=e;have h0:=jS (L:=L) s;have h1:=ih _ _ _ (by simp) e1;have h2:=ih _ _ _ (by simp) e2;simp only[crd,nd,bk,bkS,bkL]at h1 h2⊢;omega
   ·cases e;simp only[crd];omega
  |tOr n=>
   simp only[pr']at e;split at e
   ·simp only[Option.bind_eq_some_iff]at e;obtain⟨q,e1,e2⟩:=e;have h0:=jS (L:=L) s;have h1:=ih _ _ _ (by simp) e1;have h2:=ih _ _ _ (by simp) e2;simp only[crd,nd,bk,bkS,bkL]at h1 h2⊢;omega
   ·cases e;simp only[crd];omega
  |tIff n=>
   simp only[pr']at e;split at e
   ·simp only[Option.bind_eq_some_iff]at e;obtain⟨q,e1,e2⟩:=e;have h0:=jS (L:=L) s;have h1:=ih _ _ _ (by simp) e1;have h2:=ih _ _ _ (by simp) e2;simp only[crd,nd,bk,bkS,bkL]at h1 h2⊢;omega
   ·cases e;simp only[crd];omega
  |tImp l=>
   have hne:=hl l rfl;have hpos:0<l.length:=List.length_pos_iff.2 hne;simp only[pr']at e;split at e
   ·simp only[Option.bind_eq_some_iff]at e;obtain⟨q,e1,e2⟩:=e;have h0:=jS (L:=L) s;have h1:=ih _ _ _ (by simp) e1;have h2:=ihI _ _ _ (by simp) e2;simp only[crd,Ni,bkL,List.length_append,List.length_cons,List.length_nil]at h1 h2⊢;omega
   ·cases e;have:=CC hne;simp only[crd];omega
end
def rdc (sp:Sp) (L:List Tk) (s:Ps):List AV:=[.slc sp (L.map tkv),.int .i64 (s.i:Nat),.int .i64 s.e,.int .i64 (s.o:Nat)]
def Rd (O:List Obj) (p:Nat) (sp:Sp) (L:List Tk) (s:Ps):Prop:=O[p]? =some (.cells (rdc sp L s))
theorem Rd.app {O:List Obj} {p:Nat} {sp:Sp} {L:List Tk} {s:Ps} (h:Rd O p sp L s) (X:List Obj):Rd (O++X) p sp L s:=dD h X
theorem Rd.put {O:List Obj} {p:Nat} {sp:Sp} {L:List Tk} {s:Ps} (h:Rd O p sp L s) (s':Ps):Rd (O.set p (.cells (rdc sp L s'))) p sp L s':=List.getElem?_set_self (List.getElem?_eq_some_iff.1 h).1
def RR (r:Option (AV×Mem)) (v:AV) (p:Nat) (sp:Sp) (L:List Tk) (s':Ps) (O:List Obj) (R:List Arr):Prop:= ∃O',r=some (v,⟨O',R⟩)/\Fro p O O'/\Rd O' p sp L s'
theorem gq {L:List Tk} {i:Nat} (h:i<L.length):L[i]? =some (tkA L i):=by
 unfold tkA;rw[List.getD_eq_getElem?_getD,List.getElem?_eq_getElem h];rfl
section
variable {G:Gls} {cl:a7} {yl:a7} {N:Nat}
variable {O:List Obj} {R:List Arr} {p:Nat} {sp:Sp} {L:List Tk} {s:Ps}
theorem Nj (h:Rd O p sp L s) (hi:s.i<L.length): ∃X,dr G false cl yl N tj [.ptr p 0] ⟨O,R⟩=some (tkv (tkA L s.i),⟨O++X,R⟩):=by
 have hx:=gq hi;have h':=fun X=>dD h X;have hp:p<O.length:=(List.getElem?_eq_some_iff.1 h).1;unfold rdc at h';generalize tkA L s.i=t at*;apply Exists.intro;simp -implicitDefEqProofs [tj,h',hx,tkv,tkC];rfl
theorem Nk (h:Rd O p sp L s) (c:Int):RR (dr G false cl yl N qT [.ptr p 0,.int .i64 c] ⟨O,R⟩) (.tup []) p sp L (wrg s c) O R:=by
 have h':=h;unfold Rd rdc at h';unfold wrg;by_cases he:s.e=0
 ·rw[if_pos he];refine⟨O.set p (.cells (rdc sp L ⟨s.i,c,s.o⟩)),?_,.set _ _ _,h.put _⟩;simp -implicitDefEqProofs [qT,h',he,fd,rdc]
 ·rw[if_neg he];have he':(s.e==0)=false:=by simp[he]
  refine⟨O,?_,.refl _ _,h⟩;simp -implicitDefEqProofs [qT,h',he,he',fd,rdc]
theorem Nl (h:Rd O p sp L s) (w:Str) (h132: ∃X,cl 132 [.ptr p 0] ⟨O,R⟩=some (tkv (tkA L s.i),⟨O++X,R⟩)):
  Gr (dr G false cl yl N nC [.ptr p 0,.str w] ⟨O,R⟩) (.bool (isS L s w)) O R:=by
 obtain⟨X,k⟩:=h132;have h':=fun X=>dD h X;unfold rdc at h';unfold isS;generalize tkA L s.i=t at*;unfold tkv tkC at k;unfold Gr;by_cases he:s.e=0
 ·by_cases h3:t.k=3
  ·have h3':(t.k==3)=true:=by simp[h3]
   apply Exists.intro;simp -implicitDefEqProofs [nC,k,h',he,h3,h3',dB];rfl
  ·have h3':(t.k==3)=false:=by simp[h3]
   by_cases h4:t.k=4
   ·apply Exists.intro;simp -implicitDefEqProofs [nC,k,h',he,h4,dB];rfl
   ·have h4':(t.k==4)=false:=by simp[h4]
    apply Exists.intro;simp -implicitDefEqProofs [nC,k,h',he,h3,h3',h4,h4',dB];rfl
 ·have he':(s.e==0)=false:=by simp[he]
  apply Exists.intro;simp -implicitDefEqProofs [nC,k,h',he,he',dB];rfl
theorem Nm (h:Rd O p sp L s) (hi:s.i<L.length) (hb:L.length<big) (w:Str) (h191:Gr (cl 191 [.ptr p 0,.str w] ⟨O,R⟩) (.bool (isS L s w)) O R):
  RR (dr G false cl yl N qU [.ptr p 0,.str w] ⟨O,R⟩) (.bool (isS L s w)) p sp L (iU L s w) O R:=by
 obtain⟨X,k⟩:=h191;have h':=dD h X;have hlt:p<(O++X).length:=(List.getElem?_eq_some_iff.1 h').1;unfold big at hb;have w1:dj .i64 ((s.i:Int)+1)=((s.i+1:Nat):Int):=dF (by omega);unfold iU;unfold rdc at h';cases hw:isS L s w with
 |true=>
  rw[hw]at k;refine⟨(O++X).set p (.cells (rdc sp L (adv s))),?_,(Fro.app _ _ _).trans (.set _ _ _),Rd.put (s:=s) (h.app X) _⟩;simp -implicitDefEqProofs [qU,k,h',w1,rdc,adv]
 |false=>
  rw[hw]at k;refine⟨O++X,?_,.app _ _ _,h.app X⟩;simp -implicitDefEqProofs [qU,k,h',w1,rdc,adv]
theorem Nn (h:Rd O p sp L s) (w:Str) (h134:RR (cl 134 [.ptr p 0,.str w] ⟨O,R⟩) (.bool (isS L s w)) p sp L (iU L s w) O R)
  (h133: ∀O' s' c,Rd O' p sp L s'->RR (cl 133 [.ptr p 0,.int .i64 c] ⟨O',R⟩) (.tup []) p sp L (wrg s' c) O' R):
  RR (dr G false cl yl N qW [.ptr p 0,.str w] ⟨O,R⟩) (.tup []) p sp L (dX L s w) O R:=by
 obtain⟨O1,k1,f1,r1⟩:=h134;unfold dX;cases hw:isS L s w with
 |true=>
  rw[hw]at k1;unfold iU at r1;rw[hw]at r1;refine⟨O1,?_,f1,r1⟩;simp -implicitDefEqProofs [qW,k1,fd]
 |false=>
  rw[hw]at k1;unfold iU at r1;rw[hw]at r1;obtain⟨O2,k2,f2,r2⟩:=h133 O1 s 3 r1;refine⟨O2,?_,f1.trans f2,r2⟩;simp -implicitDefEqProofs [qW,k1,k2,fd]
theorem No (h:Rd O p sp L s) (hi:s.i<L.length) (hb:L.length<big) (h132: ∃X,cl 132 [.ptr p 0] ⟨O,R⟩=some (tkv (tkA L s.i),⟨O++X,R⟩))
  (h133: ∀O' s' c,Rd O' p sp L s'->RR (cl 133 [.ptr p 0,.int .i64 c] ⟨O',R⟩) (.tup []) p sp L (wrg s' c) O' R):
  RR (dr G false cl yl N pk [.ptr p 0] ⟨O,R⟩) (.str (dq L s).1) p sp L (dq L s).2 O R:=by
 obtain⟨X,k⟩:=h132;have hp:p<O.length:=(List.getElem?_eq_some_iff.1 h).1;unfold big at hb;have w1:dj .i64 ((s.i:Int)+1)=((s.i+1:Nat):Int):=dF (by omega);unfold dq;generalize tkA L s.i=t at*;have hT:Rd (O++(X++[.cells (tkC t)])) p sp L s:=h.app _;have hTt:(O++(X++[.cells (tkC t)]))[O.length+X.length]? =some (.cells (tkC t)):=by
  rw[<-List.append_assoc];have:=Bc (O++X) [Obj.cells (tkC t)];rw[List.length_append]at this;rw[this];rfl
 obtain⟨O1,hO1⟩: ∃O1,O++(X++[.cells (tkC t)])=O1:=⟨_,rfl⟩
 rw[hO1]at hT hTt;have f0:Fro p O O1:=by rw[<-hO1];exact .app _ _ _
 unfold tkC at hO1 hTt;unfold tkv tkC at k;by_cases hk:t.k=1
 ·have hT':=hT;have hk':(t.k !=1)=false:=by simp[hk]
  simp only[hk,if_true];unfold Rd rdc at hT';by_cases he:s.e=0
  ·simp only[he,if_true];have hne:p≠O.length+X.length:=by omega
   have g2: ∀x,(O1.set p x)[O.length+X.length]? =some (.cells [.int .i64 t.k,.str t.tx,.int .i64 t.v,.int .i64 t.ln,.int .i64 t.col]):=fun x=>by rw[List.getElem?_set_ne hne];exact hTt
   refine⟨O1.set p (.cells (rdc sp L (adv s))),?_,f0.trans (.set _ _ _),hT.put _⟩;rw[hk]at hO1 hTt g2 k;simp -implicitDefEqProofs [pk,k,hO1,hTt,hT',he,w1,g2,rdc,adv]
  ·have he':(s.e !=0)=true:=by simp[he]
   simp only[he,if_false];refine⟨O1,?_,f0,hT⟩;rw[hk]at hO1 hTt k;simp -implicitDefEqProofs [pk,k,hO1,hTt,hT',he,he']
 ·have hk':(t.k !=1)=true:=by simp[hk]
  simp only[hk,if_false];have hwn: ¬(wrg s 3).e=0:=iG (by decide);simp only[hwn,if_false];obtain⟨O2,k2,f2,r2⟩:=h133 O1 s 3 hT;have r2':=r2;unfold Rd rdc at r2';have he':((wrg s 3).e !=0)=true:=by simp[hwn]
  refine⟨O2,?_,f0.trans f2,r2⟩;simp -implicitDefEqProofs [pk,k,hO1,hTt,hk,hk',k2,r2',hwn,he']
end
abbrev my (cl:a7) (p:Nat) (sp:Sp) (L:List Tk):Prop:= ∀O R s' c,Rd O p sp L s'->RR (cl 133 [.ptr p 0,.int .i64 c] ⟨O,R⟩) (.tup []) p sp L (wrg s' c) O R
abbrev jU (cl:a7) (p:Nat) (sp:Sp) (L:List Tk):Prop:= ∀O R s' w,Rd O p sp L s'->s'.i<L.length->RR (cl 134 [.ptr p 0,.str w] ⟨O,R⟩) (.bool (isS L s' w)) p sp L (iU L s' w) O R
theorem xU (L:List Tk) (s:Ps): ∀ks:List Int,lB L s ks=match ks.findSome? (fun k=>if isS L s (snm k)then some k else none)with
  |none=>(0,wrg s 3)
  |some k=>(k,adv s)
 |[]=>rfl
 |k::ks=>by
  simp only[lB,List.findSome?_cons];cases isS L s (snm k)with
  |true=>rfl
  |false=>simpa using xU L s ks
section
variable {G:Gls} {cl:a7} {yl:a7} {N:Nat}
variable {O:List Obj} {R:List Arr} {p:Nat} {sp:Sp} {L:List Tk} {s:Ps}
theorem Np (h:Rd O p sp L s) (hi:s.i<L.length) (hb:L.length<big) (lo hi':Int) (h132: ∃X,cl 132 [.ptr p 0] ⟨O,R⟩=some (tkv (tkA L s.i),⟨O++X,R⟩)) (h133:my cl p sp L):
  RR (dr G false cl yl N ma [.ptr p 0,.int .i64 lo,.int .i64 hi'] ⟨O,R⟩) (.int .i64 (eP L s lo hi').1) p sp L (eP L s lo hi').2 O R:=by
 obtain⟨X,k⟩:=h132;have hp:p<O.length:=(List.getElem?_eq_some_iff.1 h).1;unfold big at hb;have w1:dj .i64 ((s.i:Int)+1)=((s.i+1:Nat):Int):=dF (by omega);unfold eP iC;generalize tkA L s.i=t at*;have hT:Rd (O++(X++[.cells (tkC t)])) p sp L s:=h.app _;have hTt:(O++(X++[.cells (tkC t)]))[O.length+X.length]? =some (.cells (tkC t)):=by
  rw[<-List.append_assoc];have:=Bc (O++X) [Obj.cells (tkC t)];rw[List.length_append]at this;rw[this];rfl
 obtain⟨O1,hO1⟩: ∃O1,O++(X++[.cells (tkC t)])=O1:=⟨_,rfl⟩
 rw[hO1]at hT hTt;have f0:Fro p O O1:=by rw[<-hO1];exact .app _ _ _
 have hne:p≠O.length+X.length:=by omega
 unfold tkC at hO1 hTt;unfold tkv tkC at k;by_cases hk:t.k=2
 ·have hk':(t.k !=2)=false:=by simp[hk]
  simp only[hk,if_true];rw[hk]at hO1 hTt k;by_cases hr:t.v<lo\/hi'<t.v
  ·obtain⟨O2,k2,f2,r2⟩:=h133 O1 R s 2 hT;have r2':=r2;unfold Rd rdc at r2';have hwn: ¬(wrg s 2).e=0:=iG (by decide);have he':((wrg s 2).e !=0)=true:=by simp[hwn]
   simp only[hr,if_true,hwn,if_false];refine⟨O2,?_,f0.trans f2,r2⟩;by_cases h1:t.v<lo
   ·simp -implicitDefEqProofs [ma,k,hO1,hTt,h1,k2,r2',hwn,he']
   ·have h2:hi'<t.v:=by omega
    simp -implicitDefEqProofs [ma,k,hO1,hTt,h1,h2,k2,r2',hwn,he']
  ·have h1: ¬t.v<lo:=fun h=>hr (.inl h);have h2: ¬hi'<t.v:=fun h=>hr (.inr h);simp only[hr,if_false];have hT':=hT;unfold Rd rdc at hT';by_cases he:s.e=0
   ·simp only[he,if_true];have g2: ∀x,(O1.set p x)[O.length+X.length]? =some (.cells [.int .i64 2,.str t.tx,.int .i64 t.v,.int .i64 t.ln,.int .i64 t.col]):=fun x=>by rw[List.getElem?_set_ne hne];exact hTt
    refine⟨O1.set p (.cells (rdc sp L (adv s))),?_,f0.trans (.set _ _ _),hT.put _⟩;simp -implicitDefEqProofs [ma,k,hO1,hTt,h1,h2,hT',he,w1,g2,rdc,adv]
   ·have he':(s.e !=0)=true:=by simp[he]
    simp only[he,if_false];refine⟨O1,?_,f0,hT⟩;simp -implicitDefEqProofs [ma,k,hO1,hTt,h1,h2,hT',he,he']
 ·have hk':(t.k !=2)=true:=by simp[hk]
  simp only[hk,if_false];obtain⟨O2,k2,f2,r2⟩:=h133 O1 R s 3 hT;have r2':=r2;unfold Rd rdc at r2';have hwn: ¬(wrg s 3).e=0:=iG (by decide);have he':((wrg s 3).e !=0)=true:=by simp[hwn]
  simp only[hwn,if_false];refine⟨O2,?_,f0.trans f2,r2⟩;simp -implicitDefEqProofs [ma,k,hO1,hTt,hk,hk',k2,r2',hwn,he']
end
section
variable {t:Nat} {cl:a7} {yl:a7} {N:Nat}
variable {O:List Obj} {R:List Arr} {p:Nat} {sp:Sp} {L:List Tk} {s:Ps}
abbrev xV:AV:=.agg [.str [118,101,114,116,101,120],.str [101,100,103,101],.str [115,101,116],.str [101,100,103,101,115]]
theorem Nq (h:Rd O p sp L s) (hi:s.i<L.length) (h134:jU cl p sp L) (hN:5<N):
  ∃e s',dh false (a8 (GG t) false cl yl N pj) ⟨[0,5,6],[(6,none)],true⟩ O.length R.length N ⟨[(0,.ptr p 0),(5,xV),(6,.int .i64 0)],⟨O,R⟩,[]⟩=some (e,s')/\e≠ .normal/\
   (s'.mks=[]/\match([0,1,2,3]:List Int).findSome? (fun k=>if isS L s (snm k)then some k else none)with
    |none=>e=.exit 0/\look 0 s'.ts=.ptr p 0/\ ∃O1,s'.m=⟨O1,R⟩/\Fro p O O1/\Rd O1 p sp L s
    |some k=>e=.ret/\look 2 s'.ts=.int .i64 k/\ ∃O1,s'.m=⟨O1,R⟩/\Fro p O O1/\Rd O1 p sp L (adv s)):=by
 refine eN (mu:=false) (step:=a8 (GG t) false cl yl N pj) (an:=⟨[0,5,6],[(6,none)],true⟩) (k:=O.length) (m:=R.length) (N:=N) [0,1,2,3] (fun k=>if isS L s (snm k)then some k else none)
  (fun i st=> ∃O1,st=⟨[(0,.ptr p 0),(5,xV),(6,.int .i64 (i:Nat))],⟨O1,R⟩,[]⟩/\Fro p O O1/\Rd O1 p sp L s)
  (fun r e s'=>s'.mks=[]/\match r with
    |none=>e=.exit 0/\look 0 s'.ts=.ptr p 0/\ ∃O1,s'.m=⟨O1,R⟩/\Fro p O O1/\Rd O1 p sp L s
    |some k=>e=.ret/\look 2 s'.ts=.int .i64 k/\ ∃O1,s'.m=⟨O1,R⟩/\Fro p O O1/\Rd O1 p sp L (adv s)) (by simp;omega) ⟨O,rfl,.refl _ _,h⟩ ?_ ?_
 ·rintro i x st hx hil ⟨O1,rfl,hF,hR⟩;have hi4:i<4:=hil;have hxi:x=(i:Int):=by
   rcases(show i=0\/i=1\/i=2\/i=3 by omega)with rfl|rfl|rfl|rfl<;>simp at hx<;>omega
  obtain⟨O2,k2,f2,r2⟩:=h134 O1 R s (snm x) hR hi;have w1:=dF (i:=i) (by omega);have hlt:(i:Int)<4:=by omega
  have hix:([.str [118,101,114,116,101,120],.str [101,100,103,101],.str [115,101,116],.str [101,100,103,101,115]]:List AV)[i]? =some (.str (snm x)):=by
   rw[hxi];rcases(show i=0\/i=1\/i=2\/i=3 by omega)with rfl|rfl|rfl|rfl<;>rfl
  have hix': ∀h,([.str [118,101,114,116,101,120],.str [101,100,103,101],.str [115,101,116],.str [101,100,103,101,115]]:List AV)[i]'h=.str (snm x):=fun h=>(List.getElem?_eq_some_iff.1 hix).2;unfold iU at r2;cases hw:isS L s (snm x)with
  |true=>
   rw[hw]at k2 r2;simp -implicitDefEqProofs [pj,hlt,hi4,hix',k2,w1];exact⟨hxi.symm,hF.trans f2,r2⟩
  |false=>
   rw[hw]at k2 r2;simp -implicitDefEqProofs [pj,hlt,hi4,hix',k2,w1];exact⟨hF.trans f2,r2⟩
 ·rintro st ⟨O1,rfl,hF,hR⟩;simp -implicitDefEqProofs [pj];exact⟨hF,hR⟩
theorem Nr (h:Rd O p sp L s) (hi:s.i<L.length) (h134:jU cl p sp L) (h133:my cl p sp L) (hN:5<N):RR (dr (GG t) false cl yl N qV [.ptr p 0] ⟨O,R⟩) (.int .i64 (dW L s).1) p sp L (dW L s).2 O R:=by
 have hG:GG t 0=some xV:=rfl;obtain⟨e,⟨ts,M,mks⟩,k1,-,rfl,hm⟩:=Nq (t:=t) (cl:=cl) (yl:=yl) (N:=N) (R:=R) h hi h134 hN;unfold dW;rw[xU];cases hf:([0,1,2,3]:List Int).findSome? (fun k=>if isS L s (snm k)then some k else none)with
 |none=>
  rw[hf]at hm;obtain⟨rfl,l0,O1,rfl,f1,r1⟩:=hm;obtain⟨O2,k2,f2,r2⟩:=h133 O1 R s 3 r1;simp at l0;refine⟨O2,?_,f1.trans f2,r2⟩;simp -implicitDefEqProofs [qV,hG,k1,l0,k2]
 |some k=>
  rw[hf]at hm;obtain⟨rfl,l2,O1,rfl,f1,r1⟩:=hm;simp at l2;refine⟨O1,?_,f1,r1⟩;simp -implicitDefEqProofs [qV,hG,k1,l2]
end
def icN (s1 s2:Sp) (n:Nd):List AV:=[.int .i64 n.op,.slc s1 (n.ns.map .str),.int .i64 n.so,.int .i64 n.nn,.int .i64 n.mm,.slc s2 (avL n.l)]
theorem iW (s1 s2:Sp) (n:Nd):dY (.agg (icN s1 s2 n))=some (av n):=by
 simp[icN]
def RN (r:Option (AV×Mem)) (n:Nd) (p:Nat) (sp:Sp) (L:List Tk) (s':Ps) (O:List Obj) (R:List Arr):Prop:=
 ∃s1 s2 O' Y,r=some (.agg (icN s1 s2 n),⟨O',R++Y⟩)/\Fro p O O'/\Rd O' p sp L s'
structure Pre (L:List Tk) (s:Ps):Prop where
 i:s.i<L.length
 o:s.o<=256
theorem Pre.step {L:List Tk} {s s':Ps} (h:Pre L s) (k:Stp L s s'):Pre L s':=⟨k.lt h.i,by rw[k.o];exact h.o⟩
def FrN (n p:Nat) (O O':List Obj):Prop:= ∀i,i<n->i≠p->O'[i]? =O[i]?
theorem fe {O1:List Obj} {q:Nat} (c:Obj) (hlt:q<O1.length): ∃O2,O1.set q c=O2/\O2[q]? =some c/\(∀i,i≠q->O2[i]? =O1[i]?)/\O2.length=O1.length:=
 ⟨_,rfl,List.getElem?_set_self hlt,fun i hi=>List.getElem?_set_ne (by omega),by simp⟩
section
variable {G:Gls} {cl:a7} {yl:a7} {N:Nat}
variable {p:Nat} {sp:Sp} {L:List Tk}
theorem Ns (w:Str) (op:Int) (kd:Kd) (tl:Nd->Kd) (H:Nat) (f:Nat) (fst cap:List AV) (n0:Nat) (Inv:List Obj->Prop) (hInv: ∀O O',FrN n0 p O O'->Inv O->Inv O') (hL:Lok L)
  (htl: ∀h n s,pr' L (h+1) (tl n) s=if isS L s w then(pr' L h kd (adv s)).bind (fun r=>pr' L h (tl (nd op [n,r.1])) r.2)else some (n,s))
  (hc: ∀h',h'<=H-> ∀O R s r,Inv O->Rd O p sp L s->Pre L s->pr' L h' kd s=some r->RN (cl f (fst++[]++cap) ⟨O,R⟩) r.1 p sp L r.2 O R)
  (h134:jU cl p sp L) (t8:AV) (q9 kk mm:Nat) (hq9:n0<=q9):
  ∀(h:Nat) (n:Nd) (s:Ps) (r:Nd×Ps),h<=H->pr' L h (tl n) s=some r-> ∀(O:List Obj) (R:List Arr) (s1 s2:Sp) (N':Nat),h<N'->Inv O->Rd O p sp L s->Pre L s->n0<=O.length->q9≠p->O[q9]? =some (.cells (icN s1 s2 n))->
   ∃(O':List Obj) (Y:List Arr) (ts':dx) (s3 s4:Sp),dh false (a8 G false cl yl N pn) ⟨[0,1,2,3,8,9],[],true⟩ kk mm N' ⟨[(0,.ptr p 0),(1,.str w),(2,.int .i64 op),(3,.fn f fst cap),(8,t8),(9,.ptr q9 0)],⟨O,R⟩,[]⟩=some (.exit 0,⟨ts',⟨O',R++Y⟩,[]⟩)/\
    look 8 ts'=t8/\look 9 ts'=.ptr q9 0/\O'[q9]? =some (.cells (icN s3 s4 r.1))/\Rd O' p sp L r.2/\O.length<=O'.length/\ ∀i,i<O.length->i≠p->i≠q9->O'[i]? =O[i]?:=by
 intro h
 induction h with
 |zero=>intro n s r _ e;simp[pr']at e
 |succ h ih=>
  intro n s r hH e O R s1 s2 N' hN' hI hR hi hn0 hqp hq;obtain⟨N',rfl⟩: ∃m,N'=m+1:=⟨N' - 1,by omega⟩
  rw[htl]at e;obtain⟨O1,k1,f1,r1⟩:=h134 O R s w hR hi.i;unfold iU at r1;have g1:=f1.old hq hqp;cases hw:isS L s w with
  |false=>
   rw[hw]at e k1 r1;simp only[Bool.false_eq_true,if_false,Option.some.injEq]at e r1;subst e;refine⟨O1,[],?_⟩;rw[List.append_nil]
   suffices hx: ∃ts',dh false (a8 G false cl yl N pn) ⟨[0,1,2,3,8,9],[],true⟩ kk mm (N'+1) ⟨[(0,.ptr p 0),(1,.str w),(2,.int .i64 op),(3,.fn f fst cap),(8,t8),(9,.ptr q9 0)],⟨O,R⟩,[]⟩=some (.exit 0,⟨ts',⟨O1,R⟩,[]⟩)/\look 8 ts'=t8/\look 9 ts'=.ptr q9 0 by
    obtain⟨ts',h1,h2,h3⟩:=hx;exact⟨ts',s1,s2,h1,h2,h3,g1,r1,f1.len,fun i hi hp _=>f1.get i hi hp⟩
   apply Exists.intro;apply And.intro
   ·simp -implicitDefEqProofs [dh,pn,k1];rfl
   ·refine⟨?_,?_⟩<;>first|rfl|simp
  |true=>
   rw[hw]at e k1 r1;simp only[if_true,Option.bind_eq_some_iff]at e r1;obtain⟨q,e1,e2⟩:=e;have hstp:=eS hL hw;have hi1:=hi.step hstp;obtain⟨a1,a2,O2,Y1,k2,f2,r2⟩:=hc h (by omega) O1 R (adv s) q (hInv O O1 (fun i hi hp=>f1.get i (by omega) hp) hI) r1 hi1 e1;have g2:=f2.old g1 hqp;have hi2:=hi1.step (gD hL _ _ _ _ e1);have hlt:=(List.getElem?_eq_some_iff.1 g2).1;have p1:=iW s1 s2 n;have p2:=iW a1 a2 q.1;obtain⟨O3,hO3⟩: ∃O3,O2.set q9 (.cells (icN .full .full (nd op [n,q.1])))=O3:=⟨_,rfl⟩
   have g3:O3[q9]? =some (.cells (icN .full .full (nd op [n,q.1]))):=by rw[<-hO3];exact List.getElem?_set_self hlt
   have r3:Rd O3 p sp L q.2:=by unfold Rd;rw[<-hO3,List.getElem?_set_ne hqp];exact r2
   have l3:O3.length=O2.length:=by rw[<-hO3];simp
   have fr3: ∀i,i<O.length->i≠p->i≠q9->O3[i]? =O[i]?:=fun i hi hp h9=>by
    rw[<-hO3,List.getElem?_set_ne (by omega),f2.get i (Nat.lt_of_lt_of_le hi f1.len) hp,f1.get i hi hp]
   have hlen:=Nat.le_trans f1.len f2.len;obtain⟨O4,Y2,ts',s3,s4,i1,i2,i3,i4,i5,i6,i7⟩:=ih (nd op [n,q.1]) q.2 r (by omega) e2 O3 (R++Y1) .full .full N' (by omega) (hInv O O3 (fun i hi hp=>fr3 i (by omega) hp (by omega)) hI) r3 hi2 (by omega) hqp g3;refine⟨O4,Y1++Y2,ts',s3,s4,?_,i2,i3,i4,i5,by omega,fun i hi hp h9=>(i7 i (by omega) hp h9).trans (fr3 i hi hp h9)⟩;rw[<-List.append_assoc,<-i1];have hnd:icN .full .full (nd op [n,q.1])=[.int .i64 op,.slc .full [],.int .i64 0,.int .i64 0,.int .i64 0,.slc .full [av n,av q.1]]:=rfl;rw[hnd]at hO3;have p1':=p1;have p2':=p2;simp only[List.append_nil]at k2;have c1:cells (av n)=some (ndc n):=by simp
   unfold icN at g1 g2 p1' p2' k2;have step: ∃ts1,a8 G false cl yl N pn ⟨[(0,.ptr p 0),(1,.str w),(2,.int .i64 op),(3,.fn f fst cap),(8,t8),(9,.ptr q9 0)],⟨O,R⟩,[]⟩=some (.normal,⟨ts1,⟨O3,R++Y1⟩,[]⟩)/\fP ts1 [0,1,2,3,8,9]=[(0,.ptr p 0),(1,.str w),(2,.int .i64 op),(3,.fn f fst cap),(8,t8),(9,.ptr q9 0)]:=by
    apply Exists.intro;apply And.intro
    ·simp -implicitDefEqProofs [pn,k1,g1,g2,k2,hO3];rfl
    ·first|rfl|simp
   obtain⟨ts1,st1,st2⟩:=step;simp only[dh,st1,eI,Bool.false_eq_true,if_false,if_true,st2]
theorem xW (w:Str) (op:Int) (kd:Kd) (tl:Nd->Kd) (h:Nat) (f:Nat) (fst cap:List AV) (O:List Obj) (R:List Arr) (Inv:List Obj->Prop) (hInv: ∀O1 O',FrN O.length p O1 O'->Inv O1->Inv O') (hL:Lok L)
  (htl: ∀h n s,pr' L (h+1) (tl n) s=if isS L s w then(pr' L h kd (adv s)).bind (fun r=>pr' L h (tl (nd op [n,r.1])) r.2)else some (n,s))
  (hc: ∀h',h'<=h-> ∀O R s r,Inv O->Rd O p sp L s->Pre L s->pr' L h' kd s=some r->RN (cl f (fst++[]++cap) ⟨O,R⟩) r.1 p sp L r.2 O R)
  (h134:jU cl p sp L) (hN:h<N) {s:Ps} {r:Nd×Ps} (hI:Inv O) (hR:Rd O p sp L s) (hi:Pre L s) (e:(pr' L h kd s).bind (fun r=>pr' L h (tl r.1) r.2)=some r):
  RN (dr G false cl yl N po [.ptr p 0,.str w,.int .i64 op,.fn f fst cap] ⟨O,R⟩) r.1 p sp L r.2 O R:=by
 rw[Option.bind_eq_some_iff]at e;obtain⟨q,e1,e2⟩:=e;have hp:p<O.length:=(List.getElem?_eq_some_iff.1 hR).1;obtain⟨a1,a2,O1,Y1,k1,f1,r1⟩:=hc h (Nat.le_refl _) (O++[.cells [.int .i64 0,.slc .full [],.int .i64 0,.int .i64 0,.int .i64 0,.slc .full []]]) R s q (hInv O _ (fun i hi _=>List.getElem?_append_left hi) hI) (hR.app _) hi e1;have l1:O.length+1<=O1.length:=by have:=f1.len;simpa using this
 have g8:O1[O.length]? =some (.cells [.int .i64 0,.slc .full [],.int .i64 0,.int .i64 0,.int .i64 0,.slc .full []]):=f1.old (by simp) (by omega);have fr1: ∀i,i<O.length->i≠p->O1[i]? =O[i]?:=fun i hi hp=>by rw[f1.get i (by simp;omega) hp,List.getElem?_append_left hi]
 obtain⟨O2,Y2,ts',s3,s4,i1,i2,i3,i4,i5,i6,i7⟩:=Ns (G:=G) (yl:=yl) (N:=N) w op kd tl h f fst cap O.length Inv hInv hL htl hc h134 (.ptr O.length 0) O1.length (O1.length+1) (R++Y1).length (by omega) h q.1 q.2 r (Nat.le_refl _) e2
  (O1++[.cells (icN a1 a2 q.1)]) (R++Y1) a1 a2 N hN (hInv O _ (fun i hi hp=>by rw[List.getElem?_append_left (by omega)];exact fr1 i hi hp) hI) (r1.app _) (hi.step (gD hL _ _ _ _ e1)) (by simp;omega) (by omega) (by simp)
 have g8':O2[O.length]? =some (.cells [.int .i64 0,.slc .full [],.int .i64 0,.int .i64 0,.int .i64 0,.slc .full []]):=by
  rw[i7 O.length (by simp;omega) (by omega) (by omega)];exact dD g8 _
 have hl2:O1.length+1<=O2.length:=by simpa using i6
 obtain⟨O9,e9,g9,n9,m9⟩:=fe (.cells (icN s3 s4 r.1)) (List.getElem?_eq_some_iff.1 g8').1;refine⟨s3,s4,O9,Y1++Y2,?_,⟨by omega,fun i hi hp=>?_⟩,?_⟩
 ·simp only[List.append_nil]at k1;unfold icN at k1 i1 i4 e9 g9;simp -implicitDefEqProofs at k1 i1;unfold icN;clear n9 m9 hl2 l1 hp i6;simp -implicitDefEqProofs [po,k1,i1,i2,i3,i4,g8',e9,g9]
 ·rw[n9 i (by omega),i7 i (by simp;omega) hp (by omega),List.getElem?_append_left (by omega)];exact fr1 i hi hp
 ·unfold Rd;rw[n9 p (by omega)];exact i5
theorem xX (f:Nat) (fst cap:List AV) (g:Ps->Option (Nd×Ps)) {O:List Obj} {R:List Arr} {s:Ps} {r:Nd×Ps} (he:s.e=0) (hb:L.length<big) (hR:Rd O p sp L s) (hi:Pre L s) (hk:s.i+1<L.length)
  (hg: ∀q,g ⟨s.i+1,s.e,s.o+1⟩=some q->q.2.o=s.o+1)
  (hc: ∀O1 q,FrN O.length p O O1->Rd O1 p sp L ⟨s.i+1,s.e,s.o+1⟩->Pre L ⟨s.i+1,s.e,s.o+1⟩->g ⟨s.i+1,s.e,s.o+1⟩=some q->RN (cl f (fst++[]++cap) ⟨O1,R⟩) q.1 p sp L q.2 O1 R)
  (h133:my cl p sp L) (e:lvl s g=some r):RN (dr G false cl yl N nI [.ptr p 0,.fn f fst cap] ⟨O,R⟩) r.1 p sp L r.2 O R:=by
 have hp:p<O.length:=(List.getElem?_eq_some_iff.1 hR).1;have hT:=hR.app [.cells [.int .i64 0,.slc .full [],.int .i64 0,.int .i64 0,.int .i64 0,.slc .full []]];unfold lvl at e;by_cases ho:s.o=256
 ·rw[if_pos ho]at e;cases e;obtain⟨O1,k1,f1,r1⟩:=h133 _ R s 16 hT;have g8:O1[O.length]? =some (.cells [.int .i64 0,.slc .full [],.int .i64 0,.int .i64 0,.int .i64 0,.slc .full []]):=f1.old (by simp) (by omega);have l1:=f1.len;rw[List.length_append]at l1;obtain⟨O9,e9,g9,n9,m9⟩:=fe (.cells (icN .full .full ndZ)) (List.getElem?_eq_some_iff.1 g8).1;have r1':=r1;unfold Rd rdc at r1';unfold Rd rdc at hT;have hwn: ¬(wrg s 16).e=0:=iG (by decide);have he':((wrg s 16).e !=0)=true:=by simp[hwn]
  have ho':(s.o:Int)=256:=by omega
  rw[ho']at hT;refine⟨.full,.full,O9,[],?_,⟨by omega,fun i hi hp=>?_⟩,?_⟩
  ·clear n9 m9 l1;have hz:icN .full .full ndZ=[.int .i64 0,.slc .full [],.int .i64 0,.int .i64 0,.int .i64 0,.slc .full []]:=rfl;rw[hz]at e9 g9⊢;simp -implicitDefEqProofs [nI,hT,k1,r1',hwn,he',g8,e9,g9]
  ·rw[n9 i (by omega),f1.get i (by simp;omega) hp,List.getElem?_append_left hi]
  ·unfold Rd;rw[n9 p (by omega)];exact r1
 ·rw[if_neg ho]at e;simp only[Option.map_eq_some_iff]at e;obtain⟨q,hq,rfl⟩:=e;have hoq:=hg q hq;have ho2:=hi.o;unfold big at hb;have w1:dj .i64 ((s.i:Int)+1)=((s.i+1:Nat):Int):=dF (by omega);have w2:dj .i64 ((s.o:Int)+1)=((s.o+1:Nat):Int):=dF (by omega);have w3:dj .i64 ((q.2.o:Int) - 1)=((q.2.o - 1:Nat):Int):=by rw[dJ (by omega) (by omega)];omega
  have ho': ¬(s.o:Int)=256:=by omega
  have ho'':((s.o:Int)==256)=false:=by simp[ho']
  obtain⟨O1,hO1⟩: ∃O1,((O++[Obj.cells [.int .i64 0,.slc .full [],.int .i64 0,.int .i64 0,.int .i64 0,.slc .full []]]).set p (.cells (rdc sp L ⟨s.i+1,s.e,s.o⟩))).set p (.cells (rdc sp L ⟨s.i+1,s.e,s.o+1⟩))=O1:=⟨_,rfl⟩
  have hlt:p<(O++[Obj.cells [.int .i64 0,.slc .full [],.int .i64 0,.int .i64 0,.int .i64 0,.slc .full []]]).length:=by simp;omega
  have r1:Rd O1 p sp L ⟨s.i+1,s.e,s.o+1⟩:=by unfold Rd;rw[<-hO1];exact List.getElem?_set_self (by simpa using hlt)
  have fr1: ∀i,i≠p->O1[i]? =(O++[Obj.cells [.int .i64 0,.slc .full [],.int .i64 0,.int .i64 0,.int .i64 0,.slc .full []]])[i]?:=fun i h=>by rw[<-hO1,List.getElem?_set_ne (by omega),List.getElem?_set_ne (by omega)]
  have l1:O1.length=O.length+1:=by rw[<-hO1];simp
  obtain⟨s1,s2,O2,Y,k2,f2,r2⟩:=hc O1 q (fun i hi hp=>by rw[fr1 i hp,List.getElem?_append_left hi]) r1 ⟨hk,by show s.o+1<=256;omega⟩ hq;have g8:O2[O.length]? =some (.cells [.int .i64 0,.slc .full [],.int .i64 0,.int .i64 0,.int .i64 0,.slc .full []]):=f2.old (by rw[fr1 _ (by omega)];simp) (by omega);have l2:O.length+1<=O2.length:=by have:=f2.len;omega
  obtain⟨O3,hO3⟩: ∃O3,(O2++[Obj.cells (icN s1 s2 q.1)]).set p (.cells (rdc sp L ⟨q.2.i,q.2.e,q.2.o - 1⟩))=O3:=⟨_,rfl⟩
  have fr3: ∀i,i≠p->O3[i]? =(O2++[Obj.cells (icN s1 s2 q.1)])[i]?:=fun i h=>by rw[<-hO3,List.getElem?_set_ne (by omega)]
  have r3:Rd O3 p sp L ⟨q.2.i,q.2.e,q.2.o - 1⟩:=by unfold Rd;rw[<-hO3];exact List.getElem?_set_self (by simp;omega)
  have l3:O3.length=O2.length+1:=by rw[<-hO3];simp
  have g5:O3[O2.length]? =some (.cells (icN s1 s2 q.1)):=by rw[fr3 _ (by omega)];simp
  have g83:O3[O.length]? =some (.cells [.int .i64 0,.slc .full [],.int .i64 0,.int .i64 0,.int .i64 0,.slc .full []]):=by rw[fr3 _ (by omega)];exact dD g8 _
  obtain⟨O9,e9,g9,n9,m9⟩:=fe (.cells (icN s1 s2 q.1)) (List.getElem?_eq_some_iff.1 g83).1;have r2':=r2.app [.cells (icN s1 s2 q.1)];have hT':=hT.put ⟨s.i+1,s.e,s.o⟩;unfold Rd at hT hT' r2';unfold rdc at hT hT' hO1 r2' hO3;simp only[List.append_nil]at k2;unfold icN at k2 r2' hO3 g5;refine⟨s1,s2,O9,Y,?_,⟨by omega,fun i hi hp=>?_⟩,?_⟩
  ·clear n9 m9 l3 l2 l1 hlt;unfold icN at e9 g9⊢;rw[he]at hT hO1 hT';simp -implicitDefEqProofs at hO1 hT' hO3;simp -implicitDefEqProofs [nI,hT,ho',ho'',he,w1,w2,hT',hO1,k2,r2',w3,hO3,g5,g83,e9,g9]
  ·rw[n9 i (by omega),fr3 i hp,List.getElem?_append_left (by omega),f2.get i (by omega) hp,fr1 i hp,List.getElem?_append_left hi]
  ·unfold Rd;rw[n9 p (by omega)];exact r3
end
abbrev zz6:List AV:=[.int .i64 0,.slc .full [],.int .i64 0,.int .i64 0,.int .i64 0,.slc .full []]
section
variable {p:Nat} {sp:Sp} {L:List Tk}
theorem fM {O O1:List Obj} {x:Obj} {s':Ps} (c:Obj) (hp:p<O.length) (f:Fro p (O++[x]) O1) (r:Rd O1 p sp L s'):
  ∃O9,O1.set O.length c=O9/\Fro p O O9/\Rd O9 p sp L s'/\O1[O.length]? =some x/\O9[O.length]? =some c:=by
 have h1:O1[O.length]? =some x:=f.old (by simp) (by omega);have h2:=(List.getElem?_eq_some_iff.1 h1).1;refine⟨_,rfl,⟨by simp;omega,fun i hi hp=>?_⟩,?_,h1,List.getElem?_set_self h2⟩
 ·rw[List.getElem?_set_ne (by omega),f.get i (by simp;omega) hp,List.getElem?_append_left hi]
 ·unfold Rd;rw[List.getElem?_set_ne (by omega)];exact r
theorem uJ {O:List Obj} {s:Ps} (h:Rd O p sp L s) (x:Obj):Fro p (O++[x]) ((O++[x]).set p (.cells (rdc sp L (adv s))))/\Rd ((O++[x]).set p (.cells (rdc sp L (adv s)))) p sp L (adv s):=
 ⟨.set _ _ _,(h.app [x]).put _⟩
end
section
variable {G:Gls} {cl:a7} {yl:a7} {N:Nat}
variable {p:Nat} {sp:Sp} {L:List Tk} {O:List Obj} {R:List Arr} {s:Ps}
abbrev mz (cl:a7) (p:Nat) (sp:Sp) (L:List Tk):Prop:= ∀O R s',Rd O p sp L s'->s'.i<L.length->RR (cl 137 [.ptr p 0] ⟨O,R⟩) (.str (dq L s').1) p sp L (dq L s').2 O R
abbrev pZ (cl:a7) (p:Nat) (sp:Sp) (L:List Tk):Prop:= ∀O R s' w,Rd O p sp L s'->s'.i<L.length->RR (cl 138 [.ptr p 0,.str w] ⟨O,R⟩) (.tup []) p sp L (dX L s' w) O R
abbrev xY (cl:a7) (p:Nat) (sp:Sp) (L:List Tk):Prop:= ∀O R s' lo hi,Rd O p sp L s'->s'.i<L.length->RR (cl 245 [.ptr p 0,.int .i64 lo,.int .i64 hi] ⟨O,R⟩) (.int .i64 (eP L s' lo hi).1) p sp L (eP L s' lo hi).2 O R
theorem Nt (h:Rd O p sp L s) (hb:s.i+1<big):RN (dr G false cl yl N tU [.ptr p 0] ⟨O,R⟩) ndZ p sp L (adv s) O R:=by
 have hp:p<O.length:=(List.getElem?_eq_some_iff.1 h).1;unfold big at hb;have w1:dj .i64 ((s.i:Int)+1)=((s.i+1:Nat):Int):=dF (by omega);obtain⟨f1,r1⟩:=uJ h (.cells zz6);obtain⟨O9,e9,q1,q2,q3,q4⟩:=fM (.cells (icN .full .full ndZ)) hp f1 r1;refine⟨.full,.full,_,[],?_,q1,q2⟩;have h':=h.app [.cells zz6];unfold Rd rdc at h';have hz:icN .full .full ndZ=zz6:=rfl;rw[hz]at e9 q4⊢;unfold rdc adv at e9 q3;simp -implicitDefEqProofs at e9 q3;simp -implicitDefEqProofs [tU,h',w1,e9,q3,q4]
theorem Nu (h:Rd O p sp L s) (hb:s.i+1<big):RN (dr G false cl yl N tV [.ptr p 0] ⟨O,R⟩) (nd 1 []) p sp L (adv s) O R:=by
 have hp:p<O.length:=(List.getElem?_eq_some_iff.1 h).1;unfold big at hb;have w1:dj .i64 ((s.i:Int)+1)=((s.i+1:Nat):Int):=dF (by omega);obtain⟨f1,r1⟩:=uJ h (.cells zz6);obtain⟨O9,e9,q1,q2,q3,q4⟩:=fM (.cells (icN .full .full (nd 1 []))) hp f1 r1;refine⟨.full,.full,_,[],?_,q1,q2⟩;have h':=h.app [.cells zz6];unfold Rd rdc at h';have hz:icN .full .full (nd 1 [])=[.int .i64 1,.slc .full [],.int .i64 0,.int .i64 0,.int .i64 0,.slc .full []]:=rfl;rw[hz]at e9 q4⊢;unfold rdc adv at e9 q3;simp -implicitDefEqProofs at e9 q3;simp -implicitDefEqProofs [tV,h',w1,e9,q3,q4]
theorem Nv (h:Rd O p sp L s) (hb:s.i+1<big) (hi:s.i+1<L.length) (h137:mz cl p sp L):RN (dr G false cl yl N tX [.ptr p 0] ⟨O,R⟩) (jt L s).1 p sp L (jt L s).2 O R:=by
 have hp:p<O.length:=(List.getElem?_eq_some_iff.1 h).1;unfold big at hb;have w1:dj .i64 ((s.i:Int)+1)=((s.i+1:Nat):Int):=dF (by omega);obtain⟨f1,r1⟩:=uJ h (.cells zz6);obtain⟨O2,k2,f2,r2⟩:=h137 _ R (adv s) r1 hi;obtain⟨O9,e9,q1,q2,q3,q4⟩:=fM (.cells (icN .full .full (jt L s).1)) hp (f1.trans f2) r2;refine⟨.full,.full,_,[],?_,q1,q2⟩;have h':=h.app [.cells zz6];unfold Rd rdc at h';unfold jt at e9 q4⊢;unfold rdc at k2;generalize dq L (adv s)=a at*;have hz:icN .full .full (.mk 9 [a.1] 0 0 0 [])=[.int .i64 9,.slc .full [.str a.1],.int .i64 0,.int .i64 0,.int .i64 0,.slc .full []]:=rfl;rw[hz]at e9 q4⊢;unfold adv at k2
 try simp -implicitDefEqProofs at k2
 simp -implicitDefEqProofs [tX,h',w1,k2,e9,q3,q4]
theorem Nw (h:Rd O p sp L s) (op:Int) (r:Nd×Ps) (hop:op=16) (h251: ∀O',FrN O.length p O O'->Rd O' p sp L s->RN (cl 251 [.ptr p 0,.int .i64 op] ⟨O',R⟩) r.1 p sp L r.2 O' R):RN (dr G false cl yl N t6 [.ptr p 0] ⟨O,R⟩) r.1 p sp L r.2 O R:=by
 have hp:p<O.length:=(List.getElem?_eq_some_iff.1 h).1;subst hop;obtain⟨s1,s2,O2,Y,k2,f2,r2⟩:=h251 (O++[.cells zz6]) (fun i hi _=>List.getElem?_append_left hi) (h.app _);obtain⟨O9,e9,q1,q2,q3,q4⟩:=fM (.cells (icN s1 s2 r.1)) hp f2 r2;refine⟨s1,s2,_,Y,?_,q1,q2⟩;unfold icN at k2 e9 q4⊢
 try simp -implicitDefEqProofs at k2
 simp -implicitDefEqProofs [t6,k2,e9,q3,q4]
theorem Nx (h:Rd O p sp L s) (op:Int) (r:Nd×Ps) (hop:op=17) (h251: ∀O',FrN O.length p O O'->Rd O' p sp L s->RN (cl 251 [.ptr p 0,.int .i64 op] ⟨O',R⟩) r.1 p sp L r.2 O' R):RN (dr G false cl yl N ua [.ptr p 0] ⟨O,R⟩) r.1 p sp L r.2 O R:=by
 have hp:p<O.length:=(List.getElem?_eq_some_iff.1 h).1;subst hop;obtain⟨s1,s2,O2,Y,k2,f2,r2⟩:=h251 (O++[.cells zz6]) (fun i hi _=>List.getElem?_append_left hi) (h.app _);obtain⟨O9,e9,q1,q2,q3,q4⟩:=fM (.cells (icN s1 s2 r.1)) hp f2 r2;refine⟨s1,s2,_,Y,?_,q1,q2⟩;unfold icN at k2 e9 q4⊢
 try simp -implicitDefEqProofs at k2
 simp -implicitDefEqProofs [ua,k2,e9,q3,q4]
theorem Ny (h:Rd O p sp L s) (r:Nd×Ps) (h248: ∀O' b,FrN O.length p O O'->Rd O' p sp L s->O'[b]? =some (.cells [.ptr p 0])->b≠p->RN (cl 248 [.ptr p 0,.fn 249 [] [.ptr b 0]] ⟨O',R⟩) r.1 p sp L r.2 O' R):RN (dr G false cl yl N tY [.ptr p 0] ⟨O,R⟩) r.1 p sp L r.2 O R:=by
 have hp:p<O.length:=(List.getElem?_eq_some_iff.1 h).1;obtain⟨s1,s2,O2,Y,k2,f2,r2⟩:=h248 (O++[.cells [.ptr p 0],.cells zz6]) O.length (fun i hi _=>List.getElem?_append_left hi) (h.app _) (by simp) (by omega);have g:O2[O.length+1]? =some (.cells zz6):=f2.old (by simp) (by omega);obtain⟨O9,e9,g9,n9,m9⟩:=fe (.cells (icN s1 s2 r.1)) (List.getElem?_eq_some_iff.1 g).1;have l2:=f2.len;rw[List.length_append]at l2;refine⟨s1,s2,O9,Y,?_,⟨by omega,fun i hi hp=>?_⟩,?_⟩
 ·clear n9 m9 l2;unfold icN at k2 e9 g9⊢
  try simp -implicitDefEqProofs at k2
  simp -implicitDefEqProofs [tY,k2,g,e9,g9]
 ·rw[n9 i (by omega),f2.get i (by simp;omega) hp,List.getElem?_append_left hi]
 ·unfold Rd;rw[n9 p (by omega)];exact r2
theorem Nz (h:Rd O p sp L s) (r:Nd×Ps) (h248: ∀O' b,FrN O.length p O O'->Rd O' p sp L s->O'[b]? =some (.cells [.ptr p 0])->b≠p->RN (cl 248 [.ptr p 0,.fn 254 [] [.ptr b 0]] ⟨O',R⟩) r.1 p sp L r.2 O' R):RN (dr G false cl yl N ub [.ptr p 0] ⟨O,R⟩) r.1 p sp L r.2 O R:=by
 have hp:p<O.length:=(List.getElem?_eq_some_iff.1 h).1;obtain⟨s1,s2,O2,Y,k2,f2,r2⟩:=h248 (O++[.cells [.ptr p 0],.cells zz6]) O.length (fun i hi _=>List.getElem?_append_left hi) (h.app _) (by simp) (by omega);have g:O2[O.length+1]? =some (.cells zz6):=f2.old (by simp) (by omega);obtain⟨O9,e9,g9,n9,m9⟩:=fe (.cells (icN s1 s2 r.1)) (List.getElem?_eq_some_iff.1 g).1;have l2:=f2.len;rw[List.length_append]at l2;refine⟨s1,s2,O9,Y,?_,⟨by omega,fun i hi hp=>?_⟩,?_⟩
 ·clear n9 m9 l2;unfold icN at k2 e9 g9⊢
  try simp -implicitDefEqProofs at k2
  simp -implicitDefEqProofs [ub,k2,g,e9,g9]
 ·rw[n9 i (by omega),f2.get i (by simp;omega) hp,List.getElem?_append_left hi]
 ·unfold Rd;rw[n9 p (by omega)];exact r2
theorem NA (h:Rd O p sp L s) {b:Nat} (hbx:O[b]? =some (.cells [.ptr p 0])) (q:Nd×Ps) (h218: ∀O',FrN O.length p O O'->Rd O' p sp L s->RN (cl 218 [.ptr p 0] ⟨O',R⟩) q.1 p sp L q.2 O' R):RN (dr G false cl yl N tZ [.ptr b 0] ⟨O,R⟩) (nd 11 [q.1]) p sp L q.2 O R:=by
 have hp:p<O.length:=(List.getElem?_eq_some_iff.1 h).1;obtain⟨s1,s2,O2,Y,k2,f2,r2⟩:=h218 (O++[.cells zz6]) (fun i hi _=>List.getElem?_append_left hi) (h.app _);obtain⟨O9,e9,q1,q2,q3,q4⟩:=fM (.cells (icN .full .full (nd 11 [q.1]))) hp f2 r2;have hb':=dD hbx [.cells zz6];have hnd:icN .full .full (nd 11 [q.1])=[.int .i64 11,.slc .full [],.int .i64 0,.int .i64 0,.int .i64 0,.slc .full [av q.1]]:=rfl;refine⟨.full,.full,_,Y,?_,q1,q2⟩;rw[hnd]at e9 q4⊢;unfold icN at k2
 try simp -implicitDefEqProofs at k2
 simp -implicitDefEqProofs [tZ,hb',k2,e9,q3,q4]
theorem NB (h:Rd O p sp L s) {b:Nat} (hbx:O[b]? =some (.cells [.ptr p 0])) (hbp:b≠p) (q:Nd×Ps) (hqi:q.2.i<L.length) (h81: ∀O',FrN O.length p O O'->Rd O' p sp L s->RN (cl 81 [.ptr p 0] ⟨O',R⟩) q.1 p sp L q.2 O' R) (h138:pZ cl p sp L):RN (dr G false cl yl N uc [.ptr b 0] ⟨O,R⟩) q.1 p sp L (dX L q.2 wR) O R:=by
 have hp:p<O.length:=(List.getElem?_eq_some_iff.1 h).1;obtain⟨s1,s2,O2,Y,k2,f2,r2⟩:=h81 (O++[.cells zz6]) (fun i hi _=>List.getElem?_append_left hi) (h.app _);obtain⟨O3,k3,f3,r3⟩:=h138 (O2++[.cells (icN s1 s2 q.1)]) (R++Y) q.2 wR (r2.app _) hqi;have hb':=dD hbx [.cells zz6];have hb2:=dD (f2.old hb' hbp) [.cells (icN s1 s2 q.1)];have hl2:O.length+1<=O2.length:=by have:=f2.len;simpa using this
 have g5:O3[O2.length]? =some (.cells (icN s1 s2 q.1)):=f3.old (by simp) (by omega);obtain⟨O9,e9,q1,q2,q3,q4⟩:=fM (.cells (icN s1 s2 q.1)) hp ((f2.trans (.app _ _ _)).trans f3) r3;refine⟨s1,s2,_,Y,?_,q1,q2⟩;have hw:wR=[41]:=rfl;rw[hw]at k3;unfold icN at k2 k3 g5 hb2 e9 q4⊢
 try simp -implicitDefEqProofs at k2
 try simp -implicitDefEqProofs at k3
 simp -implicitDefEqProofs [uc,hb',hb2,k2,k3,g5,e9,q3,q4]
end
theorem gg {O1:List Obj} {q p:Nat} {sp:Sp} {L:List Tk} {s:Ps} (c:Obj) (hq:q≠p) (hlt:q<O1.length) (r:Rd O1 p sp L s):
  ∃O2,O1.set q c=O2/\Rd O2 p sp L s/\O2[q]? =some c/\(∀i,i≠q->O2[i]? =O1[i]?)/\O2.length=O1.length:=by
 refine⟨_,rfl,?_,List.getElem?_set_self hlt,fun i hi=>List.getElem?_set_ne (by omega),by simp⟩;unfold Rd;rw[List.getElem?_set_ne hq];exact r
section
variable {G:Gls} {cl:a7} {yl:a7} {N:Nat}
variable {p:Nat} {sp:Sp} {L:List Tk} {O:List Obj} {R:List Arr} {s:Ps}
theorem NC (h:Rd O p sp L s) (op:Int) (r:Nd×Ps) (h248: ∀O' b c,FrN O.length p O O'->Rd O' p sp L s->O'[b]? =some (.cells [.ptr p 0])->O'[c]? =some (.cells [.int .i64 op])->b≠p->c≠p->RN (cl 248 [.ptr p 0,.fn 265 [] [.ptr c 0,.ptr b 0]] ⟨O',R⟩) r.1 p sp L r.2 O' R):RN (dr G false cl yl N t7 [.ptr p 0,.int .i64 op] ⟨O,R⟩) r.1 p sp L r.2 O R:=by
 have hp:p<O.length:=(List.getElem?_eq_some_iff.1 h).1;obtain⟨s1,s2,O2,Y,k2,f2,r2⟩:=h248 (O++[.cells [.ptr p 0],.cells [.int .i64 op],.cells zz6]) O.length (O.length+1) (fun i hi _=>List.getElem?_append_left hi) (h.app _) (by simp) (by simp) (by omega) (by omega);have g:O2[O.length+2]? =some (.cells zz6):=f2.old (by simp) (by omega);obtain⟨O9,e9,g9,n9,m9⟩:=fe (.cells (icN s1 s2 r.1)) (List.getElem?_eq_some_iff.1 g).1;have l2:=f2.len;rw[List.length_append]at l2;refine⟨s1,s2,O9,Y,?_,⟨by omega,fun i hi hp=>?_⟩,?_⟩
 ·clear n9 m9 l2;unfold icN at k2 e9 g9⊢
  try simp -implicitDefEqProofs at k2
  simp -implicitDefEqProofs [t7,k2,g,e9,g9]
 ·rw[n9 i (by omega),f2.get i (by simp;omega) hp,List.getElem?_append_left hi]
 ·unfold Rd;rw[n9 p (by omega)];exact r2
abbrev CG (cl:a7) (p:Nat) (sp:Sp) (L:List Tk):Prop:= ∀O R s',Rd O p sp L s'->s'.i<L.length->RR (cl 135 [.ptr p 0] ⟨O,R⟩) (.int .i64 (dW L s').1) p sp L (dW L s').2 O R
theorem ND (hL:Lok L) (h:Rd O p sp L s) (hi:s.i<L.length) {b c:Nat} (op:Int) (hbx:O[b]? =some (.cells [.ptr p 0])) (hcx:O[c]? =some (.cells [.int .i64 op])) (hbp:b≠p) (hcp:c≠p) (q:Nd×Ps)
  (h135:CG cl p sp L) (h137:mz cl p sp L) (h138:pZ cl p sp L)
  (h81: ∀O',FrN O.length p O O'->Rd O' p sp L (dX L (dq L (dW L s).2).2 dK)->RN (cl 81 [.ptr p 0] ⟨O',R⟩) q.1 p sp L q.2 O' R):
  RN (dr G false cl yl N ud [.ptr c 0,.ptr b 0] ⟨O,R⟩) (qn op (dq L (dW L s).2).1 (dW L s).1 q.1) p sp L q.2 O R:=by
 have hp:p<O.length:=(List.getElem?_eq_some_iff.1 h).1;have hbl:b<O.length:=(List.getElem?_eq_some_iff.1 hbx).1;have hcl:c<O.length:=(List.getElem?_eq_some_iff.1 hcx).1;have t1:=mw hL s [0,1,2,3];have t2:=fT hL (dW L s).2;obtain⟨O1,k1,f1,r1⟩:=h135 (O++[.cells zz6,.cells zz6]) R s (h.app _) hi;have i1:(dW L s).2.i<L.length:=t1.lt hi;have l1:O.length+2<=O1.length:=by have:=f1.len;simpa using this
 have z2:O1[O.length]? =some (.cells zz6):=f1.old (by simp) (by omega);have z3:O1[O.length+1]? =some (.cells zz6):=f1.old (by simp) (by omega);have b0:=dD hbx [.cells zz6,.cells zz6];have c0:=dD hcx [.cells zz6,.cells zz6];have b1:=f1.old b0 hbp;have c1:=f1.old c0 hcp;generalize hS:dW L s=so at*;obtain⟨O2,e2,r2,g2,n2,m2⟩:=gg (q:=O.length+1) (.cells [.int .i64 op,.slc .full [],.int .i64 so.1,.int .i64 0,.int .i64 0,.slc .full []]) (by omega) (by omega) r1;have b2:O2[b]? =some (.cells [.ptr p 0]):=by rw[n2 b (by omega)];exact b1
 obtain⟨O3,k3,f3,r3⟩:=h137 O2 R so.2 r2 i1;have i3:(dq L so.2).2.i<L.length:=t2.lt i1;have b3:=f3.old b2 hbp;have g3:=f3.old g2 (by omega);have l3:=f3.len;generalize hA:dq L so.2=a at*;obtain⟨O4,e4,r4,g4,n4,m4⟩:=gg (q:=O.length+1) (.cells [.int .i64 op,.slc .full [.str a.1],.int .i64 so.1,.int .i64 0,.int .i64 0,.slc .full []]) (by omega) (by omega) r3;have b4:O4[b]? =some (.cells [.ptr p 0]):=by rw[n4 b (by omega)];exact b3
 obtain⟨O5,k5,f5,r5⟩:=h138 O4 R a.2 dK r4 i3;have b5:=f5.old b4 hbp;have g5:=f5.old g4 (by omega);have l5:=f5.len;have fr5: ∀i,i<O.length->i≠p->O5[i]? =O[i]?:=fun i hi hp=>by
  rw[f5.get i (by omega) hp,n4 i (by omega),f3.get i (by omega) hp,n2 i (by omega),f1.get i (by simp;omega) hp,List.getElem?_append_left hi]
 obtain⟨s1,s2,O6,Y,k6,f6,r6⟩:=h81 O5 (fun i hi hp=>fr5 i hi hp) r5;have g6:=f6.old g5 (by omega);have l6:=f6.len;obtain⟨O7,e7,r7,g7,n7,m7⟩:=gg (q:=O.length+1) (.cells [.int .i64 op,.slc .full [.str a.1],.int .i64 so.1,.int .i64 0,.int .i64 0,.slc .full [av q.1]]) (by omega) (by omega) r6;have z2':O7[O.length]? =some (.cells zz6):=by
  rw[n7 _ (by omega),f6.get _ (by omega) (by omega),f5.get _ (by omega) (by omega),n4 _ (by omega),f3.get _ (by omega) (by omega),n2 _ (by omega)];exact z2
 obtain⟨O9,e9,g9,n9,m9⟩:=fe (.cells (icN .full .full (qn op a.1 so.1 q.1))) (List.getElem?_eq_some_iff.1 z2').1;have hnd:icN .full .full (qn op a.1 so.1 q.1)=[.int .i64 op,.slc .full [.str a.1],.int .i64 so.1,.int .i64 0,.int .i64 0,.slc .full [av q.1]]:=rfl;refine⟨.full,.full,O9,Y,?_,⟨by omega,fun i hi hp=>?_⟩,?_⟩
 ·rw[hnd]at e9 g9⊢;have hw:dK=[58]:=rfl;rw[hw]at k5;unfold icN at k6;clear n9 m9 n7 m7 l6 l5 m4 l3 m2 l1 hcl hbl hp n2 n4 fr5
  try simp -implicitDefEqProofs at k1
  simp -implicitDefEqProofs [ud,b0,c0,k1,b1,c1,z3,e2,b2,k3,b3,g3,e4,b4,k5,b5,g5,k6,g6,e7,g7,z2',e9,g9]
 ·rw[n9 i (by omega),n7 i (by omega),f6.get i (by omega) hp];exact fr5 i hi hp
 ·unfold Rd;rw[n9 p (by omega)];exact r7
end
section
variable {p:Nat} {sp:Sp} {L:List Tk} {O:List Obj} {R:List Arr} {s:Ps}
theorem CH (lo hi:Int):(eP L s lo hi).1=0\/(lo<=(eP L s lo hi).1/\(eP L s lo hi).1<=hi):=by
 unfold eP;split
 ·rename_i h
  unfold iC at h;split at h
  ·split at h
   ·exact absurd h (iG (by decide))
   ·right;constructor<;>simp only[]<;>omega
  ·exact absurd h (iG (by decide))
 ·exact .inl rfl
end
section
variable {G:Gls} {cl:a7} {yl:a7} {N:Nat}
variable {p:Nat} {sp:Sp} {L:List Tk} {O:List Obj} {R:List Arr} {s:Ps}
theorem NF (hL:Lok L) (h:Rd O p sp L s) (hb:s.i+1<big) (hi:s.i+1<L.length) (h137:mz cl p sp L) (h138:pZ cl p sp L) (h245:xY cl p sp L):RN (dr G false cl yl N tW [.ptr p 0] ⟨O,R⟩) (jR L s).1 p sp L (jR L s).2 O R:=by
 have hp:p<O.length:=(List.getElem?_eq_some_iff.1 h).1;unfold big at hb;have w1:dj .i64 ((s.i:Int)+1)=((s.i+1:Nat):Int):=dF (by omega);obtain⟨f1,r1⟩:=uJ h (.cells zz6);obtain⟨OA,hOA⟩: ∃OA,(O++[Obj.cells zz6]).set p (.cells (rdc sp L (adv s)))=OA:=⟨_,rfl⟩
 rw[hOA]at f1 r1;obtain⟨O2,k2,f2,r2⟩:=h137 OA R (adv s) r1 hi;dsimp only[jR];have t2:=fT hL (adv s);generalize dq L (adv s)=a at*;have i2:a.2.i<L.length:=t2.lt hi;have f02:=f1.trans f2;have l2:=f02.len;rw[List.length_append,List.length_singleton]at l2;obtain⟨O4,k4,f4,r4⟩:=h138 (O2++[.cells [.int .i64 8,.slc .full [.str a.1],.int .i64 0,.int .i64 0,.int .i64 0,.slc .full []]]) R a.2 fI (r2.app _) i2;have g4:O4[O2.length]? =some (.cells [.int .i64 8,.slc .full [.str a.1],.int .i64 0,.int .i64 0,.int .i64 0,.slc .full []]):=f4.old (by simp) (by omega);have i4:(dX L a.2 fI).i<L.length:=(gp hL _ _).lt i2;obtain⟨O5,k5,f5,r5⟩:=h245 O4 R _ 1 64 r4 i4;have g5:=f5.old g4 (by omega);have t5:=mt hL (dX L a.2 fI) 1 64;have v5:=CH (L:=L) (s:=dX L a.2 fI) 1 64;have f05:=((f02.trans (.app _ _ _)).trans f4).trans f5;generalize eP L (dX L a.2 fI) 1 64=m at*;have i5:m.2.i<L.length:=t5.lt i4;obtain⟨O6,e6,r6,g6,n6,m6⟩:=gg (q:=O2.length) (.cells [.int .i64 8,.slc .full [.str a.1],.int .i64 0,.int .i64 0,.int .i64 m.1,.slc .full []]) (by omega) (List.getElem?_eq_some_iff.1 g5).1 r5;obtain⟨O7,k7,f7,r7⟩:=h138 O6 R m.2 wIs r6 i5;have g7:=f7.old g6 (by omega);have i7:(dX L m.2 wIs).i<L.length:=(gp hL _ _).lt i5;have w2:dj .i64 (m.1 - 1)=m.1 - 1:=dJ (by omega) (by omega);obtain⟨O8,k8,f8,r8⟩:=h245 O7 R _ 0 (m.1 - 1) r7 i7;have g8:=f8.old g7 (by omega);generalize eP L (dX L m.2 wIs) 0 (m.1 - 1)=k at*;obtain⟨O9,e9,r9,g9,n9,m9⟩:=gg (q:=O2.length) (.cells [.int .i64 8,.slc .full [.str a.1],.int .i64 0,.int .i64 k.1,.int .i64 m.1,.slc .full []]) (by omega) (List.getElem?_eq_some_iff.1 g8).1 r8;have l5:=f5.len;have l4:=f4.len;have l7:=f7.len;have l8:=f8.len;rw[List.length_append,List.length_singleton]at l4;have fr:Fro p (O++[.cells zz6]) O9:=⟨by rw[List.length_append,List.length_singleton];omega,fun i hi hp=>by
  rw[List.length_append,List.length_singleton]at hi;rw[n9 i (by omega),f8.get i (by omega) hp,f7.get i (by omega) hp,n6 i (by omega),f05.get i (by rw[List.length_append,List.length_singleton];omega) hp]⟩
 obtain⟨Oz,ez,q1,q2,q3,q4⟩:=fM (.cells (icN .full .full (.mk 8 [a.1] 0 k.1 m.1 []))) hp fr r9;refine⟨.full,.full,Oz,[],?_,q1,q2⟩;have h':=h.app [.cells zz6];unfold Rd rdc at h';unfold rdc adv at hOA;have hnd:icN .full .full (.mk 8 [a.1] 0 k.1 m.1 [])=[.int .i64 8,.slc .full [.str a.1],.int .i64 0,.int .i64 k.1,.int .i64 m.1,.slc .full []]:=rfl;rw[hnd]at ez q4⊢;have hw:fI=[109,111,100]:=rfl;have hw2:wIs=[105,115]:=rfl;rw[hw]at k4;rw[hw2]at k7;clear l2 l4 l5 l7 l8 m9 m6 n6 n9 i2 i4 i5 i7 hp f1 f2 f02 f4 f5 f05 f7 f8 fr v5
 try simp -implicitDefEqProofs at hOA
 simp -implicitDefEqProofs [tW,h',w1,hOA,k2,k4,k5,g5,e6,g6,k7,g7,w2,k8,g8,e9,g9,q3,ez,q4]
end
theorem xZ (L:List Tk) (a:Str) (s:Ps): ∀(ws:List Str) (k:Nat),iV L a s ((k:Int)+2) ws=match(ws.zipIdx k).findSome? (fun x=>(if isS L s x.1 then some x.2 else none:Option Nat))with
  |none=>(ndZ,wrg s 3)
  |some j=>(.mk ((j:Int)+2) [a,(dq L (adv s)).1] 0 0 0 [],(dq L (adv s)).2)
 |[],k=>rfl
 |w::ws,k=>by
  simp only[iV,List.zipIdx_cons,List.findSome?_cons];cases isS L s w with
  |true=>rfl
  |false=>
   have:=xZ L a s ws (k+1);have e:(((k+1:Nat):Int)+2)=(k:Int)+2+1:=by omega
   rw[e]at this;simpa using this
section
variable {G:Gls} {cl:a7} {yl:a7} {N:Nat}
variable {p:Nat} {sp:Sp} {L:List Tk} {O:List Obj} {R:List Arr} {s:Ps}
abbrev CI (cl:a7) (p:Nat) (sp:Sp) (L:List Tk):Prop:= ∀O R s' w,Rd O p sp L s'->s'.i<L.length->Gr (cl 191 [.ptr p 0,.str w] ⟨O,R⟩) (.bool (isS L s' w)) O R
abbrev CJ:AV:=.agg [.str [61],.str [105,110],.str [115,117,98],.str [97,100,106],.str [111,110]]
theorem NG (hL:Lok L) (a:Str) {q:Nat} (h:Rd O p sp L s) (hi:s.i<L.length) (hq:O[q]? =some (.cells zz6)) (hqp:q≠p) (h134:jU cl p sp L) (h137:mz cl p sp L) (hN:6<N) (kk mm:Nat):
  ∃e s',dh false (a8 G false cl yl N pJ) ⟨[0,2,3,22,23],[(23,none)],true⟩ kk mm N ⟨[(0,.ptr p 0),(2,.ptr q 0),(3,.str a),(22,CJ),(23,.int .i64 0)],⟨O,R⟩,[]⟩=some (e,s')/\e≠ .normal/\
   (s'.mks=[]/\look 0 s'.ts=.ptr p 0/\look 2 s'.ts=.ptr q 0/\match(fJ.zipIdx 0).findSome? (fun x=>(if isS L s x.1 then some x.2 else none:Option Nat))with
    |none=>e=.exit 1/\ ∃O1,s'.m=⟨O1,R⟩/\Fro p O O1/\Rd O1 p sp L s
    |some j=>e=.ret/\ ∃O1,s'.m=⟨O1,R⟩/\Rd O1 p sp L (dq L (adv s)).2/\O1[q]? =some (.cells (icN .full .full (.mk ((j:Int)+2) [a,(dq L (adv s)).1] 0 0 0 [])))/\O.length<=O1.length/\ ∀i,i<O.length->i≠p->i≠q->O1[i]? =O[i]?):=by
 refine eN (mu:=false) (step:=a8 G false cl yl N pJ) (an:=⟨[0,2,3,22,23],[(23,none)],true⟩) (k:=kk) (m:=mm) (N:=N) (fJ.zipIdx 0) (fun x=>if isS L s x.1 then some x.2 else none)
  (fun i st=> ∃O1,st=⟨[(0,.ptr p 0),(2,.ptr q 0),(3,.str a),(22,CJ),(23,.int .i64 (i:Nat))],⟨O1,R⟩,[]⟩/\Fro p O O1/\Rd O1 p sp L s)
  (fun r e s'=>s'.mks=[]/\look 0 s'.ts=.ptr p 0/\look 2 s'.ts=.ptr q 0/\match r with
    |none=>e=.exit 1/\ ∃O1,s'.m=⟨O1,R⟩/\Fro p O O1/\Rd O1 p sp L s
    |some j=>e=.ret/\ ∃O1,s'.m=⟨O1,R⟩/\Rd O1 p sp L (dq L (adv s)).2/\O1[q]? =some (.cells (icN .full .full (.mk ((j:Int)+2) [a,(dq L (adv s)).1] 0 0 0 [])))/\O.length<=O1.length/\ ∀i,i<O.length->i≠p->i≠q->O1[i]? =O[i]?) (by simp[fJ];omega) ⟨O,rfl,.refl _ _,h⟩ ?_ ?_
 ·rintro i ⟨w,j⟩ st hx hil ⟨O1,rfl,hF,hR⟩;have hi5:i<5:=by simpa[fJ] using hil
  rw[List.getElem?_zipIdx]at hx;obtain⟨hj,hw⟩:i=j/\fJ[i]? =some w:=by
   rw[List.getElem?_eq_getElem (show i<fJ.length from hi5)]at hx;simp at hx;exact⟨hx.2,by rw[List.getElem?_eq_getElem (show i<fJ.length from hi5),hx.1]⟩
  subst hj;obtain⟨O2,k2,f2,r2⟩:=h134 O1 R s w hR hi;have w1:=dF (i:=i) (by omega);have w2:dj .i64 (2+(i:Int))=(i:Int)+2:=by rw[dJ (by omega) (by omega)];omega
  have hlt:(i:Int)<5:=by omega
  have hix:([.str [61],.str [105,110],.str [115,117,98],.str [97,100,106],.str [111,110]]:List AV)[i]? =some (.str w):=by
   rcases(show i=0\/i=1\/i=2\/i=3\/i=4 by omega)with rfl|rfl|rfl|rfl|rfl<;>(simp[fJ]at hw;subst hw;rfl)
  have hix': ∀h,([.str [61],.str [105,110],.str [115,117,98],.str [97,100,106],.str [111,110]]:List AV)[i]'h=.str w:=fun h=>(List.getElem?_eq_some_iff.1 hix).2;unfold iU at r2;simp only[];cases hw:isS L s w with
  |true=>
   rw[hw]at k2 r2;obtain⟨O3,k3,f3,r3⟩:=h137 O2 R (adv s) r2 ((eS hL hw).lt hi);have g3:=f3.old (f2.old (hF.old hq hqp) hqp) hqp;obtain⟨O4,e4,r4,g4,n4,m4⟩:=gg (.cells (icN .full .full (.mk ((i:Int)+2) [a,(dq L (adv s)).1] 0 0 0 []))) hqp (List.getElem?_eq_some_iff.1 g3).1 r3;have fin:(∀i,i<O.length->i≠p->i≠q->O4[i]? =O[i]?)/\O.length<=O4.length:=by
    have l1:=hF.len;have l2:=f2.len;have l3:=f3.len;exact⟨fun i hi hp hq=>by rw[n4 i hq,f3.get i (by omega) hp,f2.get i (by omega) hp,hF.get i hi hp],by omega⟩
   have hnd:icN .full .full (.mk ((i:Int)+2) [a,(dq L (adv s)).1] 0 0 0 [])=[.int .i64 ((i:Int)+2),.slc .full [.str a,.str (dq L (adv s)).1],.int .i64 0,.int .i64 0,.int .i64 0,.slc .full []]:=rfl;simp only[if_true,hnd];rw[hnd]at e4 g4;generalize dq L (adv s)=nm at*;clear n4 m4;simp -implicitDefEqProofs [pJ,hlt,hi5,hix',k2,w1,w2,k3,g3,e4];exact⟨r4,g4,fin.2,fin.1⟩
  |false=>
   rw[hw]at k2 r2;simp -implicitDefEqProofs [pJ,hlt,hi5,hix',k2,w1];exact⟨hF.trans f2,r2⟩
 ·rintro st ⟨O1,rfl,hF,hR⟩;simp -implicitDefEqProofs [pJ,fJ];exact⟨hF,hR⟩
theorem NH (hL:Lok L) (h:Rd O p sp L s) (hi:s.i<L.length) (H:Nat) {r:Nd×Ps} (e:gU L H s=some r) (h137:mz cl p sp L) (h191:CI cl p sp L) (h134:jU cl p sp L) (h245:xY cl p sp L) (h133:my cl p sp L) (hN:6<N)
  (h255: ∀O' f s' r',Rd O' p sp L s'->s'.i<L.length->isS L s' wL=true->iE L f H s'=some r'->RN (cl 255 [.ptr p 0,.str f] ⟨O',R⟩) r'.1 p sp L r'.2 O' R):
  RN (dr G false cl yl N nH [.ptr p 0] ⟨O,R⟩) r.1 p sp L r.2 O R:=by
 have hp:p<O.length:=(List.getElem?_eq_some_iff.1 h).1;obtain⟨O2,k2,f2,r2⟩:=h137 (O++[.cells zz6]) R s (h.app _) hi;unfold gU at e;have t2:=fT hL s;generalize dq L s=a at*;have i2:a.2.i<L.length:=t2.lt hi;obtain⟨X,k3⟩:=h191 O2 R a.2 wL r2 i2;have f3:Fro p (O++[.cells zz6]) (O2++X):=f2.trans (.app _ _ _);have hw:wL=[40]:=rfl;have hw2:wIs=[105,115]:=rfl;cases h1:isS L a.2 wL with
 |true=>
  rw[h1]at e k3;rw[if_pos rfl]at e;obtain⟨s1,s2,O4,Y,k4,f4,r4⟩:=h255 (O2++X) a.1 a.2 r (r2.app _) i2 h1 e;obtain⟨O9,e9,q1,q2,q3,q4⟩:=fM (.cells (icN s1 s2 r.1)) hp (f3.trans f4) r4;refine⟨s1,s2,O9,Y,?_,q1,q2⟩;rw[hw]at k3;unfold icN at k4 e9 q4⊢;simp -implicitDefEqProofs [nH,k2,k3,k4,e9,q3,q4]
 |false=>
  rw[h1]at e k3;rw[if_neg (by decide)]at e;rw[hw]at k3;obtain⟨O4,k4,f4,r4⟩:=h134 (O2++X) R a.2 wIs (r2.app _) i2;rw[hw2]at k4;unfold iU at r4;cases h2:isS L a.2 wIs with
  |true=>
   have hs:=eS hL h2;rw[hw2]at h2;rw[h2]at k4;rw[hw2]at e r4;rw[h2]at e r4;rw[if_pos rfl]at e r4;obtain⟨O5,k5,f5,r5⟩:=h245 O4 R (adv a.2) 0 7 r4 (hs.lt i2);simp only[Option.some.injEq]at e;subst e;generalize eP L (adv a.2) 0 7=m at*;obtain⟨O9,e9,q1,q2,q3,q4⟩:=fM (.cells (icN .full .full (.mk 7 [a.1] 0 m.1 0 []))) hp ((f3.trans f4).trans f5) r5;refine⟨.full,.full,O9,[],?_,q1,q2⟩;have hnd:icN .full .full (.mk 7 [a.1] 0 m.1 0 [])=[.int .i64 7,.slc .full [.str a.1],.int .i64 0,.int .i64 m.1,.int .i64 0,.slc .full []]:=rfl;rw[hnd]at e9 q4⊢;simp -implicitDefEqProofs [nH,k2,k3,k4,k5,e9,q3,q4]
  |false=>
   rw[hw2]at h2;rw[h2]at k4;rw[hw2]at e r4;rw[h2]at e r4;rw[if_neg (by decide)]at e r4;simp only[Option.some.injEq]at e;have hz:O4[O.length]? =some (.cells zz6):=(f3.trans f4).old (by simp) (by omega);obtain⟨ex,⟨ts,M,mks⟩,k5,-,hmk,l0,l2,hm⟩:=NG (G:=G) (yl:=yl) (R:=R) hL a.1 r4 i2 hz (by omega) h134 h137 hN O4.length R.length;simp only[]at hmk l0 l2 hm;subst hmk;have hrel:=xZ L a.1 a.2 fJ 0;rw[show((0:Nat):Int)+2=2 from rfl,e]at hrel;have l4:=(f3.trans f4).len;rw[List.length_append,List.length_singleton]at l4;cases hf:(fJ.zipIdx 0).findSome? (fun x=>(if isS L a.2 x.1 then some x.2 else none:Option Nat))with
   |some j=>
    rw[hf]at hm hrel;simp only[]at hm hrel;obtain⟨rfl,O5,rfl,r5,g5,l5,n5⟩:=hm;subst hrel;refine⟨.full,.full,O5,[],?_,⟨by omega,fun i hi hp=>?_⟩,r5⟩
    ·have hnd:icN .full .full (.mk ((j:Int)+2) [a.1,(dq L (adv a.2)).1] 0 0 0 [])=[.int .i64 ((j:Int)+2),.slc .full [.str a.1,.str (dq L (adv a.2)).1],.int .i64 0,.int .i64 0,.int .i64 0,.slc .full []]:=rfl;rw[hnd]at g5⊢;simp -implicitDefEqProofs [nH,k2,k3,k4,k5,l2,g5]
    ·rw[n5 i (by omega) hp (by omega),(f3.trans f4).get i (by rw[List.length_append,List.length_singleton];omega) hp,List.getElem?_append_left hi]
   |none=>
    rw[hf]at hm hrel;simp only[]at hm hrel;obtain⟨rfl,O5,rfl,f5,r5⟩:=hm;subst hrel;obtain⟨O6,k6,f6,r6⟩:=h133 O5 R a.2 3 r5;obtain⟨O9,e9,q1,q2,q3,q4⟩:=fM (.cells (icN .full .full ndZ)) hp (((f3.trans f4).trans f5).trans f6) r6;refine⟨.full,.full,O9,[],?_,q1,q2⟩;have hnd:icN .full .full ndZ=zz6:=rfl;rw[hnd]at e9 q4⊢;simp -implicitDefEqProofs [nH,k2,k3,k4,k5,l0,l2,k6,e9,q3,q4]
end
def ApN (n:Nat) (R:List Arr) (s1:Sp) (R':List Arr):Prop:=(s1=.full/\R'=R)\/(s1=.own R.length/\R'=R++[.app n 9 1])
theorem p8 {n:Nat} {R R':List Arr} {s1:Sp} (h:ApN n R s1 R') (es:List AV) (he:es.length=n) (hz:dV 1 es=true) (x:Str) (O:List Obj) (hn:n<8589934592):
  dI 9 .sc 16 (.slc s1 es) [.str x] ⟨O,R'⟩=some (.slc (.own R.length) (es++[.str x]),⟨O,R++[.app (n+1) 9 1]⟩):=by
 have h1:(n+1)*16<=140737488355328:=by omega
 have h2:n+1<=140737488355328:=by omega
 rcases h with⟨rfl,rfl⟩|⟨rfl,rfl⟩
 ·simp[dI,he,hz,h1,h2,dV];exact hz
 ·simp[dI,he,hz,h1,h2,dV];exact hz
section
variable {G:Gls} {cl:a7} {yl:a7} {N:Nat}
variable {p:Nat} {sp:Sp} {L:List Tk} {O:List Obj} {R:List Arr} {s:Ps}
abbrev rF (cl:a7) (p:Nat) (sp:Sp) (L:List Tk):Prop:= ∀O R s',Rd O p sp L s'->s'.i<L.length-> ∃X,cl 132 [.ptr p 0] ⟨O,R⟩=some (tkv (tkA L s'.i),⟨O++X,R⟩)
def icC (s1:Sp) (ns:List Str):List AV:=[.int .i64 10,.slc s1 (ns.map .str),.int .i64 0,.int .i64 0,.int .i64 0,.slc .full []]
theorem NI (hL:Lok L) (f:Str) {q4 q5:Nat} (h132:rF cl p sp L) (h133:my cl p sp L) (h134:jU cl p sp L) (h137:mz cl p sp L) (h138:pZ cl p sp L) (hq4:q4≠p) (hq5:q5≠p) (hq45:q4≠q5) (kk mm:Nat):
  ∀(h:Nat) (ns:List Str) (s:Ps) (r:List Str×Ps) (O:List Obj) (R R':List Arr) (s1:Sp) (N':Nat),gC L f h ns s=some r->h<N'->ns.length+h<8589934592->Rd O p sp L s->s.i<L.length->ApN ns.length R s1 R'->O[q4]? =some (.cells zz6)->O[q5]? =some (.cells (icC s1 ns))->
   ∃(O':List Obj) (Y:List Arr) (ts':dx) (s3:Sp),dh false (a8 G false cl yl N jh) ⟨[0,4,5],[(5,some 1)],true⟩ kk mm N' ⟨[(0,.ptr p 0),(4,.ptr q4 0),(5,.ptr q5 0)],⟨O,R'⟩,[]⟩=some (.exit 0,⟨ts',⟨O',R++Y⟩,[]⟩)/\
    look 4 ts'=.ptr q4 0/\look 5 ts'=.ptr q5 0/\O'[q5]? =some (.cells (icC s3 r.1))/\Rd O' p sp L r.2/\O.length<=O'.length/\ ∀i,i<O.length->i≠p->i≠q5->O'[i]? =O[i]?:=by
 intro h
 induction h with
 |zero=>intro ns s r O R R' s1 N' e;simp[gC]at e
 |succ h ih=>
  intro ns s r O R R' s1 N' e hN' hb hR hi hA g4 g5;obtain⟨N',rfl⟩: ∃m,N'=m+1:=⟨N' - 1,by omega⟩
  have hRY: ∃Y,R'=R++Y:=by
   rcases hA with⟨-,rfl⟩|⟨-,rfl⟩
   ·exact⟨[],by simp⟩
   ·exact⟨_,rfl⟩
  simp only[gC]at e;have hR':=hR;unfold Rd rdc at hR';by_cases he:s.e=0
  ·rw[if_pos he]at e;obtain⟨X1,k1⟩:=h132 O R' s hR hi;rw[he]at hR';have rd1:=hR.app X1;have g5':=dD g5 X1;unfold tkv tkC at k1;by_cases hk:(tkA L s.i).k=1/\ns.length=17
   ·rw[if_pos hk]at e;cases e;obtain⟨O2,k2,f2,r2⟩:=h133 (O++X1) R' s 8 rd1;obtain⟨Y,rfl⟩:=hRY
    suffices hx: ∃ts',dh false (a8 G false cl yl N jh) ⟨[0,4,5],[(5,some 1)],true⟩ kk mm (N'+1) ⟨[(0,.ptr p 0),(4,.ptr q4 0),(5,.ptr q5 0)],⟨O,R++Y⟩,[]⟩=some (.exit 0,⟨ts',⟨O2,R++Y⟩,[]⟩)/\look 4 ts'=.ptr q4 0/\look 5 ts'=.ptr q5 0 by
     obtain⟨ts',h1,h2,h3⟩:=hx;have l2:=f2.len;rw[List.length_append]at l2;exact⟨O2,Y,ts',s1,h1,h2,h3,f2.old g5' hq5,r2,by omega,fun i hi hp _=>by rw[f2.get i (by rw[List.length_append];omega) hp,List.getElem?_append_left hi]⟩
    unfold icC at g5';have hk1:=hk.1;have hk2:=hk.2;rw[hk1]at k1;apply Exists.intro;apply And.intro
    ·simp -implicitDefEqProofs [dh,jh,hR',k1,g5',hk2,k2];rfl
    ·refine⟨?_,?_⟩<;>first|rfl|simp
   ·rw[if_neg hk]at e;obtain⟨O2,k2,f2,r2⟩:=h137 (O++X1) R' s rd1 hi;have t2:=fT hL s;generalize dq L s=a at*;have i2:=t2.lt hi;have g2:=f2.old g5' hq5;have hap:=p8 hA (ns.map .str) (by simp) (by simp) a.1 O2 (by omega);obtain⟨O3,e3,r3,g3,n3,m3⟩:=gg (.cells (icC (.own R.length) (ns++[a.1]))) hq5 (List.getElem?_eq_some_iff.1 g2).1 r2;obtain⟨O4,k4,f4,r4⟩:=h134 O3 (R++[.app (ns.length+1) 9 1]) a.2 eu r3 i2;have g45:=f4.old g3 hq5;have hw:eu=[44]:=rfl;rw[hw]at k4 e r4;unfold iU at r4;have l2:=f2.len;have l4:=f4.len;rw[List.length_append]at l2;have fr4: ∀i,i<O.length->i≠p->i≠q5->O4[i]? =O[i]?:=fun i hi hp h5=>by
     rw[f4.get i (by omega) hp,n3 i h5,f2.get i (by rw[List.length_append];omega) hp,List.getElem?_append_left hi]
    have hcond: ∀b,((tkA L s.i).k==1)=b->(b=true->(ns.length:Int)≠17):=fun b hb hb'=>by
     subst hb';simp at hb;intro h;exact hk ⟨hb,by omega⟩
    have g5m:=g5';have g2m:=g2;have e3m:=e3;have hicN:icC (.own R.length) (ns++[a.1])=[.int .i64 10,.slc (.own R.length) (ns.map .str++[.str a.1]),.int .i64 0,.int .i64 0,.int .i64 0,.slc .full []]:=by simp[icC]
    rw[hicN]at e3m;unfold icC at g5m g2m;clear m3;cases h1:isS L a.2 [44]with
    |true=>
     rw[h1]at e k4 r4;rw[if_pos rfl]at e r4;have hs:=eS hL h1;obtain⟨O5,Y,ts',s3,j1,j2,j3,j4,j5,j6,j7⟩:=ih (ns++[a.1]) (adv a.2) r O4 R (R++[.app (ns.length+1) 9 1]) (.own R.length) N' e (by omega) (by simp;omega) r4 (hs.lt i2) (.inr ⟨rfl,by simp⟩) (by rw[fr4 q4 (List.getElem?_eq_some_iff.1 g4).1 hq4 hq45];exact g4) g45;have l3:O3.length=O2.length:=by rw[<-e3];simp
     refine⟨O5,Y,ts',s3,?_,j2,j3,j4,j5,by omega,fun i hi hp h5=>by rw[j7 i (by omega) hp h5];exact fr4 i hi hp h5⟩;rw[<-j1];have step: ∃ts1,a8 G false cl yl N jh ⟨[(0,.ptr p 0),(4,.ptr q4 0),(5,.ptr q5 0)],⟨O,R'⟩,[]⟩=some (.normal,⟨ts1,⟨O4,R++[.app (ns.length+1) 9 1]⟩,[]⟩)/\fP ts1 [0,4,5]=[(0,.ptr p 0),(4,.ptr q4 0),(5,.ptr q5 0)]:=by
      clear l2 l3 l4 fr4 j7 j6 f2 f4;by_cases hk1:(tkA L s.i).k=1
      ·have h17:((ns.length:Int)==17)=false:=by simpa using hcond true (by simp[hk1]) rfl
       rw[hk1]at k1;apply Exists.intro;apply And.intro
       ·simp -implicitDefEqProofs [-dI,jh,hR',k1,g5m,h17,k2,g2m,hap,e3m,k4];rfl
       ·first|rfl|simp
      ·apply Exists.intro;apply And.intro
       ·simp -implicitDefEqProofs [-dI,jh,hR',k1,g5m,show((tkA L s.i).k==1)=false by simp[hk1],k2,g2m,hap,e3m,k4];rfl
       ·first|rfl|simp
     obtain⟨ts1,st1,st2⟩:=step;simp only[dh,st1,eI,Bool.false_eq_true,if_false,if_true,st2]
    |false=>
     rw[h1]at e k4 r4;rw[if_neg (by decide)]at e r4;simp only[Option.some.injEq]at e;subst e;obtain⟨O5,k5,f5,r5⟩:=h138 O4 (R++[.app (ns.length+1) 9 1]) a.2 wR r4 i2;have hw5:wR=[41]:=rfl;rw[hw5]at k5;have l5:=f5.len;have l3:O3.length=O2.length:=by rw[<-e3];simp
     suffices hx: ∃ts',dh false (a8 G false cl yl N jh) ⟨[0,4,5],[(5,some 1)],true⟩ kk mm (N'+1) ⟨[(0,.ptr p 0),(4,.ptr q4 0),(5,.ptr q5 0)],⟨O,R'⟩,[]⟩=some (.exit 0,⟨ts',⟨O5,R++[.app (ns.length+1) 9 1]⟩,[]⟩)/\look 4 ts'=.ptr q4 0/\look 5 ts'=.ptr q5 0 by
      obtain⟨ts',h1,h2,h3⟩:=hx;exact⟨O5,_,ts',.own R.length,h1,h2,h3,f5.old g45 hq5,r5,by omega,fun i hi hp h5=>by rw[f5.get i (by omega) hp];exact fr4 i hi hp h5⟩
     clear l2 l3 l4 l5 fr4 f2 f4 f5;by_cases hk1:(tkA L s.i).k=1
     ·have h17:((ns.length:Int)==17)=false:=by simpa using hcond true (by simp[hk1]) rfl
      rw[hk1]at k1;apply Exists.intro;apply And.intro
      ·simp -implicitDefEqProofs [-dI,dh,jh,hR',k1,g5m,h17,k2,g2m,hap,e3m,k4,k5];rfl
      ·refine⟨?_,?_⟩<;>first|rfl|simp
     ·apply Exists.intro;apply And.intro
      ·simp -implicitDefEqProofs [-dI,dh,jh,hR',k1,g5m,show((tkA L s.i).k==1)=false by simp[hk1],k2,g2m,hap,e3m,k4,k5];rfl
      ·refine⟨?_,?_⟩<;>first|rfl|simp
  ·rw[if_neg he]at e;simp only[Option.some.injEq]at e;subst e;obtain⟨Y,rfl⟩:=hRY;have he':(s.e==0)=false:=by simp[he]
   suffices hx: ∃ts',dh false (a8 G false cl yl N jh) ⟨[0,4,5],[(5,some 1)],true⟩ kk mm (N'+1) ⟨[(0,.ptr p 0),(4,.ptr q4 0),(5,.ptr q5 0)],⟨O,R++Y⟩,[]⟩=some (.exit 0,⟨ts',⟨O,R++Y⟩,[]⟩)/\look 4 ts'=.ptr q4 0/\look 5 ts'=.ptr q5 0 by
    obtain⟨ts',h1,h2,h3⟩:=hx;exact⟨O,Y,ts',s1,h1,h2,h3,g5,hR,Nat.le_refl _,fun _ _ _ _=>rfl⟩
   apply Exists.intro;apply And.intro
   ·simp -implicitDefEqProofs [dh,jh,hR',he,he'];rfl
   ·refine⟨?_,?_⟩<;>first|rfl|simp
theorem NJ (hL:Lok L) (hbL:L.length<big) (f:Str) (H:Nat) (h:Rd O p sp L s) (hi:s.i+1<L.length) {r:Nd×Ps} (e:iE L f H s=some r) (hH:H<big) (hN:H<N)
  (h132:rF cl p sp L) (h133:my cl p sp L) (h134:jU cl p sp L) (h137:mz cl p sp L) (h138:pZ cl p sp L):
  RN (dr G false cl yl N rc [.ptr p 0,.str f] ⟨O,R⟩) r.1 p sp L r.2 O R:=by
 have hp:p<O.length:=(List.getElem?_eq_some_iff.1 h).1;unfold big at hbL hH;have w1:dj .i64 ((s.i:Int)+1)=((s.i+1:Nat):Int):=dF (by omega);have h':=h.app [.cells zz6,.cells (icC .full [f])];have r1:=h'.put (adv s);obtain⟨OA,hOA⟩: ∃OA,(O++[Obj.cells zz6,.cells (icC .full [f])]).set p (.cells (rdc sp L (adv s)))=OA:=⟨_,rfl⟩
 rw[hOA]at r1;have f1:Fro p (O++[.cells zz6,.cells (icC .full [f])]) OA:=by rw[<-hOA];exact .set _ _ _
 have ez:(O++[.cells zz6,.cells (icC .full [f])])[O.length]? =some (.cells zz6):=by simp
 have e5:(O++[.cells zz6,.cells (icC .full [f])])[O.length+1]? =some (.cells (icC .full [f])):=by simp
 obtain⟨O2,k2,f2,r2⟩:=h134 OA R (adv s) wR r1 hi;have f12:=f1.trans f2;have z2:=f12.old ez (by omega);have g2:=f12.old e5 (by omega);have l2:=f12.len;rw[List.length_append]at l2;simp only[List.length_cons,List.length_nil]at l2;have hw:wR=[41]:=rfl;unfold iE at e;rw[hw]at e k2 r2;unfold iU at r2;unfold Rd rdc at h';unfold icC at h';unfold rdc adv at hOA;unfold icC at hOA;cases h1:isS L (adv s) [41]with
 |true=>
  rw[h1]at e k2 r2;rw[if_pos rfl]at e r2;simp only[Option.some.injEq]at e;subst e;obtain⟨O9,e9,g9,n9,m9⟩:=fe (.cells (icN .full .full (.mk 10 [f] 0 0 0 []))) (List.getElem?_eq_some_iff.1 z2).1;refine⟨.full,.full,O9,[],?_,⟨by omega,fun i hi hp=>?_⟩,?_⟩
  ·have hnd:icN .full .full (.mk 10 [f] 0 0 0 [])=[.int .i64 10,.slc .full [.str f],.int .i64 0,.int .i64 0,.int .i64 0,.slc .full []]:=rfl;rw[hnd]at e9 g9⊢;unfold icC at g2;clear n9 m9 l2
   try simp -implicitDefEqProofs at hOA
   try simp -implicitDefEqProofs at h'
   try simp -implicitDefEqProofs at g2
   simp -implicitDefEqProofs [rc,h',w1,hOA,k2,g2,z2,e9,g9]
  ·rw[n9 i (by omega),f12.get i (by rw[List.length_append];omega) hp,List.getElem?_append_left hi]
  ·unfold Rd;rw[n9 p (by omega)];exact r2
 |false=>
  rw[h1]at e k2 r2;rw[if_neg (by decide)]at e r2;simp only[Option.map_eq_some_iff]at e;obtain⟨q,hq,rfl⟩:=e;obtain⟨O3,Y,ts',s3,j1,j2,j3,j4,j5,j6,j7⟩:=NI (G:=G) (yl:=yl) (N:=N) hL f (q4:=O.length) (q5:=O.length+1) h132 h133 h134 h137 h138 (by omega) (by omega) (by omega) O2.length R.length H [f] (adv s) q O2 R R .full N hq hN (by simp;omega) r2 hi (.inl ⟨rfl,rfl⟩) z2 g2;have z3:O3[O.length]? =some (.cells zz6):=by rw[j7 _ (by omega) (by omega) (by omega)];exact z2
  obtain⟨O9,e9,g9,n9,m9⟩:=fe (.cells (icC s3 q.1)) (List.getElem?_eq_some_iff.1 z3).1;refine⟨s3,.full,O9,Y,?_,⟨by omega,fun i hi hp=>?_⟩,?_⟩
  ·have hnd:icN s3 .full (.mk 10 q.1 0 0 0 [])=[.int .i64 10,.slc s3 (q.1.map .str),.int .i64 0,.int .i64 0,.int .i64 0,.slc .full []]:=rfl;rw[hnd];unfold icC at g2 j4 e9 g9;clear n9 m9 l2 j6 j7
   try simp -implicitDefEqProofs at hOA
   try simp -implicitDefEqProofs at h'
   try simp -implicitDefEqProofs at g2
   simp -implicitDefEqProofs [rc,h',w1,hOA,k2,g2,z2,j1,j2,j3,j4,z3,e9,g9]
  ·rw[n9 i (by omega),j7 i (by omega) hp (by omega),f12.get i (by rw[List.length_append];omega) hp,List.getElem?_append_left hi]
  ·unfold Rd;rw[n9 p (by omega)];exact j5
end
def lD:List (AV×AV):=[(.str [116,114,117,101],.agg [.fn 242 [] []]),(.str [102,97,108,115,101],.agg [.fn 243 [] []]),(.str [115,105,122,101],.agg [.fn 244 [] []]),(.str [111,110,101],.agg [.fn 246 [] []]),
 (.str [110,111,116],.agg [.fn 247 [] []]),(.str [115,111,109,101],.agg [.fn 250 [] []]),(.str [101,118,101,114,121],.agg [.fn 252 [] []]),(.str [40],.agg [.fn 253 [] []])]
def fnW (w:Str):Option Nat:=
 if w=gA then some 242 else if w=gB then some 243 else if w=gn then some 244 else if w=go then some 246
 else if w=fH then some 247 else if w=gc then some 250 else if w=gf then some 252 else if w=wL then some 253 else none
theorem CK (w:Str):find (.str w) lD=some ((fnW w).map fun f=>.agg [.fn f [] []]):=by
 have st: ∀(c:Str) (x:AV) (es:List (AV×AV)),find (.str w) ((.str c,x)::es)=if w=c then some (some x)else find (.str w) es:=by
  intro c x es;simp only[find,eqK];by_cases h:w=c
  ·rw[if_pos h,h];simp
  ·rw[if_neg h];have:(w==c)=false:=by simpa using h
   rw[this]
 unfold lD fnW gA gB gn go fH gc gf wL;simp only[st]
 repeat' split
 all_goals rfl
section
variable {G:Gls} {cl:a7} {yl:a7} {N:Nat}
variable {p:Nat} {sp:Sp} {L:List Tk} {O:List Obj} {R:List Arr} {s:Ps}
theorem NK:dr G false cl yl N tT [] ⟨O,R⟩=some (.map O.length,⟨O++[.map lD],R⟩):=by
 simp -implicitDefEqProofs [tT,rU,i8,put,eqK,lD]
theorem NL (h:Rd O p sp L s) (hi:s.i<L.length) (h132:rF cl p sp L) (h228: ∀O R,cl 228 [] ⟨O,R⟩=some (.map O.length,⟨O++[.map lD],R⟩)) (r:Nd×Ps)
  (hA: ∀f,(tkA L s.i).k=3\/(tkA L s.i).k=4->s.e=0->fnW (tkA L s.i).tx=some f-> ∀O',FrN O.length p O O'->Rd O' p sp L s->RN (cl f [.ptr p 0] ⟨O',R⟩) r.1 p sp L r.2 O' R)
  (hB: ¬(((tkA L s.i).k=3\/(tkA L s.i).k=4)/\s.e=0/\ ∃f,fnW (tkA L s.i).tx=some f)-> ∀O',Rd O' p sp L s->RN (cl 229 [.ptr p 0] ⟨O',R⟩) r.1 p sp L r.2 O' R):
  RN (dr G false cl yl N kz [.ptr p 0] ⟨O,R⟩) r.1 p sp L r.2 O R:=by
 have hp:p<O.length:=(List.getElem?_eq_some_iff.1 h).1;obtain⟨X,k1⟩:=h132 (O++[.cells zz6]) R s (h.app _) hi;generalize tkA L s.i=t at*;have hT:Rd (O++Obj.cells zz6::(X++[Obj.cells (tkC t)])) p sp L s:=h.app _;have hz1:(O++Obj.cells zz6::(X++[Obj.cells (tkC t)]))[O.length]? =some (.cells zz6):=by simp
 have hTt:(O++Obj.cells zz6::(X++[Obj.cells (tkC t)]))[O.length+(X.length+1)]? =some (.cells (tkC t)):=by
  rw[List.getElem?_append_right (by omega),show O.length+(X.length+1) - O.length=X.length+1 from by omega,List.getElem?_cons_succ];simp
 have hfr: ∀i,i<O.length->(O++Obj.cells zz6::(X++[Obj.cells (tkC t)]))[i]? =O[i]?:=fun i hi=>List.getElem?_append_left hi;have hln:(O++Obj.cells zz6::(X++[Obj.cells (tkC t)])).length=O.length+X.length+2:=by simp;omega
 obtain⟨O1,hO1⟩: ∃O1,O++Obj.cells zz6::(X++[Obj.cells (tkC t)])=O1:=⟨_,rfl⟩
 rw[hO1]at hT hTt hfr hz1 hln;have f0: ∀Y,Fro p (O++[.cells zz6]) (O1++Y):=fun Y=>by
  refine⟨by simp;omega,fun i hi hp=>?_⟩;rw[List.length_append,List.length_singleton]at hi;by_cases hi':i<O.length
  ·rw[List.getElem?_append_left (by omega),hfr i hi',List.getElem?_append_left hi']
  ·have:i=O.length:=by omega
   subst this;rw[List.getElem?_append_left (by omega),hz1];simp
 have hTt':=fun Y=>dD hTt Y;have hT':=fun Y=>dD hT Y;rw[List.append_assoc]at k1;unfold tkv at k1;unfold tkC at k1 hO1 hTt hTt';unfold rdc at hT';have fin: ∀(f:Nat) (Y:List Obj),(∀O',FrN O.length p O O'->Rd O' p sp L s->RN (cl f [.ptr p 0] ⟨O',R⟩) r.1 p sp L r.2 O' R)-> ∃s1 s2 O3 Z O9,cl f [.ptr p 0] ⟨O1++Y,R⟩=some (.agg (icN s1 s2 r.1),⟨O3,R++Z⟩)/\O3.set O.length (.cells (icN s1 s2 r.1))=O9/\Fro p O O9/\Rd O9 p sp L r.2/\O3[O.length]? =some (.cells zz6)/\O9[O.length]? =some (.cells (icN s1 s2 r.1)):=by
  intro f Y hf;obtain⟨s1,s2,O3,Z,k2,f2,r2⟩:=hf (O1++Y) (fun i hi hp=>by rw[List.getElem?_append_left (by omega)];exact hfr i hi) (hT.app Y);obtain⟨O9,e9,q1,q2,q3,q4⟩:=fM (.cells (icN s1 s2 r.1)) hp ((f0 Y).trans f2) r2;exact⟨s1,s2,O3,Z,O9,k2,e9,q1,q2,q3,q4⟩
 clear hln f0 hfr hz1 hi h hT;by_cases hk:t.k=3\/t.k=4
 ·have hk3:(t.k==3)=true\/((t.k==3)=false/\(t.k==4)=true):=by
   by_cases h3:t.k=3
   ·left;simp[h3]
   ·right;rcases hk with h|h
    ·exact absurd h h3
    ·simp[h]
  cases hw:fnW t.tx with
  |some f=>
   have hfd:=CK t.tx;rw[hw]at hfd;simp only[Option.map_some]at hfd;by_cases he:s.e=0
   ·obtain⟨s1,s2,O3,Z,O9,k2,e9,q1,q2,q3,q4⟩:=fin f [.cells [.fn f [] []],.map lD] (hA f hk he hw);refine⟨s1,s2,O9,Z,?_,q1,q2⟩;unfold icN at k2 e9 q4⊢;rcases hk3 with h3|⟨h3,h4⟩
    ·simp -implicitDefEqProofs [kz,k1,hO1,hTt,hTt',h3,h228,gY,i8,hfd,hT',he,k2,e9,q3,q4]
    ·simp -implicitDefEqProofs [kz,k1,hO1,hTt,hTt',h3,h4,h228,gY,i8,hfd,hT',he,k2,e9,q3,q4]
   ·obtain⟨s1,s2,O3,Z,O9,k2,e9,q1,q2,q3,q4⟩:=fin 229 [.cells [.fn f [] []],.map lD] (fun O' _ hr=>hB (fun h=>he h.2.1) O' hr);have he':(s.e==0)=false:=by simp[he]
    refine⟨s1,s2,O9,Z,?_,q1,q2⟩;unfold icN at k2 e9 q4⊢;rcases hk3 with h3|⟨h3,h4⟩
    ·simp -implicitDefEqProofs [kz,k1,hO1,hTt,hTt',h3,h228,gY,i8,hfd,hT',he',k2,e9,q3,q4]
    ·simp -implicitDefEqProofs [kz,k1,hO1,hTt,hTt',h3,h4,h228,gY,i8,hfd,hT',he',k2,e9,q3,q4]
  |none=>
   have hfd:=CK t.tx;rw[hw]at hfd;simp only[Option.map_none]at hfd;obtain⟨s1,s2,O3,Z,O9,k2,e9,q1,q2,q3,q4⟩:=fin 229 [.cells [.undef],.map lD] (fun O' _ hr=>hB (fun⟨_,_,f,hf⟩=>by rw[hw]at hf;cases hf) O' hr);refine⟨s1,s2,O9,Z,?_,q1,q2⟩;unfold icN at k2 e9 q4⊢;rcases hk3 with h3|⟨h3,h4⟩
   ·simp -implicitDefEqProofs [kz,k1,hO1,hTt,hTt',h3,h228,gY,i8,hfd,hT',k2,e9,q3,q4]
   ·simp -implicitDefEqProofs [kz,k1,hO1,hTt,hTt',h3,h4,h228,gY,i8,hfd,hT',k2,e9,q3,q4]
 ·have h3:(t.k==3)=false:=by simp;omega
  have h4:(t.k==4)=false:=by simp;omega
  obtain⟨s1,s2,O3,Z,O9,k2,e9,q1,q2,q3,q4⟩:=fin 229 [] (fun O' _ hr=>hB (fun h=>hk h.1) O' hr);refine⟨s1,s2,O9,Z,?_,q1,q2⟩;rw[List.append_nil]at k2;unfold icN at k2 e9 q4⊢;simp -implicitDefEqProofs [kz,k1,hO1,hTt,hTt',h3,h4,k2,e9,q3,q4]
end
section
variable {G:Gls} {cl:a7} {yl:a7} {N:Nat}
theorem NM {mu:Bool} (x:Opd) (ps:List Nat) (asg body:dH) (s:St):a8 G mu cl yl N (.rng x ps asg body) s=(match target (x.val G s.ts) [.yld (s.m.objs.length+1)]with
  |some (f,ags)=>match cl f ags (newObj (newObj s.m .mark) (.loop true none s.ts ps asg body))with
   |some (_,M)=>match M.objs[s.m.objs.length+1]? with
    |some (.loop true none _ _ _ _)=>some (.normal,⟨s.ts,setObj M (s.m.objs.length+1) .dead,s.m.objs.length::s.mks⟩)
    |some (.loop false (some e) _ _ _ _)=>some (e,⟨s.ts,setObj M (s.m.objs.length+1) .dead,s.m.objs.length::s.mks⟩)
    |_=>none
   |none=>none
  |none=>none):=by simp only[a8];rfl
def ixB (len j:Nat):Int:=(len:Int) - 1 - j
end
section
variable {G:Gls} {cl:a7} {yl:a7} {N:Nat}
variable {p:Nat} {sp:Sp} {L:List Tk} {O:List Obj} {R:List Arr} {s:Ps}
theorem NN (h:Rd O p sp L s) (r:Nd×Ps) (h139: ∀O' b,FrN O.length p O O'->Rd O' p sp L s->O'[b]? =some (.cells [.ptr p 0])->b≠p->RN (cl 139 [.ptr p 0,.str wOr,.int .i64 13,.fn 217 [] [.ptr b 0]] ⟨O',R⟩) r.1 p sp L r.2 O' R):RN (dr G false cl yl N tI [.ptr p 0] ⟨O,R⟩) r.1 p sp L r.2 O R:=by
 have hp:p<O.length:=(List.getElem?_eq_some_iff.1 h).1;obtain⟨s1,s2,O2,Y,k2,f2,r2⟩:=h139 (O++[.cells [.ptr p 0],.cells zz6]) O.length (fun i hi _=>List.getElem?_append_left hi) (h.app _) (by simp) (by omega);have g:O2[O.length+1]? =some (.cells zz6):=f2.old (by simp) (by omega);have g0:O2[O.length]? =some (.cells [.ptr p 0]):=f2.old (by simp) (by omega);obtain⟨O9,e9,g9,n9,m9⟩:=fe (.cells (icN s1 s2 r.1)) (List.getElem?_eq_some_iff.1 g).1;have l2:=f2.len;rw[List.length_append]at l2;refine⟨s1,s2,O9,Y,?_,⟨by omega,fun i hi hp=>?_⟩,?_⟩
 ·clear n9 m9 l2;have hw:wOr=[111,114]:=rfl;rw[hw]at k2;unfold icN at k2 e9 g9⊢
  try simp -implicitDefEqProofs at k2
  simp -implicitDefEqProofs [tI,k2,g,e9,g9]
 ·rw[n9 i (by omega),f2.get i (by simp;omega) hp,List.getElem?_append_left hi]
 ·unfold Rd;rw[n9 p (by omega)];exact r2
theorem NO (h:Rd O p sp L s) {b:Nat} (hbx:O[b]? =some (.cells [.ptr p 0])) (r:Nd×Ps) (h139: ∀O',FrN O.length p O O'->Rd O' p sp L s->RN (cl 139 [.ptr p 0,.str jP,.int .i64 12,.fn 218 [.ptr p 0] []] ⟨O',R⟩) r.1 p sp L r.2 O' R):RN (dr G false cl yl N tP [.ptr b 0] ⟨O,R⟩) r.1 p sp L r.2 O R:=by
 have hp:p<O.length:=(List.getElem?_eq_some_iff.1 h).1;obtain⟨s1,s2,O2,Y,k2,f2,r2⟩:=h139 (O++[.cells zz6]) (fun i hi _=>List.getElem?_append_left hi) (h.app _);obtain⟨O9,e9,q1,q2,q3,q4⟩:=fM (.cells (icN s1 s2 r.1)) hp f2 r2;have hb':=dD hbx [.cells zz6];refine⟨s1,s2,O9,Y,?_,q1,q2⟩;have hw:jP=[97,110,100]:=rfl;rw[hw]at k2;unfold icN at k2 e9 q4⊢
 try simp -implicitDefEqProofs at k2
 simp -implicitDefEqProofs [tP,hb',k2,e9,q3,q4]
theorem NP (h:Rd O p sp L s) (r:Nd×Ps) (h139: ∀O',FrN O.length p O O'->Rd O' p sp L s->RN (cl 139 [.ptr p 0,.str jQ,.int .i64 15,.fn 140 [.ptr p 0] []] ⟨O',R⟩) r.1 p sp L r.2 O' R):RN (dr G false cl yl N c81 [.ptr p 0] ⟨O,R⟩) r.1 p sp L r.2 O R:=by
 have hp:p<O.length:=(List.getElem?_eq_some_iff.1 h).1;obtain⟨s1,s2,O2,Y,k2,f2,r2⟩:=h139 (O++[.cells zz6]) (fun i hi _=>List.getElem?_append_left hi) (h.app _);obtain⟨O9,e9,q1,q2,q3,q4⟩:=fM (.cells (icN s1 s2 r.1)) hp f2 r2;refine⟨s1,s2,O9,Y,?_,q1,q2⟩;have hw:jQ=[105,102,102]:=rfl;rw[hw]at k2;unfold icN at k2 e9 q4⊢
 try simp -implicitDefEqProofs at k2
 simp -implicitDefEqProofs [c81,k2,e9,q3,q4]
theorem ya (n:Nd): ∃s1 s2,ndc n=icN s1 s2 n:=by
 cases n;exact⟨_,_,rfl⟩
theorem NQ (sp1:Sp) (es:List AV):dr G false cl yl N tJ [.slc sp1 es] ⟨O,R⟩=some (.fn 219 [] [.ptr O.length 0],⟨O++[.cells [.slc sp1 es]],R⟩):=by
 simp -implicitDefEqProofs [tJ]
theorem NR {q:Nat} {ts:dx} (n:Nd) (i:Int) (hts:look 4 ts=.ptr q 0): ∃ts',a8 G false cl yl N fE ⟨lJ [29,30] [.int .i64 i,av n] ts,⟨O,R⟩,[]⟩=some (.normal,⟨ts',⟨O++[.cells (ndc n)],R⟩,[]⟩)/\look 6 ts'=.ptr O.length 0/\look 4 ts'=.ptr q 0:=by
 apply Exists.intro;apply And.intro
 ·simp -implicitDefEqProofs [lJ,fE];rfl
 ·simpa using hts
theorem NS {z q:Nat} {ts:dx} {s1 s2:Sp} (n m:Nd) (h6:look 6 ts=.ptr z 0) (h4:look 4 ts=.ptr q 0) (hz:O[z]? =some (.cells (ndc n))) (hq:O[q]? =some (.cells (icN s1 s2 m))) {O3:List Obj} (h3:O.set q (.cells (icN .full .full (nd 14 [n,m])))=O3):
  ∃ts',a8 G false cl yl N fF ⟨ts,⟨O,R⟩,[]⟩=some (.normal,⟨ts',⟨O3,R⟩,[]⟩):=by
 have hnd:icN .full .full (nd 14 [n,m])=[.int .i64 14,.slc .full [],.int .i64 0,.int .i64 0,.int .i64 0,.slc .full [av n,av m]]:=rfl;rw[hnd]at h3;unfold icN at hq;apply Exists.intro;simp -implicitDefEqProofs [fF,h6,h4,hz,hq,h3];rfl
theorem NT {id q:Nat} {ts:dx} {s1 s2:Sp} (n m:Nd) (i:Int) (hid:O[id]? =some (.loop true none ts [29,30] fE fF)) (hts:look 4 ts=.ptr q 0) (hq:O[q]? =some (.cells (icN s1 s2 m))) (hqi:q≠id):
  ∃O',qk G false cl yl N id [.int .i64 i,av n] ⟨O,R⟩=some (.bool true,⟨O',R⟩)/\O'[q]? =some (.cells (icN .full .full (nd 14 [n,m])))/\O'[id]? =some (.loop true none ts [29,30] fE fF)/\O.length<=O'.length/\ ∀i,i<O.length->i≠q->i≠id->O'[i]? =O[i]?:=by
 have h1:=dD hid [.cells (ndc n)];have hl1:=(List.getElem?_eq_some_iff.1 h1).1;have hlo:=(List.getElem?_eq_some_iff.1 hid).1;have hlq:=(List.getElem?_eq_some_iff.1 hq).1;obtain⟨O2,e2,g2,n2,m2⟩:=fe (.loop false none ts [29,30] fE fF) hl1;have q2:O2[q]? =some (.cells (icN s1 s2 m)):=by rw[n2 q hqi];exact dD hq _
 have z2:O2[O.length]? =some (.cells (ndc n)):=by rw[n2 _ (by omega)];simp
 obtain⟨O3,e3,g3,n3,m3⟩:=fe (.cells (icN .full .full (nd 14 [n,m]))) (List.getElem?_eq_some_iff.1 q2).1;have i3:O3[id]? =some (.loop false none ts [29,30] fE fF):=by rw[n3 id (by omega)];exact g2
 obtain⟨O4,e4,g4,n4,m4⟩:=fe (.loop true none ts [29,30] fE fF) (List.getElem?_eq_some_iff.1 i3).1;rw[List.length_append,List.length_singleton]at m2;refine⟨O4,?_,by rw[n4 q hqi];exact g3,g4,by omega,fun i hi hq hid=>by rw[n4 i hid,n3 i hq,n2 i hid,List.getElem?_append_left hi]⟩;obtain⟨ts1,a1,a2,a3⟩:=NR (G:=G) (cl:=cl) (yl:=yl) (N:=N) (O:=O) (R:=R) n i hts;obtain⟨ts2,b1⟩:=NS (G:=G) (cl:=cl) (yl:=yl) (N:=N) (R:=R) n m a2 a3 z2 q2 e3;unfold qk;simp only[hid,List.length_cons,List.length_nil,if_true,a1,h1,setObj,e2,b1,i3,e4]
theorem NU (l:List Nd) (m:Nd) {id q b:Nat} {ts:dx} {s1 s2 sp1:Sp} (hl:l.length<big) (hN:l.length<N) (hid:O[id]? =some (.loop true none ts [29,30] fE fF)) (hts:look 4 ts=.ptr q 0) (hq:O[q]? =some (.cells (icN s1 s2 m))) (hb:O[b]? =some (.cells [.slc sp1 (avL l)])) (hqi:q≠id) (hbi:b≠id) (hbq:b≠q) (kk mm:Nat)
  (hy: ∀(O:List Obj) (s1 s2:Sp) (n m:Nd) (i:Int),O[id]? =some (.loop true none ts [29,30] fE fF)->O[q]? =some (.cells (icN s1 s2 m))-> ∃O',yl id [.int .i64 i,av n] ⟨O,R⟩=some (.bool true,⟨O',R⟩)/\O'[q]? =some (.cells (icN .full .full (nd 14 [n,m])))/\O'[id]? =some (.loop true none ts [29,30] fE fF)/\O.length<=O'.length/\ ∀i,i<O.length->i≠q->i≠id->O'[i]? =O[i]?):
  ∃e s',dh false (a8 G false cl yl N nG) ⟨[0,1,3],[(3,none)],true⟩ kk mm N ⟨[(0,.yld id),(1,.ptr b 0),(3,.int .i64 (ixB l.length 0))],⟨O,R⟩,[]⟩=some (e,s')/\e≠ .normal/\(e=.exit 0/\s'.mks=[]/\
   ∃O1 s3 s4,s'.m=⟨O1,R⟩/\O1[q]? =some (.cells (icN s3 s4 (l.foldr (fun n r=>nd 14 [n,r]) m)))/\O1[id]? =some (.loop true none ts [29,30] fE fF)/\O.length<=O1.length/\ ∀i,i<O.length->i≠q->i≠id->O1[i]? =O[i]?):=by
 unfold big at hl;refine eN (mu:=false) (step:=a8 G false cl yl N nG) (an:=⟨[0,1,3],[(3,none)],true⟩) (k:=kk) (m:=mm) (N:=N) l (fun _=>(none:Option Unit))
  (fun j st=> ∃O1 s3 s4,st=⟨[(0,.yld id),(1,.ptr b 0),(3,.int .i64 (ixB l.length j))],⟨O1,R⟩,[]⟩/\O1[q]? =some (.cells (icN s3 s4 ((l.drop (l.length - j)).foldr (fun n r=>nd 14 [n,r]) m)))/\O1[id]? =some (.loop true none ts [29,30] fE fF)/\O.length<=O1.length/\ ∀i,i<O.length->i≠q->i≠id->O1[i]? =O[i]?)
  (fun r e s'=>e=.exit 0/\s'.mks=[]/\
   ∃O1 s3 s4,s'.m=⟨O1,R⟩/\O1[q]? =some (.cells (icN s3 s4 (l.foldr (fun n r=>nd 14 [n,r]) m)))/\O1[id]? =some (.loop true none ts [29,30] fE fF)/\O.length<=O1.length/\ ∀i,i<O.length->i≠q->i≠id->O1[i]? =O[i]?) hN ⟨O,s1,s2,rfl,by simpa using hq,hid,Nat.le_refl _,fun _ _ _ _=>rfl⟩ ?_ ?_
 ·rintro j x st hx hjl ⟨O1,s3,s4,rfl,g1,g2,g3,g4⟩;obtain⟨i,hi⟩: ∃i,l.length=j+1+i:=⟨l.length - j - 1,by omega⟩
  have hil:i<l.length:=by omega
  have e1:ixB l.length j=(i:Int):=by unfold ixB;omega
  have w1:dj .i64 ((i:Int) - 1)=ixB l.length (j+1):=by rw[dJ (by omega) (by omega)];unfold ixB;omega
  have d1:l.drop (l.length - (j+1))=l[i]::l.drop (l.length - j):=by
   have a1:l.length - (j+1)=i:=by omega
   have a2:l.length - j=i+1:=by omega
   rw[a1,a2,List.drop_eq_getElem_cons hil]
  have hp:(0:Int)<=(i:Int):=by omega
  obtain⟨O2,y1,y2,y3,y4,y5⟩:=hy O1 s3 s4 l[i] _ (i:Int) g2 g1;have hb1:O1[b]? =some (.cells [.slc sp1 (avL l)]):=by rw[g4 b (List.getElem?_eq_some_iff.1 hb).1 hbq hbi];exact hb
  have fin: ∃O3 s3 s4,(⟨[(0,.yld id),(1,.ptr b 0),(3,.int .i64 (ixB l.length (j+1)))],⟨O2,R⟩,[]⟩:St)=⟨[(0,.yld id),(1,.ptr b 0),(3,.int .i64 (ixB l.length (j+1)))],⟨O3,R⟩,[]⟩/\O3[q]? =some (.cells (icN s3 s4 ((l.drop (l.length - (j+1))).foldr (fun n r=>nd 14 [n,r]) m)))/\O3[id]? =some (.loop true none ts [29,30] fE fF)/\O.length<=O3.length/\ ∀i,i<O.length->i≠q->i≠id->O3[i]? =O[i]?:=
   ⟨O2,.full,.full,rfl,by rw[d1];exact y2,y3,by omega,fun i hi hq hid=>by rw[y5 i (by omega) hq hid];exact g4 i hi hq hid⟩
  clear g1 g3 g4 y2 y4 y5 d1;generalize hF:(∃O3 s3 s4,(⟨[(0,.yld id),(1,.ptr b 0),(3,.int .i64 (ixB l.length (j+1)))],⟨O2,R⟩,[]⟩:St)=⟨[(0,.yld id),(1,.ptr b 0),(3,.int .i64 (ixB l.length (j+1)))],⟨O3,R⟩,[]⟩/\O3[q]? =some (.cells (icN s3 s4 ((l.drop (l.length - (j+1))).foldr (fun n r=>nd 14 [n,r]) m)))/\O3[id]? =some (.loop true none ts [29,30] fE fF)/\O.length<=O3.length/\ ∀i,i<O.length->i≠q->i≠id->O3[i]? =O[i]?)=F at fin;have step: ∃ts1,a8 G false cl yl N nG ⟨[(0,.yld id),(1,.ptr b 0),(3,.int .i64 (ixB l.length j))],⟨O1,R⟩,[]⟩=some (.normal,⟨ts1,⟨O2,R⟩,[]⟩)/\fP ts1 [0,1,3]=[(0,.yld id),(1,.ptr b 0),(3,.int .i64 (ixB l.length (j+1)))]:=by
   apply Exists.intro;apply And.intro
   ·simp -implicitDefEqProofs [nG,e1,w1,hp,hb1,hil,y1];rfl
   ·first|rfl|simp
  obtain⟨ts1,st1,st2⟩:=step;rw[st1];simp only[fk,eI,Bool.false_eq_true,if_false,if_true,st2];exact⟨trivial,by rw[hF];exact fin⟩
 ·rintro st ⟨O1,s3,s4,rfl,g1,g2,g3,g4⟩;have e1:decide (ixB l.length l.length>=0)=false:=by simp[ixB];omega
  rw[Nat.sub_self,List.drop_zero]at g1;have step: ∃ts1,a8 G false cl yl N nG ⟨[(0,.yld id),(1,.ptr b 0),(3,.int .i64 (ixB l.length l.length))],⟨O1,R⟩,[]⟩=some (.exit 0,⟨ts1,⟨O1,R⟩,[]⟩):=by
   apply Exists.intro;simp -implicitDefEqProofs [nG,e1];rfl
  obtain⟨ts1,st1⟩:=step;rw[st1];exact⟨by simp,rfl,rfl,O1,s3,s4,rfl,g1,g2,g3,g4⟩
theorem NV (l:List Nd) (m:Nd) {id q b:Nat} {ts:dx} {s1 s2 sp1:Sp} (hl:l.length<big) (hN:l.length<N) (hid:O[id]? =some (.loop true none ts [29,30] fE fF)) (hts:look 4 ts=.ptr q 0) (hq:O[q]? =some (.cells (icN s1 s2 m))) (hb:O[b]? =some (.cells [.slc sp1 (avL l)])) (hqi:q≠id) (hbi:b≠id) (hbq:b≠q)
  (hy: ∀(O:List Obj) (s1 s2:Sp) (n m:Nd) (i:Int),O[id]? =some (.loop true none ts [29,30] fE fF)->O[q]? =some (.cells (icN s1 s2 m))-> ∃O',yl id [.int .i64 i,av n] ⟨O,R⟩=some (.bool true,⟨O',R⟩)/\O'[q]? =some (.cells (icN .full .full (nd 14 [n,m])))/\O'[id]? =some (.loop true none ts [29,30] fE fF)/\O.length<=O'.length/\ ∀i,i<O.length->i≠q->i≠id->O'[i]? =O[i]?):
  ∃O1 s3 s4,dr G false cl yl N tQ [.yld id,.ptr b 0] ⟨O,R⟩=some (.tup [],⟨O1,R⟩)/\O1[q]? =some (.cells (icN s3 s4 (l.foldr (fun n r=>nd 14 [n,r]) m)))/\O1[id]? =some (.loop true none ts [29,30] fE fF)/\O.length<=O1.length/\ ∀i,i<O.length->i≠q->i≠id->O1[i]? =O[i]?:=by
 obtain⟨e,⟨ts',M,mks⟩,k1,-,rfl,rfl,O1,s3,s4,rfl,g1,g2,g3,g4⟩:=NU (G:=G) (cl:=cl) l m hl hN hid hts hq hb hqi hbi hbq O.length R.length hy;refine⟨O1,s3,s4,?_,g1,g2,g3,g4⟩;unfold big at hl;have w0:dj .i64 ((l.length:Int) - 1)=ixB l.length 0:=by rw[dJ (by omega) (by omega)];simp[ixB]
 simp -implicitDefEqProofs [tQ,hb,w0,k1]
end
def ApF (n:Nat) (R:List Arr) (s1:Sp) (R':List Arr):Prop:=(∃Y,R'=R++Y)/\(s1=.full\/ ∃a,s1=.own a/\R.length<=a/\R'[a]? =some (.app n 40 6))
theorem ApF.app {n:Nat} {R R':List Arr} {s1:Sp} (h:ApF n R s1 R') (Y:List Arr):ApF n R s1 (R'++Y):=by
 obtain⟨⟨Z,rfl⟩,h⟩:=h;refine⟨⟨Z++Y,by simp⟩,?_⟩;rcases h with h|⟨a,h1,h2,h3⟩
 ·exact .inl h
 ·exact .inr ⟨a,h1,h2,dD h3 Y⟩
theorem NW {l:List Nd} {R R':List Arr} {s1:Sp} (h:ApF l.length R s1 R') (n:Nd) (O:List Obj) (hn:l.length<858993459200):
  ∃s2 R3,dI 40 (.ag 6) 80 (.slc s1 (avL l)) [av n] ⟨O,R'⟩=some (.slc s2 (avL (l++[n])),⟨O,R3⟩)/\ApF (l.length+1) R s2 R3:=by
 have h1:(l.length+1)*80<=140737488355328:=by omega
 have h2:l.length+1<=140737488355328:=by omega
 obtain⟨⟨Z,rfl⟩,h⟩:=h;rcases h with rfl|⟨a,rfl,h3,h4⟩
 ·refine⟨.own (R++Z).length,(R++Z)++[.app (l.length+1) 40 6],?_,⟨Z++[.app (l.length+1) 40 6],by simp⟩,.inr ⟨_,rfl,by simp,by simp⟩⟩;simp[dI,h1,h2];rw[lk];rfl
 ·have hlt:=(List.getElem?_eq_some_iff.1 h4).1;refine⟨.own a,(R++Z).set a (.app (l.length+1) 40 6),?_,⟨Z.set (a - R.length) (.app (l.length+1) 40 6),by rw[List.set_append_right _ _ h3]⟩,.inr ⟨_,rfl,h3,List.getElem?_set_self hlt⟩⟩;simp[dI,h1,h2,h4];rw[lk];rfl
theorem yb: ∀(l:List Nd) (x:Nd),chn (l++[x])=l.foldr (fun n r=>nd 14 [n,r]) x
 |[],x=>rfl
 |[a],x=>rfl
 |a::b::l,x=>by
  have:=yb (b::l) x;simp only[List.cons_append,chn,List.foldr_cons]at this⊢;rw[this]
section
variable {G:Gls} {cl:a7} {yl:a7} {N:Nat}
variable {p:Nat} {sp:Sp} {L:List Tk} {O:List Obj} {R:List Arr} {s:Ps}
theorem NX (hL:Lok L) (H:Nat) {q2:Nat} (h134:jU cl p sp L) (hc: ∀h',h'<=H-> ∀O R s r,Rd O p sp L s->Pre L s->pr' L h' .ors s=some r->RN (cl 192 [.ptr p 0] ⟨O,R⟩) r.1 p sp L r.2 O R) (kk mm:Nat):
  ∀(h:Nat) (l:List Nd) (s:Ps) (r:Nd×Ps) (O:List Obj) (R':List Arr) (s1:Sp) (N':Nat),h<=H->pr' L h (.tImp l) s=some r->h<N'->l.length+h<858993459200->l≠[]->Rd O p sp L s->Pre L s->ApF l.length R s1 R'->
   ∃(O':List Obj) (R3:List Arr) (ts':dx) (s3:Sp) (l':List Nd),dh false (a8 G false cl yl N pq) ⟨[0,2,3],[(3,none)],true⟩ kk mm N' ⟨[(0,.ptr p 0),(2,.ptr q2 0),(3,.slc s1 (avL l))],⟨O,R'⟩,[]⟩=some (.exit 0,⟨ts',⟨O',R3⟩,[]⟩)/\
    look 2 ts'=.ptr q2 0/\look 3 ts'=.slc s3 (avL l')/\r.1=chn l'/\l'≠[]/\l'.length<=l.length+h/\Rd O' p sp L r.2/\(∃Y,R3=R++Y)/\Fro p O O':=by
 intro h
 induction h with
 |zero=>intro l s r O R' s1 N' _ e;simp[pr']at e
 |succ h ih=>
  intro l s r O R' s1 N' hH e hN' hb hne hR hi hA;obtain⟨N',rfl⟩: ∃m,N'=m+1:=⟨N' - 1,by omega⟩
  simp only[pr']at e;obtain⟨O1,k1,f1,r1⟩:=h134 O R' s js hR hi.i;have hw:js=[105,109,112,108,105,101,115]:=rfl;unfold iU at r1;cases h1:isS L s js with
  |false=>
   rw[h1]at e k1 r1;rw[hw]at k1;simp only[Bool.false_eq_true,if_false,Option.some.injEq]at e r1;subst e
   suffices hx: ∃ts',dh false (a8 G false cl yl N pq) ⟨[0,2,3],[(3,none)],true⟩ kk mm (N'+1) ⟨[(0,.ptr p 0),(2,.ptr q2 0),(3,.slc s1 (avL l))],⟨O,R'⟩,[]⟩=some (.exit 0,⟨ts',⟨O1,R'⟩,[]⟩)/\look 2 ts'=.ptr q2 0/\look 3 ts'=.slc s1 (avL l)by
    obtain⟨ts',h1,h2,h3⟩:=hx;exact⟨O1,R',ts',s1,l,h1,h2,h3,rfl,hne,by omega,r1,hA.1,f1⟩
   apply Exists.intro;apply And.intro
   ·simp -implicitDefEqProofs [dh,pq,k1];rfl
   ·refine⟨?_,?_⟩<;>first|rfl|simp
  |true=>
   rw[h1]at e k1 r1;rw[hw]at k1;simp only[if_true,Option.bind_eq_some_iff]at e r1;obtain⟨q,e1,e2⟩:=e;have hi1:=hi.step (eS hL h1);obtain⟨a1,a2,O2,Y1,k2,f2,r2⟩:=hc h (by omega) O1 R' (adv s) q r1 hi1 e1;have hi2:=hi1.step (gD hL _ _ _ _ e1);obtain⟨s2,R3,hap,hA3⟩:=NW (hA.app Y1) q.1 O2 (by omega);obtain⟨O4,R4,ts',s3,l',j1,j2,j3,j4,j5,j6,j7,j8,j9⟩:=ih (l++[q.1]) q.2 r O2 R3 s2 N' (by omega) e2 (by omega) (by simp;omega) (by simp) r2 hi2 (by simpa using hA3);refine⟨O4,R4,ts',s3,l',?_,j2,j3,j4,j5,by simp at j6;omega,j7,j8,(f1.trans f2).trans j9⟩;rw[<-j1];have hpz:=iW a1 a2 q.1;unfold icN at k2 hpz;have step: ∃ts1,a8 G false cl yl N pq ⟨[(0,.ptr p 0),(2,.ptr q2 0),(3,.slc s1 (avL l))],⟨O,R'⟩,[]⟩=some (.normal,⟨ts1,⟨O2,R3⟩,[]⟩)/\fP ts1 [0,2,3]=[(0,.ptr p 0),(2,.ptr q2 0),(3,.slc s2 (avL (l++[q.1])))]:=by
    apply Exists.intro;apply And.intro
    ·simp -implicitDefEqProofs [-dI,pq,k1,k2,hpz,hap];rfl
    ·first|rfl|simp
   obtain⟨ts1,st1,st2⟩:=step;simp only[dh,st1,eI,Bool.false_eq_true,if_false,if_true,st2]
end
def p9:dH:=(.seq (.block 2 (.rng (.tmp 28) [29,30] fE fF)) (.seq (.reg [⟨some 35,(.load (.ag 6) (.tmp 4)),none⟩,⟨none,(.store 6 (.tmp 2) (.tmp 35)),none⟩]) .ret))
abbrev uK (cl:a7) (N:Nat):Prop:= ∀(l:List Nd) (m:Nd) {id q b:Nat} {ts:dx} {s1 s2 sp1:Sp} {O:List Obj} {R:List Arr},l.length<big->l.length<N->O[id]? =some (.loop true none ts [29,30] fE fF)->look 4 ts=.ptr q 0->O[q]? =some (.cells (icN s1 s2 m))->O[b]? =some (.cells [.slc sp1 (avL l)])->q≠id->b≠id->b≠q->
  ∃O1 s3 s4,cl 219 [.yld id,.ptr b 0] ⟨O,R⟩=some (.tup [],⟨O1,R⟩)/\O1[q]? =some (.cells (icN s3 s4 (l.foldr (fun n r=>nd 14 [n,r]) m)))/\O1[id]? =some (.loop true none ts [29,30] fE fF)/\O.length<=O1.length/\ ∀i,i<O.length->i≠q->i≠id->O1[i]? =O[i]?
section
variable {G:Gls} {cl:a7} {yl:a7} {N:Nat}
variable {p:Nat} {sp:Sp} {L:List Tk} {O:List Obj} {R:List Arr} {s:Ps}
theorem NY (l:List Nd) (m:Nd) {q b:Nat} {ts:dx} {s1 s2 sp1:Sp} (h219:uK cl N) (hl:l.length<big) (hN:l.length<N) (h28:look 28 ts=.fn 219 [] [.ptr b 0]) (h4:look 4 ts=.ptr q 0) (hq:O[q]? =some (.cells (icN s1 s2 m))) (hb:O[b]? =some (.cells [.slc sp1 (avL l)])) (hbq:b≠q):
  ∃O7 s3 s4,a8 G false cl yl N (.rng (.tmp 28) [29,30] fE fF) ⟨ts,⟨O,R⟩,[]⟩=some (.normal,⟨ts,⟨O7,R⟩,[O.length]⟩)/\O7[q]? =some (.cells (icN s3 s4 (l.foldr (fun n r=>nd 14 [n,r]) m)))/\O7[O.length]? =some .mark/\O.length<=O7.length/\ ∀i,i<O.length->i≠q->O7[i]? =O[i]?:=by
 have lq:=(List.getElem?_eq_some_iff.1 hq).1;have lb:=(List.getElem?_eq_some_iff.1 hb).1;obtain⟨O1,s3,s4,k1,g1,g2,g3,g4⟩:=h219 l m (id:=O.length+1) (q:=q) (b:=b) (ts:=ts) (O:=O++[.mark,.loop true none ts [29,30] fE fF]) (R:=R) hl hN (by simp) h4 (dD hq _) (dD hb _) (by omega) (by omega) hbq;obtain⟨O7,e7,g7,n7,m7⟩:=fe .dead (List.getElem?_eq_some_iff.1 g2).1;rw[List.length_append]at g3;refine⟨O7,s3,s4,?_,by rw[n7 q (by omega)];exact g1,?_,by omega,fun i hi hq=>by rw[n7 i (by omega),g4 i (by simp;omega) hq (by omega),List.getElem?_append_left hi]⟩
 ·rw[NM];simp only[Opd.val,h28,target,List.append_nil,List.nil_append,List.cons_append,newObj,List.append_assoc];simp only[k1,g2,setObj,e7]
 ·rw[n7 _ (by omega),g4 _ (by simp) (by omega) (by omega)];simp
theorem NZ (l:List Nd) (m:Nd) {q b q2:Nat} {ts:dx} {s1 s2 sp1:Sp} (h219:uK cl N) (hl:l.length<big) (hN:l.length<N) (h28:look 28 ts=.fn 219 [] [.ptr b 0]) (h4:look 4 ts=.ptr q 0) (h2:look 2 ts=.ptr q2 0) (hq:O[q]? =some (.cells (icN s1 s2 m))) (hb:O[b]? =some (.cells [.slc sp1 (avL l)])) (hbq:b≠q) (hz:O[q2]? =some (.cells zz6)) (hq2:q2≠q):
  ∃O9 s3 s4,(match a8 G false cl yl N p9 ⟨ts,⟨O,R⟩,[]⟩with
    |some (.exit _,_)=>none
    |some (_,s)=>mM s kx.res
    |none=>none)=some (.agg (icN s3 s4 (l.foldr (fun n r=>nd 14 [n,r]) m)),⟨O9,R⟩)/\O.length<=O9.length/\ ∀i,i<O.length->i≠q->i≠q2->O9[i]? =O[i]?:=by
 obtain⟨O7,s3,s4,k1,g1,g2,g3,g4⟩:=NY (G:=G) (yl:=yl) (R:=R) l m h219 hl hN h28 h4 hq hb hbq;have l2:=(List.getElem?_eq_some_iff.1 hz).1;have z7:O7[q2]? =some (.cells zz6):=by rw[g4 q2 l2 hq2];exact hz
 generalize l.foldr (fun n r=>nd 14 [n,r]) m=x at*;obtain⟨O8,e8,g8,n8,m8⟩:=fe (.cells (icN s3 s4 x)) (List.getElem?_eq_some_iff.1 z7).1;have mk8:O8[O.length]? =some .mark:=by rw[n8 _ (by omega)];exact g2
 obtain⟨O9,e9,g9,n9,m9⟩:=fe .dead (List.getElem?_eq_some_iff.1 mk8).1;have g29:O9[q2]? =some (.cells (icN s3 s4 x)):=by rw[n9 _ (by omega)];exact g8
 refine⟨O9,s3,s4,?_,by omega,fun i hi hq h2=>by rw[n9 i (by omega),n8 i h2];exact g4 i hi hq⟩;unfold icN at g1 e8 g29⊢;clear n8 n9 m8 m9 l2 g3 g4;simp -implicitDefEqProofs [p9,k1,h4,h2,g1,z7,e8,kx,mk8,e9,g29]
theorem N0 (hL:Lok L) (h:Nat) {r:Nd×Ps} (h134:jU cl p sp L) (hc: ∀h',h'<=h-> ∀O R s r,Rd O p sp L s->Pre L s->pr' L h' .ors s=some r->RN (cl 192 [.ptr p 0] ⟨O,R⟩) r.1 p sp L r.2 O R)
  (h193: ∀sp1 es O R,cl 193 [.slc sp1 es] ⟨O,R⟩=some (.fn 219 [] [.ptr O.length 0],⟨O++[.cells [.slc sp1 es]],R⟩)) (h219:uK cl N) (hN:h+1<N) (hh:h+1<big) (hR:Rd O p sp L s) (hi:Pre L s) (e:(pr' L h .ors s).bind (fun r=>pr' L h (.tImp [r.1]) r.2)=some r):
  RN (dr G false cl yl N kx [.ptr p 0] ⟨O,R⟩) r.1 p sp L r.2 O R:=by
 unfold big at hh;rw[Option.bind_eq_some_iff]at e;obtain⟨q,e1,e2⟩:=e;have hp:p<O.length:=(List.getElem?_eq_some_iff.1 hR).1;obtain⟨a1,a2,O1,Y1,k1,f1,r1⟩:=hc h (Nat.le_refl _) (O++[.cells zz6]) R s q (hR.app _) hi e1;have hi1:=hi.step (gD hL _ _ _ _ e1);obtain⟨O2,R3,ts',s3,l',j1,j2,j3,j4,j5,j6,j7,⟨Y3,rfl⟩,j9⟩:=NX (G:=G) (yl:=yl) (N:=N) (R:=R) hL h (q2:=O.length) h134 hc O1.length (R++Y1).length h [q.1] q.2 r O1 (R++Y1) .full N (Nat.le_refl _) e2 (by omega) (by simp;omega) (by simp) r1 hi1 ⟨⟨Y1,rfl⟩,.inl rfl⟩;have f2:=f1.trans j9;have l2:=f2.len;rw[List.length_append,List.length_singleton]at l2;have z2:O2[O.length]? =some (.cells zz6):=f2.old (by simp) (by omega);obtain⟨l0,x,rfl⟩: ∃l0 x,l'=l0++[x]:=⟨l'.dropLast,l'.getLast j5,(List.dropLast_concat_getLast j5).symm⟩
 rw[yb]at j4;have hl0:l0.length<big/\l0.length<N/\l0.length<8589934592:=by
  unfold big;simp at j6;omega
 have b1:O2.length+1≠O2.length:=by omega
 obtain⟨t1,t2,hx⟩:=ya x;have key: ∃ts,dr G false cl yl N kx [.ptr p 0] ⟨O,R⟩=(match a8 G false cl yl N p9 ⟨ts,⟨O2++[.cells (ndc x),.cells [.slc .shared (avL l0)]],R++Y3⟩,[]⟩with
    |some (.exit _,_)=>none
    |some (_,s)=>mM s kx.res
    |none=>none)/\look 28 ts=.fn 219 [] [.ptr (O2.length+1) 0]/\look 4 ts=.ptr O2.length 0/\look 2 ts=.ptr O.length 0:=by
  have hpz:=iW a1 a2 q.1;unfold icN at k1 hpz;have w1:dj .i64 (l0.length:Int)=(l0.length:Int):=dJ (by omega) (by omega);have hap:=lk l0 [x];have hlen:(avL l0).length=l0.length:=lV l0;have hax:avL [x]=[av x]:=rfl;rw[hax]at hap;have hsz:dV 6 (avL l0++[av x])=true:=by rw[<-hap];simp
  rw[hap]at j3;have hav1:avL [q.1]=[av q.1]:=rfl;rw[hav1]at j1;have hget:(avL l0++[av x])[l0.length]? =some (av x):=by rw[List.getElem?_append_right (by omega)];simp[hlen]
  have htk:(avL l0++[av x]).take l0.length=avL l0:=by rw[<-hlen];simp
  have hln:(avL l0++[av x]).length=l0.length+1:=by simp
  have hget': ∀h,(avL l0++[av x])[l0.length]'h=av x:=fun h=>(List.getElem?_eq_some_iff.1 hget).2;generalize avL l0++[av x]=es at*;rw[List.length_append]at j1;cases s3 with
  |shared=>
   apply Exists.intro;apply And.intro
   ·simp -implicitDefEqProofs [kx,k1,hpz,j1,j2,j3,hln,hlen,hsz,w1,hget',htk,h193,p9];rfl
   ·refine⟨?_,?_,?_⟩<;>first|rfl|(simp;done)|simpa using j2
  |full=>
   apply Exists.intro;apply And.intro
   ·simp -implicitDefEqProofs [kx,k1,hpz,j1,j2,j3,hln,hlen,hsz,w1,hget',htk,h193,p9];rfl
   ·refine⟨?_,?_,?_⟩<;>first|rfl|(simp;done)|simpa using j2
  |own a=>
   apply Exists.intro;apply And.intro
   ·simp -implicitDefEqProofs [kx,k1,hpz,j1,j2,j3,hln,hlen,hsz,w1,hget',htk,h193,p9];rfl
   ·refine⟨?_,?_,?_⟩<;>first|rfl|(simp;done)|simpa using j2
 obtain⟨ts,y1,y2,y3,y4⟩:=key;obtain⟨O9,s5,s6,v1,v2,v3⟩:=NZ (G:=G) (cl:=cl) (yl:=yl) (N:=N) (O:=O2++[.cells (ndc x),.cells [.slc .shared (avL l0)]]) (R:=R++Y3) l0 x (s1:=t1) (s2:=t2) (sp1:=.shared) h219 hl0.1 hl0.2.1 y2 y3 y4 (by rw[<-hx];simp) (by simp) b1 (dD z2 _) (by omega);rw[List.length_append]at v2;simp only[List.length_cons,List.length_nil]at v2;refine⟨s5,s6,O9,Y3,by rw[y1,v1,j4],⟨by omega,fun i hi hp=>?_⟩,?_⟩
 ·rw[v3 i (by rw[List.length_append];omega) (by omega) (by omega),List.getElem?_append_left (by omega),f2.get i (by rw[List.length_append];omega) hp,List.getElem?_append_left hi]
 ·have hpl:p<O2.length:=by omega
  unfold Rd;rw[v3 p (by rw[List.length_append];omega) (by omega) (by omega),List.getElem?_append_left hpl];exact j7
end
def prF:List Nat:=[81,132,133,134,135,137,138,139,140,191,192,193,217,218,219,228,229,242,243,244,245,246,247,248,249,250,251,252,253,254,255,265]
def NoO (orc:Nat->List AV->dC):Prop:= ∀f∈prF,∀ags,dL orc f ags=none
section
variable {t N k:Nat} {orc:Nat->List AV->dC} {p:Nat} {sp:Sp} {L:List Tk}
theorem qa (ho:NoO orc):rF (BW (GG t) orc N (k+1)) p sp L:=fun O R s hR hi=>by
 rw[dG (cf:=tj) (ho 132 (by decide) _) rfl rfl rfl];exact Nj hR hi
theorem kH (ho:NoO orc):my (BW (GG t) orc N (k+1)) p sp L:=fun O R s c hR=>by
 rw[dG (cf:=qT) (ho 133 (by decide) _) rfl rfl rfl];exact Nk hR c
theorem CL (ho:NoO orc):CI (BW (GG t) orc N (k+2)) p sp L:=fun O R s w hR hi=>by
 rw[dG (cf:=nC) (ho 191 (by decide) _) rfl rfl rfl];exact Nl hR w (qa ho O R s hR hi)
theorem mA (ho:NoO orc) (hb:L.length<big):jU (BW (GG t) orc N (k+3)) p sp L:=fun O R s w hR hi=>by
 rw[dG (cf:=qU) (ho 134 (by decide) _) rfl rfl rfl];exact Nm hR hi hb w (CL ho O R s w hR hi)
theorem uL (ho:NoO orc) (hb:L.length<big):pZ (BW (GG t) orc N (k+4)) p sp L:=fun O R s w hR hi=>by
 rw[dG (cf:=qW) (ho 138 (by decide) _) rfl rfl rfl];exact Nn hR w (mA ho hb O R s w hR hi) (fun O' s' c h'=>kH ho O' R s' c h')
theorem rG (ho:NoO orc) (hb:L.length<big):mz (BW (GG t) orc N (k+2)) p sp L:=fun O R s hR hi=>by
 rw[dG (cf:=pk) (ho 137 (by decide) _) rfl rfl rfl];exact No hR hi hb (qa ho O R s hR hi) (fun O' s' c h'=>kH ho O' R s' c h')
theorem CM (ho:NoO orc) (hb:L.length<big):xY (BW (GG t) orc N (k+2)) p sp L:=fun O R s lo hi' hR hi=>by
 rw[dG (cf:=ma) (ho 245 (by decide) _) rfl rfl rfl];exact Np hR hi hb lo hi' (qa ho O R s hR hi) (kH ho)
theorem N8 (ho:NoO orc) (hb:L.length<big) (hN:5<N):CG (BW (GG t) orc N (k+4)) p sp L:=fun O R s hR hi=>by
 rw[dG (cf:=qV) (ho 135 (by decide) _) rfl rfl rfl];exact Nr hR hi (mA ho hb) (kH ho) hN
theorem N9 (ho:NoO orc) (O:List Obj) (R:List Arr):BW (GG t) orc N (k+1) 228 [] ⟨O,R⟩=some (.map O.length,⟨O++[.map lD],R⟩):=by
 rw[dG (cf:=tT) (ho 228 (by decide) _) rfl rfl rfl];exact NK
theorem Oa (ho:NoO orc) (sp1:Sp) (es:List AV) (O:List Obj) (R:List Arr):BW (GG t) orc N (k+1) 193 [.slc sp1 es] ⟨O,R⟩=some (.fn 219 [] [.ptr O.length 0],⟨O++[.cells [.slc sp1 es]],R⟩):=by
 rw[dG (cf:=tJ) (ho 193 (by decide) _) rfl rfl rfl];exact NQ sp1 es
theorem Ob (ho:NoO orc):uK (BW (GG t) orc N (k+2)) N:=by
 intro l m id q b ts s1 s2 sp1 O R h1 h2 h3 h4 h5 h6 h7 h8 h9;rw[dG (cf:=tQ) (ho 219 (by decide) _) rfl rfl rfl];refine NV l m h1 h2 h3 h4 h5 h6 h7 h8 h9 fun O s1 s2 n m i g1 g2=>?_;exact NT (G:=GG t) (cl:=BW (GG t) orc N k) (yl:=YW (GG t) orc N k) (N:=N) n m i g1 h4 g2 h7
end
theorem FrN.old {p:Nat} {O O':List Obj} (h:FrN O.length p O O') {i:Nat} {x:Obj} (hi:O[i]? =some x) (hp:i≠p):O'[i]? =some x:=by
 rw[h i (List.getElem?_eq_some_iff.1 hi).1 hp];exact hi
structure PrK (cl:a7) (p:Nat) (sp:Sp) (L:List Tk) (h:Nat):Prop where
 opd: ∀O R s r,Rd O p sp L s->Pre L s->pr' L h .opd s=some r->RN (cl 218 [.ptr p 0] ⟨O,R⟩) r.1 p sp L r.2 O R
 ands: ∀O R s r b,O[b]? =some (.cells [.ptr p 0])->b≠p->Rd O p sp L s->Pre L s->pr' L h .ands s=some r->RN (cl 217 [.ptr b 0] ⟨O,R⟩) r.1 p sp L r.2 O R
 ors: ∀O R s r,Rd O p sp L s->Pre L s->pr' L h .ors s=some r->RN (cl 192 [.ptr p 0] ⟨O,R⟩) r.1 p sp L r.2 O R
 imp: ∀O R s r,Rd O p sp L s->Pre L s->pr' L h .imp s=some r->RN (cl 140 [.ptr p 0] ⟨O,R⟩) r.1 p sp L r.2 O R
 fml: ∀O R s r,Rd O p sp L s->Pre L s->pr' L h .fml s=some r->RN (cl 81 [.ptr p 0] ⟨O,R⟩) r.1 p sp L r.2 O R
section
variable {t N:Nat} {orc:Nat->List AV->dC} {p:Nat} {sp:Sp} {L:List Tk}
theorem Oc {h:Nat} {s:Ps} (hw: ¬(((tkA L s.i).k=3\/(tkA L s.i).k=4)/\s.e=0/\ ∃f,fnW (tkA L s.i).tx=some f)):pr' L (h+1) .opd s=gU L h s:=by
 simp only[pr'];by_cases hc:((tkA L s.i).k=3\/(tkA L s.i).k=4)/\s.e=0
 ·rw[if_pos hc];by_cases w0:(tkA L s.i).tx=gA
  ·exact absurd ⟨hc.1,hc.2,242,by unfold fnW;rw[if_pos w0]⟩ hw
  by_cases w1:(tkA L s.i).tx=gB
  ·exact absurd ⟨hc.1,hc.2,243,by unfold fnW;rw[if_neg w0,if_pos w1]⟩ hw
  by_cases w2:(tkA L s.i).tx=gn
  ·exact absurd ⟨hc.1,hc.2,244,by unfold fnW;rw[if_neg w0,if_neg w1,if_pos w2]⟩ hw
  by_cases w3:(tkA L s.i).tx=go
  ·exact absurd ⟨hc.1,hc.2,246,by unfold fnW;rw[if_neg w0,if_neg w1,if_neg w2,if_pos w3]⟩ hw
  by_cases w4:(tkA L s.i).tx=fH
  ·exact absurd ⟨hc.1,hc.2,247,by unfold fnW;rw[if_neg w0,if_neg w1,if_neg w2,if_neg w3,if_pos w4]⟩ hw
  by_cases w5:(tkA L s.i).tx=gc
  ·exact absurd ⟨hc.1,hc.2,250,by unfold fnW;rw[if_neg w0,if_neg w1,if_neg w2,if_neg w3,if_neg w4,if_pos w5]⟩ hw
  by_cases w6:(tkA L s.i).tx=gf
  ·exact absurd ⟨hc.1,hc.2,252,by unfold fnW;rw[if_neg w0,if_neg w1,if_neg w2,if_neg w3,if_neg w4,if_neg w5,if_pos w6]⟩ hw
  by_cases w7:(tkA L s.i).tx=wL
  ·exact absurd ⟨hc.1,hc.2,253,by unfold fnW;rw[if_neg w0,if_neg w1,if_neg w2,if_neg w3,if_neg w4,if_neg w5,if_neg w6,if_pos w7]⟩ hw
  rw[if_neg w0,if_neg w1,if_neg w2,if_neg w3,if_neg w4,if_neg w5,if_neg w6,if_neg w7]
 ·rw[if_neg hc]
theorem CN {i h:Nat} (ho:NoO orc) (hL:Lok L) (hb:L.length<big) (hN:6<N) (ih: ∀j,i<=j->PrK (BW (GG t) orc N (j+10)) p sp L h) (op:Int) {O:List Obj} {R:List Arr} {s:Ps} {r:Nd×Ps} (hR:Rd O p sp L s) (hi:Pre L s) (he:s.e=0) (hk:s.i+1<L.length)
  (e:lvl s (fun s1=>(pr' L h .fml (dX L (dq L (dW L s1).2).2 dK)).map fun r=>(qn op (dq L (dW L s1).2).1 (dW L s1).1 r.1,r.2))=some r):
  RN (BW (GG t) orc N (i+13) 251 [.ptr p 0,.int .i64 op] ⟨O,R⟩) r.1 p sp L r.2 O R:=by
 rw[dG (cf:=t7) (ho 251 (by decide) _) rfl rfl rfl];refine NC hR op r fun O1 b c f1 r1 hb1 hc1 hbp hcp=>?_;rw[dG (cf:=nI) (ho 248 (by decide) _) rfl rfl rfl];have st: ∀s1:Ps,Stp L s1 (dX L (dq L (dW L s1).2).2 dK):=fun s1=>(mw hL s1 [0,1,2,3]).trans ((fT hL _).trans (gp hL _ dK));refine xX 265 [] [.ptr c 0,.ptr b 0] _ he hb r1 hi hk (fun q hq=>?_) (fun O2 q f2 r2 hi2 hq=>?_) (kH ho) e
 ·simp only[Option.map_eq_some_iff]at hq;obtain⟨q',h1,rfl⟩:=hq;exact((st _).trans (gD hL _ _ _ _ h1)).o
 ·simp only[Option.map_eq_some_iff]at hq;obtain⟨q',h1,rfl⟩:=hq;simp only[List.nil_append];rw[dG (cf:=ud) (ho 265 (by decide) _) rfl rfl rfl];exact ND hL r2 hi2.i op (f2.old hb1 hbp) (f2.old hc1 hcp) hbp hcp q' (N8 ho hb (by omega)) (rG ho hb) (uL ho hb) fun O3 f3 r3=>(ih i (Nat.le_refl _)).fml O3 _ _ q' r3 (hi2.step (st _)) h1
theorem Od (ho:NoO orc) (hL:Lok L) (hb:L.length<big) (hN:6<N): ∀(h k:Nat),5*h+10<=k->h+2<N->h+2<big->PrK (BW (GG t) orc N k) p sp L h:=by
 intro h
 induction h using Nat.strongRecOn with
 |ind h ih=>
 intro k hk hhN hhb;cases h with
 |zero=>refine⟨?_,?_,?_,?_,?_⟩<;>intros<;>rename_i e<;>simp[pr']at e
 |succ h=>
  obtain⟨i,rfl⟩: ∃i,k=i+15:=⟨k - 15,by omega⟩
  have ih': ∀j,i<=j->PrK (BW (GG t) orc N (j+10)) p sp L h:=fun j hj=>ih h (by omega) (j+10) (by omega) (by omega) (by omega);have ihl: ∀j h',i<=j->h'<=h->PrK (BW (GG t) orc N (j+10)) p sp L h':=fun j h' hj hh=>ih h' (by omega) (j+10) (by omega) (by omega) (by omega);refine⟨fun O R s r hR hi e=>?_,fun O R s r b hbx hbp hR hi e=>?_,fun O R s r hR hi e=>?_,fun O R s r hR hi e=>?_,fun O R s r hR hi e=>?_⟩
  ·rw[dG (cf:=kz) (ho 218 (by decide) _) rfl rfl rfl];refine NL hR hi.i (qa ho) (fun O R=>N9 ho O R) r (fun f hk he hw O' f1 r1=>?_) (fun hn O' r1=>?_)
   ·have hkn:(tkA L s.i).k≠0:=by omega
    have hlt:=mr hL hi.i hkn;have hbi:s.i+1<big:=by omega
    simp only[pr']at e;rw[if_pos ⟨hk,he⟩]at e;unfold fnW at hw;by_cases w1:(tkA L s.i).tx=gA
    ·rw[if_pos w1]at hw e;cases hw;cases e;rw[dG (cf:=tU) (ho 242 (by decide) _) rfl rfl rfl];exact Nt r1 hbi
    rw[if_neg w1]at hw e;by_cases w2:(tkA L s.i).tx=gB
    ·rw[if_pos w2]at hw e;cases hw;cases e;rw[dG (cf:=tV) (ho 243 (by decide) _) rfl rfl rfl];exact Nu r1 hbi
    rw[if_neg w2]at hw e;by_cases w3:(tkA L s.i).tx=gn
    ·rw[if_pos w3]at hw e;cases hw;cases e;rw[dG (cf:=tW) (ho 244 (by decide) _) rfl rfl rfl];exact NF hL r1 hbi hlt (rG ho hb) (uL ho hb) (CM ho hb)
    rw[if_neg w3]at hw e;by_cases w4:(tkA L s.i).tx=go
    ·rw[if_pos w4]at hw e;cases hw;cases e;rw[dG (cf:=tX) (ho 246 (by decide) _) rfl rfl rfl];exact Nv r1 hbi hlt (rG ho hb)
    rw[if_neg w4]at hw e;by_cases w5:(tkA L s.i).tx=fH
    ·rw[if_pos w5]at hw e;cases hw;rw[dG (cf:=tY) (ho 247 (by decide) _) rfl rfl rfl];refine Ny r1 r fun O1 b f1 r1 hb1 hbp=>?_;rw[dG (cf:=nI) (ho 248 (by decide) _) rfl rfl rfl];refine xX 249 [] [.ptr b 0] _ he hb r1 hi hlt (fun q hq=>?_) (fun O2 q f2 r2 hi2 hq=>?_) (kH ho) e
     ·simp only[Option.map_eq_some_iff]at hq;obtain⟨q',h1,rfl⟩:=hq;exact(gD hL _ _ _ _ h1).o
     ·simp only[Option.map_eq_some_iff]at hq;obtain⟨q',h1,rfl⟩:=hq;simp only[List.nil_append];rw[dG (cf:=tZ) (ho 249 (by decide) _) rfl rfl rfl];exact NA r2 (f2.old hb1 hbp) q' fun O3 f3 r3=>(ih' (i+1) (by omega)).opd O3 _ _ q' r3 hi2 h1
    rw[if_neg w5]at hw e;by_cases w6:(tkA L s.i).tx=gc
    ·rw[if_pos w6]at hw e;cases hw;rw[dG (cf:=t6) (ho 250 (by decide) _) rfl rfl rfl];exact Nw r1 16 r rfl fun O1 f1 r1=>CN ho hL hb hN ih' 16 r1 hi he hlt e
    rw[if_neg w6]at hw e;by_cases w7:(tkA L s.i).tx=gf
    ·rw[if_pos w7]at hw e;cases hw;rw[dG (cf:=ua) (ho 252 (by decide) _) rfl rfl rfl];exact Nx r1 17 r rfl fun O1 f1 r1=>CN ho hL hb hN ih' 17 r1 hi he hlt e
    rw[if_neg w7]at hw e;by_cases w8:(tkA L s.i).tx=wL
    ·rw[if_pos w8]at hw e;cases hw;rw[dG (cf:=ub) (ho 253 (by decide) _) rfl rfl rfl];refine Nz r1 r fun O1 b f1 r1 hb1 hbp=>?_;rw[dG (cf:=nI) (ho 248 (by decide) _) rfl rfl rfl];refine xX 254 [] [.ptr b 0] _ he hb r1 hi hlt (fun q hq=>?_) (fun O2 q f2 r2 hi2 hq=>?_) (kH ho) e
     ·simp only[Option.map_eq_some_iff]at hq;obtain⟨q',h1,rfl⟩:=hq;exact((gD hL _ _ _ _ h1).trans (gp hL _ _)).o
     ·simp only[Option.map_eq_some_iff]at hq;obtain⟨q',h1,rfl⟩:=hq;simp only[List.nil_append];rw[dG (cf:=uc) (ho 254 (by decide) _) rfl rfl rfl];exact NB r2 (f2.old hb1 hbp) hbp q' ((gD hL _ _ _ _ h1).lt hi2.i) (fun O3 f3 r3=>(ih' (i+1) (by omega)).fml O3 _ _ q' r3 hi2 h1) (uL ho hb)
    rw[if_neg w8]at hw;cases hw
   ·rw[Oc hn]at e;rw[dG (cf:=nH) (ho 229 (by decide) _) rfl rfl rfl];refine NH hL r1 hi.i h e (rG ho hb) (CL ho) (mA ho hb) (CM ho hb) (kH ho) hN fun O' f s' r' r2 hi' hs hq=>?_;rw[dG (cf:=rc) (ho 255 (by decide) _) rfl rfl rfl];exact NJ hL hb f h r2 ((eS hL hs).lt hi') hq (by omega) (by omega) (qa ho) (kH ho) (mA ho hb) (rG ho hb) (uL ho hb)
  ·rw[dG (cf:=tP) (ho 217 (by decide) _) rfl rfl rfl];refine NO hR hbx r fun O1 f1 r1=>?_;rw[dG (cf:=po) (ho 139 (by decide) _) rfl rfl rfl];simp only[pr']at e;exact xW jP 12 .opd .tAnd h 218 [.ptr p 0] [] O1 R (fun _=>True) (fun _ _ _ _=>trivial) hL (fun h n s=>by simp only[pr']) (fun h' hh O R s r _ hR hi e=>(ihl (i+3) h' (by omega) hh).opd O R s r hR hi e) (mA ho hb) (by omega) trivial r1 hi e
  ·rw[dG (cf:=tI) (ho 192 (by decide) _) rfl rfl rfl];refine NN hR r fun O1 b f1 r1 hb1 hbp=>?_;rw[dG (cf:=po) (ho 139 (by decide) _) rfl rfl rfl];simp only[pr']at e;exact xW wOr 13 .ands .tOr h 217 [] [.ptr b 0] O1 R (fun O=>O[b]? =some (.cells [.ptr p 0])) (fun O2 O3 h2 h3=>by rw[h2 b (List.getElem?_eq_some_iff.1 hb1).1 hbp];exact h3) hL (fun h n s=>by simp only[pr']) (fun h' hh O R s r hx hR hi e=>(ihl (i+3) h' (by omega) hh).ands O R s r b hx hbp hR hi e) (mA ho hb) (by omega) hb1 r1 hi e
  ·rw[dG (cf:=kx) (ho 140 (by decide) _) rfl rfl rfl];simp only[pr']at e;exact N0 hL h (mA ho hb) (fun h' hh O R s r hR hi e=>(ihl (i+4) h' (by omega) hh).ors O R s r hR hi e) (fun sp1 es O R=>Oa ho sp1 es O R) (Ob ho) (by omega) (by omega) hR hi e
  ·rw[dG (cf:=c81) (ho 81 (by decide) _) rfl rfl rfl];refine NP hR r fun O1 f1 r1=>?_;rw[dG (cf:=po) (ho 139 (by decide) _) rfl rfl rfl];simp only[pr']at e;exact xW jQ 15 .imp .tIff h 140 [.ptr p 0] [] O1 R (fun _=>True) (fun _ _ _ _=>trivial) hL (fun h n s=>by simp only[pr']) (fun h' hh O R s r _ hR hi e=>(ihl (i+3) h' (by omega) hh).imp O R s r hR hi e) (mA ho hb) (by omega) trivial r1 hi e
end
end Go.Proofs.Ae
