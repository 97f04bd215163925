/- Further functions: what they answer, and what that means. -/
import Derived.Test.YtjkmcceipabejaaGreatDoorR
set_option linter.unusedSimpArgs false
set_option linter.unusedVariables false
set_option linter.unusedSectionVars false
namespace Go.Proofs.Ae
open Go Go.RowKit
theorem vo (O:List Obj) (x y:Obj):(O++[x]).set O.length y=O++[y]:=by
 rw[List.set_append_right _ _ (Nat.le_refl _)];simp
abbrev iZ (cl:a7) (p:Nat) (sp:Sp) (L:List Tk):Prop:= ∀O R s' w,Rd O p sp L s'->s'.i<L.length->cl 205 [.ptr p 0,.str w] ⟨O,R⟩=some (.bool (isS L s' w),⟨O,R⟩)
section
variable {L:List Tk} {s:Ps}
theorem D6 {w:Str} (he:s.e≠0):dX L s w=s:=by
 unfold dX wrg;rw[M8 he,if_neg he];simp
theorem QY (he:s.e≠0):dq L s=([],s):=by
 unfold dq wrg;simp only[if_neg he,ite_self]
theorem QZ {lo hi:Int} (he:s.e≠0):eP L s lo hi=(0,s):=by
 unfold eP iC wrg;simp only[if_neg he,ite_self]
end
section
variable {G:Gls} {cl:a7} {yl:a7} {N:Nat}
variable {O:List Obj} {R:List Arr} {p:Nat} {sp:Sp} {L:List Tk} {s:Ps}
theorem fV (h:Rd O p sp L s) (s':Ps): ∃O1,O.set p (.cells (rdc sp L s'))=O1/\Fro p O O1/\Rd O1 p sp L s':=⟨_,rfl,.set _ _ _,h.put _⟩
theorem Q0 (h:Rd O p sp L s) (hi:s.i<L.length) (w:Str):dr G false cl yl N nD [.ptr p 0,.str w] ⟨O,R⟩=some (.bool (isS L s w),⟨O,R⟩):=by
 have hx:=gq hi;have hx':=(List.getElem?_eq_some_iff.1 hx).2;have h':=h;unfold Rd rdc at h';unfold isS;generalize tkA L s.i=t at*;by_cases he:s.e=0
 ·rw[he]at h';by_cases h3:t.k=3
  ·simp -implicitDefEqProofs [nD,h',hi,hx',tkv,tkC,he,h3,dB]
  ·have h3':(t.k==3)=false:=by simp[h3]
   by_cases h4:t.k=4
   ·simp -implicitDefEqProofs [nD,h',hi,hx',tkv,tkC,he,h4,dB]
   ·have h4':(t.k==4)=false:=by simp[h4]
    simp -implicitDefEqProofs [nD,h',hi,hx',tkv,tkC,he,h3,h3',h4,h4',dB]
 ·have he':(s.e==0)=false:=by simp[he]
  simp -implicitDefEqProofs [nD,h',he,he',dB]
theorem Q1 (h:Rd O p sp L s) (hi:s.i<L.length) (hb:L.length<big) (w:Str) (h205:iZ cl p sp L):RR (dr G false cl yl N pF [.ptr p 0,.str w] ⟨O,R⟩) (.tup []) p sp L (dX L s w) O R:=by
 have h':=h;unfold Rd rdc at h';unfold big at hb;have w1:dj .i64 ((s.i:Int)+1)=((s.i+1:Nat):Int):=dF (by omega);by_cases he:s.e=0
 ·have k:=h205 O R s w h hi;rw[he]at h';unfold dX wrg;rw[if_pos he];cases hw:isS L s w with
  |true=>
   rw[hw]at k;obtain⟨O1,e1,f1,r1⟩:=fV h (adv s);refine⟨O1,?_,f1,r1⟩;unfold rdc adv at e1;rw[he]at e1
   try simp -implicitDefEqProofs at e1
   simp -implicitDefEqProofs [pF,h',k,w1,e1,fd]
  |false=>
   rw[hw]at k;obtain⟨O1,e1,f1,r1⟩:=fV h ⟨s.i,3,s.o⟩;refine⟨O1,?_,f1,by simpa using r1⟩;unfold rdc at e1;simp -implicitDefEqProofs [pF,h',k,e1,fd]
 ·have he':(s.e !=0)=true:=by simp[he]
  rw[D6 he];refine⟨O,?_,.refl _ _,h⟩;simp -implicitDefEqProofs [pF,h',he,he',fd]
theorem Q2 (h:Rd O p sp L s) (hi:s.i<L.length) (hb:L.length<big):RR (dr G false cl yl N pE [.ptr p 0] ⟨O,R⟩) (.str (dq L s).1) p sp L (dq L s).2 O R:=by
 have hx:=gq hi;have hx':=(List.getElem?_eq_some_iff.1 hx).2;have hp:p<O.length:=(List.getElem?_eq_some_iff.1 h).1;have h':=h;unfold Rd rdc at h';unfold big at hb;have w1:dj .i64 ((s.i:Int)+1)=((s.i+1:Nat):Int):=dF (by omega);have w2:dj .i64 (s.i:Int)=(s.i:Int):=dJ (by omega) (by omega);by_cases he:s.e=0
 ·unfold dq;generalize tkA L s.i=t at*;by_cases hk:t.k=1
  ·have hk':(t.k !=1)=false:=by simp[hk]
   simp only[hk,if_true,he];obtain⟨O1,e1,f1,r1⟩:=fV h (adv s);have r1':=r1;unfold Rd at r1';unfold rdc adv at e1 r1';rw[he]at h' e1 r1';refine⟨O1,?_,f1,r1⟩
   try simp -implicitDefEqProofs at e1 r1'
   simp -implicitDefEqProofs [pE,h',hi,hx',tkv,tkC,hk,hk',w1,w2,e1,r1']
  ·have hk':(t.k !=1)=true:=by simp[hk]
   have hwn: ¬(wrg s 3).e=0:=iG (by decide);simp only[hk,if_false,hwn];unfold wrg;rw[if_pos he];obtain⟨O1,e1,f1,r1⟩:=fV h ⟨s.i,3,s.o⟩;refine⟨O1,?_,f1,r1⟩;unfold rdc at e1;rw[he]at h';simp -implicitDefEqProofs [pE,h',hi,hx',tkv,tkC,hk,hk',e1]
 ·have he':(s.e !=0)=true:=by simp[he]
  rw[QY he];refine⟨O,?_,.refl _ _,h⟩;simp -implicitDefEqProofs [pE,h',he,he']
theorem Q3 (h:Rd O p sp L s) (hi:s.i<L.length) (hb:L.length<big) (lo hi':Int):RR (dr G false cl yl N mb [.ptr p 0,.int .i64 lo,.int .i64 hi'] ⟨O,R⟩) (.int .i64 (eP L s lo hi').1) p sp L (eP L s lo hi').2 O R:=by
 have hx:=gq hi;have hx':=(List.getElem?_eq_some_iff.1 hx).2;have hp:p<O.length:=(List.getElem?_eq_some_iff.1 h).1;have h0:=h;unfold Rd rdc at h0;unfold big at hb;have w1:dj .i64 ((s.i:Int)+1)=((s.i+1:Nat):Int):=dF (by omega);by_cases he:s.e=0
 ·unfold eP iC;generalize tkA L s.i=t at*;obtain⟨tk,tx,tv,tln,tcol⟩:=t;simp only[];have hT:=h.app [.cells (tkC ⟨tk,tx,tv,tln,tcol⟩)];have hTt:(O++[Obj.cells (tkC ⟨tk,tx,tv,tln,tcol⟩)])[O.length]? =some (.cells (tkC ⟨tk,tx,tv,tln,tcol⟩)):=by simp
  have hne:p≠O.length:=by omega
  have f0:Fro p O (O++[Obj.cells (tkC ⟨tk,tx,tv,tln,tcol⟩)]):=.app _ _ _;have hT':=hT;unfold Rd rdc at hT';rw[he]at h0 hT';have hz:=dD h0 [Obj.cells [.int .i64 0,.str [],.int .i64 0,.int .i64 0,.int .i64 0]];have hs:=vo O (.cells [.int .i64 0,.str [],.int .i64 0,.int .i64 0,.int .i64 0]) (.cells (tkC ⟨tk,tx,tv,tln,tcol⟩));unfold tkC at hs;have fin: ∀s':Ps,∃O1,(O++[Obj.cells (tkC ⟨tk,tx,tv,tln,tcol⟩)]).set p (.cells (rdc sp L s'))=O1/\Fro p O O1/\Rd O1 p sp L s'/\O1[O.length]? =some (.cells (tkC ⟨tk,tx,tv,tln,tcol⟩)):=fun s'=>by
   obtain⟨O1,e1,f1,r1⟩:=fV hT s';exact⟨O1,e1,f0.trans f1,r1,f1.old hTt (by omega)⟩
  by_cases hk:tk=2
  ·subst hk;simp only[if_true];by_cases hr:tv<lo\/hi'<tv
   ·have hwn: ¬(wrg s 2).e=0:=iG (by decide);simp only[hr,if_true,hwn,if_false];unfold wrg;rw[if_pos he];obtain⟨O1,e1,f1,r1,-⟩:=fin ⟨s.i,2,s.o⟩;refine⟨O1,?_,f1,r1⟩;unfold rdc tkC at e1;dsimp only at e1;unfold tkC at hTt hT';by_cases h1:tv<lo
    ·simp -implicitDefEqProofs [mb,h0,hz,hs,hi,hx',tkv,tkC,hTt,hT',h1,e1]
    ·have h2:hi'<tv:=by omega
     simp -implicitDefEqProofs [mb,h0,hz,hs,hi,hx',tkv,tkC,hTt,hT',h1,h2,e1]
   ·have h1: ¬tv<lo:=fun h=>hr (.inl h);have h2: ¬hi'<tv:=fun h=>hr (.inr h);simp only[hr,if_false,he,if_true];obtain⟨O1,e1,f1,r1,g1⟩:=fin (adv s);refine⟨O1,?_,f1,r1⟩;unfold rdc adv tkC at e1;unfold tkC at hTt hT' g1;rw[he]at e1
    try simp -implicitDefEqProofs at e1
    simp -implicitDefEqProofs [mb,h0,hz,hs,hi,hx',tkv,tkC,hTt,hT',h1,h2,w1,e1,g1]
  ·have hk':(tk !=2)=true:=by simp[hk]
   have hwn: ¬(wrg s 3).e=0:=iG (by decide);simp only[hk,if_false,hwn];unfold wrg;rw[if_pos he];obtain⟨O1,e1,f1,r1,-⟩:=fin ⟨s.i,3,s.o⟩;refine⟨O1,?_,f1,r1⟩;unfold rdc tkC at e1;dsimp only at e1;unfold tkC at hTt hT';simp -implicitDefEqProofs [mb,h0,hz,hs,hi,hx',tkv,tkC,hTt,hT',hk,hk',e1]
 ·have he':(s.e !=0)=true:=by simp[he]
  rw[QZ he];refine⟨O,?_,.refl _ _,h⟩;simp -implicitDefEqProofs [mb,h0,he,he']
theorem Q4 (h:Rd O p sp L s) (he:s.e=0) (ho:s.o=256):RR (dr G false cl yl N nJ [.ptr p 0] ⟨O,R⟩) (.bool false) p sp L (wrg s 16) O R:=by
 have h':=h;unfold Rd rdc at h';unfold wrg;rw[if_pos he];rw[he,ho]at h';obtain⟨O1,e1,f1,r1⟩:=fV h ⟨s.i,16,s.o⟩;refine⟨O1,?_,f1,r1⟩;unfold Rd at r1;unfold rdc at e1 r1;rw[ho]at e1 r1
 try simp -implicitDefEqProofs at e1 r1 h'
 simp -implicitDefEqProofs [nJ,h',e1,r1]
theorem Q5 (h:Rd O p sp L s) (hi:s.i<L.length) (hb:L.length<big) (he:s.e=0) (ho:s.o<256):RR (dr G false cl yl N nJ [.ptr p 0] ⟨O,R⟩) (.bool true) p sp L ⟨s.i+1,s.e,s.o+1⟩ O R:=by
 have h':=h;unfold Rd rdc at h';unfold big at hb;have w1:dj .i64 ((s.i:Int)+1)=((s.i+1:Nat):Int):=dF (by omega);have w2:dj .i64 ((s.o:Int)+1)=((s.o+1:Nat):Int):=dF (by omega);have ho':((s.o:Int)==256)=false:=by simp;omega
 rw[he]at h';obtain⟨O1,e1,f1,r1⟩:=fV h ⟨s.i,0,s.o+1⟩;obtain⟨O2,e2,f2,r2⟩:=fV r1 ⟨s.i+1,0,s.o+1⟩;rw[he];refine⟨O2,?_,f1.trans f2,r2⟩;unfold Rd at r1;unfold rdc at e1 e2 r1
 try simp -implicitDefEqProofs at e1 e2 r1
 simp -implicitDefEqProofs [nJ,h',ho',w1,w2,e1,e2,r1]
theorem Q6 (h:Rd O p sp L s) (hi:s.i<L.length) (hb:L.length<big) (h205:iZ cl p sp L) (h53: ∀k M,cl 53 [.int .i64 k] M=some (.str (snm k),M)) (hN:5<N) (kk mm:Nat):
  ∃e s',dh false (a8 G false cl yl N pC) ⟨[0,3],[(3,none)],true⟩ kk mm N ⟨[(0,.ptr p 0),(3,.int .i64 0)],⟨O,R⟩,[]⟩=some (e,s')/\e≠ .normal/\
   (s'.mks=[]/\match([0,1,2,3]:List Int).findSome? (fun k=>if isS L s (snm k)then some k else none)with
    |none=>e=.exit 0/\look 0 s'.ts=.ptr p 0/\s'.m=⟨O,R⟩
    |some k=>e=.ret/\look 2 s'.ts=.int .i64 k/\ ∃O1,s'.m=⟨O1,R⟩/\Fro p O O1/\Rd O1 p sp L (adv s)):=by
 have h':=h;unfold Rd rdc at h';unfold big at hb;have w0:dj .i64 ((s.i:Int)+1)=((s.i+1:Nat):Int):=dF (by omega);refine eN (mu:=false) (step:=a8 G false cl yl N pC) (an:=⟨[0,3],[(3,none)],true⟩) (k:=kk) (m:=mm) (N:=N) [0,1,2,3] (fun k=>if isS L s (snm k)then some k else none)
  (fun i st=>st=⟨[(0,.ptr p 0),(3,.int .i64 (i:Nat))],⟨O,R⟩,[]⟩)
  (fun r e s'=>s'.mks=[]/\match r with
    |none=>e=.exit 0/\look 0 s'.ts=.ptr p 0/\s'.m=⟨O,R⟩
    |some k=>e=.ret/\look 2 s'.ts=.int .i64 k/\ ∃O1,s'.m=⟨O1,R⟩/\Fro p O O1/\Rd O1 p sp L (adv s)) (by simp;omega) rfl ?_ ?_
 ·rintro i x st hx hil rfl;have hi4:i<4:=hil;have hxi:x=(i:Int):=by
   rcases(show i=0\/i=1\/i=2\/i=3 by omega)with rfl|rfl|rfl|rfl<;>simp at hx<;>omega
  have k:=h205 O R s (snm x) h hi;have w1:=dF (i:=i) (by omega);have hlt:(i:Int)<4:=by omega
  have k53:=h53 (i:Int);rw[<-hxi]at k53;cases hw:isS L s (snm x)with
  |true=>
   rw[hw]at k;obtain⟨O1,e1,f1,r1⟩:=fV h (adv s);unfold rdc adv at e1
   try simp -implicitDefEqProofs at e1
   rw[hxi]at k53 k;simp -implicitDefEqProofs [pC,hlt,hi4,k53,k,h',w0,w1,e1];exact⟨hxi.symm,f1,r1⟩
  |false=>
   rw[hw]at k;rw[hxi]at k53 k;simp -implicitDefEqProofs [pC,hlt,hi4,k53,k,w1]
 ·rintro st rfl;simp -implicitDefEqProofs [pC]
theorem Q7 (h:Rd O p sp L s) (hi:s.i<L.length) (hb:L.length<big) (h205:iZ cl p sp L) (h53: ∀k M,cl 53 [.int .i64 k] M=some (.str (snm k),M)) (hN:5<N):RR (dr G false cl yl N pD [.ptr p 0] ⟨O,R⟩) (.int .i64 (dW L s).1) p sp L (dW L s).2 O R:=by
 obtain⟨e,⟨ts,M,mks⟩,k1,-,hmk,hm⟩:=Q6 (G:=G) (cl:=cl) (yl:=yl) (N:=N) (R:=R) h hi hb h205 h53 hN O.length R.length;simp only[]at hmk;subst hmk;have h':=h;unfold Rd rdc at h';unfold dW;rw[xU];cases hf:([0,1,2,3]:List Int).findSome? (fun k=>if isS L s (snm k)then some k else none)with
 |none=>
  rw[hf]at hm;obtain⟨rfl,l0,hm⟩:=hm;simp only[]at l0 hm;subst hm;by_cases he:s.e=0
  ·unfold wrg;simp only[if_pos he];rw[he]at h';obtain⟨O1,e1,f1,r1⟩:=fV h ⟨s.i,3,s.o⟩;refine⟨O1,?_,f1,r1⟩;unfold rdc at e1;simp -implicitDefEqProofs [pD,k1,l0,h',e1]
  ·unfold wrg;simp only[if_neg he];have he':(s.e==0)=false:=by simp[he]
   refine⟨O,?_,.refl _ _,h⟩;simp -implicitDefEqProofs [pD,k1,l0,h',he,he']
 |some k=>
  rw[hf]at hm;obtain⟨rfl,l2,O1,rfl,f1,r1⟩:=hm;simp at l2;refine⟨O1,?_,f1,r1⟩;simp -implicitDefEqProofs [pD,k1,l2]
end
def lfB (f:Nat) (w:Str) (op:Int):dH:=(.seq (.seq (.reg [⟨some 6,(.mov (.tmp 0)),none⟩,⟨some 7,(.call (.fn 205) [(.tmp 6),(.const (.str w))]),none⟩]) (.cond (.tmp 7) .skip (.exit 0))) (.block 1 (.seq (.reg [⟨some 8,(.mov (.tmp 0)),none⟩,⟨some 9,(.nilck (.tmp 8)),none⟩,⟨some 10,(.faddr 1 .sc (.tmp 9)),none⟩,⟨some 11,(.load .sc (.tmp 10)),none⟩,⟨some 12,(.bin .add (.tmp 11) (.const (.int .i64 1))),none⟩,⟨some 13,(.nilck (.tmp 8)),none⟩,⟨some 14,(.faddr 1 .sc (.tmp 13)),none⟩,⟨none,(.store 1 (.tmp 14) (.tmp 12)),none⟩]) (.drg [⟨⟨some 15,(.load (.ag 6) (.tmp 3)),none⟩,.light 0 1,[(3,none)]⟩,⟨⟨some 16,(.mov (.tmp 0)),none⟩,.light 0 0,[(0,none)]⟩,⟨⟨some 17,(.call (.fn f) [(.tmp 16)]),none⟩,.heavy,[(16,some 1)]⟩,⟨⟨some 18,(.bslice 2 32 (.ag 6) (.agg [(.int .i64 0),(.slc .full []),(.int .i64 0),(.int .i64 0),(.int .i64 0),(.slc .full [])]) [(0,(.tmp 15)),(1,(.tmp 17))]),none⟩,.light 1 1,[(15,some 0),(17,some 2)]⟩,⟨⟨some 19,(.build [(.int .i64 0),(.slc .full []),(.int .i64 0),(.int .i64 0),(.int .i64 0),(.slc .full [])] [(0,1,(.const (.int .i64 op))),(5,1,(.tmp 18))]),none⟩,.light 1 1,[(18,some 3)]⟩,⟨⟨none,(.store 6 (.tmp 3) (.tmp 19)),none⟩,.heavy,[(3,none),(19,some 4)]⟩]))))
def lf (f:Nat) (w:Str) (op:Int):CFn:=⟨21,false,(.seq (.reg [⟨some 2,(.alloc [(.int .i64 0),(.slc .full []),(.int .i64 0),(.int .i64 0),(.int .i64 0),(.slc .full [])]),none⟩]) (.seq (.reg [⟨some 4,(.mov (.tmp 0)),none⟩,⟨some 5,(.call (.fn f) [(.tmp 4)]),none⟩,⟨some 3,(.alloc [(.int .i64 0),(.slc .full []),(.int .i64 0),(.int .i64 0),(.int .i64 0),(.slc .full [])]),none⟩,⟨none,(.store 6 (.tmp 3) (.tmp 5)),none⟩]) (.seq (.block 0 (.loop ⟨[0,2,3],[],true⟩ (lfB f w op))) (.seq (.reg [⟨some 20,(.load (.ag 6) (.tmp 3)),none⟩,⟨none,(.store 6 (.tmp 2) (.tmp 20)),none⟩]) .ret)))),[(.cell 2 (.ag 6))]⟩
theorem Q8:wP=lf 260 jP 12:=rfl
theorem Q9:wO=lf 237 wOr 13:=rfl
theorem Ra:wK=lf 209 jQ 15:=rfl
section
variable {G:Gls} {cl:a7} {yl:a7} {N:Nat}
variable {p:Nat} {sp:Sp} {L:List Tk}
theorem Rb (w:Str) (op:Int) (kd:Kd) (tl:Nd->Kd) (H f:Nat) (hL:Lok L) (hbL:L.length<big)
  (htl: ∀h n s,pr' L (h+1) (tl n) s=if isS L s w then(pr' L h kd (adv s)).bind (fun r=>pr' L h (tl (nd op [n,r.1])) r.2)else some (n,s))
  (hc: ∀h',h'<=H-> ∀O R s r,Rd O p sp L s->Pre L s->pr' L h' kd s=some r->RN (cl f [.ptr p 0] ⟨O,R⟩) r.1 p sp L r.2 O R)
  (h205:iZ cl p sp L) (q2 q3 kk mm:Nat) (hqp:q3≠p):
  ∀(h:Nat) (n:Nd) (s:Ps) (r:Nd×Ps),h<=H->pr' L h (tl n) s=some r-> ∀(O:List Obj) (R:List Arr) (s1 s2:Sp) (N':Nat),h<N'->Rd O p sp L s->Pre L s->O[q3]? =some (.cells (icN s1 s2 n))->
   ∃(O':List Obj) (Y:List Arr) (ts':dx) (s3 s4:Sp),dh false (a8 G false cl yl N (lfB f w op)) ⟨[0,2,3],[],true⟩ kk mm N' ⟨[(0,.ptr p 0),(2,.ptr q2 0),(3,.ptr q3 0)],⟨O,R⟩,[]⟩=some (.exit 0,⟨ts',⟨O',R++Y⟩,[]⟩)/\
    look 2 ts'=.ptr q2 0/\look 3 ts'=.ptr q3 0/\O'[q3]? =some (.cells (icN s3 s4 r.1))/\Rd O' p sp L r.2/\O.length<=O'.length/\ ∀i,i<O.length->i≠p->i≠q3->O'[i]? =O[i]?:=by
 unfold big at hbL;intro h
 induction h with
 |zero=>intro n s r _ e;simp[pr']at e
 |succ h ih=>
  intro n s r hH e O R s1 s2 N' hN' hR hi hq;obtain⟨N',rfl⟩: ∃m,N'=m+1:=⟨N' - 1,by omega⟩
  rw[htl]at e;have k1:=h205 O R s w hR hi.i;cases hw:isS L s w with
  |false=>
   rw[hw]at e k1;simp only[Bool.false_eq_true,if_false,Option.some.injEq]at e;subst e;refine⟨O,[],?_⟩;rw[List.append_nil]
   suffices hx: ∃ts',dh false (a8 G false cl yl N (lfB f w op)) ⟨[0,2,3],[],true⟩ kk mm (N'+1) ⟨[(0,.ptr p 0),(2,.ptr q2 0),(3,.ptr q3 0)],⟨O,R⟩,[]⟩=some (.exit 0,⟨ts',⟨O,R⟩,[]⟩)/\look 2 ts'=.ptr q2 0/\look 3 ts'=.ptr q3 0 by
    obtain⟨ts',h1,h2,h3⟩:=hx;exact⟨ts',s1,s2,h1,h2,h3,hq,hR,Nat.le_refl _,fun _ _ _ _=>rfl⟩
   apply Exists.intro;apply And.intro
   ·simp -implicitDefEqProofs [dh,lfB,k1];rfl
   ·refine⟨?_,?_⟩<;>first|rfl|simp
  |true=>
   rw[hw]at e k1;simp only[if_true,Option.bind_eq_some_iff]at e;obtain⟨q,e1,e2⟩:=e;have w1:dj .i64 ((s.i:Int)+1)=((s.i+1:Nat):Int):=dF (by have:=hi.i;omega);have hi1:=hi.step (eS hL hw);obtain⟨O1,eO1,f1,r1⟩:=fV hR (adv s);obtain⟨a1,a2,O2,Y1,k2,f2,r2⟩:=hc h (by omega) O1 R (adv s) q r1 hi1 e1;have g1:=f1.old hq hqp;have g2:=f2.old g1 hqp;have hi2:=hi1.step (gD hL _ _ _ _ e1);have p1:=iW s1 s2 n;have p2:=iW a1 a2 q.1;obtain⟨O3,eO3,r3,g3,n3,m3⟩:=gg (.cells (icN .full .full (nd op [n,q.1]))) hqp (List.getElem?_eq_some_iff.1 g2).1 r2;have l1:=f1.len;have l2:=f2.len;obtain⟨O4,Y2,ts',s3,s4,i1,i2,i3,i4,i5,i6,i7⟩:=ih (nd op [n,q.1]) q.2 r (by omega) e2 O3 (R++Y1) .full .full N' (by omega) r3 hi2 g3;refine⟨O4,Y1++Y2,ts',s3,s4,?_,i2,i3,i4,i5,by omega,fun i hi hp h3=>by rw[i7 i (by omega) hp h3,n3 i h3,f2.get i (by omega) hp,f1.get i hi hp]⟩;rw[<-List.append_assoc,<-i1];have hnd:icN .full .full (nd op [n,q.1])=[.int .i64 op,.slc .full [],.int .i64 0,.int .i64 0,.int .i64 0,.slc .full [av n,av q.1]]:=rfl;rw[hnd]at eO3;have hR':=hR;unfold Rd rdc at hR';unfold rdc adv at eO1;have hc1:cells (av n)=some (ndc n):=by simp
   unfold icN at g1 g2 p1 p2 k2
   try simp -implicitDefEqProofs at eO1
   have step: ∃ts1,a8 G false cl yl N (lfB f w op) ⟨[(0,.ptr p 0),(2,.ptr q2 0),(3,.ptr q3 0)],⟨O,R⟩,[]⟩=some (.normal,⟨ts1,⟨O3,R++Y1⟩,[]⟩)/\fP ts1 [0,2,3]=[(0,.ptr p 0),(2,.ptr q2 0),(3,.ptr q3 0)]:=by
    clear i7 n3 m3 l1 l2;apply Exists.intro;apply And.intro
    ·simp -implicitDefEqProofs [lfB,k1,hR',w1,eO1,g1,k2,g2,p1,p2,eO3];rfl
    ·first|rfl|simp
   obtain⟨ts1,st1,st2⟩:=step;simp only[dh,st1,eI,Bool.false_eq_true,if_false,if_true,st2]
theorem evL (w:Str) (op:Int) (kd:Kd) (tl:Nd->Kd) (h f:Nat) (hL:Lok L) (hbL:L.length<big)
  (htl: ∀h n s,pr' L (h+1) (tl n) s=if isS L s w then(pr' L h kd (adv s)).bind (fun r=>pr' L h (tl (nd op [n,r.1])) r.2)else some (n,s))
  (hc: ∀h',h'<=h-> ∀O R s r,Rd O p sp L s->Pre L s->pr' L h' kd s=some r->RN (cl f [.ptr p 0] ⟨O,R⟩) r.1 p sp L r.2 O R)
  (h205:iZ cl p sp L) (hN:h<N) {O:List Obj} {R:List Arr} {s:Ps} {r:Nd×Ps} (hR:Rd O p sp L s) (hi:Pre L s) (e:(pr' L h kd s).bind (fun r=>pr' L h (tl r.1) r.2)=some r):
  RN (dr G false cl yl N (lf f w op) [.ptr p 0] ⟨O,R⟩) r.1 p sp L r.2 O R:=by
 rw[Option.bind_eq_some_iff]at e;obtain⟨q,e1,e2⟩:=e;have hp:p<O.length:=(List.getElem?_eq_some_iff.1 hR).1;obtain⟨a1,a2,O1,Y1,k1,f1,r1⟩:=hc h (Nat.le_refl _) (O++[.cells zz6]) R s q (hR.app _) hi e1;have l1:=f1.len;rw[List.length_append,List.length_singleton]at l1;have g8:O1[O.length]? =some (.cells zz6):=f1.old (by simp) (by omega);have hx:=vo O1 (.cells zz6) (.cells (icN a1 a2 q.1));obtain⟨O2,Y2,ts',s3,s4,i1,i2,i3,i4,i5,i6,i7⟩:=Rb (G:=G) (yl:=yl) (N:=N) w op kd tl h f hL hbL htl hc h205 O.length O1.length (O1.length+1) (R++Y1).length (by omega) h q.1 q.2 r (Nat.le_refl _) e2
  (O1++[.cells (icN a1 a2 q.1)]) (R++Y1) a1 a2 N hN (r1.app _) (hi.step (gD hL _ _ _ _ e1)) (by simp)
 rw[List.length_append,List.length_singleton]at i6;have g8':O2[O.length]? =some (.cells zz6):=by rw[i7 O.length (by simp;omega) (by omega) (by omega)];exact dD g8 _
 obtain⟨O9,e9,g9,n9,m9⟩:=fe (.cells (icN s3 s4 r.1)) (List.getElem?_eq_some_iff.1 g8').1;refine⟨s3,s4,O9,Y1++Y2,?_,⟨by omega,fun i hi hp=>?_⟩,?_⟩
 ·unfold icN at k1 hx i1 i4 e9 g9⊢;simp -implicitDefEqProofs at k1 i1 hx;clear n9 m9 l1 hp i6 i7;simp -implicitDefEqProofs [lf,k1,hx,i1,i2,i3,i4,g8',e9,g9]
 ·rw[n9 i (by omega),i7 i (by simp;omega) hp (by omega),List.getElem?_append_left (by omega),f1.get i (by simp;omega) hp,List.getElem?_append_left hi]
 ·unfold Rd;rw[n9 p (by omega)];exact i5
end
def ApG (n:Nat) (R:List Arr) (s1:Sp) (R':List Arr):Prop:=(∃Y,R'=R++Y)/\(s1=.full\/ ∃a,s1=.own a/\R.length<=a/\R'[a]? =some (.app n 32 6))
theorem ApG.app {n:Nat} {R R':List Arr} {s1:Sp} (h:ApG n R s1 R') (Y:List Arr):ApG n R s1 (R'++Y):=by
 obtain⟨⟨Z,rfl⟩,h⟩:=h;refine⟨⟨Z++Y,by simp⟩,?_⟩;rcases h with h|⟨a,h1,h2,h3⟩
 ·exact .inl h
 ·exact .inr ⟨a,h1,h2,dD h3 Y⟩
theorem Rc {l:List Nd} {R R':List Arr} {s1:Sp} (h:ApG l.length R s1 R') (n:Nd) (O:List Obj) (hn:l.length<858993459200):
  ∃s2 R3,dI 32 (.ag 6) 80 (.slc s1 (avL l)) [av n] ⟨O,R'⟩=some (.slc s2 (avL (l++[n])),⟨O,R3⟩)/\ApG (l.length+1) R s2 R3:=by
 have h1:(l.length+1)*80<=140737488355328:=by omega
 have h2:l.length+1<=140737488355328:=by omega
 obtain⟨⟨Z,rfl⟩,h⟩:=h;rcases h with rfl|⟨a,rfl,h3,h4⟩
 ·refine⟨.own (R++Z).length,(R++Z)++[.app (l.length+1) 32 6],?_,⟨Z++[.app (l.length+1) 32 6],by simp⟩,.inr ⟨_,rfl,by simp,by simp⟩⟩;simp[dI,h1,h2];rw[lk];rfl
 ·have hlt:=(List.getElem?_eq_some_iff.1 h4).1;refine⟨.own a,(R++Z).set a (.app (l.length+1) 32 6),?_,⟨Z.set (a - R.length) (.app (l.length+1) 32 6),by rw[List.set_append_right _ _ h3]⟩,.inr ⟨_,rfl,h3,List.getElem?_set_self hlt⟩⟩;simp[dI,h1,h2,h4];rw[lk];rfl
section
variable {G:Gls} {cl:a7} {yl:a7} {N:Nat}
variable {p:Nat} {sp:Sp} {L:List Tk} {O:List Obj} {R:List Arr} {s:Ps}
theorem Re (hL:Lok L) (hbL:L.length<big) (H:Nat) {q2:Nat} (h205:iZ cl p sp L) (hc: ∀h',h'<=H-> ∀O R s r,Rd O p sp L s->Pre L s->pr' L h' .ors s=some r->RN (cl 225 [.ptr p 0] ⟨O,R⟩) r.1 p sp L r.2 O R) (kk mm:Nat):
  ∀(h:Nat) (l:List Nd) (s:Ps) (r:Nd×Ps) (O:List Obj) (R':List Arr) (s1:Sp) (N':Nat),h<=H->pr' L h (.tImp l) s=some r->h<N'->l.length+h<858993459200->l≠[]->Rd O p sp L s->Pre L s->ApG l.length R s1 R'->
   ∃(O':List Obj) (R3:List Arr) (ts':dx) (s3:Sp) (l':List Nd),dh false (a8 G false cl yl N pG) ⟨[0,2,3],[(3,none)],true⟩ kk mm N' ⟨[(0,.ptr p 0),(2,.ptr q2 0),(3,.slc s1 (avL l))],⟨O,R'⟩,[]⟩=some (.exit 0,⟨ts',⟨O',R3⟩,[]⟩)/\
    look 2 ts'=.ptr q2 0/\look 3 ts'=.slc s3 (avL l')/\r.1=chn l'/\l'≠[]/\l'.length<=l.length+h/\Rd O' p sp L r.2/\(∃Y,R3=R++Y)/\Fro p O O':=by
 unfold big at hbL;intro h
 induction h with
 |zero=>intro l s r O R' s1 N' _ e;simp[pr']at e
 |succ h ih=>
  intro l s r O R' s1 N' hH e hN' hb hne hR hi hA;obtain⟨N',rfl⟩: ∃m,N'=m+1:=⟨N' - 1,by omega⟩
  simp only[pr']at e;have k1:=h205 O R' s js hR hi.i;have hw:js=[105,109,112,108,105,101,115]:=rfl;cases h1:isS L s js with
  |false=>
   rw[h1]at e k1;rw[hw]at k1;simp only[Bool.false_eq_true,if_false,Option.some.injEq]at e;subst e
   suffices hx: ∃ts',dh false (a8 G false cl yl N pG) ⟨[0,2,3],[(3,none)],true⟩ kk mm (N'+1) ⟨[(0,.ptr p 0),(2,.ptr q2 0),(3,.slc s1 (avL l))],⟨O,R'⟩,[]⟩=some (.exit 0,⟨ts',⟨O,R'⟩,[]⟩)/\look 2 ts'=.ptr q2 0/\look 3 ts'=.slc s1 (avL l)by
    obtain⟨ts',h1,h2,h3⟩:=hx;exact⟨O,R',ts',s1,l,h1,h2,h3,rfl,hne,by omega,hR,hA.1,.refl _ _⟩
   apply Exists.intro;apply And.intro
   ·simp -implicitDefEqProofs [dh,pG,k1];rfl
   ·refine⟨?_,?_⟩<;>first|rfl|simp
  |true=>
   rw[h1]at e k1;rw[hw]at k1;simp only[if_true,Option.bind_eq_some_iff]at e;obtain⟨q,e1,e2⟩:=e;have w1:dj .i64 ((s.i:Int)+1)=((s.i+1:Nat):Int):=dF (by have:=hi.i;omega);have hi1:=hi.step (eS hL h1);obtain⟨O1,eO1,f1,r1⟩:=fV hR (adv s);obtain⟨a1,a2,O2,Y1,k2,f2,r2⟩:=hc h (by omega) O1 R' (adv s) q r1 hi1 e1;have hi2:=hi1.step (gD hL _ _ _ _ e1);obtain⟨s2,R3,hap,hA3⟩:=Rc (hA.app Y1) q.1 O2 (by omega);obtain⟨O4,R4,ts',s3,l',j1,j2,j3,j4,j5,j6,j7,j8,j9⟩:=ih (l++[q.1]) q.2 r O2 R3 s2 N' (by omega) e2 (by omega) (by simp;omega) (by simp) r2 hi2 (by simpa using hA3);refine⟨O4,R4,ts',s3,l',?_,j2,j3,j4,j5,by simp at j6;omega,j7,j8,(f1.trans f2).trans j9⟩;rw[<-j1];have hpz:=iW a1 a2 q.1;have hR':=hR;unfold Rd rdc at hR';unfold rdc adv at eO1;unfold icN at k2 hpz
   try simp -implicitDefEqProofs at eO1
   have step: ∃ts1,a8 G false cl yl N pG ⟨[(0,.ptr p 0),(2,.ptr q2 0),(3,.slc s1 (avL l))],⟨O,R'⟩,[]⟩=some (.normal,⟨ts1,⟨O2,R3⟩,[]⟩)/\fP ts1 [0,2,3]=[(0,.ptr p 0),(2,.ptr q2 0),(3,.slc s2 (avL (l++[q.1])))]:=by
    apply Exists.intro;apply And.intro
    ·simp -implicitDefEqProofs [-dI,pG,k1,hR',w1,eO1,k2,hpz,hap];rfl
    ·first|rfl|simp
   obtain⟨ts1,st1,st2⟩:=step;simp only[dh,st1,eI,Bool.false_eq_true,if_false,if_true,st2]
theorem Rf {all:List Nd} {q2 q4:Nat} {sp3:Sp} (hall:all.length<big) (kk mm:Nat):
  ∀(n:Nat) (a rest:List Nd) (m:Nd) (O:List Obj) (s1 s2:Sp) (N':Nat),a.length=n->all=a++rest->n<N'->O[q4]? =some (.cells (icN s1 s2 m))->
   ∃(O':List Obj) (ts':dx) (s3 s4:Sp),dh false (a8 G false cl yl N lZ) ⟨[2,3,4,5],[(5,none)],true⟩ kk mm N' ⟨[(2,.ptr q2 0),(3,.slc sp3 (avL all)),(4,.ptr q4 0),(5,.int .i64 ((n:Int) - 1))],⟨O,R⟩,[]⟩=some (.exit 2,⟨ts',⟨O',R⟩,[]⟩)/\
    look 2 ts'=.ptr q2 0/\look 4 ts'=.ptr q4 0/\O'[q4]? =some (.cells (icN s3 s4 (a.foldr (fun n r=>nd 14 [n,r]) m)))/\O'.length=O.length/\ ∀i,i≠q4->O'[i]? =O[i]?:=by
 unfold big at hall;intro n
 induction n with
 |zero=>
  intro a rest m O s1 s2 N' ha he hN' hq;obtain⟨N',rfl⟩: ∃m,N'=m+1:=⟨N' - 1,by omega⟩
  have:a=[]:=List.eq_nil_of_length_eq_zero ha;subst this
  suffices hx: ∃ts',dh false (a8 G false cl yl N lZ) ⟨[2,3,4,5],[(5,none)],true⟩ kk mm (N'+1) ⟨[(2,.ptr q2 0),(3,.slc sp3 (avL all)),(4,.ptr q4 0),(5,.int .i64 (((0:Nat):Int) - 1))],⟨O,R⟩,[]⟩=some (.exit 2,⟨ts',⟨O,R⟩,[]⟩)/\look 2 ts'=.ptr q2 0/\look 4 ts'=.ptr q4 0 by
   obtain⟨ts',h1,h2,h3⟩:=hx;exact⟨O,ts',s1,s2,h1,h2,h3,hq,rfl,fun _ _=>rfl⟩
  apply Exists.intro;apply And.intro
  ·simp -implicitDefEqProofs [dh,lZ];rfl
  ·refine⟨?_,?_⟩<;>first|rfl|simp
 |succ n ih=>
  intro a rest m O s1 s2 N' ha he hN' hq;obtain⟨N',rfl⟩: ∃m,N'=m+1:=⟨N' - 1,by omega⟩
  obtain⟨a,y,rfl⟩: ∃a0 y,a=a0++[y]:=by
   have hne:a≠[]:=by rintro rfl;simp at ha
   exact⟨a.dropLast,a.getLast hne,(List.dropLast_concat_getLast hne).symm⟩
  have han:a.length=n:=by simpa using ha
  have hlt:=(List.getElem?_eq_some_iff.1 hq).1;obtain⟨O1,e1,g1,n1,m1⟩:=fe (.cells (icN .full .full (nd 14 [y,m]))) hlt;obtain⟨O',ts',s3,s4,i1,i2,i3,i4,i5,i6⟩:=ih a (y::rest) (nd 14 [y,m]) O1 .full .full N' han (by rw[he];simp) (by omega) g1;refine⟨O',ts',s3,s4,?_,i2,i3,by rw[List.foldr_append];exact i4,by omega,fun i hi=>by rw[i6 i hi,n1 i hi]⟩;rw[<-i1];have hal:n<all.length:=by rw[he];simp;omega
  have hget:(avL all)[n]? =some (av y):=by
   rw[he,lk,lk,List.append_assoc,List.getElem?_append_right (by rw[lV];omega),lV,han,Nat.sub_self];rfl
  have hget': ∀h,(avL all)[n]'h=av y:=fun h=>(List.getElem?_eq_some_iff.1 hget).2;have w1:dj .i64 ((n:Int) - 1)=(n:Int) - 1:=dJ (by omega) (by omega);have hpz:=iW s1 s2 m;have hc1:cells (av y)=some (ndc y):=by simp
  have hnd:icN .full .full (nd 14 [y,m])=[.int .i64 14,.slc .full [],.int .i64 0,.int .i64 0,.int .i64 0,.slc .full [av y,av m]]:=rfl;rw[hnd]at e1;have hln:(avL all).length=all.length:=lV all;unfold icN at hq hpz;have step: ∃ts1,a8 G false cl yl N lZ ⟨[(2,.ptr q2 0),(3,.slc sp3 (avL all)),(4,.ptr q4 0),(5,.int .i64 (((n+1:Nat):Int) - 1))],⟨O,R⟩,[]⟩=some (.normal,⟨ts1,⟨O1,R⟩,[]⟩)/\fP ts1 [2,3,4,5]=[(2,.ptr q2 0),(3,.slc sp3 (avL all)),(4,.ptr q4 0),(5,.int .i64 ((n:Int) - 1))]:=by
   clear i6 n1 he ih;generalize avL all=es at*;have hal':n<es.length:=by omega
   cases sp3 with
   |shared=>
    apply Exists.intro;apply And.intro
    ·simp -implicitDefEqProofs [lZ,hal',hget',hq,hpz,w1,e1];rfl
    ·first|rfl|simp
   |full=>
    apply Exists.intro;apply And.intro
    ·simp -implicitDefEqProofs [lZ,hal',hget',hq,hpz,w1,e1];rfl
    ·first|rfl|simp
   |own a=>
    apply Exists.intro;apply And.intro
    ·simp -implicitDefEqProofs [lZ,hal',hget',hq,hpz,w1,e1];rfl
    ·first|rfl|simp
  obtain⟨ts1,st1,st2⟩:=step;simp only[dh,st1,eI,Bool.false_eq_true,if_false,if_true,st2]
theorem Rg (hL:Lok L) (hbL:L.length<big) (h:Nat) {r:Nd×Ps} (h205:iZ cl p sp L) (hc: ∀h',h'<=h-> ∀O R s r,Rd O p sp L s->Pre L s->pr' L h' .ors s=some r->RN (cl 225 [.ptr p 0] ⟨O,R⟩) r.1 p sp L r.2 O R)
  (hN:h+1<N) (hh:h+1<big) (hR:Rd O p sp L s) (hi:Pre L s) (e:(pr' L h .ors s).bind (fun r=>pr' L h (.tImp [r.1]) r.2)=some r):
  RN (dr G false cl yl N pH [.ptr p 0] ⟨O,R⟩) r.1 p sp L r.2 O R:=by
 unfold big at hh;rw[Option.bind_eq_some_iff]at e;obtain⟨q,e1,e2⟩:=e;have hp:p<O.length:=(List.getElem?_eq_some_iff.1 hR).1;obtain⟨a1,a2,O1,Y1,k1,f1,r1⟩:=hc h (Nat.le_refl _) (O++[.cells zz6]) R s q (hR.app _) hi e1;have hi1:=hi.step (gD hL _ _ _ _ e1);obtain⟨O2,R3,ts',s3,l',j1,j2,j3,j4,j5,j6,j7,⟨Y3,rfl⟩,j9⟩:=Re (G:=G) (yl:=yl) (N:=N) (R:=R) hL hbL h (q2:=O.length) h205 hc O1.length (R++Y1).length h [q.1] q.2 r O1 (R++Y1) .full N (Nat.le_refl _) e2 (by omega) (by simp;omega) (by simp) r1 hi1 ⟨⟨Y1,rfl⟩,.inl rfl⟩;have f2:=f1.trans j9;have l2:=f2.len;rw[List.length_append,List.length_singleton]at l2;have z2:O2[O.length]? =some (.cells zz6):=f2.old (by simp) (by omega);obtain⟨l0,x,rfl⟩: ∃l0 x,l'=l0++[x]:=⟨l'.dropLast,l'.getLast j5,(List.dropLast_concat_getLast j5).symm⟩
 rw[yb]at j4;have hl0:(l0++[x]).length<big:=by
  unfold big;simp at j6⊢;omega
 have hl1:l0.length<N/\l0.length<8589934592:=by simp at j6;omega
 obtain⟨t1,t2,hx⟩:=ya x;obtain⟨O3,ts3,s5,s6,v1,v2,v3,v4,v5,v6⟩:=Rf (G:=G) (cl:=cl) (yl:=yl) (N:=N) (R:=R++Y3) (all:=l0++[x]) (q2:=O.length) (q4:=O2.length) (sp3:=s3) hl0 (O2.length+1) (R++Y3).length l0.length l0 [x] x (O2++[.cells (ndc x)]) t1 t2 N rfl rfl hl1.1 (by rw[<-hx];simp);rw[List.length_append,List.length_singleton]at v5;have z3:O3[O.length]? =some (.cells zz6):=by rw[v6 _ (by omega)];exact dD z2 _
 rw[<-j4]at v4;obtain⟨O9,e9,g9,n9,m9⟩:=fe (.cells (icN s5 s6 r.1)) (List.getElem?_eq_some_iff.1 z3).1;refine⟨s5,s6,O9,Y3,?_,⟨by omega,fun i hi hp=>?_⟩,?_⟩
 ·have hpz:=iW a1 a2 q.1;unfold icN at k1 hpz v4 e9 g9⊢;have w1:dj .i64 (l0.length:Int)=(l0.length:Int):=dJ (by omega) (by omega);have w2:dj .i64 ((l0.length:Int)+1 - 2)=(l0.length:Int) - 1:=by rw[dJ (by omega) (by omega)];omega
  have w3:dj .i64 ((l0.length:Int) - 1)=(l0.length:Int) - 1:=dJ (by omega) (by omega);have hap:=lk l0 [x];have hlen:(avL l0).length=l0.length:=lV l0;have hax:avL [x]=[av x]:=rfl;rw[hax]at hap;rw[hap]at j3 v1;have hav1:avL [q.1]=[av q.1]:=rfl;rw[hav1]at j1;have hget:(avL l0++[av x])[l0.length]? =some (av x):=by rw[List.getElem?_append_right (by omega)];simp[hlen]
  have hln:(avL l0++[av x]).length=l0.length+1:=by simp
  have hget': ∀h,(avL l0++[av x])[l0.length]'h=av x:=fun h=>(List.getElem?_eq_some_iff.1 hget).2;have hso:=vo O2 (.cells zz6) (.cells (ndc x));have hcx:cells (av x)=some (ndc x):=by simp
  generalize avL l0++[av x]=es at*;rw[List.length_append]at j1 v1;clear n9 m9 v6 l2 z2 hap hl0 hl1;cases s3 with
  |shared=>simp -implicitDefEqProofs [pH,k1,hpz,j1,j2,j3,hln,hlen,w1,w2,w3,hget',hso,v1,v2,v3,v4,z3,e9,g9]
  |full=>simp -implicitDefEqProofs [pH,k1,hpz,j1,j2,j3,hln,hlen,w1,w2,w3,hget',hso,v1,v2,v3,v4,z3,e9,g9]
  |own a=>simp -implicitDefEqProofs [pH,k1,hpz,j1,j2,j3,hln,hlen,w1,w2,w3,hget',hso,v1,v2,v3,v4,z3,e9,g9]
 ·rw[n9 i (by omega),v6 i (by omega),List.getElem?_append_left (by omega),f2.get i (by rw[List.length_append];omega) hp,List.getElem?_append_left hi]
 ·unfold Rd;rw[n9 p (by omega),v6 p (by omega),List.getElem?_append_left (by omega)];exact j7
end
abbrev qd (cl:a7) (p:Nat) (sp:Sp) (L:List Tk):Prop:= ∀O R s',Rd O p sp L s'->s'.i<L.length->RR (cl 207 [.ptr p 0] ⟨O,R⟩) (.str (dq L s').1) p sp L (dq L s').2 O R
abbrev vq (cl:a7) (p:Nat) (sp:Sp) (L:List Tk):Prop:= ∀O R s' w,Rd O p sp L s'->s'.i<L.length->RR (cl 208 [.ptr p 0,.str w] ⟨O,R⟩) (.tup []) p sp L (dX L s' w) O R
theorem yP (O:List Obj) (x y z:Obj):(O++[x,y]).set (O.length+1) z=O++[x,z]:=by
 rw[List.set_append_right _ _ (by omega)];simp
section
variable {G:Gls} {cl:a7} {yl:a7} {N:Nat}
variable {O:List Obj} {R:List Arr} {p:Nat} {sp:Sp} {L:List Tk} {s:Ps}
theorem Rh {f:Str} (hL:Lok L) (hbL:L.length<big) {q4 q5:Nat} (h205:iZ cl p sp L) (h207:qd cl p sp L) (hq4:q4≠p) (hq5:q5≠p) (hq45:q4≠q5) (kk mm:Nat):
  ∀(h:Nat) (ns:List Str) (s:Ps) (r:List Str×Ps) (O:List Obj) (R R':List Arr) (s1:Sp) (N':Nat),gC L f h ns s=some r->h<N'->ns.length+h<8589934592->Rd O p sp L s->s.i<L.length->ApN ns.length R s1 R'->O[q4]? =some (.cells zz6)->O[q5]? =some (.cells (icC s1 ns))->
   ∃(O':List Obj) (Y:List Arr) (ts':dx) (s3:Sp) (ex:Ex),dh false (a8 G false cl yl N jk) ⟨[0,4,5],[(5,some 1)],true⟩ kk mm N' ⟨[(0,.ptr p 0),(4,.ptr q4 0),(5,.ptr q5 0)],⟨O,R'⟩,[]⟩=some (ex,⟨ts',⟨O',R++Y⟩,[]⟩)/\
    look 4 ts'=.ptr q4 0/\((ex=.exit 0/\look 0 ts'=.ptr p 0/\look 5 ts'=.ptr q5 0/\O'[q5]? =some (.cells (icC s3 r.1))/\O'[q4]? =some (.cells zz6)/\ ∃s2,Rd O' p sp L s2/\s2.i<L.length/\r.2=dX L s2 wR)\/(ex=.ret/\O'[q4]? =some (.cells (icC s3 r.1))/\Rd O' p sp L r.2))/\
    O.length<=O'.length/\ ∀i,i<O.length->i≠p->i≠q4->i≠q5->O'[i]? =O[i]?:=by
 unfold big at hbL;intro h
 induction h with
 |zero=>intro ns s r O R R' s1 N' e;simp[gC]at e
 |succ h ih=>
  intro ns s r O R R' s1 N' e hN' hb hR hi hA g4 g5;obtain⟨N',rfl⟩: ∃m,N'=m+1:=⟨N' - 1,by omega⟩
  have hRY: ∃Y,R'=R++Y:=by
   rcases hA with⟨-,rfl⟩|⟨-,rfl⟩
   ·exact⟨[],by simp⟩
   ·exact⟨_,rfl⟩
  simp only[gC]at e;have hR':=hR;unfold Rd rdc at hR';have hx:=gq hi;have hx':=(List.getElem?_eq_some_iff.1 hx).2;by_cases he:s.e=0
  ·rw[if_pos he]at e;rw[he]at hR';by_cases hk:(tkA L s.i).k=1/\ns.length=17
   ·rw[if_pos hk]at e;cases e;unfold wrg;rw[if_pos he];obtain⟨O1,e1,f1,r1⟩:=fV hR ⟨s.i,8,s.o⟩;have g41:=f1.old g4 hq4;have g51:=f1.old g5 hq5;obtain⟨O2,e2,r2,g2,n2,m2⟩:=gg (.cells (icC s1 ns)) hq4 (List.getElem?_eq_some_iff.1 g41).1 r1;obtain⟨Y,rfl⟩:=hRY;have l1:=f1.len
    suffices hx: ∃ts',dh false (a8 G false cl yl N jk) ⟨[0,4,5],[(5,some 1)],true⟩ kk mm (N'+1) ⟨[(0,.ptr p 0),(4,.ptr q4 0),(5,.ptr q5 0)],⟨O,R++Y⟩,[]⟩=some (.ret,⟨ts',⟨O2,R++Y⟩,[]⟩)/\look 4 ts'=.ptr q4 0 by
     obtain⟨ts',h1,h2⟩:=hx;exact⟨O2,Y,ts',s1,.ret,h1,h2,.inr ⟨rfl,g2,r2⟩,by omega,fun i hi hp h4 _=>by rw[n2 i h4,f1.get i hi hp]⟩
    unfold icC at g5 g51 e2;unfold rdc at e1;have hk1:=hk.1;have hk2:=hk.2;generalize tkA L s.i=t at*;clear n2 m2;apply Exists.intro;apply And.intro
    ·simp -implicitDefEqProofs [dh,jk,hR',hi,hx',tkv,tkC,hk1,g5,hk2,e1,g51,g41,e2];rfl
    ·first|rfl|simp
   ·rw[if_neg hk]at e;obtain⟨O2,k2,f2,r2⟩:=h207 O R' s hR hi;have t2:=fT hL s;generalize dq L s=a at*;have i2:=t2.lt hi;have g2:=f2.old g5 hq5;have hap:=p8 hA (ns.map .str) (by simp) (by simp) a.1 O2 (by omega);obtain⟨O3,e3,r3,g3,n3,m3⟩:=gg (.cells (icC (.own R.length) (ns++[a.1]))) hq5 (List.getElem?_eq_some_iff.1 g2).1 r2;have k4:=h205 O3 (R++[.app (ns.length+1) 9 1]) a.2 eu r3 i2;have hw:eu=[44]:=rfl;rw[hw]at k4 e;have l2:=f2.len;have fr4: ∀i,i<O.length->i≠p->i≠q5->O3[i]? =O[i]?:=fun i hi hp h5=>by rw[n3 i h5,f2.get i hi hp]
    have g43:O3[q4]? =some (.cells zz6):=by rw[fr4 q4 (List.getElem?_eq_some_iff.1 g4).1 hq4 hq45];exact g4
    have hcond: ∀b,((tkA L s.i).k==1)=b->(b=true->(ns.length:Int)≠17):=fun b hb hb'=>by
     subst hb';simp at hb;intro h;exact hk ⟨hb,by omega⟩
    have g5m:=g5;have g2m:=g2;have e3m:=e3;have hicN:icC (.own R.length) (ns++[a.1])=[.int .i64 10,.slc (.own R.length) (ns.map .str++[.str a.1]),.int .i64 0,.int .i64 0,.int .i64 0,.slc .full []]:=by simp[icC]
    rw[hicN]at e3m;unfold icC at g5m g2m;have l3:O3.length=O2.length:=by rw[<-e3];simp
    clear m3;cases h1:isS L a.2 [44]with
    |true=>
     rw[h1]at e k4;rw[if_pos rfl]at e;have hs:=eS hL h1;obtain⟨O4,e4,f4,r4⟩:=fV r3 (adv a.2);have w1:dj .i64 ((a.2.i:Int)+1)=((a.2.i+1:Nat):Int):=dF (by omega);have l4:=f4.len;obtain⟨O5,Y,ts',s3,ex,j1,j2,j3,j4,j5⟩:=ih (ns++[a.1]) (adv a.2) r O4 R (R++[.app (ns.length+1) 9 1]) (.own R.length) N' e (by omega) (by simp;omega) r4 (hs.lt i2) (.inr ⟨rfl,by simp⟩) (f4.old g43 hq4) (f4.old g3 hq5);refine⟨O5,Y,ts',s3,ex,?_,j2,j3,by omega,fun i hi hp h4 h5=>by rw[j5 i (by omega) hp h4 h5,f4.get i (by omega) hp];exact fr4 i hi hp h5⟩;rw[<-j1];have r3':=r3;unfold Rd rdc at r3';unfold rdc adv at e4
     try simp -implicitDefEqProofs at e4
     have step: ∃ts1,a8 G false cl yl N jk ⟨[(0,.ptr p 0),(4,.ptr q4 0),(5,.ptr q5 0)],⟨O,R'⟩,[]⟩=some (.normal,⟨ts1,⟨O4,R++[.app (ns.length+1) 9 1]⟩,[]⟩)/\fP ts1 [0,4,5]=[(0,.ptr p 0),(4,.ptr q4 0),(5,.ptr q5 0)]:=by
      clear l2 l3 l4 fr4 j5 f2 f4;generalize tkA L s.i=t at*;by_cases hk1:t.k=1
      ·have h17:((ns.length:Int)==17)=false:=by simpa using hcond true (by simp[hk1]) rfl
       apply Exists.intro;apply And.intro
       ·simp -implicitDefEqProofs [-dI,jk,hR',hi,hx',tkv,tkC,hk1,g5m,h17,k2,g2m,hap,e3m,k4,r3',w1,e4];rfl
       ·first|rfl|simp
      ·apply Exists.intro;apply And.intro
       ·simp -implicitDefEqProofs [-dI,jk,hR',hi,hx',tkv,tkC,g5m,show(t.k==1)=false by simp[hk1],k2,g2m,hap,e3m,k4,r3',w1,e4];rfl
       ·first|rfl|simp
     obtain⟨ts1,st1,st2⟩:=step;simp only[dh,st1,eI,Bool.false_eq_true,if_false,if_true,st2]
    |false=>
     rw[h1]at e k4;rw[if_neg (by decide)]at e;simp only[Option.some.injEq]at e;subst e
     suffices hx: ∃ts',dh false (a8 G false cl yl N jk) ⟨[0,4,5],[(5,some 1)],true⟩ kk mm (N'+1) ⟨[(0,.ptr p 0),(4,.ptr q4 0),(5,.ptr q5 0)],⟨O,R'⟩,[]⟩=some (.exit 0,⟨ts',⟨O3,R++[.app (ns.length+1) 9 1]⟩,[]⟩)/\look 0 ts'=.ptr p 0/\look 4 ts'=.ptr q4 0/\look 5 ts'=.ptr q5 0 by
      obtain⟨ts',h1,h0,h2,h3⟩:=hx;exact⟨O3,_,ts',.own R.length,.exit 0,h1,h2,.inl ⟨rfl,h0,h3,g3,g43,a.2,r3,i2,rfl⟩,by omega,fun i hi hp _ h5=>fr4 i hi hp h5⟩
     clear l2 l3 fr4 f2;generalize tkA L s.i=t at*;by_cases hk1:t.k=1
     ·have h17:((ns.length:Int)==17)=false:=by simpa using hcond true (by simp[hk1]) rfl
      apply Exists.intro;apply And.intro
      ·simp -implicitDefEqProofs [-dI,dh,jk,hR',hi,hx',tkv,tkC,hk1,g5m,h17,k2,g2m,hap,e3m,k4];rfl
      ·refine⟨?_,?_,?_⟩<;>first|rfl|simp
     ·apply Exists.intro;apply And.intro
      ·simp -implicitDefEqProofs [-dI,dh,jk,hR',hi,hx',tkv,tkC,g5m,show(t.k==1)=false by simp[hk1],k2,g2m,hap,e3m,k4];rfl
      ·refine⟨?_,?_,?_⟩<;>first|rfl|simp
  ·rw[if_neg he]at e;simp only[Option.some.injEq]at e;subst e;obtain⟨Y,rfl⟩:=hRY;have he':(s.e==0)=false:=by simp[he]
   suffices hx: ∃ts',dh false (a8 G false cl yl N jk) ⟨[0,4,5],[(5,some 1)],true⟩ kk mm (N'+1) ⟨[(0,.ptr p 0),(4,.ptr q4 0),(5,.ptr q5 0)],⟨O,R++Y⟩,[]⟩=some (.exit 0,⟨ts',⟨O,R++Y⟩,[]⟩)/\look 0 ts'=.ptr p 0/\look 4 ts'=.ptr q4 0/\look 5 ts'=.ptr q5 0 by
    obtain⟨ts',h1,h0,h2,h3⟩:=hx;exact⟨O,Y,ts',s1,.exit 0,h1,h2,.inl ⟨rfl,h0,h3,g5,g4,s,hR,hi,(D6 he).symm⟩,Nat.le_refl _,fun _ _ _ _ _=>rfl⟩
   apply Exists.intro;apply And.intro
   ·simp -implicitDefEqProofs [dh,jk,hR',he,he'];rfl
   ·refine⟨?_,?_,?_⟩<;>first|rfl|simp
theorem Ri (hL:Lok L) (hbL:L.length<big) (f:Str) (H:Nat) (h:Rd O p sp L s) (hs:isS L s wL=true) (hi:s.i<L.length) {r:Nd×Ps} (e:iE L f H s=some r) (hH:H<big) (hN:H<N)
  (h205:iZ cl p sp L) (h207:qd cl p sp L) (h208:vq cl p sp L):
  RN (dr G false cl yl N pL [.ptr p 0,.str f] ⟨O,R⟩) r.1 p sp L r.2 O R:=by
 have hp:p<O.length:=(List.getElem?_eq_some_iff.1 h).1;have hbL':=hbL;unfold big at hbL' hH;have hw0:wL=[40]:=rfl;have hw:wR=[41]:=rfl;have hL1:dX L s wL=adv s:=by unfold dX;rw[hs];rfl
 have i1:(adv s).i<L.length:=(eS hL hs).lt hi;have w1:dj .i64 (((adv s).i:Int)+1)=(((adv s).i+1:Nat):Int):=dF (by omega);obtain⟨O1,k1,f1,r1⟩:=h208 (O++[.cells zz6,.cells (icC .full [f])]) R s wL (h.app _) hi;rw[hL1]at r1;rw[hw0]at k1;unfold iE at e;rw[hw]at e;generalize adv s=s1 at*;have ez:(O++[.cells zz6,.cells (icC .full [f])])[O.length]? =some (.cells zz6):=by simp
 have e5:(O++[.cells zz6,.cells (icC .full [f])])[O.length+1]? =some (.cells (icC .full [f])):=by simp
 have z1:=f1.old ez (by omega);have g1:=f1.old e5 (by omega);have l1:=f1.len;rw[List.length_append]at l1;simp only[List.length_cons,List.length_nil]at l1;have k2:=h205 O1 R s1 wR r1 i1;have hset:=yP O (.cells zz6) (.cells zz6) (.cells (icC .full [f]));have fr1: ∀i,i<O.length->i≠p->O1[i]? =O[i]?:=fun i hi hp=>by rw[f1.get i (by rw[List.length_append];omega) hp,List.getElem?_append_left hi]
 rw[hw]at k2;cases h1:isS L s1 [41]with
 |true=>
  rw[h1]at e k2;rw[if_pos rfl]at e;simp only[Option.some.injEq]at e;subst e;obtain⟨O2,e2,f2,r2⟩:=fV r1 (adv s1);have z2:=f2.old z1 (by omega);have g2:=f2.old g1 (by omega);have l2:=f2.len;obtain⟨O3,e3,r3,g3,n3,m3⟩:=gg (.cells (icN .full .full (.mk 10 [f] 0 0 0 []))) (show O.length≠p by omega) (List.getElem?_eq_some_iff.1 z2).1 r2;refine⟨.full,.full,O3,[],?_,⟨by omega,fun i hi hp=>by rw[n3 i (by omega),f2.get i (by omega) hp];exact fr1 i hi hp⟩,r3⟩;have hnd:icN .full .full (.mk 10 [f] 0 0 0 [])=[.int .i64 10,.slc .full [.str f],.int .i64 0,.int .i64 0,.int .i64 0,.slc .full []]:=rfl;rw[hnd]at e3 g3⊢;have hic:icC .full [f]=[.int .i64 10,.slc .full [.str f],.int .i64 0,.int .i64 0,.int .i64 0,.slc .full []]:=rfl;rw[hic]at hset k1 g2;have r1':=r1;unfold Rd rdc at r1';unfold rdc adv at e2
  try simp -implicitDefEqProofs at e2 hset
  clear n3 m3 fr1 ez e5 l1 l2;simp -implicitDefEqProofs [pL,hset,k1,k2,r1',w1,e2,g2,z2,e3,g3]
 |false=>
  rw[h1]at e k2;rw[if_neg (by decide)]at e;simp only[Option.map_eq_some_iff]at e;obtain⟨q,hq,rfl⟩:=e;obtain⟨O2,Y,ts',s3,ex,j1,j2,j3,j4,j5⟩:=Rh (G:=G) (yl:=yl) (N:=N) hL hbL (f:=f) (q4:=O.length) (q5:=O.length+1) h205 h207 (by omega) (by omega) (by omega) O1.length R.length H [f] s1 q O1 R R .full N hq hN (by simp;omega) r1 i1 (.inl ⟨rfl,rfl⟩) z1 g1;have hic0:icC .full [f]=[.int .i64 10,.slc .full [.str f],.int .i64 0,.int .i64 0,.int .i64 0,.slc .full []]:=rfl;rw[hic0]at hset k1;have g1c:=g1;rw[hic0]at g1c
  try simp -implicitDefEqProofs at hset
  have fr2: ∀i,i<O.length->i≠p->O2[i]? =O[i]?:=fun i hi hp=>by rw[j5 i (by omega) hp (by omega) (by omega)];exact fr1 i hi hp
  have hnd: ∀s4:Sp,icN s4 .full (.mk 10 q.1 0 0 0 [])=icC s4 q.1:=fun _=>rfl;rcases j3 with⟨rfl,j6,j7,j8,j9,s2,r2,i2,hr2⟩|⟨rfl,j8,r2⟩
  ·obtain⟨O3,k3,f3,r3⟩:=h208 O2 (R++Y) s2 wR r2 i2;rw[<-hr2]at r3;rw[hw]at k3;have g3:=f3.old j8 (by omega);have z3:=f3.old j9 (by omega);have l3:=f3.len;obtain⟨O4,e4,r4,g4,n4,m4⟩:=gg (.cells (icC s3 q.1)) (show O.length≠p by omega) (List.getElem?_eq_some_iff.1 z3).1 r3;refine⟨s3,.full,O4,Y,?_,⟨by omega,fun i hi hp=>by rw[n4 i (by omega),f3.get i (by omega) hp];exact fr2 i hi hp⟩,r4⟩;rw[hnd];clear n4 m4 fr1 fr2 ez e5 l1 l3 j5 j4 j8 j9 g1 z1;unfold icC at g3 e4 g4⊢;simp -implicitDefEqProofs [pL,hset,k1,k2,g1c,j1,j2,j6,j7,k3,g3,z3,e4,g4]
  ·refine⟨s3,.full,O2,Y,?_,⟨by omega,fr2⟩,r2⟩;rw[hnd];clear fr1 fr2 ez e5 l1 j5 j4 g1 z1;unfold icC at j8⊢;simp -implicitDefEqProofs [pL,hset,k1,k2,g1c,j1,j2,j8]
end
abbrev D7 (cl:a7) (p:Nat) (sp:Sp) (L:List Tk):Prop:= ∀O R s' lo hi,Rd O p sp L s'->s'.i<L.length->RR (cl 270 [.ptr p 0,.int .i64 lo,.int .i64 hi] ⟨O,R⟩) (.int .i64 (eP L s' lo hi).1) p sp L (eP L s' lo hi).2 O R
def rO (L:List Tk) (h:Nat) (s:Ps):Option (Nd×Ps):=if isS L s gA then some (ndZ,adv s)else if isS L s gB then some (nd 1 [],adv s)else if isS L s gn then some (jR L s)else if isS L s go then some (jt L s)else gU L h s
theorem Rj (L:List Tk) (h:Nat) (s:Ps):pr' L (h+1) .opd s=if isS L s fH then lvl s (fun s1=>(pr' L h .opd s1).map fun r=>(nd 11 [r.1],r.2))
  else if isS L s gc then lvl s (fun s1=>(pr' L h .fml (dX L (dq L (dW L s1).2).2 dK)).map fun r=>(qn 16 (dq L (dW L s1).2).1 (dW L s1).1 r.1,r.2))
  else if isS L s gf then lvl s (fun s1=>(pr' L h .fml (dX L (dq L (dW L s1).2).2 dK)).map fun r=>(qn 17 (dq L (dW L s1).2).1 (dW L s1).1 r.1,r.2))
  else if isS L s wL then lvl s (fun s1=>(pr' L h .fml s1).map fun r=>(r.1,dX L r.2 wR))else rO L h s:=by
 unfold rO;by_cases hc:((tkA L s.i).k=3\/(tkA L s.i).k=4)/\s.e=0
 ·have e: ∀w,isS L s w=decide ((tkA L s.i).tx=w):=fun w=>by
   have hb:((tkA L s.i).tx==w)=decide ((tkA L s.i).tx=w):=by by_cases h:(tkA L s.i).tx=w<;>simp[h]
   unfold isS;rcases hc with⟨h|h,he⟩<;>simp[h,he,hb]
  simp only[pr',if_pos hc,e,decide_eq_true_eq];generalize(tkA L s.i).tx=w;by_cases h1:w=gA
  ·subst h1;rfl
  by_cases h2:w=gB
  ·subst h2;rfl
  by_cases h3:w=gn
  ·subst h3;rfl
  by_cases h4:w=go
  ·subst h4;rfl
  simp only[if_neg h1,if_neg h2,if_neg h3,if_neg h4]
 ·have e: ∀w,isS L s w=false:=fun w=>by
   cases hw:isS L s w with
   |false=>rfl
   |true=>exact absurd ⟨(iH.1 hw).2.1,(iH.1 hw).1⟩ hc
  simp only[pr',if_neg hc,e,Bool.false_eq_true,if_false]
section
variable {G:Gls} {cl:a7} {yl:a7} {N:Nat}
variable {O:List Obj} {R:List Arr} {p:Nat} {sp:Sp} {L:List Tk} {s:Ps}
theorem Rk (hL:Lok L) (hbL:L.length<big) (a:Str) {q:Nat} (h:Rd O p sp L s) (hi:s.i<L.length) (hq:O[q]? =some (.cells zz6)) (hqp:q≠p) (h205:iZ cl p sp L) (h207:qd cl p sp L) (hN:6<N) (kk mm:Nat):
  ∃e s',dh false (a8 G false cl yl N pK) ⟨[0,2,5,6,7],[(7,none)],true⟩ kk mm N ⟨[(0,.ptr p 0),(2,.ptr q 0),(5,.str a),(6,.slc .full [.str [61],.str [105,110],.str [115,117,98],.str [97,100,106],.str [111,110]]),(7,.int .i64 0)],⟨O,R⟩,[]⟩=some (e,s')/\e≠ .normal/\
   (s'.mks=[]/\look 0 s'.ts=.ptr p 0/\look 2 s'.ts=.ptr q 0/\match(fJ.zipIdx 0).findSome? (fun x=>(if isS L s x.1 then some x.2 else none:Option Nat))with
    |none=>e=.exit 0/\s'.m=⟨O,R⟩
    |some j=>e=.ret/\ ∃O1,s'.m=⟨O1,R⟩/\Rd O1 p sp L (dq L (adv s)).2/\O1[q]? =some (.cells (icN .full .full (.mk ((j:Int)+2) [a,(dq L (adv s)).1] 0 0 0 [])))/\O.length<=O1.length/\ ∀i,i<O.length->i≠p->i≠q->O1[i]? =O[i]?):=by
 have h':=h;unfold Rd rdc at h';unfold big at hbL;have w0:dj .i64 ((s.i:Int)+1)=((s.i+1:Nat):Int):=dF (by omega);refine eN (mu:=false) (step:=a8 G false cl yl N pK) (an:=⟨[0,2,5,6,7],[(7,none)],true⟩) (k:=kk) (m:=mm) (N:=N) (fJ.zipIdx 0) (fun x=>if isS L s x.1 then some x.2 else none)
  (fun i st=>st=⟨[(0,.ptr p 0),(2,.ptr q 0),(5,.str a),(6,.slc .full [.str [61],.str [105,110],.str [115,117,98],.str [97,100,106],.str [111,110]]),(7,.int .i64 (i:Nat))],⟨O,R⟩,[]⟩)
  (fun r e s'=>s'.mks=[]/\look 0 s'.ts=.ptr p 0/\look 2 s'.ts=.ptr q 0/\match r with
    |none=>e=.exit 0/\s'.m=⟨O,R⟩
    |some j=>e=.ret/\ ∃O1,s'.m=⟨O1,R⟩/\Rd O1 p sp L (dq L (adv s)).2/\O1[q]? =some (.cells (icN .full .full (.mk ((j:Int)+2) [a,(dq L (adv s)).1] 0 0 0 [])))/\O.length<=O1.length/\ ∀i,i<O.length->i≠p->i≠q->O1[i]? =O[i]?) (by simp[fJ];omega) rfl ?_ ?_
 ·rintro i ⟨w,j⟩ st hx hil rfl;have hi5:i<5:=by simpa[fJ] using hil
  rw[List.getElem?_zipIdx]at hx;obtain⟨hj,hw⟩:i=j/\fJ[i]? =some w:=by
   rw[List.getElem?_eq_getElem (show i<fJ.length from hi5)]at hx;simp at hx;exact⟨hx.2,by rw[List.getElem?_eq_getElem (show i<fJ.length from hi5),hx.1]⟩
  subst hj;have k2:=h205 O R s w h hi;have w1:=dF (i:=i) (by omega);have w2:dj .i64 (2+(i:Int))=(i:Int)+2:=by rw[dJ (by omega) (by omega)];omega
  have hlt:(i:Int)<5:=by omega
  have hix:([.str [61],.str [105,110],.str [115,117,98],.str [97,100,106],.str [111,110]]:List AV)[i]? =some (.str w):=by
   rcases(show i=0\/i=1\/i=2\/i=3\/i=4 by omega)with rfl|rfl|rfl|rfl|rfl<;>(simp[fJ]at hw;subst hw;rfl)
  have hix': ∀h,([.str [61],.str [105,110],.str [115,117,98],.str [97,100,106],.str [111,110]]:List AV)[i]'h=.str w:=fun h=>(List.getElem?_eq_some_iff.1 hix).2;simp only[];cases hw:isS L s w with
  |true=>
   rw[hw]at k2;obtain⟨O1,e1,f1,r1⟩:=fV h (adv s);obtain⟨O3,k3,f3,r3⟩:=h207 O1 R (adv s) r1 ((eS hL hw).lt hi);have g3:=f3.old (f1.old hq hqp) hqp;obtain⟨O4,e4,r4,g4,n4,m4⟩:=gg (.cells (icN .full .full (.mk ((i:Int)+2) [a,(dq L (adv s)).1] 0 0 0 []))) hqp (List.getElem?_eq_some_iff.1 g3).1 r3;have fin:(∀i,i<O.length->i≠p->i≠q->O4[i]? =O[i]?)/\O.length<=O4.length:=by
    have l1:=f1.len;have l3:=f3.len;exact⟨fun i hi hp hq=>by rw[n4 i hq,f3.get i (by omega) hp,f1.get i hi hp],by omega⟩
   have hnd:icN .full .full (.mk ((i:Int)+2) [a,(dq L (adv s)).1] 0 0 0 [])=[.int .i64 ((i:Int)+2),.slc .full [.str a,.str (dq L (adv s)).1],.int .i64 0,.int .i64 0,.int .i64 0,.slc .full []]:=rfl;simp only[if_true,hnd];rw[hnd]at e4 g4;generalize dq L (adv s)=nm at*;unfold rdc adv at e1
   try simp -implicitDefEqProofs at e1
   clear n4 m4;simp -implicitDefEqProofs [pK,hlt,hi5,hix',k2,h',w0,e1,w1,w2,k3,g3,e4];exact⟨r4,g4,fin.2,fin.1⟩
  |false=>
   rw[hw]at k2;simp -implicitDefEqProofs [pK,hlt,hi5,hix',k2,w1]
 ·rintro st rfl;simp -implicitDefEqProofs [pK,fJ]
theorem Rl (hL:Lok L) (hbL:L.length<big) (h:Rd O p sp L s) (hi:s.i<L.length) (H:Nat) {r:Nd×Ps} (e:rO L H s=some r) (h205:iZ cl p sp L) (h207:qd cl p sp L) (h208:vq cl p sp L) (h270:D7 cl p sp L) (hN:6<N)
  (h271: ∀O' f s' r',Rd O' p sp L s'->s'.i<L.length->isS L s' wL=true->iE L f H s'=some r'->RN (cl 271 [.ptr p 0,.str f] ⟨O',R⟩) r'.1 p sp L r'.2 O' R):
  RN (dr G false cl yl N jj [.ptr p 0] ⟨O,R⟩) r.1 p sp L r.2 O R:=by
 have hp:p<O.length:=(List.getElem?_eq_some_iff.1 h).1;have hbL':=hbL;unfold big at hbL';have w1:dj .i64 ((s.i:Int)+1)=((s.i+1:Nat):Int):=dF (by omega);have w0:dj .i64 (s.i:Int)=(s.i:Int):=dJ (by omega) (by omega);have h0:=h.app [.cells zz6];have hz:(O++[Obj.cells zz6])[O.length]? =some (.cells zz6):=by simp
 have f0:Fro p (O++[Obj.cells zz6]) (O++[Obj.cells zz6]):=.refl _ _;have kk:=fun w=>h205 (O++[.cells zz6]) R s w h0 hi;have kT:=kk gA;have kF:=kk gB;have kS:=kk gn;have kO:=kk go;simp only[gA]at kT;simp only[gB]at kF;simp only[gn]at kS;simp only[go]at kO;clear kk;obtain⟨O1,e1,f1,r1⟩:=fV h0 (adv s);have h0':=h0;have r1':=r1;unfold Rd at r1';unfold Rd rdc at h0';have e1':=e1;unfold rdc adv at e1' r1'
 try simp -implicitDefEqProofs at e1' r1'
 unfold rO at e;have hx:=gq hi;have hx':=(List.getElem?_eq_some_iff.1 hx).2;cases hT:isS L s gA with
 |true=>
  rw[hT,if_pos rfl]at e;simp only[gA]at hT;rw[hT]at kT;cases e;have htx:=(iH.1 hT).2.2;generalize tkA L s.i=t at*;obtain⟨O9,e9,q1,q2,q3,q4⟩:=fM (.cells (icN .full .full ndZ)) hp f1 r1;refine⟨.full,.full,O9,[],?_,q1,q2⟩;have hnd:icN .full .full ndZ=zz6:=rfl;rw[hnd]at e9 q4⊢;simp -implicitDefEqProofs [jj,kT,h0',w1,w0,e1',r1',hi,hx',tkv,tkC,htx,q3,e9,q4,dB]
 |false=>
 rw[hT,if_neg (by decide)]at e;simp only[gA]at hT;rw[hT]at kT;cases hF:isS L s gB with
 |true=>
  rw[hF,if_pos rfl]at e;simp only[gB]at hF;rw[hF]at kF;cases e;have htx:=(iH.1 hF).2.2;generalize tkA L s.i=t at*;obtain⟨O9,e9,q1,q2,q3,q4⟩:=fM (.cells (icN .full .full (nd 1 []))) hp f1 r1;refine⟨.full,.full,O9,[],?_,q1,q2⟩;have hnd:icN .full .full (nd 1 [])=[.int .i64 1,.slc .full [],.int .i64 0,.int .i64 0,.int .i64 0,.slc .full []]:=rfl;rw[hnd]at e9 q4⊢;simp -implicitDefEqProofs [jj,kT,kF,h0',w1,w0,e1',r1',hi,hx',tkv,tkC,htx,q3,e9,q4,dB]
 |false=>
 rw[hF,if_neg (by decide)]at e;simp only[gB]at hF;rw[hF]at kF;cases hS:isS L s gn with
 |true=>
  have i1:=(eS hL hS).lt hi;rw[hS,if_pos rfl]at e;simp only[gn]at hS;rw[hS]at kS;cases e;dsimp only[jR];obtain⟨O2,k2,f2,r2⟩:=h207 O1 R (adv s) r1 i1;have t2:=fT hL (adv s);generalize dq L (adv s)=a at*;have i2:a.2.i<L.length:=t2.lt i1;obtain⟨O4,k4,f4,r4⟩:=h208 O2 R a.2 fI r2 i2;have i4:(dX L a.2 fI).i<L.length:=(gp hL _ _).lt i2;obtain⟨O5,k5,f5,r5⟩:=h270 O4 R _ 1 64 r4 i4;have t5:=mt hL (dX L a.2 fI) 1 64;have v5:=CH (L:=L) (s:=dX L a.2 fI) 1 64;generalize eP L (dX L a.2 fI) 1 64=m at*;have i5:m.2.i<L.length:=t5.lt i4;obtain⟨O7,k7,f7,r7⟩:=h208 O5 R m.2 wIs r5 i5;have i7:(dX L m.2 wIs).i<L.length:=(gp hL _ _).lt i5;have w2:dj .i64 (m.1 - 1)=m.1 - 1:=dJ (by omega) (by omega);obtain⟨O8,k8,f8,r8⟩:=h270 O7 R _ 0 (m.1 - 1) r7 i7;generalize eP L (dX L m.2 wIs) 0 (m.1 - 1)=k at*;obtain⟨O9,e9,q1,q2,q3,q4⟩:=fM (.cells (icN .full .full (.mk 8 [a.1] 0 k.1 m.1 []))) hp (((((f1.trans f2).trans f4).trans f5).trans f7).trans f8) r8;refine⟨.full,.full,O9,[],?_,q1,q2⟩;have hnd:icN .full .full (.mk 8 [a.1] 0 k.1 m.1 [])=[.int .i64 8,.slc .full [.str a.1],.int .i64 0,.int .i64 k.1,.int .i64 m.1,.slc .full []]:=rfl;rw[hnd]at e9 q4⊢;simp only[fI]at k4;simp only[wIs]at k7;simp -implicitDefEqProofs [jj,kT,kF,kS,h0',w1,e1',k2,k4,k5,k7,w2,k8,q3,e9,q4]
 |false=>
 rw[hS,if_neg (by decide)]at e;simp only[gn]at hS;rw[hS]at kS;cases hO:isS L s go with
 |true=>
  have i1:=(eS hL hO).lt hi;rw[hO,if_pos rfl]at e;simp only[go]at hO;rw[hO]at kO;cases e;unfold jt;obtain⟨O2,k2,f2,r2⟩:=h207 O1 R (adv s) r1 i1;generalize dq L (adv s)=a at*;obtain⟨O9,e9,q1,q2,q3,q4⟩:=fM (.cells (icN .full .full (.mk 9 [a.1] 0 0 0 []))) hp (f1.trans f2) r2;refine⟨.full,.full,O9,[],?_,q1,q2⟩;have hnd:icN .full .full (.mk 9 [a.1] 0 0 0 [])=[.int .i64 9,.slc .full [.str a.1],.int .i64 0,.int .i64 0,.int .i64 0,.slc .full []]:=rfl;rw[hnd]at e9 q4⊢;simp -implicitDefEqProofs [jj,kT,kF,kS,kO,h0',w1,e1',k2,q3,e9,q4]
 |false=>
 rw[hO,if_neg (by decide)]at e;simp only[go]at hO;rw[hO]at kO;clear e1 e1' r1 r1' f1 h0';obtain⟨O2,k2,f2,r2⟩:=h207 (O++[.cells zz6]) R s h0 hi;unfold gU at e;have t2:=fT hL s;generalize dq L s=a at*;have i2:a.2.i<L.length:=t2.lt hi;have k3:=h205 O2 R a.2 wL r2 i2;have hw:wL=[40]:=rfl;have hw2:wIs=[105,115]:=rfl;rw[hw]at k3;cases h1:isS L a.2 wL with
 |true=>
  rw[h1,if_pos rfl]at e;rw[hw]at h1;rw[h1]at k3;obtain⟨s1,s2,O4,Y,k4,f4,r4⟩:=h271 O2 a.1 a.2 r r2 i2 h1 e;obtain⟨O9,e9,q1,q2,q3,q4⟩:=fM (.cells (icN s1 s2 r.1)) hp (f2.trans f4) r4;refine⟨s1,s2,O9,Y,?_,q1,q2⟩;unfold icN at k4 e9 q4⊢;simp -implicitDefEqProofs [jj,kT,kF,kS,kO,k2,k3,k4,q3,e9,q4]
 |false=>
 rw[h1,if_neg (by decide)]at e;rw[hw]at h1;rw[h1]at k3;have k4:=h205 O2 R a.2 wIs r2 i2;rw[hw2]at k4;cases h2:isS L a.2 wIs with
 |true=>
  have i3:=(eS hL h2).lt i2;rw[h2,if_pos rfl]at e;rw[hw2]at h2;rw[h2]at k4;simp only[Option.some.injEq]at e;subst e;obtain⟨O3,e3,f3,r3⟩:=fV r2 (adv a.2);obtain⟨O5,k5,f5,r5⟩:=h270 O3 R (adv a.2) 0 7 r3 i3;generalize eP L (adv a.2) 0 7=m at*;obtain⟨O9,e9,q1,q2,q3,q4⟩:=fM (.cells (icN .full .full (.mk 7 [a.1] 0 m.1 0 []))) hp ((f2.trans f3).trans f5) r5;refine⟨.full,.full,O9,[],?_,q1,q2⟩;have hnd:icN .full .full (.mk 7 [a.1] 0 m.1 0 [])=[.int .i64 7,.slc .full [.str a.1],.int .i64 0,.int .i64 m.1,.int .i64 0,.slc .full []]:=rfl;rw[hnd]at e9 q4⊢;have w3:dj .i64 ((a.2.i:Int)+1)=((a.2.i+1:Nat):Int):=dF (by omega);have r2':=r2;unfold Rd rdc at r2';unfold rdc adv at e3
  try simp -implicitDefEqProofs at e3
  simp -implicitDefEqProofs [jj,kT,kF,kS,kO,k2,k3,k4,r2',w3,e3,k5,q3,e9,q4]
 |false=>
 rw[h2,if_neg (by decide)]at e;rw[hw2]at h2;rw[h2]at k4;simp only[Option.some.injEq]at e;have hz2:O2[O.length]? =some (.cells zz6):=f2.old hz (by omega);obtain⟨ex,⟨ts,M,mks⟩,k5,-,hmk,l0,l2,hm⟩:=Rk (G:=G) (yl:=yl) (R:=R) hL hbL a.1 r2 i2 hz2 (by omega) h205 h207 hN O2.length R.length;simp only[]at hmk l0 l2 hm;subst hmk;have hrel:=xZ L a.1 a.2 fJ 0;rw[show((0:Nat):Int)+2=2 from rfl,e]at hrel;have l4:=f2.len;rw[List.length_append,List.length_singleton]at l4;have fr2: ∀i,i<O.length->i≠p->O2[i]? =O[i]?:=fun i hi hp=>by rw[f2.get i (by rw[List.length_append,List.length_singleton];omega) hp,List.getElem?_append_left hi]
 cases hf:(fJ.zipIdx 0).findSome? (fun x=>(if isS L a.2 x.1 then some x.2 else none:Option Nat))with
 |some j=>
  rw[hf]at hm hrel;simp only[]at hm hrel;obtain⟨rfl,O5,rfl,r5,g5,l5,n5⟩:=hm;subst hrel;refine⟨.full,.full,O5,[],?_,⟨by omega,fun i hi hp=>by rw[n5 i (by omega) hp (by omega)];exact fr2 i hi hp⟩,r5⟩;have hnd:icN .full .full (.mk ((j:Int)+2) [a.1,(dq L (adv a.2)).1] 0 0 0 [])=[.int .i64 ((j:Int)+2),.slc .full [.str a.1,.str (dq L (adv a.2)).1],.int .i64 0,.int .i64 0,.int .i64 0,.slc .full []]:=rfl;rw[hnd]at g5⊢;simp -implicitDefEqProofs [jj,kT,kF,kS,kO,k2,k3,k4,k5,l2,g5]
 |none=>
  rw[hf]at hm hrel;simp only[]at hm hrel;obtain⟨rfl,rfl⟩:=hm;subst hrel;have r2':=r2;unfold Rd rdc at r2';by_cases he:a.2.e=0
  ·obtain⟨O6,e6,f6,r6⟩:=fV r2 (wrg a.2 3);obtain⟨O9,e9,q1,q2,q3,q4⟩:=fM (.cells (icN .full .full ndZ)) hp (f2.trans f6) r6;refine⟨.full,.full,O9,[],?_,q1,q2⟩;have hnd:icN .full .full ndZ=zz6:=rfl;rw[hnd]at e9 q4⊢;unfold rdc wrg at e6;rw[if_pos he]at e6;rw[he]at r2';simp -implicitDefEqProofs [jj,kT,kF,kS,kO,k2,k3,k4,k5,l0,l2,r2',e6,q3,e9,q4]
  ·have hwr:wrg a.2 3=a.2:=by unfold wrg;rw[if_neg he]
   have he':(a.2.e==0)=false:=by simp[he]
   rw[hwr];obtain⟨O9,e9,q1,q2,q3,q4⟩:=fM (.cells (icN .full .full ndZ)) hp f2 r2;refine⟨.full,.full,O9,[],?_,q1,q2⟩;have hnd:icN .full .full ndZ=zz6:=rfl;rw[hnd]at e9 q4⊢;simp -implicitDefEqProofs [jj,kT,kF,kS,kO,k2,k3,k4,k5,l0,l2,r2',he,he',q3,e9,q4]
theorem Rm (hL:Lok L) (hbL:L.length<big) (h:Rd O p sp L s) (hi:Pre L s) (H:Nat) {r:Nd×Ps} (e:pr' L (H+1) .opd s=some r) (h205:iZ cl p sp L) (h207:qd cl p sp L) (h208:vq cl p sp L)
  (h206: ∀O R s',Rd O p sp L s'->s'.i<L.length->RR (cl 206 [.ptr p 0] ⟨O,R⟩) (.int .i64 (dW L s').1) p sp L (dW L s').2 O R)
  (h266a: ∀O R s',Rd O p sp L s'->s'.e=0->s'.o=256->RR (cl 266 [.ptr p 0] ⟨O,R⟩) (.bool false) p sp L (wrg s' 16) O R)
  (h266b: ∀O R s',Rd O p sp L s'->s'.i<L.length->s'.e=0->s'.o<256->RR (cl 266 [.ptr p 0] ⟨O,R⟩) (.bool true) p sp L ⟨s'.i+1,s'.e,s'.o+1⟩ O R)
  (h260: ∀O R s r,Rd O p sp L s->Pre L s->pr' L H .opd s=some r->RN (cl 260 [.ptr p 0] ⟨O,R⟩) r.1 p sp L r.2 O R)
  (h177: ∀O R s r,Rd O p sp L s->Pre L s->pr' L H .fml s=some r->RN (cl 177 [.ptr p 0] ⟨O,R⟩) r.1 p sp L r.2 O R)
  (h267: ∀O R,Rd O p sp L s->rO L H s=some r->RN (cl 267 [.ptr p 0] ⟨O,R⟩) r.1 p sp L r.2 O R):
  RN (dr G false cl yl N ji [.ptr p 0] ⟨O,R⟩) r.1 p sp L r.2 O R:=by
 have hp:p<O.length:=(List.getElem?_eq_some_iff.1 h).1;rw[Rj]at e;have hset:=yP O (.cells zz6) (.cells zz6) (.cells zz6);have h0:=h.app [.cells zz6,.cells zz6];have ez2:(O++[Obj.cells zz6,.cells zz6])[O.length]? =some (.cells zz6):=by simp
 have ez3:(O++[Obj.cells zz6,.cells zz6])[O.length+1]? =some (.cells zz6):=by simp
 have hl0:(O++[Obj.cells zz6,.cells zz6]).length=O.length+2:=by simp
 have fr0: ∀i,i<O.length->(O++[Obj.cells zz6,.cells zz6])[i]? =O[i]?:=fun i hi=>List.getElem?_append_left hi;have kk:=fun w=>h205 (O++[.cells zz6,.cells zz6]) R s w h0 hi.i;have kN:=kk fH;have kS:=kk gc;have kE:=kk gf;have kL:=kk wL;clear kk;obtain⟨O0,hO0⟩: ∃O0,O++[Obj.cells zz6,.cells zz6]=O0:=⟨_,rfl⟩
 rw[hO0]at h0 ez2 ez3 hl0 fr0 kN kS kE kL hset;simp only[fH]at kN;simp only[gc]at kS;simp only[gf]at kE;simp only[wL]at kL
 -- a level that is too deep
 have eJ: ∀(O1:List Obj),Fro p O0 O1->Rd O1 p sp L (wrg s 16)-> ∃O9,O1.set O.length (.cells zz6)=O9/\Fro p O O9/\Rd O9 p sp L (wrg s 16)/\O1[O.length]? =some (.cells zz6)/\O1[O.length+1]? =some (.cells zz6)/\O9[O.length]? =some (.cells zz6):=fun O1 f1 r1=>by
  have z2:=f1.old ez2 (by omega);have z3:=f1.old ez3 (by omega);obtain⟨O9,e9,r9,g9,n9,m9⟩:=gg (.cells zz6) (show O.length≠p by omega) (List.getElem?_eq_some_iff.1 z2).1 r1;have l1:=f1.len;exact⟨O9,e9,⟨by omega,fun i hi hp=>by rw[n9 i (by omega),f1.get i (by omega) hp,fr0 i hi]⟩,r9,z2,z3,g9⟩
 -- the end: the node at its place, the level closed
 have fin: ∀(O1:List Obj) (s1 s2:Sp) (n:Nd) (s':Ps),Fro p O0 O1->Rd O1 p sp L s'-> ∃O2 O3 O4,O1.set (O.length+1) (.cells (icN s1 s2 n))=O2/\O2.set p (.cells (rdc sp L ⟨s'.i,s'.e,s'.o - 1⟩))=O3/\O3.set O.length (.cells (icN s1 s2 n))=O4/\Fro p O O4/\Rd O4 p sp L ⟨s'.i,s'.e,s'.o - 1⟩/\
   O1[O.length+1]? =some (.cells zz6)/\Rd O2 p sp L s'/\O3[O.length+1]? =some (.cells (icN s1 s2 n))/\O3[O.length]? =some (.cells zz6)/\O4[O.length]? =some (.cells (icN s1 s2 n)):=fun O1 s1 s2 n s' f1 r1=>by
  have z2:=f1.old ez2 (by omega);have z3:=f1.old ez3 (by omega);have l1:=f1.len;obtain⟨O2,e2,r2,g2,n2,m2⟩:=gg (.cells (icN s1 s2 n)) (show O.length+1≠p by omega) (List.getElem?_eq_some_iff.1 z3).1 r1;obtain⟨O3,e3,f3,r3⟩:=fV r2 ⟨s'.i,s'.e,s'.o - 1⟩;have z23:O3[O.length]? =some (.cells zz6):=f3.old (by rw[n2 _ (by omega)];exact z2) (by omega);have l3:=f3.len;obtain⟨O4,e4,r4,g4,n4,m4⟩:=gg (.cells (icN s1 s2 n)) (show O.length≠p by omega) (List.getElem?_eq_some_iff.1 z23).1 r3;exact⟨O2,O3,O4,e2,e3,e4,⟨by omega,fun i hi hp=>by rw[n4 i (by omega),f3.get i (by omega) hp,n2 i (by omega),f1.get i (by omega) hp,fr0 i hi]⟩,r4,z3,r2,f3.old g2 (by omega),z23,g4⟩
 have lv: ∀{w:Str},isS L s w=true->s.o≠256->Pre L ⟨s.i+1,s.e,s.o+1⟩:=fun hw ho=>⟨mr hL hi.i (ju hw),by have:=hi.o;show s.o+1<=256;omega⟩
 have wo: ∀(s':Ps),s'.o=s.o+1->dj .i64 ((s'.o:Int) - 1)=((s'.o - 1:Nat):Int):=fun s' hs'=>by have:=hi.o;rw[dJ (by omega) (by omega)];omega
 cases hN:isS L s fH with
 |true=>
  have he:s.e=0:=(iH.1 hN).1;rw[hN,if_pos rfl]at e;simp only[fH]at hN;rw[hN]at kN;unfold lvl at e;by_cases ho:s.o=256
  ·rw[if_pos ho]at e;cases e;obtain⟨O1,k1,f1,r1⟩:=h266a O0 R s h0 he ho;obtain⟨O9,e9,q1,q2,q3,q4,q5⟩:=eJ O1 f1 r1;refine⟨.full,.full,O9,[],?_,q1,q2⟩;have hnd:icN .full .full ndZ=zz6:=rfl;rw[hnd];simp -implicitDefEqProofs [ji,hO0,hset,ez3,kN,k1,q3,q4,e9,q5]
  ·rw[if_neg ho]at e;simp only[Option.map_eq_some_iff]at e;obtain⟨q',⟨q,hq,rfl⟩,rfl⟩:=e;obtain⟨O1,k1,f1,r1⟩:=h266b O0 R s h0 hi.i he (by have:=hi.o;omega);obtain⟨a1,a2,O2,Y,k2,f2,r2⟩:=h260 O1 R _ q r1 (lv hN ho) hq;have w3:=wo q.2 (gD hL _ _ _ _ hq).o;obtain⟨O3,O4,O5,e3,e4,e5,q1,q2,z3,r3,g4,z4,g5⟩:=fin O2 .full .full (nd 11 [q.1]) q.2 (f1.trans f2) r2;refine⟨.full,.full,O5,Y,?_,q1,q2⟩;have hnd:icN .full .full (nd 11 [q.1])=[.int .i64 11,.slc .full [],.int .i64 0,.int .i64 0,.int .i64 0,.slc .full [av q.1]]:=rfl;rw[hnd]at e3 e5 g4 g5⊢;have hpz:=iW a1 a2 q.1;unfold Rd rdc at r3;unfold rdc at e4;unfold icN at k2 hpz
   try simp -implicitDefEqProofs at e4
   clear fin eJ lv wo;simp -implicitDefEqProofs [ji,hO0,hset,ez3,kN,k1,k2,hpz,z3,e3,r3,w3,e4,g4,z4,e5,g5]
 |false=>
 rw[hN,if_neg (by decide)]at e;simp only[fH]at hN;rw[hN]at kN;by_cases hq:isS L s gc=true\/(isS L s gc=false/\isS L s gf=true)
 ·obtain⟨op,hop,e⟩: ∃op:Int,((op=16/\isS L s gc=true/\isS L s gf=false)\/(op=17/\isS L s gc=false/\isS L s gf=true))/\lvl s (fun s1=>(pr' L H .fml (dX L (dq L (dW L s1).2).2 dK)).map fun r=>(qn op (dq L (dW L s1).2).1 (dW L s1).1 r.1,r.2))=some r:=by
   rcases hq with h1|⟨h1,h2⟩
   ·rw[h1,if_pos rfl]at e;refine⟨16,.inl ⟨rfl,h1,?_⟩,e⟩;cases h2:isS L s gf with
    |false=>rfl
    |true=>
     have t1:=(iH.1 h1).2.2;have t2:=(iH.1 h2).2.2;rw[t1]at t2;exact absurd t2 (by decide)
   ·rw[h1,if_neg (by decide),h2,if_pos rfl]at e;exact⟨17,.inr ⟨rfl,h1,h2⟩,e⟩
  clear hq;have he:s.e=0:=by rcases hop with⟨-,h1,-⟩|⟨-,-,h1⟩<;>exact(iH.1 h1).1
  have hw0: ∃w,isS L s w=true:=by rcases hop with⟨-,h1,-⟩|⟨-,-,h1⟩<;>exact⟨_,h1⟩
  obtain⟨w0,hw0⟩:=hw0;simp only[gc,gf]at hop;unfold lvl at e;by_cases ho:s.o=256
  ·rw[if_pos ho]at e;cases e;obtain⟨O1,k1,f1,r1⟩:=h266a O0 R s h0 he ho;obtain⟨O9,e9,q1,q2,q3,q4,q5⟩:=eJ O1 f1 r1;refine⟨.full,.full,O9,[],?_,q1,q2⟩;have hnd:icN .full .full ndZ=zz6:=rfl;rw[hnd];clear fin eJ lv wo;rcases hop with⟨rfl,h1,h2⟩|⟨rfl,h1,h2⟩
   ·rw[h1]at kS;rw[h2]at kE;simp -implicitDefEqProofs [ji,hO0,hset,ez3,kN,kS,kE,k1,q3,q4,e9,q5]
   ·rw[h1]at kS;rw[h2]at kE;simp -implicitDefEqProofs [ji,hO0,hset,ez3,kN,kS,kE,k1,q3,q4,e9,q5]
  ·rw[if_neg ho]at e;simp only[Option.map_eq_some_iff]at e;obtain⟨q',⟨q,hq,rfl⟩,rfl⟩:=e;obtain⟨O1,k1,f1,r1⟩:=h266b O0 R s h0 hi.i he (by have:=hi.o;omega);have hp1:=lv hw0 ho;obtain⟨O2,k2,f2,r2⟩:=h206 O1 R _ r1 hp1.i;have t2:=mw hL ⟨s.i+1,s.e,s.o+1⟩ [0,1,2,3];have hp2:Pre L (dW L ⟨s.i+1,s.e,s.o+1⟩).2:=hp1.step t2;have ho2:(dW L ⟨s.i+1,s.e,s.o+1⟩).2.o=s.o+1:=t2.o;generalize dW L ⟨s.i+1,s.e,s.o+1⟩=so at*;obtain⟨O3,k3,f3,r3⟩:=h207 O2 R so.2 r2 hp2.i;have t3:=fT hL so.2;have hp3:=hp2.step t3;have ho3:=t3.o;generalize dq L so.2=a at*;obtain⟨O4,k4,f4,r4⟩:=h208 O3 R a.2 dK r3 hp3.i;have t4:=gp hL a.2 dK;obtain⟨a1,a2,O5,Y,k5,f5,r5⟩:=h177 O4 R _ q r4 (hp3.step t4) hq;have w3:=wo q.2 (by rw[(gD hL _ _ _ _ hq).o,t4.o,ho3,ho2]);obtain⟨O6,O7,O8,e6,e7,e8,q1,q2,z6,r6,g7,z7,g8⟩:=fin O5 .full .full (qn op a.1 so.1 q.1) q.2 ((((f1.trans f2).trans f3).trans f4).trans f5) r5;refine⟨.full,.full,O8,Y,?_,q1,q2⟩;have hnd:icN .full .full (qn op a.1 so.1 q.1)=[.int .i64 op,.slc .full [.str a.1],.int .i64 so.1,.int .i64 0,.int .i64 0,.slc .full [av q.1]]:=rfl;rw[hnd]at e6 e8 g7 g8⊢;have hpz:=iW a1 a2 q.1;unfold Rd rdc at r6;unfold rdc at e7;unfold icN at k5 hpz;simp only[dK]at k4
   try simp -implicitDefEqProofs at e7
   clear fin eJ lv wo hq;rcases hop with⟨rfl,h1,h2⟩|⟨rfl,h1,h2⟩
   ·rw[h1]at kS;rw[h2]at kE;simp -implicitDefEqProofs [ji,hO0,hset,ez3,kN,kS,kE,k1,k2,k3,k4,k5,hpz,z6,e6,r6,w3,e7,g7,z7,e8,g8]
   ·rw[h1]at kS;rw[h2]at kE;simp -implicitDefEqProofs [ji,hO0,hset,ez3,kN,kS,kE,k1,k2,k3,k4,k5,hpz,z6,e6,r6,w3,e7,g7,z7,e8,g8]
 ·have hS:isS L s gc=false:=by cases h1:isS L s gc<;>simp_all
  have hE:isS L s gf=false:=by cases h1:isS L s gf<;>simp_all
  clear hq;rw[hS,if_neg (by decide),hE,if_neg (by decide)]at e;simp only[gc]at hS;simp only[gf]at hE;rw[hS]at kS;rw[hE]at kE;cases hP:isS L s wL with
  |true=>
   have he:s.e=0:=(iH.1 hP).1;rw[hP,if_pos rfl]at e;simp only[wL]at hP;rw[hP]at kL;unfold lvl at e;by_cases ho:s.o=256
   ·rw[if_pos ho]at e;cases e;obtain⟨O1,k1,f1,r1⟩:=h266a O0 R s h0 he ho;obtain⟨O9,e9,q1,q2,q3,q4,q5⟩:=eJ O1 f1 r1;refine⟨.full,.full,O9,[],?_,q1,q2⟩;have hnd:icN .full .full ndZ=zz6:=rfl;rw[hnd];simp -implicitDefEqProofs [ji,hO0,hset,ez3,kN,kS,kE,kL,k1,q3,q4,e9,q5]
   ·rw[if_neg ho]at e;simp only[Option.map_eq_some_iff]at e;obtain⟨q',⟨q,hq,rfl⟩,rfl⟩:=e;obtain⟨O1,k1,f1,r1⟩:=h266b O0 R s h0 hi.i he (by have:=hi.o;omega);have hp1:=lv hP ho;obtain⟨a1,a2,O2,Y,k2,f2,r2⟩:=h177 O1 R _ q r1 hp1 hq;have f12:=f1.trans f2;have z2:=f12.old ez2 (by omega);have z3:=f12.old ez3 (by omega);have hp2:=hp1.step (gD hL _ _ _ _ hq);obtain⟨O3,e3,r3,g3,n3,m3⟩:=gg (.cells (icN a1 a2 q.1)) (show O.length+1≠p by omega) (List.getElem?_eq_some_iff.1 z3).1 r2;obtain⟨O4,k4,f4,r4⟩:=h208 O3 (R++Y) q.2 wR r3 hp2.i;have g4:=f4.old g3 (by omega);have z4:O4[O.length]? =some (.cells zz6):=f4.old (by rw[n3 _ (by omega)];exact z2) (by omega);have t4:=gp hL q.2 wR;have w3:=wo (dX L q.2 wR) (by rw[t4.o,(gD hL _ _ _ _ hq).o]);generalize dX L q.2 wR=s4 at*;obtain⟨O5,e5,f5,r5⟩:=fV r4 ⟨s4.i,s4.e,s4.o - 1⟩;have g5:=f5.old g4 (by omega);have z5:=f5.old z4 (by omega);obtain⟨O6,e6,r6,g6,n6,m6⟩:=gg (.cells (icN a1 a2 q.1)) (show O.length≠p by omega) (List.getElem?_eq_some_iff.1 z5).1 r5;have l1:=f12.len;have l4:=f4.len;have l5:=f5.len;refine⟨a1,a2,O6,Y,?_,⟨by omega,fun i hi hp=>by rw[n6 i (by omega),f5.get i (by omega) hp,f4.get i (by omega) hp,n3 i (by omega),f12.get i (by omega) hp,fr0 i hi]⟩,r6⟩;have r4':=r4;unfold Rd rdc at r4';unfold rdc at e5;unfold icN at k2 e3 g5 e6 g6⊢;simp only[wR]at k4
    try simp -implicitDefEqProofs at e5
    clear fin eJ lv wo n3 n6 m3 m6 l1 l4 l5;simp -implicitDefEqProofs [ji,hO0,hset,ez3,kN,kS,kE,kL,k1,k2,z3,e3,k4,r4',w3,e5,g5,z5,e6,g6]
  |false=>
   rw[hP,if_neg (by decide)]at e;simp only[wL]at hP;rw[hP]at kL;obtain⟨a1,a2,O2,Y,k2,f2,r2⟩:=h267 O0 R h0 e;have z2:=f2.old ez2 (by omega);have z3:=f2.old ez3 (by omega);have l2:=f2.len;obtain⟨O3,e3,r3,g3,n3,m3⟩:=gg (.cells (icN a1 a2 r.1)) (show O.length+1≠p by omega) (List.getElem?_eq_some_iff.1 z3).1 r2;have z23:O3[O.length]? =some (.cells zz6):=by rw[n3 _ (by omega)];exact z2
   obtain⟨O4,e4,r4,g4,n4,m4⟩:=gg (.cells (icN a1 a2 r.1)) (show O.length≠p by omega) (List.getElem?_eq_some_iff.1 z23).1 r3;refine⟨a1,a2,O4,Y,?_,⟨by omega,fun i hi hp=>by rw[n4 i (by omega),n3 i (by omega),f2.get i (by omega) hp,fr0 i hi]⟩,r4⟩;unfold icN at k2 e3 g3 e4 g4⊢;clear fin eJ lv wo n3 n4 m3 m4 l2;simp -implicitDefEqProofs [ji,hO0,hset,ez3,kN,kS,kE,kL,k2,z3,e3,g3,z23,e4,g4]
end
def rdF:List Nat:=[177,205,206,207,208,209,225,237,260,266,267,270,271,53]
def NoX (orc:Nat->List AV->dC):Prop:= ∀f∈rdF,∀ags,dL orc f ags=none
structure PrX (cl:a7) (p:Nat) (sp:Sp) (L:List Tk) (h:Nat):Prop where
 opd: ∀O R s r,Rd O p sp L s->Pre L s->pr' L h .opd s=some r->RN (cl 260 [.ptr p 0] ⟨O,R⟩) r.1 p sp L r.2 O R
 ands: ∀O R s r,Rd O p sp L s->Pre L s->pr' L h .ands s=some r->RN (cl 237 [.ptr p 0] ⟨O,R⟩) r.1 p sp L r.2 O R
 ors: ∀O R s r,Rd O p sp L s->Pre L s->pr' L h .ors s=some r->RN (cl 225 [.ptr p 0] ⟨O,R⟩) r.1 p sp L r.2 O R
 imp: ∀O R s r,Rd O p sp L s->Pre L s->pr' L h .imp s=some r->RN (cl 209 [.ptr p 0] ⟨O,R⟩) r.1 p sp L r.2 O R
 fml: ∀O R s r,Rd O p sp L s->Pre L s->pr' L h .fml s=some r->RN (cl 177 [.ptr p 0] ⟨O,R⟩) r.1 p sp L r.2 O R
section
variable {t N k:Nat} {orc:Nat->List AV->dC} {p:Nat} {sp:Sp} {L:List Tk}
theorem lG (ho:NoX orc):iZ (BW (GG t) orc N (k+1)) p sp L:=fun O R s w h hi=>by
 rw[dG (cf:=nD) (ho 205 (by decide) _) rfl rfl rfl];exact Q0 h hi w
theorem yQ (ho:NoX orc) (hb:L.length<big):qd (BW (GG t) orc N (k+1)) p sp L:=fun O R s h hi=>by
 rw[dG (cf:=pE) (ho 207 (by decide) _) rfl rfl rfl];exact Q2 h hi hb
theorem yR (ho:NoX orc) (hb:L.length<big):vq (BW (GG t) orc N (k+2)) p sp L:=fun O R s w h hi=>by
 rw[dG (cf:=pF) (ho 208 (by decide) _) rfl rfl rfl];exact Q1 h hi hb w (lG ho)
theorem Rn (ho:NoX orc) (hb:L.length<big):D7 (BW (GG t) orc N (k+1)) p sp L:=fun O R s lo hi' h hi=>by
 rw[dG (cf:=mb) (ho 270 (by decide) _) rfl rfl rfl];exact Q3 h hi hb lo hi'
theorem x53 (ho:NoX orc) (x:Int) (M:Mem):BW (GG t) orc N (k+1) 53 [.int .i64 x] M=some (.str (snm x),M):=
 fZ (cf:=c53) (ho 53 (by decide) _) rfl rfl rfl rfl (vl x) M
theorem Ro (ho:NoX orc) (hb:L.length<big) (hN:5<N) (O:List Obj) (R:List Arr) (s:Ps) (h:Rd O p sp L s) (hi:s.i<L.length):RR (BW (GG t) orc N (k+2) 206 [.ptr p 0] ⟨O,R⟩) (.int .i64 (dW L s).1) p sp L (dW L s).2 O R:=by
 rw[dG (cf:=pD) (ho 206 (by decide) _) rfl rfl rfl];exact Q7 h hi hb (lG ho) (fun x M=>x53 ho x M) hN
theorem Rp (ho:NoX orc) (hL:Lok L) (hb:L.length<big) (hN:6<N): ∀(h k:Nat),h+10<=k->h+2<N->h+2<big->PrX (BW (GG t) orc N k) p sp L h:=by
 intro h
 induction h using Nat.strongRecOn with
 |ind h ih=>
 intro k hk hhN hhb;cases h with
 |zero=>refine⟨?_,?_,?_,?_,?_⟩<;>intros<;>rename_i e<;>simp[pr']at e
 |succ h=>
  obtain⟨i,rfl⟩: ∃i,k=i+7:=⟨k - 7,by omega⟩
  have ihl: ∀h',h'<=h->PrX (BW (GG t) orc N (i+6)) p sp L h':=fun h' hh=>ih h' (by omega) (i+6) (by omega) (by omega) (by omega);refine⟨fun O R s r hR hi e=>?_,fun O R s r hR hi e=>?_,fun O R s r hR hi e=>?_,fun O R s r hR hi e=>?_,fun O R s r hR hi e=>?_⟩
  ·rw[dG (cf:=ji) (ho 260 (by decide) _) rfl rfl rfl];refine Rm hL hb hR hi h e (lG (k:=i+5) ho) (yQ (k:=i+5) ho hb) (yR (k:=i+4) ho hb) (Ro (k:=i+4) ho hb (by omega)) (fun O R s' h' he ho'=>?_) (fun O R s' h' hi' he ho'=>?_) (ihl h (Nat.le_refl _)).opd (ihl h (Nat.le_refl _)).fml fun O R hR' e'=>?_
   ·rw[dG (cf:=nJ) (ho 266 (by decide) _) rfl rfl rfl];exact Q4 h' he ho'
   ·rw[dG (cf:=nJ) (ho 266 (by decide) _) rfl rfl rfl];exact Q5 h' hi' hb he ho'
   ·rw[dG (cf:=jj) (ho 267 (by decide) _) rfl rfl rfl];refine Rl hL hb hR' hi.i h e' (lG (k:=i+4) ho) (yQ (k:=i+4) ho hb) (yR (k:=i+3) ho hb) (Rn (k:=i+4) ho hb) hN fun O' f s' r' h' hi' hs hq=>?_;rw[dG (cf:=pL) (ho 271 (by decide) _) rfl rfl rfl];exact Ri hL hb f h h' hs hi' hq (by omega) (by omega) (lG (k:=i+3) ho) (yQ (k:=i+3) ho hb) (yR (k:=i+2) ho hb)
  ·rw[dG (cf:=wP) (ho 237 (by decide) _) rfl rfl rfl,Q8];simp only[pr']at e;exact evL jP 12 .opd .tAnd h 260 hL hb (fun h n s=>by simp only[pr']) (fun h' hh O R s r hR hi e=>(ihl h' hh).opd O R s r hR hi e) (lG (k:=i+5) ho) (by omega) hR hi e
  ·rw[dG (cf:=wO) (ho 225 (by decide) _) rfl rfl rfl,Q9];simp only[pr']at e;exact evL wOr 13 .ands .tOr h 237 hL hb (fun h n s=>by simp only[pr']) (fun h' hh O R s r hR hi e=>(ihl h' hh).ands O R s r hR hi e) (lG (k:=i+5) ho) (by omega) hR hi e
  ·rw[dG (cf:=pH) (ho 209 (by decide) _) rfl rfl rfl];simp only[pr']at e;exact Rg hL hb h (lG (k:=i+5) ho) (fun h' hh O R s r hR hi e=>(ihl h' hh).ors O R s r hR hi e) (by omega) (by omega) hR hi e
  ·rw[dG (cf:=wK) (ho 177 (by decide) _) rfl rfl rfl,Ra];simp only[pr']at e;exact evL jQ 15 .imp .tIff h 209 hL hb (fun h n s=>by simp only[pr']) (fun h' hh O R s r hR hi e=>(ihl h' hh).imp O R s r hR hi e) (lG (k:=i+5) ho) (by omega) hR hi e
end
def zT (x:Tk):Tk:=⟨x.k,x.tx,x.v,0,0⟩
def zP (p:TkP):Tk:=⟨p.1,p.2.1,p.2.2,0,0⟩
theorem D8 (l:List Tk):l.map zT=(l.map prj).map zP:=by
 rw[List.map_map];rfl
section
variable (L:List Tk)
theorem iI (i:Nat):tkA (L.map zT) i=zT (tkA L i):=by
 unfold tkA;rw[List.getD_eq_getElem?_getD,List.getD_eq_getElem?_getD,List.getElem?_map];cases L[i]?<;>rfl
theorem oh (s:Ps) (w:Str):isS (L.map zT) s w=isS L s w:=by unfold isS;rw[iI];rfl
theorem qe (s:Ps):dq (L.map zT) s=dq L s:=by unfold dq;rw[iI];rfl
theorem Rq (s:Ps) (lo hi:Int):iC (L.map zT) s lo hi=iC L s lo hi:=by unfold iC;rw[iI];rfl
theorem D9 (s:Ps) (lo hi:Int):eP (L.map zT) s lo hi=eP L s lo hi:=by unfold eP;rw[iI,Rq];rfl
theorem yS (s:Ps) (w:Str):dX (L.map zT) s w=dX L s w:=by unfold dX;rw[oh]
theorem Ea (s:Ps): ∀ks,lB (L.map zT) s ks=lB L s ks
 |[]=>rfl
 |k::ks=>by unfold lB;rw[oh,Ea s ks]
theorem Rr (s:Ps):dW (L.map zT) s=dW L s:=Ea L s _
theorem Eb (f:Str): ∀(h:Nat) (ns:List Str) (s:Ps),gC (L.map zT) f h ns s=gC L f h ns s
 |0,_,_=>rfl
 |h+1,ns,s=>by
  unfold gC;rw[iI,qe,oh,yS,Eb f h];rfl
theorem Rs (f:Str) (h:Nat) (s:Ps):iE (L.map zT) f h s=iE L f h s:=by unfold iE;rw[oh,Eb]
theorem Ec (a:Str) (s:Ps): ∀(ws:List Str) (k:Int),iV (L.map zT) a s k ws=iV L a s k ws
 |[],k=>rfl
 |w::ws,k=>by unfold iV;rw[oh,qe,Ec a s ws]
theorem Rt (h:Nat) (s:Ps):gU (L.map zT) h s=gU L h s:=by
 unfold gU;simp only[qe,oh,Rs,D9,Ec]
theorem Ru (s:Ps):jR (L.map zT) s=jR L s:=by
 dsimp only[jR];simp only[qe,yS,D9]
theorem Rv (s:Ps):jt (L.map zT) s=jt L s:=by unfold jt;simp only[qe]
theorem Ed: ∀(h:Nat) (k:Kd) (s:Ps),pr' (L.map zT) h k s=pr' L h k s
 |0,_,_=>rfl
 |h+1,k,s=>by
  have ih:=Ed h;have e1:(tkA (L.map zT) s.i).k=(tkA L s.i).k:=by rw[iI];rfl
  have e2:(tkA (L.map zT) s.i).tx=(tkA L s.i).tx:=by rw[iI];rfl
  cases k<;>simp only[pr',e1,e2,ih,oh,qe,Rr,yS,Ru,Rv,Rt]
theorem Ee:prR (L.map zT)=prR L:=by unfold prR;rw[Ed,List.length_map]
theorem Rx (s:Ps):lF (L.map zT) s=lF L s:=by unfold lF;rw[iI];rfl
theorem Ef (r:Nd×Ps):pfL r (L.map zT)=pfL r L:=by unfold pfL;rw[Rx]
end
theorem Eg {l0:List Tk} {ln col:Int}:Lok (l0++[⟨0,[],0,ln,col⟩]):=by
 refine⟨by simp,fun i hi=>?_⟩;simp at hi;subst hi;unfold tkA;rw[List.getD_eq_getElem?_getD,List.getElem?_append_right (Nat.le_refl _)];simp
theorem Ry {s:Str} (hs:jV s) {l0:List Tk} {ln col:Int} (h2:l0.map prj=(lx s).1):eT (l0++[⟨0,[],0,ln,col⟩]):=by
 have hs1:=hs.len;have h3:=hs.sm;have h4:l0.length=(lx s).1.length:=by rw[<-h2];simp
 refine⟨Eg,fun j hj=>?_,?_⟩
 ·simp only[List.length_append,List.length_cons,List.length_nil]at hj;have hj':j<l0.length:=by omega
  have:tkA (l0++[⟨0,[],0,ln,col⟩]) j=l0[j]:=by
   unfold tkA;rw[List.getD_eq_getElem?_getD,List.getElem?_append_left hj',List.getElem?_eq_getElem hj'];rfl
  rw[this];refine CR s.length s (Nat.le_refl _) _ ?_;rw[<-h2];exact List.mem_map.2 ⟨_,List.getElem_mem hj',rfl⟩
 ·rw[Dd,List.map_append,h2];have: ∀(a b:List TkP),txs (a++b)=txs a+txs b:=by
   intro a b
   induction a with
   |nil=>simp[txs]
   |cons x a ih=>simp only[List.cons_append,txs,ih];omega
  rw[this];simp only[List.map_cons,List.map_nil,txs,prj,List.length_append,List.length_cons,List.length_nil];omega
section
variable {t:Nat}
theorem vr {s:Str} (hs:s.length<=65536):(rkR t s).2.2.2=(lx s).2:=by
 have:=D4 (t:=t) s;unfold jv at this;rw[if_pos hs]at this;exact this.1
theorem yT {s:Str} (hs:s.length<=65536) (h0:(lx s).2=0): ∃l0 ln col,(rkR t s).1=l0++[⟨0,[],0,ln,col⟩]/\l0.map prj=(lx s).1:=by
 have h:=D4 (t:=t) s;unfold jv at h;rw[if_pos hs]at h;exact h.2 (by rw[h.1];exact h0)
theorem yU {s:Str} (hs:s.length<=65536) (h0:(lx s).2=0):(rkR t s).1.map zT=(tkR t s).1.map zT:=by
 obtain⟨l0,ln,col,e1,e2⟩:=yT (t:=t) hs h0;obtain⟨m0,ln',col',e3,e4⟩:=rI (t:=t) hs h0;rw[e1,e3,List.map_append,List.map_append,D8 l0,D8 m0,e2,e4];rfl
theorem Eh {s:Str} (hs:s.length<=65536) (h0:(lx s).2=0):prR (rkR t s).1=prR (tkR t s).1:=by
 rw[<-Ee (rkR t s).1,yU hs h0,Ee]
noncomputable def rfS (t:Nat) (s:Str):Nd×Int:=if(rkR t s).2.2.2≠0 then(ndZ,(rkR t s).2.2.2)else pfL (prR (rkR t s).1) (rkR t s).1
theorem Ei {s:Str} (hs:s.length<=65536):rfS t s=pfS t s:=by
 unfold rfS pfS;rw[vr hs,mB hs];by_cases h0:(lx s).2=0
 ·rw[if_neg (by simp[h0]),if_neg (by simp[h0]),Eh hs h0,<-Ef (rkR t s).1,yU hs h0,Ef]
 ·rw[if_pos h0,if_pos h0]
end
end Go.Proofs.Ae
namespace Go.Proofs.Ae
open Go Go.RowKit
set_option maxRecDepth 100000
section
variable {G:Gls} {cl:a7} {yl:a7} {N:Nat}
theorem Rz (s:Str) (L:List Tk) (p1 p2 e:Int) (he:e≠0) (h56: ∀M,cl 56 [.str s] M=some (.tup [.slc .shared (L.map tkv),.int .i64 p1,.int .i64 p2,.int .i64 e],M)):
  dn G false cl yl N kw [.str s,.bool true]=some (.tup [.agg (.slc .shared []::ndc ndZ),.int .i64 p1,.int .i64 p2,.int .i64 e],none):=by
 have hz:ndc ndZ=[.int .i64 0,.slc .shared [],.int .i64 0,.int .i64 0,.int .i64 0,.slc .shared []]:=rfl;have he':(e !=0)=true:=by simp[he]
 rw[hz];simp -implicitDefEqProofs [kw,h56,he,he']
theorem RB (s:Str) (L:List Tk) (p1 p2:Int) (r:Nd×Ps) (hr:r.2.i<L.length) (h56: ∀M,cl 56 [.str s] M=some (.tup [.slc .shared (L.map tkv),.int .i64 p1,.int .i64 p2,.int .i64 0],M))
  (h177: ∀O R,Rd O 1 .shared L ⟨0,0,0⟩->RN (cl 177 [.ptr 1 0] ⟨O,R⟩) r.1 1 .shared L r.2 O R)
  (h88: ∀s1 s2 M,cl 88 [.agg (icN s1 s2 r.1)] M=some (.int .i64 (grt r.1),M)):
  ∃q1 q2,dn G false cl yl N kw [.str s,.bool true]=some (.tup [.agg (.slc .shared []::ndc (pfL r L).1),.int .i64 q1,.int .i64 q2,.int .i64 (pfL r L).2],none):=by
 have hz:ndc ndZ=[.int .i64 0,.slc .shared [],.int .i64 0,.int .i64 0,.int .i64 0,.slc .shared []]:=rfl;have hRd:Rd [.cells zz7,.cells (rdc .shared L ⟨0,0,0⟩),.cells zz7] 1 .shared L ⟨0,0,0⟩:=rfl;obtain⟨s1,s2,O1,Y1,k1,f1,r1⟩:=h177 _ [] hRd;have k88:=h88 s1 s2;have a0:O1[0]? =some (.cells zz7):=f1.old rfl (by decide);have a2:O1[2]? =some (.cells zz7):=f1.old rfl (by decide);rw[List.nil_append]at k1;obtain⟨O2,e2,r2,g2,n2,m2⟩:=gg (.cells (.slc .full []::icN s1 s2 r.1)) (show(2:Nat)≠1 by decide) (List.getElem?_eq_some_iff.1 a2).1 r1;have a02:O2[0]? =some (.cells zz7):=by rw[n2 0 (by decide)];exact a0
 have hx:=gq hr;have hx':=(List.getElem?_eq_some_iff.1 hx).2;unfold pfL lF;generalize tkA L r.2.i=tt at*;obtain⟨tk,tx,tv,tln,tcol⟩:=tt;simp only[];unfold rdc at k1;simp -implicitDefEqProofs at k1;have r2':=r2;unfold Rd rdc at r2';have fin0: ∀(O3:List Obj),O3[0]? =some (.cells zz7)-> ∃O9,O3.set 0 (.cells zz7)=O9/\O9[0]? =some (.cells zz7)/\O9[1]? =O3[1]?:=fun O3 h=>⟨_,rfl,List.getElem?_set_self (List.getElem?_eq_some_iff.1 h).1,List.getElem?_set_ne (by decide)⟩
 clear n2 m2 f1 h177 h88;by_cases hE:r.2.e=0
 ·rw[hE]at r2';by_cases hk:tk=0
  ·subst hk;simp only[ne_eq,not_true_eq_false,if_false,hE];by_cases hg:grt r.1=0
   ·rw[hg]at k88;simp only[hg,not_true_eq_false,if_false];obtain⟨O9,e9,g9⟩: ∃O9,O2.set 0 (.cells (.slc .full []::icN s1 s2 r.1))=O9/\O9[0]? =some (.cells (.slc .full []::icN s1 s2 r.1)):=⟨_,rfl,List.getElem?_set_self (List.getElem?_eq_some_iff.1 a02).1⟩
    refine⟨0,0,?_⟩;obtain⟨n,m⟩:=r;cases n with
    |mk op ns so nn mm l=>
    unfold icN at k1 k88 e2 g2 e9 g9;simp -implicitDefEqProofs [kw,h56,k1,a2,e2,r2',hr,hx',tkv,tkC,g2,k88,a02,e9,g9,ndc];exact⟨rfl,rfl,rfl,rfl,rfl,rfl⟩
   ·have hg':(grt r.1 !=0)=true:=by simp[hg]
    simp only[hg,not_false_eq_true,if_true,hz];obtain⟨O9,e9,g9,g91⟩:=fin0 O2 a02;refine⟨0,0,?_⟩;unfold icN at k1 k88 e2 g2;simp -implicitDefEqProofs [kw,h56,k1,a2,e2,r2',hr,hx',tkv,tkC,g2,k88,hg,hg',a02,e9,g9]
  ·have hk':(tk !=0)=true:=by simp[hk]
   have hw:wrg r.2 3=⟨r.2.i,3,r.2.o⟩:=by unfold wrg;rw[if_pos hE]
   simp only[hk,ne_eq,not_false_eq_true,if_true,hw,hz];obtain⟨O3,e3,f3,r3⟩:=fV r2 ⟨r.2.i,3,r.2.o⟩;have a03:=f3.old a02 (by decide);obtain⟨O9,e9,g9,g91⟩:=fin0 O3 a03;have r3':=r3;unfold Rd at r3';unfold rdc at e3 r3';dsimp only at e3 r3';refine⟨tln,tcol,?_⟩;unfold icN at k1 e2;simp -implicitDefEqProofs [kw,h56,k1,a2,e2,r2',hr,hx',tkv,tkC,hk,hk',e3,r3',a03,e9,g9,g91];exact hz.symm
 ·have hE':(r.2.e==0)=false:=by simp[hE]
  have hE2:(r.2.e !=0)=true:=by simp[hE]
  have hw:(if tk≠0 then wrg r.2 3 else r.2)=r.2:=by
   unfold wrg;rw[if_neg hE,ite_self]
  rw[hw];simp only[ne_eq,hE,not_false_eq_true,if_true,hz];obtain⟨O9,e9,g9,g91⟩:=fin0 O2 a02;refine⟨tln,tcol,?_⟩;unfold icN at k1 e2;simp -implicitDefEqProofs [kw,h56,k1,a2,e2,r2',hr,hx',tkv,tkC,hE,hE',hE2,a02,e9,g9,g91]
theorem RC (s:Str) (n:Nd) (q1 q2 e:Int) (h: ∀M,cl 122 [.str s,.bool true] M=some (.tup [.agg (.slc .shared []::ndc n),.int .i64 q1,.int .i64 q2,.int .i64 e],M)):
  dn G false cl yl N c60 [.str s]=some (.tup [av n,.int .i64 q1,.int .i64 q2,.int .i64 e],none):=by
 cases n with
 |mk op ns so nn mm l=>
 unfold ndc at h;simp -implicitDefEqProofs [c60,h,av]
end
section
variable {t:Nat}
theorem RD:NoX (dg (J5 t)):=by
 intro f hf ags;simp only[rdF,List.mem_cons,List.not_mem_nil,or_false]at hf;rcases hf with rfl|rfl|rfl|rfl|rfl|rfl|rfl|rfl|rfl|rfl|rfl|rfl|rfl|rfl<;>(unfold dL;split<;>rfl)
theorem RE (s:Str) (M:Mem):spC (dg (J5 t)) 56 [.str s] M=some (.tup [.slc .shared ((rkR t s).1.map tkv),.int .i64 (rkR t s).2.1,.int .i64 (rkR t s).2.2.1,.int .i64 (rkR t s).2.2.2],M):=
 du fS s (by repeat first|exact .here|refine .there ?_ rfl) (by exact trivial) (by rfl) (by rfl) M
theorem RF (n:Nd) (hb:bk n<=big) (s1 s2:Sp) (M:Mem):spC (dg (J5 t)) 88 [.agg (icN s1 s2 n)] M=some (.int .i64 (grt n),M):=by
 refine du eO n (by repeat first|exact .here|refine .there ?_ rfl) (by exact hb) ?_ (by rfl) M;have:gu (.agg (icN s1 s2 n))=some (av n):=iW s1 s2 n;simp only[eh,this]
theorem Ej (t:Nat) (s:Str) (hs:s.length<=65536): ∃q:Int×Int,eX Tryz.prog (GG t) 60 [.str s] (.tup [av (rfS t s).1,.int .i64 q.1,.int .i64 q.2,.int .i64 (rfS t s).2],none):=by
 obtain⟨h,hh⟩: ∃h,6*(rkR t s).1.length+5=h:=⟨_,rfl⟩
 have hlen:=D5 (t:=t) s;have key: ∃q1 q2,dn (GG t) false (BW (GG t) (dg (J5 t)) (h+100) (h+20)) (YW (GG t) (dg (J5 t)) (h+100) (h+20)) (h+100) kw [.str s,.bool true]=some (.tup [.agg (.slc .shared []::ndc (rfS t s).1),.int .i64 q1,.int .i64 q2,.int .i64 (rfS t s).2],none):=by
  have hb:(rkR t s).1.length<big:=by unfold big;omega
  have b56: ∀M,BW (GG t) (dg (J5 t)) (h+100) (h+20) 56 [.str s] M=some (.tup [.slc .shared ((rkR t s).1.map tkv),.int .i64 (rkR t s).2.1,.int .i64 (rkR t s).2.2.1,.int .i64 (rkR t s).2.2.2],M):=fun M=>dS (RE s M);unfold rfS;by_cases he:(rkR t s).2.2.2=0
  ·rw[if_neg (by simp[he])];have h0:(lx s).2=0:=by rw[<-vr (t:=t) hs];exact he
   obtain⟨l0,ln,col,e1,e2⟩:=yT (t:=t) hs h0;have hL:Lok (rkR t s).1:=by rw[e1];exact Eg
   have hbk:bk (prR (rkR t s).1).1<=5*s.length+1:=by rw[Eh hs h0];exact yj (t:=t) hs h0
   rw[he]at b56;exact RB s (rkR t s).1 (rkR t s).2.1 (rkR t s).2.2.1 (prR (rkR t s).1) (yi hL) b56 (fun O R hR=>(Rp RD hL hb (by omega) h (h+20) (by omega) (by omega) (by unfold big;omega)).fml O R _ _ hR ⟨hL.pos,by show(0:Nat)<=256;omega⟩ (by rw[<-hh];exact uQ hL)) (fun s1 s2 M=>dS (RF _ (by unfold big;omega) s1 s2 M))
  ·rw[if_pos he];exact⟨_,_,Rz s (rkR t s).1 (rkR t s).2.1 (rkR t s).2.2.1 (rkR t s).2.2.2 he b56⟩
 obtain⟨q1,q2,hk⟩:=key;refine⟨(q1,q2),mZ (T:=TW (dg (J5 t))) fp kis dz I8 (jr j5) ⟨h+100,h+21,false,?_⟩⟩;refine RC s _ q1 q2 _ fun M=>?_;exact fZ (k:=h+20) (cf:=kw) (by unfold dL;split<;>rfl) rfl rfl rfl rfl hk M
noncomputable def rfP (t:Nat) (s:Str):Int×Int:=if hs:s.length<=65536 then Classical.choose (Ej t s hs)else(0,0)
theorem RG (s:Str) (hs:s.length<=65536):eX Tryz.prog (GG t) 60 [.str s] (.tup [av (rfS t s).1,.int .i64 (rfP t s).1,.int .i64 (rfP t s).2,.int .i64 (rfS t s).2],none):=by
 have:=Classical.choose_spec (Ej t s hs);unfold rfP;rw[dif_pos hs];exact this
noncomputable abbrev J6 (t:Nat):List (Nat×(List AV->dC)):=(60,spR (fun s:Str=>[.str s]) (fun s=>(.tup [av (rfS t s).1,.int .i64 (rfP t s).1,.int .i64 (rfP t s).2,.int .i64 (rfS t s).2],none)) (fun s=>s.length<=65536))::J5 t
theorem j6:dP Tryz.prog (GG t) (dg (J6 t)):=by
 refine fl j5 fun ags r hr=>?_;obtain⟨s,rfl,hs,rfl⟩:=gy hr;exact RG s hs
end
section
variable (L:List Tk)
def aF (i:Nat) (w:Str):Bool:=isS L ⟨i,0,0⟩ w
def nF (i:Nat):Bool:=decide ((tkA L i).k=1)
def sF (i:Nat):Option Int:=([0,1,2,3]:List Int).findSome? fun k=>if aF L i (snm k)then some k else none
def hdP:Nat->List Vr->Bool->Nat->Option (Option (List Vr×Nat))
 |0,_,_,_=>none
 |h+1,vs,fi,i=>if aF L i wR then some (some (vs,i))else if fi=false/\aF L i eu=false then some none else
   match sF L (if fi then i else i+1)with
   |none=>some none
   |some so=>if nF L ((if fi then i else i+1)+1)then hdP h (vs++[⟨(tkA L ((if fi then i else i+1)+1)).tx,so⟩]) false ((if fi then i else i+1)+2)else some none
def hdR (h i:Nat):Option (Option (Str×List Vr×Nat)):=
 if aF L i eC=true/\nF L (i+1)=true/\aF L (i+2) wL=true then(hdP L h [] true (i+3)).map fun r=>r.bind fun q=>if aF L (q.2+1) dK then some ((tkA L (i+1)).tx,q.1,q.2+2)else none
 else some none
end
section
variable {L:List Tk}
theorem vt {i:Nat} (h: ¬i<L.length):tkA L i=⟨0,[],0,0,0⟩:=by
 unfold tkA;rw[List.getD_eq_getElem?_getD,List.getElem?_eq_none (by omega)];rfl
theorem yV {i:Nat} {w:Str} (h:aF L i w=true):i<L.length:=by
 apply Classical.byContradiction;intro hn;have:=ju h;rw[show(⟨i,0,0⟩:Ps).i=i from rfl,vt hn]at this;exact this rfl
theorem RH {i:Nat} (h:nF L i=true):i<L.length:=by
 apply Classical.byContradiction;intro hn;unfold nF at h;rw[vt hn]at h;cases h
end
section
variable {G:Gls} {cl:a7} {yl:a7} {N:Nat} {L:List Tk}
theorem RI (i:Nat) (w:Str) (hb:L.length<big):dn G false cl yl N c58 [.slc .shared (L.map tkv),.int .i64 (i:Nat),.str w]=some (.bool (aF L i w),none):=by
 unfold aF isS;by_cases hi:i<L.length
 ·have hx:=gq hi;have hx':=(List.getElem?_eq_some_iff.1 hx).2;generalize tkA L i=t at*;obtain⟨k,tx,v,ln,col⟩:=t;simp only[];by_cases h3:k=3
  ·subst h3;simp -implicitDefEqProofs [c58,hi,hx',tkv,tkC,dB]
  ·have h3':(k==3)=false:=by simp[h3]
   by_cases h4:k=4
   ·subst h4;simp -implicitDefEqProofs [c58,hi,hx',tkv,tkC,dB]
   ·have h4':(k==4)=false:=by simp[h4]
    simp -implicitDefEqProofs [c58,hi,hx',tkv,tkC,h3,h3',h4,h4',dB]
 ·have hi': ¬(i:Int)<(L.length:Int):=by omega
  rw[show(⟨i,0,0⟩:Ps).i=i from rfl,vt hi];simp -implicitDefEqProofs [c58,hi,hi']
theorem RJ (i:Nat):dn G false cl yl N ph [.slc .shared (L.map tkv),.int .i64 (i:Nat)]=some (.bool (nF L i),none):=by
 unfold nF;by_cases hi:i<L.length
 ·have hx:=gq hi;have hx':=(List.getElem?_eq_some_iff.1 hx).2;generalize tkA L i=t at*;obtain⟨k,tx,v,ln,col⟩:=t;simp only[];by_cases h1:k=1
  ·subst h1;simp -implicitDefEqProofs [ph,hi,hx',tkv,tkC]
  ·have h1':(k==1)=false:=by simp[h1]
   simp -implicitDefEqProofs [ph,hi,hx',tkv,tkC,h1,h1']
 ·have hi': ¬(i:Int)<(L.length:Int):=by omega
  rw[vt hi];simp -implicitDefEqProofs [ph,hi,hi']
theorem RK (i:Nat) (hN:5<N) (h58: ∀i w M,cl 58 [.slc .shared (L.map tkv),.int .i64 ((i:Nat):Int),.str w] M=some (.bool (aF L i w),M)) (h53: ∀k M,cl 53 [.int .i64 k] M=some (.str (snm k),M)):
  dn G false cl yl N qS [.slc .shared (L.map tkv),.int .i64 (i:Nat)]=some (.int .i64 ((sF L i).getD (-1)),none):=by
 obtain⟨e,⟨ts,M,mks⟩,k1,-,hmk,hm,hr⟩:=eN (mu:=false) (step:=a8 G false cl yl N qR) (an:=⟨[0,1,5],[(5,none)],false⟩) (k:=0) (m:=0) (N:=N) [0,1,2,3] (fun k:Int=>if aF L i (snm k)then some k else none)
  (fun j st=>st=⟨[(0,.slc .shared (L.map tkv)),(1,.int .i64 (i:Nat)),(5,.int .i64 (j:Nat))],⟨[],[]⟩,[]⟩)
  (fun r e s'=>s'.mks=[]/\s'.m=⟨[],[]⟩/\match r with
    |none=>e=.exit 0
    |some k=>e=.ret/\look 4 s'.ts=.int .i64 k) (s0:=⟨[(0,.slc .shared (L.map tkv)),(1,.int .i64 (i:Nat)),(5,.int .i64 ((0:Nat):Int))],⟨[],[]⟩,[]⟩) (by simp;omega) rfl (by
   rintro j x st hx hil rfl;have hi4:j<4:=hil;have hxi:x=(j:Int):=by
    rcases(show j=0\/j=1\/j=2\/j=3 by omega)with rfl|rfl|rfl|rfl<;>simp at hx<;>omega
   have k:=h58 i (snm x);have w1:=dF (i:=j) (by omega);have hlt:(j:Int)<4:=by omega
   have k53:=h53 x;cases hw:aF L i (snm x)with
   |true=>
    rw[hw]at k;rw[hxi]at k53 k;simp -implicitDefEqProofs [qR,hlt,hi4,k53,k,w1];exact hxi.symm
   |false=>
    rw[hw]at k;rw[hxi]at k53 k;simp -implicitDefEqProofs [qR,hlt,hi4,k53,k,w1]) (by
   rintro st rfl;simp -implicitDefEqProofs [qR])
 simp only[]at hmk hm;subst hmk;subst hm;rw[show((0:Nat):Int)=0 from rfl]at k1;unfold sF;cases hf:([0,1,2,3]:List Int).findSome? (fun k=>if aF L i (snm k)then some k else none)with
 |none=>
  rw[hf]at hr;subst hr;simp -implicitDefEqProofs [qS,k1]
 |some k=>
  rw[hf]at hr;obtain⟨rfl,l4⟩:=hr;simp only[]at l4;simp -implicitDefEqProofs [qS,k1,l4]
end
def ApP (n:Nat) (s1:Sp) (R:List Arr):Prop:=s1=.own 0/\((n=0/\R=[.app 0 0 0])\/R=[.app n 85 2])
theorem RL {vs:List Vr} {R:List Arr} {s1:Sp} (h:ApP vs.length s1 R) (v:Vr) (O:List Obj) (hn:vs.length<858993459200):
  dI 85 (.ag 2) 24 (.slc s1 (vs.map vrv)) [vrv v] ⟨O,R⟩=some (.slc (.own 0) ((vs++[v]).map vrv),⟨O,[.app (vs.length+1) 85 2]⟩):=by
 have h1:(vs.length+1)*24<=140737488355328:=by omega
 have h2:vs.length+1<=140737488355328:=by omega
 have hz:=C1 vs;have hz1:dV 2 [vrv v]=true:=rfl;obtain⟨rfl,⟨h0,rfl⟩|rfl⟩:=h
 ·have:vs=[]:=List.eq_nil_of_length_eq_zero h0;subst this;simp[dI,hz1]
 ·simp[dI,h1,h2,hz,hz1]
section
variable {G:Gls} {cl:a7} {yl:a7} {N:Nat} {L:List Tk}
abbrev H58 (cl:a7) (L:List Tk):Prop:= ∀i w M,cl 58 [.slc .shared (L.map tkv),.int .i64 ((i:Nat):Int),.str w] M=some (.bool (aF L i w),M)
abbrev yW (cl:a7) (L:List Tk):Prop:= ∀i M,cl 119 [.slc .shared (L.map tkv),.int .i64 ((i:Nat):Int)] M=some (.bool (nF L i),M)
abbrev yX (cl:a7) (L:List Tk):Prop:= ∀i M,cl 120 [.slc .shared (L.map tkv),.int .i64 ((i:Nat):Int)] M=some (.int .i64 ((sF L i).getD (-1)),M)
theorem Ek {i:Nat} {so:Int} (h:sF L i=some so):0<=so/\so<4:=by
 obtain⟨x,hx,h⟩:=List.exists_of_findSome?_eq_some h;have:x=so:=by
  split at h
  ·exact Option.some.inj h
  ·cases h
 subst this;simp at hx;omega
theorem RM (hbL:L.length<big) (nm:Str) (h58:H58 cl L) (h119:yW cl L) (h120:yX cl L) (kk mm:Nat):
  ∀(h:Nat) (vs:List Vr) (fi:Bool) (i:Nat) (r:Option (List Vr×Nat)) (s1:Sp) (R:List Arr) (N':Nat),hdP L h vs fi i=some r->h<N'->vs.length+h<858993459200->i<=L.length+3->ApP vs.length s1 R->
   ∃(ex:Ex) (ts':dx) (O':List Obj) (R':List Arr),dh false (a8 G false cl yl N ii) ⟨[0,1,4,7,8],[(7,some 1),(1,none),(8,none)],true⟩ kk mm N' ⟨[(0,.slc .shared (L.map tkv)),(1,.int .i64 (i:Nat)),(4,.ptr 0 0),(7,.ptr 1 0),(8,.bool fi)],⟨[.cells zz8,.cells (icM nm s1 vs)],R⟩,[]⟩=some (ex,⟨ts',⟨O',R'⟩,[]⟩)/\look 4 ts'=.ptr 0 0/\match r with
    |none=>ex=.ret/\look 5 ts'=.int .i64 0/\look 6 ts'=.bool false/\O'[0]? =some (.cells zz8)
    |some q=>ex=.exit 0/\look 0 ts'=.slc .shared (L.map tkv)/\look 1 ts'=.int .i64 (q.2:Nat)/\look 7 ts'=.ptr 1 0/\q.2<=L.length+3/\ ∃s3,O'=[.cells zz8,.cells (icM nm s3 q.1)]/\ApP q.1.length s3 R':=by
 unfold big at hbL;intro h
 induction h with
 |zero=>intro vs fi i r s1 R N' e;simp[hdP]at e
 |succ h ih=>
  intro vs fi i r s1 R N' e hN' hb hi hA;obtain⟨N',rfl⟩: ∃m,N'=m+1:=⟨N' - 1,by omega⟩
  simp only[hdP]at e;have k1:=h58 i wR;have w1:dj .i64 ((i:Int)+1)=(i:Int)+1:=dJ (by omega) (by omega);have w2:dj .i64 ((i:Int)+2)=(i:Int)+2:=dJ (by omega) (by omega);have w3:dj .i64 ((i:Int)+1+1)=(i:Int)+1+1:=dJ (by omega) (by omega);have w4:dj .i64 ((i:Int)+1+2)=(i:Int)+1+2:=dJ (by omega) (by omega);by_cases hR:aF L i wR=true
  ·rw[if_pos hR]at e;rw[hR]at k1;simp only[wR]at k1;cases e
   suffices hx: ∃ts',dh false (a8 G false cl yl N ii) ⟨[0,1,4,7,8],[(7,some 1),(1,none),(8,none)],true⟩ kk mm (N'+1) ⟨[(0,.slc .shared (L.map tkv)),(1,.int .i64 (i:Nat)),(4,.ptr 0 0),(7,.ptr 1 0),(8,.bool fi)],⟨[.cells zz8,.cells (icM nm s1 vs)],R⟩,[]⟩=some (.exit 0,⟨ts',⟨[.cells zz8,.cells (icM nm s1 vs)],R⟩,[]⟩)/\look 4 ts'=.ptr 0 0/\look 0 ts'=.slc .shared (L.map tkv)/\look 1 ts'=.int .i64 (i:Nat)/\look 7 ts'=.ptr 1 0 by
    obtain⟨ts',h1,h4,h0,h2,h7⟩:=hx;exact⟨_,ts',_,_,h1,h4,rfl,h0,h2,h7,hi,s1,rfl,hA⟩
   apply Exists.intro;apply And.intro
   ·simp -implicitDefEqProofs [dh,ii,k1];rfl
   ·refine⟨?_,?_,?_,?_⟩<;>first|rfl|simp
  ·have hR':aF L i wR=false:=by simpa using hR
   rw[if_neg hR]at e;rw[hR']at k1;simp only[wR]at k1;have k2:=h58 i eu;by_cases hC:fi=false/\aF L i eu=false
   ·rw[if_pos hC]at e;cases e;rw[hC.2]at k2;simp only[eu]at k2;rw[hC.1]
    suffices hx: ∃ts' O',dh false (a8 G false cl yl N ii) ⟨[0,1,4,7,8],[(7,some 1),(1,none),(8,none)],true⟩ kk mm (N'+1) ⟨[(0,.slc .shared (L.map tkv)),(1,.int .i64 (i:Nat)),(4,.ptr 0 0),(7,.ptr 1 0),(8,.bool false)],⟨[.cells zz8,.cells (icM nm s1 vs)],R⟩,[]⟩=some (.ret,⟨ts',⟨O',R⟩,[]⟩)/\look 4 ts'=.ptr 0 0/\look 5 ts'=.int .i64 0/\look 6 ts'=.bool false/\O'[0]? =some (.cells zz8)by
     obtain⟨ts',O',h1,h4,h5,h6,h0⟩:=hx;exact⟨_,ts',O',_,h1,h4,rfl,h5,h6,h0⟩
    refine⟨?_,[.cells zz8,.cells (icM nm s1 vs)],?_⟩;rotate_left
    ·apply And.intro
     ·simp -implicitDefEqProofs [dh,ii,k1,k2];rfl
     ·refine⟨?_,?_,?_,?_⟩<;>first|rfl|simp
   ·rw[if_neg hC]at e
    -- the parameter's place
    obtain⟨j,hj⟩: ∃j,(if fi then i else i+1)=j:=⟨_,rfl⟩
    rw[hj]at e;have hji:j=i\/j=i+1:=by rw[<-hj];split<;>simp
    have hjl:fi=true/\j=i\/fi=false/\j=i+1/\aF L i eu=true:=by
     cases fi with
     |true=>left;exact⟨rfl,by simpa using hj.symm⟩
     |false=>
      right;refine⟨rfl,by simpa using hj.symm,?_⟩;cases h:aF L i eu with
      |true=>rfl
      |false=>exact absurd ⟨rfl,h⟩ hC
    have hjL:j<=L.length+3:=by
     rcases hjl with⟨-,rfl⟩|⟨-,rfl,hh⟩
     ·exact hi
     ·have:=yV hh;omega
    have k3:=h120 j;cases hs:sF L j with
    |none=>
     rw[hs]at e k3;simp only[Option.getD_none]at k3;cases e
     suffices hx: ∃ts' O',dh false (a8 G false cl yl N ii) ⟨[0,1,4,7,8],[(7,some 1),(1,none),(8,none)],true⟩ kk mm (N'+1) ⟨[(0,.slc .shared (L.map tkv)),(1,.int .i64 (i:Nat)),(4,.ptr 0 0),(7,.ptr 1 0),(8,.bool fi)],⟨[.cells zz8,.cells (icM nm s1 vs)],R⟩,[]⟩=some (.ret,⟨ts',⟨O',R⟩,[]⟩)/\look 4 ts'=.ptr 0 0/\look 5 ts'=.int .i64 0/\look 6 ts'=.bool false/\O'[0]? =some (.cells zz8)by
      obtain⟨ts',O',h1,h4,h5,h6,h0⟩:=hx;exact⟨_,ts',O',_,h1,h4,rfl,h5,h6,h0⟩
     rcases hjl with⟨rfl,rfl⟩|⟨rfl,rfl,hh⟩
     ·refine⟨?_,[.cells zz8,.cells (icM nm s1 vs)],?_⟩;rotate_left
      ·apply And.intro
       ·simp -implicitDefEqProofs [dh,ii,k1,k3];rfl
       ·refine⟨?_,?_,?_,?_⟩<;>first|rfl|simp
     ·rw[hh]at k2;simp only[eu]at k2;simp -implicitDefEqProofs at k3;refine⟨?_,[.cells zz8,.cells (icM nm s1 vs)],?_⟩;rotate_left
      ·apply And.intro
       ·simp -implicitDefEqProofs [dh,ii,k1,k2,w1,k3];rfl
       ·refine⟨?_,?_,?_,?_⟩<;>first|rfl|simp
    |some so=>
     rw[hs]at e k3;simp only[Option.getD_some]at k3;obtain⟨so0,so4⟩:=Ek hs;have so0': ¬so<0:=by omega
     have k4:=h119 (j+1);simp only[]at e;by_cases hn:nF L (j+1)=true
     ·rw[if_pos hn]at e;rw[hn]at k4;have hlt:=RH hn;have hx:=gq hlt;have hx':=(List.getElem?_eq_some_iff.1 hx).2;have hap:=RL hA ⟨(tkA L (j+1)).tx,so⟩ [.cells zz8,.cells (icM nm s1 vs)] (by omega);obtain⟨ex,ts',O',R',j1,j2⟩:=ih (vs++[⟨(tkA L (j+1)).tx,so⟩]) false (j+2) r (.own 0) [.app (vs.length+1) 85 2] N' e (by omega) (by simp;omega) (by omega) ⟨rfl,.inr (by simp)⟩;refine⟨ex,ts',O',R',?_,j2⟩;rw[<-j1];generalize tkA L (j+1)=t at*;obtain⟨k,tx,v,ln,col⟩:=t;simp only[vrv]at hap;have step: ∃ts1,a8 G false cl yl N ii ⟨[(0,.slc .shared (L.map tkv)),(1,.int .i64 (i:Nat)),(4,.ptr 0 0),(7,.ptr 1 0),(8,.bool fi)],⟨[.cells zz8,.cells (icM nm s1 vs)],R⟩,[]⟩=some (.normal,⟨ts1,⟨[.cells zz8,.cells (icM nm (.own 0) (vs++[⟨tx,so⟩]))],[.app (vs.length+1) 85 2]⟩,[]⟩)/\fP ts1 [0,1,4,7,8]=[(0,.slc .shared (L.map tkv)),(1,.int .i64 ((j+2:Nat):Int)),(4,.ptr 0 0),(7,.ptr 1 0),(8,.bool false)]:=by
       clear j1 j2 ih e;rcases hjl with⟨rfl,rfl⟩|⟨rfl,rfl,hh⟩
       ·have htn:((j:Int)+1).toNat=j+1:=by omega
        have h0j:(0:Int)<=(j:Int)+1:=by omega
        have hltI:(j:Int)+1<(L.length:Int):=by omega
        simp -implicitDefEqProofs at k4;unfold icM at hap⊢;apply Exists.intro;apply And.intro
        ·simp -implicitDefEqProofs [-dI,ii,k1,k3,so0',k4,w1,w2,htn,h0j,hltI,hlt,hx',tkv,tkC,hap];rfl
        ·first|rfl|simp
       ·rw[hh]at k2;simp only[eu]at k2;have htn:((i:Int)+1+1).toNat=i+1+1:=by omega
        have h0j:(0:Int)<=(i:Int)+1+1:=by omega
        have hltI:(i:Int)+1+1<(L.length:Int):=by omega
        simp -implicitDefEqProofs at k3 k4;unfold icM at hap⊢;apply Exists.intro;apply And.intro
        ·simp -implicitDefEqProofs [-dI,ii,k1,k2,k3,so0',k4,w1,w3,w4,htn,h0j,hltI,hlt,hx',tkv,tkC,hap];rfl
        ·first|rfl|(simp;done)|(simp;omega)
      obtain⟨ts1,st1,st2⟩:=step;simp only[dh,st1,eI,Bool.false_eq_true,if_false,if_true,st2]
     ·have hn':nF L (j+1)=false:=by simpa using hn
      rw[if_neg hn]at e;rw[hn']at k4;cases e
      suffices hx: ∃ts' O',dh false (a8 G false cl yl N ii) ⟨[0,1,4,7,8],[(7,some 1),(1,none),(8,none)],true⟩ kk mm (N'+1) ⟨[(0,.slc .shared (L.map tkv)),(1,.int .i64 (i:Nat)),(4,.ptr 0 0),(7,.ptr 1 0),(8,.bool fi)],⟨[.cells zz8,.cells (icM nm s1 vs)],R⟩,[]⟩=some (.ret,⟨ts',⟨O',R⟩,[]⟩)/\look 4 ts'=.ptr 0 0/\look 5 ts'=.int .i64 0/\look 6 ts'=.bool false/\O'[0]? =some (.cells zz8)by
       obtain⟨ts',O',h1,h4,h5,h6,h0⟩:=hx;exact⟨_,ts',O',_,h1,h4,rfl,h5,h6,h0⟩
      rcases hjl with⟨rfl,rfl⟩|⟨rfl,rfl,hh⟩
      ·simp -implicitDefEqProofs at k4;refine⟨?_,[.cells zz8,.cells (icM nm s1 vs)],?_⟩;rotate_left
       ·apply And.intro
        ·simp -implicitDefEqProofs [dh,ii,k1,k3,so0',k4,w1];rfl
        ·refine⟨?_,?_,?_,?_⟩<;>first|rfl|simp
      ·rw[hh]at k2;simp only[eu]at k2;simp -implicitDefEqProofs at k3 k4;refine⟨?_,[.cells zz8,.cells (icM nm s1 vs)],?_⟩;rotate_left
       ·apply And.intro
        ·simp -implicitDefEqProofs [dh,ii,k1,k2,k3,so0',k4,w1,w3];rfl
        ·refine⟨?_,?_,?_,?_⟩<;>first|rfl|simp
theorem RO (hbL:L.length<big) (h58:H58 cl L) (h119:yW cl L) (h120:yX cl L) {h i:Nat} {r:Option (Str×List Vr×Nat)} (e:hdR L h i=some r) (hN:h<N) (hh:h<8589934592) (hi:i<L.length):
  ∃cs n,dn G false cl yl N c57 [.slc .shared (L.map tkv),.int .i64 (i:Nat)]=some (.tup [.agg cs,.int .i64 n,.bool r.isSome],none)/\cs.length=8/\ ∀q,r=some q->cs=mcc ⟨q.1,q.2.1,ndZ⟩/\n=(q.2.2:Nat)/\q.2.2<=L.length:=by
 have hbL':=hbL;unfold big at hbL';have w1:dj .i64 ((i:Int)+1)=(i:Int)+1:=dJ (by omega) (by omega);have w2:dj .i64 ((i:Int)+2)=(i:Int)+2:=dJ (by omega) (by omega);have w3:dj .i64 ((i:Int)+3)=(i:Int)+3:=dJ (by omega) (by omega);have hz:mcc ⟨[],[],ndZ⟩=[.str [],.slc .shared [],.int .i64 0,.slc .shared [],.int .i64 0,.int .i64 0,.int .i64 0,.slc .shared []]:=rfl;unfold hdR at e;have k1:=h58 i eC;have k2:=h119 (i+1);have k3:=h58 (i+2) wL;by_cases hc:aF L i eC=true/\nF L (i+1)=true/\aF L (i+2) wL=true
 ·rw[if_pos hc]at e;obtain⟨c1,c2,c3⟩:=hc;rw[c1]at k1;rw[c2]at k2;rw[c3]at k3;simp only[eC]at k1;simp only[wL]at k3;simp -implicitDefEqProofs at k2 k3;simp only[Option.map_eq_some_iff]at e;obtain⟨r0,e0,rfl⟩:=e;have hl2:=yV c3;have hlt:i+1<L.length:=by omega
  have hx:=gq hlt;have hx':=(List.getElem?_eq_some_iff.1 hx).2;generalize tkA L (i+1)=t at*;obtain⟨k,tx,v,ln,col⟩:=t;have htn:((i:Int)+1).toNat=i+1:=by omega
  have h0j:(0:Int)<=(i:Int)+1:=by omega
  have hltI:(i:Int)+1<(L.length:Int):=by omega
  obtain⟨ex,ts',O',R',j1,j4,j5⟩:=RM (G:=G) (cl:=cl) (yl:=yl) (N:=N) hbL tx h58 h119 h120 2 1 h [] true (i+3) r0 (.own 0) [.app 0 0 0] N e0 hN (by simp;omega) (by omega) ⟨rfl,.inl ⟨rfl,rfl⟩⟩;unfold icM at j1;simp -implicitDefEqProofs at j1;cases r0 with
  |none=>
   obtain⟨rfl,l5,l6,g0⟩:=j5;refine⟨mcc ⟨[],[],ndZ⟩,0,?_,rfl,fun q hq=>by cases hq⟩;rw[hz];simp -implicitDefEqProofs [c57,k1,k2,k3,w1,w2,w3,hltI,h0j,htn,hlt,hx',tkv,tkC,j1,j4,l5,l6,g0]
  |some q=>
   obtain⟨vs,j⟩:=q;obtain⟨rfl,l0,l1,l7,hj,s3,rfl,hs3,hA⟩:=j5;subst hs3;simp only[]at l0 l1 l7 hj hA;have k5:=h58 (j+1) dK;have w4:dj .i64 ((j:Int)+1)=(j:Int)+1:=dJ (by omega) (by omega);have w5:dj .i64 ((j:Int)+2)=(j:Int)+2:=dJ (by omega) (by omega);have hmc:mcc ⟨tx,vs,ndZ⟩=[.str tx,.slc .shared (vs.map vrv),.int .i64 0,.slc .shared [],.int .i64 0,.int .i64 0,.int .i64 0,.slc .shared []]:=rfl;have hr: ∃b,aF L (j+1) dK=b/\(if aF L (j+1) dK=true then some ((tx,vs,j+2):Str×List Vr×Nat)else none)=(if b then some (tx,vs,j+2)else none):=⟨_,rfl,rfl⟩
   obtain⟨b,hb,hr⟩:=hr;rw[hb]at k5;simp only[dK]at k5;simp -implicitDefEqProofs at k5;have hsome:((some (vs,j)).bind fun q=>if aF L (q.2+1) dK=true then some ((tx,q.1,q.2+2):Str×List Vr×Nat)else none)=(if b then some (tx,vs,j+2)else none):=hr;rw[hsome];refine⟨mcc ⟨tx,vs,ndZ⟩,(j:Int)+2,?_,rfl,fun q hq=>?_⟩
   ·rw[hmc];unfold icM at j1;rcases hA with hv|hR
    ·have hvs:vs=[]:=List.eq_nil_of_length_eq_zero hv.1;have hR:=hv.2;subst hvs;subst hR;cases b<;>simp -implicitDefEqProofs [c57,k1,k2,k3,w1,w2,w3,hltI,h0j,htn,hlt,hx',tkv,tkC,j1,j4,l0,l1,l7,k5,w4,w5]
    ·subst hR;cases b<;>simp -implicitDefEqProofs [c57,k1,k2,k3,w1,w2,w3,hltI,h0j,htn,hlt,hx',tkv,tkC,j1,j4,l0,l1,l7,k5,w4,w5]
   ·cases b with
    |false=>cases hq
    |true=>
     simp only[if_true,Option.some.injEq]at hq;subst hq;have:=yV hb;exact⟨rfl,by simp,by show j+2<=L.length;omega⟩
 ·rw[if_neg hc]at e;cases e;refine⟨mcc ⟨[],[],ndZ⟩,0,?_,rfl,fun q hq=>by cases hq⟩;rw[hz];cases c1:aF L i eC with
  |false=>
   rw[c1]at k1;simp only[eC]at k1;simp -implicitDefEqProofs [c57,k1]
  |true=>
   rw[c1]at k1;simp only[eC]at k1;cases c2:nF L (i+1)with
   |false=>
    rw[c2]at k2;simp -implicitDefEqProofs at k2;simp -implicitDefEqProofs [c57,k1,w1,k2]
   |true=>
    rw[c2]at k2;simp -implicitDefEqProofs at k2;have c3:aF L (i+2) wL=false:=by
     cases h:aF L (i+2) wL with
     |false=>rfl
     |true=>exact absurd ⟨c1,c2,h⟩ hc
    rw[c3]at k3;simp only[wL]at k3;simp -implicitDefEqProofs at k3;simp -implicitDefEqProofs [c57,k1,w1,k2,w2,k3]
end
def scE (L:List Tk):Nat->Nat->Option Nat
 |0,_=>none
 |h+1,i=>if i<L.length/\aF L i fh=false then scE L h (i+1)else some i
noncomputable def rpm (t:Nat) (L:List Tk) (H:Nat):Nat->List Mc->Nat->Option (List Mc×Int)
 |0,_,_=>none
 |h+1,w,i=>if(tkA L i).k=0 then some (w,0)else(hdR L H i).bind fun r=>match r with
  |none=>some (w,3)
  |some q=>(scE L H q.2.2).bind fun j=>if L.length<=j then some (w,3)
   else if(rfS t (dtx L q.2.2 j)).2≠0 then some (w,(rfS t (dtx L q.2.2 j)).2)
   else if may w ⟨q.1,q.2.1,(rfS t (dtx L q.2.2 j)).1⟩≠0 then some (w,may w ⟨q.1,q.2.1,(rfS t (dtx L q.2.2 j)).1⟩)
   else rpm t L H h (w++[⟨q.1,q.2.1,(rfS t (dtx L q.2.2 j)).1⟩]) (j+1)
def ApM (n:Nat) (s1:Sp) (R:List Arr):Prop:=s1=.own 0/\((n=0/\R=[.app 0 0 0])\/R=[.app n 34 8])
theorem RP {w:List Mc} {R:List Arr} {s1:Sp} (h:ApM w.length s1 R) (d:Mc) (O:List Obj) (hn:w.length<8589934592):
  dI 34 (.ag 8) 120 (.slc s1 (w.map mcv)) [mcv d] ⟨O,R⟩=some (.slc (.own 0) ((w++[d]).map mcv),⟨O,[.app (w.length+1) 34 8]⟩):=by
 have h1:(w.length+1)*120<=140737488355328:=by omega
 have h2:w.length+1<=140737488355328:=by omega
 have hz:=nT w;have hz1:=nS d [];obtain⟨rfl,⟨h0,rfl⟩|rfl⟩:=h
 ·have:w=[]:=List.eq_nil_of_length_eq_zero h0;subst this;simp[dI,hz1]
 ·simp[dI,h1,h2,hz,hz1]
theorem RQ (O:List Obj) (x y z:Obj):(O++[x,y]).set O.length z=O++[z,y]:=by
 rw[List.set_append_right _ _ (Nat.le_refl _)];simp
section
variable {G:Gls} {cl:a7} {yl:a7} {N:Nat} {L:List Tk}
theorem El: ∀{h i j:Nat},scE L h i=some j->i<=L.length->i<=j/\j<=L.length/\(j<L.length->aF L j fh=true)
 |0,i,j,e,_=>by simp[scE]at e
 |h+1,i,j,e,hi=>by
  unfold scE at e;split at e
  ·rename_i hc
   have:=El e (by omega);exact⟨by omega,this.2.1,this.2.2⟩
  ·rename_i hc
   cases e;refine⟨Nat.le_refl _,hi,fun hl=>?_⟩;cases h:aF L i fh with
   |true=>rfl
   |false=>exact absurd ⟨hl,h⟩ hc
theorem RS (hbL:L.length<big) (h58:H58 cl L) (v9 v11 v12:AV) (M:Mem) (kk mm:Nat):
  ∀(h i j N':Nat),scE L h i=some j->h<N'->i<=L.length->
   ∃ts',dh false (a8 G false cl yl N pa) ⟨[5,9,11,12,14],[(14,none)],true⟩ kk mm N' ⟨[(5,.slc .shared (L.map tkv)),(9,v9),(11,v11),(12,v12),(14,.int .i64 (i:Nat))],M,[]⟩=some (.exit 2,⟨ts',M,[]⟩)/\look 5 ts'=.slc .shared (L.map tkv)/\look 9 ts'=v9/\look 11 ts'=v11/\look 12 ts'=v12/\look 14 ts'=.int .i64 (j:Nat):=by
 unfold big at hbL;intro h
 induction h with
 |zero=>intro i j N' e;simp[scE]at e
 |succ h ih=>
  intro i j N' e hN' hi;obtain⟨N',rfl⟩: ∃m,N'=m+1:=⟨N' - 1,by omega⟩
  unfold scE at e;have k:=h58 i fh;have w1:dj .i64 ((i:Int)+1)=(i:Int)+1:=dJ (by omega) (by omega);by_cases hc:i<L.length/\aF L i fh=false
  ·rw[if_pos hc]at e;obtain⟨hl,hf⟩:=hc;rw[hf]at k;simp only[fh]at k;obtain⟨ts',j1,j2⟩:=ih (i+1) j N' e (by omega) (by omega);refine⟨ts',?_,j2⟩;rw[<-j1];have step: ∃ts1,a8 G false cl yl N pa ⟨[(5,.slc .shared (L.map tkv)),(9,v9),(11,v11),(12,v12),(14,.int .i64 (i:Nat))],M,[]⟩=some (.normal,⟨ts1,M,[]⟩)/\fP ts1 [5,9,11,12,14]=[(5,.slc .shared (L.map tkv)),(9,v9),(11,v11),(12,v12),(14,.int .i64 ((i+1:Nat):Int))]:=by
    apply Exists.intro;apply And.intro
    ·simp -implicitDefEqProofs [pa,hl,k,w1];rfl
    ·first|rfl|simp
   obtain⟨ts1,st1,st2⟩:=step;simp only[dh,st1,eI,Bool.false_eq_true,if_false,if_true,st2]
  ·rw[if_neg hc]at e;cases e;by_cases hl:i<L.length
   ·have hf:aF L i fh=true:=by
     cases h:aF L i fh with
     |true=>rfl
     |false=>exact absurd ⟨hl,h⟩ hc
    rw[hf]at k;simp only[fh]at k;apply Exists.intro;apply And.intro
    ·simp -implicitDefEqProofs [dh,pa,hl,k];rfl
    ·refine⟨?_,?_,?_,?_,?_⟩<;>first|rfl|simp
   ·have hl': ¬(i:Int)<(L.length:Int):=by omega
    apply Exists.intro;apply And.intro
    ·simp -implicitDefEqProofs [dh,pa,hl,hl'];rfl
    ·refine⟨?_,?_,?_,?_,?_⟩<;>first|rfl|simp
structure yY (cl:a7) (L:List Tk) (t H:Nat):Prop where
 h57: ∀i r,i<L.length->hdR L H i=some r-> ∃cs n,(∀M,cl 57 [.slc .shared (L.map tkv),.int .i64 ((i:Nat):Int)] M=some (.tup [.agg cs,.int .i64 n,.bool r.isSome],M))/\cs.length=8/\ ∀q,r=some q->cs=mcc ⟨q.1,q.2.1,ndZ⟩/\n=(q.2.2:Nat)/\q.2.2<=L.length
 h58:H58 cl L
 h59: ∀i j,Btw L i j-> ∀M,cl 59 [.slc .shared (((L.drop i).take (j - i)).map tkv)] M=some (.tup [.str (dtx L i j),.int .i64 0],M)
 h60: ∀i j,Btw L i j-> ∃q1 q2:Int,∀M,cl 60 [.str (dtx L i j)] M=some (.tup [av (rfS t (dtx L i j)).1,.int .i64 q1,.int .i64 q2,.int .i64 (rfS t (dtx L i j)).2],M)
 h11: ∀w d M,Gd w->OkM d->cl 11 [.slc (.own 0) (w.map mcv),mcv d] M=some (.int .i64 (may w d),M)
 hok: ∀i q j,i<L.length->hdR L H i=some (some q)->Btw L q.2.2 j->(rfS t (dtx L q.2.2 j)).2=0->OkM ⟨q.1,q.2.1,(rfS t (dtx L q.2.2 j)).1⟩
theorem RT (hT:eT L) (hbL:L.length<big) {t H:Nat} (c:yY cl L t H) (hHN:H<N) (kk mm:Nat):
  ∀(h:Nat) (w:List Mc) (i:Nat) (r:List Mc×Int) (O:List Obj) (R:List Arr) (s1:Sp) (N':Nat),rpm t L H h w i=some r->h<N'->i<L.length->Gd w->ApM w.length s1 R->
   ∃(ex:Ex) (ts':dx) (O':List Obj) (R':List Arr),dh false (a8 G false cl yl N iz) ⟨[5,9,10],[(9,none),(10,none)],true⟩ kk mm N' ⟨[(5,.slc .shared (L.map tkv)),(9,.slc s1 (w.map mcv)),(10,.int .i64 (i:Nat))],⟨O,R⟩,[]⟩=some (ex,⟨ts',⟨O',R'⟩,[]⟩)/\Gd r.1/\
    ((r.2=0/\ex=.exit 0/\ ∃s3,look 9 ts'=.slc s3 (r.1.map mcv)/\ApM r.1.length s3 R')\/(r.2≠0/\ex=.ret/\look 2 ts'=.slc .full []/\look 3 ts'=.int .i64 (r.1.length:Nat)/\look 4 ts'=.int .i64 r.2)):=by
 have hbL':=hbL;unfold big at hbL';intro h
 induction h with
 |zero=>intro w i r O R s1 N' e;simp[rpm]at e
 |succ h ih=>
  intro w i r O R s1 N' e hN' hi hg hA;obtain⟨N',rfl⟩: ∃m,N'=m+1:=⟨N' - 1,by omega⟩
  have hx:=gq hi;have hx':=(List.getElem?_eq_some_iff.1 hx).2;have hlen:=hg.len;obtain⟨hsp,hA'⟩:=hA;subst hsp;unfold rpm at e;by_cases hk:(tkA L i).k=0
  ·rw[if_pos hk]at e;cases e
   suffices hx: ∃ts',dh false (a8 G false cl yl N iz) ⟨[5,9,10],[(9,none),(10,none)],true⟩ kk mm (N'+1) ⟨[(5,.slc .shared (L.map tkv)),(9,.slc (.own 0) (w.map mcv)),(10,.int .i64 (i:Nat))],⟨O,R⟩,[]⟩=some (.exit 0,⟨ts',⟨O,R⟩,[]⟩)/\look 9 ts'=.slc (.own 0) (w.map mcv)by
    obtain⟨ts',t1,t2⟩:=hx;exact⟨_,ts',_,_,t1,hg,.inl ⟨rfl,rfl,.own 0,t2,rfl,hA'⟩⟩
   generalize tkA L i=tk at*;obtain⟨k,tx,v,ln,col⟩:=tk;simp only[]at hk;subst hk;apply Exists.intro;apply And.intro
   ·simp -implicitDefEqProofs [dh,iz,hi,hx',tkv,tkC];rfl
   ·first|rfl|simp
  ·rw[if_neg hk]at e;simp only[Option.bind_eq_some_iff]at e;obtain⟨r0,e0,e⟩:=e;obtain⟨cs,n0,k57,hcl,hcs⟩:=c.h57 i r0 hi e0;have hs1:=vo O (.cells [.str [],.slc .full [],.int .i64 0,.slc .full [],.int .i64 0,.int .i64 0,.int .i64 0,.slc .full []]) (.cells cs);have hk1: ∃b,((tkA L i).k !=0)=b/\b=true:=⟨_,rfl,by simp[hk]⟩
   obtain⟨b,hkb,rfl⟩:=hk1;generalize tkA L i=tk at*;obtain⟨tkk,tkx,tkv',tkl,tkc⟩:=tk;simp only[]at hkb hk;have ht8:List.take 8 cs=cs:=List.take_of_length_le (by omega);cases r0 with
   |none=>
    simp only[Option.isSome_none]at k57 e;cases e
    suffices hx: ∃ts',dh false (a8 G false cl yl N iz) ⟨[5,9,10],[(9,none),(10,none)],true⟩ kk mm (N'+1) ⟨[(5,.slc .shared (L.map tkv)),(9,.slc (.own 0) (w.map mcv)),(10,.int .i64 (i:Nat))],⟨O,R⟩,[]⟩=some (.ret,⟨ts',⟨O++[.cells cs],R⟩,[]⟩)/\look 2 ts'=.slc .full []/\look 3 ts'=.int .i64 (w.length:Nat)/\look 4 ts'=.int .i64 3 by
     obtain⟨ts',t1,t2⟩:=hx;exact⟨_,ts',_,_,t1,hg,.inr ⟨by simp,rfl,t2⟩⟩
    apply Exists.intro;apply And.intro
    ·simp -implicitDefEqProofs [dh,iz,hi,hx',tkv,tkC,hkb,k57,hcl,ht8,hs1];rfl
    ·refine⟨?_,?_,?_⟩<;>first|rfl|simp
   |some q=>
    obtain⟨hcs1,rfl,hql⟩:=hcs q rfl;simp only[Option.isSome_some]at k57;obtain⟨nm,ps,nx⟩:=q;simp only[]at hcs1 hql e;simp only[Option.bind_eq_some_iff]at e;obtain⟨j,ej,e⟩:=e;obtain⟨hj1,hj2,hj3⟩:=El ej hql;obtain⟨tsa,ja,a5,a9,a11,a12,a14⟩:=RS (G:=G) (yl:=yl) (N:=N) hbL c.h58 (.slc (.own 0) (w.map mcv)) (.ptr O.length 0) (.int .i64 (nx:Nat)) ⟨O++[.cells cs],R⟩ (O.length+1) R.length H nx j N ej hHN hql;by_cases hend:L.length<=j
    ·rw[if_pos hend]at e;cases e;have hjL:j=L.length:=by omega
     suffices hx: ∃ts',dh false (a8 G false cl yl N iz) ⟨[5,9,10],[(9,none),(10,none)],true⟩ kk mm (N'+1) ⟨[(5,.slc .shared (L.map tkv)),(9,.slc (.own 0) (w.map mcv)),(10,.int .i64 (i:Nat))],⟨O,R⟩,[]⟩=some (.ret,⟨ts',⟨O++[.cells cs],R⟩,[]⟩)/\look 2 ts'=.slc .full []/\look 3 ts'=.int .i64 (w.length:Nat)/\look 4 ts'=.int .i64 3 by
      obtain⟨ts',t1,t2⟩:=hx;exact⟨_,ts',_,_,t1,hg,.inr ⟨by simp,rfl,t2⟩⟩
     rw[hjL]at a14;apply Exists.intro;apply And.intro
     ·simp -implicitDefEqProofs [dh,iz,hi,hx',tkv,tkC,hkb,k57,hcl,ht8,hs1,ja,a5,a9,a14];rfl
     ·refine⟨?_,?_,?_⟩<;>first|rfl|simp
    ·rw[if_neg hend]at e;have hjl:j<L.length:=by omega
     have btw:Btw L nx j:=⟨hj1,hjl,fun k hk1 hk2=>by
      have:=rH (hT.ok k (by omega));simp only[prj]at this;omega⟩
     have k59:=c.h59 nx j btw;obtain⟨x1,x2,k60⟩:=c.h60 nx j btw;have hok:=c.hok i (nm,ps,nx) j hi e0 btw;simp only[]at hok;have hdt:((L.drop nx).take (j - nx)).map tkv=List.drop nx (List.take j (L.map tkv)):=by
      rw[<-List.map_take,<-List.map_drop,List.drop_take]
     rw[hdt]at k59;have hsz:dV 5 (L.map tkv)=true:=by simp
     have hge: ¬(L.length:Int)<=(j:Int):=by omega
     have hjI:(j:Int)<(L.length:Int):=by omega
     have hnj:(nx:Int)<=(j:Int):=by omega
     generalize hrf:rfS t (dtx L nx j)=rf at*;generalize dtx L nx j=tx at*;obtain⟨n,er⟩:=rf;simp only[]at k60 e hok;have hmd: ∀n:Nd,mcv ⟨nm,ps,n⟩=.agg (.str nm::.slc .shared (ps.map vrv)::ndc n):=fun _=>rfl;have hcs2:cs=[.str nm,.slc .shared (ps.map vrv),.int .i64 0,.slc .shared [],.int .i64 0,.int .i64 0,.int .i64 0,.slc .shared []]:=hcs1;clear hcs1 hcs;subst hcs2;obtain⟨o,ns,so,nn,mm',l⟩:=n;simp only[av,ndc]at k60;have hd:mcv ⟨nm,ps,.mk o ns so nn mm' l⟩=.agg [.str nm,.slc .shared (ps.map vrv),.int .i64 o,.slc .shared (ns.map .str),.int .i64 so,.int .i64 nn,.int .i64 mm',.slc .shared (avL l)]:=rfl;have hs2:=yP O (.cells [.str nm,.slc .shared (ps.map vrv),.int .i64 0,.slc .shared [],.int .i64 0,.int .i64 0,.int .i64 0,.slc .shared []]) (.cells zz6) (.cells [.int .i64 o,.slc .shared (ns.map .str),.int .i64 so,.int .i64 nn,.int .i64 mm',.slc .shared (avL l)]);have hs3:=RQ O (.cells [.str nm,.slc .shared (ps.map vrv),.int .i64 0,.slc .shared [],.int .i64 0,.int .i64 0,.int .i64 0,.slc .shared []]) (.cells [.int .i64 o,.slc .shared (ns.map .str),.int .i64 so,.int .i64 nn,.int .i64 mm',.slc .shared (avL l)]) (.cells [.str nm,.slc .shared (ps.map vrv),.int .i64 o,.slc .shared (ns.map .str),.int .i64 so,.int .i64 nn,.int .i64 mm',.slc .shared (avL l)]);have g1: ∀x y:Obj,(O++[x,y])[O.length]? =some x:=fun x y=>by simp
     have g2: ∀x y:Obj,(O++[x,y])[O.length+1]? =some y:=fun x y=>by simp
     try simp -implicitDefEqProofs at ja
     by_cases her:er=0
     ·subst her;rw[if_neg (by simp)]at e;have hokm:=hok rfl;have k11:=fun M=>c.h11 w _ M hg hokm;rw[hd]at k11;by_cases hm:may w ⟨nm,ps,.mk o ns so nn mm' l⟩=0
      ·rw[if_neg (by simp[hm])]at e;rw[hm]at k11;have hsem:=hj3 hjl;have hj1L:j+1<L.length:=mr hT.lok hjl (ju hsem);have hap:=RP ⟨rfl,hA'⟩ ⟨nm,ps,.mk o ns so nn mm' l⟩ (O++[.cells [.str nm,.slc .shared (ps.map vrv),.int .i64 o,.slc .shared (ns.map .str),.int .i64 so,.int .i64 nn,.int .i64 mm',.slc .shared (avL l)],.cells [.int .i64 o,.slc .shared (ns.map .str),.int .i64 so,.int .i64 nn,.int .i64 mm',.slc .shared (avL l)]]) (by omega);rw[hd]at hap;obtain⟨ex,ts',O',R',i1,i2⟩:=ih (w++[⟨nm,ps,.mk o ns so nn mm' l⟩]) (j+1) r (O++[.cells [.str nm,.slc .shared (ps.map vrv),.int .i64 o,.slc .shared (ns.map .str),.int .i64 so,.int .i64 nn,.int .i64 mm',.slc .shared (avL l)],.cells [.int .i64 o,.slc .shared (ns.map .str),.int .i64 so,.int .i64 nn,.int .i64 mm',.slc .shared (avL l)]]) [.app (w.length+1) 34 8] (.own 0) N' e (by omega) hj1L (hg.snoc hm hokm) ⟨rfl,.inr (by simp)⟩;refine⟨ex,ts',O',R',?_,i2⟩;rw[<-i1];have w1:dj .i64 ((j:Int)+1)=(j:Int)+1:=dJ (by omega) (by omega);have step: ∃ts1,a8 G false cl yl N iz ⟨[(5,.slc .shared (L.map tkv)),(9,.slc (.own 0) (w.map mcv)),(10,.int .i64 (i:Nat))],⟨O,R⟩,[]⟩=some (.normal,⟨ts1,⟨O++[.cells [.str nm,.slc .shared (ps.map vrv),.int .i64 o,.slc .shared (ns.map .str),.int .i64 so,.int .i64 nn,.int .i64 mm',.slc .shared (avL l)],.cells [.int .i64 o,.slc .shared (ns.map .str),.int .i64 so,.int .i64 nn,.int .i64 mm',.slc .shared (avL l)]],[.app (w.length+1) 34 8]⟩,[]⟩)/\fP ts1 [5,9,10]=[(5,.slc .shared (L.map tkv)),(9,.slc (.own 0) ((w++[(⟨nm,ps,.mk o ns so nn mm' l⟩:Mc)]).map mcv)),(10,.int .i64 ((j+1:Nat):Int))]:=by
        clear i1 i2 ih;apply Exists.intro;apply And.intro
        ·simp -implicitDefEqProofs [-dI,iz,hi,hx',tkv,tkC,hkb,k57,hs1,ja,a5,a9,a11,a12,a14,hge,hnj,hjI,hj1,hj2,hsz,eR,k59,k60,hs2,g1,g2,hs3,k11,hap,w1];rfl
        ·first|rfl|(simp[a5];done)|simpa using a5
       obtain⟨ts1,st1,st2⟩:=step;simp only[dh,st1,eI,Bool.false_eq_true,if_false,if_true,st2]
      ·rw[if_pos hm]at e;cases e;have hm':(may w ⟨nm,ps,.mk o ns so nn mm' l⟩ !=0)=true:=by simp[hm]
       suffices hx: ∃ts',dh false (a8 G false cl yl N iz) ⟨[5,9,10],[(9,none),(10,none)],true⟩ kk mm (N'+1) ⟨[(5,.slc .shared (L.map tkv)),(9,.slc (.own 0) (w.map mcv)),(10,.int .i64 (i:Nat))],⟨O,R⟩,[]⟩=some (.ret,⟨ts',⟨O++[.cells [.str nm,.slc .shared (ps.map vrv),.int .i64 o,.slc .shared (ns.map .str),.int .i64 so,.int .i64 nn,.int .i64 mm',.slc .shared (avL l)],.cells [.int .i64 o,.slc .shared (ns.map .str),.int .i64 so,.int .i64 nn,.int .i64 mm',.slc .shared (avL l)]],R⟩,[]⟩)/\look 2 ts'=.slc .full []/\look 3 ts'=.int .i64 (w.length:Nat)/\look 4 ts'=.int .i64 (may w ⟨nm,ps,.mk o ns so nn mm' l⟩)by
        obtain⟨ts',t1,t2⟩:=hx;exact⟨_,ts',_,_,t1,hg,.inr ⟨hm,rfl,t2⟩⟩
       generalize may w ⟨nm,ps,.mk o ns so nn mm' l⟩=mv at*;apply Exists.intro;apply And.intro
       ·simp -implicitDefEqProofs [dh,iz,hi,hx',tkv,tkC,hkb,k57,hs1,ja,a5,a9,a11,a12,a14,hge,hnj,hjI,hj1,hj2,hsz,eR,k59,k60,hs2,g1,g2,hs3,k11,hm,hm'];rfl
       ·refine⟨?_,?_,?_⟩<;>first|rfl|simp
     ·rw[if_pos her]at e;cases e;have her':(er !=0)=true:=by simp[her]
      suffices hx: ∃ts',dh false (a8 G false cl yl N iz) ⟨[5,9,10],[(9,none),(10,none)],true⟩ kk mm (N'+1) ⟨[(5,.slc .shared (L.map tkv)),(9,.slc (.own 0) (w.map mcv)),(10,.int .i64 (i:Nat))],⟨O,R⟩,[]⟩=some (.ret,⟨ts',⟨O++[.cells [.str nm,.slc .shared (ps.map vrv),.int .i64 0,.slc .shared [],.int .i64 0,.int .i64 0,.int .i64 0,.slc .shared []],.cells [.int .i64 o,.slc .shared (ns.map .str),.int .i64 so,.int .i64 nn,.int .i64 mm',.slc .shared (avL l)]],R⟩,[]⟩)/\look 2 ts'=.slc .full []/\look 3 ts'=.int .i64 (w.length:Nat)/\look 4 ts'=.int .i64 er by
       obtain⟨ts',t1,t2⟩:=hx;exact⟨_,ts',_,_,t1,hg,.inr ⟨her,rfl,t2⟩⟩
      apply Exists.intro;apply And.intro
      ·simp -implicitDefEqProofs [dh,iz,hi,hx',tkv,tkC,hkb,k57,hs1,ja,a5,a9,a11,a12,a14,hge,hnj,hjI,hj1,hj2,hsz,eR,k59,k60,hs2,g1,g2,her,her'];rfl
      ·refine⟨?_,?_,?_⟩<;>first|rfl|simp
end
end Go.Proofs.Ae
namespace Go.Proofs.Ae
open Go Go.RowKit
theorem mk4 {p:TkP} (h:okT p) {c:UInt8} (hc:ft c=true) (ht:p.2.1=[c]):p.1≠3:=by
 rcases h with⟨d,_,rfl⟩|⟨_,h2,_,_⟩
 ·show(4:Int)≠3;decide
 ·rw[ht]at h2;have h3:=lu ur hc;simp[h3]at h2
theorem mk3 {p:TkP} (h:okT p) (ht:2<=p.2.1.length):p.1≠4:=by
 rcases h with⟨d,_,rfl⟩|⟨_,_,h0,h⟩
 ·simp at ht
 ·have h1:=ye h0;have h2:=congrArg Prod.fst h;simp only[prj]at h2;omega
section
variable {L:List Tk}
theorem yZ (hT:eT L) {i:Nat} (hi:i<L.length):(tkA L i).k=0\/(i+1<L.length/\okT (prj (tkA L i))):=by
 by_cases h:i+1<L.length
 ·exact .inr ⟨h,hT.ok i h⟩
 ·exact .inl (hT.lok.last i (by omega))
theorem vu (hT:eT L) {i:Nat} {b:Bool} (hi:i<L.length) {c:UInt8} (hc:ft c=true):mis L ⟨i,b⟩ 4 [c]=aF L i [c]:=by
 unfold mis aF isS;simp only[];rcases yZ hT hi with h|⟨-,h⟩
 ·simp[h]
 ·by_cases ht:(tkA L i).tx=[c]
  ·have:=mk4 h hc ht;simp only[prj]at this;simp[ht,this]
  ·have:((tkA L i).tx==[c])=false:=by simpa using ht
   simp[this]
theorem Em (hT:eT L) {i:Nat} {b:Bool} (hi:i<L.length) {w:Str} (hw:2<=w.length):mis L ⟨i,b⟩ 3 w=aF L i w:=by
 unfold mis aF isS;simp only[];rcases yZ hT hi with h|⟨-,h⟩
 ·simp[h]
 ·by_cases ht:(tkA L i).tx=w
  ·have:=mk3 h (by show 2<=(tkA L i).tx.length;rw[ht];exact hw);simp only[prj]at this;simp[ht,this]
  ·have:((tkA L i).tx==w)=false:=by simpa using ht
   simp[this]
theorem RU (hT:eT L) {i:Nat} {b:Bool} (hi:i<L.length):iX L ⟨i,b⟩=sF L i:=by
 unfold iX sF;have e: ∀k∈([0,1,2,3]:List Int),mis L ⟨i,b⟩ 3 (snm k)=aF L i (snm k):=fun k hk=>Em hT hi (by
  simp at hk;rcases hk with rfl|rfl|rfl|rfl<;>decide)
 simp only[List.findSome?_cons,List.findSome?_nil,e 0 (by simp),e 1 (by simp),e 2 (by simp),e 3 (by simp)]
theorem RV {i:Nat} {so:Int} (h:sF L i=some so):(tkA L i).k≠0:=by
 obtain⟨x,hx,h⟩:=List.exists_of_findSome?_eq_some h;split at h
 ·rename_i ha
  exact ju ha
 ·cases h
theorem nx1 (hT:eT L) {i:Nat} {b:Bool} (hi:i<L.length) (hk:(tkA L i).k≠0):mnx L ⟨i,b⟩=⟨i+1,b⟩/\i+1<L.length:=by
 have h1:=mr hT.lok hi hk;refine⟨?_,h1⟩;unfold mnx;simp only[Ms.mk.injEq,and_true];omega
theorem vv {h:Nat} {vs:List Vr} {s:Ms} {r:List Vr×Ms} (e:eH L h vs s=some r) (hb:s.b=true):r.2.b=true:=by
 cases h with
 |zero=>simp[eH]at e
 |succ h=>
  unfold eH at e;rw[if_neg (by simp[hb])]at e;cases e;exact hb
theorem En (hT:eT L) {j:Nat} (hj:j<L.length):(eo L (eF L ⟨j,false⟩)).i<L.length/\match sF L j with
  |none=>(eo L (eF L ⟨j,false⟩)).b=true
  |some so=>if nF L (j+1)then eo L (eF L ⟨j,false⟩)=⟨j+2,false⟩/\fU L ⟨j,false⟩=⟨(tkA L (j+1)).tx,so⟩else(eo L (eF L ⟨j,false⟩)).b=true:=by
 have i1:(eF L ⟨j,false⟩).i<L.length:=kJ hj;refine⟨im i1,?_⟩;have hm:=RU (b:=false) hT hj;cases hs:sF L j with
 |none=>
  unfold eo eF mnx;simp only[hm,hs,Option.getD_none];rfl
 |some so=>
  have hk:=RV hs;obtain⟨so0,so4⟩:=Ek hs;have h1:eF L ⟨j,false⟩=⟨j+1,false⟩/\j+1<L.length:=by
   have e:eF L ⟨j,false⟩=mnx L ⟨j,false⟩:=by
    unfold eF;rw[hm,hs];have:decide (so<0)=false:=decide_eq_false (by omega);simp[this]
   rw[e];exact nx1 hT hj hk
  simp only[];cases hn:nF L (j+1)with
  |true=>
   rw[if_pos rfl];have hk1:(tkA L (j+1)).k=1:=of_decide_eq_true hn;constructor
   ·rw[h1.1];unfold eo;have:decide ((tkA L (j+1)).k=1)=true:=hn;simp only[this];exact(nx1 hT h1.2 (by omega)).1
   ·unfold fU;rw[h1.1,hm,hs];simp only[Option.getD_some,Vr.mk.injEq,true_and];omega
  |false=>
   rw[if_neg (by decide),h1.1];unfold eo;have:decide ((tkA L (j+1)).k=1)=false:=hn;simp only[this];rfl
theorem Eo (hT:eT L): ∀(h:Nat) (vs:List Vr) (i:Nat) (r:List Vr×Ms),eH L h vs ⟨i,false⟩=some r->i<L.length->
  r.2.i<L.length/\ ∃r0,hdP L (h+1) vs false i=some r0/\((r0=none/\(r.2.b=true\/aF L r.2.i wR=false))\/(r0=some (r.1,r.2.i)/\r.2.b=false/\aF L r.2.i wR=true))
 |0,vs,i,r,e,_=>by simp[eH]at e
 |h+1,vs,i,r,e,hi=>by
  unfold eH at e;have hm:mis L ⟨i,false⟩ 4 eu=aF L i eu:=vu hT hi rfl;by_cases hc:aF L i eu=true
  ·rw[if_pos ⟨rfl,by rw[hm];exact hc⟩]at e;obtain⟨n1,n2⟩:=nx1 (b:=false) hT hi (ju hc);rw[n1]at e;have hR:aF L i wR=false:=by
    cases h:aF L i wR with
    |false=>rfl
    |true=>
     have t1:=(iH.1 hc).2.2;have t2:=(iH.1 h).2.2;rw[t1]at t2;exact absurd t2 (by decide)
   obtain⟨p1,p2⟩:=En hT n2;have e0:hdP L (h+1+1) vs false i=match sF L (i+1)with
     |none=>some none
     |some so=>if nF L (i+1+1)then hdP L (h+1) (vs++[⟨(tkA L (i+1+1)).tx,so⟩]) false (i+1+2)else some none:=by
    rw[hdP,if_neg (by simp[hR]),if_neg (by simp[hc])];rfl
   rw[e0];cases hs:sF L (i+1)with
   |none=>
    rw[hs]at p2;have hb:=vv e p2;refine⟨?_,none,rfl,.inl ⟨rfl,.inl hb⟩⟩;obtain⟨r',h1,h2⟩: ∃r',eH L h (vs++[fU L ⟨i+1,false⟩]) (eo L (eF L ⟨i+1,false⟩))=some r'/\r'.2=eo L (eF L ⟨i+1,false⟩):=by
     cases h with
     |zero=>simp[eH]at e
     |succ h=>exact⟨_,by rw[eH,if_neg (by simp only[p2];simp)],rfl⟩
    rw[e]at h1;cases h1;rw[h2];exact p1
   |some so=>
    rw[hs]at p2;simp only[]at p2;by_cases hn:nF L (i+1+1)=true
    ·rw[if_pos hn]at p2;simp only[hn,if_true];rw[p2.1,p2.2]at e;exact Eo hT h _ (i+1+2) r e (by have:=p1;rw[p2.1]at this;exact this)
    ·rw[if_neg hn]at p2;simp only[hn,if_false];have hb:=vv e p2;refine⟨?_,none,rfl,.inl ⟨rfl,.inl hb⟩⟩;obtain⟨r',h1,h2⟩: ∃r',eH L h (vs++[fU L ⟨i+1,false⟩]) (eo L (eF L ⟨i+1,false⟩))=some r'/\r'.2=eo L (eF L ⟨i+1,false⟩):=by
      cases h with
      |zero=>simp[eH]at e
      |succ h=>exact⟨_,by rw[eH,if_neg (by simp only[p2];simp)],rfl⟩
     rw[e]at h1;cases h1;rw[h2];exact p1
  ·have hc':aF L i eu=false:=by simpa using hc
   rw[if_neg (by rw[hm,hc'];simp)]at e;cases e;refine⟨hi,?_⟩;by_cases hR:aF L i wR=true
   ·exact⟨some (vs,i),by rw[hdP,if_pos hR],.inr ⟨rfl,rfl,hR⟩⟩
   ·have hR':aF L i wR=false:=by simpa using hR
    exact⟨none,by rw[hdP,if_neg hR,if_pos ⟨rfl,hc'⟩],.inl ⟨rfl,.inr hR'⟩⟩
theorem vw (hT:eT L) {i:Nat} (hi:i<L.length) {c:UInt8} (hc:ft c=true):(ei L ⟨i,false⟩ 4 [c]).i<L.length/\(ei L ⟨i,false⟩ 4 [c]).b=!aF L i [c]/\(aF L i [c]=true->ei L ⟨i,false⟩ 4 [c]=⟨i+1,false⟩):=by
 have hm:mis L ⟨i,false⟩ 4 [c]=aF L i [c]:=vu hT hi hc;refine⟨iY hi _ _,?_,fun h=>?_⟩
 ·unfold ei mnx;simp only[hm,Bool.false_or]
 ·unfold ei;rw[hm,h];exact(nx1 hT hi (ju h)).1
theorem jA {s:Ms} (k:Int) (w:Str) (h:s.b=true):(ei L s k w).b=true:=by
 unfold ei mnx;simp[h]
theorem Ep {s:Ms} (h:s.b=true):(eo L s).b=true:=by
 unfold eo mnx;simp[h]
theorem RX {s:Ms} (h:s.b=true):(eF L s).b=true:=by
 unfold eF mnx;simp[h]
theorem RY (hT:eT L) {j:Nat} (hj:j<L.length) (hR:aF L j wR=true):ei L (ei L ⟨j,false⟩ 4 wR) 4 dK=(ei L ⟨j+1,false⟩ 4 dK)/\j+1<L.length:=by
 have h1:=(vw hT hj (c:=41) rfl).2.2 hR;rw[show wR=[41] from rfl,h1];exact⟨rfl,(nx1 (b:=false) hT hj (ju hR)).2⟩
theorem RZ (hT:eT L) {h i:Nat} {q:Str×List Vr×Ms} (e:gN L h ⟨i,false⟩=some q) (hi:i<L.length):
  (q.2.2.b=true/\hdR L (h+2) i=some none)\/(q.2.2.b=false/\hdR L (h+2) i=some (some (q.1,q.2.1,q.2.2.i))/\q.2.2.i<L.length):=by
 dsimp only[gN]at e;simp only[Option.map_eq_some_iff]at e;obtain⟨r,hr,rfl⟩:=e;have hm1:mis L ⟨i,false⟩ 3 eC=aF L i eC:=Em hT hi (by decide)
 -- a head that is none
 have bad: ∀s3:Ms,s3.b=true->((if mis L s3 4 wR then some ([],s3)else eH L h [fU L s3] (eo L (eF L s3)))=some r)->r.2.b=true:=fun s3 hb hr=>by
  split at hr
  ·cases hr;exact hb
  ·exact vv hr (Ep (RX hb))
 unfold hdR;by_cases c1:aF L i eC=true
 ·have e1:ei L ⟨i,false⟩ 3 eC=⟨i+1,false⟩:=by
   unfold ei;rw[hm1,c1];exact(nx1 hT hi (ju c1)).1
  have i1:=(nx1 (b:=false) hT hi (ju c1)).2;rw[e1]at hr⊢;by_cases c2:nF L (i+1)=true
  ·have hk1:(tkA L (i+1)).k=1:=of_decide_eq_true c2;have e2:eo L ⟨i+1,false⟩=⟨i+2,false⟩:=by
    unfold eo;have:decide ((tkA L (i+1)).k=1)=true:=c2;simp only[this];exact(nx1 hT i1 (by omega)).1
   have i2:=(nx1 (b:=false) hT i1 (by omega)).2;rw[e2]at hr;obtain⟨-,b3,n3⟩:=vw hT i2 (c:=40) rfl;by_cases c3:aF L (i+2) wL=true
   ·rw[if_pos ⟨c1,c2,c3⟩];have e3:ei L ⟨i+2,false⟩ 4 wL=⟨i+3,false⟩:=n3 c3;have i3:=(nx1 (b:=false) hT i2 (ju c3)).2;rw[e3]at hr;have hm3:mis L ⟨i+3,false⟩ 4 wR=aF L (i+3) wR:=vu hT i3 rfl
    -- the parameters
    have key:r.2.i<L.length/\ ∃r0,hdP L (h+2) [] true (i+3)=some r0/\((r0=none/\(r.2.b=true\/aF L r.2.i wR=false))\/(r0=some (r.1,r.2.i)/\r.2.b=false/\aF L r.2.i wR=true)):=by
     rw[hm3]at hr;by_cases c4:aF L (i+3) wR=true
     ·rw[if_pos c4]at hr;cases hr;exact⟨i3,some ([],i+3),by rw[hdP,if_pos c4],.inr ⟨rfl,rfl,c4⟩⟩
     ·rw[if_neg c4]at hr;obtain⟨p1,p2⟩:=En hT i3;have e0:hdP L (h+1+1) [] true (i+3)=match sF L (i+3)with
        |none=>some none
        |some so=>if nF L (i+3+1)then hdP L (h+1) [⟨(tkA L (i+3+1)).tx,so⟩] false (i+3+2)else some none:=by
       rw[hdP,if_neg c4,if_neg (by simp)];rfl
      rw[e0];have stuck:(eo L (eF L ⟨i+3,false⟩)).b=true->r.2.i<L.length/\r.2.b=true:=fun hb=>by
       refine⟨?_,vv hr hb⟩;obtain⟨r',h1,h2⟩: ∃r',eH L h [fU L ⟨i+3,false⟩] (eo L (eF L ⟨i+3,false⟩))=some r'/\r'.2=eo L (eF L ⟨i+3,false⟩):=by
        cases h with
        |zero=>simp[eH]at hr
        |succ h=>exact⟨_,by rw[eH,if_neg (by simp only[hb];simp)],rfl⟩
       rw[hr]at h1;cases h1;rw[h2];exact p1
      cases hs:sF L (i+3)with
      |none=>
       rw[hs]at p2;exact⟨(stuck p2).1,none,rfl,.inl ⟨rfl,.inl (stuck p2).2⟩⟩
      |some so=>
       rw[hs]at p2;simp only[]at p2;by_cases hn:nF L (i+3+1)=true
       ·rw[if_pos hn]at p2;simp only[hn,if_true];rw[p2.1,p2.2]at hr;exact Eo hT h _ (i+3+2) r hr (by have:=p1;rw[p2.1]at this;exact this)
       ·rw[if_neg hn]at p2;simp only[hn,if_false];exact⟨(stuck p2).1,none,rfl,.inl ⟨rfl,.inl (stuck p2).2⟩⟩
    obtain⟨ir,r0,h0,hc⟩:=key;obtain⟨rv,⟨ri,rb⟩⟩:=r;simp only[]at ir hc⊢;rw[h0];simp only[Option.map_some];rcases hc with⟨rfl,hb⟩|⟨rfl,hb,hR⟩
    ·left;refine⟨?_,rfl⟩;rcases hb with hb|hb
     ·exact jA _ _ (jA _ _ hb)
     ·refine jA _ _ ?_;cases rb with
      |true=>exact jA _ _ rfl
      |false=>
       have:=(vw hT ir (c:=41) rfl).2.1;rw[show wR=[41] from rfl]at hb⊢;rw[this,hb];rfl
    ·subst hb;obtain⟨e5,i5⟩:=RY hT ir hR;rw[e5];obtain⟨l6,b6,n6⟩:=vw hT i5 (c:=58) rfl;simp only[Option.bind_some];by_cases c6:aF L (ri+1) dK=true
     ·right;rw[if_pos c6];have e6:ei L ⟨ri+1,false⟩ 4 dK=⟨ri+2,false⟩:=n6 c6;refine⟨by rw[e6],by rw[e6],?_⟩;rw[e6];exact(nx1 (b:=false) hT i5 (ju c6)).2
     ·left;have c6':aF L (ri+1) dK=false:=by simpa using c6
      rw[if_neg c6];refine⟨?_,rfl⟩;rw[show dK=[58] from rfl]at c6'⊢;rw[b6,c6'];rfl
   ·left;rw[if_neg (fun h=>c3 h.2.2)];refine⟨?_,rfl⟩;have c3':aF L (i+2) wL=false:=by simpa using c3
    rw[show wL=[40] from rfl]at c3';refine jA _ _ (jA _ _ (bad _ ?_ hr));rw[show wL=[40] from rfl,b3,c3'];rfl
  ·left;rw[if_neg (fun h=>c2 h.2.1)];refine⟨?_,rfl⟩;refine jA _ _ (jA _ _ (bad _ (jA _ _ ?_) hr));unfold eo mnx;have:decide ((tkA L (i+1)).k=1)=false:=by
    have:=c2;unfold nF at this;simpa using this
   simp[this]
 ·left;rw[if_neg (fun h=>c1 h.1)];refine⟨?_,rfl⟩;have c1':aF L i eC=false:=by simpa using c1
  refine jA _ _ (jA _ _ (bad _ (jA _ _ (Ep ?_)) hr));unfold ei mnx;simp[hm1,c1']
theorem Er (hT:eT L): ∀(h i:Nat) (r:Option Ms),gV L h ⟨i,false⟩=some r->i<L.length-> ∃j,scE L (h+2) i=some j/\match r with
  |some s2=>s2=⟨j,false⟩/\j<L.length
  |none=>j=L.length
 |0,i,r,e,_=>by simp[gV]at e
 |h+1,i,r,e,hi=>by
  unfold gV at e;have hm:mis L ⟨i,false⟩ 4 fh=aF L i fh:=vu hT hi rfl;rw[hm]at e;by_cases hc:aF L i fh=true
  ·rw[if_pos hc]at e;cases e;exact⟨i,by rw[scE,if_neg (by simp[hc])],rfl,hi⟩
  ·have hc':aF L i fh=false:=by simpa using hc
   rw[if_neg hc]at e;by_cases hk:(tkA L i).k=0
   ·rw[if_pos hk]at e;cases e;have:i+1=L.length:=by
     rcases yZ hT hi with h|⟨h1,h2⟩
     ·apply Classical.byContradiction;intro hn;have:=rH (hT.ok i (by omega));simp only[prj]at this;omega
     ·have:=rH h2;simp only[prj]at this;omega
    refine⟨L.length,?_,rfl⟩;rw[scE,if_pos ⟨hi,hc'⟩,this,scE,if_neg (by simp)]
   ·rw[if_neg hk]at e;obtain⟨n1,n2⟩:=nx1 (b:=false) hT hi hk;rw[n1]at e;obtain⟨j,h1,h2⟩:=Er hT h (i+1) r e n2;exact⟨j,by rw[scE,if_pos ⟨hi,hc'⟩];exact h1,h2⟩
theorem Es {t:Nat} (hT:eT L) {H:Nat}: ∀(h:Nat) (w:List Mc) (i:Nat) (r:List Mc×Int),ip t L H h w ⟨i,false⟩=some r->i<L.length->rpm t L (H+2) h w i=some r
 |0,w,i,r,e,_=>by simp[ip]at e
 |h+1,w,i,r,e,hi=>by
  unfold ip at e;unfold rpm;by_cases hk:(tkA L i).k=0
  ·rw[if_pos hk]at e⊢;exact e
  ·rw[if_neg hk]at e⊢;unfold gW at e;simp only[Option.bind_eq_some_iff]at e;obtain⟨q,⟨q0,hq,e1⟩,e⟩:=e;rcases RZ hT hq hi with⟨hb,hd⟩|⟨hb,hd,hl⟩
   ·rw[if_pos hb]at e1;cases e1;rw[if_pos (by simp)]at e;rw[hd];exact e
   ·rw[if_neg (by simp[hb])]at e1;simp only[Option.map_eq_some_iff]at e1;obtain⟨rs,hs,rfl⟩:=e1;rw[hd];simp only[Option.bind_some];obtain⟨nm,ps,⟨ni,nb⟩⟩:=q0;simp only[]at hb hl hs e⊢;subst hb;obtain⟨j,h1,h2⟩:=Er hT H ni rs hs hl;rw[h1];simp only[Option.bind_some];cases rs with
    |none=>
     simp only[]at h2 e;rw[if_pos (by simp)]at e;rw[if_pos (by omega)];exact e
    |some s2=>
     simp only[]at h2 e;obtain⟨rfl,hj⟩:=h2;obtain⟨a1,a2,-,a4,a5⟩:=qc hs hl;simp only[]at a1 a2 a4 a5 e;have hb:=hT.btw (i:=ni) (j:=j) ⟨a2,a1,a4⟩;have hrf:=Ei (t:=t) hb.2;rw[if_neg (by omega),hrf];have hk2:(tkA L j).k≠0:=yp a5;rw[(nx1 (b:=false) hT hj hk2).1]at e;split at e
     ·rename_i he
      rw[if_pos he];exact e
     ·rename_i he
      rw[if_neg he];split at e
      ·rename_i hm
       rw[if_pos hm];exact e
      ·rename_i hm
       rw[if_neg hm];exact Es hT h _ _ r e (nx1 (b:=false) hT hj hk2).2
end
section
variable (L:List Tk)
theorem rP (s:Ms) (k:Int) (w:Str):mis (L.map zT) s k w=mis L s k w:=by unfold mis;rw[iI];rfl
theorem qf (s:Ms):mnx (L.map zT) s=mnx L s:=by unfold mnx;rw[List.length_map]
theorem R7 (s:Ms) (k:Int) (w:Str):ei (L.map zT) s k w=ei L s k w:=by unfold ei;rw[qf,rP]
theorem Et (s:Ms):eo (L.map zT) s=eo L s:=by unfold eo;rw[qf,iI];rfl
theorem Eu (s:Ms):iX (L.map zT) s=iX L s:=by unfold iX;simp only[rP]
theorem y0 (s:Ms):eF (L.map zT) s=eF L s:=by unfold eF;rw[qf,Eu]
theorem Ev (s:Ms):fU (L.map zT) s=fU L s:=by unfold fU;rw[y0,Eu,iI];rfl
theorem Ew: ∀(h:Nat) (vs:List Vr) (s:Ms),eH (L.map zT) h vs s=eH L h vs s
 |0,_,_=>rfl
 |h+1,vs,s=>by unfold eH;rw[rP,qf,Ev,y0,Et,Ew h]
theorem R8 (h:Nat) (s:Ms):gN (L.map zT) h s=gN L h s:=by
 dsimp only[gN];simp only[R7,Et,rP,Ew,Ev,y0,iI];rfl
theorem Ey: ∀(h:Nat) (s:Ms),gV (L.map zT) h s=gV L h s
 |0,_=>rfl
 |h+1,s=>by unfold gV;rw[rP,iI,qf,Ey h];rfl
theorem Sa (i j:Nat):dtx (L.map zT) i j=dtx L i j:=by
 unfold dtx;rw[<-List.map_drop,<-List.map_take,List.map_map];rfl
theorem Sb (t H:Nat) (s:Ms):gW t (L.map zT) H s=gW t L H s:=by
 unfold gW;simp only[R8,Ey,Sa,qf]
theorem y6 (t H:Nat): ∀(h:Nat) (w:List Mc) (s:Ms),ip t (L.map zT) H h w s=ip t L H h w s
 |0,_,_=>rfl
 |h+1,w,s=>by
  unfold ip;rw[iI,Sb];simp only[y6 t H h];rfl
end
theorem Sd {t:Nat} {s:Str} (hs:jV s):((rkR t s).2.2.2≠0/\gh t s=([],(rkR t s).2.2.2))\/((rkR t s).2.2.2=0/\eT (rkR t s).1/\rpm t (rkR t s).1 ((rkR t s).1.length+1+2) ((rkR t s).1.length+1) [] 0=some (gh t s)):=by
 have hl:=hs.len;rcases Dk (t:=t) hs with⟨h1,h2⟩|⟨h1,h2,h3⟩
 ·left;rw[vr hl,<-mB (t:=t) hl];exact⟨h1,h2⟩
 ·right;have h0:(lx s).2=0:=by rw[<-mB (t:=t) hl];exact h1
  obtain⟨l0,ln,col,e1,e2⟩:=yT (t:=t) hl h0;have hT:eT (rkR t s).1:=by rw[e1];exact Ry hs e2
  have hz:=yU (t:=t) hl h0;have hlen:(rkR t s).1.length=(tkR t s).1.length:=by
   have:=congrArg List.length hz;simpa using this
  refine⟨by rw[vr hl];exact h0,hT,?_⟩;refine Es hT _ [] 0 _ ?_ hT.lok.pos;rw[hlen,<-y6,hz,y6];exact h2
end Go.Proofs.Ae
namespace Go.Proofs.Ae
open Go Go.RowKit
set_option maxRecDepth 100000
section
variable {L:List Tk}
theorem Ez (hT:eT L): ∀(h:Nat) (vs:List Vr) (fi:Bool) (i:Nat) (r:List Vr×Nat),hdP L h vs fi i=some (some r)->(∀v∈vs,v.nm.length<=65537)->(∀v∈r.1,v.nm.length<=65537)/\r.1.length<=vs.length+h
 |0,vs,fi,i,r,e,_=>by simp[hdP]at e
 |h+1,vs,fi,i,r,e,hv=>by
  unfold hdP at e;split at e
  ·cases e;exact⟨hv,by show vs.length<=_;omega⟩
  ·split at e
   ·cases e
   ·generalize(if fi=true then i else i+1)=j at e;cases hs:sF L j with
    |none=>rw[hs]at e;cases e
    |some so=>
     rw[hs]at e;simp only[]at e;split at e
     ·have:=Ez hT h _ _ _ _ e (fun v hvv=>by
       rcases List.mem_append.1 hvv with h|h
       ·exact hv v h
       ·simp only[List.mem_singleton]at h;subst h;exact hT.tx _)
      simp only[List.length_append,List.length_cons,List.length_nil]at this;exact⟨this.1,by omega⟩
     ·cases e
theorem Se (hT:eT L) {h i:Nat} {q:Str×List Vr×Nat} (e:hdR L h i=some (some q)):q.1.length<=65537/\(∀v∈q.2.1,v.nm.length<=65537)/\q.2.1.length<=h:=by
 unfold hdR at e;split at e
 ·simp only[Option.map_eq_some_iff]at e;obtain⟨r,hr,e⟩:=e;cases r with
  |none=>cases e
  |some r=>
   simp only[Option.bind_some]at e;split at e
   ·cases e;have:=Ez hT _ _ _ _ _ hr (by simp);exact⟨hT.tx _,this.1,by simpa using this.2⟩
   ·cases e
 ·cases e
end
section
variable {G:Gls} {cl:a7} {yl:a7} {N:Nat} {L:List Tk}
def rpV (r:List Mc×Int):AV:=.tup [.slc .shared ((if r.2=0 then r.1 else []).map mcv),.int .i64 (if r.2=0 then 0 else(r.1.length:Nat)),.int .i64 r.2]
theorem Sf (s:Str) (p1 p2 e:Int) (he:e≠0) (h56: ∀M,cl 56 [.str s] M=some (.tup [.slc .shared (L.map tkv),.int .i64 p1,.int .i64 p2,.int .i64 e],M)):
  dn G false cl yl N c21 [.str s]=some (rpV ([],e),none):=by
 have he':(e !=0)=true:=by simp[he]
 unfold rpV;simp only[he,if_false];simp -implicitDefEqProofs [c21,h56,he,he']
theorem Sg (s:Str) (p1 p2:Int) (hT:eT L) (hbL:L.length<big) {t H h:Nat} (c:yY cl L t H) (hHN:H<N) (hhN:h<N) {r:List Mc×Int} (hr:rpm t L H h [] 0=some r) (h56: ∀M,cl 56 [.str s] M=some (.tup [.slc .shared (L.map tkv),.int .i64 p1,.int .i64 p2,.int .i64 0],M)):
  dn G false cl yl N c21 [.str s]=some (rpV r,none):=by
 obtain⟨ex,ts',O',R',j1,hg,j2⟩:=RT (G:=G) (yl:=yl) (N:=N) hT hbL c hHN 0 1 h [] 0 r [] [.app 0 0 0] (.own 0) N hr hhN hT.lok.pos uB ⟨rfl,.inl ⟨rfl,rfl⟩⟩;simp -implicitDefEqProofs at j1;unfold rpV;rcases j2 with⟨h0,rfl,s3,l9,hs3,hA⟩|⟨hne,rfl,l2,l3,l4⟩
 ·subst hs3;simp only[h0,if_true];have hz:=nT r.1;rcases hA with⟨hn,rfl⟩|rfl
  ·have hnil:r.1=[]:=List.eq_nil_of_length_eq_zero hn;rw[hnil]at l9⊢;simp -implicitDefEqProofs at l9;simp -implicitDefEqProofs [c21,h56,j1,l9]
  ·simp -implicitDefEqProofs [c21,h56,j1,l9]
 ·simp only[hne,if_false];simp -implicitDefEqProofs [c21,h56,j1,l2,l3,l4]
end
section
variable {t:Nat}
noncomputable abbrev B6 (t N k:Nat):a7:=BW (GG t) (dg (J6 t)) N k
variable {N k:Nat} {L:List Tk}
theorem z58 (hb:L.length<big):H58 (B6 t N (k+1)) L:=fun i w M=>fZ (cf:=c58) (by unfold dL;split<;>rfl) rfl rfl rfl rfl (RI i w hb) M
theorem Sh:yW (B6 t N (k+1)) L:=fun i M=>fZ (cf:=ph) (by unfold dL;split<;>rfl) rfl rfl rfl rfl (RJ i) M
theorem z53 (x:Int) (M:Mem):B6 t N (k+1) 53 [.int .i64 x] M=some (.str (snm x),M):=fZ (cf:=c53) (by unfold dL;split<;>rfl) rfl rfl rfl rfl (vl x) M
theorem Si (hb:L.length<big) (hN:5<N):yX (B6 t N (k+2)) L:=fun i M=>fZ (cf:=qS) (by unfold dL;split<;>rfl) rfl rfl rfl rfl (RK i hN (fun i w M=>z58 (k:=k) hb i w M) (fun x M=>z53 (k:=k) x M)) M
theorem Sj (hT:eT L) (hb:L.length<big) {H:Nat} (hH:H<1000000) (hN:H+6<N):yY (B6 t N (k+4)) L t H where
 h57:=fun i r hi e=>by
  obtain⟨cs,n,h1,h2,h3⟩:=RO (G:=GG t) (cl:=B6 t N (k+3)) (yl:=YW (GG t) (dg (J6 t)) N (k+3)) (N:=N) hb (z58 hb) Sh (Si hb (by omega)) e (by omega) (by omega) hi;exact⟨cs,n,fun M=>fZ (cf:=c57) (by unfold dL;split<;>rfl) rfl rfl rfl rfl h1 M,h2,h3⟩
 h58:=z58 hb
 h59:=fun i j hbt M=>dS (du (fun _ _=>CZ _ _) ((L.drop i).take (j - i)) (by repeat first|exact .here|refine .there ?_ rfl) (by exact(hT.btw hbt).1) (by exact Dc _) (by rfl) M)
 h60:=fun i j hbt=>⟨_,_,fun M=>dS (du fS (dtx L i j) (by repeat first|exact .here|refine .there ?_ rfl) (by exact(hT.btw hbt).2) (by rfl) (by rfl) M)⟩
 h11:=fun w d M hg hd=>dS (du Cq (w,d) (by repeat first|exact .here|refine .there ?_ rfl) (by have:=hg.len;exact⟨by show w.length<big;unfold big;omega,hd⟩) (by exact Cu (.own 0) (by simp) w d) (by rfl) M)
 hok:=fun i q j hi e hbt he=>by
  obtain⟨h1,h2,h3⟩:=Se hT e;have hlen:=(hT.btw hbt).2;have hk:=Df (t:=t) hlen;refine⟨?_,?_,fun v hv=>?_,?_⟩
  ·show q.1.length<big;unfold big;omega
  ·show q.2.1.length<big;unfold big;omega
  ·have:=h2 v hv;unfold big;omega
  ·show bk (rfS t (dtx L q.2.2 j)).1<=big;rw[Ei hlen];unfold big;omega
theorem Sk (t:Nat) (s:Str) (hs:jV s):eX Tryz.prog (GG t) 21 [.str s] (rpV (gh t s),none):=by
 have hlen:=D5 (t:=t) s;have hb:(rkR t s).1.length<big:=by unfold big;omega
 have b56: ∀M,B6 t 2000000 5 56 [.str s] M=some (.tup [.slc .shared ((rkR t s).1.map tkv),.int .i64 (rkR t s).2.1,.int .i64 (rkR t s).2.2.1,.int .i64 (rkR t s).2.2.2],M):=fun M=>dS (du fS s (by repeat first|exact .here|refine .there ?_ rfl) (by exact trivial) (by rfl) (by rfl) M);refine mZ (T:=TW (dg (J6 t))) fp kis dz IL (jr j6) ⟨2000000,5,false,?_⟩;rcases Sd (t:=t) hs with⟨h1,h2⟩|⟨h1,hT,h3⟩
 ·rw[h2];exact Sf s _ _ _ h1 b56
 ·rw[h1]at b56;exact Sg s _ _ hT hb (Sj (k:=1) hT hb (by omega) (by omega)) (by omega) (by omega) h3 b56
noncomputable abbrev J7 (t:Nat):List (Nat×(List AV->dC)):=(21,spR (fun s:Str=>[.str s]) (fun s=>(rpV (gh t s),none)) jV)::J6 t
theorem j7:dP Tryz.prog (GG t) (dg (J7 t)):=by
 refine fl j6 fun ags r hr=>?_;obtain⟨s,rfl,hs,rfl⟩:=gy hr;exact Sk t s hs
end
end Go.Proofs.Ae
namespace Go.Proofs.Ae
open Go Go.RowKit
def EA:dH:=(.reg [⟨some 4,(.mov (.const (.bool false))),none⟩])
def EB:dH:=(.seq (.reg [⟨some 17,(.mov (.tmp 0)),none⟩,⟨some 18,(.call (.fn 8) [(.tmp 17)]),none⟩,⟨some 19,(.un .not (.tmp 18)),none⟩,⟨some 20,(.mov (.tmp 19)),none⟩,⟨some 21,(.mov (.tmp 1)),some (20,false)⟩,⟨some 22,(.len 0 (.tmp 21)),some (20,false)⟩,⟨some 23,(.bin .gtr (.tmp 22) (.const (.int .i64 2000))),some (20,false)⟩,⟨some 24,(.pick (.tmp 20) (.const (.bool true)) (.tmp 23)),none⟩]) (.cond (.tmp 24) (.seq (.reg [⟨some 25,(.call (.fn 9) []),none⟩,⟨some 4,(.mov (.tmp 25)),none⟩]) .ret) .skip))
def EC:dH:=(.reg [⟨some 27,(.mov (.tmp 0)),none⟩,⟨some 28,(.call (.fn 17) [(.tmp 27)]),none⟩,⟨some 26,(.mov (.tmp 28)),none⟩,⟨some 29,(.extr (.tmp 26) 0),none⟩,⟨some 30,(.extr (.tmp 26) 1),none⟩,⟨some 5,(.mov (.tmp 29)),none⟩,⟨some 6,(.mov (.tmp 30)),none⟩])
def ED:dH:=(.reg [⟨some 32,(.mov (.tmp 5)),none⟩,⟨some 33,(.call (.fn 18) [(.tmp 32)]),none⟩,⟨some 31,(.mov (.tmp 33)),none⟩,⟨some 34,(.extr (.tmp 31) 0),none⟩,⟨some 35,(.extr (.tmp 31) 1),none⟩,⟨some 7,(.mov (.tmp 34)),none⟩,⟨some 8,(.mov (.tmp 35)),none⟩])
def EE:dH:=(.reg [⟨some 37,(.mov (.tmp 6)),none⟩,⟨some 38,(.call (.fn 19) [(.tmp 37)]),none⟩,⟨some 36,(.mov (.tmp 38)),none⟩,⟨some 39,(.extr (.tmp 36) 0),none⟩,⟨some 40,(.extr (.tmp 36) 1),none⟩,⟨some 9,(.mov (.tmp 39)),none⟩,⟨some 10,(.mov (.tmp 40)),none⟩])
def EF:dH:=(.reg [⟨some 42,(.mov (.tmp 1)),none⟩,⟨some 43,(.call (.fn 20) [(.tmp 42)]),none⟩,⟨some 41,(.mov (.tmp 43)),none⟩,⟨some 44,(.extr (.tmp 41) 0),none⟩,⟨some 45,(.extr (.tmp 41) 1),none⟩,⟨some 46,(.extr (.tmp 41) 2),none⟩,⟨some 11,(.mov (.tmp 44)),none⟩,⟨some 12,(.mov (.tmp 45)),none⟩,⟨some 13,(.mov (.tmp 46)),none⟩])
def EG:dH:=(.reg [⟨some 48,(.mov (.tmp 1)),none⟩,⟨some 49,(.call (.fn 21) [(.tmp 48)]),none⟩,⟨some 47,(.mov (.tmp 49)),none⟩,⟨some 50,(.extr (.tmp 47) 0),none⟩,⟨some 51,(.extr (.tmp 47) 1),none⟩,⟨some 52,(.extr (.tmp 47) 2),none⟩,⟨some 14,(.mov (.tmp 50)),none⟩,⟨some 15,(.mov (.tmp 51)),none⟩,⟨some 16,(.mov (.tmp 52)),none⟩])
def y7:dH:=(.seq (.reg [⟨some 53,(.mov (.tmp 7)),none⟩,⟨some 54,(.mov (.tmp 9)),none⟩,⟨some 55,(.bin .neq (.tmp 53) (.tmp 54)),none⟩,⟨some 56,(.mov (.tmp 55)),none⟩,⟨some 57,(.mov (.tmp 8)),some (56,false)⟩,⟨some 58,(.mov (.tmp 10)),some (56,false)⟩,⟨some 59,(.bin .neq (.tmp 57) (.tmp 58)),some (56,false)⟩,⟨some 60,(.pick (.tmp 56) (.const (.bool true)) (.tmp 59)),none⟩,⟨some 61,(.mov (.tmp 60)),none⟩,⟨some 62,(.mov (.tmp 12)),some (61,false)⟩,⟨some 63,(.mov (.tmp 15)),some (61,false)⟩,⟨some 64,(.bin .neq (.tmp 62) (.tmp 63)),some (61,false)⟩,⟨some 65,(.pick (.tmp 61) (.const (.bool true)) (.tmp 64)),none⟩,⟨some 66,(.mov (.tmp 65)),none⟩,⟨some 67,(.mov (.tmp 13)),some (66,false)⟩,⟨some 68,(.mov (.tmp 16)),some (66,false)⟩,⟨some 69,(.bin .neq (.tmp 67) (.tmp 68)),some (66,false)⟩,⟨some 70,(.pick (.tmp 66) (.const (.bool true)) (.tmp 69)),none⟩,⟨some 71,(.mov (.tmp 70)),none⟩,⟨some 72,(.mov (.tmp 11)),some (71,false)⟩,⟨some 73,(.isnil 4 true (.tmp 72)),some (71,false)⟩,⟨some 74,(.mov (.tmp 16)),some (71,false)⟩,⟨some 75,(.bin .eql (.tmp 74) (.const (.int .i64 0))),some (71,false)⟩,⟨some 76,(.eqb true (.tmp 73) (.tmp 75)),some (71,false)⟩,⟨some 77,(.pick (.tmp 71) (.const (.bool true)) (.tmp 76)),none⟩]) (.cond (.tmp 77) (.seq (.reg [⟨some 4,(.mov (.const (.bool false))),none⟩]) .ret) .skip))
def y8:dH:=(.reg [⟨some 78,(.mov (.tmp 16)),none⟩,⟨some 79,(.bin .neq (.tmp 78) (.const (.int .i64 0))),none⟩,⟨some 80,(.mov (.tmp 79)),none⟩,⟨some 81,(.mov (.tmp 11)),some (80,false)⟩,⟨some 82,(.mov (.tmp 14)),some (80,false)⟩,⟨some 83,(.call (.fn 14) [(.tmp 81),(.tmp 82)]),some (80,false)⟩,⟨some 84,(.pick (.tmp 80) (.const (.bool true)) (.tmp 83)),none⟩,⟨some 85,(.mov (.tmp 84)),none⟩,⟨some 86,(.call (.fn 9) []),some (85,true)⟩,⟨some 87,(.pick (.tmp 85) (.tmp 86) (.const (.bool false))),none⟩,⟨some 4,(.mov (.tmp 87)),none⟩])
def y9:dH:=.ret
def rQ:dH:=(.seq y7 (.seq y8 y9))
def rR:dH:=(.seq ED (.seq EE (.seq EF (.seq EG rQ))))
theorem Sl:c4.body=(.seq EA (.seq EB (.seq EC rR))):=rfl
theorem dQ.old {O O':List Obj} {R R':List Arr} {id:Nat} {a:Option Nat} {w:List Mc} (h:dQ O R id a w) (k:Old O O') (k':Old R R'):dQ O' R' id a w:=by
 cases h with
 |nil h=>exact .nil (k _ _ h)
 |own h hr=>exact .own (k _ _ h) (k' _ _ hr)
structure Cs4 (cl:a7) (l:List Mc) (s:Str) (t:Nat):Prop where
 h8: ∀M,cl 8 [.slc .shared (l.map mcv)] M=some (.bool (sme l),M)
 h9: ∀M,cl 9 [] M=some (.bool true,M)
 h17:l.length<=5-> ∀O R,∃X Y a w,cl 17 [.slc .shared (l.map mcv)] ⟨O,R⟩=some (.tup [.ptr O.length 0,.slc (.own R.length) (w.map mcv)],⟨O++X,R++Y⟩)/\dQ (O++X) (R++Y) O.length a w/\Gd w/\Wf w/\w.length<=l.length/\ ∀d∈w,d∈l
 h18: ∀w O R id a,dQ O R id a w->Gd w->Wf w-> ∃O' R',cl 18 [.ptr id 0] ⟨O,R⟩=some (.tup [.str (gG w).1,.int .i64 (gG w).2],⟨O',R'⟩)/\Old O O'/\Old R R'
 h19: ∀w a M,Gd w->Wf w->(∀d∈w,d∈l)->cl 19 [.slc (.own a) (w.map mcv)] M=some (.tup [.str (gG w).1,.int .i64 (gG w).2],M)
 h20:jV s-> ∀O R,∃v n O' R',cl 20 [.str s] ⟨O,R⟩=some (.tup [v,.int .i64 n,.int .i64 (gh t s).2],⟨O',R'⟩)/\rK O R (gh t s) v n O' R'
 h21:jV s-> ∀M,cl 21 [.str s] M=some (rpV (gh t s),M)
 h14: ∀w O R id a sw,dQ O R id a w->Gd w->sw≠ .full->Gw (cl 14 [.ptr id 0,.slc sw (w.map mcv)] ⟨O,R⟩) (.bool true) O R
section
variable {G:Gls} {cl:a7} {yl:a7} {N:Nat}
theorem Sm {l:List Mc} {s:Str} {t:Nat} (h:Cs4 cl l s t) {O R O1:_} {R1:List Arr} {ts:dx} {r:List Mc×Int} {tx:Str} {e:Int} {v:AV} {n:Int}
  (l7:look 7 ts=.str tx) (l8:look 8 ts=.int .i64 e) (l9:look 9 ts=.str tx) (l10:look 10 ts=.int .i64 e) (l11:look 11 ts=v) (l12:look 12 ts=.int .i64 n) (l13:look 13 ts=.int .i64 r.2)
  (l14:look 14 ts=.slc .shared ((if r.2=0 then r.1 else []).map mcv)) (l15:look 15 ts=.int .i64 (if r.2=0 then 0 else(r.1.length:Nat))) (l16:look 16 ts=.int .i64 r.2) (hp:rK O R r v n O1 R1):
  ∃(M':Mem) (ts':dx),a8 G false cl yl N rQ ⟨ts,⟨O1,R1⟩,[]⟩=some (.ret,⟨ts',M',[]⟩)/\look 4 ts'=.bool true:=by
 have h9:=h.h9;obtain⟨o1,r1,hp⟩:=hp;rcases hp with⟨h0,rfl,rfl,⟨a,hs,-⟩,hg⟩|⟨hne,rfl,rfl⟩
 ·obtain⟨X,Y,k14⟩:=h.h14 r.1 O1 R1 _ a .shared hs hg (by simp);rw[h0]at l13 l14 l15 l16;simp only[if_true]at l14 l15;refine⟨⟨O1++X,R1++Y⟩,?_⟩;apply Exists.intro;apply And.intro
  ·simp -implicitDefEqProofs [rQ,y7,y8,y9,l7,l8,l9,l10,l11,l12,l13,l14,l15,l16,k14,h9,dB];rfl
  ·first|rfl|simp
 ·simp only[hne,if_false]at l14 l15;have hne1:(r.2 !=0)=true:=by simp[hne]
  have hne2:(r.2==0)=false:=by simp[hne]
  refine⟨⟨O1,R1⟩,?_⟩;apply Exists.intro;apply And.intro
  ·simp -implicitDefEqProofs [rQ,y7,y8,y9,l7,l8,l9,l10,l11,l12,l13,l14,l15,l16,h9,dB,hne,hne1,hne2];rfl
  ·first|rfl|simp
theorem Sn {l:List Mc} {s:Str} {t:Nat} (h:Cs4 cl l s t) {w:List Mc} (hg:Gd w) (hw:Wf w) (hm: ∀d∈w,d∈l) (hs:jV s) {b:Nat} {ab:Option Nat} {O:List Obj} {R:List Arr} {ts:dx} {a0:Nat}
  (sb:dQ O R b ab w) (l1:look 1 ts=.str s) (l5:look 5 ts=.ptr b 0) (l6:look 6 ts=.slc (.own a0) (w.map mcv)):
  ∃(M':Mem) (ts':dx),a8 G false cl yl N rR ⟨ts,⟨O,R⟩,[]⟩=some (.ret,⟨ts',M',[]⟩)/\look 4 ts'=.bool true:=by
 obtain⟨O1,R1,k18,o1,r1⟩:=h.h18 w O R b ab sb hg hw;have k19:=fun M=>h.h19 w a0 M hg hw hm;obtain⟨v,n,O2,R2,k20,hp⟩:=h.h20 hs O1 R1;have k21:=h.h21 hs;unfold rpV at k21;have mid: ∃ts2:dx,a8 G false cl yl N rR ⟨ts,⟨O,R⟩,[]⟩=a8 G false cl yl N rQ ⟨ts2,⟨O2,R2⟩,[]⟩/\look 7 ts2=.str (gG w).1/\look 8 ts2=.int .i64 (gG w).2/\look 9 ts2=.str (gG w).1/\look 10 ts2=.int .i64 (gG w).2/\look 11 ts2=v/\look 12 ts2=.int .i64 n/\look 13 ts2=.int .i64 (gh t s).2/\
   look 14 ts2=.slc .shared ((if(gh t s).2=0 then(gh t s).1 else []).map mcv)/\look 15 ts2=.int .i64 (if(gh t s).2=0 then 0 else((gh t s).1.length:Nat))/\look 16 ts2=.int .i64 (gh t s).2:=by
  generalize gh t s=r at*;generalize gG w=f at*;generalize(List.map mcv (if r.2=0 then r.1 else []))=xs at*;generalize(if r.2=0 then(0:Int)else((r.1.length:Nat):Int))=ix at*;apply Exists.intro;apply And.intro
  ·simp -implicitDefEqProofs [rR,ED,EE,EF,EG,l1,l5,l6,k18,k19,k20,k21];rfl
  ·refine⟨?_,?_,?_,?_,?_,?_,?_,?_,?_,?_⟩<;>first|rfl|simp
 obtain⟨ts2,m1,m7,m8,m9,m10,m11,m12,m13,m14,m15,m16⟩:=mid;rw[m1];exact Sm h m7 m8 m9 m10 m11 m12 m13 m14 m15 m16 hp
theorem ev4 (l:List Mc) (s:Str) {t:Nat} (h:Cs4 cl l s t):dn G false cl yl N c4 [.slc .shared (l.map mcv),.str s]=some (.bool true,none):=by
 have h8:=h.h8;have h9:=h.h9
 suffices hx: ∃M,dr G false cl yl N c4 [.slc .shared (l.map mcv),.str s] ⟨[],[]⟩=some (.bool true,M)by
  obtain⟨M,hM⟩:=hx;have harg:eh [.slc .shared (l.map mcv),.str s]=some [.slc .shared (l.map mcv),.str s]:=rfl;unfold dn;rw[harg];simp only[hM];rfl
 cases c1:sme l with
 |false=>
  rw[c1]at h8;refine⟨⟨[],[]⟩,?_⟩;simp -implicitDefEqProofs [c4,h8,h9]
 |true=>
  rw[c1]at h8;by_cases hlen:(2000:Int)<(s.length:Int)
  ·refine⟨⟨[],[]⟩,?_⟩;simp -implicitDefEqProofs [c4,h8,h9,hlen]
  ·have hl:l.length<=5:=by unfold sme at c1;simp at c1;exact c1.1
   obtain⟨X,Y,a,w,k17,sb,hg,hw,hn,hm⟩:=h.h17 hl [] [];simp only[List.nil_append,List.length_nil]at k17 sb;have mid: ∃ts2:dx,a8 G false cl yl N c4.body ⟨frame 0 [.slc .shared (l.map mcv),.str s],⟨[],[]⟩,[]⟩=a8 G false cl yl N rR ⟨ts2,⟨X,Y⟩,[]⟩/\look 1 ts2=.str s/\look 5 ts2=.ptr 0 0/\look 6 ts2=.slc (.own 0) (w.map mcv):=by
    apply Exists.intro;apply And.intro
    ·rw[Sl];simp -implicitDefEqProofs [EA,EB,EC,h8,hlen,k17];rfl
    ·refine⟨?_,?_,?_⟩<;>first|rfl|simp
   obtain⟨ts2,m1,n1,n5,n6⟩:=mid;obtain⟨M',ts',z1,z2⟩:=Sn (G:=G) (yl:=yl) h hg hw hm (Pa (by omega)) sb n1 n5 n6;refine⟨M',?_⟩;unfold dr;rw[m1,z1];simp -implicitDefEqProofs [mM,ow,z2,c4]
end
end Go.Proofs.Ae
namespace Go.Proofs.Ae
open Go Go.RowKit
set_option maxRecDepth 100000
section
variable {t N:Nat}
theorem So (k:Nat):fw Tryz.prog (GG t) (BW (GG t) (dg (J7 t)) N k):=(je (T:=TW (dg (J7 t))) fp kis dz (jr j7) k false).1
def s4b (f:Nat):Bool:=Nat.beq f 19||Nat.beq f 21
noncomputable def K4 (t N:Nat):a7:=mD (GG t) false N 20 c20 (K20 t N) (Y2 t N 1000) (mD (GG t) false N 18 c18 (K18 t N) (YW (GG t) (dg (T4 t)) N 1000) (lA s4b (BW (GG t) (dg (J7 t)) N 1000) (BP t N 1001)))
theorem Sq:fw Tryz.prog (GG t) (K4 t N):=
 Dl fp kis IK Pl (je (T:=TW (dg (T2 t))) fp kis dz (jr uR) 1000 false).2 (Dl fp kis II Qd (je (T:=TW (dg (T4 t))) fp kis dz (jr yD) 1000 false).2 (xO (So 1000) (Cv 1001).1))
theorem vz {f:Nat} {ags:List AV} {M:Mem} (h20:Nat.beq f 20=false) (h18:Nat.beq f 18=false) (h:s4b f=false):K4 t N f ags M=BP t N 1001 f ags M:=by
 unfold K4;rw[oc h20,oc h18,xP h]
theorem cs4 (l:List Mc) (s:Str) (hl: ∀d∈l,OkM d) (hN:big<N):Cs4 (K4 t N) l s t:=by
 have hN':4294967296<N:=hN;have hbN: ∀d∈l,bk d.bd<N/\d.ps.length<N:=fun d hd=>by
  have h1:=(hl d hd).bd;have h2:=(hl d hd).ps;unfold big at h1 h2;omega
 refine⟨fun M=>?_,fun M=>?_,fun h5 O R=>?_,fun w O R id a hs hg hw=>?_,fun w a M hg hw hm=>?_,fun hs O R=>?_,fun hs M=>?_,fun w O R id a sw hs hg hsw=>?_⟩
 ·exact(vz rfl rfl rfl).trans (dS (k:=1000) (du xK l (by repeat first|exact .here|refine .there ?_ rfl) (by exact hl) (by rfl) (by rfl) M))
 ·exact(vz rfl rfl rfl).trans (dS (k:=1000) (du xD () (by repeat first|exact .here|refine .there ?_ rfl) (by exact trivial) (by rfl) (by rfl) M))
 ·obtain⟨X,Y,a,w,h1,h2,h3,h4,h6,h7⟩:=M7 (G:=GG t) (cl:=BP t N 1000) (yl:=YP t N 1000) (N:=N) l h5 hl (by omega) (cs3 l hl (by omega) hbN) O R;refine⟨X,Y,a,w,?_,h2,h4,h6.wf,h7,h6.mem⟩;rw[vz rfl rfl rfl,BP,dG (cf:=c17) (by unfold dL;split<;>rfl) rfl rfl rfl];exact h1
 ·unfold K4;rw[oc rfl,Dm];exact x18 hg hw hs (by omega)
 ·unfold K4;rw[oc rfl,oc rfl,uC rfl];exact dS (k:=999) (du xK w (by repeat first|exact .here|refine .there ?_ rfl) (by exact⟨DX hg hw,fun m hm'=>(hl m (hm m hm')).bd⟩) (by rfl) (by rfl) M)
 ·unfold K4;rw[Dm];exact x20 hN s hs O R
 ·unfold K4;rw[oc rfl,oc rfl,uC rfl];exact dS (k:=999) (du fS s (by repeat first|exact .here|refine .there ?_ rfl) (by exact hs) (by rfl) (by rfl) M)
 ·rw[vz rfl rfl rfl];exact p14 (k:=997) sw hsw hs hg (by omega)
theorem Sr (l:List Mc) (s:Str) (hl: ∀d∈l,OkM d):eX Tryz.prog (GG t) 4 [.slc .shared (l.map mcv),.str s] (.bool true,none):=by
 have hr:=ev4 (G:=GG t) (cl:=K4 t (big+100)) (yl:=Y2 t (big+100) 1000) (N:=big+100) l s (cs4 l s hl (by omega));intro U bs es w args hG hV hfr;exact qC (kX fp kis Sq (je (T:=TW (dg (T2 t))) fp kis dz (jr uR) 1000 false).2).1 ok4 hr hG hV hfr
end
end Go.Proofs.Ae
