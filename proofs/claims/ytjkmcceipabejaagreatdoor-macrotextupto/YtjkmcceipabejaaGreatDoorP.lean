/- Further functions: what they answer, and what that means. -/
import Derived.Test.YtjkmcceipabejaaGreatDoorO
set_option linter.unusedSimpArgs false
set_option linter.unusedVariables false
set_option linter.unusedSectionVars false
namespace Go.Proofs.Ae
open Go Go.RowKit
def prj (t:Tk):Int×Str×Int:=(t.k,t.tx,t.v)
def lx:Str->List (Int×Str×Int)×Int
 |[]=>([],0)
 |c::s=>if fq c then lx s else if ft c then((4,[c],0)::(lx s).1,(lx s).2)else if de c then
   (if(dw (c::s.takeWhile de)).2=0 then(prj (dw (c::s.takeWhile de)).1::(lx (s.drop (s.takeWhile de).length)).1,(lx (s.drop (s.takeWhile de).length)).2)else([],(dw (c::s.takeWhile de)).2))
  else([],3)
 termination_by s=>s.length
 decreasing_by all_goals (simp;try omega)
def yc (s:Str) (i:Nat) (l:List Tk) (i':Nat) (l':List Tk):Prop:=
 (∃c,s[i]? =some c/\de c=false/\i'=i+1/\((fq c=true/\l'=l)\/(fq c=false/\ft c=true/\ ∃ln col,l'=l++[⟨4,[c],0,ln,col⟩])))\/
 (∃ln col,0<dE de (s.drop i)/\i'=i+dE de (s.drop i)/\(dw ((s.take i').drop i)).2=0/\l'=l++[{(dw ((s.take i').drop i)).1 with ln:=ln,col:=col}])
def CP (s:Str) (i:Nat) (l:List Tk) (e:Ex) (s':St):Prop:=
 (e=.exit 0/\i=s.length/\s'.mks=[]/\look 3 s'.ts=.ptr 0 0/\ ∃ln col,look 5 s'.ts=.slc (.own 0) ((l++([⟨0,[],0,ln,col⟩]:List Tk)).map tkv)/\ ∃X,s'.m=⟨.cells [.int .i64 0,.int .i64 0]::X,[dA (l.length+1) 121 5]⟩)\/
 (e=.ret/\i<s.length/\s'.mks=[]/\look 2 s'.ts=.slc .full []/\look 3 s'.ts=.ptr 0 0/\ ∃er ln col,er≠0/\look 4 s'.ts=.int .i64 er/\(∃X,s'.m=⟨.cells [.int .i64 ln,.int .i64 col]::X,[dA l.length 121 5]⟩)/\
  (de (s.getD i 0)=true->er=(dw ((s.take (i+dE de (s.drop i))).drop i)).2)/\(de (s.getD i 0)=false->er=3/\fq (s.getD i 0)=false/\ft (s.getD i 0)=false))
section
variable {G:Gls} {cl:a7} {yl:a7} {N:Nat}
theorem Oe (h:rn cl) (s:Str) (hs:s.length<=65536) (i ls:Nat) (a b:Int) (l:List Tk) (hi:i<=s.length) (hls:ls<=i) (ha:1<=a) (ha2:a<=i+1) (hl:l.length<=i):
  fk (fun e s'=>(e=.normal/\ ∃(i' ls':Nat) (a' b':Int) (l':List Tk),i<i'/\i'<=s.length/\ls'<=i'/\1<=a'/\a'<=i'+1/\l'.length<=i'/\eI false anT 3 1 s'=ST s i' ls' a' b' l'/\yc s i l i' l')\/(e≠ .normal/\CP s i l e s'))
   (a8 G false cl yl N gx (ST s i ls a b l)):=by
 have w1:dj .i64 ((i:Int) - (ls:Int))=(i:Int) - (ls:Int):=dJ (by omega) (by omega);have w2:dj .i64 ((i:Int) - (ls:Int)+1)=(i:Int) - (ls:Int)+1:=dJ (by omega) (by omega);have w3:dj .i64 ((i:Int)+1)=((i+1:Nat):Int):=dF (by omega);have w4:dj .i64 (a+1)=a+1:=dJ (by omega) (by omega);have b1:(l.length+1)*48<=140737488355328:=by omega
 have b2:l.length+1<=140737488355328:=by omega
 have hr:l=[]\/ ¬l=[]:=by cases l<;>simp
 have hp:(0:Int)<=(i:Int):=by omega
 generalize hcol:(i:Int) - (ls:Int)+1=col at w2;by_cases hend:i=s.length
 ·subst hend;simp -implicitDefEqProofs [ST,gx,w1,hcol,w2,dA,b1,b2,hr,tkC];exact .inl ⟨rfl,rfl,rfl,rfl,a,col,by simp[tkv,tkC],[.map kwM,.cells [.int .i64 a,.int .i64 col]],by simp[dA]⟩
 ·have hlt:i<s.length:=by omega
  have hne:((i:Int)==(s.length:Int))=false:=by rw[beq_eq_false_iff_ne];omega
  have hx:s[i]=s[i]:=rfl;generalize hc:s[i]=c at hx;clear hx;have hget:s[i]? =some c:=by rw[List.getElem?_eq_getElem hlt,hc]
  by_cases hblk:fq c=true
  ·have hnr:=lu uq hblk;by_cases h10:c=10
   ·have e10:(((c.toNat:Nat):Int)==10)=true:=by rw[h10];rfl
    simp -implicitDefEqProofs [ST,gx,w1,hcol,w2,w3,w4,hne,hp,hlt,hc,h.h140,hblk,e10,anT,gS,jq];exact⟨i+1,by omega,by omega,i+1,by omega,a+1,by omega,by omega,col,l,by omega,by simp[dA],.inl ⟨c,hget,hnr,rfl,.inl ⟨hblk,rfl⟩⟩⟩
   ·have e10: ¬(((c.toNat:Nat):Int)=10):=by
     intro hh;have:c.toNat=(10:UInt8).toNat:=by show c.toNat=10;omega
     exact h10 (UInt8.toNat_inj.1 this)
    have e10':(((c.toNat:Nat):Int)==10)=false:=by rw[beq_eq_false_iff_ne];exact e10
    simp -implicitDefEqProofs [ST,gx,w1,hcol,w2,w3,w4,hne,hp,hlt,hc,h.h140,hblk,e10',anT,gS,jq];exact⟨i+1,by omega,by omega,ls,by omega,a,by omega,by omega,col,l,by omega,by simp[dA],.inl ⟨c,hget,hnr,rfl,.inl ⟨hblk,rfl⟩⟩⟩
  ·have hblk':fq c=false:=by simpa using hblk
   have hidx:=BF c;have h141:=h.h141 c;simp only[gJ]at h141 hidx;by_cases hmrk:ft c=true
   ·have hnr:=lu ur hmrk;rw[hmrk]at hidx;have hidx':=of_decide_eq_true hidx;have htk:(s.take (i+1)).drop i=[c]:=by
     have:s.take (i+1)=s.take i++[c]:=by rw[List.take_add_one,hget];rfl
     rw[this,List.drop_append_of_le_length (by simp;omega),List.drop_of_length_le (by simp;omega)];rfl
    have hi1:i+1<=s.length:=by omega
    have hi0:i<=i+1:=by omega
    have hp1:(0:Int)<=(i:Int)+1:=by omega
    simp -implicitDefEqProofs [ST,gx,w1,hcol,w2,w3,w4,hne,hp,hlt,hc,h.h140,hblk',h141,hidx',anT,gS,jq,htk,hi1,hi0,hp1,eR,b1,b2,hr,dA,tkC];exact⟨i+1,by omega,by omega,ls,by omega,a,by omega,by omega,col,l++[⟨4,[c],0,a,col⟩],by simp;omega,by simp[tkv,tkC],.inl ⟨c,hget,hnr,rfl,.inr ⟨hblk',hmrk,a,col,rfl⟩⟩⟩
   ·have hmrk':ft c=false:=by simpa using hmrk
    rw[hmrk']at hidx;have hidx': ¬0<=iQ [61,40,41,44,58,59] c:=of_decide_eq_false hidx;have hidx'':decide (iQ [61,40,41,44,58,59] c>=0)=false:=hidx;have hgetD:s.getD i 0=c:=by simp[hget]
    by_cases hrun:de c=true
    ·have hdrop:s.drop i=c::s.drop (i+1):=by rw[<-hc];exact List.drop_eq_getElem_cons hlt
     have hn0:0<dE de (s.drop i):=by unfold dE;rw[hdrop,List.takeWhile_cons,hrun];simp
     have hn1:dE de (s.drop i)<=s.length - i:=by have:=lr de (s.drop i);unfold dE;simpa using this
     have h143:=fun M=>h.h143 (s.drop i) M (by simp;omega);have w5:dj .i64 ((i:Int)+(dE de (s.drop i):Int))=((i+dE de (s.drop i):Nat):Int):=by rw[dJ (by omega) (by omega)];omega
     have hp2:(0:Int)<=((i+dE de (s.drop i):Nat):Int):=by omega
     have ht0:(s.take (i+dE de (s.drop i))).drop i≠[]:=by
      intro hh;have:=congrArg List.length hh;simp at this;omega
     have ht1:((s.take (i+dE de (s.drop i))).drop i).length<=65536:=by simp;omega
     have h144:=fun M=>h.h144 ((s.take (i+dE de (s.drop i))).drop i) M ht0 ht1;have hnx: ∀i' l',i'=i+dE de (s.drop i)->(dw ((s.take i').drop i)).2=0->(∃ln col,l'=l++[{(dw ((s.take i').drop i)).1 with ln:=ln,col:=col}])->yc s i l i' l':=fun i' l' e1 e2 ⟨ln,co,e3⟩=>.inr ⟨ln,co,hn0,e1,e2,e3⟩;have her: ∀er,er=(dw ((s.take (i+dE de (s.drop i))).drop i)).2->(de (s.getD i 0)=true->er=(dw ((s.take (i+dE de (s.drop i))).drop i)).2):=fun _ h _=>h;have hle1:i+dE de (s.drop i)<=s.length:=by omega
     have hle2:i<=i+dE de (s.drop i):=by omega
     obtain⟨n,hnn⟩: ∃n,n=dE de (s.drop i):=⟨_,rfl⟩
     rw[<-hnn]at hn0 hn1 w5 hp2 ht0 ht1 h144 hle1 hle2;simp only[<-hnn]at h143 hnx her;obtain⟨t,htt⟩: ∃t,t=(s.take (i+n)).drop i:=⟨_,rfl⟩
     rw[<-htt]at ht0 ht1 her;simp only[<-htt]at h144;have htt':=htt.symm;have hp3:(0:Int)<=(i:Int)+(n:Int):=by omega
     have htn:((i:Int)+(n:Int)).toNat=i+n:=by omega
     by_cases he:(dw t).2=0
     ·have he':((dw t).2 !=0)=false:=by simp[he]
      simp -implicitDefEqProofs [ST,gx,w1,hcol,w2,w3,w4,w5,hne,hp,hp2,hlt,hc,h.h140,hblk',h141,hidx',hidx'',h.h142,hrun,h143,htt',h144,he,hp3,htn,anT,gS,jq,hi,hle1,hle2,eR,b1,b2,hr,dA,tkC];exact⟨i+n,by omega,by omega,ls,by omega,a,by omega,by omega,col,l++[{(dw t).1 with ln:=a,col:=col}],by simp;omega,by simp[tkv,tkC],hnx (i+n) _ rfl (by rw[<-htt];exact he) ⟨a,col,by rw[<-htt]⟩⟩
     ·have he':((dw t).2 !=0)=true:=by simp[he]
      simp -implicitDefEqProofs [ST,gx,w1,hcol,w2,w3,w4,w5,hne,hp,hp2,hlt,hc,h.h140,hblk',h141,hidx',hidx'',h.h142,hrun,h143,htt',h144,he,he',hp3,htn,anT,gS,jq,hi,hle1,hle2,eR,b1,b2,hr,dA,tkC];exact .inr ⟨rfl,hlt,rfl,rfl,rfl,(dw t).2,a,col,he,rfl,⟨_,by rw[ut]⟩,fun _=>(by rw[<-hnn,<-htt]),fun hh=>(by rw[hgetD,hrun]at hh;cases hh)⟩
    ·have hrun':de c=false:=by simpa using hrun
     simp -implicitDefEqProofs [ST,gx,w1,hcol,w2,w3,w4,hne,hp,hlt,hc,h.h140,hblk',h141,hidx',hidx'',h.h142,hrun',anT,gS,jq,hi,eR,b1,b2,hr,dA,tkC];exact .inr ⟨rfl,hlt,rfl,rfl,rfl,3,a,col,by simp,rfl,⟨_,by rw[ut]⟩,fun hh=>(by rw[hgetD,hrun']at hh;cases hh),fun _=>⟨rfl,by rw[hgetD];exact hblk',by rw[hgetD];exact hmrk'⟩⟩
end
theorem nY:lx []=([],0):=by rw[lx]
theorem yd {c:UInt8} {s:Str} (h:fq c=true):lx (c::s)=lx s:=by rw[lx,if_pos h]
theorem uM {c:UInt8} {s:Str} (h0:fq c=false) (h:ft c=true):lx (c::s)=((4,[c],0)::(lx s).1,(lx s).2):=by
 rw[lx,if_neg (by simp[h0]),if_pos h]
theorem qb {c:UInt8} {s:Str} (h:de c=true):lx (c::s)=(if(dw (c::s.takeWhile de)).2=0 then(prj (dw (c::s.takeWhile de)).1::(lx (s.drop (s.takeWhile de).length)).1,(lx (s.drop (s.takeWhile de).length)).2)else([],(dw (c::s.takeWhile de)).2)):=by
 have h0:fq c=false:=by
  cases hb:fq c with
  |false=>rfl
  |true=>rw[lu uq hb]at h;cases h
 have h1:ft c=false:=by
  cases hb:ft c with
  |false=>rfl
  |true=>rw[lu ur hb]at h;cases h
 rw[lx,if_neg (by simp[h0]),if_neg (by simp[h1]),if_pos h]
theorem uN {c:UInt8} {s:Str} (h0:fq c=false) (h1:ft c=false) (h:de c=false):lx (c::s)=([],3):=by
 rw[lx,if_neg (by simp[h0]),if_neg (by simp[h1]),if_neg (by simp[h])]
def LxI (s:Str) (i:Nat) (l:List Tk):Prop:= ∀ts e,lx (s.drop i)=(ts,e)->e=(lx s).2/\(e=0->(lx s).1=l.map prj++ts)
theorem uO {s:Str} {i i':Nat} {l l':List Tk} (h:LxI s i l) (hi':i'<=s.length) (hn:yc s i l i' l'):LxI s i' l':=by
 intro ts e he;rcases hn with⟨c,hc,hr,rfl,hl⟩|⟨ln,col,hn0,h1,h2,rfl⟩
 ·have hlt:i<s.length:=(List.getElem?_eq_some_iff.1 hc).1;have hd:s.drop i=c::s.drop (i+1):=by
   rw[List.drop_eq_getElem_cons hlt]
   congr 1
   exact(List.getElem?_eq_some_iff.1 hc).2
  rcases hl with⟨hb,rfl⟩|⟨hb,hm,ln,col,rfl⟩
  ·exact h ts e (by rw[hd,yd hb];exact he)
  ·have:=h ((4,[c],0)::ts) e (by rw[hd,uM hb hm,he]);refine⟨this.1,fun h0=>?_⟩;rw[this.2 h0];simp[prj]
 ·rw[h1,rp]at h2;have hlt:i<s.length:=by
   apply Classical.byContradiction;intro hh;rw[List.drop_eq_nil_of_le (by omega)]at hn0;simp[dE]at hn0
  have hd:=List.drop_eq_getElem_cons hlt;generalize s[i]=c at hd;have hr:de c=true:=by
   cases hr:de c with
   |true=>rfl
   |false=>
    rw[hd]at hn0;simp[dE,List.takeWhile_cons,hr]at hn0
  have htw:(s.drop i).takeWhile de=c::(s.drop (i+1)).takeWhile de:=by rw[hd,List.takeWhile_cons,hr];rfl
  have hcut:dE de (s.drop i)=((s.drop (i+1)).takeWhile de).length+1:=by unfold dE;rw[htw];rfl
  rw[htw]at h2;have he':lx ((s.drop (i+1)).drop ((s.drop (i+1)).takeWhile de).length)=(ts,e):=by
   rw[List.drop_drop,show i+1+((s.drop (i+1)).takeWhile de).length=i' from by omega];exact he
  have hrw:(s.take i').drop i=c::(s.drop (i+1)).takeWhile de:=by rw[h1,rp,htw]
  have:=h (prj (dw (c::(s.drop (i+1)).takeWhile de)).1::ts) e (by rw[hd,qb hr,if_pos h2,he']);refine⟨this.1,fun h0=>?_⟩;rw[this.2 h0,hrw];simp[prj]
def jv (s:Str) (l:List Tk) (e:Int):Prop:=
 if s.length<=65536 then e=(lx s).2/\(e=0-> ∃l0 ln col,l=l0++[⟨0,[],0,ln,col⟩]/\l0.map prj=(lx s).1)else e=2
section
variable {G:Gls} {cl:a7} {yl:a7} {N:Nat}
theorem Og (h:rn cl) (s:Str) (hN:s.length<N):
  ∃(l:List Tk) (p1 p2 e:Int),dn G false cl yl N c54 [.str s]=some (.tup [.slc .shared (l.map tkv),.agg [.int .i64 p1,.int .i64 p2],.int .i64 e],none)/\jv s l e/\l.length<=65537:=by
 unfold jv;by_cases hs:s.length<=65536
 ·simp only[if_pos hs];obtain⟨e,⟨ts,M,mks⟩,h1,h2,i,l,hi,hll,hpr,hend⟩:=jp (mu:=false) (step:=a8 G false cl yl N gx) (an:=anT) (kk:=3) (m:=1)
   (fun k st=> ∃(i ls:Nat) (a b:Int) (l:List Tk),i<=s.length/\k=s.length - i/\ls<=i/\1<=a/\a<=i+1/\l.length<=i/\LxI s i l/\st=ST s i ls a b l)
   (fun e s'=> ∃(i:Nat) (l:List Tk),i<=s.length/\l.length<=i/\LxI s i l/\CP s i l e s')
   (by
    rintro k _ ⟨i,ls,a,b,l,hi,rfl,hls,ha,ha2,hl,hpr,rfl⟩;obtain⟨e,s',g1,g2⟩:=(Oe (G:=G) (yl:=yl) (N:=N) h s hs i ls a b l hi hls ha ha2 hl).out;rw[g1];rcases g2 with⟨he,i',ls',a',b',l',k1,k2,k3,k4,k5,k6,k7,k8⟩|⟨he,hE⟩
    ·exact .inl ⟨he,s.length - i',by omega,i',ls',a',b',l',k2,rfl,k3,k4,k5,k6,uO hpr k2 k8,k7⟩
    ·exact .inr ⟨he,i,l,hi,hl,hpr,hE⟩)
   N _ (ST s 0 0 1 1 []) ⟨0,0,1,1,[],Nat.zero_le _,rfl,Nat.le_refl _,by omega,by omega,by simp,by
    intro ts e he;rw[List.drop_zero]at he;rw[he];simp,rfl⟩ (by omega)
  have hlen: ¬(65536:Int)<(s.length:Int):=by omega
  simp[ST,anT,dA]at h1;rcases hend with⟨rfl,rfl,rfl,h5,ln,col,h6,X,h7⟩|⟨rfl,hlt,rfl,h5,h6,er,ln,col,hne,h7,⟨X,h8⟩,h9,h10⟩
  ·have hz:=hpr [] 0 (by rw[List.drop_length,nY]);refine⟨l++[⟨0,[],0,ln,col⟩],0,0,0,?_,⟨hz.1,fun _=>⟨l,ln,col,rfl,by rw[hz.2 rfl];simp⟩⟩,by simp;omega⟩;simp only[]at h5 h6 h7;subst h7;simp -implicitDefEqProofs [c54,hlen,h.h139,gS,h1,h5,h6,dA]
  ·refine⟨[],ln,col,er,?_,⟨?_,fun h0=>absurd h0 hne⟩,by simp⟩
   ·simp only[]at h5 h6 h7 h8;subst h8;simp -implicitDefEqProofs [c54,hlen,h.h139,gS,h1,h5,h6,h7,dA]
   ·have hd:=List.drop_eq_getElem_cons hlt;have hg:s.getD i 0=s[i]:=by simp[List.getD_eq_getElem?_getD,List.getElem?_eq_getElem hlt]
    rw[hg]at h9 h10;generalize s[i]=c at hd h9 h10;cases hr:de c with
    |true=>
     have htw:(s.drop i).takeWhile de=c::(s.drop (i+1)).takeWhile de:=by rw[hd,List.takeWhile_cons,hr];rfl
     have h9':=h9 hr;rw[rp,htw]at h9';exact(hpr _ er (by rw[hd,qb hr,if_neg (by rw[<-h9'];exact hne),h9'])).1
    |false=>
     obtain⟨rfl,hb,hm⟩:=h10 hr;exact(hpr [] 3 (by rw[hd,uN hb hm hr])).1
 ·simp only[if_neg hs];refine⟨[],0,0,2,?_,rfl,by simp⟩;have hlen:(65536:Int)<(s.length:Int):=by omega
  simp -implicitDefEqProofs [c54,hlen]
end
abbrev TkP:=Int×Str×Int
def okT (p:TkP):Prop:=(∃c,ft c=true/\p=(4,[c],0))\/(p.2.1≠[]/\p.2.1.all de=true/\(dw p.2.1).2=0/\prj (dw p.2.1).1=p)
theorem CQ {t:Str} (h:(dw t).2=0):(dw t).1.tx=t:=by
 unfold dw at h⊢;split
 ·rfl
 ·rename_i h1
  rw[if_neg h1]at h;split
  ·rfl
  ·rename_i h2
   rw[if_neg h2]at h;split
   ·rename_i h3
    rw[if_pos h3]at h;cases h
   ·rename_i h3
    rw[if_neg h3]at h;split
    ·rename_i h4
     rw[if_pos h4]at h;cases h
    ·rfl
theorem ye {t:Str} (h:(dw t).2=0):(dw t).1.k=1\/(dw t).1.k=2\/(dw t).1.k=3:=by
 unfold dw at h⊢;split
 ·exact .inr (.inr rfl)
 ·rename_i h1
  rw[if_neg h1]at h;split
  ·exact .inr (.inl rfl)
  ·rename_i h2
   rw[if_neg h2]at h;split
   ·rename_i h3
    rw[if_pos h3]at h;cases h
   ·rename_i h3
    rw[if_neg h3]at h;split
    ·rename_i h4
     rw[if_pos h4]at h;cases h
    ·exact .inl rfl
theorem rH {p:TkP} (h:okT p):p.1=1\/p.1=2\/p.1=3\/p.1=4:=by
 rcases h with⟨c,_,rfl⟩|⟨_,_,h0,h⟩
 ·exact .inr (.inr (.inr rfl))
 ·have:=ye h0;have e:(dw p.2.1).1.k=p.1:=by
   have:=congrArg Prod.fst h;simpa[prj] using this
  omega
theorem CR: ∀(n:Nat) (s:Str),s.length<=n-> ∀p∈(lx s).1,okT p:=by
 intro n
 induction n with
 |zero=>
  intro s hs p hp;have:s=[]:=List.eq_nil_of_length_eq_zero (by omega);subst this;rw[nY]at hp;cases hp
 |succ n ih=>
  intro s hs p hp;cases s with
  |nil=>rw[nY]at hp;cases hp
  |cons c s=>
   simp only[List.length_cons]at hs;cases hb:fq c with
   |true=>rw[yd hb]at hp;exact ih s (by omega) p hp
   |false=>
    cases hm:ft c with
    |true=>
     rw[uM hb hm]at hp;rcases List.mem_cons.1 hp with rfl|hp
     ·exact .inl ⟨c,hm,rfl⟩
     ·exact ih s (by omega) p hp
    |false=>
     cases hr:de c with
     |false=>rw[uN hb hm hr]at hp;cases hp
     |true=>
      rw[qb hr]at hp;by_cases h0:(dw (c::s.takeWhile de)).2=0
      ·rw[if_pos h0]at hp;rcases List.mem_cons.1 hp with rfl|hp
       ·have ht:=CQ h0;have e:(prj (dw (c::s.takeWhile de)).1).2.1=c::s.takeWhile de:=ht;refine .inr ⟨by rw[e];simp,?_,by rw[e];exact h0,by rw[e]⟩;rw[e,List.all_cons,hr,BH];rfl
       ·exact ih _ (by simp;omega) p hp
      ·rw[if_neg h0]at hp;cases hp
def CS (r:Str):Prop:=r=[]\/ ∃c s,r=c::s/\de c=false
theorem Oh {t r:Str} (ht:t.all de=true) (hr:CS r):(t++r).takeWhile de=t:=by
 induction t with
 |nil=>
  rcases hr with rfl|⟨c,s,rfl,h⟩
  ·rfl
  ·simp[List.takeWhile_cons,h]
 |cons c t ih=>
  simp only[List.all_cons,Bool.and_eq_true]at ht;simp[List.takeWhile_cons,ht.1,ih ht.2]
theorem Oi {p:TkP} (h:okT p) {r:Str} (hr:CS r):lx (p.2.1++r)=(p::(lx r).1,(lx r).2):=by
 rcases h with⟨c,hm,rfl⟩|⟨hne,ha,h0,he⟩
 ·have hb:fq c=false:=by
   have:ltR ft fq=true:=by kernel_rfl
   exact lu this hm
  exact uM hb hm
 ·cases htx:p.2.1 with
  |nil=>exact absurd htx hne
  |cons c t=>
   rw[htx]at ha h0 he;simp only[List.all_cons,Bool.and_eq_true]at ha;rw[List.cons_append,qb ha.1,Oh ha.2 hr,if_pos h0,he];simp
theorem fN (a b:Str) (l:List Str):Lib.join (a::b::l) [32]=a++32::Lib.join (b::l) [32]:=by
 simp[Lib.join,List.intercalate,List.intersperse]
theorem Oj {p:TkP} (h:okT p):lx p.2.1=([p],0):=by
 have:=Oi h (r:=[]) (.inl rfl);rw[List.append_nil,nY]at this;exact this
end Go.Proofs.Ae
namespace Go.Proofs.Ae
open Go Go.RowKit
set_option maxRecDepth 100000
section
variable {t:Nat}
theorem uP (t:Nat) (s:Str): ∃r:List Tk×Int×Int×Int,eX Tryz.prog (GG t) 54 [.str s] (.tup [.slc .shared (r.1.map tkv),.agg [.int .i64 r.2.1,.int .i64 r.2.2.1],.int .i64 r.2.2.2],none)/\jv s r.1 r.2.2.2/\r.1.length<=65537:=by
 obtain⟨l,p1,p2,e,h1,h2,hl⟩:=Og (G:=GG t) (yl:=(eY (GG t) TT (s.length+100) false 2).2) (N:=s.length+100) (BO (t:=t) s.length 0) s (by omega);exact⟨(l,p1,p2,e),mZ (T:=TT) fp kis dz I5 oT ⟨s.length+100,2,false,h1⟩,h2,hl⟩
noncomputable def tkR (t:Nat) (s:Str):List Tk×Int×Int×Int:=Classical.choose (uP t s)
theorem Ok (s:Str):eX Tryz.prog (GG t) 54 [.str s] (.tup [.slc .shared ((tkR t s).1.map tkv),.agg [.int .i64 (tkR t s).2.1,.int .i64 (tkR t s).2.2.1],.int .i64 (tkR t s).2.2.2],none):=(Classical.choose_spec (uP t s)).1
theorem CT (s:Str):jv s (tkR t s).1 (tkR t s).2.2.2:=(Classical.choose_spec (uP t s)).2.1
theorem yf (s:Str):(tkR t s).1.length<=65537:=(Classical.choose_spec (uP t s)).2.2
theorem mB {s:Str} (hs:s.length<=65536):(tkR t s).2.2.2=(lx s).2:=by
 have:=CT (t:=t) s;unfold jv at this;rw[if_pos hs]at this;exact this.1
theorem rI {s:Str} (hs:s.length<=65536) (h0:(lx s).2=0): ∃l0 ln col,(tkR t s).1=l0++[⟨0,[],0,ln,col⟩]/\l0.map prj=(lx s).1:=by
 have h:=CT (t:=t) s;unfold jv at h;rw[if_pos hs]at h;exact h.2 (by rw[h.1];exact h0)
theorem yg {s:Str} (hs:s.length<=65536) (h0:(lx s).2=0):Lok (tkR t s).1:=by
 obtain⟨l0,ln,col,h1,h2⟩:=rI (t:=t) hs h0;rw[h1];refine⟨by simp,fun i hi=>?_⟩;simp at hi;subst hi;unfold tkA;rw[List.getD_eq_getElem?_getD,List.getElem?_append_right (Nat.le_refl _)];simp
theorem Ol {p:TkP} (hp:okT p) (hl:p.2.1.length<=65536): ∃x,fY p.2.1 (tkR t p.2.1).1 (tkR t p.2.1).2.2.2=(x,true)/\prj x=p:=by
 have h1:=Oj hp;have h0:(lx p.2.1).2=0:=by rw[h1]
 obtain⟨l0,ln,col,e1,e2⟩:=rI (t:=t) hl h0;rw[h1]at e2;have e3:=mB (t:=t) hl;rw[h0]at e3;cases l0 with
 |nil=>simp at e2
 |cons x l0=>
  cases l0 with
  |cons y l0=>simp at e2
  |nil=>
   simp at e2;refine⟨x,?_,e2⟩;rw[e1,e3];have:x.tx=p.2.1:=by rw[<-e2];rfl
   simp[fY,this]
noncomputable abbrev T0 (t:Nat):List (Nat×(List AV->dC)):=(54,spR (fun s:Str=>[.str s]) (fun s=>(.tup [.slc .shared ((tkR t s).1.map tkv),.agg [.int .i64 (tkR t s).2.1,.int .i64 (tkR t s).2.2.1],.int .i64 (tkR t s).2.2.2],none)) (fun _=>True))::N6b
end
theorem yh {t:Nat}:NoO (dg (T0 t)):=by
 intro f hf ags;simp only[prF,List.mem_cons,List.not_mem_nil,or_false]at hf;rcases hf with rfl|rfl|rfl|rfl|rfl|rfl|rfl|rfl|rfl|rfl|rfl|rfl|rfl|rfl|rfl|rfl|rfl|rfl|rfl|rfl|rfl|rfl|rfl|rfl|rfl|rfl|rfl|rfl|rfl|rfl|rfl|rfl<;>(unfold dL;split<;>rfl)
section
variable {G:Gls} {cl:a7} {yl:a7} {N:Nat}
variable {p:Nat} {sp:Sp} {L:List Tk} {O:List Obj} {R:List Arr} {s:Ps}
abbrev zz7:List AV:=[.slc .full [],.int .i64 0,.slc .full [],.int .i64 0,.int .i64 0,.int .i64 0,.slc .full []]
theorem Om (h:Rd O p sp L s) (r:Nd×Ps) (h81: ∀O',FrN O.length p O O'->Rd O' p sp L s->RN (cl 81 [.ptr p 0] ⟨O',R⟩) r.1 p sp L r.2 O' R):
  ∃s1 s2 O' Y,dr G false cl yl N tH [.ptr p 0] ⟨O,R⟩=some (.agg (.slc .full []::icN s1 s2 r.1),⟨O',R++Y⟩)/\Fro p O O'/\Rd O' p sp L r.2:=by
 have hp:p<O.length:=(List.getElem?_eq_some_iff.1 h).1;obtain⟨s1,s2,O2,Y,k2,f2,r2⟩:=h81 (O++[.cells zz7]) (fun i hi _=>List.getElem?_append_left hi) (h.app _);obtain⟨O9,e9,q1,q2,q3,q4⟩:=fM (.cells (.slc .full []::icN s1 s2 r.1)) hp f2 r2;refine⟨s1,s2,O9,Y,?_,q1,q2⟩;unfold icN at k2 e9 q4⊢
 try simp -implicitDefEqProofs at k2
 simp -implicitDefEqProofs [tH,k2,e9,q3,q4]
def lF (L:List Tk) (st:Ps):Ps:=if(tkA L st.i).k≠0 then wrg st 3 else st
def pfL (r:Nd×Ps) (L:List Tk):Nd×Int:=if(lF L r.2).e≠0 then(ndZ,(lF L r.2).e)else if grt r.1≠0 then(ndZ,grt r.1)else(r.1,0)
theorem On (str:Str) (p1 p2 e:Int) (r:Nd×Ps) (hr:r.2.i<L.length) (h54: ∀M,cl 54 [.str str] M=some (.tup [.slc .shared (L.map tkv),.agg [.int .i64 p1,.int .i64 p2],.int .i64 e],M))
  (h175:e=0-> ∀O R,Rd O 3 .shared L ⟨0,0,0⟩-> ∃s1 s2 O' Y,cl 175 [.ptr 3 0] ⟨O,R⟩=some (.agg (.slc .full []::icN s1 s2 r.1),⟨O',R++Y⟩)/\Fro 3 O O'/\Rd O' 3 .shared L r.2)
  (h132:rF cl 3 .shared L) (h133:my cl 3 .shared L) (h94:e=0->(lF L r.2).e=0-> ∀s1 s2 M,cl 94 [.agg (icN s1 s2 r.1)] M=some (.int .i64 (grt r.1),M)):
  ∃q1 q2,dn G false cl yl N c78 [.str str,.fn 175 [] []]=some (.tup [.agg (.slc .shared []::ndc (if e≠0 then(ndZ,e)else pfL r L).1),.agg [.int .i64 q1,.int .i64 q2],.int .i64 (if e≠0 then(ndZ,e)else pfL r L).2],none):=by
 have hz:ndc ndZ=[.int .i64 0,.slc .shared [],.int .i64 0,.int .i64 0,.int .i64 0,.slc .shared []]:=rfl;by_cases he:e=0
 ·subst he;have hRd:Rd [.cells zz7,.cells [.int .i64 0,.int .i64 0],.cells [.int .i64 p1,.int .i64 p2],.cells (rdc .shared L ⟨0,0,0⟩)] 3 .shared L ⟨0,0,0⟩:=rfl;obtain⟨s1,s2,O1,Y1,k1,f1,r1⟩:=h175 rfl _ [] hRd;have a0:O1[0]? =some (.cells zz7):=f1.old rfl (by decide);have a1:O1[1]? =some (.cells [.int .i64 0,.int .i64 0]):=f1.old rfl (by decide);obtain⟨X,k2⟩:=h132 (O1++[.cells (.slc .full []::icN s1 s2 r.1)]) ([]++Y1) r.2 (r1.app _) hr;have rB:=(r1.app [.cells (.slc .full []::icN s1 s2 r.1)]).app X;have a0':=dD (dD a0 [.cells (.slc .full []::icN s1 s2 r.1)]) X;have a1':=dD (dD a1 [.cells (.slc .full []::icN s1 s2 r.1)]) X;have a11:(O1++[Obj.cells (.slc .full []::icN s1 s2 r.1)]++X)[O1.length]? =some (.cells (.slc .full []::icN s1 s2 r.1)):=dD (by simp) X;have hl1:4<=O1.length:=by have:=f1.len;simpa using this
  obtain⟨O2,hO2⟩: ∃O2,O1++[Obj.cells (.slc .full []::icN s1 s2 r.1)]++X=O2:=⟨_,rfl⟩
  rw[hO2]at k2 rB a0' a1' a11;rw[List.nil_append]at k1 k2;rw[if_neg (by simp)];unfold pfL lF;unfold lF at h94;obtain⟨tt,htt⟩: ∃tt,tkA L r.2.i=tt:=⟨_,rfl⟩
  rw[htt]at k2 h94⊢;unfold tkv tkC at k2;unfold rdc at k1;unfold icN at k1 a11 k2;simp -implicitDefEqProofs at k1;by_cases hk:tt.k=0
  ·have hk':(tt.k !=0)=false:=by simp[hk]
   rw[hk]at k2 h94;simp only[hk,ne_eq,not_true_eq_false,if_false]at h94⊢;by_cases hE:r.2.e=0
   ·have h94':=h94 trivial hE;have rb0:=rB;unfold Rd rdc at rb0;rw[hE]at rb0;unfold icN at h94';obtain⟨O5,e5,g5,n5,m5⟩:=fe (.cells zz7) (List.getElem?_eq_some_iff.1 a0').1;have d1:O5[1]? =some (.cells [.int .i64 0,.int .i64 0]):=by rw[n5 1 (by decide)];exact a1'
    obtain⟨O6,e6,g6,n6,m6⟩:=fe (.cells [.int .i64 0,.int .i64 0]) (List.getElem?_eq_some_iff.1 d1).1;have d0:O6[0]? =some (.cells zz7):=by rw[n6 0 (by decide)];exact g5
    obtain⟨O7,e7,g7,n7,m7⟩:=fe (.cells (.slc .full []::icN s1 s2 r.1)) (List.getElem?_eq_some_iff.1 a0').1;have d2:O7[1]? =some (.cells [.int .i64 0,.int .i64 0]):=by rw[n7 1 (by decide)];exact a1'
    obtain⟨O8,e8,g8,n8,m8⟩:=fe (.cells [.int .i64 0,.int .i64 0]) (List.getElem?_eq_some_iff.1 d2).1;have d3:O8[0]? =some (.cells (.slc .full []::icN s1 s2 r.1)):=by rw[n8 0 (by decide)];exact g7
    clear n5 n6 n7 n8 m5 m6 m7 m8;refine⟨0,0,?_⟩;simp only[hE,not_true_eq_false,if_false];by_cases hg:grt r.1=0
    ·simp only[hg,not_true_eq_false,if_false];rw[hg]at h94';unfold icN at e7 d3;obtain⟨n,m⟩:=r;cases n with
     |mk op ns so nn mm l=>
     simp -implicitDefEqProofs [c78,h54,k1,k2,hk',rb0,a11,h94',a0',e7,d2,e8,d3,g8,ndc];exact⟨rfl,rfl,rfl,rfl,rfl,rfl⟩
    ·have hg':(grt r.1 !=0)=true:=by simp[hg]
     simp only[hg,not_false_eq_true,if_true,hz];simp -implicitDefEqProofs [c78,h54,k1,k2,hk',rb0,a11,h94',hg,hg',a0',e5,d1,e6,d0,g6]
   ·have hEE: ¬r.2.e=0:=hE;obtain⟨X4,k4⟩:=h132 O2 Y1 r.2 rB hr;generalize tkA L r.2.i=t4 at k4;unfold tkv tkC at k4;have c0:(O2++X4)[0]? =some (.cells zz7):=dD a0' _;have c1:(O2++X4)[1]? =some (.cells [.int .i64 0,.int .i64 0]):=dD a1' _;have cr:=dD rB X4;have cr0:=rB;unfold Rd at cr0;unfold rdc at cr cr0;obtain⟨O5,e5,g5,n5,m5⟩:=fe (.cells zz7) (List.getElem?_eq_some_iff.1 c0).1;have d1:O5[1]? =some (.cells [.int .i64 0,.int .i64 0]):=by rw[n5 1 (by decide)];exact c1
    obtain⟨O6,e6,g6,n6,m6⟩:=fe (.cells [.int .i64 t4.ln,.int .i64 t4.col]) (List.getElem?_eq_some_iff.1 d1).1;have d0:O6[0]? =some (.cells zz7):=by rw[n6 0 (by decide)];exact g5
    have cr5:=(n5 3 (by decide)).trans cr;have cr6:=(n6 3 (by decide)).trans cr5;have hE':(r.2.e !=0)=true:=by simp[hE]
    refine⟨t4.ln,t4.col,?_⟩;clear n5 n6 m5 m6;simp only[hE,not_false_eq_true,if_true,hz];simp -implicitDefEqProofs [c78,h54,k1,k2,hk',cr0,hE,hE',k4,cr,c0,e5,cr5,cr6,d1,e6,d0,g6]
  ·have hk':(tt.k !=0)=true:=by simp[hk]
   simp only[hk,ne_eq,not_false_eq_true,if_true];have hE: ¬(wrg r.2 3).e=0:=iG (by decide);obtain⟨O3,k3,f3,R3⟩:=h133 O2 Y1 r.2 3 rB;have b0:=f3.old a0' (by decide);have b1:=f3.old a1' (by decide);obtain⟨X4,k4⟩:=h132 O3 Y1 (wrg r.2 3) R3 (by rw[rE];exact hr);generalize tkA L (wrg r.2 3).i=t4 at k4;unfold tkv tkC at k4;have c0:(O3++X4)[0]? =some (.cells zz7):=dD b0 _;have c1:(O3++X4)[1]? =some (.cells [.int .i64 0,.int .i64 0]):=dD b1 _;have cr:=dD R3 X4;have cr0:=R3;unfold Rd at cr0;unfold rdc at cr cr0;obtain⟨O5,e5,g5,n5,m5⟩:=fe (.cells zz7) (List.getElem?_eq_some_iff.1 c0).1;have d1:O5[1]? =some (.cells [.int .i64 0,.int .i64 0]):=by rw[n5 1 (by decide)];exact c1
   obtain⟨O6,e6,g6,n6,m6⟩:=fe (.cells [.int .i64 t4.ln,.int .i64 t4.col]) (List.getElem?_eq_some_iff.1 d1).1;have d0:O6[0]? =some (.cells zz7):=by rw[n6 0 (by decide)];exact g5
   have cr5:=(n5 3 (by decide)).trans cr;have cr6:=(n6 3 (by decide)).trans cr5;have hE':((wrg r.2 3).e !=0)=true:=by simp[hE]
   refine⟨t4.ln,t4.col,?_⟩;clear n5 n6 m5 m6;simp only[hE,not_false_eq_true,if_true,hz];simp -implicitDefEqProofs [c78,h54,k1,k2,hk,hk',k3,cr0,hE,hE',k4,cr,c0,e5,cr5,cr6,d1,e6,d0,g6]
 ·have he':(e !=0)=true:=by simp[he]
  refine⟨p1,p2,?_⟩;rw[if_pos he,hz];simp -implicitDefEqProofs [c78,h54,he,he']
end
end Go.Proofs.Ae
namespace Go.Proofs.Ae
open Go Go.RowKit
def txs:List TkP->Nat
 |[]=>0
 |p::ps=>p.2.1.length+txs ps
theorem CU: ∀(n:Nat) (s:Str),s.length<=n->txs (lx s).1<=s.length/\(lx s).1.length<=s.length:=by
 intro n
 induction n with
 |zero=>
  intro s hs;have:s=[]:=List.eq_nil_of_length_eq_zero (by omega);subst this;rw[nY];exact⟨Nat.le_refl _,Nat.le_refl _⟩
 |succ n ih=>
  intro s hs;cases s with
  |nil=>rw[nY];exact⟨Nat.le_refl _,Nat.le_refl _⟩
  |cons c s=>
   simp only[List.length_cons]at hs⊢;cases hb:fq c with
   |true=>
    rw[yd hb];have:=ih s (by omega);omega
   |false=>
    cases hm:ft c with
    |true=>
     rw[uM hb hm];have:=ih s (by omega);simp only[txs,List.length_cons,List.length_nil];omega
    |false=>
     cases hr:de c with
     |false=>rw[uN hb hm hr];simp[txs]
     |true=>
      rw[qb hr];by_cases h0:(dw (c::s.takeWhile de)).2=0
      ·rw[if_pos h0];have ht:=CQ h0;have htw:=lr de s;have:=ih (s.drop (s.takeWhile de).length) (by simp;omega);have e:(prj (dw (c::s.takeWhile de)).1).2.1=c::s.takeWhile de:=ht;simp only[txs,e,List.length_cons,List.length_drop]at this⊢;omega
      ·rw[if_neg h0];simp[txs]
theorem Oo (L:List Tk): ∀i,i<=L.length->Wt L i<=txs ((L.take i).map prj)+4*i:=by
 have hsnoc: ∀(a:List TkP) (p:TkP),txs (a++[p])=txs a+p.2.1.length:=by
  intro a p
  induction a with
  |nil=>simp[txs]
  |cons x a ih=>simp only[List.cons_append,txs,ih];omega
 intro i
 induction i with
 |zero=>intro _;simp[Wt]
 |succ i ih=>
  intro hi;have h:=ih (by omega);have hg:=gq (L:=L) (show i<L.length by omega);rw[List.take_add_one,hg];simp only[Option.toList_some,List.map_append,List.map_cons,List.map_nil,hsnoc,Wt];have:(prj (tkA L i)).2.1=(tkA L i).tx:=rfl;rw[this];omega
section
variable {t:Nat}
noncomputable def prR (L:List Tk):Nd×Ps:=(pr' L (6*L.length+5) .fml ⟨0,0,0⟩).getD (ndZ,⟨0,0,0⟩)
theorem uQ {L:List Tk} (hL:Lok L):pr' L (6*L.length+5) .fml ⟨0,0,0⟩=some (prR L):=by
 obtain⟨r,hr⟩:=CA hL (6*L.length+5) .fml ⟨0,0,0⟩ hL.pos (by simp[rnk]);unfold prR;rw[hr];rfl
theorem yi {L:List Tk} (hL:Lok L):(prR L).2.i<L.length:=(gD hL _ _ _ _ (uQ hL)).lt hL.pos
theorem yj {s:Str} (hs:s.length<=65536) (h0:(lx s).2=0):bk (prR (tkR t s).1).1<=5*s.length+1:=by
 have hL:=yg (t:=t) hs h0;have h1:=xT hL _ _ _ _ (by intro l h;cases h) (uQ hL);have hi:=yi hL;obtain⟨l0,ln,col,e1,e2⟩:=rI (t:=t) hs h0;have h2:=Oo (tkR t s).1 (prR (tkR t s).1).2.i (by omega);have h3:=CU s.length s (Nat.le_refl _);have h4:((tkR t s).1.take (prR (tkR t s).1).2.i).map prj=(lx s).1.take (prR (tkR t s).1).2.i:=by
  rw[<-e2,List.map_take,e1,List.map_append,List.take_append_of_le_length];rw[e1]at hi;simp at hi⊢;omega
 have h5: ∀(ps:List TkP) (i:Nat),txs (ps.take i)<=txs ps:=by
  intro ps
  induction ps with
  |nil=>intro i;simp
  |cons p ps ih=>
   intro i;cases i with
   |zero=>simp[txs]
   |succ i=>simp only[List.take_succ_cons,txs];have:=ih i;omega
 have h6:=h5 (lx s).1 (prR (tkR t s).1).2.i;rw[h4]at h2;have h7:(tkR t s).1.length=(lx s).1.length+1:=by rw[e1,<-e2];simp
 simp only[crd]at h1;omega
noncomputable def pfS (t:Nat) (s:Str):Nd×Int:=if(tkR t s).2.2.2≠0 then(ndZ,(tkR t s).2.2.2)else pfL (prR (tkR t s).1) (tkR t s).1
end
end Go.Proofs.Ae
namespace Go.Proofs.Ae
open Go Go.RowKit
set_option maxRecDepth 100000
section
variable {t:Nat}
theorem CV:dP Tryz.prog (GG t) (dg (T0 t)):=by
 refine fl Cr fun ags r hr=>?_;obtain⟨s,rfl,-,rfl⟩:=gy hr;exact Ok s
theorem Oq {G:Gls} {cl:a7} {yl:a7} {N:Nat} (s:Str) (n:Nd) (q1 q2 e:Int) (h: ∀M,cl 78 [.str s,.fn 175 [] []] M=some (.tup [.agg (.slc .shared []::ndc n),.agg [.int .i64 q1,.int .i64 q2],.int .i64 e],M)):
  dn G false cl yl N wD [.str s]=some (.tup [av n,.agg [.int .i64 q1,.int .i64 q2],.int .i64 e],none):=by
 cases n with
 |mk op ns so nn mm l=>
 unfold ndc at h;simp -implicitDefEqProofs [wD,h,av]
theorem CW (s:Str) (M:Mem):spC (dg (T0 t)) 54 [.str s] M=some (.tup [.slc .shared ((tkR t s).1.map tkv),.agg [.int .i64 (tkR t s).2.1,.int .i64 (tkR t s).2.2.1],.int .i64 (tkR t s).2.2.2],M):=
 du fS s (by repeat first|exact .here|refine .there ?_ rfl) (by exact trivial) (by rfl) (by rfl) M
theorem Ot (n:Nd) (hb:bk n<=big) (s1 s2:Sp) (M:Mem):spC (dg (T0 t)) 94 [.agg (icN s1 s2 n)] M=some (.int .i64 (grt n),M):=by
 refine du eO n (by repeat first|exact .here|refine .there ?_ rfl) (by exact hb) ?_ (by rfl) M;have:gu (.agg (icN s1 s2 n))=some (av n):=iW s1 s2 n;simp only[eh,this]
theorem Ou {G:Gls} {cl:a7} {yl:a7} {N:Nat} (str:Str) (L:List Tk) (p1 p2 e:Int) (he:e≠0) (h54: ∀M,cl 54 [.str str] M=some (.tup [.slc .shared (L.map tkv),.agg [.int .i64 p1,.int .i64 p2],.int .i64 e],M)):
  dn G false cl yl N c78 [.str str,.fn 175 [] []]=some (.tup [.agg (.slc .shared []::ndc ndZ),.agg [.int .i64 p1,.int .i64 p2],.int .i64 e],none):=by
 have hz:ndc ndZ=[.int .i64 0,.slc .shared [],.int .i64 0,.int .i64 0,.int .i64 0,.slc .shared []]:=rfl;have he':(e !=0)=true:=by simp[he]
 rw[hz];simp -implicitDefEqProofs [c78,h54,he,he']
theorem CX (t:Nat) (s:Str) (hs:s.length<=65536): ∃q:Int×Int,eX Tryz.prog (GG t) 115 [.str s] (.tup [av (pfS t s).1,.agg [.int .i64 q.1,.int .i64 q.2],.int .i64 (pfS t s).2],none):=by
 obtain⟨h,hh⟩: ∃h,6*(tkR t s).1.length+5=h:=⟨_,rfl⟩
 have hlen:=yf (t:=t) s;obtain⟨j,hj⟩: ∃j,j=5*h+10:=⟨_,rfl⟩
 have key: ∃q1 q2,dn (GG t) false (BW (GG t) (dg (T0 t)) (h+100) (j+20)) (YW (GG t) (dg (T0 t)) (h+100) (j+20)) (h+100) c78 [.str s,.fn 175 [] []]=some (.tup [.agg (.slc .shared []::ndc (pfS t s).1),.agg [.int .i64 q1,.int .i64 q2],.int .i64 (pfS t s).2],none):=by
  have hb:(tkR t s).1.length<big:=by unfold big;omega
  have b54: ∀M,BW (GG t) (dg (T0 t)) (h+100) (j+20) 54 [.str s] M=some (.tup [.slc .shared ((tkR t s).1.map tkv),.agg [.int .i64 (tkR t s).2.1,.int .i64 (tkR t s).2.2.1],.int .i64 (tkR t s).2.2.2],M):=fun M=>dS (CW s M);unfold pfS;by_cases he:(tkR t s).2.2.2=0
  ·have h0:(lx s).2=0:=by rw[<-mB (t:=t) hs];exact he
   have hL:=yg (t:=t) hs h0;have hpr:=uQ hL;have hbk:=yj (t:=t) hs h0;have b94: ∀s1 s2 M,BW (GG t) (dg (T0 t)) (h+100) (j+20) 94 [.agg (icN s1 s2 (prR (tkR t s).1).1)] M=some (.int .i64 (grt (prR (tkR t s).1).1),M):=fun s1 s2 M=>dS (Ot _ (by unfold big;omega) s1 s2 M);have b175: ∀O R,Rd O 3 .shared (tkR t s).1 ⟨0,0,0⟩-> ∃s1 s2 O' Y,BW (GG t) (dg (T0 t)) (h+100) (j+20) 175 [.ptr 3 0] ⟨O,R⟩=some (.agg (.slc .full []::icN s1 s2 (prR (tkR t s).1).1),⟨O',R++Y⟩)/\Fro 3 O O'/\Rd O' 3 .shared (tkR t s).1 (prR (tkR t s).1).2:=by
    intro O R hR;rw[dG (k:=j+19) (cf:=tH) (by unfold dL;split<;>rfl) rfl rfl rfl];refine Om hR _ fun O' f1 r1=>?_;exact(Od yh hL hb (by omega) h (j+19) (by omega) (by omega) (by unfold big;omega)).fml O' R _ _ r1 ⟨hL.pos,by show(0:Nat)<=256;omega⟩ (by rw[<-hh];exact hpr)
   exact On s (tkR t s).2.1 (tkR t s).2.2.1 (tkR t s).2.2.2 (prR (tkR t s).1) (yi hL) b54 (fun _=>b175) (qa (k:=j+19) yh) (kH (k:=j+19) yh) (fun _ _=>b94)
  ·refine⟨(tkR t s).2.1,(tkR t s).2.2.1,?_⟩;rw[if_pos he];exact Ou s (tkR t s).1 (tkR t s).2.1 (tkR t s).2.2.1 (tkR t s).2.2.2 he b54
 obtain⟨q1,q2,hk⟩:=key;refine⟨(q1,q2),mZ (T:=TW (dg (T0 t))) fp kis dz Js (jr CV) ⟨h+100,j+21,false,?_⟩⟩;refine Oq s _ q1 q2 _ fun M=>?_;exact fZ (k:=j+20) (cf:=c78) (by unfold dL;split<;>rfl) rfl rfl rfl rfl hk M
noncomputable def pfP (t:Nat) (s:Str):Int×Int:=if hs:s.length<=65536 then Classical.choose (CX t s hs)else(0,0)
theorem Ov (s:Str) (hs:s.length<=65536):eX Tryz.prog (GG t) 115 [.str s] (.tup [av (pfS t s).1,.agg [.int .i64 (pfP t s).1,.int .i64 (pfP t s).2],.int .i64 (pfS t s).2],none):=by
 have:=Classical.choose_spec (CX t s hs);unfold pfP;rw[dif_pos hs];exact this
noncomputable abbrev yk (t:Nat) (s:Str):Tk×Bool:=fY s (tkR t s).1 (tkR t s).2.2.2
noncomputable abbrev T1 (t:Nat):List (Nat×(List AV->dC)):=(115,spR (fun s:Str=>[.str s]) (fun s=>(.tup [av (pfS t s).1,.agg [.int .i64 (pfP t s).1,.int .i64 (pfP t s).2],.int .i64 (pfS t s).2],none)) (fun s=>s.length<=65536))::(90,spR (fun s:Str=>[.str s]) (fun s=>(.tup [.agg (tkC (yk t s).1),.bool (yk t s).2],none)) (fun _=>True))::T0 t
theorem Ow:dP Tryz.prog (GG t) (dg (T1 t)):=by
 refine fl (ml _ _ _ Ji (fun s _=>⟨1,1,?_⟩) CV) fun ags r hr=>?_
 ·have:=yf (t:=t) s;exact BI s _ _ _ _ (by unfold big;omega) (fun M=>dS (CW s M))
 ·obtain⟨s,rfl,hs,rfl⟩:=gy hr;exact Ov s hs
theorem Ox {G:Gls} {cl:a7} {yl:a7} {N:Nat} (l:List Tk) (hl:l.length<big) (hN:l.length<N) (hk: ∀x∈l,x.k≠0)
  (h90: ∀x∈l,∃y:Tk,prj y=prj x/\ ∀M,cl 90 [.str x.tx] M=some (.tup [.agg (tkC y),.bool true],M)):
  dh false (a8 G false cl yl N th) ⟨[0,4,9,10,11],[(4,none),(11,none)],false⟩ 0 1 N ⟨[(0,.slc .shared (l.map tkv)),(4,.slc (.own 0) ((l.take 0).map fun x=>.str x.tx)),(9,.slc .shared (l.map tkv)),(10,.int .i64 l.length),(11,.int .i64 ((0:Nat):Int))],⟨[],[dA 0 9 1]⟩,[]⟩=
   some (.exit 0,⟨[(12,.bool false),(0,.slc .shared (l.map tkv)),(4,.slc (.own 0) (l.map fun x=>.str x.tx)),(9,.slc .shared (l.map tkv)),(10,.int .i64 l.length),(11,.int .i64 l.length)],⟨[],[dA l.length 9 1]⟩,[]⟩):=by
 unfold big at hl;refine jg l (fun i=>⟨[(0,.slc .shared (l.map tkv)),(4,.slc (.own 0) ((l.take i).map fun x=>.str x.tx)),(9,.slc .shared (l.map tkv)),(10,.int .i64 l.length),(11,.int .i64 (i:Int))],⟨[],[dA i 9 1]⟩,[]⟩) (.exit 0) _ hN (by simp) ?_ ?_
 ·intro i x hx hi;have hx':=(List.getElem?_eq_some_iff.1 hx).2;have w1:=dF (i:=i) (by omega);have hm:=List.mem_of_getElem? hx;obtain⟨y,hy,k⟩:=h90 x hm;have hkx:=hk x hm;simp only[prj,Prod.mk.injEq]at hy;obtain⟨h1,h2,h3⟩:=hy;have hk':(x.k==0)=false:=by simp[hkx]
  have hts:l.take (i+1)=l.take i++[x]:=by rw[List.take_add_one,hx];rfl
  have b1:(i+1)*16<=140737488355328:=by omega
  have b2:i+1<=140737488355328:=by omega
  have hln:(List.take i l).length=i:=by simp;omega
  have hr:i=0\/ ¬i=0:=by omega
  have hmin:min i l.length=i:=by omega
  have hsz:dV 1 (List.take i (List.map (fun x:Tk=>AV.str x.tx) l))=true:=by
   rw[<-List.map_take];generalize l.take i=m
   induction m with
   |nil=>rfl
   |cons x m _=>simp[dV]
  have b3:i<=140737488355327:=by omega
  unfold tkC at k;simp only[hts];simp -implicitDefEqProofs [th,hi,hx',tkv,tkC,hkx,hk',k,h1,h3,w1,b1,b2,b3,hmin,hsz,hln,dA,hr]
 ·simp -implicitDefEqProofs [th]
theorem CY {a b:Tk} (h:tkv a=tkv b):a=b:=by
 obtain⟨a1,a2,a3,a4,a5⟩:=a;obtain⟨b1,b2,b3,b4,b5⟩:=b;simp only[tkv,tkC,AV.agg.injEq,List.cons.injEq,AV.int.injEq,AV.str.injEq,true_and,and_true]at h;obtain⟨rfl,rfl,rfl,rfl,rfl⟩:=h;rfl
def kI (l:List Tk):List AV:=[.slc .shared (l.map tkv)]
theorem CZ (a b:List Tk) (h:kI a=kI b):a=b:=by
 simp only[kI,List.cons.injEq,AV.slc.injEq,true_and,and_true]at h
 induction a generalizing b with
 |nil=>cases b with
  |nil=>rfl
  |cons=>simp at h
 |cons x a ih=>cases b with
  |nil=>simp at h
  |cons y b=>
   simp only[List.map_cons,List.cons.injEq]at h;rw[CY h.1,ih b h.2]
theorem Oy {G:Gls} {cl:a7} {yl:a7} {N:Nat} (l:List Tk) (hl:l.length<big) (hN:l.length<N) (hk: ∀x∈l,x.k≠0)
  (h90: ∀x∈l,∃y:Tk,prj y=prj x/\ ∀M,cl 90 [.str x.tx] M=some (.tup [.agg (tkC y),.bool true],M))
  (h49: ∀M,cl 49 [.slc (.own 0) (l.map fun x=>.str x.tx),.str [32]] M=some (.str (Lib.join (l.map Tk.tx) [32]),M)):
  dn G false cl yl N wC (kI l)=some (.tup [.str (Lib.join (l.map Tk.tx) [32]),.int .i64 0],none):=by
 have h1:=Ox (G:=G) (cl:=cl) (yl:=yl) (N:=N) l hl hN hk h90;simp only[List.take_zero,List.map_nil,dA]at h1;simp at h1;simp -implicitDefEqProofs [kI,wC,h1,h49]
structure rJ (l:List Tk):Prop where
 tok: ∀x∈l,okT (prj x)/\x.tx.length<=65536
 len:l.length<big
 out:(Lib.join (l.map Tk.tx) [32]).length<=il
noncomputable abbrev T2 (t:Nat):List (Nat×(List AV->dC)):=(114,spR kI (fun l=>(.tup [.str (Lib.join (l.map Tk.tx) [32]),.int .i64 0],none)) rJ)::(49,spR pO (fun p=>(.str (Lib.join p.1 p.2),none)) (fun p=>(Lib.join p.1 p.2).length<=il/\p.1.length<=il))::T1 t
theorem uR:dP Tryz.prog (GG t) (dg (T2 t)):=by
 refine ml _ _ _ Jr (fun l h=>⟨l.length+1,1,?_⟩) (fl Ow fun ags r hr=>?_)
 ·refine Oy l h.len (Nat.lt_succ_self _) (fun x hx=>?_) (fun x hx=>?_) (fun M=>?_)
  ·have:=rH (h.tok x hx).1;simp only[prj]at this;omega
  ·obtain⟨y,hy1,hy2⟩:=Ol (t:=t) (h.tok x hx).1 (h.tok x hx).2;have hy1':yk t x.tx=(y,true):=hy1;refine⟨y,hy2,fun M=>dS (du fS x.tx (by repeat first|exact .here|refine .there ?_ rfl) (by exact trivial) (by rfl) ?_ M)⟩;simp only[hy1']
  ·have hb:=h.len;unfold big at hb;refine dS (du w9 (l.map Tk.tx,[32]) (by repeat first|exact .here|refine .there ?_ rfl) (by exact⟨h.out,by unfold il;simp;omega⟩) ?_ (by rfl) M);simp[pO,eh,List.map_map]
 ·obtain⟨p,rfl,h,rfl⟩:=gy hr;exact Bn _ _ _ h.1 h.2
end
end Go.Proofs.Ae
namespace Go.Proofs.Ae
open Go Go.RowKit
structure Ms where
 i:Nat
 b:Bool
def mdc (sp:Sp) (L:List Tk) (s:Ms):List AV:=[.slc sp (L.map tkv),.int .i64 (s.i:Nat),.bool s.b]
def Mrd (O:List Obj) (p:Nat) (sp:Sp) (L:List Tk) (s:Ms):Prop:=O[p]? =some (.cells (mdc sp L s))
theorem Mrd.app {O:List Obj} {p:Nat} {sp:Sp} {L:List Tk} {s:Ms} (h:Mrd O p sp L s) (X:List Obj):Mrd (O++X) p sp L s:=dD h X
theorem Mrd.put {O:List Obj} {p:Nat} {sp:Sp} {L:List Tk} {s:Ms} (h:Mrd O p sp L s) (s':Ms):Mrd (O.set p (.cells (mdc sp L s'))) p sp L s':=List.getElem?_set_self (List.getElem?_eq_some_iff.1 h).1
def mis (L:List Tk) (s:Ms) (k:Int) (w:Str):Bool:=decide ((tkA L s.i).k=k)&&((tkA L s.i).tx==w)
def mnx (L:List Tk) (s:Ms):Ms:=⟨min (s.i+1) (L.length - 1),s.b⟩
section
variable {G:Gls} {cl:a7} {yl:a7} {N:Nat}
variable {O:List Obj} {R:List Arr} {p:Nat} {sp:Sp} {L:List Tk} {s:Ms}
theorem OB (h:Mrd O p sp L s) (hi:s.i<L.length) (k:Int) (w:Str):dr G false cl yl N qP [.ptr p 0,.int .i64 k,.str w] ⟨O,R⟩=some (.bool (mis L s k w),⟨O,R⟩):=by
 have hx:=gq hi;have hx':=(List.getElem?_eq_some_iff.1 hx).2;have h':=h;unfold Mrd mdc at h';unfold mis;generalize tkA L s.i=t at*;by_cases hk:t.k=k
 ·have hk':(t.k==k)=true:=by simp[hk]
  simp -implicitDefEqProofs [qP,h',hx,hi,hx',tkv,tkC,hk,hk',dB]
 ·have hk':(t.k==k)=false:=by simp[hk]
  simp -implicitDefEqProofs [qP,h',hx,hi,hx',tkv,tkC,hk,hk',dB]
theorem OC (h:Mrd O p sp L s) (hi:s.i<L.length) (hb:L.length<big):dr G false cl yl N qQ [.ptr p 0] ⟨O,R⟩=some (.tup [],⟨O.set p (.cells (mdc sp L (mnx L s))),R⟩):=by
 unfold big at hb;have w1:dj .i64 ((s.i:Int)+1)=((s.i+1:Nat):Int):=dF (by omega);have w2:dj .i64 ((L.length:Int) - 1)=((L.length - 1:Nat):Int):=by rw[dJ (by omega) (by omega)];omega
 have h':=h;unfold Mrd mdc at h';unfold mdc mnx;by_cases hm:s.i+1<=L.length - 1
 ·have hm':((s.i+1:Nat):Int)<=((L.length - 1:Nat):Int):=by omega
  rw[Nat.min_eq_left hm];simp -implicitDefEqProofs [qQ,h',w1,w2,hm',fd];rw[if_neg (by omega)]
 ·have hm': ¬((s.i+1:Nat):Int)<=((L.length - 1:Nat):Int):=by omega
  rw[Nat.min_eq_right (by omega)];simp -implicitDefEqProofs [qQ,h',w1,w2,hm',fd];rw[if_pos (by omega)]
end
abbrev nZ (cl:a7) (p:Nat) (sp:Sp) (L:List Tk):Prop:= ∀O R s k w,Mrd O p sp L s->s.i<L.length->cl 112 [.ptr p 0,.int .i64 k,.str w] ⟨O,R⟩=some (.bool (mis L s k w),⟨O,R⟩)
abbrev mC (cl:a7) (p:Nat) (sp:Sp) (L:List Tk):Prop:= ∀O R s,Mrd O p sp L s->s.i<L.length->cl 113 [.ptr p 0] ⟨O,R⟩=some (.tup [],⟨O.set p (.cells (mdc sp L (mnx L s))),R⟩)
def ei (L:List Tk) (s:Ms) (k:Int) (w:Str):Ms:=mnx L ⟨s.i,s.b||!mis L s k w⟩
def eo (L:List Tk) (s:Ms):Ms:=mnx L ⟨s.i,s.b||!decide ((tkA L s.i).k=1)⟩
def MR (r:Option (AV×Mem)) (v:AV) (p:Nat) (sp:Sp) (L:List Tk) (s':Ms) (O:List Obj) (R:List Arr):Prop:= ∃O',r=some (v,⟨O',R⟩)/\Fro p O O'/\Mrd O' p sp L s'
section
variable {G:Gls} {cl:a7} {yl:a7} {N:Nat}
variable {O:List Obj} {R:List Arr} {p:Nat} {sp:Sp} {L:List Tk} {s:Ms}
theorem OD (h:Mrd O p sp L s) (hi:s.i<L.length) (k:Int) (w:Str) (h112:nZ cl p sp L) (h113:mC cl p sp L):MR (dr G false cl yl N pw [.ptr p 0,.int .i64 k,.str w] ⟨O,R⟩) (.tup []) p sp L (ei L s k w) O R:=by
 have k1:=h112 O R s k w h hi;have h':=h;unfold Mrd mdc at h';have h2:Mrd (O.set p (.cells (mdc sp L ⟨s.i,s.b||!mis L s k w⟩))) p sp L ⟨s.i,s.b||!mis L s k w⟩:=h.put _;have k2:=h113 _ R _ h2 hi;refine⟨_,?_,(Fro.set p O _).trans (.set p _ _),h2.put _⟩;unfold ei;unfold mdc at k2⊢;cases hb:s.b with
 |true=>
  rw[hb]at h' k2;simp only[Bool.true_or]at k2⊢
  try simp -implicitDefEqProofs at k2
  simp -implicitDefEqProofs [pw,h',k2,fd]
 |false=>
  rw[hb]at h' k2;simp only[Bool.false_or]at k2⊢;cases hm:mis L s k w with
  |true=>
   rw[hm]at k1 k2
   try simp -implicitDefEqProofs at k2
   simp -implicitDefEqProofs [pw,h',k1,k2,fd]
  |false=>
   rw[hm]at k1 k2
   try simp -implicitDefEqProofs at k2
   simp -implicitDefEqProofs [pw,h',k1,k2,fd]
theorem OE (h:Mrd O p sp L s) (hi:s.i<L.length) (h113:mC cl p sp L):MR (dr G false cl yl N pz [.ptr p 0] ⟨O,R⟩) (.str (tkA L s.i).tx) p sp L (eo L s) O R:=by
 have hx:=gq hi;have hx':=(List.getElem?_eq_some_iff.1 hx).2;have hp:p<O.length:=(List.getElem?_eq_some_iff.1 h).1;have h1:=h.app [.cells (tkC (tkA L s.i))];have h2:Mrd ((O++[Obj.cells (tkC (tkA L s.i))]).set p (.cells (mdc sp L ⟨s.i,s.b||!decide ((tkA L s.i).k=1)⟩))) p sp L ⟨s.i,s.b||!decide ((tkA L s.i).k=1)⟩:=h1.put _;have k2:=h113 _ R _ h2 hi;have hz:=h.app [.cells [.int .i64 0,.str [],.int .i64 0,.int .i64 0,.int .i64 0]];unfold eo;have hM:Mrd (((O++[Obj.cells (tkC (tkA L s.i))]).set p (.cells (mdc sp L ⟨s.i,s.b||!decide ((tkA L s.i).k=1)⟩))).set p (.cells (mdc sp L (mnx L ⟨s.i,s.b||!decide ((tkA L s.i).k=1)⟩)))) p sp L (mnx L ⟨s.i,s.b||!decide ((tkA L s.i).k=1)⟩):=h2.put _;refine⟨_,?_,((Fro.app p O _).trans (Fro.set p _ _)).trans (.set p _ _),hM⟩;have g3:(((O++[Obj.cells (tkC (tkA L s.i))]).set p (.cells (mdc sp L ⟨s.i,s.b||!decide ((tkA L s.i).k=1)⟩))).set p (.cells (mdc sp L (mnx L ⟨s.i,s.b||!decide ((tkA L s.i).k=1)⟩))))[O.length]? =some (.cells (tkC (tkA L s.i))):=by
  rw[List.getElem?_set_ne (by omega),List.getElem?_set_ne (by omega)];simp
 unfold Mrd mdc at hz h1;generalize hO3:((O++[Obj.cells (tkC (tkA L s.i))]).set p (.cells (mdc sp L ⟨s.i,s.b||!decide ((tkA L s.i).k=1)⟩))).set p (.cells (mdc sp L (mnx L ⟨s.i,s.b||!decide ((tkA L s.i).k=1)⟩)))=O3 at k2 g3 hM⊢;clear hO3 hM h2;generalize tkA L s.i=t at*;unfold mdc at k2;unfold tkC at k2 g3 h1;clear hp;cases hb:s.b with
 |true=>
  rw[hb]at h1 hz k2;simp only[Bool.true_or]at k2
  try simp -implicitDefEqProofs at k2
  simp -implicitDefEqProofs [pz,hz,hx,hi,hx',tkv,tkC,h1,k2,g3]
 |false=>
  rw[hb]at h1 hz k2;simp only[Bool.false_or]at k2;by_cases hk:t.k=1
  ·have hk':(t.k !=1)=false:=by simp[hk]
   simp only[hk,decide_true,Bool.not_true]at k2 h1 g3 hx'
   try simp -implicitDefEqProofs at k2
   simp -implicitDefEqProofs [pz,hz,hx,hi,hx',tkv,tkC,h1,hk,hk',k2,g3]
  ·have hk':(t.k !=1)=true:=by simp[hk]
   simp only[hk,decide_false,Bool.not_false]at k2
   try simp -implicitDefEqProofs at k2
   simp -implicitDefEqProofs [pz,hz,hx,hi,hx',tkv,tkC,h1,hk,hk',k2,g3]
end
def iX (L:List Tk) (s:Ms):Option Int:=([0,1,2,3]:List Int).findSome? (fun k=>if mis L s 3 (snm k)then some k else none)
section
variable {G:Gls} {cl:a7} {yl:a7} {N:Nat}
variable {O:List Obj} {R:List Arr} {p b:Nat} {sp:Sp} {L:List Tk} {s:Ms}
theorem OG (h:Mrd O p sp L s) (hi:s.i<L.length) (hb:O[b]? =some (.cells [.ptr p 0])) (x:Int) (h47: ∀M,cl 47 [.int .i64 x] M=some (.str (snm x),M)) (h112:nZ cl p sp L):
  dr G false cl yl N tN [.int .i64 x,.ptr b 0] ⟨O,R⟩=some (.bool (mis L s 3 (snm x)),⟨O,R⟩):=by
 have k:=h112 O R s 3 (snm x) h hi;simp -implicitDefEqProofs [tN,hb,h47,k]
theorem OH (hN:5<N) (h204: ∀x,cl 204 [.int .i64 x,.ptr b 0] ⟨O,R⟩=some (.bool (mis L s 3 (snm x)),⟨O,R⟩)) (kk mm:Nat):
  ∃e s',dh false (a8 G false cl yl N pB) ⟨[0,1,7,8],[(8,none)],true⟩ kk mm N ⟨[(0,.slc .shared (([0,1,2,3]:List Int).map (AV.int .i64))),(1,.fn 204 [] [.ptr b 0]),(7,.int .i64 4),(8,.int .i64 ((0:Nat):Int))],⟨O,R⟩,[]⟩=some (e,s')/\e≠ .normal/\
   (s'.mks=[]/\s'.m=⟨O,R⟩/\match iX L s with
    |none=>e=.exit 0
    |some k=>e=.ret/\look 4 s'.ts=.int .i64 k):=by
 refine eN (mu:=false) (step:=a8 G false cl yl N pB) (an:=⟨[0,1,7,8],[(8,none)],true⟩) (k:=kk) (m:=mm) (N:=N) [0,1,2,3] (fun k:Int=>if mis L s 3 (snm k)then some k else none)
  (fun i st=>st=⟨[(0,.slc .shared (([0,1,2,3]:List Int).map (AV.int .i64))),(1,.fn 204 [] [.ptr b 0]),(7,.int .i64 4),(8,.int .i64 (i:Nat))],⟨O,R⟩,[]⟩)
  (fun r e s'=>s'.mks=[]/\s'.m=⟨O,R⟩/\match r with
    |none=>e=.exit 0
    |some k=>e=.ret/\look 4 s'.ts=.int .i64 k) (by simp;omega) rfl ?_ ?_
 ·rintro i x st hx hil rfl;have hi4:i<4:=hil;have hxi:x=(i:Int):=by
   rcases(show i=0\/i=1\/i=2\/i=3 by omega)with rfl|rfl|rfl|rfl<;>simp at hx<;>omega
  have k:=h204 x;have w1:=dF (i:=i) (by omega);have hlt:(i:Int)<4:=by omega
  have hix: ∀h,([.int .i64 0,.int .i64 1,.int .i64 2,.int .i64 3]:List AV)[i]'h=.int .i64 x:=by
   intro h;rw[hxi];rcases(show i=0\/i=1\/i=2\/i=3 by omega)with rfl|rfl|rfl|rfl<;>rfl
  cases hm:mis L s 3 (snm x)with
  |true=>
   rw[hm]at k;simp -implicitDefEqProofs [pB,hlt,hi4,hix,k,w1];exact hxi.symm
  |false=>
   rw[hm]at k;simp -implicitDefEqProofs [pB,hlt,hi4,hix,k,w1]
 ·rintro st rfl;simp -implicitDefEqProofs [pB]
theorem OI (hN:5<N) (h204: ∀x,cl 204 [.int .i64 x,.ptr b 0] ⟨O,R⟩=some (.bool (mis L s 3 (snm x)),⟨O,R⟩)):
  dr G false cl yl N qY [.slc .shared (([0,1,2,3]:List Int).map (AV.int .i64)),.fn 204 [] [.ptr b 0]] ⟨O,R⟩=some (.int .i64 ((iX L s).getD (-1)),⟨O,R⟩):=by
 obtain⟨e,⟨ts,M,mks⟩,k1,-,rfl,rfl,hm⟩:=OH (G:=G) (yl:=yl) hN h204 O.length R.length;simp at k1;cases hs:iX L s with
 |none=>
  rw[hs]at hm;simp only[]at hm;subst hm;simp -implicitDefEqProofs [qY,k1]
 |some k=>
  rw[hs]at hm;obtain⟨rfl,l4⟩:=hm;simp at l4;simp -implicitDefEqProofs [qY,k1,l4]
end
def eF (L:List Tk) (s:Ms):Ms:=mnx L ⟨s.i,s.b||decide ((iX L s).getD (-1)<0)⟩
def fU (L:List Tk) (s:Ms):Vr:=⟨(tkA L (eF L s).i).tx,max ((iX L s).getD (-1)) 0⟩
abbrev ym (cl:a7) (p:Nat) (sp:Sp) (L:List Tk):Prop:= ∀O R s,Mrd O p sp L s->s.i<L.length->MR (cl 173 [.ptr p 0] ⟨O,R⟩) (.str (tkA L s.i).tx) p sp L (eo L s) O R
theorem jw {L:List Tk} {s:Ms} (h:s.i<L.length):(mnx L s).i<L.length:=by
 show min (s.i+1) (L.length - 1)<L.length;omega
section
variable {t:Nat} {cl:a7} {yl:a7} {N:Nat}
variable {O:List Obj} {R:List Arr} {p:Nat} {sp:Sp} {L:List Tk} {s:Ms}
theorem OJ (h:Mrd O p sp L s) (hi:s.i<L.length) (h203: ∀O b,Mrd O p sp L s->O[b]? =some (.cells [.ptr p 0])->cl 203 [.slc .shared (([0,1,2,3]:List Int).map (AV.int .i64)),.fn 204 [] [.ptr b 0]] ⟨O,R⟩=some (.int .i64 ((iX L s).getD (-1)),⟨O,R⟩)) (h113:mC cl p sp L) (h173:ym cl p sp L):
  MR (dr (GG t) false cl yl N nB [.ptr p 0] ⟨O,R⟩) (.agg (vrc (fU L s))) p sp L (eo L (eF L s)) O R:=by
 have hG:GG t 4=some (.slc .shared [.int .i64 0,.int .i64 1,.int .i64 2,.int .i64 3]):=rfl;have hp:p<O.length:=(List.getElem?_eq_some_iff.1 h).1;have h1:=h.app [.cells [.ptr p 0],.cells [.str [],.int .i64 0]];have hb1:(O++[Obj.cells [.ptr p 0],.cells [.str [],.int .i64 0]])[O.length]? =some (.cells [.ptr p 0]):=by simp
 have hz1:(O++[Obj.cells [.ptr p 0],.cells [.str [],.int .i64 0]])[O.length+1]? =some (.cells [.str [],.int .i64 0]):=by simp
 have k1:=h203 _ O.length h1 hb1;simp only[List.map_cons,List.map_nil]at k1;unfold fU eF;generalize(iX L s).getD (-1)=m at*;obtain⟨O1,hO1⟩: ∃O1,O++[Obj.cells [.ptr p 0],.cells [.str [],.int .i64 0]]=O1:=⟨_,rfl⟩
 have f1:Fro p O O1:=by rw[<-hO1];exact .app _ _ _
 rw[hO1]at k1 h1 hb1 hz1;have h2:Mrd (O1.set p (.cells (mdc sp L ⟨s.i,s.b||decide (m<0)⟩))) p sp L ⟨s.i,s.b||decide (m<0)⟩:=h1.put _;have k2:=h113 _ R _ h2 hi;have h3:=h2.put (mnx L ⟨s.i,s.b||decide (m<0)⟩);obtain⟨O2,hO2⟩: ∃O2,O1.set p (.cells (mdc sp L ⟨s.i,s.b||decide (m<0)⟩))=O2:=⟨_,rfl⟩
 have f2:Fro p O1 O2:=by rw[<-hO2];exact .set _ _ _
 rw[hO2]at k2 h2 h3;obtain⟨O3,hO3⟩: ∃O3,O2.set p (.cells (mdc sp L (mnx L ⟨s.i,s.b||decide (m<0)⟩)))=O3:=⟨_,rfl⟩
 have f3:Fro p O2 O3:=by rw[<-hO3];exact .set _ _ _
 rw[hO3]at k2 h3;obtain⟨O4,k4,f4,h4⟩:=h173 O3 R _ h3 (jw hi);have f23:=f2.trans f3;have b2:=f2.old hb1 (by omega);have b3:=f23.old hb1 (by omega);have z4:=(f23.trans f4).old hz1 (by omega);have l1:=(f1.trans (f23.trans f4)).len;obtain⟨O5,e5,g5,n5,m5⟩:=fe (.cells (vrc ⟨(tkA L (mnx L ⟨s.i,s.b||decide (m<0)⟩).i).tx,max m 0⟩)) (List.getElem?_eq_some_iff.1 z4).1;have fr:=f1.trans (f23.trans f4);refine⟨O5,?_,⟨by omega,fun i hi hp=>by rw[n5 i (by omega)];exact fr.get i hi hp⟩,by unfold Mrd;rw[n5 p (by omega)];exact h4⟩;unfold Mrd mdc at h1;unfold mdc at hO2;unfold vrc at e5 g5⊢;clear n5 m5 l1;generalize(tkA L (mnx L ⟨s.i,s.b||decide (m<0)⟩).i).tx=nm at*;have hmx: ∀h:m<0,max m 0=0:=fun h=>by omega
 have hmx': ∀h: ¬m<0,max m 0=m:=fun h=>by omega
 cases hb:s.b with
 |true=>
  rw[hb]at h1 hO2;simp only[Bool.true_or]at hO2;by_cases hm:m<0
  ·rw[hmx hm]at e5 g5⊢;simp -implicitDefEqProofs [nB,hG,hO1,k1,hb1,h1,hO2,k2,b2,b3,hm,k4,z4,e5,g5]
  ·rw[hmx' hm]at e5 g5⊢;simp -implicitDefEqProofs [nB,hG,hO1,k1,hb1,h1,hO2,k2,b2,b3,hm,k4,z4,e5,g5]
 |false=>
  rw[hb]at h1 hO2;simp only[Bool.false_or]at hO2;by_cases hm:m<0
  ·rw[hmx hm]at e5 g5⊢;simp only[hm,decide_true]at hO2;simp -implicitDefEqProofs [nB,hG,hO1,k1,hb1,h1,hO2,k2,b2,b3,hm,k4,z4,e5,g5]
  ·rw[hmx' hm]at e5 g5⊢;simp only[hm,decide_false]at hO2;simp -implicitDefEqProofs [nB,hG,hO1,k1,hb1,h1,hO2,k2,b2,b3,hm,k4,z4,e5,g5]
end
def eC:Str:=[108,101,116]
def fh:Str:=[59]
section
variable (L:List Tk)
def eH:Nat->List Vr->Ms->Option (List Vr×Ms)
 |0,_,_=>none
 |h+1,vs,s=>if s.b=false/\mis L s 4 eu=true then eH h (vs++[fU L (mnx L s)]) (eo L (eF L (mnx L s)))else some (vs,s)
def gN (h:Nat) (s:Ms):Option (Str×List Vr×Ms):=
 let s1:=ei L s 3 eC
 let s3:=ei L (eo L s1) 4 wL
 (if mis L s3 4 wR then some ([],s3)else eH L h [fU L s3] (eo L (eF L s3))).map fun r=>((tkA L s1.i).tx,r.1,ei L (ei L r.2 4 wR) 4 dK)
end
section
variable {L:List Tk}
theorem oa (s:Ms) (h:s.i<L.length):s.i<=(mnx L s).i:=by
 show s.i<=min (s.i+1) (L.length - 1);omega
theorem yn (hL:Lok L) {s:Ms} (h:s.i<L.length) (hk:(tkA L s.i).k≠0):(mnx L s).i=s.i+1:=by
 have:=mr hL h hk;show min (s.i+1) (L.length - 1)=s.i+1;omega
theorem iY {s:Ms} (h:s.i<L.length) (k:Int) (w:Str):(ei L s k w).i<L.length:=jw h
theorem im {s:Ms} (h:s.i<L.length):(eo L s).i<L.length:=jw h
theorem kJ {s:Ms} (h:s.i<L.length):(eF L s).i<L.length:=jw h
theorem yp {s:Ms} {w:Str} (h:mis L s 4 w=true):(tkA L s.i).k≠0:=by
 unfold mis at h;simp only[Bool.and_eq_true,decide_eq_true_eq]at h;omega
theorem C0 (hL:Lok L): ∀(h:Nat) (vs:List Vr) (s:Ms),s.i<L.length->L.length - s.i<h-> ∃r,eH L h vs s=some r/\r.2.i<L.length
 |0,_,_,_,h=>by omega
 |h+1,vs,s,hi,hh=>by
  unfold eH;split
  ·rename_i hc
   have h1:=yn hL hi (yp hc.2);have i1:(mnx L s).i<L.length:=jw hi;have i2:(eF L (mnx L s)).i<L.length:=kJ i1;have l2:(mnx L s).i<=(eF L (mnx L s)).i:=oa ⟨(mnx L s).i,(mnx L s).b||decide ((iX L (mnx L s)).getD (-1)<0)⟩ i1;have l3:(eF L (mnx L s)).i<=(eo L (eF L (mnx L s))).i:=oa ⟨(eF L (mnx L s)).i,_⟩ i2;exact C0 hL h _ _ (im i2) (by omega)
  ·exact⟨_,rfl,hi⟩
end
def ApV (n:Nat) (R:List Arr) (s1:Sp) (R':List Arr):Prop:=(∃Y,R'=R++Y)/\(s1=.full\/ ∃a,s1=.own a/\R.length<=a/\R'[a]? =some (.app n 74 2))
theorem C1 (vs:List Vr):dV 2 (vs.map vrv)=true:=by
 induction vs with
 |nil=>rfl
 |cons v vs ih=>rfl
theorem C2 {vs:List Vr} {R R':List Arr} {s1:Sp} (h:ApV vs.length R s1 R') (v:Vr) (O:List Obj) (hn:vs.length<858993459200):
  ∃s2 R3,dI 74 (.ag 2) 24 (.slc s1 (vs.map vrv)) [vrv v] ⟨O,R'⟩=some (.slc s2 ((vs++[v]).map vrv),⟨O,R3⟩)/\ApV (vs.length+1) R s2 R3/\s2≠ .full:=by
 have h1:(vs.length+1)*24<=140737488355328:=by omega
 have h2:vs.length+1<=140737488355328:=by omega
 have hz:=C1 vs;have hz1:dV 2 [vrv v]=true:=rfl;obtain⟨⟨Z,rfl⟩,h⟩:=h;rcases h with rfl|⟨a,rfl,h3,h4⟩
 ·refine⟨.own (R++Z).length,(R++Z)++[.app (vs.length+1) 74 2],?_,⟨⟨Z++[.app (vs.length+1) 74 2],by simp⟩,.inr ⟨_,rfl,by simp,by simp⟩⟩,by simp⟩;simp[dI,h1,h2,hz,hz1]
 ·have hlt:=(List.getElem?_eq_some_iff.1 h4).1;refine⟨.own a,(R++Z).set a (.app (vs.length+1) 74 2),?_,⟨⟨Z.set (a - R.length) (.app (vs.length+1) 74 2),by rw[List.set_append_right _ _ h3]⟩,.inr ⟨_,rfl,h3,List.getElem?_set_self hlt⟩⟩,by simp⟩;simp[dI,h1,h2,h4,hz,hz1]
def icM (nm:Str) (s1:Sp) (vs:List Vr):List AV:=[.str nm,.slc s1 (vs.map vrv),.int .i64 0,.slc .full [],.int .i64 0,.int .i64 0,.int .i64 0,.slc .full []]
abbrev zz8:List AV:=[.str [],.slc .full [],.int .i64 0,.slc .full [],.int .i64 0,.int .i64 0,.int .i64 0,.slc .full []]
abbrev yq (cl:a7) (p:Nat) (sp:Sp) (L:List Tk):Prop:= ∀O R s,Mrd O p sp L s->s.i<L.length->MR (cl 174 [.ptr p 0] ⟨O,R⟩) (.agg (vrc (fU L s))) p sp L (eo L (eF L s)) O R
theorem yr {O1:List Obj} {q p:Nat} {sp:Sp} {L:List Tk} {s:Ms} (c:Obj) (hq:q≠p) (hlt:q<O1.length) (r:Mrd O1 p sp L s):
  ∃O2,O1.set q c=O2/\Mrd O2 p sp L s/\O2[q]? =some c/\(∀i,i≠q->O2[i]? =O1[i]?)/\O2.length=O1.length:=by
 refine⟨_,rfl,?_,List.getElem?_set_self hlt,fun i hi=>List.getElem?_set_ne (by omega),by simp⟩;unfold Mrd;rw[List.getElem?_set_ne hq];exact r
section
variable {G:Gls} {cl:a7} {yl:a7} {N:Nat}
variable {p:Nat} {sp:Sp} {L:List Tk}
theorem OK (hL:Lok L) (nm:Str) {q2 q3:Nat} (h112:nZ cl p sp L) (h113:mC cl p sp L) (h174:yq cl p sp L) (hq3:q3≠p) (kk mm:Nat):
  ∀(h:Nat) (vs:List Vr) (s:Ms) (r:List Vr×Ms) (O:List Obj) (R R':List Arr) (s1:Sp) (N':Nat),eH L h vs s=some r->h<N'->vs.length+h<858993459200->Mrd O p sp L s->s.i<L.length->ApV vs.length R s1 R'->(s1=.full->vs=[])->O[q3]? =some (.cells (icM nm s1 vs))->
   ∃(O':List Obj) (R3:List Arr) (ts':dx) (s3:Sp),dh false (a8 G false cl yl N nr) ⟨[0,2,3],[(3,some 1)],true⟩ kk mm N' ⟨[(0,.ptr p 0),(2,.ptr q2 0),(3,.ptr q3 0)],⟨O,R'⟩,[]⟩=some (.exit 0,⟨ts',⟨O',R3⟩,[]⟩)/\
    look 0 ts'=.ptr p 0/\look 2 ts'=.ptr q2 0/\look 3 ts'=.ptr q3 0/\O'[q3]? =some (.cells (icM nm s3 r.1))/\Mrd O' p sp L r.2/\(∃Y,R3=R++Y)/\(s3=.full->r.1=[])/\O.length<=O'.length/\ ∀i,i<O.length->i≠p->i≠q3->O'[i]? =O[i]?:=by
 intro h
 induction h with
 |zero=>intro vs s r O R R' s1 N' e;simp[eH]at e
 |succ h ih=>
  intro vs s r O R R' s1 N' e hN' hb hR hi hA hsf g3;obtain⟨N',rfl⟩: ∃m,N'=m+1:=⟨N' - 1,by omega⟩
  simp only[eH]at e;have k1:=h112 O R' s 4 eu hR hi;have hw:eu=[44]:=rfl;rw[hw]at k1 e;have hR':=hR;unfold Mrd mdc at hR';by_cases hc:s.b=false/\mis L s 4 [44]=true
  ·rw[if_pos hc]at e;rw[hc.2]at k1;rw[hc.1]at hR';have k2:=h113 O R' s hR hi;have h2:=hR.put (mnx L s);obtain⟨O1,hO1⟩: ∃O1,O.set p (.cells (mdc sp L (mnx L s)))=O1:=⟨_,rfl⟩
   have f1:Fro p O O1:=by rw[<-hO1];exact .set _ _ _
   rw[hO1]at k2 h2;have i1:(mnx L s).i<L.length:=jw hi;obtain⟨O2,k3,f2,r2⟩:=h174 O1 R' (mnx L s) h2 i1;have g31:=f1.old g3 hq3;have g32:=f2.old g31 hq3;obtain⟨s2,R3,hap,hA3,hnf⟩:=C2 hA (fU L (mnx L s)) O2 (by omega);obtain⟨O3,e3,r3,g33,n3,m3⟩:=yr (.cells (icM nm s2 (vs++[fU L (mnx L s)]))) hq3 (List.getElem?_eq_some_iff.1 g32).1 r2;have l1:=f1.len;have l2:=f2.len;obtain⟨O4,R4,ts',s4,j1,j2,j3,j4,j5,j6,j7,jf,j8,j9⟩:=ih (vs++[fU L (mnx L s)]) _ r O3 R R3 s2 N' e (by omega) (by simp;omega) r3 (im (kJ i1)) (by simpa using hA3) (fun h=>absurd h hnf) g33;refine⟨O4,R4,ts',s4,?_,j2,j3,j4,j5,j6,j7,jf,by omega,fun i hi hp h3=>by rw[j9 i (by omega) hp h3,n3 i h3,f2.get i (by omega) hp,f1.get i hi hp]⟩;rw[<-j1];generalize fU L (mnx L s)=v at*;have step: ∃ts1,a8 G false cl yl N nr ⟨[(0,.ptr p 0),(2,.ptr q2 0),(3,.ptr q3 0)],⟨O,R'⟩,[]⟩=some (.normal,⟨ts1,⟨O3,R3⟩,[]⟩)/\fP ts1 [0,2,3]=[(0,.ptr p 0),(2,.ptr q2 0),(3,.ptr q3 0)]:=by
    clear j9 n3 m3 l1 l2 f1 f2 j8;unfold icM at g31 g32 e3;have hap':=hap;unfold vrc at k3;simp only[List.map_append,List.map_cons,List.map_nil]at hap' e3;apply Exists.intro;apply And.intro
    ·simp -implicitDefEqProofs [-dI,nr,hR',k1,k2,g31,k3,g32,hap',e3];rfl
    ·first|rfl|simp
   obtain⟨ts1,st1,st2⟩:=step;simp only[dh,st1,eI,Bool.false_eq_true,if_false,if_true,st2]
  ·rw[if_neg hc]at e;cases e
   suffices hx: ∃ts',dh false (a8 G false cl yl N nr) ⟨[0,2,3],[(3,some 1)],true⟩ kk mm (N'+1) ⟨[(0,.ptr p 0),(2,.ptr q2 0),(3,.ptr q3 0)],⟨O,R'⟩,[]⟩=some (.exit 0,⟨ts',⟨O,R'⟩,[]⟩)/\look 0 ts'=.ptr p 0/\look 2 ts'=.ptr q2 0/\look 3 ts'=.ptr q3 0 by
    obtain⟨ts',h1,h2,h3,h4⟩:=hx;exact⟨O,R',ts',s1,h1,h2,h3,h4,g3,hR,hA.1,hsf,Nat.le_refl _,fun _ _ _ _=>rfl⟩
   cases hb:s.b with
   |true=>
    rw[hb]at hR';apply Exists.intro;apply And.intro
    ·simp -implicitDefEqProofs [dh,nr,hR'];rfl
    ·refine⟨?_,?_,?_⟩<;>first|rfl|simp
   |false=>
    rw[hb]at hR';have hm:mis L s 4 [44]=false:=by
     cases hm:mis L s 4 [44]with
     |true=>exact absurd ⟨hb,hm⟩ hc
     |false=>rfl
    rw[hm]at k1;apply Exists.intro;apply And.intro
    ·simp -implicitDefEqProofs [dh,nr,hR',k1];rfl
    ·refine⟨?_,?_,?_⟩<;>first|rfl|simp
end
theorem uS {L:List Tk}: ∀{h:Nat} {vs:List Vr} {s:Ms} {r:List Vr×Ms},eH L h vs s=some r->s.i<L.length->r.2.i<L.length
 |0,vs,s,r,e,_=>by simp[eH]at e
 |h+1,vs,s,r,e,hi=>by
  unfold eH at e;split at e
  ·exact uS e (im (kJ (jw hi)))
  ·cases e;exact hi
abbrev C3 (cl:a7) (p:Nat) (sp:Sp) (L:List Tk):Prop:= ∀O R s k w,Mrd O p sp L s->s.i<L.length->MR (cl 172 [.ptr p 0,.int .i64 k,.str w] ⟨O,R⟩) (.tup []) p sp L (ei L s k w) O R
section
variable {G:Gls} {cl:a7} {yl:a7} {N:Nat}
variable {O:List Obj} {R:List Arr} {p:Nat} {sp:Sp} {L:List Tk} {s:Ms}
theorem OL (hL:Lok L) (h:Mrd O p sp L s) (hi:s.i<L.length) {H:Nat} {r:Str×List Vr×Ms} (e:gN L H s=some r) (hH:H+1<858993459200) (hN:H<N) (h112:nZ cl p sp L) (h113:mC cl p sp L) (h172:C3 cl p sp L) (h173:ym cl p sp L) (h174:yq cl p sp L):
  ∃s1 O' Y,dr G false cl yl N qO [.ptr p 0] ⟨O,R⟩=some (.agg (icM r.1 s1 r.2.1),⟨O',R++Y⟩)/\Fro p O O'/\Mrd O' p sp L r.2.2/\(s1=.full->r.2.1=[]):=by
 have hp:p<O.length:=(List.getElem?_eq_some_iff.1 h).1;obtain⟨O1,k1,f1,r1⟩:=h172 (O++[.cells zz8]) R s 3 eC (h.app _) hi;dsimp only[gN]at e;have i1:=iY hi 3 eC;obtain⟨O2,k2,f2,r2⟩:=h173 O1 R _ r1 i1;have i2:=im i1;generalize(tkA L (ei L s 3 eC).i).tx=nm at*;generalize eo L (ei L s 3 eC)=s2 at*;have l12:=(f1.trans f2).len;rw[List.length_append,List.length_singleton]at l12;obtain⟨O3,k3,f3,r3⟩:=h172 (O2++[.cells (icM nm .full [])]) R s2 4 wL (r2.app _) i2;have i3:=iY i2 4 wL;generalize ei L s2 4 wL=s3 at*;have g3:O3[O2.length]? =some (.cells (icM nm .full [])):=f3.old (by simp) (by omega);have k4:=h112 O3 R s3 4 wR r3 i3;have z3:O3[O.length]? =some (.cells zz8):=((f1.trans f2).trans ((Fro.app p O2 _).trans f3)).old (by simp) (by omega);have hq3:O2.length≠p:=by omega
 -- the end: two marks, the result
 have tail: ∀(O5:List Obj) (R5:List Arr) (s5:Ms) (s1:Sp) (vs:List Vr),Mrd O5 p sp L s5->s5.i<L.length->O5[O2.length]? =some (.cells (icM nm s1 vs))->O5[O.length]? =some (.cells zz8)->
   ∃O6 O7 O8,cl 172 [.ptr p 0,.int .i64 4,.str wR] ⟨O5,R5⟩=some (.tup [],⟨O6,R5⟩)/\cl 172 [.ptr p 0,.int .i64 4,.str dK] ⟨O6,R5⟩=some (.tup [],⟨O7,R5⟩)/\O7[O2.length]? =some (.cells (icM nm s1 vs))/\O7[O.length]? =some (.cells zz8)/\O7.set O.length (.cells (icM nm s1 vs))=O8/\O8[O.length]? =some (.cells (icM nm s1 vs))/\Mrd O8 p sp L (ei L (ei L s5 4 wR) 4 dK)/\O5.length<=O8.length/\(∀i,i<O5.length->i≠p->i≠O.length->O8[i]? =O5[i]?):=by
  intro O5 R5 s5 s1 vs hr hi5 hg hz;obtain⟨O6,k6,f6,r6⟩:=h172 O5 R5 s5 4 wR hr hi5;obtain⟨O7,k7,f7,r7⟩:=h172 O6 R5 _ 4 dK r6 (iY hi5 4 wR);have f67:=f6.trans f7;have z7:=f67.old hz (by omega);obtain⟨O8,e8,r8,g8,n8,m8⟩:=yr (.cells (icM nm s1 vs)) (show O.length≠p by omega) (List.getElem?_eq_some_iff.1 z7).1 r7;have:=f67.len;exact⟨O6,O7,O8,k6,k7,f67.old hg hq3,z7,e8,g8,r8,by omega,fun i hi hp hz=>by rw[n8 i hz];exact f67.get i hi hp⟩
 have hwl:eC=[108,101,116]:=rfl;have hw1:wL=[40]:=rfl;have hw2:wR=[41]:=rfl;have hw3:dK=[58]:=rfl;cases hm:mis L s3 4 wR with
 |true=>
  rw[hm]at e k4;simp only[if_true,Option.map_some,Option.some.injEq]at e;subst e;obtain⟨O6,O7,O8,k6,k7,g7,z7,e8,g8,r8,l8,n8⟩:=tail O3 R s3 .full [] r3 i3 g3 z3;have l3:=f3.len;rw[List.length_append,List.length_singleton]at l3;refine⟨.full,O8,[],?_,⟨by omega,fun i hi hp=>?_⟩,r8,fun _=>rfl⟩
  ·rw[hwl]at k1;rw[hw1]at k3;rw[hw2]at k4 k6;rw[hw3]at k7;unfold icM at k3 g7 e8 g8⊢;clear l8 n8 l3 tail f1 f2 f3;simp -implicitDefEqProofs at k3 e8 g7 g8;simp -implicitDefEqProofs [qO,k1,k2,k3,k4,k6,k7,g7,z7,e8,g8]
  ·rw[n8 i (by omega) hp (by omega),f3.get i (by rw[List.length_append];omega) hp,List.getElem?_append_left (by omega),f2.get i (by have:=f1.len;rw[List.length_append,List.length_singleton]at this;omega) hp,f1.get i (by rw[List.length_append];omega) hp,List.getElem?_append_left hi]
 |false=>
  rw[hm]at e k4;simp only[Bool.false_eq_true,if_false,Option.map_eq_some_iff]at e;obtain⟨q,hq,rfl⟩:=e;obtain⟨O4,k5,f4,r4⟩:=h174 O3 R s3 r3 i3;have g4:=f4.old g3 hq3;have z4:=f4.old z3 (by omega);have hA0:ApV ([]:List Vr).length R .full R:=⟨⟨[],by simp⟩,.inl rfl⟩
  obtain⟨sA,RA,hap,hA,hnf⟩:=C2 hA0 (fU L s3) O4 (by simp);obtain⟨O5,e5,r5,g5,n5,m5⟩:=yr (.cells (icM nm sA ([]++[fU L s3]))) hq3 (List.getElem?_eq_some_iff.1 g4).1 r4;have z5:O5[O.length]? =some (.cells zz8):=by rw[n5 _ (by omega)];exact z4
  obtain⟨O6,R6,ts',s6,j1,j2,j3,j4,j5,j6,⟨Y,rfl⟩,jf,j8,j9⟩:=OK (G:=G) (yl:=yl) (N:=N) hL nm (q2:=O.length) (q3:=O2.length) h112 h113 h174 hq3 O5.length RA.length H [fU L s3] _ q O5 R RA sA N hq hN (by simp;omega) r5 (im (kJ i3)) (by simpa using hA) (fun h=>absurd h hnf) (by simpa using g5);have l3:=f3.len;rw[List.length_append,List.length_singleton]at l3;have l4:=f4.len;have z6:O6[O.length]? =some (.cells zz8):=by rw[j9 _ (by omega) (by omega) (by omega)];exact z5
  have hrq2:=uS hq (im (kJ i3));obtain⟨O7,O8,O9,k7,k8,g8,z8,e9,g9,r9,l9,n9⟩:=tail O6 (R++Y) q.2 s6 q.1 j6 hrq2 j5 z6;refine⟨s6,O9,Y,?_,⟨by omega,fun i hi hp=>?_⟩,r9,jf⟩
  ·rw[hwl]at k1;rw[hw1]at k3;rw[hw2]at k4 k7;rw[hw3]at k8;unfold icM at k3 g3 g4 e5 g5 g8 e9 g9⊢;unfold vrc at k5;clear l9 n9 l3 l4 tail f1 f2 f3 f4 j9 n5 m5 j8
   try simp -implicitDefEqProofs at k3
   try simp -implicitDefEqProofs at e5
   try simp -implicitDefEqProofs at g5
   try simp -implicitDefEqProofs [-dI]at hap
   try simp -implicitDefEqProofs at j1
   simp -implicitDefEqProofs [-dI,qO,k1,k2,k3,k4,g3,k5,g4,hap,e5,g5,j1,j2,j3,j4,k7,k8,g8,z8,e9,g9]
  ·rw[n9 i (by omega) hp (by omega),j9 i (by omega) hp (by omega),n5 i (by omega),f4.get i (by omega) hp,f3.get i (by rw[List.length_append];omega) hp,List.getElem?_append_left (by omega),f2.get i (by have:=f1.len;rw[List.length_append,List.length_singleton]at this;omega) hp,f1.get i (by rw[List.length_append];omega) hp,List.getElem?_append_left hi]
end
def gV (L:List Tk):Nat->Ms->Option (Option Ms)
 |0,_=>none
 |h+1,s=>if mis L s 4 fh=true then some (some s)else if(tkA L s.i).k=0 then some none else gV L h (mnx L s)
def dtx (L:List Tk) (i j:Nat):Str:=Lib.join (((L.drop i).take (j - i)).map Tk.tx) [32]
def mcZ:Mc:=⟨[],[],ndZ⟩
noncomputable def gW (t:Nat) (L:List Tk) (H:Nat) (s:Ms):Option (Mc×Int×Ms):=
 (gN L H s).bind fun r=>if r.2.2.b=true then some (mcZ,3,r.2.2)else(gV L H r.2.2).map fun q=>match q with
  |none=>(mcZ,3,r.2.2)
  |some s2=>(⟨r.1,r.2.1,(pfS t (dtx L r.2.2.i s2.i)).1⟩,(pfS t (dtx L r.2.2.i s2.i)).2,mnx L s2)
theorem qc {L:List Tk}: ∀{h:Nat} {s s':Ms},gV L h s=some (some s')->s.i<L.length->s'.i<L.length/\s.i<=s'.i/\s'.b=s.b/\(∀j,s.i<=j->j<s'.i->(tkA L j).k≠0)/\mis L s' 4 fh=true
 |0,s,s',e,_=>by simp[gV]at e
 |h+1,s,s',e,hi=>by
  unfold gV at e;split at e
  ·rename_i hm
   cases e;exact⟨hi,Nat.le_refl _,rfl,fun j h1 h2=>by omega,hm⟩
  ·split at e
   ·cases e
   ·rename_i hk
    obtain⟨h1,h2,h3,h4,h5⟩:=qc e (jw hi);have hle:=oa s hi;refine⟨h1,by omega,h3,fun j j1 j2=>?_,h5⟩;by_cases hj:j=s.i
    ·rw[hj];exact hk
    ·refine h4 j ?_ j2;show min (s.i+1) (L.length - 1)<=j;omega
theorem C4 {L:List Tk} (hL:Lok L): ∀(h:Nat) (s:Ms),s.i<L.length->L.length - s.i<h-> ∃r,gV L h s=some r
 |0,_,_,h=>by omega
 |h+1,s,hi,hh=>by
  unfold gV;split
  ·exact⟨_,rfl⟩
  ·split
   ·exact⟨_,rfl⟩
   ·rename_i hk
    have:=yn hL hi hk;exact C4 hL h _ (jw hi) (by omega)
def mcs (sp:Sp) (m:Mc):List AV:=.str m.nm::.slc sp (m.ps.map vrv)::ndc m.bd
section
variable {G:Gls} {cl:a7} {yl:a7} {N:Nat}
variable {p:Nat} {L:List Tk}
theorem OM (hL:Lok L) {q2 q4:Nat} {v5:AV} (hv:v5=v5) (h112:nZ cl p .shared L) (h113:mC cl p .shared L) (hq2:q2≠p) (kk mm:Nat) (hb:L.length<big):
  ∀(h:Nat) (s:Ms) (r:Option Ms) (O:List Obj) (R:List Arr) (N':Nat),gV L h s=some r->h<N'->Mrd O p .shared L s->s.i<L.length->O[q2]? =some (.cells zz8)->
   ∃(e:Ex) (O':List Obj) (ts':dx),dh false (a8 G false cl yl N lW) ⟨[0,2,4,5],[],true⟩ kk mm N' ⟨[(0,.ptr p 0),(2,.ptr q2 0),(4,.ptr q4 0),(5,v5)],⟨O,R⟩,[]⟩=some (e,⟨ts',⟨O',R⟩,[]⟩)/\Fro p O O'/\O'[q2]? =some (.cells zz8)/\look 2 ts'=.ptr q2 0/\match r with
    |some s'=>e=.exit 0/\look 0 ts'=.ptr p 0/\look 4 ts'=.ptr q4 0/\look 5 ts'=v5/\Mrd O' p .shared L s'
    |none=>e=.ret/\look 3 ts'=.int .i64 3:=by
 intro h
 induction h with
 |zero=>intro s r O R N' e;simp[gV]at e
 |succ h ih=>
  intro s r O R N' e hN' hR hi h2;obtain⟨N',rfl⟩: ∃m,N'=m+1:=⟨N' - 1,by omega⟩
  have k1:=h112 O R s 4 fh hR hi;have hx:=gq hi;have hx':=(List.getElem?_eq_some_iff.1 hx).2;have hw:fh=[59]:=rfl;unfold gV at e;rw[hw]at k1 e;have hR':=hR;unfold Mrd mdc at hR';cases hm:mis L s 4 [59]with
  |true=>
   rw[hm]at k1 e;rw[if_pos rfl]at e;cases e
   suffices hx: ∃ts',dh false (a8 G false cl yl N lW) ⟨[0,2,4,5],[],true⟩ kk mm (N'+1) ⟨[(0,.ptr p 0),(2,.ptr q2 0),(4,.ptr q4 0),(5,v5)],⟨O,R⟩,[]⟩=some (.exit 0,⟨ts',⟨O,R⟩,[]⟩)/\look 2 ts'=.ptr q2 0/\look 0 ts'=.ptr p 0/\look 4 ts'=.ptr q4 0/\look 5 ts'=v5 by
    obtain⟨ts',t1,t2,t3,t4,t5⟩:=hx;exact⟨_,O,ts',t1,.refl _ _,h2,t2,rfl,t3,t4,t5,hR⟩
   apply Exists.intro;apply And.intro
   ·simp -implicitDefEqProofs [dh,lW,k1];rfl
   ·refine⟨?_,?_,?_,?_⟩<;>first|rfl|simp
  |false=>
   rw[hm]at k1 e;rw[if_neg (by simp)]at e;by_cases hk:(tkA L s.i).k=0
   ·rw[if_pos hk]at e;cases e;generalize tkA L s.i=tk at*;have hk':(tk.k==0)=true:=by simp[hk]
    suffices hx: ∃ts',dh false (a8 G false cl yl N lW) ⟨[0,2,4,5],[],true⟩ kk mm (N'+1) ⟨[(0,.ptr p 0),(2,.ptr q2 0),(4,.ptr q4 0),(5,v5)],⟨O,R⟩,[]⟩=some (.ret,⟨ts',⟨O.set q2 (.cells zz8),R⟩,[]⟩)/\look 2 ts'=.ptr q2 0/\look 3 ts'=.int .i64 3 by
     obtain⟨ts',t1,t2,t3⟩:=hx;have hs:O.set q2 (.cells zz8)=O:=by
      apply List.ext_getElem?;intro i;by_cases hqi:i=q2
      ·subst hqi;rw[h2,List.getElem?_set_self (List.getElem?_eq_some_iff.1 h2).1]
      ·rw[List.getElem?_set_ne (by omega)]
     rw[hs]at t1;exact⟨_,O,ts',t1,.refl _ _,h2,t2,rfl,t3⟩
    apply Exists.intro;apply And.intro
    ·simp -implicitDefEqProofs [dh,lW,k1,hR',hi,hx',tkv,tkC,hk,hk',h2];rfl
    ·refine⟨?_,?_⟩<;>first|rfl|simp
   ·rw[if_neg hk]at e;have k2:=h113 O R s hR hi;obtain⟨O1,hO1⟩: ∃O1,O.set p (.cells (mdc .shared L (mnx L s)))=O1:=⟨_,rfl⟩
    have f1:Fro p O O1:=by rw[<-hO1];exact .set _ _ _
    have r1:=hR.put (mnx L s);rw[hO1]at k2 r1;obtain⟨e9,O9,ts9,j1,j2,j3,j4,j5⟩:=ih (mnx L s) r O1 R N' e (by omega) r1 (jw hi) (f1.old h2 hq2);refine⟨e9,O9,ts9,?_,f1.trans j2,j3,j4,j5⟩;rw[<-j1];generalize tkA L s.i=tk at*;have hk':(tk.k==0)=false:=by simp[hk]
    have step: ∃ts1,a8 G false cl yl N lW ⟨[(0,.ptr p 0),(2,.ptr q2 0),(4,.ptr q4 0),(5,v5)],⟨O,R⟩,[]⟩=some (.normal,⟨ts1,⟨O1,R⟩,[]⟩)/\fP ts1 [0,2,4,5]=[(0,.ptr p 0),(2,.ptr q2 0),(4,.ptr q4 0),(5,v5)]:=by
     clear j1 j2 j3 j4 j5 ih f1 r1 hO1;apply Exists.intro;apply And.intro
     ·simp -implicitDefEqProofs [lW,k1,hR',hi,hx',tkv,tkC,hk,hk',k2];rfl
     ·first|rfl|simp
    obtain⟨ts1,st1,st2⟩:=step;simp only[dh,st1,eI,Bool.false_eq_true,if_false,if_true,st2]
end
abbrev Btw (L:List Tk) (i j:Nat):Prop:=i<=j/\j<L.length/\ ∀k,i<=k->k<j->(tkA L k).k≠0
abbrev C5 (cl:a7) (p:Nat) (L:List Tk) (H:Nat):Prop:= ∀O R s r,Mrd O p .shared L s->s.i<L.length->gN L H s=some r-> ∃s1 O' Y,cl 111 [.ptr p 0] ⟨O,R⟩=some (.agg (icM r.1 s1 r.2.1),⟨O',R++Y⟩)/\Fro p O O'/\Mrd O' p .shared L r.2.2/\(s1=.full->r.2.1=[])
abbrev C6 (cl:a7) (L:List Tk):Prop:= ∀i j,Btw L i j-> ∀M,cl 114 [.slc .shared (((L.drop i).take (j - i)).map tkv)] M=some (.tup [.str (dtx L i j),.int .i64 0],M)
abbrev C7 (t:Nat) (cl:a7) (L:List Tk):Prop:= ∀i j,Btw L i j-> ∃q1 q2:Int,∀M,cl 115 [.str (dtx L i j)] M=some (.tup [av (pfS t (dtx L i j)).1,.agg [.int .i64 q1,.int .i64 q2],.int .i64 (pfS t (dtx L i j)).2],M)
theorem uT {L:List Tk} {H:Nat} {s:Ms} {r:Str×List Vr×Ms} (e:gN L H s=some r) (hi:s.i<L.length):r.2.2.i<L.length:=by
 dsimp only[gN]at e;simp only[Option.map_eq_some_iff]at e;obtain⟨q,hq,rfl⟩:=e;have h3:(ei L (eo L (ei L s 3 eC)) 4 wL).i<L.length:=iY (im (iY hi 3 eC)) 4 wL;refine iY (iY ?_ 4 wR) 4 dK;split at hq
 ·cases hq;exact h3
 ·exact uS hq (im (kJ h3))
section
variable {G:Gls} {cl:a7} {yl:a7} {N:Nat}
variable {O:List Obj} {R:List Arr} {p t:Nat} {L:List Tk} {s:Ms}
theorem ON (hL:Lok L) (hb:L.length<big) (h:Mrd O p .shared L s) (hi:s.i<L.length) {H:Nat} {r:Mc×Int×Ms} (e:gW t L H s=some r) (hN:H<N)
  (h111:C5 cl p L H) (h112:nZ cl p .shared L) (h113:mC cl p .shared L) (h114:C6 cl L) (h115:C7 t cl L):
  ∃cs O' Y,dr G false cl yl N c55 [.ptr p 0] ⟨O,R⟩=some (.tup [.agg cs,.int .i64 r.2.1],⟨O',R++Y⟩)/\Fro p O O'/\cs.length=8/\(r.2.1=0-> ∃sp1,cs=mcs sp1 r.1/\Mrd O' p .shared L r.2.2/\(sp1=.full->r.1.ps=[])):=by
 have hp:p<O.length:=(List.getElem?_eq_some_iff.1 h).1;unfold gW at e;simp only[Option.bind_eq_some_iff]at e;obtain⟨q,hq,e⟩:=e;obtain⟨s1,O1,Y,k1,f1,r1,hsf⟩:=h111 (O++[.cells zz8]) R s q (h.app _) hi hq;have i1:=uT hq hi;obtain⟨nm,vs,sh⟩:=q;simp only at e k1 r1 i1 hsf;have l1:=f1.len;rw[List.length_append,List.length_singleton]at l1;have z1:O1[O.length]? =some (.cells zz8):=f1.old (by simp) (by omega);have z2:(O1++[Obj.cells (icM nm s1 vs)])[O.length]? =some (.cells zz8):=dD z1 _;have r2:=r1.app [.cells (icM nm s1 vs)];have c2:(O1++[Obj.cells (icM nm s1 vs)])[O1.length]? =some (.cells (icM nm s1 vs)):=by simp
 obtain⟨O2,hO2⟩: ∃O2,O1++[Obj.cells (icM nm s1 vs)]=O2:=⟨_,rfl⟩
 have f12:Fro p O O2:=by
  rw[<-hO2];exact((Fro.app p O _).trans f1).trans (.app _ _ _)
 rw[hO2]at z2 r2 c2;have hl2:O1.length<O2.length:=(List.getElem?_eq_some_iff.1 c2).1;have zs: ∀{O3:List Obj},O3[O.length]? =some (.cells zz8)->O3.set O.length (.cells zz8)=O3:=by
  intro O3 hz;apply List.ext_getElem?;intro i;by_cases hqi:i=O.length
  ·subst hqi;rw[hz,List.getElem?_set_self (List.getElem?_eq_some_iff.1 hz).1]
  ·rw[List.getElem?_set_ne (by omega)]
 have r2':=r2;unfold Mrd mdc at r2';by_cases hbad:sh.b=true
 ·rw[if_pos hbad]at e;cases e;rw[hbad]at r2';refine⟨zz8,O2,Y,?_,f12,rfl,fun h0=>by cases h0⟩;have hzs:=zs z2;unfold icM at k1 hO2;simp -implicitDefEqProofs [c55,k1,hO2,r2',z2,hzs]
 ·rw[if_neg hbad]at e;have hbf:sh.b=false:=by cases hb':sh.b with
   |true=>exact absurd hb' hbad
   |false=>rfl
  rw[hbf]at r2';simp only[Option.map_eq_some_iff]at e;obtain⟨q2,hs,e⟩:=e;obtain⟨ee,O3,ts3,j1,f3,z3,t2,j2⟩:=OM (G:=G) (cl:=cl) (yl:=yl) (N:=N) hL (q2:=O.length) (q4:=O1.length) (v5:=.int .i64 (sh.i:Nat)) rfl h112 h113 (by omega) O2.length (R++Y).length hb H sh q2 O2 (R++Y) N hs hN r2 i1 z2;cases q2 with
  |none=>
   obtain⟨rfl,t3⟩:=j2;subst e;refine⟨zz8,O3,Y,?_,f12.trans f3,rfl,fun h0=>by cases h0⟩;unfold icM at k1 hO2;simp -implicitDefEqProofs at j1;simp -implicitDefEqProofs [c55,k1,hO2,r2',j1,t2,t3,z3]
  |some s2=>
   obtain⟨rfl,t0,t4,t5,r3⟩:=j2;obtain⟨i2,le2,b2,nz,-⟩:=qc hs i1;dsimp only at e;subst e;dsimp only;have btw:Btw L sh.i s2.i:=⟨le2,i2,nz⟩
   have k4:=h114 _ _ btw;obtain⟨x1,x2,k5⟩:=h115 _ _ btw;have hdt:((L.drop sh.i).take (s2.i - sh.i)).map tkv=List.drop sh.i (List.take s2.i (L.map tkv)):=by
    rw[<-List.map_take,<-List.map_drop,List.drop_take]
   rw[hdt]at k4;have hle3:s2.i<=L.length:=by omega
   have hsz:dV 5 (L.map tkv)=true:=by simp
   have c3:O3[O1.length]? =some (.cells (icM nm s1 vs)):=f3.old c2 (by omega);have k6:=h113 O3 (R++Y) s2 r3 i2;have r4:=r3.put (mnx L s2);obtain⟨O4,hO4⟩: ∃O4,O3.set p (.cells (mdc .shared L (mnx L s2)))=O4:=⟨_,rfl⟩
   have f4:Fro p O3 O4:=by rw[<-hO4];exact .set _ _ _
   rw[hO4]at k6 r4;have c4:O4[O1.length]? =some (.cells (icM nm s1 vs)):=f4.old c3 (by omega);have z4:O4[O.length]? =some (.cells zz8):=f4.old z3 (by omega);generalize dtx L sh.i s2.i=tx at*;generalize pfS t tx=pf at*;obtain⟨n,en⟩:=pf;simp only at k5⊢;obtain⟨O5,e5,g5,n5,m5⟩:=fe (.cells (mcs s1 ⟨nm,vs,n⟩)) (List.getElem?_eq_some_iff.1 c4).1;have z5:O5[O.length]? =some (.cells zz8):=by rw[n5 _ (by omega)];exact z4
   obtain⟨O6,e6,g6,n6,m6⟩:=fe (.cells (mcs s1 ⟨nm,vs,n⟩)) (List.getElem?_eq_some_iff.1 z5).1;have r3':=r3;unfold Mrd mdc at r3';refine⟨mcs s1 ⟨nm,vs,n⟩,O6,Y,?_,⟨?_,?_⟩,by simp[mcs],fun _=>⟨s1,rfl,?_,hsf⟩⟩
   ·unfold icM at k1 hO2 c3 c4;unfold mcs at e5 g5 e6 g6⊢;simp -implicitDefEqProofs at j1;clear n5 n6 m5 m6 f12 f1 f3 f4 hO4 r4 r3 r2 r1 nz btw hdt i1 h111 h112 h113 h114 h115;cases n with
    |mk op ns so nn mm l=>
    unfold ndc at e5 g5 e6 g6⊢;simp -implicitDefEqProofs [c55,k1,hO2,r2',j1,t0,t2,t4,t5,r3',hle3,le2,hsz,k4,k6,k5,c4,e5,g5,z5,e6,g6,av]
   ·have:=f12.len;have:=f3.len;have:=f4.len;omega
   ·intro i hi2 hip;have:=f12.len;have:=f3.len;have:=f4.len;rw[n6 i (by omega),n5 i (by omega),f4.get i (by omega) hip,f3.get i (by omega) hip,f12.get i hi2 hip]
   ·unfold Mrd;rw[n6 p (by omega),n5 p (by omega)];exact r4
end
def mco (m:Mc) (P:AV):List AV:=[.str m.nm,P,.int .i64 m.bd.op,.slc .shared (m.bd.ns.map .str),.int .i64 m.bd.so,.int .i64 m.bd.nn,.int .i64 m.bd.mm,.slc .shared (avL m.bd.l)]
theorem OO {m:Mc} {P:AV} (h:dY P=some (.slc .shared (m.ps.map vrv))):dY (.agg (mco m P))=some (mcv m):=by
 rw[lm];simp[mco,dY,gX,h]
section
variable {G:Gls} {cl:a7} {yl:a7} {N:Nat}
structure yu (cl:a7) (w:List Mc) (m:Mc) (P:AV) (id:Nat) (O:List Obj) (R:List Arr):Prop where
 h15: ∀X,Gr (cl 15 [.ptr id 0,.str m.nm] ⟨O++X,R⟩) (lup w m.nm) (O++X) R
 h36: ∀M,cl 36 [.str m.nm] M=some (.bool (dy m.nm),M)
 h37: ∀X,Gr (cl 37 [P] ⟨O++X,R⟩) (.int .i64 (fu m.ps)) (O++X) R
 h38: ∀M,cl 38 [av m.bd] M=some (.int .i64 (chk m.bd),M)
 h40: ∀X,∃c Y,cl 40 [P] ⟨O++X,R⟩=some (c,⟨O++X++Y,R⟩)/\Sc (O++X++Y) c m.ps
 h39:chk m.bd=0->fu m.ps=0-> ∀X c,Sc (O++X) c m.ps->Gr (cl 39 [.ptr id 0,av m.bd,c,.bool true] ⟨O++X,R⟩) (.int .i64 (wlk w true m.bd m.ps)) (O++X) R
 h41: ∀X,∃P' X' Y',cl 41 [.agg (mco m P)] ⟨O++X,R⟩=some (.agg (mco m P'),⟨O++X++X',R++Y'⟩)/\dY P'=some (.slc .shared (m.ps.map vrv))
theorem OP (w:List Mc) (m:Mc) {P:AV} {id:Nat} {a:Option Nat} {O:List Obj} {R:List Arr} (hs:dQ O R id a w) (h:yu cl w m P id O R) (hm:may w m≠0):
  Gr (dr G false cl yl N c12 [.ptr id 0,.agg (mco m P)] ⟨O,R⟩) (.int .i64 (may w m)) O R:=by
 obtain⟨h15,h36,h37,h38,h40,h39,h41⟩:=h;obtain⟨sp,hg⟩:=hs.get;have hg':=fun r=>dD hg r;obtain⟨Y,hY⟩:=h15 [.cells (mco m P)];obtain⟨dc,hdc,hl⟩:=ru w m.nm;rw[hl]at hY;unfold may at hm⊢;simp -implicitDefEqProofs [mco]at hY;by_cases c1:64<=w.length
 ·have c1':(64:Int)<=(w.length:Int):=by omega
  simp only[c1,if_true];unfold Gr;apply Exists.intro;simp -implicitDefEqProofs [c12,mco,hY,hdc,hg',c1'];rfl
 ·have c1': ¬(64:Int)<=(w.length:Int):=by omega
  simp only[c1,if_false]at hm⊢;cases c2:dy m.nm with
  |false=>
   rw[c2]at h36;simp only[if_true];unfold Gr;apply Exists.intro;simp -implicitDefEqProofs [c12,mco,hY,hdc,hg',c1',h36];rfl
  |true=>
   rw[c2]at h36 hm;simp only[Bool.true_eq_false,if_false]at hm⊢;cases c3:(fnd w m.nm).isSome with
   |true=>
    rw[c3]at hY;simp only[if_true];unfold Gr;apply Exists.intro;simp -implicitDefEqProofs [c12,mco,hY,hdc,hg',c1',h36];rfl
   |false=>
    rw[c3]at hY hm;simp only[Bool.false_eq_true,if_false]at hm⊢;obtain⟨V,hV⟩:=h37 (.cells (mco m P)::(Y++[.cells dc]));by_cases c4:fu m.ps=0
    ·rw[c4]at hV;simp only[c4,if_true]at hm⊢;by_cases c5:chk m.bd=0
     ·rw[c5]at h38;simp only[c5,if_true]at hm⊢;obtain⟨c,Z,hZ,hc⟩:=h40 ((.cells (mco m P)::(Y++[.cells dc]))++V);obtain⟨Q,hQ⟩:=h39 c5 c4 (((.cells (mco m P)::(Y++[.cells dc]))++V)++Z) c (by rw[<-List.append_assoc];exact hc);simp -implicitDefEqProofs [mco]at hV hZ hQ;have hm':(wlk w true m.bd m.ps==0)=false:=by simp[hm]
      unfold Gr;apply Exists.intro;simp -implicitDefEqProofs [c12,mco,hY,hdc,hg',c1',h36,hV,h38,hZ,hQ,hm'];rfl
     ·simp only[c5,if_false]at hm⊢;have c5':(chk m.bd==0)=false:=by simp[c5]
      simp -implicitDefEqProofs [mco]at hV;unfold Gr;apply Exists.intro;simp -implicitDefEqProofs [c12,mco,hY,hdc,hg',c1',h36,hV,h38,c5'];rfl
    ·simp only[c4,if_false];have c4':(fu m.ps==0)=false:=by simp[c4]
     simp -implicitDefEqProofs [mco]at hV;unfold Gr;apply Exists.intro;simp -implicitDefEqProofs [c12,mco,hY,hdc,hg',c1',h36,hV,c4'];rfl
theorem OQ (w:List Mc) (m:Mc) {P:AV} {id:Nat} {a:Option Nat} {O:List Obj} {R:List Arr} (hs:dQ O R id a w) (h:yu cl w m P id O R) (hm:may w m=0):
  ∃O' R' a',dr G false cl yl N c12 [.ptr id 0,.agg (mco m P)] ⟨O,R⟩=some (.int .i64 0,⟨O',R'⟩)/\ry O R id a (w++[m]) O' R' a':=by
 obtain⟨h15,h36,h37,h38,h40,h39,h41⟩:=h;obtain⟨Y,hY⟩:=h15 [.cells (mco m P)];obtain⟨dc,hdc,hl⟩:=ru w m.nm;rw[hl]at hY;unfold may at hm;simp -implicitDefEqProofs [mco]at hY;by_cases c1:64<=w.length
 ·simp[c1]at hm
 ·have c1': ¬(64:Int)<=(w.length:Int):=by omega
  simp only[c1,if_false]at hm;cases c2:dy m.nm with
  |false=>simp[c2]at hm
  |true=>
   rw[c2]at h36 hm;simp only[Bool.true_eq_false,if_false]at hm;cases c3:(fnd w m.nm).isSome with
   |true=>simp[c3]at hm
   |false=>
    rw[c3]at hY hm;simp only[Bool.false_eq_true,if_false]at hm;obtain⟨V,hV⟩:=h37 (.cells (mco m P)::(Y++[.cells dc]));by_cases c4:fu m.ps=0
    ·rw[c4]at hV;simp only[c4,if_true]at hm;by_cases c5:chk m.bd=0
     ·rw[c5]at h38;simp only[c5,if_true]at hm;obtain⟨c,Z,hZ,hc⟩:=h40 ((.cells (mco m P)::(Y++[.cells dc]))++V);obtain⟨Q,hQ⟩:=h39 c5 c4 (((.cells (mco m P)::(Y++[.cells dc]))++V)++Z) c (by rw[<-List.append_assoc];exact hc);rw[hm]at hQ;obtain⟨P',X',Y',h41,hP'⟩:=h41 ((((.cells (mco m P)::(Y++[.cells dc]))++V)++Z)++Q);have hsz:=nT w;have hsm:=nS m [];have hq1:(w.length+1)*120<=140737488355328:=by omega
      have hq2:w.length+1<=140737488355328:=by omega
      simp -implicitDefEqProofs [mco]at hV hZ hQ hsm h41;cases hs with
      |nil hg=>
       have hg':=fun r=>dD hg r;have hlt:id<O.length:=(List.getElem?_eq_some_iff.1 hg).1;have hst:=fun r x=>rx (l:=O) hlt r x;obtain⟨X,hX⟩: ∃X,dr G false cl yl N c12 [.ptr id 0,.agg (mco m P)] ⟨O,R⟩=some (.int .i64 0,⟨O.set id (.cells [.slc (.own (R++Y').length) [mcv m]])++X,R++Y'++[.app 1 42 8]⟩):=by
        apply Exists.intro;simp -implicitDefEqProofs [c12,mco,hY,hdc,hg',c1',h36,hV,h38,hZ,hQ,hst,hsm,h41,hP'];rfl
       refine⟨_,_,some (R++Y').length,hX,?_⟩;refine⟨.own (a:=(R++Y').length) ?_ (by simp),?_,?_,.inr ⟨rfl,_,by simp,rfl⟩⟩
       ·exact dD (by simp[hlt]) _
       ·intro i o hi ho;refine dD ?_ _;rw[List.getElem?_set_ne (by omega)];exact ho
       ·intro b r hb hr;exact dD (dD hr _) _
      |own hg hr=>
       rename_i a
       have hg':=fun r=>dD hg r;have hr':=fun r=>dD hr r;have hlt:id<O.length:=(List.getElem?_eq_some_iff.1 hg).1;have hla:a<R.length:=(List.getElem?_eq_some_iff.1 hr).1;have hst:=fun r x=>rx (l:=O) hlt r x;have hst2:=fun r x=>rx (l:=R) hla r x;obtain⟨X,hX⟩: ∃X,dr G false cl yl N c12 [.ptr id 0,.agg (mco m P)] ⟨O,R⟩=some (.int .i64 0,⟨O.set id (.cells [.slc (.own a) ((w++[m]).map mcv)])++X,R.set a (.app (w++[m]).length 42 8)++Y'⟩):=by
        apply Exists.intro;simp -implicitDefEqProofs [c12,mco,hY,hdc,hg',c1',h36,hV,h38,hZ,hQ,hst,hst2,hsm,h41,hP',hr',hsz,hq1,hq2];rfl
       refine⟨_,_,some a,hX,?_⟩;refine⟨.own (a:=a) ?_ (dD (by simp[hla]) _),?_,?_,.inl rfl⟩
       ·exact dD (by simp[hlt]) _
       ·intro i o hi ho;refine dD ?_ _;rw[List.getElem?_set_ne (by omega)];exact ho
       ·intro b r hb hr';refine dD ?_ _;rw[List.getElem?_set_ne (by intro e;exact hb (by rw[e]))];exact hr'
     ·simp[c5]at hm
    ·simp[c4]at hm
end
noncomputable def ip (t:Nat) (L:List Tk) (H:Nat):Nat->List Mc->Ms->Option (List Mc×Int)
 |0,_,_=>none
 |h+1,w,s=>if(tkA L s.i).k=0 then some (w,0)else(gW t L H s).bind fun r=>if r.2.1≠0 then some (w,r.2.1)else if may w r.1≠0 then some (w,may w r.1)else ip t L H h (w++[r.1]) r.2.2
abbrev H55 (t:Nat) (cl:a7) (p:Nat) (L:List Tk) (H:Nat):Prop:= ∀O R s r,Mrd O p .shared L s->s.i<L.length->gW t L H s=some r-> ∃cs O' Y,cl 55 [.ptr p 0] ⟨O,R⟩=some (.tup [.agg cs,.int .i64 r.2.1],⟨O',R++Y⟩)/\Fro p O O'/\cs.length=8/\(r.2.1=0-> ∃sp1,cs=mcs sp1 r.1/\Mrd O' p .shared L r.2.2/\(sp1=.full->r.1.ps=[]))
abbrev uU (cl:a7) (id:Nat):Prop:= ∀w d sp O R a,dQ O R id a w->Gd w->OkM d->(sp=.full->d.ps=[])->may w d≠0->Gr (cl 12 [.ptr id 0,.agg (mcs sp d)] ⟨O,R⟩) (.int .i64 (may w d)) O R
abbrev uV (cl:a7) (id:Nat):Prop:= ∀w d sp O R a,dQ O R id a w->Gd w->OkM d->(sp=.full->d.ps=[])->may w d=0-> ∃O' R' a',cl 12 [.ptr id 0,.agg (mcs sp d)] ⟨O,R⟩=some (.int .i64 0,⟨O',R'⟩)/\ry O R id a (w++[d]) O' R' a'
theorem dQ.fro {O O':List Obj} {R:List Arr} {id p:Nat} {a:Option Nat} {w:List Mc} (h:dQ O R id a w) (f:Fro p O O') (hp:id≠p) (Y:List Arr):dQ O' (R++Y) id a w:=by
 cases h with
 |nil h=>exact .nil (f.old h hp)
 |own h hr=>exact .own (f.old h hp) (dD hr Y)
theorem C8 {t:Nat} {L:List Tk} {H:Nat} {s:Ms} {r:Mc×Int×Ms} (e:gW t L H s=some r) (hi:s.i<L.length):r.2.2.i<L.length:=by
 unfold gW at e;simp only[Option.bind_eq_some_iff]at e;obtain⟨q,hq,e⟩:=e;have i1:=uT hq hi;split at e
 ·cases e;exact i1
 ·simp only[Option.map_eq_some_iff]at e;obtain⟨q2,hs,e⟩:=e;cases q2 with
  |none=>subst e;exact i1
  |some s2=>
   subst e;exact jw (qc hs i1).1
section
variable {G:Gls} {cl:a7} {yl:a7} {N:Nat}
variable {p id t H:Nat} {L:List Tk} {O0:List Obj} {R0:List Arr}
theorem OS (hip:id≠p) (hid:O0.length<=id) (hp0:O0.length<=p) (h55:H55 t cl p L H) (h12n:uU cl id) (h12y:uV cl id)
  (hok: ∀s r,gW t L H s=some r->s.i<L.length->r.2.1=0->OkM r.1) (kk mm:Nat):
  ∀(h:Nat) (w:List Mc) (s:Ms) (r:List Mc×Int) (O:List Obj) (R:List Arr) (a:Option Nat) (N':Nat),ip t L H h w s=some r->h<N'->dQ O R id a w->Mrd O p .shared L s->s.i<L.length->Gd w->Old O0 O->Old R0 R->(∀k,a=some k->R0.length<=k)->
   ∃(e:Ex) (O':List Obj) (R':List Arr) (ts':dx),dh false (a8 G false cl yl N kq) ⟨[5,8,9,10],[(10,none)],true⟩ kk mm N' ⟨[(5,.slc .shared (L.map tkv)),(8,.ptr id 0),(9,.ptr p 0),(10,.int .i64 (w.length:Nat))],⟨O,R⟩,[]⟩=some (e,⟨ts',⟨O',R'⟩,[]⟩)/\Old O0 O'/\Old R0 R'/\
    ((r.2=0/\e=.exit 0/\look 8 ts'=.ptr id 0/\(∃a',dQ O' R' id a' r.1/\(∀k,a'=some k->R0.length<=k))/\Gd r.1)\/(r.2≠0/\e=.ret/\look 2 ts'=.nilp/\look 3 ts'=.int .i64 (r.1.length:Nat)/\look 4 ts'=.int .i64 r.2)):=by
 intro h
 induction h with
 |zero=>intro w s r O R a N' e;simp[ip]at e
 |succ h ih=>
  intro w s r O R a N' e hN' hs hR hi hg hO hRR ha;obtain⟨N',rfl⟩: ∃m,N'=m+1:=⟨N' - 1,by omega⟩
  have hx:=gq hi;have hx':=(List.getElem?_eq_some_iff.1 hx).2;unfold ip at e;have hR':=hR;unfold Mrd mdc at hR';by_cases hk:(tkA L s.i).k=0
  ·rw[if_pos hk]at e;cases e;clear ih
   suffices hx: ∃ts',dh false (a8 G false cl yl N kq) ⟨[5,8,9,10],[(10,none)],true⟩ kk mm (N'+1) ⟨[(5,.slc .shared (L.map tkv)),(8,.ptr id 0),(9,.ptr p 0),(10,.int .i64 (w.length:Nat))],⟨O,R⟩,[]⟩=some (.exit 0,⟨ts',⟨O,R⟩,[]⟩)/\look 8 ts'=.ptr id 0 by
    obtain⟨ts',t1,t2⟩:=hx;exact⟨_,O,R,ts',t1,hO,hRR,.inl ⟨rfl,rfl,t2,⟨a,hs,ha⟩,hg⟩⟩
   generalize tkA L s.i=tk at*;have hk':(tk.k !=0)=false:=by simp[hk]
   apply Exists.intro;apply And.intro
   ·simp -implicitDefEqProofs [dh,kq,hR',hi,hx',tkv,tkC,hk,hk'];rfl
   ·first|rfl|simp
  ·rw[if_neg hk]at e;simp only[Option.bind_eq_some_iff]at e;obtain⟨q,hq,e⟩:=e;obtain⟨cs,O1,Y,k1,f1,hl8,hc⟩:=h55 O R s q hR hi hq;have s1:=hs.fro f1 hip Y;have s2:=s1.growO [.cells cs];have O1':Old O0 (O1++[.cells cs]):=fun i x hi2=>dD (f1.old (hO i x hi2) (by have:=(List.getElem?_eq_some_iff.1 hi2).1;omega)) _;have R1':Old R0 (R++Y):=hRR.trans (.app _ _);have c2:(O1++[Obj.cells cs])[O1.length]? =some (.cells cs):=by simp
   by_cases he:q.2.1=0
   ·rw[if_neg (by simp[he])]at e;obtain⟨sp1,rfl,r1,hsf⟩:=hc he;have hokm:=hok s q hq hi he;rw[he]at k1;have w1:=dF (i:=w.length) (by have:=hg.len;omega);have hm8:(mcs sp1 q.1).length=8:=hl8;have ht8:List.take 8 (mcs sp1 q.1)=mcs sp1 q.1:=List.take_of_length_le (by omega);by_cases hmay:may w q.1=0
    ·rw[if_neg (by simp[hmay])]at e;obtain⟨O2,R2,a2,k2,hA⟩:=h12y w q.1 sp1 _ _ a s2 hg hokm hsf hmay;have i2:=C8 hq hi;have r2:Mrd O2 p .shared L q.2.2:=hA.obj p _ (by omega) (dD r1 _);have O2':Old O0 O2:=fun i x hi2=>hA.obj i x (by have:=(List.getElem?_eq_some_iff.1 hi2).1;omega) (O1' i x hi2);have R2':Old R0 R2:=fun b x hb=>hA.row b x (by intro hh;have:=ha b hh.symm;have:=(List.getElem?_eq_some_iff.1 hb).1;omega) (R1' b x hb);have ha2: ∀k,a2=some k->R0.length<=k:=by
      intro k hk;rcases hA.own with e|⟨-,j,hj,e⟩
      ·exact ha k (by rw[<-e];exact hk)
      ·rw[hk]at e;cases e;have h1:=R1'.len;omega
     obtain⟨e9,O9,R9,ts9,j1,j2⟩:=ih (w++[q.1]) q.2.2 r O2 R2 a2 N' e (by omega) hA.set r2 i2 (hg.snoc hmay hokm) O2' R2' ha2;refine⟨e9,O9,R9,ts9,?_,j2⟩;rw[<-j1,List.length_append,List.length_singleton];have step: ∃ts1,a8 G false cl yl N kq ⟨[(5,.slc .shared (L.map tkv)),(8,.ptr id 0),(9,.ptr p 0),(10,.int .i64 (w.length:Nat))],⟨O,R⟩,[]⟩=some (.normal,⟨ts1,⟨O2,R2⟩,[]⟩)/\fP ts1 [5,8,9,10]=[(5,.slc .shared (L.map tkv)),(8,.ptr id 0),(9,.ptr p 0),(10,.int .i64 ((w.length+1:Nat):Int))]:=by
      clear j1 j2 ih f1 r1 hO h55 h12n h12y hok s1 s2 hs;generalize tkA L s.i=tk at*;have hk':(tk.k !=0)=true:=by simp[hk]
      generalize mcs sp1 q.1=cs at*;apply Exists.intro;apply And.intro
      ·simp -implicitDefEqProofs [kq,hR',hi,hx',tkv,tkC,hk,hk',k1,hm8,ht8,c2,k2,w1];rfl
      ·first|rfl|simp
     obtain⟨ts1,st1,st2⟩:=step;simp only[dh,st1,eI,Bool.false_eq_true,if_false,if_true,st2]
    ·rw[if_pos hmay]at e;cases e;obtain⟨X,k2⟩:=h12n w q.1 sp1 _ _ a s2 hg hokm hsf hmay;have hmay':(may w q.1 !=0)=true:=by simp[hmay]
     suffices hx: ∃ts',dh false (a8 G false cl yl N kq) ⟨[5,8,9,10],[(10,none)],true⟩ kk mm (N'+1) ⟨[(5,.slc .shared (L.map tkv)),(8,.ptr id 0),(9,.ptr p 0),(10,.int .i64 (w.length:Nat))],⟨O,R⟩,[]⟩=some (.ret,⟨ts',⟨O1++[.cells (mcs sp1 q.1)]++X,R++Y⟩,[]⟩)/\look 2 ts'=.nilp/\look 3 ts'=.int .i64 (w.length:Nat)/\look 4 ts'=.int .i64 (may w q.1)by
      obtain⟨ts',t1,t2,t3,t4⟩:=hx;exact⟨_,_,_,ts',t1,O1'.trans (.app _ _),R1',.inr ⟨hmay,rfl,t2,t3,t4⟩⟩
     clear ih f1 r1 hO h55 h12n h12y hok s1 s2 hs;generalize tkA L s.i=tk at*;have hk':(tk.k !=0)=true:=by simp[hk]
     generalize mcs sp1 q.1=cs at*;generalize may w q.1=mm' at*;apply Exists.intro;apply And.intro
     ·simp -implicitDefEqProofs [dh,kq,hR',hi,hx',tkv,tkC,hk,hk',k1,hm8,ht8,c2,k2,hmay,hmay'];rfl
     ·refine⟨?_,?_,?_⟩<;>first|rfl|simp
   ·rw[if_pos he]at e;cases e;have he':(q.2.1 !=0)=true:=by simp[he]
    have he2:(q.2.1==0)=false:=by simp[he]
    have ht8:List.take 8 cs=cs:=List.take_of_length_le (by omega)
    suffices hx: ∃ts',dh false (a8 G false cl yl N kq) ⟨[5,8,9,10],[(10,none)],true⟩ kk mm (N'+1) ⟨[(5,.slc .shared (L.map tkv)),(8,.ptr id 0),(9,.ptr p 0),(10,.int .i64 (w.length:Nat))],⟨O,R⟩,[]⟩=some (.ret,⟨ts',⟨O1++[.cells cs],R++Y⟩,[]⟩)/\look 2 ts'=.nilp/\look 3 ts'=.int .i64 (w.length:Nat)/\look 4 ts'=.int .i64 q.2.1 by
     obtain⟨ts',t1,t2,t3,t4⟩:=hx;exact⟨_,_,_,ts',t1,O1',R1',.inr ⟨he,rfl,t2,t3,t4⟩⟩
    clear ih f1 hO h55 h12n h12y hok s1 s2 hs hc;generalize tkA L s.i=tk at*;have hk':(tk.k !=0)=true:=by simp[hk]
    generalize q.2.1=ee at*;apply Exists.intro;apply And.intro
    ·simp -implicitDefEqProofs [dh,kq,hR',hi,hx',tkv,tkC,hk,hk',k1,hl8,c2,he,he',he2];rfl
    ·refine⟨?_,?_,?_⟩<;>first|rfl|simp
end
def rK (O:List Obj) (R:List Arr) (r:List Mc×Int) (v:AV) (n:Int) (O':List Obj) (R':List Arr):Prop:=
 Old O O'/\Old R R'/\((r.2=0/\v=.ptr (O.length+1) 0/\n=0/\(∃a',dQ O' R' (O.length+1) a' r.1/\ ∀k,a'=some k->R.length<=k)/\Gd r.1)\/(r.2≠0/\v=.nilp/\n=(r.1.length:Nat)))
section
variable {G:Gls} {cl:a7} {yl:a7} {N:Nat}
variable {t H:Nat} {L:List Tk} {O:List Obj} {R:List Arr}
theorem C9 (s:Str) (p1 p2 e:Int) (r:List Mc×Int) (hr:(e≠0/\r=([],e))\/(e=0/\ip t L H H [] ⟨0,false⟩=some r/\0<L.length)) (hN:H<N)
  (h54: ∀M,cl 54 [.str s] M=some (.tup [.slc .shared (L.map tkv),.agg [.int .i64 p1,.int .i64 p2],.int .i64 e],M))
  (h10: ∀O R,cl 10 [] ⟨O,R⟩=some (.ptr O.length 0,⟨O++[.cells [.slc .full []]],R⟩))
  (h55:e=0->H55 t cl (O.length+2) L H) (h12n:uU cl (O.length+1)) (h12y:uV cl (O.length+1))
  (hok:e=0-> ∀s r,gW t L H s=some r->s.i<L.length->r.2.1=0->OkM r.1):
  ∃v n O' R',dr G false cl yl N c20 [.str s] ⟨O,R⟩=some (.tup [v,.int .i64 n,.int .i64 r.2],⟨O',R'⟩)/\rK O R r v n O' R':=by
 unfold rK;rcases hr with⟨he,rfl⟩|⟨rfl,hm,hpos⟩
 ·have he':(e !=0)=true:=by simp[he]
  refine⟨.nilp,0,O++[.cells [.int .i64 p1,.int .i64 p2]],R,?_,.app _ _,.refl _,.inr ⟨he,rfl,rfl⟩⟩;simp -implicitDefEqProofs [c20,h54,he,he']
 ·have k10:=h10 (O++[.cells [.int .i64 p1,.int .i64 p2]]) R;obtain⟨O1,hO1⟩: ∃O1,O++[Obj.cells [.int .i64 p1,.int .i64 p2]]++[.cells [.slc .full []]]++[.cells (mdc .shared L ⟨0,false⟩)]=O1:=⟨_,rfl⟩
  have f1:Old O O1:=by
   rw[<-hO1];exact((Old.app _ _).trans (.app _ _)).trans (.app _ _)
  have hs:dQ O1 R (O.length+1) none []:=by
   rw[<-hO1];exact .nil (by simp)
  have hM:Mrd O1 (O.length+2) .shared L ⟨0,false⟩:=by
   unfold Mrd;rw[<-hO1];simp
  obtain⟨ee,O2,R2,ts,j1,j2,j3,j4⟩:=OS (G:=G) (cl:=cl) (yl:=yl) (N:=N) (O0:=O) (R0:=R) (show O.length+1≠O.length+2 by omega) (by omega) (by omega) (h55 rfl) h12n h12y (hok rfl) O1.length R.length H [] ⟨0,false⟩ r O1 R none N hm hN hs hM hpos uB f1 (.refl _) (by simp);unfold mdc at hO1;simp -implicitDefEqProofs at k10 hO1 j1;rcases j4 with⟨h0,rfl,l8,hS,hg⟩|⟨h0,rfl,l2,l3,l4⟩
  ·refine⟨_,_,O2,R2,?_,j2,j3,.inl ⟨h0,rfl,rfl,hS,hg⟩⟩;rw[h0];simp -implicitDefEqProofs [c20,h54,k10,hO1,j1,l8]
  ·refine⟨_,_,O2,R2,?_,j2,j3,.inr ⟨h0,rfl,rfl⟩⟩;simp -implicitDefEqProofs [c20,h54,k10,hO1,j1,l2,l3,l4]
end
end Go.Proofs.Ae
namespace Go.Proofs.Ae
open Go Go.RowKit
set_option maxRecDepth 100000
section
variable {t N k:Nat} {p:Nat} {L:List Tk} {sp:Sp}
noncomputable abbrev B2 (t N k:Nat):a7:=BW (GG t) (dg (T2 t)) N k
noncomputable abbrev Y2 (t N k:Nat):=YW (GG t) (dg (T2 t)) N k
theorem uW:nZ (B2 t N (k+1)) p sp L:=fun O R s i w hR hi=>by
 rw[B2,dG (cf:=qP) (by unfold dL;split<;>rfl) rfl rfl rfl];exact OB hR hi i w
theorem rL (hb:L.length<big):mC (B2 t N (k+1)) p sp L:=fun O R s hR hi=>by
 rw[B2,dG (cf:=qQ) (by unfold dL;split<;>rfl) rfl rfl rfl];exact OC hR hi hb
theorem OT (hb:L.length<big):C3 (B2 t N (k+2)) p sp L:=fun O R s i w hR hi=>by
 rw[B2,dG (cf:=pw) (by unfold dL;split<;>rfl) rfl rfl rfl];exact OD hR hi i w uW (rL hb)
theorem Da (hb:L.length<big):ym (B2 t N (k+2)) p sp L:=fun O R s hR hi=>by
 rw[B2,dG (cf:=pz) (by unfold dL;split<;>rfl) rfl rfl rfl];exact OE hR hi (rL hb)
theorem m47 (x:Int) (M:Mem):B2 t N (k+1) 47 [.int .i64 x] M=some (.str (snm x),M):=
 fZ (cf:=c47) (by unfold dL;split<;>rfl) rfl rfl rfl rfl (xR x) M
theorem OU (hb:L.length<big) (hN:5<N):yq (B2 t N (k+4)) p sp L:=fun O R s hR hi=>by
 rw[B2,dG (cf:=nB) (by unfold dL;split<;>rfl) rfl rfl rfl];refine OJ hR hi (fun O b hR' hb'=>?_) (rL (k:=k+2) hb) (Da (k:=k+1) hb);rw[dG (cf:=qY) (by unfold dL;split<;>rfl) rfl rfl rfl];refine OI hN fun x=>?_;rw[dG (cf:=tN) (by unfold dL;split<;>rfl) rfl rfl rfl];exact OG hR' hi hb' x (m47 x) (uW (k:=k))
theorem OV (hL:Lok L) (hb:L.length<big) (hN:5<N) {H:Nat} (hH:H+1<858993459200) (hHN:H<N):C5 (B2 t N (k+5)) p L H:=fun O R s r hR hi e=>by
 rw[B2,dG (cf:=qO) (by unfold dL;split<;>rfl) rfl rfl rfl];exact OL hL hR hi e hH hHN (uW (k:=k+3)) (rL (k:=k+3) hb) (OT (k:=k+2) hb) (Da (k:=k+2) hb) (OU hb hN)
theorem Db (l:List Str):(Lib.join l [32]).length<=(l.map List.length).sum+l.length:=by
 induction l with
 |nil=>simp[Lib.join,List.intercalate]
 |cons a l ih=>
  cases l with
  |nil=>simp[Lib.join,List.intercalate]
  |cons b l=>
   rw[fN];simp only[List.map_cons,List.sum_cons,List.length_cons,List.length_append]at ih⊢;omega
structure eT (L:List Tk):Prop where
 lok:Lok L
 ok: ∀j,j+1<L.length->okT (prj (tkA L j))
 sm:((L.map Tk.tx).map List.length).sum+L.length<=65537
theorem eT.one (h:eT L) (x:Tk) (hx:x∈L):x.tx.length<=65537:=by
 have: ∀l:List Tk,x∈l->x.tx.length<=((l.map Tk.tx).map List.length).sum:=by
  intro l
  induction l with
  |nil=>intro h;cases h
  |cons y l ih=>
   intro h;simp only[List.map_cons,List.sum_cons];rcases List.mem_cons.1 h with rfl|h
   ·omega
   ·have:=ih h;omega
 have:=this L hx;have:=h.sm;omega
theorem OW (l:List Nat) (i:Nat):(l.take i).sum<=l.sum:=by
 induction l generalizing i with
 |nil=>simp
 |cons x l ih=>
  cases i with
  |zero=>simp
  |succ i=>simp only[List.take_succ_cons,List.sum_cons];have:=ih i;omega
theorem OX (l:List Nat) (i:Nat):(l.drop i).sum<=l.sum:=by
 induction l generalizing i with
 |nil=>simp
 |cons x l ih=>
  cases i with
  |zero=>simp
  |succ i=>simp only[List.drop_succ_cons,List.sum_cons];have:=ih i;omega
theorem eT.btw (h:eT L) {i j:Nat} (hb:Btw L i j):rJ ((L.drop i).take (j - i))/\(dtx L i j).length<=65536:=by
 obtain⟨h1,h2,h3⟩:=hb;have hsm:=h.sm;have hlen:(dtx L i j).length<=65536:=by
  have a:=Db (((L.drop i).take (j - i)).map Tk.tx);have b:((((L.drop i).take (j - i)).map Tk.tx).map List.length).sum<=((L.map Tk.tx).map List.length).sum:=by
   rw[List.map_take,List.map_take,List.map_drop,List.map_drop];exact Nat.le_trans (OW _ _) (OX _ _)
  unfold dtx;simp only[List.length_map,List.length_take,List.length_drop]at a;omega
 have hmem: ∀x∈(L.drop i).take (j - i),okT (prj x)/\x.tx.length<=65536:=by
  intro x hx;obtain⟨m,hm,rfl⟩:=List.mem_iff_getElem.1 hx;simp only[List.length_take,List.length_drop]at hm;have he:((L.drop i).take (j - i))[m]=tkA L (i+m):=by
   rw[List.getElem_take,List.getElem_drop];exact(List.getElem?_eq_some_iff.1 (gq (by omega))).2
  rw[he];refine⟨h.ok _ (by omega),?_⟩;have hmm:tkA L (i+m)∈L:=List.mem_of_getElem? (gq (by omega));have h5:=h.one _ hmm;have h6:2<=L.length:=by omega
  have: ∀l:List Tk,∀x∈l,x.tx.length<=((l.map Tk.tx).map List.length).sum:=by
   intro l x
   induction l with
   |nil=>intro h;cases h
   |cons y l ih=>
    intro h;simp only[List.map_cons,List.sum_cons];rcases List.mem_cons.1 h with rfl|h
    ·omega
    ·have:=ih h;omega
  have:=this L _ hmm;omega
 refine⟨⟨hmem,?_,?_⟩,hlen⟩
 ·simp only[List.length_take,List.length_drop];unfold big;omega
 ·unfold dtx at hlen;unfold il;omega
theorem Dc (l:List Tk):eh [.slc .shared (l.map tkv)]=some (kI l):=rfl
theorem OY (hT:eT L):C6 (B2 t N (k+1)) L:=fun i j hb M=>
 dS (du (fun _ _=>CZ _ _) ((L.drop i).take (j - i)) (by repeat first|exact .here|refine .there ?_ rfl) (by exact(hT.btw hb).1) (by exact Dc _) (by rfl) M)
theorem OZ (hT:eT L):C7 t (B2 t N (k+1)) L:=fun i j hb=>
 ⟨_,_,fun M=>dS (du fS (dtx L i j) (by repeat first|exact .here|refine .there ?_ rfl) (by exact(hT.btw hb).2) (by rfl) (by rfl) M)⟩
theorem m55 (hT:eT L) (hb:L.length<big) (hN:5<N) {H:Nat} (hH:H+1<858993459200) (hHN:H<N):H55 t (B2 t N (k+6)) p L H:=fun O R s r hR hi e=>by
 rw[B2,dG (cf:=c55) (by unfold dL;split<;>rfl) rfl rfl rfl];exact ON hT.lok hb hR hi e hHN (OV hT.lok hb hN hH hHN) (uW (k:=k+4)) (rL (k:=k+4) hb) (OY (k:=k+4) hT) (OZ (k:=k+4) hT)
end
end Go.Proofs.Ae
namespace Go.Proofs.Ae
open Go Go.RowKit
section
variable {t:Nat}
theorem Dd (l:List Tk):((l.map Tk.tx).map List.length).sum=txs (l.map prj):=by
 induction l with
 |nil=>rfl
 |cons x l ih=>
  simp only[List.map_cons,List.sum_cons,txs,ih];rfl
structure jV (s:Str):Prop where
 len:s.length<=65536
 sm:txs (lx s).1+(lx s).1.length<=65536
theorem Pa {s:Str} (h:s.length<=32768):jV s:=by
 have:=CU s.length s (Nat.le_refl _);exact⟨by omega,by omega⟩
theorem De {s:Str} (hs:jV s) (h0:(lx s).2=0):eT (tkR t s).1:=by
 have hs1:=hs.len;have h3:=hs.sm;have hL:=yg (t:=t) (by omega) h0;obtain⟨l0,ln,col,h1,h2⟩:=rI (t:=t) (by omega) h0;have h4:l0.length=(lx s).1.length:=by rw[<-h2];simp
 refine⟨hL,fun j hj=>?_,?_⟩
 ·rw[h1]at hj⊢;simp only[List.length_append,List.length_cons,List.length_nil]at hj;have hj':j<l0.length:=by omega
  have:tkA (l0++[⟨0,[],0,ln,col⟩]) j=l0[j]:=by
   unfold tkA;rw[List.getD_eq_getElem?_getD,List.getElem?_append_left hj',List.getElem?_eq_getElem hj'];rfl
  rw[this];refine CR s.length s (Nat.le_refl _) _ ?_;rw[<-h2];exact List.mem_map.2 ⟨_,List.getElem_mem hj',rfl⟩
 ·rw[h1,Dd,List.map_append,h2];have: ∀(a b:List TkP),txs (a++b)=txs a+txs b:=by
   intro a b
   induction a with
   |nil=>simp[txs]
   |cons x a ih=>simp only[List.cons_append,txs,ih];omega
  rw[this];simp only[List.map_cons,List.map_nil,txs,prj,List.length_append,List.length_cons,List.length_nil];omega
variable {L:List Tk}
theorem eT.tx (h:eT L) (i:Nat):(tkA L i).tx.length<=65537:=by
 by_cases hi:i<L.length
 ·exact h.one _ (List.mem_of_getElem? (gq hi))
 ·unfold tkA;rw[List.getD_eq_getElem?_getD,List.getElem?_eq_none (by omega)];simp
theorem Df {s:Str} (hs:s.length<=65536):bk (pfS t s).1<=327681:=by
 have hz:bk ndZ<=327681:=by simp[ndZ,bk,bkS,bkL]
 unfold pfS;by_cases he:(tkR t s).2.2.2=0
 ·rw[if_neg (by simp[he])];have h0:(lx s).2=0:=by rw[<-mB (t:=t) hs];exact he
  have:=yj (t:=t) hs h0;unfold pfL;split
  ·exact hz
  ·split
   ·exact hz
   ·show bk (prR (tkR t s).1).1<=_;omega
 ·rw[if_pos he];exact hz
theorem Dg (hT:eT L): ∀(h:Nat) (vs:List Vr) (s:Ms) (r:List Vr×Ms),eH L h vs s=some r->(∀v∈vs,v.nm.length<=65537)->(∀v∈r.1,v.nm.length<=65537)/\r.1.length<=vs.length+h
 |0,vs,s,r,e,_=>by simp[eH]at e
 |h+1,vs,s,r,e,hv=>by
  unfold eH at e;split at e
  ·have:=Dg hT h _ _ _ e (fun v hvv=>by
    rcases List.mem_append.1 hvv with h|h
    ·exact hv v h
    ·simp only[List.mem_singleton]at h;subst h;exact hT.tx _)
   simp only[List.length_append,List.length_cons,List.length_nil]at this;exact⟨this.1,by omega⟩
  ·cases e;exact⟨hv,by show vs.length<=_;omega⟩
theorem Pb (hT:eT L) {H:Nat} {s:Ms} {r:Str×List Vr×Ms} (e:gN L H s=some r):r.1.length<=65537/\(∀v∈r.2.1,v.nm.length<=65537)/\r.2.1.length<=H+1:=by
 dsimp only[gN]at e;simp only[Option.map_eq_some_iff]at e;obtain⟨q,hq,rfl⟩:=e;refine⟨hT.tx _,?_⟩;split at hq
 ·cases hq;exact⟨by simp,by simp⟩
 ·have:=Dg hT _ _ _ _ hq (by
   intro v hv;simp only[List.mem_singleton]at hv;subst hv;exact hT.tx _)
  simp only[List.length_cons,List.length_nil]at this;exact⟨this.1,by show q.1.length<=H+1;omega⟩
theorem Pc (hT:eT L) {H:Nat} (hH:H+1<big) {s:Ms} {r:Mc×Int×Ms} (e:gW t L H s=some r) (hi:s.i<L.length):OkM r.1:=by
 have hz:OkM mcZ:=by
  refine⟨?_,?_,?_,?_⟩<;>simp[mcZ,ndZ,bk,bkS,bkL,big]
 unfold gW at e;simp only[Option.bind_eq_some_iff]at e;obtain⟨q,hq,e⟩:=e;have i1:=uT hq hi;have o1:=Pb hT hq;split at e
 ·cases e;exact hz
 ·simp only[Option.map_eq_some_iff]at e;obtain⟨q2,hs,e⟩:=e;cases q2 with
  |none=>subst e;exact hz
  |some s2=>
   subst e;obtain⟨i2,le2,b2,nz,-⟩:=qc hs i1;have hb:=hT.btw ⟨le2,i2,nz⟩;have hk:=Df (t:=t) hb.2;unfold big at hH;refine⟨?_,?_,fun v hv=>?_,?_⟩
   ·show q.1.length<big;unfold big;omega
   ·show q.2.1.length<big;unfold big;omega
   ·have:=o1.2.1 v hv;unfold big;omega
   ·show bk (pfS t _).1<=big;unfold big;omega
theorem uX {s:Ms} (h:s.i<L.length) (k:Int) (w:Str):s.i<=(ei L s k w).i:=oa ⟨s.i,_⟩ h
theorem yv {s:Ms} (h:s.i<L.length):s.i<=(eo L s).i:=oa ⟨s.i,_⟩ h
theorem Dh {s:Ms} (h:s.i<L.length):s.i<=(eF L s).i:=oa ⟨s.i,_⟩ h
theorem Di: ∀{h:Nat} {vs:List Vr} {s:Ms} {r:List Vr×Ms},eH L h vs s=some r->s.i<L.length->s.i<=r.2.i
 |0,vs,s,r,e,_=>by simp[eH]at e
 |h+1,vs,s,r,e,hi=>by
  unfold eH at e;split at e
  ·have i1:(mnx L s).i<L.length:=jw hi;have i2:=kJ i1;have l0:=oa s hi;have l1:=Dh i1;have l2:=yv i2;have:=Di e (im i2);omega
  ·cases e;exact Nat.le_refl _
theorem Pd {H:Nat} {s:Ms} {r:Str×List Vr×Ms} (e:gN L H s=some r) (hi:s.i<L.length):s.i<=r.2.2.i:=by
 dsimp only[gN]at e;simp only[Option.map_eq_some_iff]at e;obtain⟨q,hq,rfl⟩:=e;have i1:=iY hi 3 eC;have l1:=uX hi 3 eC;have i2:=im i1;have l2:=yv i1;have i3:=iY i2 4 wL;have l3:=uX i2 4 wL;have h4:(ei L (eo L (ei L s 3 eC)) 4 wL).i<=q.2.i/\q.2.i<L.length:=by
  split at hq
  ·cases hq;exact⟨Nat.le_refl _,i3⟩
  ·have i4:=kJ i3;have l4:=Dh i3;have l5:=yv i4;have:=Di hq (im i4);exact⟨by omega,uS hq (im i4)⟩
 have l6:=uX h4.2 4 wR;have l7:=uX (iY h4.2 4 wR) 4 dK;show s.i<=(ei L (ei L q.2 4 wR) 4 dK).i;omega
theorem Pe (hL:Lok L) {H:Nat} (hH:L.length<H) {s:Ms} (hi:s.i<L.length): ∃r,gN L H s=some r:=by
 dsimp only[gN];have i3:=iY (im (iY hi 3 eC)) 4 wL;split
 ·exact⟨_,rfl⟩
 ·obtain⟨r,hr,-⟩:=C0 hL H [fU L (ei L (eo L (ei L s 3 eC)) 4 wL)] (eo L (eF L (ei L (eo L (ei L s 3 eC)) 4 wL))) (im (kJ i3)) (by omega);rw[hr];exact⟨_,rfl⟩
theorem Pf (hL:Lok L) {H:Nat} (hH:L.length<H) {s:Ms} (hi:s.i<L.length): ∃r,gW t L H s=some r/\(r.2.1=0->s.i<r.2.2.i):=by
 obtain⟨q,hq⟩:=Pe hL hH hi;have i1:=uT hq hi;have l1:=Pd hq hi;unfold gW;rw[hq];simp only[Option.bind_some];split
 ·exact⟨_,rfl,fun h=>by cases h⟩
 ·obtain⟨q2,hs⟩:=C4 hL H q.2.2 i1 (by omega);rw[hs];cases q2 with
  |none=>exact⟨_,rfl,fun h=>by cases h⟩
  |some s2=>
   obtain⟨i2,le2,b2,nz,hm⟩:=qc hs i1;refine⟨_,rfl,fun _=>?_⟩;have:=yn hL i2 (yp hm);show s.i<(mnx L s2).i;omega
theorem Dj (hL:Lok L) {H:Nat} (hH:L.length<H): ∀(h:Nat) (w:List Mc) (s:Ms),s.i<L.length->L.length - s.i<h-> ∃r,ip t L H h w s=some r
 |0,_,_,_,h=>by omega
 |h+1,w,s,hi,hh=>by
  unfold ip;split
  ·exact⟨_,rfl⟩
  ·obtain⟨q,hq,hp⟩:=Pf (t:=t) hL hH hi;rw[hq];simp only[Option.bind_some];split
   ·exact⟨_,rfl⟩
   ·rename_i h0
    split
    ·exact⟨_,rfl⟩
    ·have:=hp (by simpa using h0);exact Dj hL hH h _ _ (C8 hq hi) (by omega)
noncomputable def gh (t:Nat) (s:Str):List Mc×Int:=
 if(tkR t s).2.2.2≠0 then([],(tkR t s).2.2.2)else(ip t (tkR t s).1 ((tkR t s).1.length+1) ((tkR t s).1.length+1) [] ⟨0,false⟩).getD ([],0)
theorem Dk {s:Str} (hs:jV s):((tkR t s).2.2.2≠0/\gh t s=([],(tkR t s).2.2.2))\/((tkR t s).2.2.2=0/\ip t (tkR t s).1 ((tkR t s).1.length+1) ((tkR t s).1.length+1) [] ⟨0,false⟩=some (gh t s)/\0<(tkR t s).1.length):=by
 unfold gh;by_cases he:(tkR t s).2.2.2=0
 ·have h0:(lx s).2=0:=by rw[<-mB (t:=t) hs.len];exact he
  have hT:=De (t:=t) hs h0;refine .inr ⟨he,?_,hT.lok.pos⟩;obtain⟨r,hr⟩:=Dj (t:=t) hT.lok (Nat.lt_succ_self _) ((tkR t s).1.length+1) [] ⟨0,false⟩ hT.lok.pos (by show _ - 0<_;omega);rw[if_neg (by simp[he]),hr];rfl
 ·exact .inl ⟨he,by rw[if_pos he]⟩
end
end Go.Proofs.Ae
namespace Go.Proofs.Ae
open Go Go.RowKit
set_option maxRecDepth 100000
section
variable {P:Program} {G:Gls}
def mD (G:Gls) (mu:Bool) (N f0:Nat) (cf:CFn) (c1:a7) (y1:a7) (cl:a7):a7:=fun f ags M=>match Nat.beq f f0 with
 |true=>dr G mu c1 y1 N cf ags M
 |false=>cl f ags M
theorem Dl {mu:Bool} {N f0:Nat} {cf:CFn} {c1:a7} {y1:a7} {cl:a7} (hm:P.follows .mixedOrders=true) (hk:KIs P) (hf:iM P f0 cf) (h1:fw P G c1) (hy:iL P G y1) (hc:fw P G cl):fw P G (mD G mu N f0 cf c1 y1 cl):=by
 intro f ags M v M' h base U bs es w args hG hV hH;unfold mD at h;split at h
 ·rename_i hb
  have:=Nat.eq_of_beq_eq_true hb;subst this;exact sR (kX hm hk h1 hy).1 hf h hG hV hH
 ·exact hc _ _ _ _ _ h base U bs es w args hG hV hH
end
theorem Pg {X:Type} {enc:X->List AV} {F:X->AV×Option Arr} {ok:X->Prop} {ags:List AV} (h: ∀x,ags≠enc x):spR enc F ok ags=none:=by
 unfold spR;rw[dif_neg];rintro⟨x,hx,-⟩;exact h x hx
section
variable {G:Gls} {cl:a7} {yl:a7} {N:Nat}
theorem oc {mu:Bool} {f0 f:Nat} {cf:CFn} {c1:a7} {y1:a7} {ags:List AV} {M:Mem} (h:Nat.beq f f0=false):mD G mu N f0 cf c1 y1 cl f ags M=cl f ags M:=by
 unfold mD;rw[h]
theorem Dm {mu:Bool} {f0:Nat} {cf:CFn} {c1:a7} {y1:a7} {ags:List AV} {M:Mem}:mD G mu N f0 cf c1 y1 cl f0 ags M=dr G mu c1 y1 N cf ags M:=by
 unfold mD;have:Nat.beq f0 f0=true:=by simp
 rw[this]
theorem Ph (hN:0<N):dn G false cl yl N c37 [.slc .full []]=some (.int .i64 0,none):=by
 obtain⟨n,rfl⟩:=Nat.exists_eq_succ_of_ne_zero (n:=N) (by omega);simp -implicitDefEqProofs [c37,kr,dh]
end
section
variable {t N k:Nat}
theorem Dn (sp:Sp) (m:Mc):mcs sp m=mco m (.slc sp (m.ps.map vrv)):=by
 unfold mcs mco;rw[gL]
theorem Pj {sp:Sp} {ps:List Vr} (hsp:sp=.full->ps=[]) (hb:ps.length<big) (hN:0<N) (M:Mem):BP t N (k+4) 37 [.slc sp (ps.map vrv)] M=some (.int .i64 (fu ps),M):=by
 cases sp with
 |full=>
  rw[hsp rfl];have e:dL (dg N7) 37 [.slc .full []]=none:=by
   unfold dL;have h1:eh [.slc .full []]=some [.slc .full []]:=rfl;have h2:Has N7 37 xM:=(by repeat first|exact .here|refine .there ?_ rfl)
   simp only[h1,h2.eq];exact Pg fun l h=>by simp[eVs]at h
  have h0:fu []=0:=rfl;rw[h0];exact fZ (cf:=c37) e rfl rfl rfl rfl (Ph hN) _
 |shared=>exact dS (du xL ps (by repeat first|exact .here|refine .there ?_ rfl) (by exact hb) (by rfl) (by rfl) M)
 |own a=>exact dS (du xL ps (by repeat first|exact .here|refine .there ?_ rfl) (by exact hb) (by rfl) (by rfl) M)
theorem Dp {O:List Obj} {R:List Arr} {id:Nat} {a:Option Nat} {w:List Mc} (hs:dQ O R id a w) (hb:w.length<big) (hN:w.length<N) (hm: ∀d∈w,OkM d) (m:Mc) (hmm:OkM m) (hmN:bk m.bd<N) (hpN:m.ps.length<N) {sp:Sp} (hsp:sp=.full->m.ps=[]):yu (BP t N (k+600)) w m (.slc sp (m.ps.map vrv)) id O R:=
 have c:=xN (t:=t) (k:=k) hs hb hN hm m hmm hmN hpN
 {h15:=c.h15
  h36:=c.h36
  h37:=fun X=>⟨[],by rw[List.append_nil];exact Pj (k:=k+596) hsp hmm.ps (by omega) _⟩
  h38:=c.h38
  h40:=fun X=>p40 (k:=k+598) sp m.ps hmm.ps hpN
  h39:=c.h39
  h41:=fun X=>⟨.slc .shared (m.ps.map vrv),[],[],by
   rw[List.append_nil,List.append_nil];have e:AV.agg (mco m (.slc .shared (m.ps.map vrv)))=mcv m:=(lm m).symm;rw[e];refine dS (k:=k+599) (du rC m (by repeat first|exact .here|refine .there ?_ rfl) (by exact hmm) ?_ (by rfl) _);have hp:dY (.agg (mco m (.slc sp (m.ps.map vrv))))=some (mcv m):=OO rfl;have ha:gu (.agg (mco m (.slc sp (m.ps.map vrv))))=some (mcv m):=hp;simp only[eh,ha],rfl⟩}
theorem Pk (hN:big<N) {id:Nat}:uU (BP t N (k+601)) id/\uV (BP t N (k+601)) id:=by
 unfold big at hN;have hl: ∀{w:List Mc},Gd w->w.length<big/\w.length<N:=fun h=>by have:=h.len;unfold big;omega
 refine⟨fun w d sp O R a hs hg hd hsp h=>?_,fun w d sp O R a hs hg hd hsp h=>?_⟩
 ·rw[Dn,BP,dG (cf:=c12) (by unfold dL;split<;>rfl) rfl rfl rfl];exact OP w d hs (Dp hs (hl hg).1 (hl hg).2 hg.ok d hd (by have:=hd.bd;unfold big at this;omega) (by have:=hd.ps;unfold big at this;omega) hsp) h
 ·rw[Dn,BP,dG (cf:=c12) (by unfold dL;split<;>rfl) rfl rfl rfl];exact OQ w d hs (Dp hs (hl hg).1 (hl hg).2 hg.ok d hd (by have:=hd.bd;unfold big at this;omega) (by have:=hd.ps;unfold big at this;omega) hsp) h
def s20 (f:Nat):Bool:=Nat.beq f 10||Nat.beq f 12
noncomputable def K20 (t N:Nat):a7:=lA s20 (BP t N 1001) (B2 t N 1000)
theorem Pl:fw Tryz.prog (GG t) (K20 t N):=xO (Cv 1001).1 (je (T:=TW (dg (T2 t))) fp kis dz (jr uR) 1000 false).1
theorem x20 (hN:big<N) (s:Str) (hs:jV s) (O:List Obj) (R:List Arr):
  ∃v n O' R',dr (GG t) false (K20 t N) (Y2 t N 1000) N c20 [.str s] ⟨O,R⟩=some (.tup [v,.int .i64 n,.int .i64 (gh t s).2],⟨O',R'⟩)/\rK O R (gh t s) v n O' R':=by
 have hN':4294967296<N:=hN;have c1: ∀{f:Nat} {ags:List AV} {M:Mem},s20 f=true->K20 t N f ags M=BP t N 1001 f ags M:=fun h=>by unfold K20;exact uC h
 have c2: ∀{f:Nat} {ags:List AV} {M:Mem},s20 f=false->K20 t N f ags M=B2 t N 1000 f ags M:=fun h=>by unfold K20;exact xP h
 have h54: ∀M,K20 t N 54 [.str s] M=some (.tup [.slc .shared ((tkR t s).1.map tkv),.agg [.int .i64 (tkR t s).2.1,.int .i64 (tkR t s).2.2.1],.int .i64 (tkR t s).2.2.2],M):=fun M=>by
  rw[c2 rfl];exact dS (k:=999) (du fS s (by repeat first|exact .here|refine .there ?_ rfl) (by exact trivial) (by rfl) (by rfl) M)
 have h10: ∀O R,K20 t N 10 [] ⟨O,R⟩=some (.ptr O.length 0,⟨O++[.cells [.slc .full []]],R⟩):=fun O R=>by
  rw[c1 rfl];exact p10 (k:=1000) O R
 have h12:=Pk (t:=t) (k:=400) (id:=O.length+1) hN;have h12n:uU (K20 t N) (O.length+1):=fun w d sp O R a h1 h2 h3 h4 h5=>by
  rw[c1 rfl];exact h12.1 w d sp O R a h1 h2 h3 h4 h5
 have h12y:uV (K20 t N) (O.length+1):=fun w d sp O R a h1 h2 h3 h4 h5=>by
  rw[c1 rfl];exact h12.2 w d sp O R a h1 h2 h3 h4 h5
 have hlen:=yf (t:=t) s;have he:=Dk (t:=t) hs;by_cases h0:(tkR t s).2.2.2=0
 ·have hl0:(lx s).2=0:=by rw[<-mB (t:=t) hs.len];exact h0
  have hT:=De (t:=t) hs hl0;refine C9 (L:=(tkR t s).1) (H:=(tkR t s).1.length+1) s _ _ _ (gh t s) he (by omega) h54 h10 ?_ h12n h12y ?_
  ·intro _ O R s' r h1 h2 h3;rw[c2 rfl];exact m55 (k:=994) hT (by unfold big;omega) (by omega) (by omega) (by omega) O R s' r h1 h2 h3
  ·intro _ s' r h1 h2 _;exact Pc hT (by unfold big;omega) h1 h2
 ·refine C9 (t:=t) (L:=(tkR t s).1) (H:=0) s _ _ _ (gh t s) ?_ (by omega) h54 h10 ?_ h12n h12y ?_
  ·rcases he with h|h
   ·exact .inl h
   ·exact absurd h.1 h0
  ·exact fun h=>absurd h h0
  ·exact fun h=>absurd h h0
end
end Go.Proofs.Ae
