/- Further functions: what they answer, and what that means. -/
import Derived.Test.YtjkmcceipabejaaGreatDoorQ
set_option linter.unusedSimpArgs false
set_option linter.unusedVariables false
set_option linter.unusedSectionVars false
namespace Go.Proofs.Ae
open Go Go.RowKit
set_option maxRecDepth 100000
theorem og (a b:List Str) (ha:a≠[]) (hb:b≠[]):Lib.join (a++b) [32]=Lib.join a [32]++32::Lib.join b [32]:=by
 induction a with
 |nil=>exact absurd rfl ha
 |cons x a ih=>
  cases a with
  |nil=>
   obtain⟨y,b',rfl⟩: ∃y b',b=y::b':=by
    cases b with
    |nil=>exact absurd rfl hb
    |cons y b'=>exact⟨y,b',rfl⟩
   rw[List.singleton_append,fN];simp[Lib.join,List.intercalate]
  |cons y a=>
   rw[List.cons_append,List.cons_append,fN,<-List.cons_append,ih (by simp),fN,List.append_assoc];rfl
def jT (n:Nd) (last:Bool):Str:=Lib.join (prN n last) [32]
def oX (eV:Int) (n:Nd) (last:Bool):Str:=Lib.join (opN eV n last) [32]
def gH (op pl:Int):Int:=if op=11 then 5 else if pl=0 then(if op=14 then tgt op+1 else tgt op)else(if op=14 then tgt op else tgt op+1)
def ndF (op pl o:Int):Bool:=decide (11<=o/\o<=15)&&(if op=11 then decide (11<o)else if op=12 then decide (12<o)||(decide (pl=1)&&decide (o=12))else if op=13 then decide (13<o)||(decide (pl=1)&&decide (o=13))else if op=14 then decide (o=15)||(decide (pl=0)&&decide (o=14))else decide (pl=1)&&decide (o=15))
def mF:List (Int×Int):=[(11,0),(12,0),(12,1),(13,0),(13,1),(14,0),(14,1),(15,0),(15,1)]
theorem yI (l:Int) (n:Nd) (last:Bool):opN l n last≠[]:=by
 unfold opN;split
 ·exact u3 n last
 ·simp
theorem DY (l:Int) (n:Nd) (last:Bool):oX l n last=if okP l n.op last then jT n last else [40,32]++(jT n true++[32,41]):=by
 unfold oX opN jT;split
 ·rfl
 ·have:=og [wL] (prN n true++[wR]) (by simp) (by simp);rw[List.singleton_append]at this;rw[this,og _ _ (u3 n true) (by simp)];simp[Lib.join,List.intercalate,wL,wR]
theorem Qf (a:Nd) (last:Bool):jT (nd 11 [a]) last=[110,111,116,32]++oX 5 a last:=by
 unfold jT oX;have:=og [fH] (opN 5 a last) (by simp) (yI _ _ _);rw[List.singleton_append]at this;rw[yw,this];simp[Lib.join,List.intercalate,fH]
def mG (op:Int) (x:Str) (so:Int):Str:=opw op++([32]++(snm so++([32]++(x++[32,58]))))
theorem Qg (op:Int) (x:Str) (so:Int) (a:Nd) (last:Bool) (h:op=16\/op=17):jT (qn op x so a) last=mG op x so++([32]++jT a true):=by
 unfold jT;have e1:=og [opw op,snm so,x,dK] (prN a true) (by simp) (u3 _ _);rw[yx op x so a last h,show opw op::snm so::x::dK::prN a true=[opw op,snm so,x,dK]++prN a true from rfl,e1];simp[fN,mG,Lib.join,List.intercalate,dK]
theorem Qh (op:Int) (a b:Nd) (last:Bool) (h:12<=op/\op<=15):jT (nd op [a,b]) last=oX (gH op 0) a false++([32]++(opw op++([32]++oX (gH op 1) b last))):=by
 have h11: ¬op=11:=by omega
 have e0:gH op 0=if op=14 then tgt op+1 else tgt op:=by unfold gH;rw[if_neg h11,if_pos rfl]
 have e1:gH op 1=if op=14 then tgt op else tgt op+1:=by unfold gH;rw[if_neg h11,if_neg (by decide)]
 unfold jT oX;rw[yy,e0,e1,og _ _ (yI _ _ _) (by simp)];have:=og [opw op] (opN (if op=14 then tgt op else tgt op+1) b last) (by simp) (yI _ _ _);rw[List.singleton_append]at this;rw[this];simp[Lib.join,List.intercalate]
def cmT:List Str->Str
 |[]=>[]
 |x::l=>32::x++l.flatMap fun y=>[32,44]++([32]++y)
theorem Qi (l:List Str) (x:Str):cmT (l++[x])=if l=[]then [32]++x else cmT l++([32,44]++([32]++x)):=by
 cases l with
 |nil=>simp[cmT]
 |cons y l=>simp[cmT]
theorem DZ: ∀(l:List Str) (a:Str),l≠[]->Lib.join (a::(eA l++[wR])) [32]=a++(cmT l++[32,41])
 |[],_,h=>absurd rfl h
 |[x],a,_=>by simp[eA,fN,cmT,wR,Lib.join,List.intercalate]
 |x::y::l,a,_=>by
  have:=DZ (y::l) eu (by simp);simp only[eA,List.cons_append]at this⊢;rw[fN,fN,this];simp[cmT,eu]
theorem Qj (f:Str) (l:List Str) (last:Bool):jT (.mk 10 (f::l) 0 0 0 []) last=f++([32,40]++(cmT l++[32,41])):=by
 unfold jT;have e:prN (.mk 10 (f::l) 0 0 0 []) last=f::wL::(eA l++[wR]):=by simp[prN,gi]
 rw[e];by_cases hl:l=[]
 ·subst hl;simp[eA,fN,cmT,wL,wR,Lib.join,List.intercalate]
 ·rw[fN,DZ l wL hl];simp[wL]
theorem vg {n:Nd} (h:ndE n=0) (last:Bool):(jT n last).length<=136*bk n:=by
 have h1:=rM (prN n last) 16 fun x hx=>(Dv _ n (Nat.le_refl _) h last x hx).len;have h2:=jy n last;unfold jT;omega
theorem yJ {n:Nd} (h:ndE n=0) (l:Int) (last:Bool):(oX l n last).length<=136*bk n+4:=by
 have h1:=vg h last;have h2:=vg h true;rw[DY];split
 ·omega
 ·simp only[List.length_append,List.length_cons,List.length_nil];omega
def yK:List Str:=[gA,gB,[61],[105,110],[115,117,98],[97,100,106],[111,110],wIs,gn,go,[],fH,jP,wOr,js,jQ,gc,gf]
def wrd (k:Int):Str:=yK.getD k.toNat []
theorem vh {k:Int} (h:2<=k/\k<=6\/11<=k/\k<=17):wrd k=opw k:=by
 have key: ∀o∈List.range 18,(2<=o/\o<=6\/11<=o/\o<=17)->wrd (o:Int)=opw (o:Int):=by decide
 have:=key k.toNat (by simp;omega) (by omega)
 rwa [Int.toNat_of_nonneg (by omega)]at this
theorem vj {k:Int} (h0:0<=k) (h1:k<18):(wrd k).length<=16:=by
 have key: ∀o∈List.range 18,(wrd (o:Int)).length<=16:=by decide
 have:=key k.toNat (by simp;omega)
 rwa [Int.toNat_of_nonneg h0]at this
theorem dZ {a b c:Str} (h:a.length+b.length<=9223372036854775807) (e:a++b=c):dB .add a b=some (.str c):=by subst e;simp[dB,h]
section
variable {t:Nat} {cl:a7} {yl:a7} {N:Nat}
theorem Qk {G:Gls} (n:Nat) (hn:n<big) (hc: ¬n<10-> ∀M,cl 198 [.int .i64 ((n / 10:Nat):Int)] M=some (.str (Lib.decDigits (n / 10)),M)):dn G false cl yl N tL [.int .i64 (n:Int)]=some (.str (Lib.decDigits n),none):=by
 unfold big at hn;have e1:(n:Int).tmod 10=((n%10:Nat):Int):=by rw[Int.tmod_eq_emod_of_nonneg (by omega)];omega
 have e2:dj .i64 (48+((n%10:Nat):Int))=48+((n%10:Nat):Int):=dJ (by omega) (by omega);have e3:UInt8.ofNat (dj .u8 (48+((n%10:Nat):Int))).toNat=UInt8.ofNat (48+n%10):=by
  rw[xj (by omega) (by omega)]
  congr 1
 have e4:dj .i64 ((n:Int) / 10)=((n / 10:Nat):Int):=by rw[dJ (by omega) (by omega)];omega
 by_cases h:n<10
 ·have hm:n%10=n:=by omega
  rw[hm]at e2 e3;have h':(n:Int)<10:=by omega
  rw[xa h];simp -implicitDefEqProofs [tL,h,h',e2,e3,gK]
 ·have h': ¬(n:Int)<10:=by omega
  have hc:=hc h;have hl:=Bq 10 (n / 10) (by omega);rw[Bp h];generalize UInt8.ofNat (48+n%10)=c at*;generalize n%10=d at*;generalize n / 10=q at*;have hl':(Lib.decDigits q).length+1<=9223372036854775807:=by omega
  generalize Lib.decDigits q=s at*;simp -implicitDefEqProofs [tL,h,h',e1,e2,e3,e4,hc,gK,dB,hl']
theorem vl {G:Gls} (k:Int):dn G false cl yl N c53 [.int .i64 k]=some (.str (snm k),none):=by
 unfold snm;by_cases h0:k=0
 ·subst h0;simp -implicitDefEqProofs [c53]
 by_cases h1:k=1
 ·subst h1;simp -implicitDefEqProofs [c53]
 by_cases h2:k=2
 ·subst h2;simp -implicitDefEqProofs [c53]
 by_cases h3:k=3
 ·subst h3;simp -implicitDefEqProofs [c53]
 have f0:(k==0)=false:=by simp[h0]
 have f1:(k==1)=false:=by simp[h1]
 have f2:(k==2)=false:=by simp[h2]
 have f3:(k==3)=false:=by simp[h3]
 simp -implicitDefEqProofs [c53,h0,h1,h2,h3,f0,f1,f2,f3]
theorem Ql {G:Gls} (k:Int) (h0:0<=k) (h1:k<18):dn G false cl yl N wJ [.int .i64 k]=some (.str (wrd k),none):=by
 rcases pS h0 h1 with rfl|rfl|rfl|rfl|rfl|rfl|rfl|rfl|rfl|rfl|rfl|rfl|rfl|rfl|rfl|rfl|rfl|rfl<;>simp -implicitDefEqProofs [wJ,wrd,yK,gA,gB,wIs,gn,go,fH,jP,wOr,js,jQ,gc,gf]
theorem Qm {G:Gls} (op pl:Int) (n:Nd) (h:(op,pl)∈mF) (h0:0<=n.op) (h1:n.op<18):dn G false cl yl N pA [.int .i64 op,.int .i64 pl,av n]=some (.bool (ndF op pl n.op),none):=by
 obtain⟨o,ns,so,nn,mm,l⟩:=n;simp only[Nd.op]at h0 h1⊢;by_cases hlo:o<11
 ·have:ndF op pl o=false:=by unfold ndF;simp;omega
  rw[this];simp -implicitDefEqProofs [pA,av,ndc,hlo]
 by_cases hhi:15<o
 ·have:ndF op pl o=false:=by unfold ndF;simp;omega
  rw[this];simp -implicitDefEqProofs [pA,av,ndc,hlo,hhi]
 have ho:o=11\/o=12\/o=13\/o=14\/o=15:=by omega
 simp only[mF,List.mem_cons,Prod.mk.injEq,List.not_mem_nil,or_false]at h;rcases h with⟨rfl,rfl⟩|⟨rfl,rfl⟩|⟨rfl,rfl⟩|⟨rfl,rfl⟩|⟨rfl,rfl⟩|⟨rfl,rfl⟩|⟨rfl,rfl⟩|⟨rfl,rfl⟩|⟨rfl,rfl⟩<;>rcases ho with rfl|rfl|rfl|rfl|rfl<;>simp -implicitDefEqProofs [pA,av,ndc,ndF]
theorem Qo {G:Gls} (op:Int) (x:Str) (so:Int) (a:Nd) (h:op=16\/op=17) (hx:dy x=true) (h166: ∀M,cl 166 [.int .i64 op] M=some (.str (wrd op),M)) (h53: ∀M,cl 53 [.int .i64 so] M=some (.str (snm so),M)):
  dn G false cl yl N tG [av (qn op x so a)]=some (.str (mG op x so),none):=by
 have h1:=kG hx;have e:=vh (k:=op) (by omega);have h2:=vj (k:=op) (by omega) (by omega);have h3:(snm so).length<=6:=by
  unfold snm
  repeat' split
  all_goals simp
 unfold mG;rw[<-e];generalize wrd op=w at*;generalize snm so=v at*;have s1:dB .add w [32]=some (.str (w++[32])):=dZ (by simp only[List.length_append,List.length_cons,List.length_nil];omega) (by simp);have s2:dB .add (w++[32]) v=some (.str (w++32::v)):=dZ (by simp only[List.length_append,List.length_cons,List.length_nil];omega) (by simp);have s3:dB .add (w++32::v) [32]=some (.str (w++32::(v++[32]))):=dZ (by simp only[List.length_append,List.length_cons,List.length_nil];omega) (by simp);have s4:dB .add (w++32::(v++[32])) x=some (.str (w++32::(v++32::x))):=dZ (by simp only[List.length_append,List.length_cons,List.length_nil];omega) (by simp);have s5:dB .add (w++32::(v++32::x)) [32,58]=some (.str (w++32::(v++32::(x++[32,58])))):=dZ (by simp only[List.length_append,List.length_cons,List.length_nil];omega) (by simp);simp -implicitDefEqProofs [tG,qn,av,ndc,h166,h53,s1,s2,s3,s4,s5]
end
theorem Qp {op pl o:Int} (h:(op,pl)∈mF) (h0:0<=o) (h1:o<18) (last:Bool):okP (gH op pl) o last=true↔(ndF op pl o=false/\(15<o->last=true)):=by
 have key: ∀p∈mF,∀o∈List.range 18,∀last:Bool,okP (gH p.1 p.2) (o:Int) last=true↔(ndF p.1 p.2 (o:Int)=false/\(15<(o:Int)->last=true)):=by decide
 have:=key (op,pl) h o.toNat (by simp;omega) last
 rwa [Int.toNat_of_nonneg h0]at this
theorem D0 (l:List Str) (h: ∀x∈l,x.length<=16):(cmT l).length<=19*l.length:=by
 have key: ∀l:List Str,(∀x∈l,x.length<=16)->(l.flatMap fun y=>[32,44]++([32]++y):Str).length<=19*l.length:=by
  intro l
  induction l with
  |nil=>intro _;simp
  |cons y l ih=>
   intro h;have h1:=h y (by simp);have h2:=ih fun x hx=>h x (by simp[hx]);simp only[List.flatMap_cons,List.length_append,List.length_cons,List.length_nil]at h2⊢;omega
 cases l with
 |nil=>simp[cmT]
 |cons x l=>
  have h1:=h x (by simp);have h2:=key l fun y hy=>h y (by simp[hy]);simp only[cmT,List.length_append,List.length_cons]at h2⊢;omega
section
variable {t:Nat} {cl:a7} {yl:a7} {N:Nat}
theorem Qq {G:Gls} (f:Str) (xs:List Str) (hf:f.length<=16) (hx: ∀x∈xs,x.length<=16) (hb:xs.length<=17) (hN:xs.length<N):
  ∃e s',dh false (a8 G false cl yl N pv) ⟨[1,3,4],[(3,none),(4,none)],false⟩ 1 0 N ⟨[(1,.ptr 0 0),(3,.str (f++[32,40])),(4,.int .i64 1)],⟨[.cells (ndc (.mk 10 (f::xs) 0 0 0 []))],[]⟩,[]⟩=some (e,s')/\e≠ .normal/\
   (e=.exit 1/\s'.mks=[]/\s'.m=⟨[.cells (ndc (.mk 10 (f::xs) 0 0 0 []))],[]⟩/\look 3 s'.ts=.str (f++([32,40]++cmT xs))):=by
 refine(eN (mu:=false) (step:=a8 G false cl yl N pv) (an:=⟨[1,3,4],[(3,none),(4,none)],false⟩) (k:=1) (m:=0) (N:=N) xs (fun _=>(none:Option Unit))
  (fun i st=>st=⟨[(1,.ptr 0 0),(3,.str (f++([32,40]++cmT (xs.take i)))),(4,.int .i64 ((i+1:Nat):Int))],⟨[.cells (ndc (.mk 10 (f::xs) 0 0 0 []))],[]⟩,[]⟩)
  (fun r e s'=>e=.exit 1/\s'.mks=[]/\s'.m=⟨[.cells (ndc (.mk 10 (f::xs) 0 0 0 []))],[]⟩/\look 3 s'.ts=.str (f++([32,40]++cmT xs))) hN (by simp[cmT]) ?_ ?_)
 ·rintro i x st hxi hi rfl;have hx':=(List.getElem?_eq_some_iff.1 hxi).2;have hxl:=hx x (List.mem_of_getElem? hxi);have w1:dj .i64 ((i:Int)+1+1)=(i:Int)+1+1:=dJ (by omega) (by omega);have hcl:=D0 (xs.take i) fun x hm=>hx x (List.mem_of_mem_take hm);have hlt:(xs.take i).length<=i:=by simp;omega
  have h0i:(0:Int)<=(i:Int)+1:=by omega
  have hlt2:(i:Int)+1<(xs.length:Int)+1:=by omega
  have htn:((i:Int)+1).toNat=i+1:=by omega
  rw[ij hxi,Qi];have hne:xs.take i=[]↔i=0:=by
   constructor
   ·intro h;have:=congrArg List.length h;simp at this;rcases this with h|h
    ·exact h
    ·subst h;simp at hi
   ·rintro rfl;rfl
  by_cases h0:i=0
  ·rw[if_pos (hne.2 h0),hne.2 h0];subst h0;have hlt3:(1:Int)<(xs.length:Int)+1:=by omega
   have hlt4:0<xs.length:=hi;have w2c:dj .i64 2=2:=dJ (by omega) (by omega);have s1:dB .add (f++[32,40]) [32]=some (.str (f++[32,40,32])):=dZ (by simp only[List.length_append,List.length_cons,List.length_nil];omega) (by simp);have s2:dB .add (f++[32,40,32]) x=some (.str (f++32::40::32::x)):=dZ (by simp only[List.length_append,List.length_cons,List.length_nil];omega) (by simp);simp -implicitDefEqProofs [pv,ndc,hi,hx',w1,w2c,hlt3,hlt4,s1,s2,cmT]
  ·rw[if_neg (fun h=>h0 (hne.1 h))];have h0':(0:Int)<(i:Int):=by omega
   have hi0:0<i:=by omega
   have hlt5:(1:Int)<(i:Int)+1:=by omega
   generalize cmT (xs.take i)=acc at*;have s1:dB .add (f++32::40::acc) [32,44]=some (.str (f++32::40::(acc++[32,44]))):=dZ (by simp only[List.length_append,List.length_cons,List.length_nil];omega) (by simp);have s2:dB .add (f++32::40::(acc++[32,44])) [32]=some (.str (f++32::40::(acc++[32,44,32]))):=dZ (by simp only[List.length_append,List.length_cons,List.length_nil];omega) (by simp);have s3:dB .add (f++32::40::(acc++[32,44,32])) x=some (.str (f++32::40::(acc++32::44::32::x))):=dZ (by simp only[List.length_append,List.length_cons,List.length_nil];omega) (by simp);simp -implicitDefEqProofs [pv,ndc,hi,hx',w1,hlt2,hlt5,h0i,htn,h0',hi0,s1,s2,s3]
 ·rintro st rfl;rw[List.take_length];simp -implicitDefEqProofs [pv,ndc]
theorem Qs {G:Gls} (n:Nd) (last:Bool) (h:ndE n=0) (hl:n.op<=10) (hN:17<N) (h166: ∀M,cl 166 [.int .i64 n.op] M=some (.str (wrd n.op),M)) (h198: ∀i:Nat,i<big-> ∀M,cl 198 [.int .i64 (i:Nat)] M=some (.str (Lib.decDigits i),M)):
  dn G false cl yl N lj [av n]=some (.str (jT n last),none):=by
 have hv:=lz h;clear h;cases hv with
 |cst op h=>rcases h with rfl|rfl<;>simp[nd,Nd.op]at h166<;>simp -implicitDefEqProofs [lj,nd,av,ndc,Nd.op,h166,jT,prN,gi,wrd,yK,Lib.join,List.intercalate]
 |two op x y h hx hy=>
  have hxl:=kG hx;have hyl:=kG hy;have ew:=vh (k:=op) (by omega);have hw:=vj (k:=op) (by omega) (by omega);simp only[Nd.op]at h166;have e0: ¬op=0:=by omega
  have e1: ¬op=1:=by omega
  have e7: ¬op=7:=by omega
  have e8: ¬op=8:=by omega
  have e9: ¬op=9:=by omega
  have e10: ¬op=10:=by omega
  have f0:(op==0)=false:=by simp[e0]
  have f1:(op==1)=false:=by simp[e1]
  have f7:(op==7)=false:=by simp[e7]
  have f8:(op==8)=false:=by simp[e8]
  have f9:(op==9)=false:=by simp[e9]
  have f10:(op==10)=false:=by simp[e10]
  have ej:jT (.mk op [x,y] 0 0 0 []) last=x++([32]++(wrd op++([32]++y))):=by
   rw[ew];simp[jT,prN,gi,e0,e1,e7,e8,e9,e10,fN,Lib.join,List.intercalate]
  rw[ej];generalize wrd op=w at*;have s1:dB .add x [32]=some (.str (x++[32])):=dZ (by simp only[List.length_append,List.length_cons,List.length_nil];omega) (by simp);have s2:dB .add (x++[32]) w=some (.str (x++32::w)):=dZ (by simp only[List.length_append,List.length_cons,List.length_nil];omega) (by simp);have s3:dB .add (x++32::w) [32]=some (.str (x++32::(w++[32]))):=dZ (by simp only[List.length_append,List.length_cons,List.length_nil];omega) (by simp);have s4:dB .add (x++32::(w++[32])) y=some (.str (x++32::(w++32::y))):=dZ (by simp only[List.length_append,List.length_cons,List.length_nil];omega) (by simp);simp -implicitDefEqProofs [lj,av,ndc,e0,e1,e7,e8,e9,e10,f0,f1,f7,f8,f9,f10,h166,s1,s2,s3,s4]
 |lab x k hx h=>
  have hxl:=kG hx;have hk:((k.toNat:Nat):Int)=k:=Int.toNat_of_nonneg h.1;have k1:=h198 k.toNat (by unfold big;omega);have l1:=u4 k.toNat (by omega);rw[hk]at k1;have ej:jT (.mk 7 [x] 0 k 0 []) last=x++([32,105,115,32]++Lib.decDigits k.toNat):=by simp[jT,prN,gi,jx,wIs,fN,Lib.join,List.intercalate]
  rw[ej];generalize Lib.decDigits k.toNat=w at*;have s1:dB .add x [32,105,115,32]=some (.str (x++[32,105,115,32])):=dZ (by simp only[List.length_append,List.length_cons,List.length_nil];omega) (by simp);have s2:dB .add (x++[32,105,115,32]) w=some (.str (x++32::105::115::32::w)):=dZ (by simp only[List.length_append,List.length_cons,List.length_nil];omega) (by simp);simp -implicitDefEqProofs [lj,av,ndc,k1,s1,s2]
 |smd x k m hx h=>
  have hxl:=kG hx;have hk:((k.toNat:Nat):Int)=k:=Int.toNat_of_nonneg h.2.2.1;have hm:((m.toNat:Nat):Int)=m:=Int.toNat_of_nonneg (by omega);have k1:=h198 k.toNat (by unfold big;omega);have k2:=h198 m.toNat (by unfold big;omega);have l1:=u4 k.toNat (by omega);have l2:=u4 m.toNat (by omega);rw[hk]at k1;rw[hm]at k2;have ej:jT (.mk 8 [x] 0 k m []) last=[115,105,122,101,32]++(x++([32,109,111,100,32]++(Lib.decDigits m.toNat++([32,105,115,32]++Lib.decDigits k.toNat)))):=by simp[jT,prN,gi,jx,wIs,gn,fI,fN,Lib.join,List.intercalate]
  rw[ej];generalize Lib.decDigits k.toNat=w at*;generalize Lib.decDigits m.toNat=v at*;have s1:dB .add [115,105,122,101,32] x=some (.str (115::105::122::101::32::x)):=dZ (by simp only[List.length_append,List.length_cons,List.length_nil];omega) (by simp);have s2:dB .add (115::105::122::101::32::x) [32,109,111,100,32]=some (.str (115::105::122::101::32::(x++[32,109,111,100,32]))):=dZ (by simp only[List.length_append,List.length_cons,List.length_nil];omega) (by simp);have s3:dB .add (115::105::122::101::32::(x++[32,109,111,100,32])) v=some (.str (115::105::122::101::32::(x++32::109::111::100::32::v))):=dZ (by simp only[List.length_append,List.length_cons,List.length_nil];omega) (by simp);have s4:dB .add (115::105::122::101::32::(x++32::109::111::100::32::v)) [32,105,115,32]=some (.str (115::105::122::101::32::(x++32::109::111::100::32::(v++[32,105,115,32])))):=dZ (by simp only[List.length_append,List.length_cons,List.length_nil];omega) (by simp);have s5:dB .add (115::105::122::101::32::(x++32::109::111::100::32::(v++[32,105,115,32]))) w=some (.str (115::105::122::101::32::(x++32::109::111::100::32::(v++32::105::115::32::w)))):=dZ (by simp only[List.length_append,List.length_cons,List.length_nil];omega) (by simp);simp -implicitDefEqProofs [lj,av,ndc,k1,k2,s1,s2,s3,s4,s5]
 |sng x hx=>
  have hxl:=kG hx;have ej:jT (.mk 9 [x] 0 0 0 []) last=[111,110,101,32]++x:=by simp[jT,prN,gi,go,fN,Lib.join,List.intercalate]
  rw[ej];have s1:dB .add [111,110,101,32] x=some (.str (111::110::101::32::x)):=dZ (by simp only[List.length_append,List.length_cons,List.length_nil];omega) (by simp);simp -implicitDefEqProofs [lj,av,ndc,s1]
 |cal x xs h hx=>
  have hid: ∀y∈x::xs,y.length<=16:=fun y hy=>kG (List.all_eq_true.1 hx y hy);have hxl:=hid x (by simp);simp only[List.length_cons]at h;obtain⟨e,⟨ts,M,mks⟩,k1,-,rfl,rfl,rfl,k2⟩:=Qq (G:=G) (cl:=cl) (yl:=yl) (N:=N) x xs hxl (fun y hy=>hid y (by simp[hy])) (by omega) (by omega);have hcl:=D0 xs fun y hy=>hid y (by simp[hy]);rw[Qj];simp only[]at k2;unfold ndc at k1;generalize cmT xs=acc at*;simp -implicitDefEqProofs at k1;have s1:dB .add x [32,40]=some (.str (x++[32,40])):=dZ (by simp only[List.length_append,List.length_cons,List.length_nil];omega) (by simp);have s2:dB .add (x++32::40::acc) [32,41]=some (.str (x++32::40::(acc++[32,41]))):=dZ (by simp only[List.length_append,List.length_cons,List.length_nil];omega) (by simp);simp -implicitDefEqProofs at k2;simp -implicitDefEqProofs [lj,av,ndc,k1,k2,s1,s2]
 |not a ha=>exact absurd hl (by simp[nd,Nd.op])
 |bin op a b h ha hb=>exact absurd hl (by have:(nd op [a,b]).op=op:=rfl;omega)
 |qnt op x so a h hx hs ha=>exact absurd hl (by have:(qn op x so a).op=op:=rfl;omega)
theorem Qt {G:Gls} (op pl:Int) (n:Nd) (last:Bool) (h:(op,pl)∈mF) (hv:ndE n=0) (hb:bk n<=big) (h199: ∀M,cl 199 [.int .i64 op,.int .i64 pl,av n] M=some (.bool (ndF op pl n.op),M)) (h104: ∀b M,cl 104 [av n,.bool b] M=some (.str (jT n b),M)):
  dn G false cl yl N nA [.int .i64 op,.int .i64 pl,av n,.bool last]=some (.str (oX (gH op pl) n last),none):=by
 have hd:=lw.1 hv;have hk:=Qp h hd.op0 hd.op1 last;have hl:=vg hv true;have h1:=h104 true;have h2:=h104 last;unfold big at hb;rw[DY];clear hv hd h104;generalize jT n true=s1 at*;generalize jT n last=s2 at*;have s1a:dB .add [40,32] s1=some (.str (40::32::s1)):=dZ (by simp only[List.length_append,List.length_cons,List.length_nil];omega) (by simp);have s2a:dB .add (40::32::s1) [32,41]=some (.str (40::32::(s1++[32,41]))):=dZ (by simp only[List.length_append,List.length_cons,List.length_nil];omega) (by simp);cases hq:okP (gH op pl) n.op last with
 |true=>
  obtain⟨hk1,hk2⟩:=hk.1 hq;rw[if_pos rfl];rw[hk1]at h199;clear hq hk1 hk;obtain⟨o,ns,so,nn,mm,l⟩:=n;simp only[Nd.op]at hk2;simp only[av,ndc]at h199 h1 h2;by_cases h15:15<o
  ·have:=hk2 h15;subst this;simp -implicitDefEqProofs [nA,av,ndc,h199,h2,h15]
  ·simp -implicitDefEqProofs [nA,av,ndc,h199,h2,h15]
 |false=>
  rw[if_neg (by decide)];cases hn:ndF op pl n.op with
  |true=>
   rw[hn]at h199;clear hk hq hn;obtain⟨o,ns,so,nn,mm,l⟩:=n;simp only[av,ndc]at h199 h1 h2;simp -implicitDefEqProofs [nA,av,ndc,h199,h1,s1a,s2a]
  |false=>
   rw[hn]at h199;have h15:15<n.op/\last=false:=by
    apply Classical.byContradiction;intro hc;have:okP (gH op pl) n.op last=true:=hk.2 ⟨hn,fun h=>by
     cases last with
     |true=>rfl
     |false=>exact absurd ⟨h,rfl⟩ hc⟩
    rw[hq]at this;cases this
   clear hk hq hn;obtain⟨h15,rfl⟩:=h15;obtain⟨o,ns,so,nn,mm,l⟩:=n;simp only[Nd.op]at h15;simp only[av,ndc]at h199 h1 h2;simp -implicitDefEqProofs [nA,av,ndc,h199,h1,h15,s1a,s2a]
theorem Qu {G:Gls} (n:Nd) (last:Bool) (hv:ndE n=0) (hb:bk n<=big)
  (h163:n.op<=10-> ∀M,cl 163 [av n] M=some (.str (jT n last),M))
  (h164: ∀op pl,(op,pl)∈mF-> ∀x∈n.l,∀b M,cl 164 [.int .i64 op,.int .i64 pl,av x,.bool b] M=some (.str (oX (gH op pl) x b),M))
  (h165: ∀op x so a,n=qn op x so a->op=16\/op=17->dy x=true-> ∀M,cl 165 [av n] M=some (.str (mG op x so),M))
  (h166: ∀M,cl 166 [.int .i64 n.op] M=some (.str (wrd n.op),M))
  (h104: ∀x∈n.l,∀M,cl 104 [av x,.bool true] M=some (.str (jT x true),M)):
  dn G false cl yl N nq [av n,.bool last]=some (.str (jT n last),none):=by
 unfold big at hb;by_cases hlo:n.op<=10
 ·have k:=h163 hlo;have hlt:n.op<11:=by omega
  generalize jT n last=s at*;clear hv h164 h165 h166 h104 h163;obtain⟨o,ns,so,nn,mm,l⟩:=n;simp only[Nd.op]at hlt;simp only[av,ndc]at k;simp -implicitDefEqProofs [nq,av,ndc,k,hlt]
 have hv':=lz hv;cases hv' with
 |cst op h=>exact absurd (show op<=10 by omega) hlo
 |two op x y h hx hy=>exact absurd (show op<=10 by omega) hlo
 |lab x k hx h=>exact absurd (show(7:Int)<=10 by omega) hlo
 |smd x k m hx h=>exact absurd (show(8:Int)<=10 by omega) hlo
 |sng x hx=>exact absurd (show(9:Int)<=10 by omega) hlo
 |cal x xs h hx=>exact absurd (show(10:Int)<=10 by omega) hlo
 |not a ha=>
  have hk:=ig (n:=nd 11 [a]) (x:=a) (by simp[nd,Nd.l]);have k:=h164 11 0 (by decide) a (by simp[nd,Nd.l]) last;have hl:=yJ ha (gH 11 0) last;rw[Qf,show(5:Int)=gH 11 0 from rfl];generalize oX (gH 11 0) a last=s at*;clear h163 h164 h165 h166 h104 hv;have s1:dB .add [110,111,116,32] s=some (.str (110::111::116::32::s)):=dZ (by simp only[List.length_append,List.length_cons,List.length_nil];omega) (by simp);rw[show av (nd 11 [a])=.agg [.int .i64 11,.slc .shared [],.int .i64 0,.int .i64 0,.int .i64 0,.slc .shared [av a]] from rfl];simp -implicitDefEqProofs [nq,k,s1]
 |bin op a b h ha hb2=>
  have hk1:=ig (n:=nd op [a,b]) (x:=a) (by simp[nd,Nd.l]);have hk2:=ig (n:=nd op [a,b]) (x:=b) (by simp[nd,Nd.l]);have hm:(op,(0:Int))∈mF/\(op,(1:Int))∈mF:=by
   rcases(show op=12\/op=13\/op=14\/op=15 by omega)with rfl|rfl|rfl|rfl<;>decide
  have k1:=h164 op 0 hm.1 a (by simp[nd,Nd.l]) false;have k2:=h164 op 1 hm.2 b (by simp[nd,Nd.l]) last;have l1:=yJ ha (gH op 0) false;have l2:=yJ hb2 (gH op 1) last;have ew:=vh (k:=op) (by omega);have hw:=vj (k:=op) (by omega) (by omega);simp only[nd,Nd.op]at h166;rw[Qh op a b last h,<-ew];generalize oX (gH op 0) a false=s1 at*;generalize oX (gH op 1) b last=s2 at*;generalize wrd op=w at*;have g1: ¬op<11:=by omega
  have g2: ¬op=11:=by omega
  have g3: ¬15<op:=by omega
  have g2':(op==11)=false:=by simp[g2]
  clear h163 h164 h165 h104 hv ew hm;have t1:dB .add s1 [32]=some (.str (s1++[32])):=dZ (by simp only[List.length_append,List.length_cons,List.length_nil];omega) (by simp);have t2:dB .add (s1++[32]) w=some (.str (s1++32::w)):=dZ (by simp only[List.length_append,List.length_cons,List.length_nil];omega) (by simp);have t3:dB .add (s1++32::w) [32]=some (.str (s1++32::(w++[32]))):=dZ (by simp only[List.length_append,List.length_cons,List.length_nil];omega) (by simp);have t4:dB .add (s1++32::(w++[32])) s2=some (.str (s1++32::(w++32::s2))):=dZ (by simp only[List.length_append,List.length_cons,List.length_nil];omega) (by simp);rw[show av (nd op [a,b])=.agg [.int .i64 op,.slc .shared [],.int .i64 0,.int .i64 0,.int .i64 0,.slc .shared [av a,av b]] from rfl];simp -implicitDefEqProofs [nq,g1,g2,g3,g2',k1,k2,h166,t1,t2,t3,t4]
 |qnt op x so a h hx hs ha=>
  have hk1:=ig (n:=qn op x so a) (x:=a) (by simp[qn,Nd.l]);have k1:=h165 op x so a rfl h hx;have k2:=h104 a (by simp[qn,Nd.l]);have hxl:=kG hx;have l2:=vg ha true;have lb:(mG op x so).length<=100:=by
   have h3:(snm so).length<=6:=by
    unfold snm
    repeat' split
    all_goals simp
   have h4:(opw op).length<=16:=by
    have:=vj (k:=op) (by omega) (by omega)
    rwa [vh (by omega)]at this
   unfold mG;simp only[List.length_append,List.length_cons,List.length_nil];omega
  rw[Qg op x so a last h];generalize mG op x so=s1 at*;generalize jT a true=s2 at*;have g1: ¬op<11:=by omega
  have g2: ¬op=11:=by omega
  have g3:15<op:=by omega
  have g2':(op==11)=false:=by simp[g2]
  clear h163 h164 h165 h104 hv;rw[show av (qn op x so a)=.agg [.int .i64 op,.slc .shared [.str x],.int .i64 so,.int .i64 0,.int .i64 0,.slc .shared [av a]] from rfl]at k1⊢;have t1:dB .add s1 [32]=some (.str (s1++[32])):=dZ (by simp only[List.length_append,List.length_cons,List.length_nil];omega) (by simp);have t2:dB .add (s1++[32]) s2=some (.str (s1++32::s2)):=dZ (by simp only[List.length_append,List.length_cons,List.length_nil];omega) (by simp);simp -implicitDefEqProofs [nq,g1,g2,g3,g2',k1,k2,t1,t2]
theorem Qv {G:Gls} (n:Nd) (h34: ∀M,cl 34 [av n] M=some (.int .i64 (chk n),M)) (h104:chk n=0-> ∀M,cl 104 [av n,.bool true] M=some (.str (prT n),M)):
  dn G false cl yl N c52 [av n]=some (.tup [.str (dT n).1,.int .i64 (dT n).2],none):=by
 unfold dT;by_cases hc:chk n=0
 ·rw[hc]at h34;have k:=h104 hc;rw[if_pos hc];clear h104;generalize prT n=s at*;obtain⟨sp1,sp2,hx⟩:=ya n;by_cases hl:65536<s.length
  ·have hl':(65536:Int)<(s.length:Int):=by omega
   simp -implicitDefEqProofs [c52,h34,k,hl,hl']
  ·have hl': ¬(65536:Int)<(s.length:Int):=by omega
   simp -implicitDefEqProofs [c52,h34,k,hl,hl']
 ·have hc':(chk n !=0)=true:=by simp[hc]
  rw[if_neg hc];simp -implicitDefEqProofs [c52,h34,hc,hc']
end
section
variable {t:Nat}
noncomputable abbrev J1 (t:Nat):List (Nat×(List AV->dC)):=(166,spR (fun k:Int=>[.int .i64 k]) (fun k=>(.str (wrd k),none)) (fun k=>0<=k/\k<18))::(198,u2)::T4 t
theorem Qw:dP Tryz.prog (GG t) (dg (J1 t)):=by
 refine ek _ _ _ JI (fun k h=>⟨1,Ql k h.1 h.2⟩) (nK _ _ _ (fun i:Nat=>i) yz JN ?_ yD);intro i hi orc hself hother;refine⟨1,Qk i hi fun h10 M=>ux (hself (i / 10) (by show i / 10<big;omega) (by show i / 10<i;omega)) (by rfl) M⟩
variable {N k:Nat}
noncomputable abbrev B5 (t N k:Nat):a7:=BW (GG t) (dg (J1 t)) N k
theorem yL {op:Int} (h0:0<=op) (h1:op<18) (M:Mem):B5 t N (k+1) 166 [.int .i64 op] M=some (.str (wrd op),M):=
 dS (du Ch op (by repeat first|exact .here|refine .there ?_ rfl) (by exact⟨h0,h1⟩) (by rfl) (by rfl) M)
theorem Qx (i:Nat) (hi:i<big) (M:Mem):B5 t N (k+1) 198 [.int .i64 (i:Nat)] M=some (.str (Lib.decDigits i),M):=
 dS (du yz i (by repeat first|exact .here|refine .there ?_ rfl) (by exact hi) (by rfl) (by rfl) M)
theorem y53 (x:Int) (M:Mem):B5 t N (k+1) 53 [.int .i64 x] M=some (.str (snm x),M):=
 fZ (cf:=c53) (by unfold dL;split<;>rfl) rfl rfl rfl rfl (vl x) M
theorem Qy (hN:17<N): ∀(sn:Nat) (n:Nd),sz n<=sn->ndE n=0->bk n<=big-> ∀k,2*dp n<=k-> ∀last M,B5 t N (k+3) 104 [av n,.bool last] M=some (.str (jT n last),M):=by
 intro sn
 induction sn with
 |zero=>intro n h;have:=oU n;omega
 |succ sn ih=>
  intro n hsn hv hb k hk last M;have hd1:1<=dp n:=by have:=oV n;omega
  obtain⟨k,rfl⟩: ∃j,k=j+2:=⟨k - 2,by omega⟩
  have hd:=lw.1 hv;have ih': ∀x∈n.l,∀j,k<=j-> ∀last M,B5 t N (j+3) 104 [av x,.bool last] M=some (.str (jT x last),M):=fun x hx j hj=>by
   have:=uz hx;have:=ig hx;have:=ko hx;exact ih x (by omega) (mf hv hx) (by omega) j (by omega)
  refine fZ (cf:=nq) (by unfold dL;split<;>rfl) rfl rfl rfl (by simp) (Qu n last hv hb (fun ho M=>?_) (fun op pl hm x hx b M=>?_) (fun op x so a hn hop hx M=>?_) (fun M=>yL hd.op0 hd.op1 M) (fun x hx M=>ih' x hx (k+1) (by omega) true M)) M
  ·exact fZ (cf:=lj) (by unfold dL;split<;>rfl) rfl rfl rfl (by simp) (Qs n last hv ho hN (fun M=>yL hd.op0 hd.op1 M) (fun i hi M=>Qx i hi M)) M
  ·have hvx:=mf hv hx;have hdx:=lw.1 hvx;exact fZ (cf:=nA) (by unfold dL;split<;>rfl) rfl rfl rfl (by simp) (Qt op pl x b hm hvx (by have:=ig hx;omega) (fun M=>fZ (cf:=pA) (by unfold dL;split<;>rfl) rfl rfl rfl (by simp) (Qm op pl x hm hdx.op0 hdx.op1) M) (fun b M=>ih' x hx k (Nat.le_refl _) b M)) M
  ·subst hn;exact fZ (cf:=tG) (by unfold dL;split<;>rfl) rfl rfl rfl (by simp) (Qo op x so a hop hx (fun M=>yL hd.op0 hd.op1 M) (fun M=>y53 so M)) M
noncomputable abbrev J2 (t:Nat):List (Nat×(List AV->dC)):=(52,spR e1 (fun n=>(.tup [.str (dT n).1,.int .i64 (dT n).2],none)) (fun n=>bk n<=big))::J1 t
theorem Qz:dP Tryz.prog (GG t) (dg (J2 t)):=by
 refine ml _ _ _ I4 (fun n hb=>⟨18,2*dp n+3,Qv n (fun M=>?_) fun hc M=>?_⟩) Qw
 ·exact dS (k:=2*dp n+2) (du eO n (by repeat first|exact .here|refine .there ?_ rfl) (by exact hb) (by exact a1 n) (by rfl) M)
 ·exact Qy (by omega) _ n (Nat.le_refl _) (yC hc).1 hb _ (Nat.le_refl _) true M
end
def pmT:List Vr->Str
 |[]=>[]
 |v::l=>([32]++(snm v.so++([32]++v.nm)))++l.flatMap fun u=>[32,44,32]++(snm u.so++([32]++u.nm))
theorem QA (l:List Vr) (v:Vr):pmT (l++[v])=if l=[]then 32::(snm v.so++32::v.nm)else pmT l++32::44::32::(snm v.so++32::v.nm):=by
 cases l with
 |nil=>simp[pmT]
 |cons u l=>simp[pmT]
theorem D1: ∀(ps:List Vr) (a:Str) (r:Str) (rs:List Str),Lib.join (a::(gr ps++r::rs)) [32]=a++(pmT ps++32::Lib.join (r::rs) [32])
 |[],a,r,rs=>by simp[gr,fN,pmT]
 |[v],a,r,rs=>by simp[gr,fN,pmT]
 |v::u::l,a,r,rs=>by
  have:=D1 (u::l) eu r rs;simp only[gr,List.cons_append]at this⊢;rw[fN,fN,fN,this];simp[pmT,eu]
theorem QB (m:Mc) (b:Str):lnT m b=108::101::116::32::(m.nm++32::40::(pmT m.ps++32::41::32::58::32::(b++[32,59,10]))):=by
 have e:lnW m b=eC::m.nm::wL::(gr m.ps++wR::[dK,b,fh]):=by simp[lnW,ff]
 unfold lnT;rw[e,fN,fN,D1];simp[fN,Lib.join,List.intercalate,eC,wL,wR,dK,fh]
theorem D2 (ps:List Vr): ∀i,(pmT (ps.take i)).length<=(pmT ps).length:=by
 intro i;have: ∀a b:List Vr,(pmT a).length<=(pmT (a++b)).length:=by
  intro a b;cases a with
  |nil=>simp[pmT]
  |cons v a=>
   have e1:pmT (v::a)=([32]++(snm v.so++([32]++v.nm)))++a.flatMap fun u=>[32,44,32]++(snm u.so++([32]++u.nm)):=rfl;have e2:pmT (v::a++b)=([32]++(snm v.so++([32]++v.nm)))++(a++b).flatMap fun u=>[32,44,32]++(snm u.so++([32]++u.nm)):=rfl;rw[e1,e2,List.flatMap_append];simp only[List.length_append];omega
 have h:=this (ps.take i) (ps.drop i)
 rwa [List.take_append_drop]at h
section
variable {cl:a7} {yl:a7} {N:Nat}
theorem QC {G:Gls} (w:List Mc) (acc body:Str) {i0:Nat} {m:Mc} (hm:w[i0]? =some m) (hacc:acc.length+(pmT m.ps).length+100<=1000000000000) (hb:m.ps.length<1073741824) (hN:m.ps.length<N) (h53: ∀k M,cl 53 [.int .i64 k] M=some (.str (snm k),M)):
  ∃e s',dh false (a8 G false cl yl N o8) ⟨[0,4,5,6,8],[(4,none),(8,none)],false⟩ 0 0 N ⟨[(0,.slc .shared (w.map mcv)),(4,.str acc),(5,.int .i64 (i0:Nat)),(6,.str body),(8,.int .i64 ((0:Nat):Int))],⟨[],[]⟩,[]⟩=some (e,s')/\e≠ .normal/\
   (e=.exit 2/\s'.mks=[]/\s'.m=⟨[],[]⟩/\look 0 s'.ts=.slc .shared (w.map mcv)/\look 4 s'.ts=.str (acc++pmT m.ps)/\look 5 s'.ts=.int .i64 (i0:Nat)/\look 6 s'.ts=.str body):=by
 obtain⟨hi0,hm'⟩:=List.getElem?_eq_some_iff.1 hm;obtain⟨mn,mps,o,ns,so,nn,mm,l⟩:=m;simp only[]at hacc hb hN⊢;have hmv:mcv ⟨mn,mps,.mk o ns so nn mm l⟩=.agg [.str mn,.slc .shared (mps.map vrv),.int .i64 o,.slc .shared (ns.map .str),.int .i64 so,.int .i64 nn,.int .i64 mm,.slc .shared (avL l)]:=rfl;refine(eN (mu:=false) (step:=a8 G false cl yl N o8) (an:=⟨[0,4,5,6,8],[(4,none),(8,none)],false⟩) (k:=0) (m:=0) (N:=N) mps (fun _=>(none:Option Unit))
  (fun i st=>st=⟨[(0,.slc .shared (w.map mcv)),(4,.str (acc++pmT (mps.take i))),(5,.int .i64 (i0:Nat)),(6,.str body),(8,.int .i64 (i:Nat))],⟨[],[]⟩,[]⟩)
  (fun r e s'=>e=.exit 2/\s'.mks=[]/\s'.m=⟨[],[]⟩/\look 0 s'.ts=.slc .shared (w.map mcv)/\look 4 s'.ts=.str (acc++pmT mps)/\look 5 s'.ts=.int .i64 (i0:Nat)/\look 6 s'.ts=.str body) hN (by simp[pmT]) ?_ ?_)
 ·rintro i v st hx hi rfl;have hx':=(List.getElem?_eq_some_iff.1 hx).2;have w1:=dF (i:=i) (by omega);have k53:=h53 v.so;have hl1:=D2 mps i;have hl2:=D2 mps (i+1);rw[ij hx,QA]at hl2⊢;have hne:mps.take i=[]↔i=0:=by
   constructor
   ·intro h;have:=congrArg List.length h;simp at this;rcases this with h|h
    ·exact h
    ·rw[h]at hi;simp at hi
   ·rintro rfl;rfl
  have hs6:(snm v.so).length<=6:=by
   unfold snm
   repeat' split
   all_goals simp
  obtain⟨vn,vs⟩:=v;simp only[]at k53 hs6 hl2⊢;generalize snm vs=sn at*;by_cases h0:i=0
  ·rw[if_pos (hne.2 h0)]at hl2⊢;rw[hne.2 h0];subst h0;simp only[List.length_cons,List.length_append]at hl2;have s1:dB .add acc [32]=some (.str (acc++[32])):=dZ (by simp only[List.length_append,List.length_cons,List.length_nil];omega) (by simp);have s2:dB .add (acc++[32]) sn=some (.str (acc++32::sn)):=dZ (by simp only[List.length_append,List.length_cons,List.length_nil];omega) (by simp);have s3:dB .add (acc++32::sn) [32]=some (.str (acc++32::(sn++[32]))):=dZ (by simp only[List.length_append,List.length_cons,List.length_nil];omega) (by simp);have s4:dB .add (acc++32::(sn++[32])) vn=some (.str (acc++32::(sn++32::vn))):=dZ (by simp only[List.length_append,List.length_cons,List.length_nil];omega) (by simp);have w2:dj .i64 1=1:=dJ (by omega) (by omega);simp -implicitDefEqProofs [o8,hi0,hm',hmv,hi,hx',vrv,k53,w1,w2,pmT,s1,s2,s3,s4]
  ·rw[if_neg (fun h=>h0 (hne.1 h))]at hl2⊢;simp only[List.length_cons,List.length_append]at hl2;have h0':(0:Int)<(i:Int):=by omega
   have hi0':0<i:=by omega
   generalize pmT (mps.take i)=ac at*;have s0:dB .add (acc++ac) [32,44]=some (.str (acc++(ac++[32,44]))):=dZ (by simp only[List.length_append,List.length_cons,List.length_nil];omega) (by simp);have s1:dB .add (acc++(ac++[32,44])) [32]=some (.str (acc++(ac++[32,44,32]))):=dZ (by simp only[List.length_append,List.length_cons,List.length_nil];omega) (by simp);have s2:dB .add (acc++(ac++[32,44,32])) sn=some (.str (acc++(ac++32::44::32::sn))):=dZ (by simp only[List.length_append,List.length_cons,List.length_nil];omega) (by simp);have s3:dB .add (acc++(ac++32::44::32::sn)) [32]=some (.str (acc++(ac++32::44::32::(sn++[32])))):=dZ (by simp only[List.length_append,List.length_cons,List.length_nil];omega) (by simp);have s4:dB .add (acc++(ac++32::44::32::(sn++[32]))) vn=some (.str (acc++(ac++32::44::32::(sn++32::vn)))):=dZ (by simp only[List.length_append,List.length_cons,List.length_nil];omega) (by simp);simp -implicitDefEqProofs [o8,hi0,hm',hmv,hi,hx',vrv,k53,w1,h0',hi0',s0,s1,s2,s3,s4]
 ·rintro st rfl;rw[List.take_length];simp -implicitDefEqProofs [o8,hi0,hm',hmv]
theorem QD {G:Gls} {w:List Mc} (k:oe w) (h52: ∀m∈w,∀M,cl 52 [av m.bd] M=some (.tup [.str (dT m.bd).1,.int .i64 (dT m.bd).2],M)) (h53: ∀k M,cl 53 [.int .i64 k] M=some (.str (snm k),M)) (hN: ∀m∈w,m.ps.length<N) (hwN:w.length<N):
  ∃e s',dh false (a8 G false cl yl N o9) ⟨[0,4,5],[(4,none),(5,none)],false⟩ 0 0 N ⟨[(0,.slc .shared (w.map mcv)),(4,.str []),(5,.int .i64 ((0:Nat):Int))],⟨[],[]⟩,[]⟩=some (e,s')/\e≠ .normal/\
   (s'.mks=[]/\s'.m=⟨[],[]⟩/\match w.findSome? jz with
    |none=>e=.exit 0/\look 4 s'.ts=.str (fO w)
    |some r=>e=.ret/\look 2 s'.ts=.str []/\look 3 s'.ts=.int .i64 r):=by
 refine(eN (mu:=false) (step:=a8 G false cl yl N o9) (an:=⟨[0,4,5],[(4,none),(5,none)],false⟩) (k:=0) (m:=0) (N:=N) w jz
  (fun i st=>st=⟨[(0,.slc .shared (w.map mcv)),(4,.str (fO (w.take i))),(5,.int .i64 (i:Nat))],⟨[],[]⟩,[]⟩)
  (fun r e s'=>s'.mks=[]/\s'.m=⟨[],[]⟩/\match r with
    |none=>e=.exit 0/\look 4 s'.ts=.str (fO w)
    |some r=>e=.ret/\look 2 s'.ts=.str []/\look 3 s'.ts=.int .i64 r) hwN rfl ?_ ?_)
 ·rintro i m st hx hi rfl;have hmem:=List.mem_of_getElem? hx;have hx':=(List.getElem?_eq_some_iff.1 hx).2;have w1:=dF (i:=i) (by have:=k.n;omega);have k52:=h52 m hmem;have hps:=k.ps m hmem;have htx:=k.tx m hmem;have hNm:=hN m hmem;have hacc:(fO (w.take i)).length<=1000000000:=by
   have h1:=DT (w:=w.take i) fun x hx=>k.tx x (List.mem_of_mem_take hx);have h2:=k.n;have h3:(w.take i).length<=64:=by simp;omega
   omega
  have hT:fO (w.take (i+1))=fO (w.take i)++lnT m (dT m.bd).1:=by rw[ij hx,DR];simp[fO]
  rw[hT];rw[QB]at htx⊢;unfold jz;have hx2:=hx;generalize fO (w.take i)=acc at*;obtain⟨mn,mps,mbd⟩:=m;simp only[]at k52 hps htx hNm⊢;generalize dT mbd=nb at*;obtain⟨body,er⟩:=nb;simp only[]at k52 htx⊢;simp only[List.length_cons,List.length_append,List.length_nil]at htx;obtain⟨o,ns,so,nn,mm,l⟩:=mbd;have hmv:mcv ⟨mn,mps,.mk o ns so nn mm l⟩=.agg [.str mn,.slc .shared (mps.map vrv),.int .i64 o,.slc .shared (ns.map .str),.int .i64 so,.int .i64 nn,.int .i64 mm,.slc .shared (avL l)]:=rfl;simp only[av,ndc]at k52;by_cases he:er=0
  ·subst he;rw[if_pos rfl];obtain⟨e,⟨ts,M,mks⟩,j1,-,rfl,rfl,rfl,j0,j4,j5,j6⟩:=QC (G:=G) (cl:=cl) (yl:=yl) (N:=N) w (acc++108::101::116::32::(mn++[32,40])) body hx2 (by simp only[List.length_cons,List.length_append,List.length_nil];omega) hps hNm h53;simp only[]at j0 j4 j5 j6;generalize pmT mps=pm at*;simp -implicitDefEqProofs at j4 j1;have s1:dB .add acc [108,101,116,32]=some (.str (acc++[108,101,116,32])):=dZ (by simp only[List.length_append,List.length_cons,List.length_nil];omega) (by simp);have s2:dB .add (acc++[108,101,116,32]) mn=some (.str (acc++108::101::116::32::mn)):=dZ (by simp only[List.length_append,List.length_cons,List.length_nil];omega) (by simp);have s3:dB .add (acc++108::101::116::32::mn) [32,40]=some (.str (acc++108::101::116::32::(mn++[32,40]))):=dZ (by simp only[List.length_append,List.length_cons,List.length_nil];omega) (by simp);have s4:dB .add (acc++108::101::116::32::(mn++32::40::pm)) [32,41,32,58,32]=some (.str (acc++108::101::116::32::(mn++32::40::(pm++[32,41,32,58,32])))):=dZ (by simp only[List.length_append,List.length_cons,List.length_nil];omega) (by simp);have s5:dB .add (acc++108::101::116::32::(mn++32::40::(pm++[32,41,32,58,32]))) body=some (.str (acc++108::101::116::32::(mn++32::40::(pm++32::41::32::58::32::body)))):=dZ (by simp only[List.length_append,List.length_cons,List.length_nil];omega) (by simp);have s6:dB .add (acc++108::101::116::32::(mn++32::40::(pm++32::41::32::58::32::body))) [32,59,10]=some (.str (acc++108::101::116::32::(mn++32::40::(pm++32::41::32::58::32::(body++[32,59,10]))))):=dZ (by simp only[List.length_append,List.length_cons,List.length_nil];omega) (by simp);simp -implicitDefEqProofs [o9,hi,hx',hmv,k52,j1,j0,j4,j5,j6,w1,s1,s2,s3,s4,s5,s6]
  ·rw[if_neg he];have he':(er !=0)=true:=by simp[he]
   simp -implicitDefEqProofs [o9,hi,hx',hmv,k52,he,he']
 ·rintro st rfl;rw[List.take_length];simp -implicitDefEqProofs [o9]
theorem QE {G:Gls} {w:List Mc} (k:oe w) (h52: ∀m∈w,∀M,cl 52 [av m.bd] M=some (.tup [.str (dT m.bd).1,.int .i64 (dT m.bd).2],M)) (h53: ∀k M,cl 53 [.int .i64 k] M=some (.str (snm k),M)) (hN: ∀m∈w,m.ps.length<N) (hwN:w.length<N):
  dn G false cl yl N c19 [.slc .shared (w.map mcv)]=some (.tup [.str (gG w).1,.int .i64 (gG w).2],none):=by
 obtain⟨e,⟨ts,M,mks⟩,j1,-,rfl,rfl,j2⟩:=QD (G:=G) (yl:=yl) (N:=N) k h52 h53 hN hwN;unfold gG;rw[show((0:Nat):Int)=0 from rfl]at j1;cases hf:w.findSome? jz with
 |none=>
  rw[hf]at j2;obtain⟨rfl,l4⟩:=j2;simp only[]at l4;simp -implicitDefEqProofs [c19,j1,l4]
 |some r=>
  rw[hf]at j2;obtain⟨rfl,l2,l3⟩:=j2;simp only[]at l2 l3;simp -implicitDefEqProofs [c19,j1,l2,l3]
end
section
variable {t:Nat}
noncomputable abbrev J3 (t:Nat):List (Nat×(List AV->dC)):=(19,spR eW1 (fun w=>(.tup [.str (gG w).1,.int .i64 (gG w).2],none)) (fun w=>oe w/\ ∀m∈w,bk m.bd<=big))::J2 t
theorem QF:dP Tryz.prog (GG t) (dg (J3 t)):=by
 refine ml _ _ _ IJ (fun w h=>⟨1073741824,1,QE h.1 (fun m hm M=>?_) (fun x M=>?_) (fun m hm=>h.1.ps m hm) (by have:=h.1.n;omega)⟩) Qz
 ·exact dS (k:=0) (du eO m.bd (by repeat first|exact .here|refine .there ?_ rfl) (by exact h.2 m hm) (by exact a1 m.bd) (by rfl) M)
 ·exact fZ (k:=0) (cf:=c53) (by unfold dL;split<;>rfl) rfl rfl rfl rfl (vl x) M
end
end Go.Proofs.Ae
namespace Go.Proofs.Ae
open Go Go.RowKit
theorem QG:okB 116 fq=true:=by kernel_rfl
theorem QH:okB 118 ft=true:=by kernel_rfl
section
variable {G:Gls} {cl:a7} {yl:a7} {N:Nat}
theorem QI (s:Str) (h0:s≠[]) (hs:s.length<big) (hN:s.length<N) (hc: ∀(c:UInt8) M,cl 148 [.int .u8 c.toNat] M=some (.bool (ed c),M)):
  dn G false cl yl N gR [.str s]=some (.tup [.int .i64 (fc s).1,.int .i64 (fc s).2],none):=by
 unfold big at hs;obtain⟨e,⟨ts,M,mks⟩,h1,h2,rfl,rfl,h5⟩:=jp (mu:=false) (step:=a8 G false cl yl N lh) (an:=⟨[0,4],[(4,none)],false⟩) (kk:=0) (m:=0)
  (fun k st=> ∃i,i<=s.length/\k=s.length - i/\(∀c∈s.take i,ed c=true)/\st=⟨[(0,.str s),(4,.int .i64 (i:Nat))],⟨[],[]⟩,[]⟩)
  (fun e s'=>s'.m=⟨[],[]⟩/\s'.mks=[]/\((e=.exit 0/\look 0 s'.ts=.str s/\ ∀c∈s,ed c=true)\/(e=.ret/\look 2 s'.ts=.int .i64 0/\look 3 s'.ts=.int .i64 3/\s.all ed=false)))
  (by
   rintro k _ ⟨i,hi,rfl,hda,rfl⟩;by_cases hil:i<s.length
   ·have w1:dj .i64 ((i:Int)+1)=((i+1:Nat):Int):=dF (by omega);have hp:(0:Int)<=(i:Int):=by omega
    cases hd:ed s[i]with
    |true=>
     simp -implicitDefEqProofs [lh,hil,hc,hd,w1,hp];refine⟨_,by omega,i+1,by omega,rfl,?_,by simp⟩;intro c hcm;rw[ij (List.getElem?_eq_getElem hil)]at hcm;rcases List.mem_append.1 hcm with h|h
     ·exact hda c h
     ·simp at h;rw[h];exact hd
    |false=>
     have hall:s.all ed=false:=by
      rw[List.all_eq_false];exact⟨s[i],List.getElem_mem hil,by simp[hd]⟩
     simp -implicitDefEqProofs [lh,hil,hc,hd,hp];simpa using hall
   ·have:i=s.length:=by omega
    subst this;rw[List.take_length]at hda;simp -implicitDefEqProofs [lh,hil];exact hda)
  N _ _ ⟨0,by omega,rfl,by simp,rfl⟩ (by omega)
 rw[show((0:Nat):Int)=0 from rfl]at h1;rcases h5 with⟨rfl,h5,hall⟩|⟨rfl,h5,h6,hna⟩
 ·have hall':s.all ed=true:=List.all_eq_true.2 hall;obtain⟨c,r,rfl⟩: ∃c r,s=c::r:=by
   cases s with
   |nil=>exact absurd rfl h0
   |cons c r=>exact⟨c,r,rfl⟩
  simp only[]at h5;have hnf:fc (c::r)=if r≠[]/\c=48 then((0:Int),(3:Int))else match puN 0 (c::r)with
   |some n=>((n:Int),0)
   |none=>(0,2):=by unfold fc;rw[hall'];rfl
  rw[hnf];by_cases hz:(1:Int)<(((c::r).length:Nat):Int)/\((c.toNat:Int)==48)=true
  ·obtain⟨hz1,hz2⟩:=hz;have hr:r≠[]/\c=48:=by
    refine⟨?_,?_⟩
    ·rintro rfl;simp at hz1
    ·have:(c.toNat:Int)=48:=by simpa using hz2
     exact UInt8.toNat_inj.1 (show c.toNat=48 by omega)
   rw[if_pos hr];simp at hz1;simp -implicitDefEqProofs [gR,h1,h5,hz1,hz2]
  ·have hr: ¬(r≠[]/\c=48):=by
    rintro⟨a,rfl⟩;refine hz ⟨?_,rfl⟩;cases r with
    |nil=>exact absurd rfl a
    |cons d r=>simp only[List.length_cons];omega
   rw[if_neg hr];obtain⟨Z,hZ⟩: ∃Z,puN 0 (c::r)=Z:=⟨_,rfl⟩
   rw[hZ];obtain⟨e',⟨ts',M',mks'⟩,k1,k2,rfl,rfl,k5⟩:=jp (mu:=false) (step:=a8 G false cl yl N li) (an:=⟨[0,5,6],[(5,none),(6,none)],false⟩) (kk:=0) (m:=0)
    (fun k st=> ∃i,∃v:Nat,i<=(c::r).length/\k=(c::r).length - i/\v<=2147483647/\puN v ((c::r).drop i)=Z/\st=⟨[(0,.str (c::r)),(5,.int .i64 (v:Int)),(6,.int .i64 (i:Nat))],⟨[],[]⟩,[]⟩)
    (fun e s'=>s'.m=⟨[],[]⟩/\s'.mks=[]/\((e=.exit 2/\ ∃v:Nat,look 5 s'.ts=.int .i64 v/\Z=some v)\/(e=.ret/\look 2 s'.ts=.int .i64 0/\look 3 s'.ts=.int .i64 2/\Z=none)))
    (by
     rintro k _ ⟨i,v,hi,rfl,hv,hpu,rfl⟩;by_cases hil:i<(c::r).length
     ·have w1:dj .i64 ((i:Int)+1)=((i+1:Nat):Int):=dF (by omega);have hp:(0:Int)<=(i:Int):=by omega
      have hd:=hall _ (List.getElem_mem hil);have hil':i<r.length+1:=by simpa using hil
      have hi':(i:Int)<(r.length:Int)+1:=by omega
      rw[List.drop_eq_getElem_cons hil]at hpu;generalize hx:(c::r)[i]=x at hd hpu;have hb:48<=x.toNat/\x.toNat<=57:=by
       unfold ed at hd;simp at hd;have h1:=UInt8.le_iff_toNat_le.1 hd.1;have h2:=UInt8.le_iff_toNat_le.1 hd.2;exact⟨by simpa using h1,by simpa using h2⟩
      have w2:dj .i64 (10*(v:Int))=10*(v:Int):=dJ (by omega) (by omega);have w3:dj .i64 ((x.toNat:Nat):Int)=(x.toNat:Int):=dJ (by omega) (by omega);have w4:dj .i64 (10*(v:Int)+(x.toNat:Int))=10*(v:Int)+(x.toNat:Int):=dJ (by omega) (by omega);have w5:dj .i64 (10*(v:Int)+(x.toNat:Int) - 48)=10*(v:Int)+(x.toNat:Int) - 48:=dJ (by omega) (by omega);unfold puN at hpu;by_cases hbig:2147483647<10*(v:Int)+(x.toNat:Int) - 48
      ·rw[if_neg (by omega)]at hpu;simp -implicitDefEqProofs [li,hil',hi',hx,w1,w2,w3,w4,w5,hp,hbig];exact hpu.symm
      ·rw[if_pos (by omega)]at hpu;simp -implicitDefEqProofs [li,hil',hi',hx,w1,w2,w3,w4,w5,hp,hbig];refine⟨_,?_,i+1,by omega,rfl,v*10+(x.toNat - 48),by omega,?_,by omega,by simp⟩
       ·omega
       ·simpa using hpu
     ·have hil': ¬i<r.length+1:=by simpa using hil
      have hi': ¬(i:Int)<(r.length:Int)+1:=by omega
      have hd0:(c::r).drop i=[]:=List.drop_of_length_le (by simp at hil⊢;omega);rw[hd0]at hpu;simp only[puN]at hpu;simp -implicitDefEqProofs [li,hil',hi'];exact⟨v,rfl,hpu.symm⟩)
    N _ _ ⟨0,0,by omega,rfl,by omega,hZ,rfl⟩ (by omega)
   rw[show((0:Nat):Int)=0 from rfl]at k1;have hz':(1:Int)<(r.length:Int)+1->((c.toNat:Int)==48)=false:=fun h=>by
    cases hb:((c.toNat:Int)==48)with
    |false=>rfl
    |true=>exact absurd ⟨by simpa using h,hb⟩ hz
   have hq: ∃b,(1:Int)<(r.length:Int)+1/\b=true\/ ¬(1:Int)<(r.length:Int)+1/\b=false:=by
    by_cases h:(1:Int)<(r.length:Int)+1
    ·exact⟨true,.inl ⟨h,rfl⟩⟩
    ·exact⟨false,.inr ⟨h,rfl⟩⟩
   obtain⟨b,hq⟩:=hq;rcases k5 with⟨rfl,v,k5,hpu⟩|⟨rfl,k5,k6,hpu⟩
   ·simp only[]at k5;rw[hpu];rcases hq with⟨hq,-⟩|⟨hq,-⟩
    ·simp -implicitDefEqProofs [gR,h1,h5,k1,k5,hq,hz' hq]
    ·simp -implicitDefEqProofs [gR,h1,h5,k1,k5,hq]
   ·simp only[]at k5 k6;rw[hpu];rcases hq with⟨hq,-⟩|⟨hq,-⟩
    ·simp -implicitDefEqProofs [gR,h1,h5,k1,k5,k6,hq,hz' hq]
    ·simp -implicitDefEqProofs [gR,h1,h5,k1,k5,k6,hq]
 ·simp only[]at h5 h6;have:fc s=(0,3):=by unfold fc;rw[if_pos hna]
  rw[this];simp -implicitDefEqProofs [gR,h1,h5,h6]
theorem QJ: ∀w∈kwL,ed (w.headD 0)=false/\gm (w.headD 0)=true:=by decide
theorem QK (s:Str) (h0:s≠[]) (h148: ∀(c:UInt8) M,cl 148 [.int .u8 c.toNat] M=some (.bool (ed c),M)) (h150: ∀(c:UInt8) M,cl 150 [.int .u8 c.toNat] M=some (.bool (gm c),M))
  (h149: ∀M,cl 149 [.str s] M=some (.tup [.int .i64 (fc s).1,.int .i64 (fc s).2],M)) (h151: ∀M,cl 151 [.str s] M=some (.bool (kwL.contains s),M)):
  dn G false cl yl N c86 [.str s]=some (.tup [.agg (tkC (dw s).1),.int .i64 (dw s).2],none):=by
 obtain⟨c,r,rfl⟩: ∃c r,s=c::r:=by
  cases s with
  |nil=>exact absurd rfl h0
  |cons c r=>exact⟨c,r,rfl⟩
 unfold dw;by_cases hk:(c::r)∈kwL
 ·obtain⟨hd,hl⟩:=QJ _ hk;simp only[List.headD_cons]at hd hl;have hk':kwL.contains (c::r)=true:=by simpa using hk
  rw[if_pos hk];rw[hk']at h151;simp -implicitDefEqProofs [c86,h148,h150,hd,hl,h151,tkC]
 ·have hk':kwL.contains (c::r)=false:=by simpa using hk
  rw[if_neg hk];rw[hk']at h151;by_cases hd0:ed ((c::r).headD 0)=true
  ·rw[if_pos hd0];have hd:ed c=true:=hd0;simp -implicitDefEqProofs [c86,h148,hd,h149,tkC]
  ·rw[if_neg hd0];have hd':ed c=false:=by simpa using hd0
   by_cases hl0:gm ((c::r).headD 0)=false
   ·rw[if_pos hl0];have hl:gm c=false:=hl0;simp -implicitDefEqProofs [c86,h148,h150,hd',hl,tkC]
   ·rw[if_neg hl0];have hl':gm c=true:=by simpa using hl0
    by_cases h16:(c::r).length>16
    ·have h16':(16:Int)<(r.length:Int)+1:=by simp at h16;omega
     rw[if_pos h16];simp -implicitDefEqProofs [c86,h148,h150,hd',hl',h151,h16',tkC]
    ·have h16': ¬(16:Int)<(r.length:Int)+1:=by simp at h16;omega
     rw[if_neg h16];simp -implicitDefEqProofs [c86,h148,h150,hd',hl',h151,h16',tkC]
theorem QL (s:Str) (at0:Nat) (ha:at0<=s.length) (hs:s.length<big) (hN:s.length<N) (hc: ∀(c:UInt8) M,cl 117 [.int .u8 c.toNat] M=some (.bool (de c),M)):
  dn G false cl yl N c85 [.str s,.int .i64 (at0:Nat)]=some (.int .i64 (dE de (s.drop at0)),none):=by
 unfold big at hs;have hle:=lr de (s.drop at0);have hdl:(s.drop at0).length=s.length - at0:=by simp
 have hgd: ∀i,(s.drop at0)[i]? =s[at0+i]?:=fun i=>by rw[List.getElem?_drop]
 obtain⟨e,⟨ts,M,mks⟩,h1,h2,rfl,rfl,rfl,h5⟩:=jp (mu:=false) (step:=a8 G false cl yl N ld) (an:=⟨[0,1,5],[(5,none)],false⟩) (kk:=0) (m:=0)
  (fun k st=> ∃i,i<=((s.drop at0).takeWhile de).length/\k=((s.drop at0).takeWhile de).length - i/\st=⟨[(0,.str s),(1,.int .i64 (at0:Nat)),(5,.int .i64 (i:Nat))],⟨[],[]⟩,[]⟩)
  (fun e s'=>e=.exit 0/\s'.m=⟨[],[]⟩/\s'.mks=[]/\look 5 s'.ts=.int .i64 (dE de (s.drop at0)))
  (by
   rintro k _ ⟨i,hi,rfl,rfl⟩;have w0:dj .i64 ((at0:Int)+(i:Int))=((at0+i:Nat):Int):=by rw[dJ (by omega) (by omega)];omega
   have hp:(0:Int)<=(at0:Int)+(i:Int):=by omega
   have htn:((at0:Int)+(i:Int)).toNat=at0+i:=by omega
   by_cases hlt:i<((s.drop at0).takeWhile de).length
   ·obtain⟨hx,hg⟩:=um (List.getElem?_eq_getElem hlt);generalize((s.drop at0).takeWhile de)[i]=x at hx hg;rw[hgd]at hx;obtain⟨hil,hx'⟩:=List.getElem?_eq_some_iff.1 hx;have w1:dj .i64 ((i:Int)+1)=((i+1:Nat):Int):=dF (by omega);have hil':(at0:Int)+(i:Int)<(s.length:Int):=by omega
    simp -implicitDefEqProofs [ld,hil,hil',hx',hc,hg,w1,w0,hp,htn];exact⟨_,by omega,i+1,by omega,rfl,by simp⟩
   ·have hi':i=((s.drop at0).takeWhile de).length:=by omega
    have hcut:dE de (s.drop at0)=i:=hi'.symm;rcases uo (g:=de) (s.drop at0)with k|⟨y,k1,k2⟩
    ·have hil': ¬(at0:Int)+(i:Int)<(s.length:Int):=by omega
     have hil: ¬at0+i<s.length:=by omega
     simp -implicitDefEqProofs [ld,hil,hil',hcut,w0]
    ·rw[<-hi',hgd]at k1;obtain⟨hil,hx'⟩:=List.getElem?_eq_some_iff.1 k1;have hil':(at0:Int)+(i:Int)<(s.length:Int):=by omega
     simp -implicitDefEqProofs [ld,hil,hil',hx',hp,htn,hc,k2,hcut,w0])
  N _ _ ⟨0,by omega,rfl,rfl⟩ (by omega)
 rw[show((0:Nat):Int)=0 from rfl]at h1;simp only[]at h5;simp -implicitDefEqProofs [c85,h1,h5]
end
end Go.Proofs.Ae
namespace Go.Proofs.Ae
open Go Go.RowKit
set_option maxRecDepth 100000
theorem yM {α:Type} (O:List α) (x y:α):(O++[x]).set O.length y=O++[y]:=by
 rw[List.set_append_right _ _ (Nat.le_refl _)];simp
def RwT (n:Nat) (sp:Sp) (R:List Arr):Prop:=(sp=.own 0/\n=0/\R=[.app 0 0 0])\/(sp=.own 0/\R=[.app n 128 5])
theorem QM (l:List Tk):dV 5 (l.map tkv)=true:=by
 induction l with
 |nil=>rfl
 |cons v vs ih=>rfl
theorem yN {l:List Tk} {sp:Sp} {R:List Arr} (h:RwT l.length sp R) (x:Tk) (O:List Obj) (hn:l.length<=65537):
  dI 128 (.ag 5) 48 (.slc sp (l.map tkv)) [.agg (tkC x)] ⟨O,R⟩=some (.slc (.own 0) ((l++[x]).map tkv),⟨O,[.app (l.length+1) 128 5]⟩):=by
 have h1:(l.length+1)*48<=140737488355328:=by omega
 have h2:l.length+1<=140737488355328:=by omega
 have hz:=QM l;have hz1:dV 5 [AV.agg (tkC x)]=true:=rfl;rcases h with⟨rfl,h,rfl⟩|⟨rfl,rfl⟩
 ·have hl:l=[]:=List.eq_nil_of_length_eq_zero h;subst hl;simp[dI,hz1,tkv]
 ·simp[dI,h1,h2,hz,hz1,tkv]
structure yO (cl:a7) (s:Str):Prop where
 h116: ∀(c:UInt8) M,cl 116 [.int .u8 c.toNat] M=some (.bool (fq c),M)
 h117: ∀(c:UInt8) M,cl 117 [.int .u8 c.toNat] M=some (.bool (de c),M)
 h118: ∀(c:UInt8) M,cl 118 [.int .u8 c.toNat] M=some (.bool (ft c),M)
 h85: ∀i:Nat,i<=s.length-> ∀M,cl 85 [.str s,.int .i64 (i:Nat)] M=some (.int .i64 (dE de (s.drop i)),M)
 h86: ∀t:Str,t≠[]->t.length<=65536-> ∀M,cl 86 [.str t] M=some (.tup [.agg (tkC (dw t).1),.int .i64 (dw t).2],M)
def S56 (s:Str) (i:Nat) (a b:Int) (sp:Sp) (l:List Tk) (O:List Obj) (R:List Arr):St:=⟨[(0,.str s),(6,.slc sp (l.map tkv)),(7,.int .i64 a),(8,.int .i64 b),(9,.int .i64 (i:Nat))],⟨O,R⟩,[]⟩
section
variable {G:Gls} {cl:a7} {yl:a7} {N:Nat}
theorem QN {s:Str} (h:yO cl s) (hs:s.length<=65536) (i:Nat) (a b:Int) (sp:Sp) (l:List Tk) (O:List Obj) (R:List Arr) (hi:i<=s.length) (ha:1<=a) (ha2:a<=i+1) (hb:1<=b) (hb2:b<=i+1) (hl:l.length<=i) (hA:RwT l.length sp R) (hI:LxI s i l) (kk mm:Nat):
  fk (fun e s'=>(e=.normal/\ ∃k',k'<s.length - i/\ ∃(i':Nat) (a' b':Int) (sp':Sp) (l':List Tk) (O':List Obj) (R':List Arr),i'<=s.length/\k'=s.length - i'/\(1<=a'/\a'<=i'+1/\1<=b'/\b'<=i'+1/\l'.length<=i')/\RwT l'.length sp' R'/\LxI s i' l'/\eI false ⟨[0,6,7,8,9],[(6,none),(7,none),(8,none),(9,none)],true⟩ kk mm s'=S56 s i' a' b' sp' l' O' R')\/
    (e≠ .normal/\s'.mks=[]/\((e=.exit 0/\ ∃(a' b':Int) (sp':Sp) (l':List Tk) (O':List Obj) (R':List Arr),look 6 s'.ts=.slc sp' (l'.map tkv)/\look 7 s'.ts=.int .i64 a'/\look 8 s'.ts=.int .i64 b'/\s'.m=⟨O',R'⟩/\RwT l'.length sp' R'/\LxI s s.length l'/\l'.length<=s.length)\/
     (e=.ret/\ ∃(a' b' er:Int) (O':List Obj) (R':List Arr),look 2 s'.ts=.slc .full []/\look 3 s'.ts=.int .i64 a'/\look 4 s'.ts=.int .i64 b'/\look 5 s'.ts=.int .i64 er/\er≠0/\er=(lx s).2/\s'.m=⟨O',R'⟩/\R'.length<=1))))
   (a8 G false cl yl N ku (S56 s i a b sp l O R)):=by
 have hRl:R.length<=1:=by rcases hA with⟨-,-,rfl⟩|⟨-,rfl⟩<;>simp
 have w3:dj .i64 ((i:Int)+1)=(i:Int)+1:=dJ (by omega) (by omega);have w4:dj .i64 (a+1)=a+1:=dJ (by omega) (by omega);have w5:dj .i64 (b+1)=b+1:=dJ (by omega) (by omega);have hp:(0:Int)<=(i:Int):=by omega
 by_cases hend:i=s.length
 ·subst hend;simp -implicitDefEqProofs [S56,ku];exact⟨a,b,sp,l,⟨rfl,rfl⟩,rfl,rfl,O,R,⟨rfl,rfl⟩,hA,hI,hl⟩
 ·have hlt:i<s.length:=by omega
  have hd:=List.drop_eq_getElem_cons hlt;generalize hc:s[i]=c at hd;have hget:s[i]? =some c:=by rw[List.getElem?_eq_getElem hlt,hc]
  by_cases hblk:fq c=true
  ·have hnr:=lu uq hblk;have hI':LxI s (i+1) l:=uO hI (by omega) (.inl ⟨c,hget,hnr,rfl,.inl ⟨hblk,rfl⟩⟩);by_cases h10:c=10
   ·have e10:(((c.toNat:Nat):Int)==10)=true:=by rw[h10];rfl
    simp -implicitDefEqProofs [S56,ku,w3,w4,w5,hp,hlt,hc,h.h116,hblk,e10];exact⟨s.length - (i+1),by omega,i+1,by omega,rfl,a+1,1,sp,l,⟨by omega,by omega,by omega,by omega,by omega⟩,O,R,hA,hI',⟨⟨rfl,rfl⟩,rfl,rfl,by omega⟩,rfl,rfl⟩
   ·have e10:(((c.toNat:Nat):Int)==10)=false:=by
     rw[beq_eq_false_iff_ne];intro hh;exact h10 (UInt8.toNat_inj.1 (show c.toNat=10 by omega))
    simp -implicitDefEqProofs [S56,ku,w3,w4,w5,hp,hlt,hc,h.h116,hblk,e10];exact⟨s.length - (i+1),by omega,i+1,by omega,rfl,a,b+1,sp,l,⟨by omega,by omega,by omega,by omega,by omega⟩,O,R,hA,hI',⟨⟨rfl,rfl⟩,rfl,rfl,by omega⟩,rfl,rfl⟩
  ·have hblk':fq c=false:=by simpa using hblk
   by_cases hrun:de c=true
   ·have htw:(s.drop i).takeWhile de=c::(s.drop (i+1)).takeWhile de:=by rw[hd,List.takeWhile_cons,hrun];rfl
    have hn0:0<dE de (s.drop i):=by unfold dE;rw[htw];simp
    have hn1:dE de (s.drop i)<=s.length - i:=by have:=lr de (s.drop i);unfold dE;simpa using this
    have k85:=h.h85 i hi;have ht0:(s.take (i+dE de (s.drop i))).drop i≠[]:=by
     intro hh;have:=congrArg List.length hh;simp at this;omega
    have ht1:((s.take (i+dE de (s.drop i))).drop i).length<=65536:=by simp;omega
    have k86:=h.h86 _ ht0 ht1;have hnx:=fun l' (h2:(dw ((s.take (i+dE de (s.drop i))).drop i)).2=0) (h3: ∃ln col,l'=l++[{(dw ((s.take (i+dE de (s.drop i))).drop i)).1 with ln:=ln,col:=col}])=>uO (i':=i+dE de (s.drop i)) (l':=l') hI (by omega) (.inr (by obtain⟨ln,col,h3⟩:=h3;exact⟨ln,col,hn0,rfl,h2,h3⟩));have her:(dw ((s.take (i+dE de (s.drop i))).drop i)).2≠0->(dw ((s.take (i+dE de (s.drop i))).drop i)).2=(lx s).2:=fun hne=>by
     rw[rp,htw]at hne⊢;exact(hI _ _ (by rw[hd,qb hrun,if_neg hne])).1
    generalize dE de (s.drop i)=n at*;generalize htx:(s.take (i+n)).drop i=tx at*;have w6:dj .i64 ((i:Int)+(n:Int))=(i:Int)+(n:Int):=dJ (by omega) (by omega);have w7:dj .i64 (b+(n:Int))=b+(n:Int):=dJ (by omega) (by omega);have hle1:i+n<=s.length:=by omega
    have hle2:i<=i+n:=by omega
    have hp3:(0:Int)<=(i:Int)+(n:Int):=by omega
    have htn:((i:Int)+(n:Int)).toNat=i+n:=by omega
    have hx:=yM O;by_cases he:(dw tx).2=0
    ·have he':((dw tx).2 !=0)=false:=by simp[he]
     have hap:=fun c=>yN hA {(dw tx).1 with ln:=a,col:=b} (O++[c]) (by omega);have hnx':=hnx _ he ⟨a,b,rfl⟩;simp only[tkC]at hap k86;generalize hl':l++[{(dw tx).1 with ln:=a,col:=b}]=l' at*;have hll:l'.length=l.length+1:=by rw[<-hl'];simp
     clear hnx her;generalize dw tx=r at*;simp -implicitDefEqProofs [-dI,S56,ku,w3,w4,w5,w6,w7,hp,hlt,hc,h.h116,h.h117,hblk',hrun,k85,k86,he,he',hp3,htn,hi,hle1,hle2,eR,htx,hx,hap];exact⟨s.length - (i+n),by omega,i+n,by omega,rfl,a,b+n,.own 0,l',⟨by omega,by omega,by omega,by omega,by omega⟩,_,_,.inr ⟨rfl,by rw[hll]⟩,hnx',⟨⟨rfl,rfl⟩,rfl,rfl,by omega⟩,rfl,rfl⟩
    ·have he':((dw tx).2 !=0)=true:=by simp[he]
     have her':=her he;simp only[tkC]at k86;clear hnx her;generalize dw tx=r at*;simp -implicitDefEqProofs [-dI,S56,ku,w3,w4,w5,w6,w7,hp,hlt,hc,h.h116,h.h117,hblk',hrun,k85,k86,he,he',hp3,htn,hi,hle1,hle2,eR,htx,hx];exact⟨her',_,_,⟨rfl,rfl⟩,hRl⟩
   ·have hrun':de c=false:=by simpa using hrun
    by_cases hmrk:ft c=true
    ·have htk:(s.take (i+1)).drop i=[c]:=by
      have:s.take (i+1)=s.take i++[c]:=by rw[List.take_add_one,hget];rfl
      rw[this,List.drop_append_of_le_length (by simp;omega),List.drop_of_length_le (by simp;omega)];rfl
     have hi1:i+1<=s.length:=by omega
     have hi0:i<=i+1:=by omega
     have hp1:(0:Int)<=(i:Int)+1:=by omega
     have hx:=yM O;have hap:=fun d=>yN hA ⟨4,[c],0,a,b⟩ (O++[d]) (by omega);have hnx':=uO (l':=l++[⟨4,[c],0,a,b⟩]) hI (by omega) (.inl ⟨c,hget,hrun',rfl,.inr ⟨hblk',hmrk,a,b,rfl⟩⟩);simp only[tkC]at hap;generalize hl':l++[(⟨4,[c],0,a,b⟩:Tk)]=l' at*;have hll:l'.length=l.length+1:=by rw[<-hl'];simp
     simp -implicitDefEqProofs [-dI,S56,ku,w3,w4,w5,hp,hlt,hc,h.h116,h.h117,h.h118,hblk',hrun',hmrk,htk,hi1,hi0,hp1,eR,hx,hap];exact⟨s.length - (i+1),by omega,i+1,by omega,rfl,a,b+1,.own 0,l',⟨by omega,by omega,by omega,by omega,by omega⟩,_,_,.inr ⟨rfl,by rw[hll]⟩,hnx',⟨⟨rfl,rfl⟩,rfl,rfl,by omega⟩,rfl,rfl⟩
    ·have hmrk':ft c=false:=by simpa using hmrk
     have hx:=yM O;have her:=(hI [] 3 (by rw[hd,uN hblk' hmrk' hrun'])).1;simp -implicitDefEqProofs [-dI,S56,ku,hp,hlt,hc,h.h116,h.h117,h.h118,hblk',hrun',hmrk',hx];exact⟨her,_,_,⟨rfl,rfl⟩,hRl⟩
theorem QO (s:Str) (h:s.length<=65536->yO cl s) (hN:s.length<N):
  ∃(l:List Tk) (p1 p2 e:Int),dn G false cl yl N c56 [.str s]=some (.tup [.slc .shared (l.map tkv),.int .i64 p1,.int .i64 p2,.int .i64 e],none)/\jv s l e/\l.length<=65537:=by
 unfold jv;by_cases hs:s.length<=65536
 ·simp only[if_pos hs];obtain⟨e,⟨ts,M,mks⟩,h1,h2,hmk,hend⟩:=jp (mu:=false) (step:=a8 G false cl yl N ku) (an:=⟨[0,6,7,8,9],[(6,none),(7,none),(8,none),(9,none)],true⟩) (kk:=0) (m:=1)
   (fun k st=> ∃(i:Nat) (a b:Int) (sp:Sp) (l:List Tk) (O:List Obj) (R:List Arr),i<=s.length/\k=s.length - i/\(1<=a/\a<=i+1/\1<=b/\b<=i+1/\l.length<=i)/\RwT l.length sp R/\LxI s i l/\st=S56 s i a b sp l O R) _
   (by
    rintro k _ ⟨i,a,b,sp,l,O,R,hi,rfl,⟨ha,ha2,hb,hb2,hl⟩,hA,hI,rfl⟩;exact QN (h hs) hs i a b sp l O R hi ha ha2 hb hb2 hl hA hI 0 1)
   N _ (S56 s 0 1 1 (.own 0) [] [] [.app 0 0 0]) ⟨0,1,1,.own 0,[],[],[.app 0 0 0],Nat.zero_le _,rfl,⟨by omega,by omega,by omega,by omega,by simp⟩,.inl ⟨rfl,rfl,rfl⟩,by
    intro ts e he;rw[List.drop_zero]at he;rw[he];simp,rfl⟩ (by omega)
  have hlen: ¬(65536:Int)<(s.length:Int):=by omega
  simp only[]at hmk;subst hmk;simp[S56]at h1;rcases hend with⟨rfl,a,b,sp,l,O,R,l6,l7,l8,hm,hA,hI,hll⟩|⟨rfl,a,b,er,O,R,l2,l3,l4,l5,hne,her,hm,hR⟩
  ·have hz:=hI [] 0 (by rw[List.drop_length,nY]);refine⟨l++[⟨0,[],0,a,b⟩],0,0,0,?_,⟨hz.1,fun _=>⟨l,a,b,rfl,by rw[hz.2 rfl];simp⟩⟩,by simp;omega⟩;simp only[]at l6 l7 l8 hm;subst hm;have hap:=yN hA ⟨0,[],0,a,b⟩ O (by omega);simp only[tkC]at hap;generalize l++[(⟨0,[],0,a,b⟩:Tk)]=l' at*;simp -implicitDefEqProofs [-dI,c56,hlen,h1,l6,l7,l8,hap]
  ·refine⟨[],a,b,er,?_,⟨her,fun h0=>absurd h0 hne⟩,by simp⟩;simp only[]at l2 l3 l4 l5 hm;subst hm;simp -implicitDefEqProofs [c56,hlen,h1,l2,l3,l4,l5]
 ·simp only[if_neg hs];refine⟨[],0,0,2,?_,rfl,by simp⟩;have hlen:(65536:Int)<(s.length:Int):=by omega
  simp -implicitDefEqProofs [c56,hlen]
end
section
variable {t:Nat}
def siA (p:Str×Nat):List AV:=[.str p.1,.int .i64 (p.2:Int)]
theorem D3 (a b:Str×Nat) (h:siA a=siA b):a=b:=by
 obtain⟨a1,a2⟩:=a;obtain⟨b1,b2⟩:=b;simp only[siA,List.cons.injEq,AV.str.injEq,AV.int.injEq,and_true,true_and]at h;obtain⟨rfl,h⟩:=h;have:a2=b2:=by omega
 rw[this]
noncomputable abbrev J4a (t:Nat):List (Nat×(List AV->dC)):=(149,spR (fun s:Str=>[.str s]) (fun s=>(.tup [.int .i64 (fc s).1,.int .i64 (fc s).2],none)) (fun s=>s≠[]/\s.length<big))::
 (85,spR siA (fun p=>(.int .i64 (dE de (p.1.drop p.2)),none)) (fun p=>p.2<=p.1.length/\p.1.length<big))::(118,spB ft)::(116,spB fq)::J3 t
theorem j4a:dP Tryz.prog (GG t) (dg (J4a t)):=by
 have hB: ∀{f:Nat} {g:UInt8->Bool},okB f g=true-> ∀ags r,spB g ags=some r->eX Tryz.prog (GG t) f ags r:=by
  intro f g h ags r hr;obtain⟨c,rfl,-,rfl⟩:=gy hr;exact uh (xi h c)
 refine ek _ _ _ Jz (fun s h=>⟨s.length+1,QI s h.1 h.2 (Nat.lt_succ_self _) (fun c M=>du (fun _ _ h=>iT h) c (by repeat first|exact .here|refine .there ?_ rfl) (by exact trivial) (by rfl) (by rfl) M)⟩) ?_;refine ek _ _ _ Bh (fun p h=>⟨p.1.length+1,QL p.1 p.2 h.1 h.2 (Nat.lt_succ_self _) (fun c M=>du (fun _ _ h=>iT h) c (by repeat first|exact .here|refine .there ?_ rfl) (by exact trivial) (by rfl) (by rfl) M)⟩) ?_;exact fl (fl QF (hB QG)) (hB QH)
noncomputable abbrev J4 (t:Nat):List (Nat×(List AV->dC)):=(86,spR (fun s:Str=>[.str s]) (fun s=>(.tup [.agg (tkC (dw s).1),.int .i64 (dw s).2],none)) (fun s=>s≠[]/\s.length<big))::J4a t
theorem j4:dP Tryz.prog (GG t) (dg (J4 t)):=by
 refine ek _ _ _ Je (fun s h=>⟨1,QK s h.1 (fun c M=>?_) (fun c M=>?_) (fun M=>?_) fun M=>?_⟩) j4a
 ·exact du (fun _ _ h=>iT h) c (by repeat first|exact .here|refine .there ?_ rfl) (by exact trivial) (by rfl) (by rfl) M
 ·exact du (fun _ _ h=>iT h) c (by repeat first|exact .here|refine .there ?_ rfl) (by exact trivial) (by rfl) (by rfl) M
 ·exact du fS s (by repeat first|exact .here|refine .there ?_ rfl) (by exact h) (by rfl) (by rfl) M
 ·exact du fS s (by repeat first|exact .here|refine .there ?_ rfl) (by exact trivial) (by rfl) (by rfl) M
theorem QP {s:Str} (h0:s≠[]) (hs:s.length<big) (M:Mem):spC (dg (J4 t)) 86 [.str s] M=some (.tup [.agg (tkC (dw s).1),.int .i64 (dw s).2],M):=
 du fS s (by repeat first|exact .here|refine .there ?_ rfl) (by exact⟨h0,hs⟩) (by rfl) (by rfl) M
theorem QQ {s:Str} {i:Nat} (hi:i<=s.length) (hs:s.length<big) (M:Mem):spC (dg (J4 t)) 85 [.str s,.int .i64 (i:Nat)] M=some (.int .i64 (dE de (s.drop i)),M):=
 du D3 (s,i) (by repeat first|exact .here|refine .there ?_ rfl) (by exact⟨hi,hs⟩) (by rfl) (by rfl) M
theorem QR (s:Str) (hs:s.length<=65536):yO (spC (dg (J4 t))) s:=
 ⟨fun c M=>du (fun _ _ h=>iT h) c (by repeat first|exact .here|refine .there ?_ rfl) (by exact trivial) (by rfl) (by rfl) M,
  fun c M=>du (fun _ _ h=>iT h) c (by repeat first|exact .here|refine .there ?_ rfl) (by exact trivial) (by rfl) (by rfl) M,
  fun c M=>du (fun _ _ h=>iT h) c (by repeat first|exact .here|refine .there ?_ rfl) (by exact trivial) (by rfl) (by rfl) M,
  fun i hi M=>QQ hi (by unfold big;omega) M,
  fun tx h0 hl M=>QP h0 (by unfold big;omega) M⟩
theorem vm (t:Nat) (s:Str): ∃r:List Tk×Int×Int×Int,eX Tryz.prog (GG t) 56 [.str s] (.tup [.slc .shared (r.1.map tkv),.int .i64 r.2.1,.int .i64 r.2.2.1,.int .i64 r.2.2.2],none)/\jv s r.1 r.2.2.2/\r.1.length<=65537:=by
 obtain⟨l,p1,p2,e,h1,h2,hl⟩:=QO (G:=GG t) (cl:=BW (GG t) (dg (J4 t)) (s.length+100) 1) (yl:=YW (GG t) (dg (J4 t)) (s.length+100) 1) (N:=s.length+100) s (fun hs=>by
  have h:=QR (t:=t) s hs;exact⟨fun c M=>dS (h.h116 c M),fun c M=>dS (h.h117 c M),fun c M=>dS (h.h118 c M),fun i hi M=>dS (h.h85 i hi M),fun tx h0 hl M=>dS (h.h86 tx h0 hl M)⟩) (by omega)
 exact⟨(l,p1,p2,e),mZ (T:=TW (dg (J4 t))) fp kis dz I6 (jr j4) ⟨s.length+100,1,false,h1⟩,h2,hl⟩
noncomputable def rkR (t:Nat) (s:Str):List Tk×Int×Int×Int:=Classical.choose (vm t s)
theorem QS (s:Str):eX Tryz.prog (GG t) 56 [.str s] (.tup [.slc .shared ((rkR t s).1.map tkv),.int .i64 (rkR t s).2.1,.int .i64 (rkR t s).2.2.1,.int .i64 (rkR t s).2.2.2],none):=(Classical.choose_spec (vm t s)).1
theorem D4 (s:Str):jv s (rkR t s).1 (rkR t s).2.2.2:=(Classical.choose_spec (vm t s)).2.1
theorem D5 (s:Str):(rkR t s).1.length<=65537:=(Classical.choose_spec (vm t s)).2.2
variable {cl:a7} {yl:a7} {N:Nat}
theorem QT {G:Gls} (x:Tk) (hx:okT (prj x)) (h118: ∀(c:UInt8) M,cl 118 [.int .u8 c.toNat] M=some (.bool (ft c),M)) (h85: ∀M,cl 85 [.str x.tx,.int .i64 ((0:Nat):Int)] M=some (.int .i64 (dE de x.tx),M))
  (h86:x.tx≠[]-> ∀M,cl 86 [.str x.tx] M=some (.tup [.agg (tkC (dw x.tx).1),.int .i64 (dw x.tx).2],M)):dn G false cl yl N ti [tkv x]=some (.bool true,none):=by
 obtain⟨k,tx,v,ln,col⟩:=x;rcases hx with⟨c,hc,hp⟩|⟨h1,h2,h3,h4⟩
 ·simp only[prj,Prod.mk.injEq]at hp;obtain⟨rfl,rfl,rfl⟩:=hp;have k:=h118 c;rw[hc]at k;simp -implicitDefEqProofs [ti,tkv,tkC,k,dB]
 ·simp only[prj]at h1 h2 h3 h4;have hk:=ye h3;have hcut:dE de tx=tx.length:=(pQ tx).2 h2;have k86:=h86 h1;simp only[]at h85 k86;rw[hcut]at h85;have hlen:((tx.length:Int)==0)=false:=by
   have:tx.length≠0:=fun h=>h1 (List.eq_nil_of_length_eq_zero h);simp;exact h1
  have hln0: ¬tx=[]:=h1;generalize dw tx=r at*;obtain⟨⟨k',tx',v',ln',col'⟩,er⟩:=r;simp only[Prod.mk.injEq]at h3 h4 hk k86;obtain⟨rfl,-,rfl⟩:=h4;subst h3;have e0:(k'==0)=false:=by simp;omega
  have e4:(k'==4)=false:=by simp;omega
  have e0': ¬k'=0:=by omega
  have e4': ¬k'=4:=by omega
  simp only[tkC]at k86;rw[show((0:Nat):Int)=0 from rfl]at h85;simp -implicitDefEqProofs [ti,tkv,tkC,e0,e4,e0',e4',hlen,hln0,h85,k86]
theorem QU (l:List Str) (x:Str):Lib.join (l++[x]) [32]=if l=[]then x else Lib.join l [32]++32::x:=by
 by_cases h:l=[]
 ·subst h;simp[Lib.join,List.intercalate]
 ·rw[if_neg h,og l [x] h (by simp)];simp[Lib.join,List.intercalate]
theorem QV {G:Gls} (l:List Tk) (h:rJ l) (hN:l.length<N) (h121: ∀x∈l,∀M,cl 121 [.agg (tkC x)] M=some (.bool true,M)):
  ∃e s',dh false (a8 G false cl yl N pg) ⟨[0,4,5],[(4,none),(5,none)],false⟩ 0 0 N ⟨[(0,.slc .shared (l.map tkv)),(4,.str []),(5,.int .i64 ((0:Nat):Int))],⟨[],[]⟩,[]⟩=some (e,s')/\e≠ .normal/\
   (e=.exit 0/\s'.mks=[]/\s'.m=⟨[],[]⟩/\look 4 s'.ts=.str (Lib.join (l.map Tk.tx) [32])):=by
 have hlen:=h.len;unfold big at hlen;refine(eN (mu:=false) (step:=a8 G false cl yl N pg) (an:=⟨[0,4,5],[(4,none),(5,none)],false⟩) (k:=0) (m:=0) (N:=N) l (fun _=>(none:Option Unit))
  (fun i st=>st=⟨[(0,.slc .shared (l.map tkv)),(4,.str (Lib.join ((l.take i).map Tk.tx) [32])),(5,.int .i64 (i:Nat))],⟨[],[]⟩,[]⟩)
  (fun r e s'=>e=.exit 0/\s'.mks=[]/\s'.m=⟨[],[]⟩/\look 4 s'.ts=.str (Lib.join (l.map Tk.tx) [32])) hN (by simp[Lib.join,List.intercalate]) ?_ ?_)
 ·rintro i x st hx hi rfl;have hmem:=List.mem_of_getElem? hx;have hx':=(List.getElem?_eq_some_iff.1 hx).2;have w1:=dF (i:=i) (by omega);obtain⟨ho,hl⟩:=h.tok x hmem;have hk:=rH ho;have k121:=h121 x hmem;have hj:=rM ((l.take i).map Tk.tx) 65536 fun y hy=>by
   obtain⟨z,hz,rfl⟩:=List.mem_map.1 hy;exact(h.tok z (List.mem_of_mem_take hz)).2
  have hli:((l.take i).map Tk.tx).length<=4294967296:=by simp;omega
  rw[ij hx,List.map_append,List.map_singleton,QU];have hne:(l.take i).map Tk.tx=[]↔i=0:=by
   constructor
   ·intro h;have:=congrArg List.length h;simp only[List.length_map,List.length_take,List.length_nil]at this;omega
   ·rintro rfl;rfl
  have hal:(Lib.join ((l.take i).map Tk.tx) [32]).length<=1000000000000000:=by omega
  obtain⟨k,tx,v,ln,col⟩:=x;simp only[prj]at hk hl⊢;have e0:(k==0)=false:=by simp;omega
  have e0': ¬k=0:=by omega
  simp only[tkC]at k121;by_cases h0:i=0
  ·rw[if_pos (hne.2 h0)];have hnil:Lib.join ((l.take i).map Tk.tx) [32]=[]:=by rw[hne.2 h0];simp[Lib.join,List.intercalate]
   rw[hnil];subst h0;have w2:dj .i64 1=1:=dJ (by omega) (by omega);have s1:dB .add [] tx=some (.str tx):=dZ (by simp only[List.length_append,List.length_cons,List.length_nil];omega) (by simp);simp -implicitDefEqProofs [pg,hi,hx',tkv,tkC,k121,e0,e0',w1,w2,s1]
  ·rw[if_neg (fun h=>h0 (hne.1 h))];have h0':(0:Int)<(i:Int):=by omega
   have hi0':0<i:=by omega
   generalize Lib.join ((l.take i).map Tk.tx) [32]=acc at*;have s1:dB .add acc [32]=some (.str (acc++[32])):=dZ (by simp only[List.length_append,List.length_cons,List.length_nil];omega) (by simp);have s2:dB .add (acc++[32]) tx=some (.str (acc++32::tx)):=dZ (by simp only[List.length_append,List.length_cons,List.length_nil];omega) (by simp);simp -implicitDefEqProofs [pg,hi,hx',tkv,tkC,k121,e0,e0',h0',hi0',w1,s1,s2]
 ·rintro st rfl;rw[List.take_length];simp -implicitDefEqProofs [pg]
theorem QW {G:Gls} (l:List Tk) (h:rJ l) (hN:l.length<N) (h121: ∀x∈l,∀M,cl 121 [.agg (tkC x)] M=some (.bool true,M)):
  dn G false cl yl N c59 (kI l)=some (.tup [.str (Lib.join (l.map Tk.tx) [32]),.int .i64 0],none):=by
 obtain⟨e,⟨ts,M,mks⟩,j1,-,rfl,rfl,rfl,j4⟩:=QV (G:=G) (yl:=yl) (N:=N) l h hN h121;simp only[]at j4;rw[show((0:Nat):Int)=0 from rfl]at j1;simp -implicitDefEqProofs [kI,c59,j1,j4]
noncomputable abbrev J5 (t:Nat):List (Nat×(List AV->dC)):=(59,spR kI (fun l=>(.tup [.str (Lib.join (l.map Tk.tx) [32]),.int .i64 0],none)) rJ)::
 (121,spR (fun x:Tk=>[tkv x]) (fun _=>(.bool true,none)) (fun x=>okT (prj x)/\x.tx.length<=65536))::
 (56,spR (fun s:Str=>[.str s]) (fun s=>(.tup [.slc .shared ((rkR t s).1.map tkv),.int .i64 (rkR t s).2.1,.int .i64 (rkR t s).2.2.1,.int .i64 (rkR t s).2.2.2],none)) (fun _=>True))::J4 t
theorem QX (a b:Tk) (h:[tkv a]=[tkv b]):a=b:=CY (by simpa using h)
theorem j5:dP Tryz.prog (GG t) (dg (J5 t)):=by
 have h56:dP Tryz.prog (GG t) (dg ((56,spR (fun s:Str=>[.str s]) (fun s=>(.tup [.slc .shared ((rkR t s).1.map tkv),.int .i64 (rkR t s).2.1,.int .i64 (rkR t s).2.2.1,.int .i64 (rkR t s).2.2.2],none)) (fun _=>True))::J4 t)):=by
  refine fl j4 fun ags r hr=>?_;obtain⟨s,rfl,-,rfl⟩:=gy hr;exact QS s
 refine ek _ _ _ I7 (fun l h=>⟨l.length+1,QW l h (Nat.lt_succ_self _) fun x hx M=>?_⟩) (ek _ _ _ Jt (fun x h=>⟨1,QT x h.1 (fun c M=>?_) (fun M=>?_) fun h0 M=>?_⟩) h56)
 ·exact du QX x (by repeat first|exact .here|refine .there ?_ rfl) (by exact h.tok x hx) (by rfl) (by rfl) M
 ·exact du (fun _ _ h=>iT h) c (by repeat first|exact .here|refine .there ?_ rfl) (by exact trivial) (by rfl) (by rfl) M
 ·exact du D3 (x.tx,0) (by repeat first|exact .here|refine .there ?_ rfl) (by exact⟨Nat.zero_le _,by have:=h.2;show x.tx.length<big;unfold big;omega⟩) (by rfl) (by rfl) M
 ·exact du fS x.tx (by repeat first|exact .here|refine .there ?_ rfl) (by exact⟨h0,by have:=h.2;unfold big;omega⟩) (by rfl) (by rfl) M
end
end Go.Proofs.Ae
