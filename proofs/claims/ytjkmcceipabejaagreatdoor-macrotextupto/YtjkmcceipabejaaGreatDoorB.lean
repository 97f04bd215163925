/- An abstract execution of the code, proved sound (second part): regions, loops, calls. -/
import Derived.Test.YtjkmcceipabejaaGreatDoorAB
import Derived.Scope
import Derived.RangeFuncRecord
set_option linter.unusedSimpArgs false
set_option linter.unusedVariables false
set_option linter.unusedSectionVars false
namespace Go.Proofs.Ae
open Go Go.RowKit
def sH (ops:Array Oper):Option (Nat×Bool)->Option (Option (Nat×Bool))
 |none=>some none
 |some (j,b)=>match(ops[j]?).bind (·.dst)with
  |some d=>some (some (d,b))
  |none=>none
def F4 (nt:Nat):Option Nat->Bool
 |none=>true
 |some d=>Nat.blt d nt
def mT (P:Program) (nt:Nat) (ops:Array Oper) (o:Oper):Option CO:=
 match mS P o.op with
 |none=>none
 |some c=>match sH ops o.guard with
  |none=>none
  |some g=>if F4 nt o.dst then some ⟨o.dst,c,g⟩else none
def qy (P:Program) (nt:Nat) (ops:Array Oper):List Oper->Option (List CO)
 |[]=>some []
 |o::os=>match mT P nt ops o with
  |none=>none
  |some c=>match qy P nt ops os with
   |none=>none
   |some cs=>some (c::cs)
theorem zX {P:Program} {nt:Nat} {ops:Array Oper} {o:Oper} {c:CO} (h:mT P nt ops o=some c):
  mS P o.op=some c.op/\sH ops o.guard=some c.gd/\c.dst=o.dst/\ ∀d,o.dst=some d->d<nt:=by
 unfold mT at h;split at h
 ·cases h
 ·rename_i k hk
  split at h
  ·cases h
  ·rename_i g hg
   split at h
   ·rename_i hd
    cases h;refine⟨hk,hg,rfl,?_⟩;intro d e;rw[e]at hd;exact Nat.le_of_ble_eq_true hd
   ·cases h
inductive iw (bs:List (Option Nat)):List Nat->List Deferred->Prop
 |nil:iw bs [] []
 |cons {id b:Nat} {l:List Nat} {ds:List Deferred} (h:bs[id]? =some (some b)) (t:iw bs l ds):iw bs (id::l) ({target:=.collected b,args:= #[]}::ds)
theorem iw.mono {bs bs':List (Option Nat)} (hb:eB bs bs'): ∀{l:List Nat} {ds:List Deferred},iw bs l ds->iw bs' l ds
 |_,_,.nil=>.nil
 |_,_,.cons h t=>.cons (hb _ _ h) (t.mono hb)
variable [eg]
structure SOK (base:Nat) (U:Nat->Nat) (bs:List (Option Nat)) (as:List BA) (w:World) (s:St) (nt:Nat) (a:Act):Prop where
 S:gl U w bs as s.ts a.tmps
 H:di base U bs as w s.m
 sz:nt<=a.tmps.size
 df:iw bs s.mks a.defers
section
variable {P:Program} {U U':Nat->Nat} {bs bs':List (Option Nat)} {as as':List BA} {w w':World}
variable {G:Gls} {mu:Bool} {ts:dx} {M M':Mem} {base:Nat} {v:AV}
variable {cl:a7} {yl:a7} {ro:Option Nat} {n nt:Nat}
theorem getD_some {t:Array Value} {i:Nat} {v:Value} (h:t.getD i undef=v) (hne:v≠undef):t[i]? =some v:=by
 rw[Array.getD_eq_getD_getElem?]at h;cases hq:t[i]? with
 |none=>rw[hq]at h;exact absurd h.symm hne
 |some x=>rw[hq]at h;simpa using h
theorem v7 {ops:Array Oper} {o:Oper} {t:Array Value} {gd:Option (Nat×Bool)} (hg:sH ops o.guard=some gd) (hS: ∀d b,gd=some (d,b)->Rep U w bs as (look d ts) (t.getD d undef))
  {r:Bool} (h:wanted ts gd=some r):Region.wanted o (yielded ops t)=r:=by
 unfold sH at hg;split at hg
 ·rename_i hgn
  cases hg;simp[wanted]at h;subst h;simp[Region.wanted,hgn]
 ·rename_i j b hgs
  split at hg
  ·rename_i d hd
   cases hg;have hx:=hS d b rfl;simp only[wanted]at h;simp only[Region.wanted,hgs,yielded,hd,Option.bind_some];split at h
   ·rename_i tv hv
    cases h;rw[hv]at hx;generalize hq:t.getD d undef=q at hx;cases hx;rw[getD_some hq (by simp[undef])];cases tv<;>cases b<;>rfl
   ·rename_i hv
    cases h;rw[hv]at hx;generalize hq:t.getD d undef=q at hx;cases hx with
    |tup hV=>
     cases hV;rw[Array.getD_eq_getD_getElem?]at hq;cases hz:t[d]? with
     |none=>rfl
     |some x=>
      rw[hz]at hq;simp at hq;subst hq;rfl
   ·cases h
  ·cases hg
theorem F5 {ops:Array Oper} {Q:Exit->Act->World->Prop} (hcl:fw P G cl) (hyl:iL P G yl):
  ∀(rest:List Oper) (i:Nat) (cos:List CO) (s s':St) (U:Nat->Nat) (bs:List (Option Nat)) (as:List BA) (w:World) (a:Act),ops.toList.drop i=rest->qy P nt ops rest=some cos->gZ G mu cl yl cos s=some s'->
   fQ U w G->SOK base U bs as w s nt a->
   (∀U' bs' as' w' a',SOK base U' bs' as' w' s' nt a'->Evo base U bs as w U' bs' as' w'->Q .normal a' w')->
   wpOpsIn (fen ro) n P ops Q (List.range' i rest.length) a w:=by
 intro rest
 induction rest with
 |nil=>
  intro i cos s s' U bs as w a hd hc he hG hs hK;cases hc;cases he;exact hK _ _ _ _ _ hs (Evo.refl _ _ _ _ _)
 |cons o rest ih=>
  intro i cos s s' U bs as w a hd hc he hG hs hK;have ho:ops[i]? =some o:=by
   have:=congrArg (fun l=>l[0]?) hd;simpa using this
  have hd':ops.toList.drop (i+1)=rest:=by
   have:=congrArg (fun l=>l.drop 1) hd;simpa[Nat.add_comm] using this
  simp only[qy]at hc;split at hc
  ·cases hc
  ·rename_i c hco
   split at hc
   ·cases hc
   ·rename_i cs hcs
    cases hc;obtain⟨k1,k2,k3,k4⟩:=zX hco;simp only[List.length_cons,List.range'_succ,wpOpsIn,ho];simp only[gZ]at he;have hdd: ∀k,o.dst=some k->k<a.tmps.size:=fun k e=>Nat.lt_of_lt_of_le (k4 k e) hs.sz;split at he
    ·rename_i hw
     have hw':=v7 k2 (fun d b _=>hs.S d) hw;rw[hw',if_pos rfl];split at he
     ·rename_i v M hev
      refine vZ hcl hyl k1 hev hG hs.S hs.H ?_;intro U' bs' as' w' x h3 h4 h5;rw[k3]at he;refine ih (i+1) cs _ s' U' bs' as' w' _ hd' hcs he (hG.evo h5) ⟨(hs.S.evo h5).put hdd h3,h4,by rw[vX];exact hs.sz,by rw[vY];exact hs.df.mono h5.bsl⟩ ?_;intro U2 bs2 as2 w2 a2 q1 q2;exact hK _ _ _ _ _ q1 (h5.trans q2)
     ·cases he
    ·rename_i hw
     have hw':=v7 k2 (fun d b _=>hs.S d) hw;rw[hw'];simp only[Bool.false_eq_true,if_false];refine⟨fun _ _=>trivial,?_⟩;rw[k3]at he;refine ih (i+1) cs _ s' U bs as w _ hd' hcs he hG ⟨hs.S.put hdd (.tup .nil),hs.H,by rw[vX];exact hs.sz,by rw[vY];exact hs.df⟩ ?_;exact hK
    ·cases he
end
end Go.Proofs.Ae
namespace Go.Proofs.Ae
open Go Go.RowKit
mutual
theorem qz: ∀{a b:AV},eqA a b=true->a=b
 |a,b,h=>by
  cases a<;>cases b<;>(try simp only[eqA,Bool.and_eq_true,decide_eq_true_eq,Bool.false_eq_true,reduceCtorEq]at h)<;>try rfl
  case int=>obtain⟨h1,rfl⟩:=h;simp only[jB,decide_eq_true_eq]at h1;rw[h1]
  case bool=>simp at h;rw[h]
  case str=>simp at h;rw[h]
  case ptr=>rw[Nat.eq_of_beq_eq_true h.1,Nat.eq_of_beq_eq_true h.2]
  case eptr=>rw[qz h]
  case slc sp es sp' es'=>
   cases sp<;>cases sp'<;>simp only[eqA,Bool.and_eq_true,Bool.false_eq_true]at h
   ·rw[ki h]
   ·rw[ki h]
   ·rw[ki h.2,Nat.eq_of_beq_eq_true h.1]
  case osl=>
   obtain⟨⟨⟨h1,h2⟩,h3⟩,h4⟩:=h;rw[Nat.eq_of_beq_eq_true h1,Nat.eq_of_beq_eq_true h2,Nat.eq_of_beq_eq_true h3,Nat.eq_of_beq_eq_true h4]
  case apt=>
   obtain⟨⟨h1,h2⟩,h3⟩:=h;rw[Nat.eq_of_beq_eq_true h1,Nat.eq_of_beq_eq_true h2,Nat.eq_of_beq_eq_true h3]
  case map=>rw[Nat.eq_of_beq_eq_true h]
  case fn=>obtain⟨⟨h1,h2⟩,h3⟩:=h;rw[Nat.eq_of_beq_eq_true h1,ki h2,ki h3]
  case yld=>rw[Nat.eq_of_beq_eq_true h]
  case iface=>rw[Nat.eq_of_beq_eq_true h.1,qz h.2]
  case agg=>rw[ki h]
  case tup=>rw[ki h]
theorem ki: ∀{a b:List AV},gQ a b=true->a=b
 |[],[],_=>rfl
 |x::xs,y::ys,h=>by
  simp only[gQ,Bool.and_eq_true]at h;rw[qz h.1,ki h.2]
 |[],_::_,h=>by simp[gQ]at h
 |_::_,[],h=>by simp[gQ]at h
end
def isH (o:DOp):Bool:=match o.dk with
 | .heavy=>true
 |_=>false
def hv (ds:List DOp) (i:Nat):Nat:=((ds.take i).filter isH).length
section
variable {G:Gls} {mu:Bool} {cl:a7} {yl:a7} {ts:dx} {n0:Nat}
def v8 (i:Nat) (o:DOp):Prop:= ∀t j,(t,some j)∈o.rd->j<i
theorem wa {V W:List (Option Nat×AV)}: ∀{l:List (Nat×Option Nat)},(∀t j,(t,some j)∈l->j<V.length)->eU ts (V++W) l=eU ts V l
 |[],_=>rfl
 |(t,none)::l,h=>by
  simp only[eU];rw[wa fun t j hm=>h t j (List.mem_cons_of_mem _ hm)]
 |(t,some j)::l,h=>by
  simp only[eU];rw[wa fun t j hm=>h t j (List.mem_cons_of_mem _ hm),List.getElem?_append_left (h t j (List.mem_cons_self ..))]
def zY (G:Gls) (mu:Bool) (cl:a7) (yl:a7) (ts:dx) (n0:Nat) (V:List (Option Nat×AV)) (Ms:List Mem) (k:Nat) (o:DOp) (v:Option Nat×AV):Prop:=
 v.1=o.co.dst/\match o.dk with
 | .alloc _ r _=>v.2=.ptr (n0+r) 0
 | .heavy=>(wanted (eU ts V o.rd) o.co.gd=some true/\ ∃M M',Ms[k]? =some M/\Ms[k+1]? =some M'/\jC G mu cl yl (eU ts V o.rd) M o.co.op=some (v.2,M'))\/
   (wanted (eU ts V o.rd) o.co.gd=some false/\v.2=.tup []/\ ∃M,Ms[k]? =some M/\Ms[k+1]? =some M)
 | .light lo hi=>(wanted (eU ts V o.rd) o.co.gd=some true/\ ∀(j:Nat) (M:Mem),lo<=j->j<=hi->Ms[j]? =some M->mR o.co.op=false/\dv G mu (eU ts V o.rd) M o.co.op=some (v.2,M))\/
   (wanted (eU ts V o.rd) o.co.gd=some false/\v.2=.tup [])
def sI (G:Gls) (mu:Bool) (cl:a7) (yl:a7) (ts:dx) (n0:Nat) (V:List (Option Nat×AV)) (ms:List Mem) (chk:List (dx×COp×AV×Nat×Nat)) (k:Nat) (o:DOp) (v:Option Nat×AV):Prop:=
 v.1=o.co.dst/\match o.dk with
 | .alloc _ r _=>v.2=.ptr (n0+r) 0
 | .heavy=>(wanted (eU ts V o.rd) o.co.gd=some true/\ ∃M M',ms.reverse[k]? =some M/\ms.reverse[k+1]? =some M'/\jC G mu cl yl (eU ts V o.rd) M o.co.op=some (v.2,M'))\/
   (wanted (eU ts V o.rd) o.co.gd=some false/\v.2=.tup []/\ ∃M,ms.reverse[k]? =some M/\ms.reverse[k+1]? =some M)
 | .light lo hi=>(wanted (eU ts V o.rd) o.co.gd=some true/\((qj o.co.op=false/\dv G mu (eU ts V o.rd) ⟨[],[]⟩ o.co.op=some (v.2,⟨[],[]⟩))\/
    (qi o.co.op=true/\(eU ts V o.rd,o.co.op,v.2,lo,hi)∈chk)))\/
   (wanted (eU ts V o.rd) o.co.gd=some false/\v.2=.tup [])
theorem zZ {f:Opd} {xs:List Opd} {ss:dx} {M:Mem}:dv G mu ss M (.call f xs)=none:=rfl
theorem Aa {ms:List Mem}: ∀{l:List (dx×COp×AV×Nat×Nat)},ot G mu ms l=true-> ∀ss o v lo hi,(ss,o,v,lo,hi)∈l-> ∀(j:Nat) (M:Mem),lo<=j->j<=hi->ms[j]? =some M-> ∃M',dv G mu ss M o=some (v,M')
 |[],_,_,_,_,_,_,h=>by simp at h
 |(ss',o',v',lo',hi')::l,h,ss,o,v,lo,hi,hm=>by
  simp only[ot,Bool.and_eq_true]at h;rcases List.mem_cons.1 hm with e|hm
  ·intro j M h1 h2 h3;have hmem: ∀lo hi:Nat,lo<=j->j<=hi->M∈(ms.take (hi+1)).drop lo:=by
    intro lo hi h1 h2;refine List.mem_of_getElem? (i:=j - lo) ?_;rw[List.getElem?_drop,show lo+(j - lo)=j by omega,List.getElem?_take,if_pos (by omega)];exact h3
   cases e;have:=List.all_eq_true.1 h.1 M (hmem _ _ h1 h2);split at this
   ·rename_i v'' M' hp
    rw[qz this]at hp;exact⟨M',hp⟩
   ·cases this
  ·exact Aa h.2 ss o v lo hi hm
theorem sI.fact {V:List (Option Nat×AV)} {ms:List Mem} {chk:List (dx×COp×AV×Nat×Nat)} {k:Nat} {o:DOp} {v:Option Nat×AV} (h:sI G mu cl yl ts n0 V ms chk k o v) (hc:ot G mu ms.reverse chk=true):
  zY G mu cl yl ts n0 V ms.reverse k o v:=by
 refine⟨h.1,?_⟩;have h2:=h.2;cases hd:o.dk with
 |alloc z r hi=>rw[hd]at h2;exact h2
 |heavy=>rw[hd]at h2;exact h2
 |light lo hi=>
  rw[hd]at h2;rcases h2 with⟨hw,⟨ha,hp⟩|⟨hl,hm⟩⟩|h2
  ·refine .inl ⟨hw,fun j M _ _ _=>⟨?_,FO ha hp M⟩⟩;cases ho:o.co.op<;>first|rfl|(rw[ho,zZ]at hp;cases hp)
  ·refine .inl ⟨hw,fun j M h1 h2 h3=>?_⟩;obtain⟨M',hp⟩:=Aa hc _ _ _ _ _ hm j M h1 h2 h3;have:=FM hl hp;subst this;refine⟨?_,hp⟩;cases ho:o.co.op<;>first|rfl|(rw[ho,zZ]at hp;cases hp)
  ·exact .inr h2
theorem F6 (ds:List DOp):hv ds 0=0:=by simp[hv]
theorem F7 (o:DOp) (os:List DOp) (i:Nat):hv (o::os) (i+1)=(if isH o then 1 else 0)+hv os i:=by
 simp only[hv,List.take_succ_cons,List.filter_cons];split<;>simp[Nat.add_comm]
theorem Ab {M M':Mem} {rest m1:List Mem}:(m1++M'::M::rest).reverse[rest.length+1]? =some M':=by
 simp
theorem F8 {M:Mem} {rest:List Mem} {o:DOp} {d0 d1:DS} (h:rV G mu cl yl (eU ts d0.vals o.rd) M n0 o d0=some d1) (hm:d0.ms=M::rest):
  ∃v mh ch,d1.vals=d0.vals++[v]/\d1.ms=mh++d0.ms/\d1.chk=ch++d0.chk/\mh.length=(if isH o then 1 else 0)/\
   ∀(V1:List (Option Nat×AV)) (m1:List Mem) (c1:List (dx×COp×AV×Nat×Nat)),eU ts (d1.vals++V1) o.rd=eU ts d0.vals o.rd->
    sI G mu cl yl ts n0 (d1.vals++V1) (m1++d1.ms) (c1++d1.chk) rest.length o v:=by
 unfold rV at h;cases hd:o.dk with
 |alloc z r hi=>
  rw[hd]at h;simp at h;subst h;refine⟨_,[],[],rfl,rfl,rfl,by simp[isH,hd],?_⟩;intro V1 m1 c1 hr;refine⟨rfl,?_⟩;rw[hd]
 |heavy=>
  rw[hd]at h;simp only at h;split at h
  ·rename_i hw
   split at h
   ·rename_i v M' he
    simp at h;subst h;refine⟨(o.co.dst,v),[M'],[],rfl,rfl,rfl,by simp[isH,hd],?_⟩;intro V1 m1 c1 hr;refine⟨rfl,?_⟩;rw[hd];simp only at hr⊢;rw[hr];refine .inl ⟨hw,M,M',?_,?_,he⟩
    ·rw[hm];simp
    ·rw[hm];exact Ab
   ·cases h
  ·rename_i hw
   simp at h;subst h;refine⟨(o.co.dst,.tup []),[M],[],rfl,rfl,rfl,by simp[isH,hd],?_⟩;intro V1 m1 c1 hr;refine⟨rfl,?_⟩;rw[hd];simp only at hr⊢;rw[hr];refine .inr ⟨hw,(by first|trivial|rfl),M,?_,?_⟩
   ·rw[hm];simp
   ·rw[hm];exact Ab
  ·cases h
 |light lo hi=>
  rw[hd]at h;simp only at h;split at h
  ·rename_i hw
   split at h
   ·cases h
   ·rename_i ha
    split at h
    ·rename_i v hp
     simp at h;subst h;refine⟨(o.co.dst,v),[],[],rfl,rfl,rfl,by simp[isH,hd],?_⟩;intro V1 m1 c1 hr;refine⟨rfl,?_⟩;rw[hd];simp only at hr⊢;rw[hr];exact .inl ⟨hw,.inl ⟨by simpa using ha,hp⟩⟩
    ·split at h
     ·rename_i hl
      split at h
      ·rename_i v _ hp
       simp at h;subst h;refine⟨(o.co.dst,v),[],[(eU ts d0.vals o.rd,o.co.op,v,lo,hi)],rfl,rfl,rfl,by simp[isH,hd],?_⟩;intro V1 m1 c1 hr;refine⟨rfl,?_⟩;rw[hd];simp only at hr⊢;rw[hr];exact .inl ⟨hw,.inr ⟨hl,by simp⟩⟩
      ·cases h
     ·cases h
  ·rename_i hw
   simp at h;subst h;refine⟨(o.co.dst,.tup []),[],[],rfl,rfl,rfl,by simp[isH,hd],?_⟩;intro V1 m1 c1 hr;refine⟨rfl,?_⟩;rw[hd];simp only at hr⊢;rw[hr];exact .inr ⟨hw,(by first|trivial|rfl)⟩
  ·cases h
theorem F9: ∀(ds:List DOp) (d0 d:DS),oq G mu cl yl ts n0 ds d0=some d->(∀i o,ds[i]? =some o->v8 (d0.vals.length+i) o)->d0.ms≠[]->
  ∃V1 m1 c1,d.vals=d0.vals++V1/\V1.length=ds.length/\d.ms=m1++d0.ms/\m1.length=(ds.filter isH).length/\d.chk=c1++d0.chk/\
   ∀i o,ds[i]? =some o-> ∃v,V1[i]? =some v/\sI G mu cl yl ts n0 d.vals d.ms d.chk (d0.ms.length - 1+hv ds i) o v:=by
 intro ds
 induction ds with
 |nil=>
  intro d0 d h hr hne;simp[oq]at h;subst h;exact⟨[],[],[],by simp,rfl,rfl,rfl,rfl,by simp⟩
 |cons o os ih=>
  intro d0 d h hr hne;simp only[oq]at h;split at h
  ·rename_i e;exact absurd e hne
  ·rename_i M rest hm
   split at h
   ·rename_i d1 h1
    obtain⟨v,mh,ch,k1,k2,k3,k4,k5⟩:=F8 h1 hm;have hr1: ∀i o,os[i]? =some o->v8 (d1.vals.length+i) o:=by
     intro i o' ho;have:=hr (i+1) o' (by simpa using ho);rw[k1];simp only[List.length_append,List.length_cons,List.length_nil];rw[show d0.vals.length+(0+1)+i=d0.vals.length+(i+1)by omega];exact this
    obtain⟨V1,m1,c1,q1,q2,q3,q4,q5,q6⟩:=ih d1 d h hr1 (by rw[k2,hm];simp);refine⟨v::V1,m1++mh,c1++ch,by rw[q1,k1];simp,by simp[q2],by rw[q3,k2];simp,?_,by rw[q5,k3];simp,?_⟩
    ·rw[List.length_append,q4,k4,List.filter_cons];split<;>simp
    ·intro i o' ho;cases i with
     |zero=>
      simp at ho;subst ho;refine⟨v,rfl,?_⟩;have hs:eU ts (d1.vals++V1) o.rd=eU ts d0.vals o.rd:=by
       rw[k1,List.append_assoc];exact wa fun t j hj=>by have:=hr 0 o rfl t j hj;simpa using this
      have:=k5 V1 m1 c1 hs;rw[q1,q3,q5,F6,hm];simpa using this
     |succ i=>
      obtain⟨v',e1,e2⟩:=q6 i o' (by simpa using ho);refine⟨v',by simpa using e1,?_⟩;rw[F7];have hlen:d1.ms.length - 1+hv os i=d0.ms.length - 1+((if isH o then 1 else 0)+hv os i):=by
       rw[k2,List.length_append,k4,hm];simp only[List.length_cons];omega
      rw[<-hlen];exact e2
   ·cases h
end
variable [eg]
section
variable {P:Program} {U U0:Nat->Nat} {bs bs0 bs':List (Option Nat)} {as as0:List BA} {w w0:World}
variable {G:Gls} {mu:Bool} {ts:dx} {M M':Mem} {base:Nat} {v:AV}
theorem Rep.wk (hb:jD bs bs') {a:AV} {v:Value} (h:Rep U w bs as a v):Rep U w bs' as a v:=h.mono (fun _=>Nat.le_refl _) (fun _ _=>rfl) hb (eK.refl _)
theorem dt.wk (hb:jD bs bs') {a:List AV} {v:List Value} (h:dt U w bs as a v):dt U w bs' as a v:=h.mono (fun _=>Nat.le_refl _) (fun _ _=>rfl) hb (eK.refl _)
theorem fW.wk (hb:jD bs bs'): ∀{es:List (AV×AV)} {ents:List MapEntry},fW U w bs as es ents->fW U w bs' as es ents
 |_,_,.nil=>.nil
 |_,_,.cons hk hv t=>.cons hk (hv.wk hb) (t.wk hb)
theorem hD.wk (hb:jD bs bs') {b:Nat} {o:Obj} (h:hD U w bs as b o):hD U w bs' as b o:=by
 cases o with
 |cells cs=>obtain⟨vs,ty,h1,h2⟩:=h;exact⟨vs,ty,h1,h2.wk hb⟩
 |map es=>obtain⟨ents,ck,h1,h2⟩:=h;exact⟨ents,ck,h1,h2.wk hb⟩
 |loop=>obtain⟨r,h1,h2,h3,h4,h5⟩:=h;exact⟨r,h1,h2,h3,fun t=>(h4 t).wk hb,h5⟩
 |bld t cs=>obtain⟨vs,h1,h2,h3⟩:=h;exact⟨vs,h1,h2.wk hb,h3⟩
 |mark=>exact h
 |dead=>trivial
theorem fj.wk (hb:jD bs bs') {e:BA} {r:Arr} (h:fj base U w bs as e r):fj base U w bs' as e r:=by
 cases r with
 |app n ty sz=>exact h
 |wr g ty l cs=>
  obtain⟨h0,h⟩:=h;refine⟨h0,?_⟩;rcases h with h|⟨hn,h1,h2,h3,h4,h5,h6,cur,vs,h7,h8,h9,h10⟩
  ·exact .inl h
  ·exact .inr ⟨hn,h1,h2,h3,h4,h5,h6,cur,vs,h7,h8,h9,h10.wk hb⟩
theorem Ac {i b:Nat} (h:bs[i]? =some none):jD bs (bs.set i (some b)):=by
 intro j c hj;rw[fX];split
 ·rename_i e;subst e;rw[h]at hj;cases hj
 ·exact hj
theorem di.fill (h:di base U bs as w M) {i b:Nat} (hi:bs[i]? =some none) (hb:base<=b) (hl:b<w.heap.size) (hU:U b=0)
  (n1: ∀j:Nat,bs[j]?≠some (some b)) (n2: ∀(j:Nat) (e:BA),as[j]? =some e->e.nil=false->e.b≠b)
  (ho: ∀o,M.objs[i]? =some o->hD U w (bs.set i (some b)) as b o):di base U (bs.set i (some b)) as w M:=by
 have hw:=Ac (b:=b) hi;refine {lo:=by simp[h.lo],la:=h.la,hb:=h.hb,d1:=?_,d2:=?_,d3:=h.d3,ob:=?_,oo:=?_,ao:=fun j e r he hr=>(h.ao j e r he hr).wk hw,fr:=h.fr}
 ·intro j k c hj hk;rw[fX]at hj hk;split at hj<;>split at hk
  ·omega
  ·split at hj
   ·simp at hj;subst hj;exact absurd hk (n1 k)
   ·cases hj
  ·split at hk
   ·simp at hk;subst hk;exact absurd hj (n1 j)
   ·cases hk
  ·exact h.d1 j k c hj hk
 ·intro j c k e hj he hn;rw[fX]at hj;split at hj
  ·split at hj
   ·simp at hj;subst hj;exact n2 k e he hn
   ·cases hj
  ·exact h.d2 j c k e hj he hn
 ·intro j c hj;rw[fX]at hj;split at hj
  ·split at hj
   ·simp at hj;subst hj;exact⟨hb,hl,hU⟩
   ·cases hj
  ·exact h.ob j c hj
 ·intro j c o hj ho';rw[fX]at hj;split at hj
  ·rename_i e
   subst e;split at hj
   ·simp at hj;subst hj;exact ho o ho'
   ·cases hj
  ·exact(h.oo j c o hj ho').wk hw
theorem Evo.fill {U1:Nat->Nat} {w1:World} (h:Evo base U0 bs0 as0 w0 U bs as w) {i b:Nat} (hi:bs0.length<=i):Evo base U0 bs0 as0 w0 U (bs.set i (some b)) as w:=
 ⟨h.below,h.old,h.up,h.cell,fun j c hj=>by
  have:=eD hj;rw[fX,if_neg (by omega)];exact h.bsl j c hj,h.asl,h.csz⟩
theorem Ga {t i:Nat} {z:List AV} (hz:zC P t=some z) (h:di base U bs as w M) (hi:bs[i]? =some none) (ho:M.objs[i]? =some (.cells z)) (hev:Evo base U0 bs0 as0 w0 U bs as w) (hl:bs0.length<=i):
  ∃w' U' b,(Instr.alloc t true (.tuple #[])).run P w=.ok (.pointer (some ⟨b,0,none⟩)) w'/\di base U' (bs.set i (some b)) as w' M/\Evo base U0 bs0 as0 w0 U' (bs.set i (some b)) as w'/\Evo base U bs as w U' bs as w':=by
 obtain⟨zv,h1,h2⟩:=sj (w:=w) hz;have ev:=ib (base:=base) (bs:=bs) (as:=as) (.cells zv.cells.toList.toArray t) h.hb h.fr 0;have hA:=h.alloc (.cells zv.cells.toList.toArray t) 0;refine⟨w.alloc (.cells zv.cells.toList.toArray t),upd U w.heap.size 0,w.heap.size,?_,?_,(hev.trans ev).fill (U1:=U) (w1:=w) hl,ev⟩
 ·simp[Instr.alloc,h1,newVar,newRow,newObj,Sem.run]
 ·refine hA.fill hi h.hb (by simp) (gw _ _ _) ?_ ?_ ?_
  ·intro j hj;have:=(h.ob j _ hj).2.1;omega
  ·intro j e he hn hb;obtain⟨r,_,hr⟩:=h.arr he;have:=(hr.lt hn).2;omega
  ·intro o ho';rw[ho]at ho';cases ho';exact⟨zv.cells.toList,t,heap_alloc_new w _,h2 _ _ _ _⟩
end
end Go.Proofs.Ae
namespace Go.Proofs.Ae
open Go Go.RowKit
def kV (o:Oper):List Nat:=(o.after.toList.filter fun e=>Region.binds .any e).map (·.on)
def mU:List Oper->List (List Nat)->List (List Nat)
 |[],acc=>acc
 |o::os,acc=>mU os (acc++[kV o++(kV o).flatMap fun p=>(acc[p]?).getD []])
def ie (anc:List (List Nat)) (i:Nat):List Nat:=(anc[i]?).getD []
def sJ (ops:Array Oper) (L:Nat->Prop):Prop:= ∀(i:Nat) (o:Oper),L i->ops[i]? =some o-> ∀p∈kV o,L p
theorem Gb {ops:Array Oper} {L:Nat->Prop} (hL:sJ ops L): ∀(os:List Oper) (acc:List (List Nat)),ops.toList.drop acc.length=os->(∀i,L i-> ∀j∈ie acc i,L j)-> ∀i,L i-> ∀j∈ie (mU os acc) i,L j:=by
 intro os
 induction os with
 |nil=>intro acc _ h;exact h
 |cons o os ih=>
  intro acc hd h;have ho:ops[acc.length]? =some o:=by
   have:=congrArg (fun l=>l[0]?) hd;simpa using this
  refine ih _ ?_ ?_
  ·have:=congrArg (fun l=>l.drop 1) hd;simpa[Nat.add_comm] using this
  ·intro i hi j hj;unfold ie at hj;rw[List.getElem?_append]at hj;split at hj
   ·exact h i hi j hj
   ·rename_i hlt
    by_cases e:i=acc.length
    ·subst e;simp only[Nat.sub_self,List.getElem?_cons_zero,Option.getD_some,List.mem_append,List.mem_flatMap]at hj;rcases hj with hj|⟨p,hp,hj⟩
     ·exact hL _ _ hi ho j hj
     ·exact h p (hL _ _ hi ho p hp) j hj
    ·have:i - acc.length≠0:=by omega
     obtain⟨q,hq⟩:=Nat.exists_eq_succ_of_ne_zero this;rw[hq]at hj;simp at hj
def jc (ds:List DOp) (j:Nat):Option Nat:=(ds[j]?).bind (·.co.dst)
def hAt (ds:List DOp) (j:Nat):Bool:=match ds[j]? with
 |some o=>isH o
 |none=>false
def isA (o:DOp):Bool:=match o.dk with
 | .alloc ..=>true
 |_=>false
def jd (anc:List (List Nat)) (ds:List DOp) (i:Nat):List (Nat×Option Nat)->Bool
 |[]=>true
 |(t,some j)::l=>decide (j<i/\j∈ie anc i/\jc ds j=some t)&&jd anc ds i l
 |(t,none)::l=>decide (∀j,j<ds.length->jc ds j=some t->j=i\/i∈ie anc j)&&jd anc ds i l
def sK (anc:List (List Nat)) (ds:List DOp) (i lo:Nat):Prop:= ∀j,j<ds.length->hAt ds j=true->hv ds j<lo->j∈ie anc i
def qA (anc:List (List Nat)) (ds:List DOp) (i hi:Nat):Prop:= ∀j,j<ds.length->hAt ds j=true->hi<=hv ds j->i∈ie anc j
instance {anc:List (List Nat)} {ds:List DOp} {i lo:Nat}:Decidable (sK anc ds i lo):=by unfold sK;infer_instance
instance {anc:List (List Nat)} {ds:List DOp} {i lo:Nat}:Decidable (qA anc ds i lo):=by unfold qA;infer_instance
def Ad:COp->List AV->Bool
 | .alloc z',z=>gQ z' z
 |_,_=>false
def oN (anc:List (List Nat)) (ds:List DOp) (i:Nat) (o:DOp):Bool:=match o.dk with
 | .heavy=>decide (∀j,j<i->hAt ds j=true->j∈ie anc i)
 | .light lo hi=>decide (lo<=(ds.filter isH).length/\sK anc ds i lo/\qA anc ds i hi)
 | .alloc z r hi=>o.co.gd.isNone&&Ad o.co.op z&&decide (r=((ds.take i).filter isA).length/\qA anc ds i hi)
def kj (anc:List (List Nat)) (ds:List DOp) (i:Nat) (o:DOp) (O:Oper):Bool:=
 decide (∀p∈kV O,p<i)&&jd anc ds i o.rd&&decide (∀j,j<ds.length->j≠i->jc ds j=none\/jc ds j≠o.co.dst)&&oN anc ds i o
def oO (anc:List (List Nat)) (ds:List DOp):List DOp->List Oper->Nat->Bool
 |[],[],_=>true
 |o::os,O::Os,i=>kj anc ds i o O&&oO anc ds os Os (i+1)
 |_,_,_=>false
theorem Af {anc:List (List Nat)} {ds:List DOp}: ∀{os:List DOp} {Os:List Oper} {k:Nat},oO anc ds os Os k=true->os.length=Os.length/\ ∀i o O,os[i]? =some o->Os[i]? =some O->kj anc ds (k+i) o O=true
 |[],[],k,_=>⟨rfl,by simp⟩
 |o::os,O::Os,k,h=>by
  simp only[oO,Bool.and_eq_true]at h;obtain⟨h1,h2⟩:=Af h.2;refine⟨by simp[h1],?_⟩;intro i o' O' e1 e2;cases i with
  |zero=>simp at e1 e2;subst e1 e2;exact h.1
  |succ i=>
   have:=h2 i o' O' (by simpa using e1) (by simpa using e2);rw[show k+(i+1)=k+1+i by omega];exact this
 |[],_::_,_,h=>by simp[oO]at h
 |_::_,[],_,h=>by simp[oO]at h
theorem sL {anc:List (List Nat)} {ds:List DOp} {i:Nat}: ∀{l:List (Nat×Option Nat)},jd anc ds i l=true-> ∀t j,(t,some j)∈l->j<i/\j∈ie anc i/\jc ds j=some t
 |[],_,_,_,h=>by simp at h
 |(t',some j')::l,h,t,j,hm=>by
  simp only[jd,Bool.and_eq_true,decide_eq_true_eq]at h;rcases List.mem_cons.1 hm with e|hm
  ·cases e;exact h.1
  ·exact sL h.2 t j hm
 |(t',none)::l,h,t,j,hm=>by
  simp only[jd,Bool.and_eq_true]at h;rcases List.mem_cons.1 hm with e|hm
  ·cases e
  ·exact sL h.2 t j hm
theorem wb {anc:List (List Nat)} {ds:List DOp} {i:Nat}: ∀{l:List (Nat×Option Nat)},jd anc ds i l=true-> ∀t,(t,none)∈l-> ∀j,j<ds.length->jc ds j=some t->j=i\/i∈ie anc j
 |[],_,_,h=>by simp at h
 |(t',none)::l,h,t,hm=>by
  simp only[jd,Bool.and_eq_true,decide_eq_true_eq]at h;rcases List.mem_cons.1 hm with e|hm
  ·cases e;exact h.1
  ·exact wb h.2 t hm
 |(t',some j')::l,h,t,hm=>by
  simp only[jd,Bool.and_eq_true]at h;rcases List.mem_cons.1 hm with e|hm
  ·cases e
  ·exact wb h.2 t hm
theorem qB {ds:List DOp} {c:Nat}: ∀{i:Nat},i<=ds.length->c<hv ds i-> ∃j,j<i/\hAt ds j=true/\hv ds j=c
 |0,_,h=>by simp[hv]at h
 |i+1,hi,h=>by
  have hlt:i<ds.length:=by omega
  have hs:hv ds (i+1)=hv ds i+(if isH ds[i]then 1 else 0):=by
   unfold hv;rw[List.take_add_one,List.getElem?_eq_getElem hlt];simp only[Option.toList_some,List.filter_append,List.length_append,List.filter_cons,List.filter_nil];split<;>simp
  by_cases hc:c<hv ds i
  ·obtain⟨j,h1,h2,h3⟩:=qB (i:=i) (by omega) hc;exact⟨j,by omega,h2,h3⟩
  ·rw[hs]at h;split at h
   ·rename_i hh
    refine⟨i,by omega,?_,by omega⟩;simp[hAt,List.getElem?_eq_getElem hlt,hh]
   ·omega
theorem wc (ds:List DOp):hv ds ds.length=(ds.filter isH).length:=by simp[hv]
theorem Gc {ds:List DOp} {i j:Nat} (h:i<=j):hv ds i<=hv ds j:=by
 unfold hv;have:(ds.take i).filter isH=((ds.take j).take i).filter isH:=by rw[List.take_take,Nat.min_eq_left h]
 rw[this];exact((List.take_sublist i (ds.take j)).filter isH).length_le
theorem Ag {ds:List DOp} {i j:Nat} (h:i<j) (hi:hAt ds i=true):hv ds i<hv ds j:=by
 have hlt:i<ds.length:=by
  unfold hAt at hi;split at hi
  ·rename_i o ho;exact(List.getElem?_eq_some_iff.1 ho).1
  ·cases hi
 have hh:isH ds[i]=true:=by simpa[hAt,List.getElem?_eq_getElem hlt] using hi
 have hs:hv ds (i+1)=hv ds i+1:=by
  unfold hv;rw[List.take_add_one,List.getElem?_eq_getElem hlt];simp only[Option.toList_some,List.filter_append,List.length_append,List.filter_cons,hh,if_true,List.filter_nil,List.length_cons,List.length_nil]
 have:=Gc (ds:=ds) (show i+1<=j by omega);omega
variable [eg]
structure DSt (base:Nat) (U0:Nat->Nat) (bs0:List (Option Nat)) (as0:List BA) (w0:World) (ops:Array Oper) (ds:List DOp) (V:List (Option Nat×AV)) (Ms:List Mem) (ts0:dx) (n0 nt:Nat) (a0:Act)
  (L:Array Bool) (k:Nat) (U:Nat->Nat) (bs:List (Option Nat)) (as:List BA) (M:Mem) (a:Act) (w:World):Prop where
 hk:Ms[k]? =some M
 hh: ∀j,hAt ds j=true->(L.getD j false=true↔hv ds j<k)
 H:di base U bs as w M
 ev:Evo base U0 bs0 as0 w0 U bs as w
 r1: ∀(j:Nat) (v:AV) (d:Nat),L.getD j false=true->V[j]? =some (some d,v)->Rep U w bs as v (a.tmps.getD d undef)
 r2: ∀t:Nat,(∀(j:Nat) (v:AV),L.getD j false=true->V[j]?≠some (some t,v))->Rep U w bs as (look t ts0) (a.tmps.getD t undef)
 hole: ∀(j:Nat) (o:DOp) (z:List AV) (r hi:Nat),ds[j]? =some o->o.dk=.alloc z r hi->L.getD j false=false->bs[n0+r]? =some none
 shut:sJ ops (fun j=>L.getD j false=true)
 size:L.size=ops.size
 sz:nt<=a.tmps.size
 df:a.defers=a0.defers
theorem wd {L:Array Bool} {i:Nat} (hi:i<L.size) (j:Nat):(L.setIfInBounds i true).getD j false=if i=j then true else L.getD j false:=by
 by_cases h:i=j
 ·subst h;simp[Array.getD,hi]
 ·simp only[h,if_false,Array.getD_eq_getD_getElem?,Array.getElem?_setIfInBounds_ne h]
theorem Gf {ds:List DOp} {i j:Nat} (hi:hAt ds i=true) (hj:hAt ds j=true) (h:hv ds i=hv ds j):i=j:=by
 rcases Nat.lt_trichotomy i j with h1|h1|h1
 ·have:=Ag h1 hi;omega
 ·exact h1
 ·have:=Ag h1 hj;omega
section
variable {base:Nat} {U0:Nat->Nat} {bs0:List (Option Nat)} {as0:List BA} {w0:World} {ops:Array Oper} {ds:List DOp} {V:List (Option Nat×AV)} {Ms:List Mem} {ts0:dx} {n0 nt:Nat} {a0:Act}
variable {L:Array Bool} {k k':Nat} {U U':Nat->Nat} {bs bs':List (Option Nat)} {as as':List BA} {M M':Mem} {a:Act} {w w':World}
theorem DSt.next (h:DSt base U0 bs0 as0 w0 ops ds V Ms ts0 n0 nt a0 L k U bs as M a w) {i:Nat} {o:DOp} {O:Oper} {v:AV} {x:Value} (hi:i<ops.size) (ho:ds[i]? =some o) (hO:ops[i]? =some O) (hV:V[i]? =some (o.co.dst,v))
  (hd: ∀d,o.co.dst=some d->d<nt) (hready: ∀p∈kV O,L.getD p false=true)
  (hx:Rep U' w' bs' as' v x) (keep: ∀{a:AV} {v:Value},Rep U w bs as a v->Rep U' w' bs' as' a v) (ev':Evo base U0 bs0 as0 w0 U' bs' as' w') (H':di base U' bs' as' w' M') (hk':Ms[k']? =some M')
  (hkk:isH o=true->k'=k+1/\hv ds i=k) (hkl:isH o=false->k'=k)
  (hole': ∀(j:Nat) (o:DOp) (z:List AV) (r hi:Nat),ds[j]? =some o->o.dk=.alloc z r hi->j≠i->L.getD j false=false->bs'[n0+r]? =some none)
  (dd: ∀(j:Nat) (v:AV) (d:Nat),V[j]? =some (some d,v)->j≠i->o.co.dst≠some d):
  DSt base U0 bs0 as0 w0 ops ds V Ms ts0 n0 nt a0 (L.setIfInBounds i true) k' U' bs' as' M' (a.put o.co.dst x) w':=by
 have hiL:i<L.size:=by rw[h.size];exact hi
 have hget:=wd hiL;have hsz: ∀d,o.co.dst=some d->d<a.tmps.size:=fun d e=>Nat.lt_of_lt_of_le (hd d e) h.sz;have hput: ∀t,o.co.dst≠some t->(a.put o.co.dst x).tmps.getD t undef=a.tmps.getD t undef:=by
  intro t ht;cases hdst:o.co.dst with
  |none=>rfl
  |some d=>
   rw[hdst]at ht;have hne:d≠t:=fun e=>ht (by rw[e]);simp only[Act.put];rw[sG (hsz d hdst),if_neg hne]
 refine {hk:=hk',hh:=?_,H:=H',ev:=ev',r1:=?_,r2:=?_,hole:=?_,shut:=?_,size:=by simp[h.size],sz:=by rw[vX];exact h.sz,df:=by rw[vY];exact h.df}
 ·intro j hj;rw[hget];cases hio:isH o with
  |true=>
   obtain⟨rfl,hki⟩:=hkk hio;have hii:hAt ds i=true:=by simp[hAt,ho,hio]
   by_cases e:i=j
   ·subst e;simp[hki]
   ·simp only[e,if_false,h.hh j hj];have:hv ds j≠k:=fun e2=>e (Gf hii hj (by rw[hki,e2]));omega
  |false=>
   have:=hkl hio;subst this;have e:i≠j:=by
    intro e;subst e;simp[hAt,ho,hio]at hj
   simp only[e,if_false];exact h.hh j hj
 ·intro j v' d hj hVj;rw[hget]at hj;by_cases e:i=j
  ·subst e;rw[hV]at hVj;simp only[Option.some.injEq,Prod.mk.injEq]at hVj;obtain⟨e1,rfl⟩:=hVj;rw[e1];simp only[Act.put];rw[sG (hsz d e1),if_pos rfl];exact hx
  ·simp only[e,if_false]at hj;rw[hput d (dd j v' d hVj (Ne.symm e))];exact keep (h.r1 j v' d hj hVj)
 ·intro t ht;have hti:o.co.dst≠some t:=by
   intro e;exact ht i v (by rw[hget];simp) (by rw[hV,e])
  rw[hput t hti];refine keep (h.r2 t fun j v' hj hVj=>ht j v' ?_ hVj);rw[hget];split
  ·rfl
  ·exact hj
 ·intro j o' z r hi' h1 h2 h3;rw[hget]at h3;split at h3
  ·cases h3
  ·rename_i e
   exact hole' j o' z r hi' h1 h2 (Ne.symm e) h3
 ·intro j O' hj hO' p hp;rw[hget]at hj⊢;split
  ·rfl
  ·by_cases e:i=j
   ·subst e;rw[hO]at hO';cases hO';exact hready p hp
   ·simp only[e,if_false]at hj;exact h.shut j O' hj hO' p hp
theorem DSt.reads (h:DSt base U0 bs0 as0 w0 ops ds V Ms ts0 n0 nt a0 L k U bs as M a w) {anc:List (List Nat)} (hanc: ∀i,L.getD i false=true-> ∀j∈ie anc i,L.getD j false=true) {i:Nat} {l:List (Nat×Option Nat)} (hr:jd anc ds i l=true) (hn:L.getD i false=false)
  (hpre: ∀j∈ie anc i,j≠i->L.getD j false=true) (hVd: ∀(j:Nat) (v:Option Nat×AV),V[j]? =some v->j<ds.length/\v.1=jc ds j) (hlen:V.length=ds.length):gl U w bs as (eU ts0 V l) a.tmps:=by
 induction l with
 |nil=>intro t;exact .undef
 |cons e l ih=>
  obtain⟨t,src⟩:=e;have hr2:jd anc ds i l=true:=by
   cases src<;>simp only[jd,Bool.and_eq_true]at hr<;>exact hr.2
  intro q;cases src with
  |none=>
   simp only[eU,kU];split
   ·rename_i e
    subst e;refine h.r2 t ?_;intro j v hj hVj;obtain⟨h1,h2⟩:=hVd j _ hVj;rcases wb hr t (List.mem_cons_self ..) j h1 h2.symm with e|e
    ·subst e;rw[hn]at hj;cases hj
    ·have:=hanc j hj i e;rw[hn]at this;cases this
   ·exact ih hr2 q
  |some j=>
   simp only[eU,kU];split
   ·rename_i e
    subst e;obtain⟨h1,h2,h3⟩:=sL hr t j (List.mem_cons_self ..);cases hv:V[j]? with
    |none=>exact .undef
    |some v=>
     obtain⟨h4,h5⟩:=hVd j _ hv;rw[h3]at h5;obtain⟨v1,v2⟩:=v;simp only at h5;subst h5;exact h.r1 j v2 t (hpre j h2 (by omega)) hv
   ·exact ih hr2 q
end
end Go.Proofs.Ae
namespace Go.Proofs.Ae
open Go Go.RowKit
theorem Gg {G:Gls} {mu:Bool} {cl:a7} {yl:a7} {ts:dx} {M:Mem} {c:COp} (h:mR c=false):jC G mu cl yl ts M c=dv G mu ts M c:=by
 cases c<;>first|rfl|(simp[mR]at h)
theorem Gh {P:Program} {op:Op} {z:List AV} (h:kh P op=some (.alloc z)): ∃t,op=.alloc t/\zC P t=some z:=by
 cases op<;>simp only[kh,reduceCtorEq,Option.some.injEq]at h
 case alloc t=>
  split at h
  ·rename_i z' hz
   split at h
   ·simp at h
   ·simp at h;subst h;exact⟨t,rfl,hz⟩
  ·cases h
 case call c=>
  split at h
  ·unfold qv at h;(repeat' split at h)<;>simp_all
  ·split at h
   ·split at h
    ·rename_i k hk
     cases h;unfold qx at hk
     (repeat' split at hk)<;>simp_all
    ·simp at h
   ·simp at h
  ·cases h
 case binOp op xt x y yt=>
  split at h
  ·unfold lQ at h;(repeat' split at h)<;>simp_all
  ·unfold lQ at h;(repeat' split at h)<;>simp_all
  ·simp at h
 case build t ps=>unfold qu at h;(repeat' split at h)<;>simp_all
 all_goals (repeat' split at h)<;>simp_all
theorem sM {ops:Array Oper} {L:Array Bool} {i:Nat}:i∈Region.ready .any ops L↔i<ops.size/\L.getD i true=false/\ ∃O,ops[i]? =some O/\ ∀p∈kV O,L.getD p false=true:=by
 unfold Region.ready;rw[List.mem_filter,List.mem_range];constructor
 ·rintro⟨h1,h2⟩;simp only[Bool.and_eq_true,Bool.not_eq_true']at h2;refine⟨h1,h2.1,?_⟩;cases hO:ops[i]? with
  |none=>rw[hO]at h2;simp at h2
  |some O=>
   refine⟨O,rfl,?_⟩;rw[hO]at h2;simp only[Option.map_some,Option.getD_some,Array.all_eq_true',Bool.or_eq_true,Bool.not_eq_true']at h2;intro p hp;simp only[kV,List.mem_map,List.mem_filter]at hp;obtain⟨e,⟨he,hb⟩,rfl⟩:=hp;rcases h2.2 e (by simpa using he)with h|h
   ·rw[hb]at h;cases h
   ·exact h
 ·rintro⟨h1,h2,O,hO,h3⟩;refine⟨h1,?_⟩;simp only[h2,Bool.not_false,Bool.true_and,hO,Option.map_some,Option.getD_some,Array.all_eq_true',Bool.or_eq_true,Bool.not_eq_true'];intro e he;cases hb:Region.binds .any e with
  |false=>exact .inl rfl
  |true=>
   refine .inr (h3 e.on ?_);simp only[kV,List.mem_map,List.mem_filter];exact⟨e,⟨by simpa using he,hb⟩,rfl⟩
theorem we {α:Type} {p:α->Bool} {l:List α} {i j:Nat} {x:α} (h:i<j) (hi:l[i]? =some x) (hp:p x=true):((l.take i).filter p).length<((l.take j).filter p).length:=by
 have hs:((l.take (i+1)).filter p).length=((l.take i).filter p).length+1:=by
  rw[List.take_add_one,hi];simp only[Option.toList_some,List.filter_append,List.length_append,List.filter_cons,hp,if_true,List.filter_nil,List.length_cons,List.length_nil]
 have hm:((l.take (i+1)).filter p).length<=((l.take j).filter p).length:=by
  have:(l.take (i+1)).filter p=((l.take j).take (i+1)).filter p:=by rw[List.take_take,Nat.min_eq_left (by omega)]
  rw[this];exact((List.take_sublist _ _).filter p).length_le
 omega
theorem Ah {α:Type} {p q:α->Bool}: ∀{l:List α},(∀x,q x=true->p x=true)-> ∀x∈l,p x=true->q x=false->(l.filter q).length<(l.filter p).length
 |[],_,_,h,_,_=>by simp at h
 |y::l,h,x,hm,hp,hq=>by
  have le: ∀l:List α,(l.filter q).length<=(l.filter p).length:=by
   intro l
   induction l with
   |nil=>simp
   |cons z l ih=>
    simp only[List.filter_cons];by_cases hz:q z=true
    ·simp[hz,h z hz,ih]
    ·simp only[hz,if_false,Bool.false_eq_true];split
     ·simp;omega
     ·exact ih
  simp only[List.filter_cons];rcases List.mem_cons.1 hm with e|hm
  ·subst e;simp only[hp,hq,if_true,if_false,Bool.false_eq_true,List.length_cons];have:=le l;omega
  ·have ih:=Ah h x hm hp hq;by_cases hz:q y=true
   ·simp[hz,h y hz,ih]
   ·simp only[hz,if_false,Bool.false_eq_true];split
    ·simp;omega
    ·exact ih
theorem Ai {ms:List Mem} {n0:Nat}: ∀{ds:List DOp},ou ms n0 ds=true-> ∀(i:Nat) (o:DOp) (z:List AV) (r hi:Nat),ds[i]? =some o->o.dk=.alloc z r hi-> ∀(j:Nat) (M:Mem),j<=hi->ms[j]? =some M->M.objs[n0+r]? =some (.cells z)
 |[],_,_,_,_,_,_,h,_=>by simp at h
 |d::ds,h,i,o,z,r,hi,ho,hd=>by
  simp only[ou,Bool.and_eq_true]at h;cases i with
  |zero=>
   simp at ho;subst ho;intro j M hj hM;have h1:=h.1;rw[hd]at h1;have hmem:M∈ms.take (hi+1):=by
    refine List.mem_of_getElem? (i:=j) ?_;rw[List.getElem?_take,if_pos (by omega)];exact hM
   have:=List.all_eq_true.1 h1 M hmem;split at this
   ·rename_i cs hcs
    rw[ki this]at hcs;exact hcs
   ·cases this
  |succ i=>exact Ai h.2 i o z r hi (by simpa using ho) hd
variable [eg]
section
variable {P:Program} {G:Gls} {mu:Bool} {cl:a7} {yl:a7} {ro:Option Nat} {n:Nat} {Q:Exit->Act->World->Prop}
variable {base:Nat} {U0:Nat->Nat} {bs0:List (Option Nat)} {as0:List BA} {w0:World} {ops:Array Oper} {ds:List DOp} {V:List (Option Nat×AV)} {Ms:List Mem} {ts0:dx} {n0 nt:Nat} {a0:Act}
variable {anc:List (List Nat)}
structure wg (P:Program) (G:Gls) (mu:Bool) (cl:a7) (yl:a7) (U0:Nat->Nat) (bs0:List (Option Nat)) (w0:World) (ops:Array Oper) (ds:List DOp) (V:List (Option Nat×AV)) (Ms:List Mem) (ts0:dx) (n0 nt:Nat) (anc:List (List Nat)):Prop where
 hcl:fw P G cl
 hyl:iL P G yl
 hG:fQ U0 w0 G
 hops: ∀i o O,ds[i]? =some o->ops[i]? =some O->mT P nt ops O=some o.co/\kj anc ds i o O=true
 hlen:ds.length=ops.size
 hVlen:V.length=ds.length
 hfact: ∀i o,ds[i]? =some o-> ∃v,V[i]? =some v/\zY G mu cl yl ts0 n0 V Ms (hv ds i) o v
 hMs:Ms.length=(ds.filter isH).length+1
 hnew:ou Ms n0 ds=true
 hanc:anc=mU ops.toList []
 hn0:n0=bs0.length
theorem Aj (h:anc=mU ops.toList []) {S:Nat->Prop} (hS:sJ ops S): ∀i,S i-> ∀j∈ie anc i,S j:=by
 subst h;exact Gb hS ops.toList [] (by simp) (by intro i _ j hj;simp[ie]at hj)
theorem Gi (C:wg P G mu cl yl U0 bs0 w0 ops ds V Ms ts0 n0 nt anc) {L:Array Bool} {k:Nat} {U:Nat->Nat} {bs:List (Option Nat)} {as:List BA} {M:Mem} {a:Act} {w:World}
  (h:DSt base U0 bs0 as0 w0 ops ds V Ms ts0 n0 nt a0 L k U bs as M a w) {i:Nat} (hi:i∈Region.ready .any ops L) {K:Act->World->Prop}
  (hK: ∀k' U' bs' as' M' a' w',DSt base U0 bs0 as0 w0 ops ds V Ms ts0 n0 nt a0 (L.setIfInBounds i true) k' U' bs' as' M' a' w'->K a' w'):wpOpIn (fen ro) n P ops Q i K a w:=by
 obtain⟨hi1,hi2,O,hO,hready⟩:=sM.1 hi;have hid:i<ds.length:=by rw[C.hlen];exact hi1
 obtain⟨o,ho⟩: ∃o,ds[i]? =some o:=⟨_,List.getElem?_eq_getElem hid⟩
 obtain⟨hco,hok⟩:=C.hops i o O ho hO;obtain⟨v,hV,hf⟩:=C.hfact i o ho;obtain⟨hc1,hc2,hc3,hc4⟩:=zX hco;simp only[kj,Bool.and_eq_true,decide_eq_true_eq]at hok;obtain⟨⟨⟨hpl,hrd⟩,hdd⟩,hdk⟩:=hok;have hLi:L.getD i false=false:=by
  have:i<L.size:=by rw[h.size];exact hi1
  simpa[Array.getD,this] using hi2
 have hanc:=Aj C.hanc h.shut;have hpre: ∀j∈ie anc i,j≠i->L.getD j false=true:=by
  have hS:sJ ops (fun j=>L.getD j false=true\/j=i):=by
   intro j O' hj hO' p hp;rcases hj with hj|rfl
   ·exact .inl (h.shut j O' hj hO' p hp)
   ·rw[hO]at hO';cases hO';exact .inl (hready p hp)
  intro j hj hne;rcases Aj C.hanc hS i (.inr rfl) j hj with h|h
  ·exact h
  ·exact absurd h hne
 have hVd: ∀(j:Nat) (v:Option Nat×AV),V[j]? =some v->j<ds.length/\v.1=jc ds j:=by
  intro j v' hj;have hlt:j<ds.length:=by rw[<-C.hVlen];exact eD hj
  refine⟨hlt,?_⟩;have hoj:ds[j]? =some ds[j]:=List.getElem?_eq_getElem hlt;obtain⟨v'',e1,e2⟩:=C.hfact j _ hoj;rw[hj]at e1;cases e1;rw[e2.1];simp[jc,hoj]
 have hS:=h.reads (a:=a) hanc hrd hLi hpre hVd C.hVlen;have hG:=C.hG.evo h.ev;have hdn: ∀d,o.co.dst=some d->d<nt:=fun d e=>hc4 d (by rw[<-hc3];exact e);have dd: ∀(j:Nat) (v:AV) (d:Nat),V[j]? =some (some d,v)->j≠i->o.co.dst≠some d:=by
  intro j v' d hj hne e;obtain⟨h1,h2⟩:=hVd j _ hj;simp only at h2;rcases hdd j h1 hne with h3|h3
  ·rw[h3]at h2;cases h2
  ·exact h3 (by rw[<-h2,e])
 have hVi:V[i]? =some (o.co.dst,v.2):=by rw[hV,<-hf.1]
 have hw0: ∀{r},wanted (eU ts0 V o.rd) o.co.gd=some r->Region.wanted O (yielded ops a.tmps)=r:=fun hw=>v7 hc2 (fun d b _=>hS d) hw;have hMk:k<Ms.length:=eD h.hk;have hkm:k<=(ds.filter isH).length:=by rw[C.hMs]at hMk;omega
 -- a light operation's window
 have hlo: ∀lo,sK anc ds i lo->lo<=(ds.filter isH).length->isH o=false->lo<=k:=by
  intro lo hlo hle hno;refine Nat.le_of_not_lt fun hlt=>?_;obtain⟨j,h1,h2,h3⟩:=qB (ds:=ds) (i:=ds.length) (c:=k) (Nat.le_refl _) (by rw[wc];omega);have hne:j≠i:=by
   intro e;subst e;simp[hAt,ho,hno]at h2
  have:=(h.hh j h2).1 (hpre j (hlo j h1 h2 (by omega)) hne);omega
 have hhi: ∀hi,qA anc ds i hi->k<=hi:=by
  intro hi' hhi;refine Nat.le_of_not_lt fun hlt=>?_;obtain⟨j,h1,h2,h3⟩:=qB (ds:=ds) (i:=ds.length) (c:=hi') (Nat.le_refl _) (by rw[wc];omega);have hj:=(h.hh j h2).2 (by omega);have:=hanc j hj i (hhi j h1 h2 (by omega));rw[hLi]at this;cases this
 unfold wpOpIn;rw[hO];simp only;cases hd:o.dk with
 |light lo hi=>
  have hnH:isH o=false:=by simp[isH,hd]
  have h2:=hf.2;rw[hd]at h2;simp only at h2;have hdk':=hdk;simp only[oN,hd,decide_eq_true_eq]at hdk';obtain⟨d1,d2,d3⟩:=hdk';rcases h2 with⟨hw,hp⟩|⟨hw,hv2⟩
  ·obtain⟨q1,q2⟩:=hp k M (hlo lo d2 d1 hnH) (hhi hi d3) h.hk;rw[hw0 hw,if_pos rfl];rw[<-Gg (cl:=cl) (yl:=yl) q1]at q2;refine vZ C.hcl C.hyl hc1 q2 hG hS h.H ?_;intro U' bs' as' w' x r1 r2 r3;refine hK _ _ _ _ _ _ _ ((hc3▸h.next hi1 ho hO hVi hdn hready r1 (fun q=>r3.rep q) (h.ev.trans r3) r2 h.hk (fun e=>by rw[hnH]at e;cases e) (fun _=>rfl) ?_ dd:DSt base U0 bs0 as0 w0 ops ds V Ms ts0 n0 nt a0 (L.setIfInBounds i true) k U' bs' as' M (a.put O.dst x) w'));intro j o' z r hi' e1 e2 e3 e4;exact r3.bsl _ _ (h.hole j o' z r hi' e1 e2 e4)
  ·rw[hw0 hw];simp only[Bool.false_eq_true,if_false];refine⟨fun _ _=>trivial,?_⟩;have hx:Rep U w bs as v.2 undef:=by rw[hv2];exact .tup .nil
   refine hK _ _ _ _ _ _ _ ((hc3▸h.next hi1 ho hO hVi hdn hready hx (fun q=>q) h.ev h.H h.hk (fun e=>by rw[hnH]at e;cases e) (fun _=>rfl) ?_ dd:DSt base U0 bs0 as0 w0 ops ds V Ms ts0 n0 nt a0 (L.setIfInBounds i true) k U bs as M (a.put O.dst undef) w));intro j o' z r hi' e1 e2 e3 e4;exact h.hole j o' z r hi' e1 e2 e4
 |heavy=>
  have hH:isH o=true:=by simp[isH,hd]
  have hAi:hAt ds i=true:=by simp[hAt,ho,hH]
  have h2:=hf.2;rw[hd]at h2;simp only at h2;have hdk':=hdk;simp only[oN,hd,decide_eq_true_eq]at hdk';have hki:hv ds i=k:=by
   have h1:k<=hv ds i:=by
    refine Nat.le_of_not_lt fun hlt=>?_;have:=(h.hh i hAi).2 hlt;rw[hLi]at this;cases this
   refine Nat.le_antisymm (Nat.le_of_not_lt fun hlt=>?_) h1;obtain⟨j,e1,e2,e3⟩:=qB (ds:=ds) (i:=i) (c:=k) (by omega) hlt;have:=(h.hh j e2).1 (hpre j (hdk' j e1 e2) (by omega));omega
  rw[hki]at h2;rcases h2 with⟨hw,M1,M2,m1,m2,hev⟩|⟨hw,hv2,M1,m1,m2⟩
  ·have:=h.hk;rw[m1]at this;cases this;rw[hw0 hw,if_pos rfl];refine vZ C.hcl C.hyl hc1 hev hG hS h.H ?_;intro U' bs' as' w' x r1 r2 r3;refine hK _ _ _ _ _ _ _ ((hc3▸h.next hi1 ho hO hVi hdn hready r1 (fun q=>r3.rep q) (h.ev.trans r3) r2 m2 (fun _=>⟨rfl,hki⟩) (fun e=>by rw[hH]at e;cases e) ?_ dd:DSt base U0 bs0 as0 w0 ops ds V Ms ts0 n0 nt a0 (L.setIfInBounds i true) (k+1) U' bs' as' M2 (a.put O.dst x) w'));intro j o' z r hi' e1 e2 e3 e4;exact r3.bsl _ _ (h.hole j o' z r hi' e1 e2 e4)
  ·have:=h.hk;rw[m1]at this;cases this;rw[hw0 hw];simp only[Bool.false_eq_true,if_false];refine⟨fun _ _=>trivial,?_⟩;have hx:Rep U w bs as v.2 undef:=by rw[hv2];exact .tup .nil
   refine hK _ _ _ _ _ _ _ ((hc3▸h.next hi1 ho hO hVi hdn hready hx (fun q=>q) h.ev h.H m2 (fun _=>⟨rfl,hki⟩) (fun e=>by rw[hH]at e;cases e) ?_ dd:DSt base U0 bs0 as0 w0 ops ds V Ms ts0 n0 nt a0 (L.setIfInBounds i true) (k+1) U bs as _ (a.put O.dst undef) w));intro j o' z r hi' e1 e2 e3 e4;exact h.hole j o' z r hi' e1 e2 e4
 |alloc z r hi=>
  have hnH:isH o=false:=by simp[isH,hd]
  have h2:=hf.2;rw[hd]at h2;simp only at h2;have hdk':=hdk;simp only[oN,hd,Bool.and_eq_true,decide_eq_true_eq]at hdk';obtain⟨⟨d1,d2⟩,d3,d4⟩:=hdk';have hz:o.co.op=.alloc z:=by
   cases hop:o.co.op<;>rw[hop]at d2<;>simp only[Ad,Bool.false_eq_true]at d2;rw[ki d2]
  obtain⟨t,ht,hzc⟩:=Gh (F1 (hz▸hc1));have hgd:o.co.gd=none:=by simpa using d1
  have hw:wanted (eU ts0 V o.rd) o.co.gd=some true:=by rw[hgd];rfl
  rw[hw0 hw,if_pos rfl];have hhole:=h.hole i o z r hi ho hd hLi;have hcell:=Ai C.hnew i o z r hi ho hd k M (hhi hi d4) h.hk;obtain⟨w',U',b,f1,f2,f3,f4⟩:=Ga hzc h.H hhole hcell h.ev (by rw[C.hn0];omega);refine⟨fun _ _=>trivial,?_⟩;have hdef: ∀c,O.op≠ .defer c:=by intro c' e;rw[ht]at e;cases e
  rw[Oper.semAt_eq _ _ _ hdef];have hrun:(execOp a.eval O).run P w=.ok (.value (.pointer (some ⟨b,0,none⟩))) w':=by
   simp only[execOp,ht,Sem.run_bind,f1,Result.andThen_ok,Sem.run_pure]
  rw[hrun,Oper.uponIn_value];have hlt:=eD hhole;have hx:Rep U' w' (bs.set (n0+r) (some b)) as v.2 (.pointer (some ⟨b,0,none⟩)):=by
   rw[h2];exact .ptr (by rw[fX,if_pos rfl,if_pos hlt])
  refine hK _ _ _ _ _ _ _ ((hc3▸h.next hi1 ho hO hVi hdn hready hx (fun q=>(f4.rep q).wk (Ac hhole)) f3 f2 h.hk (fun e=>by rw[hnH]at e;cases e) (fun _=>rfl) ?_ dd:DSt base U0 bs0 as0 w0 ops ds V Ms ts0 n0 nt a0 (L.setIfInBounds i true) k U' (bs.set (n0+r) (some b)) as M (a.put O.dst _) w'));intro j o' z' r' hi' e1 e2 e3 e4;have hA':isA o'=true:=by simp[isA,e2]
  have hA:isA o=true:=by simp[isA,hd]
  have hr':r'=((ds.take j).filter isA).length:=by
   have hjl:j<ops.size:=by rw[<-C.hlen];exact eD e1
   obtain⟨_,q⟩:=C.hops j o' ops[j] e1 (by simp[hjl]);simp only[kj,Bool.and_eq_true]at q;have q:=q.2;simp only[oN,e2,Bool.and_eq_true,decide_eq_true_eq]at q;exact q.2.1
  have hne:r≠r':=by
   rw[d3,hr'];rcases Nat.lt_or_gt_of_ne e3 with q|q
   ·have:=we q e1 hA';omega
   ·have:=we q ho hA;omega
  rw[fX,if_neg (by omega)];exact h.hole j o' z' r' hi' e1 e2 e4
end
end Go.Proofs.Ae
namespace Go.Proofs.Ae
open Go Go.RowKit
def mV (P:Program) (nt:Nat) (ops:Array Oper):List Oper->List DOp->Option (List DOp)
 |[],[]=>some []
 |O::Os,d::dl=>match mT P nt ops O with
  |none=>none
  |some c=>match mV P nt ops Os dl with
   |none=>none
   |some cs=>some (⟨c,d.dk,d.rd⟩::cs)
 |_,_=>none
def sN (P:Program) (nt:Nat) (ops:Array Oper) (ds0:List DOp):Option (List DOp):=
 match mV P nt ops ops.toList ds0 with
 |none=>none
 |some ds=>if oO (mU ops.toList []) ds ds ops.toList 0 then some ds else none
theorem Ak {P:Program} {nt:Nat} {ops:Array Oper}: ∀{Os:List Oper} {dl ds:List DOp},mV P nt ops Os dl=some ds-> ∀(i:Nat) (o:DOp) (O:Oper),ds[i]? =some o->Os[i]? =some O->mT P nt ops O=some o.co
 |[],[],ds,h=>by simp[mV]at h;subst h;simp
 |O::Os,d::dl,ds,h=>by
  simp only[mV]at h;split at h
  ·cases h
  ·rename_i c hc
   split at h
   ·cases h
   ·rename_i cs hcs
    cases h;intro i o O' e1 e2;cases i with
    |zero=>simp at e1 e2;subst e1 e2;exact hc
    |succ i=>exact Ak hcs i o O' (by simpa using e1) (by simpa using e2)
 |[],_::_,_,h=>by simp[mV]at h
 |_::_,[],_,h=>by simp[mV]at h
theorem Al: ∀ds:List DOp,(jb ds).length=(ds.filter isA).length
 |[]=>rfl
 |o::os=>by
  simp only[jb,List.filter_cons];cases hd:o.dk<;>simp[isA,hd,Al os]
variable [eg]
section
variable {P:Program} {G:Gls} {mu:Bool} {cl:a7} {yl:a7} {ro:Option Nat} {n:Nat} {Q:Exit->Act->World->Prop}
variable {base:Nat} {U0 U:Nat->Nat} {bs0 bs:List (Option Nat)} {as0 as:List BA} {w0 w:World} {ops:Array Oper} {ds:List DOp} {V:List (Option Nat×AV)} {Ms:List Mem} {ts0:dx} {n0 nt:Nat} {a0:Act}
variable {anc:List (List Nat)} {M:Mem}
theorem di.reserve (h:di base U bs as w M) (os:List Obj):di base U (bs++List.replicate os.length none) as w {M with objs:=M.objs++os}:=by
 have hw:jD bs (bs++List.replicate os.length none):=(eB.append _ _).weak;have old: ∀(i b:Nat),(bs++List.replicate os.length none)[i]? =some (some b)->bs[i]? =some (some b):=by
  intro i b hi;rw[List.getElem?_append]at hi;split at hi
  ·exact hi
  ·rw[List.getElem?_replicate]at hi;split at hi<;>simp at hi
 refine {lo:=by simp[h.lo],la:=h.la,hb:=h.hb,d1:=fun i j b hi hj=>h.d1 i j b (old i b hi) (old j b hj),d2:=fun i b j e hi=>h.d2 i b j e (old i b hi),d3:=h.d3,ob:=fun i b hi=>h.ob i b (old i b hi),oo:=?_,ao:=fun i e r he hr=>(h.ao i e r he hr).wk hw,fr:=h.fr};intro i b o hi ho;have hi':=old i b hi;have hlt:=eD hi';rw[h.lo]at hlt;simp only[List.getElem?_append_left hlt]at ho;exact(h.oo i b o hi' ho).wk hw
theorem Gj {L:Array Bool} {N:Nat} (h:((List.range N).filter fun i=>!L.getD i false).length=0): ∀i,i<N->L.getD i false=true:=by
 intro i hi;have:=List.eq_nil_of_length_eq_zero h;rw[List.filter_eq_nil_iff]at this;have:=this i (List.mem_range.2 hi);simpa using this
theorem Gk (C:wg P G mu cl yl U0 bs0 w0 ops ds V Ms ts0 n0 nt anc)
  (hfin: ∀L k U bs as M a w,DSt base U0 bs0 as0 w0 ops ds V Ms ts0 n0 nt a0 L k U bs as M a w->(∀i,i<ops.size->L.getD i false=true)->Q .normal a w):
  ∀(fuel:Nat) (L:Array Bool) (k:Nat) (U:Nat->Nat) (bs:List (Option Nat)) (as:List BA) (M:Mem) (a:Act) (w:World),DSt base U0 bs0 as0 w0 ops ds V Ms ts0 n0 nt a0 L k U bs as M a w->
   ((List.range ops.size).filter fun i=>!L.getD i false).length<=fuel->wpAnyIn (fen ro) n P .any ops Q fuel L a w:=by
 have hpl: ∀i O,ops[i]? =some O-> ∀p∈kV O,p<i:=by
  intro i O hO p hp;have hi:i<ds.length:=by rw[C.hlen];exact(Array.getElem?_eq_some_iff.1 hO).1
  obtain⟨_,hok⟩:=C.hops i ds[i] O (List.getElem?_eq_getElem hi) hO;simp only[kj,Bool.and_eq_true,decide_eq_true_eq]at hok;exact hok.1.1.1 p hp
 have full: ∀(L:Array Bool),L.size=ops.size->Region.ready .any ops L=[]-> ∀i,i<ops.size->L.getD i false=true:=by
  intro L hsz hr i
  induction i using Nat.strongRecOn with
  |_ i ih=>
   intro hi;cases hL:L.getD i false with
   |true=>rfl
   |false=>
    have hO:ops[i]? =some ops[i]:=Array.getElem?_eq_getElem hi;have:i∈Region.ready .any ops L:=sM.2 ⟨hi,by
     have:i<L.size:=by rw[hsz];exact hi
     simpa[Array.getD,this] using hL,ops[i],hO,fun p hp=>ih p (hpl i _ hO p hp) (Nat.lt_trans (hpl i _ hO p hp) hi)⟩
    rw[hr]at this;cases this
 intro fuel
 induction fuel with
 |zero=>
  intro L k U bs as M a w h hu;have hall:=Gj (Nat.le_zero.1 hu);refine⟨?_,hfin L k U bs as M a w h hall⟩;apply List.eq_nil_iff_forall_not_mem.2;intro i hi;obtain⟨h1,h2,_⟩:=sM.1 hi;have:=hall i h1;have hs:i<L.size:=by rw[h.size];exact h1
  simp[Array.getD,hs]at h2 this;rw[h2]at this;cases this
 |succ fuel ih=>
  intro L k U bs as M a w h hu;refine⟨fun hr=>hfin L k U bs as M a w h (full L h.size hr),?_⟩;intro i hi;refine Gi C h hi ?_;intro k' U' bs' as' M' a' w' h';refine ih _ _ _ _ _ _ _ _ h' ?_;obtain⟨h1,h2,_⟩:=sM.1 hi;have hs:i<L.size:=by rw[h.size];exact h1
  have hlt:=Ah (p:=fun j=>!L.getD j false) (q:=fun j=>!(L.setIfInBounds i true).getD j false) (l:=List.range ops.size) (by
   intro j hj;rw[wd hs]at hj;split at hj
   ·cases hj
   ·exact hj) i (List.mem_range.2 h1) (by simpa[Array.getD,hs] using h2) (by rw[wd hs];simp)
  omega
theorem Gl {V:List (Option Nat×AV)}: ∀{ts:dx} {t:Nat},(∀(i j:Nat) (v v':AV),V[i]? =some (some t,v)->V[j]? =some (some t,v')->i=j)->
  (∀(j:Nat) (v:AV),V[j]? =some (some t,v)->look t (lH V ts)=v)/\((∀(j:Nat) (v:AV),V[j]?≠some (some t,v))->look t (lH V ts)=look t ts):=by
 induction V with
 |nil=>intro ts t _;exact⟨by simp,fun _=>rfl⟩
 |cons e V ih=>
  intro ts t hd;obtain⟨d,v⟩:=e;have hd': ∀(i j:Nat) (v v':AV),V[i]? =some (some t,v)->V[j]? =some (some t,v')->i=j:=by
   intro i j v v' h1 h2;have:=hd (i+1) (j+1) v v' (by simpa using h1) (by simpa using h2);omega
  cases d with
  |none=>
   simp only[lH];obtain⟨q1,q2⟩:=ih (ts:=ts) hd';refine⟨fun j v' hj=>?_,fun hn=>q2 fun j v' hj=>hn (j+1) v' (by simpa using hj)⟩;cases j with
   |zero=>simp at hj
   |succ j=>exact q1 j v' (by simpa using hj)
  |some d=>
   simp only[lH];obtain⟨q1,q2⟩:=ih (ts:=(d,v)::ts) hd';refine⟨fun j v' hj=>?_,fun hn=>?_⟩
   ·cases j with
    |zero=>
     simp at hj;obtain⟨rfl,rfl⟩:=hj;rw[q2 fun j v'' hj=>by have:=hd 0 (j+1) _ _ rfl (by simpa using hj);omega,kU,if_pos rfl]
    |succ j=>exact q1 j v' (by simpa using hj)
   ·have hne:d≠t:=by
     intro e;subst e;exact hn 0 v rfl
    rw[q2 fun j v' hj=>hn (j+1) v' (by simpa using hj),kU,if_neg hne]
end
end Go.Proofs.Ae
namespace Go.Proofs.Ae
open Go Go.RowKit
variable [eg]
section
variable {P:Program} {G:Gls} {mu:Bool} {cl:a7} {yl:a7} {ro:Option Nat} {n nt id:Nat} {Q:Exit->Act->World->Prop}
variable {base:Nat} {U:Nat->Nat} {bs:List (Option Nat)} {as:List BA} {w:World} {ops:Array Oper} {ds0 ds:List DOp} {s s':St} {a:Act}
theorem Gm (hm:P.follows .mixedOrders=true) (hcl:fw P G cl) (hyl:iL P G yl) (hc:sN P nt ops ds0=some ds) (he:lI G mu cl yl ds s=some s') (hG:fQ U w G) (hs:SOK base U bs as w s nt a)
  (hK: ∀U' bs' as' w' a',SOK base U' bs' as' w' s' nt a'->Evo base U bs as w U' bs' as' w'->Q .normal a' w'):(Code.region id ops true).wpIn (fen ro) n P Q a w:=by
 unfold sN at hc;split at hc
 ·cases hc
 ·rename_i ds1 hds
  split at hc
  ·rename_i hok
   cases hc;obtain⟨hlen,hat⟩:=Af hok;have hlen:ds.length=ops.size:=by simpa using hlen
   have hco:=Ak hds;unfold lI at he;split at he
   ·rename_i d hd
    split at he
    ·rename_i hchk
     simp only[Bool.and_eq_true]at hchk;obtain⟨hc1,hc2⟩:=hchk;split at he
     ·rename_i Mf rest hms
      cases he;have hops: ∀i o O,ds[i]? =some o->ops[i]? =some O->mT P nt ops O=some o.co/\kj (mU ops.toList []) ds i o O=true:=by
       intro i o O h1 h2;have h2':ops.toList[i]? =some O:=by simpa using h2
       have:=hat i o O h1 h2';rw[Nat.zero_add]at this;exact⟨hco i o O h1 h2',this⟩
      have hrd: ∀i o,ds[i]? =some o->v8 (0+i) o:=by
       intro i o ho t j hj;have hi:i<ops.size:=by rw[<-hlen];exact eD ho
       obtain⟨_,q⟩:=hops i o ops[i] ho (Array.getElem?_eq_getElem hi);simp only[kj,Bool.and_eq_true,decide_eq_true_eq]at q;have:=(sL q.1.1.2 t j hj).1;omega
      obtain⟨V1,m1,c1,q1,q2,q3,q4,q5,q6⟩:=F9 ds _ d hd hrd (by simp);simp only[List.nil_append]at q1;subst q1;have hMs:d.ms.reverse.length=(ds.filter isH).length+1:=by rw[q3];simp[q4]
      have hM0:d.ms.reverse[0]? =some {s.m with objs:=s.m.objs++jb ds}:=by rw[q3];simp
      have C:wg P G mu cl yl U bs w.drew ops ds d.vals d.ms.reverse s.ts s.m.objs.length nt (mU ops.toList []):=
       {hcl:=hcl,hyl:=hyl,hG:=hG.evo (jE (U:=U) (bs:=bs) (as:=as) hs.H.hb),hops:=hops,hlen:=hlen,hVlen:=q2
        hfact:=fun i o ho=>by
         obtain⟨v,e1,e2⟩:=q6 i o ho;refine⟨v,e1,?_⟩;have:=e2.fact hc1;simpa using this
        hMs:=hMs,hnew:=hc2,hanc:=rfl,hn0:=hs.H.lo.symm}
      refine wpIn_region_any hm ?_;have hres:=hs.H.drew.reserve (jb ds);have hL0: ∀j,(Array.replicate ops.size false).getD j false=false:=by
       intro j;simp only[Array.getD_eq_getD_getElem?,Array.getElem?_replicate];split<;>rfl
      have init:DSt base U bs as w.drew ops ds d.vals d.ms.reverse s.ts s.m.objs.length nt a (Array.replicate ops.size false) 0 U (bs++List.replicate (jb ds).length none) as {s.m with objs:=s.m.objs++jb ds} a w.drew:=by
       have evr:Evo base U bs as w.drew U (bs++List.replicate (jb ds).length none) as w.drew:=⟨Below.refl _ _,fun _ _=>rfl,fun _=>Nat.le_refl _,fun _ _=>rfl,eB.append _ _,eK.refl _,fun _ _=>rfl⟩
       refine {hk:=hM0,hh:=fun j _=>(by rw[hL0];simp),H:=hres,ev:=evr,r1:=fun j v dd hj=>(by rw[hL0]at hj;cases hj),r2:=fun t _=>evr.rep ((jE (base:=base) hs.H.hb).rep (hs.S t)),hole:=?_,shut:=?_,size:=by simp,sz:=hs.sz,df:=rfl}
       ·intro j o z r hi e1 e2 _;have hj:j<ops.size:=by rw[<-hlen];exact eD e1
        obtain⟨_,q⟩:=hops j o ops[j] e1 (Array.getElem?_eq_getElem hj);simp only[kj,Bool.and_eq_true]at q;have q:=q.2;simp only[oN,e2,Bool.and_eq_true,decide_eq_true_eq]at q;have hr:=q.2.1;have hA:isA o=true:=by simp[isA,e2]
        have hlt:r<(jb ds).length:=by
         rw[Al,hr];have:=we (j:=ds.length) (eD e1) e1 hA;simpa using this
        rw[<-hs.H.lo,List.getElem?_append_right (by omega),Nat.add_sub_cancel_left,List.getElem?_replicate,if_pos hlt]
       ·intro i O hi;simp only[hL0,Bool.false_eq_true]at hi
      refine Gk C ?_ ops.size _ 0 U _ as _ a w.drew init (by
       have:=(List.filter_sublist (p:=fun i=>!(Array.replicate ops.size false).getD i false) (l:=List.range ops.size)).length_le;simpa using this)
      intro L k U' bs' as' M' a' w' hst hall;have hVd: ∀(j:Nat) (v:Option Nat×AV),d.vals[j]? =some v->j<ops.size/\v.1=jc ds j:=by
       intro j v' hj;have hlt:j<ds.length:=by rw[<-q2];exact eD hj
       refine⟨by rw[<-hlen];exact hlt,?_⟩;have hoj:ds[j]? =some ds[j]:=List.getElem?_eq_getElem hlt;obtain⟨v'',e1,e2⟩:=C.hfact j _ hoj;rw[hj]at e1;cases e1;rw[e2.1];simp[jc,hoj]
      have hk:k=(ds.filter isH).length:=by
       have h1:k<d.ms.reverse.length:=eD hst.hk;rw[hMs]at h1;refine Nat.le_antisymm (by omega) (Nat.le_of_not_lt fun hlt=>?_);obtain⟨j,e1,e2,e3⟩:=qB (ds:=ds) (i:=ds.length) (c:=k) (Nat.le_refl _) (by rw[wc];exact hlt);have:=(hst.hh j e2).1 (hall j (by rw[<-hlen];exact e1));omega
      have hMf:M'=Mf:=by
       have h1:=hst.hk;have h2:d.ms.reverse[rest.length]? =some Mf:=by
        rw[hms];simp
       have h3:rest.length=k:=by
        rw[hms]at hMs;simp at hMs;omega
       rw[h3]at h2;rw[h1]at h2;cases h2;rfl
      subst hMf;have ev:=(jE (U:=U) (bs:=bs) (as:=as) hs.H.hb).trans hst.ev;refine hK U' bs' as' w' a' ⟨?_,hst.H,hst.sz,by rw[hst.df];exact hs.df.mono ev.bsl⟩ ev;intro t;have hdis: ∀(i j:Nat) (v v':AV),d.vals[i]? =some (some t,v)->d.vals[j]? =some (some t,v')->i=j:=by
       intro i j v v' h1 h2;obtain⟨e1,e2⟩:=hVd i _ h1;obtain⟨e3,e4⟩:=hVd j _ h2;simp only at e2 e4;by_cases hij:j=i
       ·exact hij.symm
       ·obtain⟨o,ho⟩: ∃o,ds[i]? =some o:=⟨_,List.getElem?_eq_getElem (by rw[hlen];exact e1)⟩
        obtain⟨_,q⟩:=hops i o ops[i] ho (Array.getElem?_eq_getElem e1);simp only[kj,Bool.and_eq_true,decide_eq_true_eq]at q;rcases q.1.2 j (by rw[hlen];exact e3) hij with q|q
        ·rw[q]at e4;cases e4
        ·exact absurd (by rw[<-e4,e2];simp[jc,ho]) q
      obtain⟨p1,p2⟩:=Gl (V:=d.vals) (ts:=s.ts) hdis;by_cases hex: ∃(j:Nat) (v:AV),d.vals[j]? =some (some t,v)
      ·obtain⟨j,v,hj⟩:=hex;simp only[p1 j v hj];exact hst.r1 j v t (hall j (hVd j _ hj).1) hj
      ·have hno: ∀(j:Nat) (v:AV),d.vals[j]?≠some (some t,v):=fun j v hj=>hex ⟨j,v,hj⟩;simp only[p2 hno];exact hst.r2 t fun j v _=>hno j v
     ·cases he
    ·cases he
   ·cases he
  ·cases hc
end
end Go.Proofs.Ae
namespace Go.Proofs.Ae
open Go Go.RowKit
def fG:dH->Bool
 | .rng ..=>false
 | .seq a b=>fG a&&fG b
 | .cond _ a b=>fG a&&fG b
 | .block _ c=>fG c
 | .loop _ c=>fG c
 |_=>true
def eG (P:Program) (nt:Nat) (rnd:Bool):Code->dH->Option dH
 | .skip,_=>some .skip
 | .label _,_=>some .skip
 | .region _ ops draw,k=>match draw with
  |false=>match qy P nt ops ops.toList with
   |some l=>some (.reg l)
   |none=>none
  |true=>match k with
   | .drg ds=>match sN P nt ops ds with
    |some l=>some (.drg l)
    |none=>none
   |_=>none
 | .seq a b,.seq a' b'=>match eG P nt rnd a a' with
  |none=>none
  |some x=>match eG P nt rnd b b' with
   |none=>none
   |some y=>some (.seq x y)
 | .cond c a b,.cond _ a' b'=>match eG P nt rnd a a' with
  |none=>none
  |some x=>match eG P nt rnd b b' with
   |none=>none
   |some y=>some (.cond (dm c) x y)
 | .block id c,.block _ c'=>match eG P nt rnd c c' with
  |none=>none
  |some x=>some (.block id x)
 | .loop c,.loop an c'=>match eG P nt rnd c c' with
  |none=>none
  |some x=>if fG x then some (.loop an x)else none
 | .rangeFunc f ps asg body,.rng _ _ a' b'=>match rnd with
  |true=>none
  |false=>match eG P nt true asg a' with
   |none=>none
   |some x=>match eG P nt true body b' with
    |none=>none
    |some y=>if fG x&&fG y&&ps.toList.all (fun p=>Nat.blt p nt)then some (.rng (dm f) ps.toList x y)else none
 | .exit id,_=>some (.exit id)
 | .ret,_=>some .ret
 | .scope c,c'=>match rnd with
  |true=>none
  |false=>eG P nt rnd c c'
 |_,_=>none
def Am:Ex->Exit
 | .normal=>.normal
 | .exit id=>.exit id
 | .ret=>.ret
variable [eg]
section
variable {P:Program} {G:Gls} {mu:Bool} {cl:a7} {yl:a7} {ro:Option Nat} {n nt N:Nat}
variable {base:Nat} {s s':St} {e:Ex}
def fy (P:Program) (G:Gls) (ro:Option Nat) (n nt:Nat) (base:Nat) (c:Code) (s:St) (e:Ex) (s':St):Prop:=
 ∀(U:Nat->Nat) (bs:List (Option Nat)) (as:List BA) (w:World) (a:Act) (Q:Exit->Act->World->Prop),fQ U w G->SOK base U bs as w s nt a->
  (∀U' bs' as' w' a',SOK base U' bs' as' w' s' nt a'->Evo base U bs as w U' bs' as' w'->Q (Am e) a' w')->c.wpIn (fen ro) n P Q a w
theorem Gn {x y:Code} {s1:St} (h1:fy P G ro n nt base x s .normal s1) (h2:fy P G ro n nt base y s1 e s'):fy P G ro n nt base (.seq x y) s e s':=by
 intro U bs as w a Q hG hs hK;refine wpIn_seq (h1 U bs as w a _ hG hs ?_);intro U1 bs1 as1 w1 a1 k1 k2;refine h2 U1 bs1 as1 w1 a1 Q (hG.evo k2) k1 ?_;intro U2 bs2 as2 w2 a2 q1 q2;exact hK _ _ _ _ _ q1 (k2.trans q2)
theorem Gp {x y:Code} (h1:fy P G ro n nt base x s e s') (he:e≠ .normal):fy P G ro n nt base (.seq x y) s e s':=by
 intro U bs as w a Q hG hs hK;refine wpIn_seq (h1 U bs as w a _ hG hs ?_);intro U1 bs1 as1 w1 a1 k1 k2;cases e with
 |normal=>exact absurd rfl he
 |exit id=>exact hK _ _ _ _ _ k1 k2
 |ret=>exact hK _ _ _ _ _ k1 k2
theorem An {x y:Code} {c:Operand} {b:Bool} (hb:(dm c).val G s.ts=.bool b) (h:fy P G ro n nt base (if b then x else y) s e s'):fy P G ro n nt base (.cond c x y) s e s':=by
 intro U bs as w a Q hG hs hK;have hc:=vG hG hs.S c;rw[hb]at hc;generalize hq:a.eval c=q at hc;cases hc;exact wpIn_cond hq (h U bs as w a Q hG hs hK)
theorem wh {x:Code} {id:Nat} {e1:Ex} (h:fy P G ro n nt base x s e1 s') (he:e=(match e1 with| .exit i=>if i=id then .normal else .exit i|r=>r)):fy P G ro n nt base (.block id x) s e s':=by
 intro U bs as w a Q hG hs hK;refine wpIn_block (h U bs as w a _ hG hs ?_);intro U1 bs1 as1 w1 a1 k1 k2;have:=hK _ _ _ _ _ k1 k2;subst he;cases e1 with
 |normal=>exact this
 |exit i=>
  simp only[Am,Exit.inBlock]at this⊢;split
  ·rename_i hi;rw[if_pos hi]at this;exact this
  ·rename_i hi;rw[if_neg hi]at this;exact this
 |ret=>exact this
theorem Gq {x:Code} (h:fy P G none n nt base x s e s'):fy P G none n nt base (.scope x) s e s':=by
 intro U bs as w a Q hG hs hK;refine wpIn_wide.2 (wp_scope_straight (wpIn_wide (n:=n).1 (h U bs as w a _ hG hs ?_)));intro U1 bs1 as1 w1 a1 k1 k2;have:=hK _ _ _ _ _ k1 k2;cases e<;>exact this
end
end Go.Proofs.Ae
namespace Go.Proofs.Ae
open Go Go.RowKit
variable [eg]
section
variable {base nt:Nat} {U:Nat->Nat} {bs:List (Option Nat)} {as:List BA} {w:World} {s:St} {a:Act} {M:Mem}
def lS:BA:=⟨0,0,0,0,true⟩
theorem di.claim (h:di base U bs as w M):di base U bs (as++[lS]) w {M with arrs:=M.arrs++[.app 0 0 0]}:=
 h.addArr lS _ ⟨rfl,.inl ⟨rfl,rfl⟩⟩ (fun h=>by cases h) (fun h=>by cases h)
theorem Ao {v:Value} (h:Rep U w bs as (.slc .full []) v) (n:Nat) (hn:n=as.length):Rep U w bs (as++[lS]) (.slc (.own n) []) v:=by
 have hg:(as++[lS])[n]? =some lS:=by rw[hn];simp
 cases h with
 |slcN hs=>exact .slcN ⟨_,hg,Nat.le_refl _,fun _=>.inr ⟨rfl,none,rfl⟩⟩
 |slc hf hL hr hz hs hcap=>
  obtain⟨p',e⟩:=hs;simp at e;obtain⟨rfl,rfl⟩:=e;exact .slc hf hL hr hz ⟨_,hg,Nat.le_refl _,fun _=>.inr ⟨rfl,_,rfl⟩⟩ hcap
theorem Gs (h:SOK base U bs as w s nt a) (c:Nat×Option Nat): ∃as',SOK base U bs as' w (mL s c) nt a/\Evo base U bs as w U bs as' w:=by
 have stay: ∃as',SOK base U bs as' w s nt a/\Evo base U bs as w U bs as' w:=⟨as,h,Evo.refl _ _ _ _ _⟩
 have ev:Evo base U bs as w U bs (as++[lS]) w:=mN _;obtain⟨t,c⟩:=c;cases c with
 |none=>
  simp only[mL];split
  ·rename_i hl
   refine⟨as++[lS],⟨?_,h.H.claim,h.sz,h.df⟩,ev⟩;intro i;simp only[kU];split
   ·rename_i e
    subst e;have:=h.S t;rw[hl]at this;exact Ao this _ h.H.la.symm
   ·exact ev.rep (h.S i)
  ·exact stay
 |some c=>
  simp only[mL];split
  ·rename_i id off hl
   split
   ·rename_i cs ho
    split
    ·rename_i hcell
     have hp:=h.S t;rw[hl]at hp;generalize a.tmps.getD t undef=q at hp;cases hp with
     |ptr hb=>
      rename_i b
      refine⟨as++[lS],⟨fun i=>ev.rep (h.S i),?_,h.sz,h.df⟩,ev⟩;have hc:=h.H.claim;obtain⟨vs,ty,h1,h2⟩:=h.H.oo id b _ hb ho;refine {lo:=by simp[h.H.lo],la:=hc.la,hb:=hc.hb,d1:=hc.d1,d2:=hc.d2,d3:=hc.d3,ob:=hc.ob,oo:=?_,ao:=hc.ao,fr:=hc.fr};intro i b' o hi ho';simp only[fX]at ho';split at ho'
      ·rename_i e
       subst e;rw[hb]at hi;cases hi;split at ho'
       ·cases ho';refine⟨vs,ty,h1,?_⟩;obtain⟨v,hv1,hv2,hv3⟩:=h2.at hcell;have hx:=Ao hv2 s.m.arrs.length h.H.la.symm;have hlt:=eD hcell;have e1:cs.set (off+c) (.slc (.own s.m.arrs.length) [])=setAt cs (off+c) [.slc (.own s.m.arrs.length) []]:=by
         rw[List.set_eq_take_append_cons_drop,if_pos hlt];simp[setAt]
        have e2:vs=vs.take (off+c)++[v]++vs.drop (off+c+1):=by
         have hlt2:=eD hv1;have:=List.getElem_eq_iff (l:=vs) (h:=hlt2) |>.2 hv1
         conv=>lhs;rw[<-List.take_append_drop (off+c) vs]
         rw[List.drop_eq_getElem_cons hlt2,this];simp
        rw[e1,e2];exact(ev.repL h2).setAt (.cons hx hv3 .nil) (off+c)
       ·cases ho'
      ·exact hc.oo i b' o hi ho'
    ·exact stay
   ·exact stay
  ·exact stay
theorem Ap {mu:Bool}: ∀(cs:List (Nat×Option Nat)) {s:St} {as:List BA},SOK base U bs as w s nt a-> ∃as',SOK base U bs as' w (fK mu cs s) nt a/\Evo base U bs as w U bs as' w
 |[],s,as,h=>⟨as,h,Evo.refl _ _ _ _ _⟩
 |c::cs,s,as,h=>by
  simp only[fK];cases mu with
  |true=>exact⟨as,h,Evo.refl _ _ _ _ _⟩
  |false=>
   obtain⟨as1,h1,e1⟩:=Gs h c;obtain⟨as2,h2,e2⟩:=Ap (mu:=false) cs h1;exact⟨as2,h2,e1.trans e2⟩
end
end Go.Proofs.Ae
namespace Go.Proofs.Ae
open Go Go.RowKit
section
variable {U:Nat->Nat} {w:World} {k m:Nat}
theorem Aq {as:List BA} {n:Nat} {v:Value} {a:Nat} (h:iu as n v (.own a)) (ha:a<m):iu (as.take m) n v (.own a):=by
 obtain⟨e,h1,h2⟩:=h;exact⟨e,by rw[List.getElem?_take,if_pos ha];exact h1,h2⟩
mutual
theorem Rep.scr: ∀{bs:List (Option Nat)} {as:List BA} {a:AV} {v:Value},Rep U w bs as a v->Rep U w (bs.take k) (as.take m) (scr k m a) v
 |_,_,_,_,.undef=>.undef
 |_,_,_,_,.int=>.int
 |_,_,_,_,.bool=>.bool
 |_,_,_,_,.str=>.str
 |_,_,_,_,.ptr (id:=id) h=>by
  simp only[Ae.scr];split
  ·rename_i hlt;exact .ptr (by rw[List.getElem?_take,if_pos hlt];exact h)
  ·exact .undef
 |_,_,_,_,.nilp=>.nilp
 |_,_,_,_,.nilm=>.nilm
 |_,_,_,_,.eptr hc h hr=>.eptr hc h hr
 |_,_,_,_,.slcN (sp:=sp) h=>by
  cases sp with
  |shared=>exact .slcN trivial
  |full=>exact .slcN h
  |own a=>
   simp only[Ae.scr];split
   ·rename_i hlt;exact .slcN (Aq h hlt)
   ·exact .slcN trivial
 |_,_,_,_,.slc (sp:=sp) hf h hr hz hs hc=>by
  cases sp with
  |shared=>exact .slc hf h hr hz trivial hc
  |full=>exact .slc hf h hr hz hs hc
  |own a=>
   simp only[Ae.scr];split
   ·rename_i hlt;exact .slc hf h hr hz (Aq hs hlt) hc
   ·exact .slc hf h hr hz trivial hc
 |_,_,_,_,.osl (a:=a) hh hg h h1=>by
  simp only[Ae.scr];split
  ·rename_i hlt;exact .osl (by rw[List.getElem?_take,if_pos hlt];exact hh) hg h h1
  ·exact .undef
 |_,_,_,_,.apt (a:=a) hh hg h h1=>by
  simp only[Ae.scr];split
  ·rename_i hlt;exact .apt (by rw[List.getElem?_take,if_pos hlt];exact hh) hg h h1
  ·exact .undef
 |_,_,_,_,.map (id:=id) h=>by
  simp only[Ae.scr];split
  ·rename_i hlt;exact .map (by rw[List.getElem?_take,if_pos hlt];exact h)
  ·exact .undef
 |_,_,_,_,.fn hf hc=>.fn (dU.scr hf) (dU.scr hc)
 |_,_,_,_,.yld (id:=id) h=>by
  simp only[Ae.scr];split
  ·rename_i hlt;exact .yld (by rw[List.getElem?_take,if_pos hlt];exact h)
  ·exact .undef
 |_,_,_,_,.iface h=>.iface (Rep.scr h)
 |_,_,_,_,.nili=>.nili
 |_,_,_,_,.agg h=>.agg (dt.scr h)
 |_,_,_,_,.tup h=>.tup (dU.scr h)
theorem dt.scr: ∀{bs:List (Option Nat)} {as:List BA} {a:List AV} {v:List Value},dt U w bs as a v->dt U w (bs.take k) (as.take m) (gj k m a) v
 |_,_,_,_,.nil=>.nil
 |_,_,_,_,.cons h h1 t=>.cons (Rep.scr h) h1 (dt.scr t)
theorem dU.scr: ∀{bs:List (Option Nat)} {as:List BA} {a:List AV} {v:List Value},dU U w bs as a v->dU U w (bs.take k) (as.take m) (gj k m a) v
 |_,_,_,_,.nil=>.nil
 |_,_,_,_,.cons h t=>.cons (Rep.scr h) (dU.scr t)
end
theorem Ar (t:Nat): ∀ts:dx,look t (rS k m ts)=scr k m (look t ts)
 |[]=>rfl
 |(i,x)::ts=>by
  simp only[rS,look];cases Nat.beq i t
  ·exact Ar t ts
  ·rfl
end
variable [eg]
section
variable {base nt:Nat} {U:Nat->Nat} {bs:List (Option Nat)} {as:List BA} {w:World} {s:St} {a:Act} {M:Mem} {k m:Nat}
theorem fW.scr: ∀{es:List (AV×AV)} {ents:List MapEntry},fW U w bs as es ents->fW U w (bs.take k) (as.take m) (es.map fun e=>(e.1,scr k m e.2)) ents
 |_,_,.nil=>.nil
 |_,_,.cons hk hv t=>.cons hk hv.scr t.scr
theorem Gu {x:AV} (h:scr k m x=.nilp):x=.nilp:=by
 unfold scr at h;split at h
 all_goals first|exact h|(split at h<;>cases h)|cases h
theorem Gx {x:AV} (h:scr k m x=.slc .full []):x=.slc .full []:=by
 unfold scr at h;split at h
 all_goals first|exact h|(split at h<;>cases h)|cases h
theorem Gy: ∀{cs:List AV},gj k m cs=[.nilp,.slc .full []]->cs=[.nilp,.slc .full []]
 |[],h=>by simp[gj]at h
 |[x],h=>by simp[gj]at h
 |[x,y],h=>by
  simp only[gj,List.cons.injEq,and_true]at h;rw[Gu h.1,Gx h.2]
 |x::y::z::r,h=>by simp[gj]at h
theorem hD.scr {b:Nat} {o:Obj} (h:hD U w bs as b o):hD U w (bs.take k) (as.take m) b (vA k m o):=by
 cases o with
 |cells cs=>obtain⟨vs,ty,h1,h2⟩:=h;exact⟨vs,ty,h1,h2.scr⟩
 |map es=>obtain⟨ents,ck,h1,h2⟩:=h;exact⟨ents,ck,h1,h2.scr⟩
 |loop st pend ts ps asg body=>
  obtain⟨r,h1,h2,h3,h4,h5⟩:=h;exact⟨r,h1,h2,h3,fun t=>by rw[Ar];exact(h4 t).scr,h5⟩
 |bld t cs=>
  obtain⟨vs,h1,h2,h3⟩:=h;exact⟨vs,h1,h2.scr,fun e=>h3 (Gy e)⟩
 |mark=>exact h
 |dead=>trivial
theorem fj.scr {e:BA} {r:Arr} (h:fj base U w bs as e r):fj base U w (bs.take k) (as.take m) e (vB k m r):=by
 cases r with
 |app n ty sz=>exact h
 |wr g ty l cs=>
  obtain⟨h0,h⟩:=h;refine⟨h0,?_⟩;rcases h with⟨h1,rfl⟩|⟨hn,h1,h2,h3,h4,h5,h6,cur,vs,h7,h8,h9,h10⟩
  ·exact .inl ⟨h1,rfl⟩
  ·have hl: ∀cs:List AV,(gj k m cs).length=cs.length:=by
    intro cs
    induction cs with
    |nil=>rfl
    |cons c cs ih=>simp[gj,ih]
   exact .inr ⟨hn,h1,h2,h3,by rw[hl];exact h4,h5,h6,cur,vs,h7,h8,by rw[hl];exact h9,h10.scr⟩
theorem di.scr (h:di base U bs as w M):di base U (bs.take k) (as.take m) w (mH k m M):=by
 have gb: ∀{i:Nat} {x:Option Nat},(bs.take k)[i]? =some x->bs[i]? =some x:=by
  intro i x hi;rw[List.getElem?_take]at hi;split at hi
  ·exact hi
  ·cases hi
 have ga: ∀{i:Nat} {x:BA},(as.take m)[i]? =some x->as[i]? =some x:=by
  intro i x hi;rw[List.getElem?_take]at hi;split at hi
  ·exact hi
  ·cases hi
 have d1: ∀(i j b:Nat),(bs.take k)[i]? =some (some b)->(bs.take k)[j]? =some (some b)->i=j:=fun i j b hi hj=>h.d1 i j b (gb hi) (gb hj);have d2: ∀(i b j:Nat) (e:BA),(bs.take k)[i]? =some (some b)->(as.take m)[j]? =some e->e.nil=false->e.b≠b:=fun i b j e hi he=>h.d2 i b j e (gb hi) (ga he);have d3: ∀(i j:Nat) (e e':BA),(as.take m)[i]? =some e->(as.take m)[j]? =some e'->e.nil=false->e'.nil=false->e.b=e'.b->i=j:=fun i j e e' hi hj=>h.d3 i j e e' (ga hi) (ga hj);refine⟨by simp[mH,h.lo],by simp[mH,h.la],h.hb,d1,d2,d3,fun i b hi=>h.ob i b (gb hi),?_,?_,h.fr⟩
 ·intro i b o hi ho;simp only[mH,List.getElem?_map,Option.map_eq_some_iff]at ho;obtain⟨o',ho',rfl⟩:=ho;rw[List.getElem?_take]at ho';split at ho'
  ·exact(h.oo i b o' (gb hi) ho').scr
  ·cases ho'
 ·intro i e r he hr;simp only[mH,List.getElem?_map,Option.map_eq_some_iff]at hr;obtain⟨r',hr',rfl⟩:=hr;rw[List.getElem?_take]at hr';split at hr'
  ·exact(h.ao i e r' (ga he) hr').scr
  ·cases hr'
theorem Au {t:Array Value} {ts:dx} (h:gl U w bs as ts t): ∀l:List Nat,gl U w (bs.take k) (as.take m) (keep k m ts l) t
 |[],_=>.undef
 |i::l,q=>by
  simp only[keep,kU];split
  ·rename_i e
   subst e;exact(h i).scr
  ·exact Au h l q
theorem Av {ts:dx} {tm:Array Value} (h:gl U w bs as ts tm): ∀l:List Nat,gl U w bs as (fP ts l) tm
 |[],i=>by simp only[fP,look];exact .undef
 |t::l,i=>by
  simp only[fP,look];split
  ·rename_i e
   have:=Nat.eq_of_beq_eq_true e;subst this;exact h t
  ·exact Av h l i
theorem Gz {mu:Bool} {an:Ann} (h:SOK base U bs as w s nt a) (hd:iw (bs.take k) s.mks a.defers):
  ∃bs' as',SOK base U bs' as' w (eI mu an k m s) nt a/\(bs'=bs/\as'=as\/bs'=bs.take k/\as'=as.take m):=by
 unfold eI;cases mu with
 |true=>exact⟨bs,as,h,.inl ⟨rfl,rfl⟩⟩
 |false=>
 cases hq:an.kp with
 |true=>exact⟨bs,as,⟨Av h.S _,h.H,h.sz,h.df⟩,.inl ⟨rfl,rfl⟩⟩
 |false=>exact⟨bs.take k,as.take m,⟨Au h.S _,h.H.scr,h.sz,hd⟩,.inr ⟨rfl,rfl⟩⟩
end
end Go.Proofs.Ae
namespace Go.Proofs.Ae
open Go Go.RowKit
section
variable {G:Gls} {mu:Bool} {cl:a7} {yl:a7} {N:Nat}
theorem wi: ∀{l:List CO} {s s':St},gZ G mu cl yl l s=some s'->s'.mks=s.mks
 |[],s,s',h=>by simp[gZ]at h;rw[h]
 |o::l,s,s',h=>by
  simp only[gZ]at h;split at h
  ·split at h
   ·have q:=wi h;exact q
   ·cases h
  ·have q:=wi h;exact q
  ·cases h
theorem GA {ds:List DOp} {s s':St} (h:lI G mu cl yl ds s=some s'):s'.mks=s.mks:=by
 unfold lI at h
 (repeat' split at h)<;>first|cases h;rfl|cases h
theorem sO (an:Ann) (k m:Nat) (s:St):(eI mu an k m s).mks=s.mks:=by
 unfold eI;split;rfl;split<;>rfl
theorem GB (s:St) (c:Nat×Option Nat):(mL s c).mks=s.mks:=by
 unfold mL
 (repeat' split)<;>rfl
theorem sP: ∀(cs:List (Nat×Option Nat)) (s:St),(fK mu cs s).mks=s.mks
 |[],s=>rfl
 |c::cs,s=>by
  simp only[fK];split
  ·rfl
  ·rw[sP cs,GB]
theorem Aw {step:St->Option (Ex×St)} {an:Ann} {k m:Nat} (hs: ∀s e s',step s=some (e,s')->s'.mks=s.mks): ∀{n:Nat} {s s':St} {e:Ex},dh mu step an k m n s=some (e,s')->s'.mks=s.mks
 |0,_,_,_,h=>by simp[dh]at h
 |n+1,s,s',e,h=>by
  simp only[dh]at h;split at h
  ·rename_i s1 h1
   rw[Aw hs h,sO,hs _ _ _ h1]
  ·exact hs _ _ _ h
theorem wj: ∀{c:dH} {s s':St} {e:Ex},fG c=true->a8 G mu cl yl N c s=some (e,s')->s'.mks=s.mks:=by
 intro c
 induction c with
 |skip=>intro s s' e _ h;simp[a8]at h;rw[h.2]
 |reg ops=>
  intro s s' e _ h;simp only[a8]at h;split at h
  ·rename_i h1;cases h;exact wi h1
  ·cases h
 |drg ops=>
  intro s s' e _ h;simp only[a8]at h;split at h
  ·rename_i h1;cases h;exact GA h1
  ·cases h
 |seq a b iha ihb=>
  intro s s' e hn h;simp only[fG,Bool.and_eq_true]at hn;simp only[a8]at h;split at h
  ·rename_i s1 h1
   rw[ihb hn.2 h,iha hn.1 h1]
  ·exact iha hn.1 h
 |cond x a b iha ihb=>
  intro s s' e hn h;simp only[fG,Bool.and_eq_true]at hn;simp only[a8]at h;split at h
  ·exact iha hn.1 h
  ·exact ihb hn.2 h
  ·cases h
 |block id c ih=>
  intro s s' e hn h;simp only[fG]at hn;simp only[a8]at h;split at h
  ·rename_i i s1 h1
   split at h
   ·cases h;exact ih hn h1
   ·cases h;exact ih hn h1
  ·exact ih hn h
 |loop an c ih=>
  intro s s' e hn h;simp only[fG]at hn;simp only[a8]at h;rw[Aw (fun s e s'=>ih hn) h,sO,sP]
 |rng x ps a b _ _=>intro s s' e hn h;simp[fG]at hn
 |exit id=>intro s s' e _ h;simp[a8]at h;rw[h.2]
 |ret=>intro s s' e _ h;simp[a8]at h;rw[h.2]
end
theorem eV {p:Nat->Prop} (h: ∃j,p j): ∃j,p j/\ ∀i,p i->j<=i:=by
 obtain⟨j,hj⟩:=h
 induction j using Nat.strongRecOn with
 |_ j ih=>
  by_cases h: ∃i,i<j/\p i
  ·obtain⟨i,hi,hp⟩:=h;exact ih i hi hp
  ·exact⟨j,hj,fun i hi=>Nat.le_of_not_lt fun hlt=>h ⟨i,hlt,hi⟩⟩
theorem iw.lt {bs:List (Option Nat)}: ∀{l:List Nat} {ds:List Deferred},iw bs l ds-> ∀id∈l,id<bs.length
 |_,_,.nil,_,h=>by simp at h
 |_,_,.cons h t,i,hi=>by
  rcases List.mem_cons.1 hi with rfl|hi
  ·exact(List.getElem?_eq_some_iff.1 h).1
  ·exact t.lt i hi
theorem iw.take {bs:List (Option Nat)} {k:Nat}: ∀{l:List Nat} {ds:List Deferred},iw bs l ds->(∀id∈l,id<k)->iw (bs.take k) l ds
 |_,_,.nil,_=>.nil
 |_,_,.cons h t,hk=>.cons (by rw[List.getElem?_take,if_pos (hk _ (List.mem_cons_self ..))];exact h) (t.take fun i hi=>hk i (List.mem_cons_of_mem _ hi))
variable [eg]
section
variable {P:Program} {G:Gls} {mu:Bool} {cl:a7} {yl:a7} {ro:Option Nat} {n nt N:Nat}
variable {base:Nat} {s s':St} {e:Ex} {U0 U:Nat->Nat} {bs0 bs:List (Option Nat)} {as0 as:List BA} {w0 w:World}
theorem Evo.take (h:Evo base U0 bs0 as0 w0 U bs as w) {k m:Nat} (hk:bs0.length<=k) (hm:as0.length<=m):Evo base U0 bs0 as0 w0 U (bs.take k) (as.take m) w:=
 ⟨h.below,h.old,h.up,h.cell,fun i b hi=>by
  rw[List.getElem?_take,if_pos (by have:=eD hi;omega)];exact h.bsl i b hi,
  fun i e0 hi=>by
  obtain⟨e',h1,h2⟩:=h.asl i e0 hi;exact⟨e',by rw[List.getElem?_take,if_pos (by have:=eD hi;omega)];exact h1,h2⟩,h.csz⟩
theorem GC {x:Code} {step:St->Option (Ex×St)} {an:Ann} (hm: ∀s e s',step s=some (e,s')->s'.mks=s.mks) (hb: ∀s e s',step s=some (e,s')->fy P G ro n nt base x s e s')
  (h:dh mu step an (fK mu an.claims s).m.objs.length (fK mu an.claims s).m.arrs.length N (eI mu an (fK mu an.claims s).m.objs.length (fK mu an.claims s).m.arrs.length (fK mu an.claims s))=some (e,s')) (hmk':s'.mks=s.mks):
  fy P G ro n nt base (.loop x) s e s':=by
 intro U bs as w a Q hG hs hK;obtain⟨as0,h0,ev0⟩:=Ap (mu:=mu) an.claims hs;generalize hk:(fK mu an.claims s).m.objs.length=k at h;generalize hmm:(fK mu an.claims s).m.arrs.length=m at h;have hbk:bs.length=k:=by rw[h0.H.lo,hk]
 have ham:as0.length=m:=by rw[h0.H.la,hmm]
 have hids: ∀id∈s.mks,id<k:=fun id hi=>by rw[<-hbk];exact hs.df.lt id hi
 have tidyOK: ∀(s1:St) (U1:Nat->Nat) (bs1:List (Option Nat)) (as1:List BA) (w1:World) (a1:Act),SOK base U1 bs1 as1 w1 s1 nt a1->s1.mks=s.mks->Evo base U bs as0 w U1 bs1 as1 w1->
   ∃bs2 as2,SOK base U1 bs2 as2 w1 (eI mu an k m s1) nt a1/\Evo base U bs as0 w U1 bs2 as2 w1:=by
  intro s1 U1 bs1 as1 w1 a1 h1 hmk ev1;obtain⟨bs2,as2,q1,q2⟩:=Gz (mu:=mu) (an:=an) (k:=k) (m:=m) h1 (h1.df.take (by rw[hmk];exact hids));rcases q2 with⟨rfl,rfl⟩|⟨rfl,rfl⟩
  ·exact⟨_,_,q1,ev1⟩
  ·exact⟨_,_,q1,ev1.take (by omega) (by omega)⟩
 let J:Nat->Act->World->Prop:=fun j a1 w1=> ∃(s1:St) (U1:Nat->Nat) (bs1:List (Option Nat)) (as1:List BA),dh mu step an k m j s1=some (e,s')/\s1.mks=s.mks/\SOK base U1 bs1 as1 w1 s1 nt a1/\Evo base U bs as0 w U1 bs1 as1 w1
 classical
 let μ:Act->World->Nat:=fun a1 w1=>if hj: ∃j,J j a1 w1 then(eV hj).choose else 0
 refine wpIn_loop (fun a1 w1=> ∃j,J j a1 w1) μ ?_ ?_
 ·obtain⟨bs2,as2,q1,q2⟩:=tidyOK _ U bs as0 w a h0 (sP _ _) (Evo.refl _ _ _ _ _);exact⟨N,_,U,bs2,as2,h,by rw[sO,sP],q1,q2⟩
 ·intro a1 w1 hj;have hspec:=(eV hj).choose_spec.1;have hμ:μ a1 w1=(eV hj).choose:=dif_pos hj;generalize hj0:(eV hj).choose=j0 at hspec;obtain⟨s1,U1,bs1,as1,hit,hmk,hs1,ev1⟩:=hspec;cases j0 with
  |zero=>simp[dh]at hit
  |succ j=>
   simp only[dh]at hit;split at hit
   ·rename_i s2 hst
    refine hb _ _ _ hst U1 bs1 as1 w1 a1 _ (hG.evo (ev0.trans ev1)) hs1 ?_;intro U2 bs2 as2 w2 a2 k1 k2;obtain⟨bs3,as3,q1,q2⟩:=tidyOK s2 U2 bs2 as2 w2 a2 k1 (by rw[hm _ _ _ hst,hmk]) (ev1.trans k2);have hJ:J j a2 w2:=⟨_,U2,bs3,as3,hit,by rw[sO,hm _ _ _ hst,hmk],q1,q2⟩
    have hj2: ∃j,J j a2 w2:=⟨j,hJ⟩
    refine⟨hj2,?_⟩;have e1:μ a2 w2=(eV hj2).choose:=dif_pos hj2;have:=(eV hj2).choose_spec.2 j hJ;rw[hμ,hj0,e1];omega
   ·rename_i hne
    refine hb _ _ _ hit U1 bs1 as1 w1 a1 _ (hG.evo (ev0.trans ev1)) hs1 ?_;intro U2 bs2 as2 w2 a2 k1 k2;have:=hK U2 bs2 as2 w2 a2 k1 (ev0.trans (ev1.trans k2));cases e with
    |normal=>exact absurd hit (hne _)
    |exit id=>exact this
    |ret=>exact this
end
end Go.Proofs.Ae
namespace Go.Proofs.Ae
open Go Go.RowKit
variable [eg]
section
variable {P:Program} {G:Gls} {mu:Bool} {cl:a7} {yl:a7} {ro:Option Nat} {n nt N:Nat}
variable {base:Nat} {s s':St} {e:Ex}
theorem GD {ops:Array Oper} {l:List CO} {id:Nat} (hcl:fw P G cl) (hyl:iL P G yl) (hc:qy P nt ops ops.toList=some l) (h:gZ G mu cl yl l s=some s'):
  fy P G ro n nt base (.region id ops false) s .normal s':=by
 intro U bs as w a Q hG hs hK;refine wpIn_region ?_;rw[List.range_eq_range'];have:=F5 (ro:=ro) (n:=n) (Q:=Q) hcl hyl ops.toList 0 l s s' U bs as w a (by simp) hc h hG hs hK;simpa using this
theorem GF {ops:Array Oper} {ds0 ds:List DOp} {id:Nat} (hm:P.follows .mixedOrders=true) (hcl:fw P G cl) (hyl:iL P G yl) (hc:sN P nt ops ds0=some ds) (h:lI G mu cl yl ds s=some s'):
  fy P G ro n nt base (.region id ops true) s .normal s':=by
 intro U bs as w a Q hG hs hK;exact Gm hm hcl hyl hc h hG hs hK
theorem GH:fy P G ro n nt base .skip s .normal s:=fun U bs as w a Q hG hs hK=>wpIn_skip (hK _ _ _ _ _ hs (Evo.refl _ _ _ _ _))
theorem GI {l:Nat}:fy P G ro n nt base (.label l) s .normal s:=fun U bs as w a Q hG hs hK=>wpIn_label (hK _ _ _ _ _ hs (Evo.refl _ _ _ _ _))
theorem GJ {id:Nat}:fy P G ro n nt base (.exit id) s (.exit id) s:=fun U bs as w a Q hG hs hK=>wpIn_exit (hK _ _ _ _ _ hs (Evo.refl _ _ _ _ _))
theorem GK:fy P G ro n nt base .ret s .ret s:=fun U bs as w a Q hG hs hK=>wpIn_ret (hK _ _ _ _ _ hs (Evo.refl _ _ _ _ _))
end
end Go.Proofs.Ae
namespace Go.Proofs.Ae
open Go Go.RowKit
variable [eg]
section
variable {P:Program} {G:Gls} {mu:Bool} {cl:a7} {yl:a7} {n nt N base:Nat}
theorem Ax (hm:P.follows .mixedOrders=true) (hcl:fw P G cl) (hyl:iL P G yl)
  (hrng: ∀(f:Operand) (ps:Array Nat) (asg body:Code) (a' b' x y:dH) (s s':St) (e:Ex),eG P nt true asg a'=some x->eG P nt true body b'=some y->fG x=true->fG y=true->(∀p∈ps.toList,p<nt)->
   a8 G mu cl yl N (.rng (dm f) ps.toList x y) s=some (e,s')->fy P G none n nt base (.rangeFunc f ps asg body) s e s'):
  ∀(c:Code) (ro:Option Nat) (rnd:Bool) (k cc:dH) (s s':St) (e:Ex),eG P nt rnd c k=some cc->(rnd=false->ro=none)->a8 G mu cl yl N cc s=some (e,s')->fy P G ro n nt base c s e s':=by
 intro c
 induction c with
 |skip=>intro ro rnd k cc s s' e hc _ h;simp[eG]at hc;subst hc;simp[a8]at h;obtain⟨rfl,rfl⟩:=h;exact GH
 |label l=>intro ro rnd k cc s s' e hc _ h;simp[eG]at hc;subst hc;simp[a8]at h;obtain⟨rfl,rfl⟩:=h;exact GI
 |exit id=>intro ro rnd k cc s s' e hc _ h;simp[eG]at hc;subst hc;simp[a8]at h;obtain⟨rfl,rfl⟩:=h;exact GJ
 |ret=>intro ro rnd k cc s s' e hc _ h;simp[eG]at hc;subst hc;simp[a8]at h;obtain⟨rfl,rfl⟩:=h;exact GK
 |goto l=>intro ro rnd k cc s s' e hc;simp[eG]at hc
 |refuse w=>intro ro rnd k cc s s' e hc;simp[eG]at hc
 |seq a b iha ihb=>
  intro ro rnd k cc s s' e hc hr h;cases k<;>simp only[eG,reduceCtorEq]at hc;split at hc
  ·cases hc
  ·rename_i x hx
   split at hc
   ·cases hc
   ·rename_i y hy
    cases hc;simp only[a8]at h;split at h
    ·rename_i s1 h1
     exact Gn (iha ro rnd _ _ _ _ _ hx hr h1) (ihb ro rnd _ _ _ _ _ hy hr h)
    ·rename_i hne
     exact Gp (iha ro rnd _ _ _ _ _ hx hr h) (by rintro rfl;exact hne _ h)
 |cond c a b iha ihb=>
  intro ro rnd k cc s s' e hc hr h;cases k<;>simp only[eG,reduceCtorEq]at hc;split at hc
  ·cases hc
  ·rename_i x hx
   split at hc
   ·cases hc
   ·rename_i y hy
    cases hc;simp only[a8]at h;split at h
    ·rename_i hb;exact An hb (iha ro rnd _ _ _ _ _ hx hr h)
    ·rename_i hb;exact An hb (ihb ro rnd _ _ _ _ _ hy hr h)
    ·cases h
 |block id c ih=>
  intro ro rnd k cc s s' e hc hr h;cases k<;>simp only[eG,reduceCtorEq]at hc;split at hc
  ·cases hc
  ·rename_i x hx
   cases hc;simp only[a8]at h;split at h
   ·rename_i i s1 h1
    split at h
    ·rename_i hi;cases h;exact wh (ih ro rnd _ _ _ _ _ hx hr h1) (by simp[hi])
    ·rename_i hi;cases h;exact wh (ih ro rnd _ _ _ _ _ hx hr h1) (by simp[hi])
   ·rename_i hne
    refine wh (ih ro rnd _ _ _ _ _ hx hr h) ?_;cases e with
    |exit i=>exact absurd h (hne i _)
    |normal=>rfl
    |ret=>rfl
 |region id ops draw=>
  intro ro rnd k cc s s' e hc hr h;simp only[eG]at hc;split at hc
  ·split at hc
   ·rename_i l hl
    cases hc;simp only[a8]at h;split at h
    ·rename_i h1;cases h;exact GD hcl hyl hl h1
    ·cases h
   ·cases hc
  ·split at hc
   ·split at hc
    ·rename_i l hl
     cases hc;simp only[a8]at h;split at h
     ·rename_i h1;cases h;exact GF hm hcl hyl hl h1
     ·cases h
    ·cases hc
   ·cases hc
 |scope c ih=>
  intro ro rnd k cc s s' e hc hr h;simp only[eG]at hc;split at hc
  ·cases hc
  ·obtain rfl:=hr rfl;exact Gq (ih none false _ _ _ _ _ hc (fun _=>rfl) h)
 |loop c ih=>
  intro ro rnd k cc s s' e hc hr h;cases k<;>simp only[eG,reduceCtorEq]at hc;split at hc
  ·cases hc
  ·rename_i x hx
   split at hc
   ·rename_i hn
    cases hc;have hmk:=wj (by simpa[fG] using hn) h;simp only[a8]at h;exact GC (fun s e s' h=>wj hn h) (fun s e s' h=>ih ro rnd _ _ _ _ _ hx hr h) h hmk
   ·cases hc
 |rangeFunc f ps asg body iha ihb=>
  intro ro rnd k cc s s' e hc hr h;cases k<;>simp only[eG,reduceCtorEq]at hc;split at hc
  ·cases hc
  ·obtain rfl:=hr rfl;split at hc
   ·cases hc
   ·rename_i x hx
    split at hc
    ·cases hc
    ·rename_i y hy
     split at hc
     ·rename_i hh
      cases hc;simp only[Bool.and_eq_true,List.all_eq_true]at hh;exact hrng f ps asg body _ _ x y s s' e hx hy hh.1.1 hh.1.2 (fun p hp=>Nat.le_of_ble_eq_true (hh.2 p hp)) h
     ·cases hc
end
end Go.Proofs.Ae
namespace Go.Proofs.Ae
open Go Go.RowKit
variable [eg]
section
variable {P:Program} {G:Gls} {mu:Bool} {cl:a7} {yl:a7} {n nt N:Nat}
variable {base:Nat} {U:Nat->Nat} {bs:List (Option Nat)} {as:List BA} {w:World} {M:Mem} {s s':St} {e:Ex}
theorem di.block (hH:di base U bs as w M) (o:Go.Obj) (ob:Obj)
  (ho:Evo base U bs as w (upd U w.heap.size 0) (bs++[some w.heap.size]) as (w.alloc o)->hD (upd U w.heap.size 0) (w.alloc o) (bs++[some w.heap.size]) as w.heap.size ob):
  di base (upd U w.heap.size 0) (bs++[some w.heap.size]) as (w.alloc o) (newObj M ob)/\Evo base U bs as w (upd U w.heap.size 0) (bs++[some w.heap.size]) as (w.alloc o):=by
 have ev:=ib (base:=base) (bs:=bs) (as:=as) o hH.hb hH.fr 0;have h1:=hH.alloc o 0;have ev2:Evo base (upd U w.heap.size 0) bs as (w.alloc o) (upd U w.heap.size 0) (bs++[some w.heap.size]) as (w.alloc o):=oD _;refine⟨h1.addObj w.heap.size _ hH.hb (by simp) (gw _ _ _) ?_ ?_ (ho (ev.trans ev2)),ev.trans ev2⟩
 ·intro i hi;have:=(hH.ob i _ hi).2.1;omega
 ·intro j e he hn hb;obtain⟨r,_,hr⟩:=hH.arr he;have:=(hr.lt hn).2;omega
theorem mW (w:World) (b:Nat) (o:Go.Obj):lL w (w.putObj b o) b:=vF w b o
def KIs (P:Program):Prop:= ∀(nt:Nat) (c:Code) (cc:dH),eg.rel nt c cc↔ ∃k,eG P nt true c k=some cc/\fG cc=true
theorem GL (hk:KIs P) (hcl:fw P G cl) {f:Operand} {ps:Array Nat} {asg body:Code} {a' b' x y:dH} (hx:eG P nt true asg a'=some x) (hy:eG P nt true body b'=some y)
  (nx:fG x=true) (ny:fG y=true) (hps: ∀p∈ps.toList,p<nt) (h:a8 G mu cl yl N (.rng (dm f) ps.toList x y) s=some (e,s')):
  fy P G none n nt base (.rangeFunc f ps asg body) s e s':=by
 intro U bs as w a Q hG hs hK;simp only[a8]at h;split at h
 ·rename_i g gas ht
  split at h
  ·rename_i v M hcall
   unfold target at ht;split at ht
   ·rename_i g' fst cap hv
    cases ht;have hf:=vG hG hs.S f;rw[hv]at hf;generalize hvf:a.eval f=vf at hf;cases hf with
    |fn hfs hcap=>
     rename_i vfs vcap
     refine wpIn_rangeFunc fun fn _=>?_;obtain⟨H1,ev1⟩:=hs.H.block (.deferred (some [])) .mark (fun _=>heap_alloc_new w _);have hlen1:(newObj s.m .mark).objs.length=s.m.objs.length+1:=by simp[newObj]
     let r:Loop:={state:=.ready,pending:=none,fn:=fn,tmps:=a.tmps,params:=ps,assign:=asg,body:=body,defers:=w.heap.size}
     obtain⟨H2,ev2⟩:=H1.block (.loop r) (.loop true none s.ts ps.toList x y) (fun ev=>⟨r,heap_alloc_new _ _,
      ⟨nt,hs.sz,(hk _ _ _).2 ⟨_,hx,nx⟩,(hk _ _ _).2 ⟨_,hy,ny⟩,hps⟩,rfl,fun t=>ev.rep (ev1.rep (hs.S t)),fun _=>⟨rfl,rfl,rfl⟩,fun _ q=>by cases q⟩)
     have ev12:=ev1.trans ev2;have e1:(w.alloc (.deferred (some []))).heap.size=w.heap.size+1:=by simp
     have hbl:(bs++[some w.heap.size]++[some (w.alloc (.deferred (some []))).heap.size])[s.m.objs.length+1]? =some (some (w.heap.size+1)):=by
      rw[e1,<-hs.H.lo];simp
     have hbm:(bs++[some w.heap.size]++[some (w.alloc (.deferred (some []))).heap.size])[s.m.objs.length]? =some (some w.heap.size):=by
      rw[<-hs.H.lo];simp
     have hG2:=hG.evo ev12;have hargs:=((ev12.repV hfs).append (.cons (Rep.yld hbl) .nil)).append (ev12.repV hcap);obtain⟨k1,k2⟩:=hcl _ _ _ _ _ hcall base _ _ _ _ _ hG2 hargs H2;refine⟨w.heap.size+1,_,((w.alloc (.deferred (some []))).alloc (.loop r)),⟨.fn (.func g) vcap.toArray,vfs.toArray++ #[Value.func (.yield (w.heap.size+1)) #[] #[]]⟩,((w.alloc (.deferred (some []))).alloc (.loop r)),g,(vfs++[Value.func (.yield (w.heap.size+1)) #[] #[]]++vcap).toArray,((w.alloc (.deferred (some []))).alloc (.loop r)),run_enterLoop_outer (P:=P) (w:=w) fn a.tmps ps asg body,?_,fun _ _=>trivial,?_,fun h=>(by cases h),?_⟩
     ·show Sem.run P (Deferred.ofValue (a.eval f) _) _=_;rw[hvf];simp only[Deferred.ofValue,Sem.run_pure,List.map_toArray,List.map_cons,List.map_nil];rfl
     ·simp only[invoke];have e:(vfs.toArray++ #[Value.func (.yield (w.heap.size+1)) #[] #[]]++vcap.toArray:Array Value)=(vfs++[Value.func (.yield (w.heap.size+1)) #[] #[]]++vcap).toArray:=by apply Array.ext';simp
      rw[e];exact k1
     ·refine vW.2 (Calls.mono k2 ?_);rintro e' w3 ⟨xv,rfl,U3,bs3,as3,-,H3,ev3⟩;have hb3:bs3[s.m.objs.length+1]? =some (some (w.heap.size+1)):=ev3.bsl _ _ hbl;have hm3:bs3[s.m.objs.length]? =some (some w.heap.size):=ev3.bsl _ _ hbm;have fin: ∀(r':Loop),w3.heap[w.heap.size+1]? =some (.loop r')->r'.state≠ .busy->
        ∃w4,(Instr.endLoop (w.heap.size+1)).run P w3=.ok r'.pending w4/\SOK base U3 bs3 as3 w4 ⟨s.ts,setObj M (s.m.objs.length+1) .dead,s.m.objs.length::s.mks⟩ nt {a with defers:=[{target:=.collected w.heap.size,args:= #[]}]++a.defers}/\Evo base U bs as w U3 bs3 as3 w4:=by
       intro r' hr' hnb;have t:=mW w3 (w.heap.size+1) (.loop {r' with state:=.exhausted});obtain⟨H4,ev4⟩:=H3.turnObj hb3 t .dead trivial;have evA:=ev12.trans (ev3.trans ev4);exact⟨_,run_endLoop hr' hnb,⟨hs.S.evo evA,H4,hs.sz,.cons hm3 (hs.df.mono evA.bsl)⟩,evA⟩
      split at h
      ·rename_i ho
       cases h;obtain⟨r',h1,h2⟩:=H3.oo _ _ _ hb3 ho;obtain⟨q1,q2,-⟩:=h2.2.2.2.1 rfl;obtain⟨w4,p1,p2,p3⟩:=fin r' h1 (by rw[q1];intro h;cases h);rw[q2]at p1;exact⟨_,_,p1,hK _ _ _ _ _ p2 p3⟩
      ·rename_i ex _ _ _ _ ho
       cases h;obtain⟨r',h1,h2⟩:=H3.oo _ _ _ hb3 ho;obtain⟨q0,q1,q2⟩:=h2.2.2.2.2 _ rfl rfl;obtain⟨w4,p1,p2,p3⟩:=fin r' h1 (by rw[q1];intro h;cases h);rw[q2]at p1;refine⟨_,_,p1,?_⟩;have:=hK _ _ _ _ _ p2 p3;cases e with
       |normal=>exact absurd rfl q0
       |exit id=>exact wpIn_exit this
       |ret=>exact wpIn_ret this
      ·cases h
   ·cases ht
  ·cases h
 ·cases h
end
end Go.Proofs.Ae
namespace Go.Proofs.Ae
open Go Go.RowKit
variable [eg]
section
variable {P:Program} {G:Gls} {mu:Bool} {cl:a7} {yl:a7} {n nt N:Nat}
variable {base:Nat} {U:Nat->Nat} {bs:List (Option Nat)} {as:List BA} {w:World} {M:Mem} {s s':St} {e:Ex}
theorem Ay: ∀(ps:List Nat) (args:List AV) (vs:List Value) (ts:dx) (t:Array Value),(∀p∈ps,p<t.size)->dU U w bs as args vs->gl U w bs as ts t->
  gl U w bs as (lJ ps args ts) ((ps.zip vs).foldl (fun(tmps:Array Value) (q:Nat×Value)=>tmps.setIfInBounds q.1 q.2) t)/\((ps.zip vs).foldl (fun(tmps:Array Value) (q:Nat×Value)=>tmps.setIfInBounds q.1 q.2) t).size=t.size
 |[],args,vs,ts,t,_,_,h=>by simp[lJ];exact h
 |p::ps,[],_,ts,t,_,.nil,h=>by simp[lJ];exact h
 |p::ps,a::args,v::vs,ts,t,hp,.cons h1 hv,h=>by
  simp only[lJ,List.zip_cons_cons,List.foldl_cons];have hlt:=hp p (List.mem_cons_self ..);have:=Ay ps args vs ((p,a)::ts) (t.setIfInBounds p v) (fun q hq=>by simpa using hp q (List.mem_cons_of_mem _ hq)) hv (by
   intro i;rw[kU,sG hlt];split
   ·exact h1
   ·exact h i)
  refine⟨this.1,?_⟩;rw[this.2];simp
theorem GM (ps:Array Nat) (vs:List Value) (t:Array Value):
  (ps.zip vs.toArray).foldl (fun(tmps:Array Value) (q:Nat×Value)=>tmps.setIfInBounds q.1 q.2) t=(ps.toList.zip vs).foldl (fun(tmps:Array Value) (q:Nat×Value)=>tmps.setIfInBounds q.1 q.2) t:=by
 rw[<-Array.foldl_toList];simp
def Az (P:Program) (G:Gls) (mu:Bool) (cl:a7) (yl:a7) (N:Nat):Prop:=
 ∀(n nt base:Nat) (ro:Option Nat) (c:Code) (k cc:dH) (s s':St) (e:Ex),eG P nt true c k=some cc->a8 G mu cl yl N cc s=some (e,s')->fy P G ro n nt base c s e s'
theorem GN (hk:KIs P) (hr:Az P G mu cl yl N):iL P G (qk G mu cl yl N):=by
 intro id args M v M' h base U bs as w vs b hG hV hH hb;unfold qk at h;split at h
 ·rename_i ts ps asg body ho
  obtain⟨r,h1,⟨nt,hnt,hra,hrb,hpn⟩,hps,hts,hst,-⟩:=hH.oo _ _ _ hb ho;obtain⟨q1,q2,-⟩:=hst rfl;split at h
  ·rename_i hlen
   obtain⟨ka,hca,nxa⟩:=(hk _ _ _).1 hra;have hsz:vs.toArray.size=r.params.size:=by
    rw[List.size_toArray,hV.length,hlen,<-hps,Array.length_toList]
   refine⟨_,_,_,_,run_yield h1 hsz,fun ro n=>roundIn_of_wpIn trivial ?_⟩;have hzip:=Ay ps args vs ts r.tmps (fun p hp=>Nat.lt_of_lt_of_le (hpn p hp) hnt) hV hts;have hfold:(r.params.zip vs.toArray).foldl (fun(tmps:Array Value) (x:Nat×Value)=>match x with|(t,a)=>tmps.setIfInBounds t a) r.tmps=(ps.zip vs).foldl (fun(tmps:Array Value) (q:Nat×Value)=>tmps.setIfInBounds q.1 q.2) r.tmps:=by
    rw[<-hps];exact GM r.params vs r.tmps
   rw[hfold];show r.assign.wpIn (fen (some b)) n P _ _ w;split at h
   ·rename_i s1 he1
    refine hr n nt base (some b) _ _ _ _ _ _ hca he1 U bs as w _ _ hG ⟨hzip.1,hH,by rw[hzip.2];exact hnt,.nil⟩ ?_;intro U1 bs1 as1 w1 a1 k1 k2;show∃w2,_/\_;split at h
    ·rename_i ts1 ps1 asg1 body1 ho1
     have hb1:=k2.bsl _ _ hb;obtain⟨r1,g1,⟨nt1,hnt1,hra1,hrb1,hpn1⟩,hps1,hts1,hst1,-⟩:=k1.H.oo _ _ _ hb1 ho1;obtain⟨p1,p2,-⟩:=hst1 rfl;refine⟨_,run_beginRound g1 p1,?_⟩;have t1:=mW w1 b (.loop {r1 with state:=.busy});have hlt1:b<w1.heap.size:=(k1.H.ob _ _ hb1).2.1;have ev1:Evo base U1 bs1 as1 w1 U1 bs1 as1 (w1.putObj b (.loop {r1 with state:=.busy})):=jF t1 (k1.H.ob _ _ hb1).1 (k1.H.ob _ _ hb1).2.2;obtain⟨H2,-⟩:=k1.H.turnObj hb1 t1 (.loop false none ts1 ps1 asg1 body1) ⟨_,World.putObj_heap_same hlt1,⟨nt1,hnt1,hra1,hrb1,hpn1⟩,hps1,fun t=>ev1.rep (hts1 t),(fun q=>(by cases q)),(fun e _ q=>(by cases q))⟩;obtain⟨kb,hcb,nxb⟩:=(hk _ _ _).1 hrb;have hev2: ∃(ex:Ex) (s2:St),a8 G mu cl yl N body ⟨s1.ts,setObj s1.m id (.loop false none ts1 ps1 asg1 body1),[]⟩=some (ex,s2)/\
       ∃ts2 ps2 asg2 body2,s2.m.objs[id]? =some (.loop false none ts2 ps2 asg2 body2)/\
        (match ex with
         | .normal=>some (AV.bool true,setObj s2.m id (.loop true none ts2 ps2 asg2 body2))
         |ex=>some (AV.bool false,setObj s2.m id (.loop false (some ex) ts2 ps2 asg2 body2)))=some (v,M'):=by
      split at h
      ·rename_i s2 he2
       split at h
       ·rename_i ts2 ps2 asg2 body2 ho2
        exact⟨_,_,he2,_,_,_,_,ho2,h⟩
       ·cases h
      ·rename_i ex s2 hne he2
       split at h
       ·rename_i ts2 ps2 asg2 body2 ho2
        refine⟨ex,_,he2,_,_,_,_,ho2,?_⟩;cases ex with
        |normal=>exact absurd rfl hne
        |exit i=>exact h
        |ret=>exact h
       ·cases h
      ·cases h
     obtain⟨ex,s2,he2,ts2,ps2,asg2,body2,ho2,hres⟩:=hev2;refine hr n nt base (some b) _ _ _ _ _ _ hcb he2 U1 bs1 as1 _ _ _ ((hG.evo k2).evo ev1) ⟨k1.S.evo ev1,H2,k1.sz,?_⟩ ?_
     ·have hm:=wj nxa he1;have:=k1.df;rw[hm]at this;exact this
     intro U3 bs3 as3 w3 a3 k3 k4;have hb3:=k4.bsl _ _ hb1;obtain⟨r2,g2,hc2,hps2,hts2,-,-⟩:=k3.H.oo _ _ _ hb3 ho2;have hlt3:b<w3.heap.size:=(k3.H.ob _ _ hb3).2.1;have evA: ∀o,Evo base U3 bs3 as3 w3 U3 bs3 as3 (w3.putObj b o):=fun o=>jF (mW w3 b o) (k3.H.ob _ _ hb3).1 (k3.H.ob _ _ hb3).2.2;have evB:=k2.trans (ev1.trans k4);cases ex with
     |normal=>
      cases hres;refine⟨_,_,run_endRound none g2,_,rfl,U3,bs3,as3,.bool,?_,evB.trans (evA _)⟩;refine(k3.H.turnObj hb3 (mW _ _ _) _ ?_).1;exact⟨_,World.putObj_heap_same hlt3,hc2,hps2,fun t=>(evA _).rep (hts2 t),fun _=>⟨rfl,rfl,rfl⟩,(fun e q=>(by cases q))⟩
     |exit i=>
      cases hres;refine⟨_,_,run_endRound (some (.exit i)) g2,_,rfl,U3,bs3,as3,.bool,?_,evB.trans (evA _)⟩;refine(k3.H.turnObj hb3 (mW _ _ _) _ ?_).1;exact⟨_,World.putObj_heap_same hlt3,hc2,hps2,fun t=>(evA _).rep (hts2 t),(fun q=>(by cases q)),(fun e _ q=>(by cases q;exact⟨(by intro h;cases h),rfl,rfl⟩))⟩
     |ret=>
      cases hres;refine⟨_,_,run_endRound (some .ret) g2,_,rfl,U3,bs3,as3,.bool,?_,evB.trans (evA _)⟩;refine(k3.H.turnObj hb3 (mW _ _ _) _ ?_).1;exact⟨_,World.putObj_heap_same hlt3,hc2,hps2,fun t=>(evA _).rep (hts2 t),(fun q=>(by cases q)),(fun e _ q=>(by cases q;exact⟨(by intro h;cases h),rfl,rfl⟩))⟩
    ·cases h
   ·cases h
  ·cases h
 ·cases h
end
end Go.Proofs.Ae
