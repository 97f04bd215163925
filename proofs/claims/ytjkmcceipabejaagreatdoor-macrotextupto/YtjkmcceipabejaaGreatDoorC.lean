/- An abstract execution of the code, proved sound (third part): whole calls, contracts, readings. -/
import Derived.Test.YtjkmcceipabejaaGreatDoorB
import Derived.RangeFuncLeaves
import GoSem.ClaimChange
import GoSem.Claims
import Derived.DataReads
set_option linter.unusedSimpArgs false
set_option linter.unusedVariables false
set_option linter.unusedSectionVars false
namespace Go.Proofs.Ae
open Go Go.RowKit
def kl (P:Program):List ResultVar->Option (List Res)
 |[]=>some []
 | .tmp t::l=>match kl P l with
  |some rs=>some (.tmp t::rs)
  |none=>none
 | .cell a t::l=>match eE P t with
  |some ly=>match kl P l with
   |some rs=>some (.cell a ly::rs)
   |none=>none
  |none=>none
variable [eg]
section
variable {P:Program} {G:Gls} {mu:Bool} {cl:a7} {yl:a7} {n nt N:Nat}
variable {base:Nat} {U:Nat->Nat} {bs:List (Option Nat)} {as:List BA} {w:World} {M M':Mem} {s s':St} {e:Ex} {v:AV}
def sQ (tmps:Array Value) (r:ResultVar):Sem Value:=match r with
 | .tmp t=>pure (tmps.getD t undef)
 | .cell a t=>do loadVar t (<-asAddr (tmps.getD a undef))
theorem GO {tmps:Array Value}: ∀(rl:List ResultVar) {res:List Res} {vs:List AV},kl P rl=some res->gl U w bs as s.ts tmps->di base U bs as w s.m->kK s res=some vs->
  ∃xs:List Value,(rl.mapM (sQ tmps)).run P w=.ok xs w/\dU U w bs as vs xs:=by
 intro rl
 induction rl with
 |nil=>
  intro res vs hc hS hH h;simp only[kl,Option.some.injEq]at hc;subst hc;simp only[kK,Option.some.injEq]at h;subst h;exact⟨[],by simp[Sem.run_pure],.nil⟩
 |cons r rl ih=>
  intro res vs hc hS hH h;rw[List.mapM_cons];cases r with
  |tmp t=>
   simp only[kl]at hc;split at hc
   ·rename_i rs hrs
    cases hc;simp only[kK]at h;split at h
    ·cases h
    ·rename_i v hv
     split at h
     ·cases h
     ·rename_i vs' hvs
      cases h;obtain⟨xs,h1,h2⟩:=ih hrs hS hH hvs;simp only[rX]at hv;split at hv
      ·cases hv
      ·cases hv;exact⟨_,by simp only[sQ,Sem.run_bind,Sem.run_pure,Result.andThen_ok,h1],.cons (hS t) h2⟩
   ·cases hc
  |cell a t=>
   simp only[kl]at hc;split at hc
   ·rename_i ly hly
    split at hc
    ·rename_i rs hrs
     cases hc;simp only[kK]at h;split at h
     ·cases h
     ·rename_i v hv
      split at h
      ·cases h
      ·rename_i vs' hvs
       cases h;obtain⟨xs,h1,h2⟩:=ih hrs hS hH hvs;simp only[rX]at hv;split at hv
       ·rename_i id off hl
        split at hv
        ·rename_i cs ho
         have hp:=hS a;rw[hl]at hp;generalize hq:tmps.getD a undef=q at hp;cases hp with
         |ptr hb=>
          rename_i b
          obtain⟨us,ty,k1,k2,k3⟩:=hH.cellsAt hb ho;obtain⟨u,ul,q1,q2,q3,_⟩:=Rep.sub k2 hv;refine⟨u::xs,?_,.cons q1 h2⟩;have ea:(asAddr (tmps.getD a undef)).run P w=.ok ⟨b,off,none⟩ w:=by rw[hq];rfl
          simp only[sQ,Sem.run_bind,Sem.run_pure,ea,Result.andThen_ok,ze hly q2 (fun i u hu=>k3 off i u (q3 i u hu)),h1]
        ·cases hv
       ·cases hv
    ·cases hc
   ·cases hc
theorem GP {fn:Func} {tmps:Array Value} {res:List Res} {vs:List AV} (hc:kl P fn.results.toList=some res) (hS:gl U w bs as s.ts tmps) (hH:di base U bs as w s.m) (h:kK s res=some vs):
  ∃x,(results fn tmps).run P w=.ok x w/\Rep U w bs as (fd vs) x:=by
 obtain⟨xs,h1,h2⟩:=GO (tmps:=tmps) _ hc hS hH h;have e:results fn tmps=(do let vs<-fn.results.mapM (sQ tmps);pure (if h:vs.size=1 then vs[0]else .tuple vs)):=rfl;rw[e,Array.mapM_eq_mapM_toList];rw[Sem.run_bind,map_eq_pure_bind,Sem.run_bind,h1];simp only[Result.andThen_ok,Sem.run_pure];refine⟨_,rfl,?_⟩;cases h2 with
 |nil=>exact .tup .nil
 |cons q t=>cases t with
  |nil=>exact q
  |cons q2 t=>simp;exact Rep.tup (vs:=_::_::_) (.cons q (.cons q2 t))
theorem GQ {fn:Func} {res:List Res} {R:Ending->World->Prop} {tmps:Array Value} (hc:kl P fn.results.toList=some res):
  ∀(l:List Nat) (ds:List Deferred) (m M:Mem) (w:World),iw bs l ds->ow l m=some M->di base U bs as w m->gl U w bs as s.ts tmps-> ∀vs,kK ⟨s.ts,M,[]⟩ res=some vs->
   (∀x w',Rep U w' bs as (fd vs) x->di base U bs as w' M->Evo base U bs as w U bs as w'->R (.returned x) w')->LeavesInM (fen none) n P fn tmps R ds .returning w:=by
 intro l
 induction l with
 |nil=>
  intro ds m M w hd ht hH hS vs hr hR;cases hd;cases ht;obtain⟨x,h1,h2⟩:=GP (s:=⟨s.ts,m,[]⟩) hc hS hH hr;exact⟨x,h1,hR x w h2 hH (Evo.refl _ _ _ _ _)⟩
 |cons i l ih=>
  intro ds m M w hd ht hH hS vs hr hR;cases hd with
  |cons hb t=>
   rename_i b ds
   simp only[ow]at ht;split at ht
   ·rename_i ho
    have hm:w.heap[b]? =some (.deferred (some [])):=hH.oo _ _ _ hb ho;obtain⟨H2,ev⟩:=hH.turnObj hb (mW w b (.deferred none)) .dead trivial;refine⟨(by intro h;cases h),.inl ⟨b,_,rfl,run_takeDeferred hm,ih ds _ M _ t ht H2 (hS.evo ev) vs hr ?_⟩⟩;intro x w' k1 k2 k3;exact hR x w' k1 k2 (ev.trans k3)
   ·cases ht
theorem AA: ∀(as:List AV) (i t:Nat),look t (frame i as)=if i<=t then(as[t - i]?).getD .undef else .undef
 |[],i,t=>by simp[frame,look]
 |a::as,i,t=>by
  simp only[frame,kU,AA as (i+1) t];by_cases h:i=t
  ·subst h;simp
  ·by_cases h2:i<=t
   ·have e:t - i=(t - (i+1))+1:=by omega
    rw[if_neg h,if_pos (by omega),if_pos h2,e];simp
   ·rw[if_neg h,if_neg (by omega),if_neg h2]
theorem GR {args:List AV} {vs:List Value} (h:dU U w bs as args vs) (k:Nat):gl U w bs as (frame 0 args) (vs.toArray++Array.replicate k undef):=by
 intro t;rw[AA];simp only[Nat.zero_le,if_true,Nat.sub_zero];cases hq:args[t]? with
 |none=>exact .undef
 |some a=>
  obtain⟨v,h1,h2⟩:=h.at hq;have hlt:=eD h1;have:(vs.toArray++Array.replicate k undef).getD t undef=v:=by
   rw[Array.getD_eq_getD_getElem?,Array.getElem?_append_left (by simpa using hlt)];simp[h1]
  rw[this];exact h2
def iM (P:Program) (f:Nat) (cf:CFn):Prop:=
 ∃(fn:Func) (c:Code) (k:dH),P.funcs[f]? =some fn∧(fn.name== "runtime.NumGoroutine")=false∧fn.body=some c∧eG P fn.ntmps false c k=some cf.body∧kl P fn.results.toList=some cf.res
theorem AB {f:Nat} {fn:Func} {c:Code} (args:Array Value) (h:P.funcs[f]? =some fn) (hn:(fn.name== "runtime.NumGoroutine")=false) (hb:fn.body=some c):(callFunc f args).run P w=.ok (.enter f args) w:=by
 have hn': ¬fn.name= "runtime.NumGoroutine" :=by simpa using hn
 simp[callFunc,Sem.run_bind,h,hn',hb,Go.program,Sem.run]
def wm (P:Program) (G:Gls) (mu:Bool) (cl:a7) (yl:a7) (N:Nat):Prop:=
 ∀(n nt base:Nat) (c:Code) (k cc:dH) (s s':St) (e:Ex),eG P nt false c k=some cc->a8 G mu cl yl N cc s=some (e,s')->fy P G none n nt base c s e s'
theorem sR {f:Nat} {cf:CFn} (hcode:wm P G mu cl yl N) (hf:iM P f cf) {as:List AV} (h:dr G mu cl yl N cf as M=some (v,M')) {es:List BA} {args:List Value} (hG:fQ U w G) (hV:dU U w bs es as args) (hH:di base U bs es w M):
  (callFunc f args.toArray).run P w=.ok (.enter f args.toArray) w/\Calls P f args.toArray w fun e w'=> ∃x,e=.returned x/\eL base U bs es w v M' x w':=by
 obtain⟨fn,c,k,h1,h2,h3,h4,h5⟩:=hf;refine⟨AB _ h1 h2 h3,(vW (ro:=none) (n:=0)).1 (callsIn_of_wp_marks h1 h3 trivial ?_ rfl)⟩;unfold dr at h;have key: ∀(e:Ex) (s':St),a8 G mu cl yl N cf.body ⟨frame 0 as,M,[]⟩=some (e,s')->(e=.normal\/e=.ret)->mM s' cf.res=some (v,M')->
   c.wpIn (fen none) 0 P (bodyPostM (fen none) 0 P fn fun e w'=> ∃x,e=.returned x/\eL base U bs es w v M' x w') {tmps:=args.toArray++Array.replicate (fn.ntmps - args.toArray.size) undef,defers:=[]} w:=by
  intro e s' he hne hl;refine hcode 0 fn.ntmps base c k _ _ _ _ h4 he U bs es w _ _ hG ⟨GR hV _,hH,by simp;omega,.nil⟩ ?_;intro U1 bs1 as1 w1 a1 k1 k2;unfold mM at hl;split at hl
  ·rename_i M1 hM1
   split at hl
   ·rename_i vs hvs
    cases hl;have:=GQ (n:=0) (s:=s') (R:=fun e w'=> ∃x,e=.returned x/\eL base U bs es w (fd vs) M' x w') h5 s'.mks a1.defers s'.m M' w1 k1.df hM1 k1.H k1.S vs hvs (fun x w' q1 q2 q3=>⟨x,rfl,U1,bs1,as1,q1,q2,k2.trans q3⟩);rcases hne with rfl|rfl
    ·exact this
    ·exact this
   ·cases hl
  ·cases hl
 split at h
 ·cases h
 ·rename_i e s' hne he
  refine key e s' he ?_ h;cases e with
  |normal=>exact .inl rfl
  |ret=>exact .inr rfl
  |exit id=>exact absurd rfl (hne id)
 ·cases h
end
end Go.Proofs.Ae
namespace Go.Proofs.Ae
open Go Go.RowKit
variable [eg]
section
variable {P:Program} {G:Gls} {mu:Bool} {cl:a7} {yl:a7} {n nt N:Nat}
variable {base:Nat} {U:Nat->Nat} {bs:List (Option Nat)} {as:List BA} {w:World} {M M':Mem} {s s':St} {e:Ex} {v:AV}
def AC (as:List BA) (arrs:List Arr) (b k:Nat):Prop:= ∃(i:Nat) (e:BA) (g ty:Nat) (l:Lay) (cs:List AV),as[i]? =some e/\arrs[i]? =some (.wr g ty l cs)/\e.nil=false/\e.b=b/\k=cs.length
open Classical in
noncomputable def frz (U:Nat->Nat) (as:List BA) (arrs:List Arr) (b:Nat):Nat:=if h: ∃k,AC as arrs b k then h.choose else U b
theorem GS (hH:di base U bs as w M) {i:Nat} {e:BA} {g ty:Nat} {l:Lay} {cs:List AV} (h1:as[i]? =some e) (h2:M.arrs[i]? =some (.wr g ty l cs)) (h3:e.nil=false):frz U as M.arrs e.b=cs.length:=by
 have h: ∃k,AC as M.arrs e.b k:=⟨_,i,e,g,ty,l,cs,h1,h2,h3,rfl,rfl⟩
 unfold frz;rw[dif_pos h];obtain⟨j,e',g',ty',l',cs',k1,k2,k3,k4,k5⟩:=h.choose_spec;have:=hH.d3 i j e e' h1 k1 h3 k3 k4.symm;subst this;rw[h2]at k2;cases k2;exact k5
theorem AD (hH:di base U bs as w M) (b:Nat):U b<=frz U as M.arrs b:=by
 unfold frz;split
 ·rename_i h
  obtain⟨j,e',g',ty',l',cs',k1,k2,k3,k4,k5⟩:=h.choose_spec;obtain⟨_,hh⟩:=hH.ao j e' _ k1 k2;rcases hh with⟨q,_⟩|⟨_,_,_,_,_,_,q,_⟩
  ·rw[q]at k3;cases k3
  ·have h0:U b=0:=by rw[<-k4];exact q
   exact Nat.le_trans (Nat.le_of_eq h0) (Nat.zero_le _)
 ·exact Nat.le_refl _
theorem lU (hH:di base U bs as w M) {b:Nat} (h:b<base\/w.heap.size<=b):frz U as M.arrs b=U b:=by
 unfold frz;split
 ·rename_i hh
  obtain⟨j,e',g',ty',l',cs',k1,k2,k3,k4,k5⟩:=hh.choose_spec;have:=(hH.ao j e' _ k1 k2).lt k3;omega
 ·rfl
theorem GU (hH:di base U bs as w M) {i:Nat} {e:BA} {k ty sz:Nat} (h1:as[i]? =some e) (h2:M.arrs[i]? =some (.app k ty sz)) (h3:e.nil=false):frz U as M.arrs e.b=U e.b:=by
 unfold frz;split
 ·rename_i hh
  obtain⟨j,e',g',ty',l',cs',k1,k2,k3,k4,k5⟩:=hh.choose_spec;have:=hH.d3 i j e e' h1 k1 h3 k3 k4.symm;subst this;rw[h2]at k2;cases k2
 ·rfl
theorem GV {c:AV} {x:Value} (h:Rep U w bs as c x) (h1:x.oneCell'=true) (hu:c≠ .undef):cells c=some [c]:=by
 cases h<;>first|rfl|exact absurd rfl hu|(simp[Value.oneCell']at h1)
theorem AE {l:Lay}: ∀(n:Nat) {cs es:List AV} {vs:List Value},ov l.sz l n cs=some es->dt U w bs as cs vs->(∀c∈cs,c≠ .undef)->cs.length=n*l.sz->
  es.length=n/\dM es=some cs/\ ∀e∈es,∃c,cells e=some c/\c.length=l.sz
 |0,cs,es,vs,h,hL,hu,hn=>by
  simp only[ov,Option.some.injEq]at h;subst h;have:cs=[]:=by simpa using hn
  subst this;exact⟨rfl,rfl,by simp⟩
 |n+1,cs,es,vs,h,hL,hu,hn=>by
  simp only[ov]at h;split at h
  ·rename_i e he
   split at h
   ·rename_i es' hes
    cases h;have hd:=hL.drop l.sz;obtain⟨i1,i2,i3⟩:=AE n hes hd (fun c hc=>hu c (List.mem_of_mem_drop hc)) (by rw[List.length_drop,hn,Nat.succ_mul];omega);have hc:cells e=some (cs.take l.sz)/\(cs.take l.sz).length=l.sz:=by
     have hlen:(cs.take l.sz).length=l.sz:=by rw[List.length_take,hn,Nat.succ_mul];omega
     cases l with
     |sc=>
      have ht:=hL.take 1;simp only[Lay.sz]at*;cases hcs:cs.take 1 with
      |nil=>rw[hcs]at hlen;simp at hlen
      |cons c t=>
       rw[hcs]at he hlen ht;have:t=[]:=by simpa using hlen
       subst this;simp only[unit,Option.some.injEq]at he;subst he;generalize vs.take 1=us at ht;cases ht with
       |cons q q1 t=>exact⟨GV q q1 (hu c (List.mem_of_mem_take (by rw[hcs];simp))),rfl⟩
     |ag k=>
      simp only[unit]at he;split at he
      ·cases he;exact⟨rfl,hlen⟩
      ·cases he
    refine⟨by simp[i1],?_,?_⟩
    ·simp only[dM,hc.1,i2,List.take_append_drop]
    ·intro x hx;rcases List.mem_cons.1 hx with rfl|hx
     ·exact⟨_,hc.1,hc.2⟩
     ·exact i3 x hx
   ·cases h
  ·cases h
theorem GW {a a':AV} (h:dY a=some a'):a'≠ .undef:=by
 rintro rfl;cases a
 case slc sp es=>simp[dY]at h
 all_goals (simp only[dY]at h)
 all_goals (try (split at h))
 all_goals (try (split at h))
 all_goals (first|(cases h;done)|(simp at h))
theorem GX {m:Mem}: ∀{k:Nat} {a a':AV},eJ m k a=some a'->a'≠ .undef
 |0,_,_,h=>by simp[eJ]at h
 |k+1,a,a',h=>by
  cases a<;>simp only[eJ]at h
  case osl=>(repeat' split at h)<;>simp at h;subst h;simp
  case agg=>split at h<;>simp at h;subst h;simp
  case tup=>split at h<;>simp at h;subst h;simp
  all_goals exact GW h
theorem AF {m:Mem}: ∀{k:Nat} {cs cs':List AV},gv m k cs=some cs'-> ∀c∈cs',c≠ .undef
 |0,_,_,h=>by simp[gv]at h
 |k+1,[],_,h=>by simp[gv]at h;subst h;simp
 |k+1,x::xs,_,h=>by
  simp only[gv]at h;split at h
  ·rename_i y hy
   split at h
   ·rename_i ys hys
    cases h;intro c hc;rcases List.mem_cons.1 hc with rfl|hc
    ·exact GX hy
    ·exact AF hys c hc
   ·cases h
  ·cases h
theorem wn (hH:di base U bs as w M) {a:AV} {x:Value} (h:Rep U w [] [] a x):Rep (frz U as M.arrs) w [] [] a x:=h.mono (AD hH) (fun _ _=>rfl) (eB.refl _).weak (eK.refl _)
theorem AG (hH:di base U bs as w M): ∀k:Nat,(∀(a a':AV) (x:Value),Rep U w bs as a x->eJ M k a=some a'->Rep (frz U as M.arrs) w [] [] a' x)/\
  (∀(cs cs':List AV) (vs:List Value),dt U w bs as cs vs->gv M k cs=some cs'->dt (frz U as M.arrs) w [] [] cs' vs)/\
  (∀(cs cs':List AV) (vs:List Value),dU U w bs as cs vs->gv M k cs=some cs'->dU (frz U as M.arrs) w [] [] cs' vs):=by
 intro k
 induction k with
 |zero=>exact⟨fun _ _ _ _ h=>by simp[eJ]at h,fun _ _ _ _ h=>by simp[gv]at h,fun _ _ _ _ h=>by simp[gv]at h⟩
 |succ k ih=>
  obtain⟨i1,i2,i3⟩:=ih;refine⟨?_,?_,?_⟩
  ·intro a a' x hx h;have plain:dY a=some a'->Rep (frz U as M.arrs) w [] [] a' x:=fun hp=>wn hH (mQ hx hp);cases a<;>simp only[eJ]at h
   case agg cs=>
    split at h
    ·rename_i cs' hcs
     cases h;cases hx with
     |agg hL=>exact .agg (i2 _ _ _ hL hcs)
    ·cases h
   case tup cs=>
    split at h
    ·rename_i cs' hcs
     cases h;cases hx with
     |tup hL=>exact .tup (i3 _ _ _ hL hcs)
    ·cases h
   case osl j g off n=>
    split at h
    ·rename_i ty l cs hr
     split at h
     ·rename_i hle
      split at h
      ·rename_i cs2 hcs2
       split at h
       ·rename_i es hes
        cases h;cases hx with
        |osl ha hg hh h1=>
         rename_i e
         have hge:=iK hH ha hr;obtain⟨hv,hnil,hcap⟩:=hh hge;subst hv;cases hn:e.nil with
         |true=>
          have:=hnil hn;subst this;simp only[ov,Option.some.injEq]at hes;subst hes;simp only[BA.val,hn,if_true];exact .slcN trivial
         |false=>
          obtain⟨q1,q2,q3,q4,q5,cur,vs,q6,q7,q8,q9,q10⟩:=hH.rowAt ha hge hr hn;have hL1:=(q9.drop (off*l.sz)).take (n*l.sz);have hL2:=i2 _ _ _ hL1 hcs2;have hlen:cs2.length=n*l.sz:=by
           have e1:=hL2.length;have e2:=hL1.length;rw[Nat.add_mul]at hle;simp only[List.length_take,List.length_drop]at e1 e2;omega
          obtain⟨c1,c2,c3⟩:=AE n hes hL2 (AF hcs2) hlen;have hrow:M.arrs[j]? =some (.wr g ty l cs):=by
           unfold gk at hr;split at hr
           ·rename_i g' ty' l' cs' hq
            split at hr
            ·rename_i hg';cases hr;rw[hq,hg']
            ·cases hr
           ·cases hr
          have hU:=GS hH ha hrow hn;have hb:fL (frz U as M.arrs) w ⟨e.b,off*e.sz,none⟩ ((vs.drop (off*l.sz)).take (n*l.sz)):=by
           intro i u hi;rw[List.getElem?_take]at hi;split at hi
           ·rename_i hlt
            rw[List.getElem?_drop]at hi;refine⟨by rw[q1];exact q10 _ _ _ hi,?_⟩;rw[hU];have:=eD hi;rw[q9.length]at this;simp only[q1];exact this
           ·cases hi
          simp only[BA.val,hn,Bool.false_eq_true,if_false];have:=Rep.slc (U:=frz U as M.arrs) (w:=w) (bs:=[]) (as:=[]) (sp:=.shared) (cap:=e.cap - off) c2 hL2 hb c3 trivial (by omega);rw[c1]at this;exact this
       ·cases h
      ·cases h
     ·cases h
    ·cases h
   all_goals exact plain h
  ·intro cs cs' vs hL h;cases hL with
   |nil=>simp only[gv,Option.some.injEq]at h;subst h;exact .nil
   |cons q q1 t=>
    simp only[gv]at h;split at h
    ·rename_i y hy
     split at h
     ·rename_i ys hys
      cases h;exact .cons (i1 _ _ _ q hy) q1 (i2 _ _ _ t hys)
     ·cases h
    ·cases h
  ·intro cs cs' vs hL h;cases hL with
   |nil=>simp only[gv,Option.some.injEq]at h;subst h;exact .nil
   |cons q t=>
    simp only[gv]at h;split at h
    ·rename_i y hy
     split at h
     ·rename_i ys hys
      cases h;exact .cons (i1 _ _ _ q hy) (i3 _ _ _ t hys)
     ·cases h
    ·cases h
end
end Go.Proofs.Ae
namespace Go.Proofs.Ae
open Go Go.RowKit
variable [eg]
def GY (U':Nat->Nat) (w w':World) (e:BA) (n ty sz len:Nat) (x:Value):Prop:=
 fj w.heap.size U' w' [] [] e (.app n ty sz)/\n=len/\((e.nil=false/\x=e.val 0 n)\/(e.nil=true/\ ∃p:Option Addr,x=.slice p 0 0))
structure kW (U:Nat->Nat) (w:World) (r:AV×Option Arr) (x:Value) (U':Nat->Nat) (w':World):Prop where
 below:Below w.heap.size w w'
 old: ∀b,b<w.heap.size->U' b=U b
 fr: ∀b,w'.heap.size<=b->U' b=0
 rep:Rep U' w' [] [] r.1 x
 row: ∀(sp:Sp) (es:List AV) (n ty sz:Nat),r.1=.slc sp es->r.2=some (.app n ty sz)-> ∃e:BA,GY U' w w' e n ty sz es.length x
section
variable {P:Program} {G:Gls} {mu:Bool} {cl:a7} {yl:a7} {n nt N:Nat}
variable {base:Nat} {U U':Nat->Nat} {bs:List (Option Nat)} {as:List BA} {w w':World} {M M':Mem} {s s':St} {e:Ex} {v:AV}
theorem GZ {a:AV} {k:Nat} {es:List AV} (h:dY a=some (.slc (.own k) es)):False:=by
 cases a
 case slc sp fs=>simp[dY]at h
 all_goals (simp only[dY]at h)
 all_goals (try (split at h))
 all_goals (try (split at h))
 all_goals (first|(cases h;done)|(simp at h))
theorem G0 {m:Mem} {j:Nat} {es:List AV}: ∀(k:Nat) (a:AV),eJ m k a≠some (.slc (.own j) es)
 |0,_=>by simp[eJ]
 |k+1,a=>by
  intro h;cases a<;>simp only[eJ]at h
  case osl=>(repeat' split at h)<;>simp at h
  case agg=>split at h<;>simp at h
  case tup=>split at h<;>simp at h
  all_goals exact GZ h
theorem qC {r:AV×Option Arr} {f:Nat} {cf:CFn} (hcode:wm P G mu cl yl N) (hf:iM P f cf) {args:List AV} (h:dn G mu cl yl N cf args=some r) {vs:List Value} (hG:fQ U w G) (hV:dU U w bs as args vs) (hfr: ∀b,w.heap.size<=b->U b=0):
  (callFunc f vs.toArray).run P w=.ok (.enter f vs.toArray) w/\Calls P f vs.toArray w fun e w'=> ∃x U',e=.returned x/\kW U w r x U' w':=by
 unfold dn at h;split at h
 ·rename_i args' hp
  have hV':=qt hV hp;have h0:di w.heap.size U [] [] w ⟨[],[]⟩:=
   ⟨rfl,rfl,Nat.le_refl _,fun _ _ _ h=>by simp at h,fun _ _ _ _ h=>by simp at h,fun _ _ _ _ h=>by simp at h,fun _ _ h=>by simp at h,fun _ _ _ h=>by simp at h,fun _ _ _ h=>by simp at h,hfr⟩
  split at h
  ·rename_i v1 M1 hc
   obtain⟨k1,k2⟩:=sR hcode hf hc hG hV' h0;refine⟨k1,Calls.mono k2 ?_⟩;rintro e w' ⟨x,rfl,U1,bs1,as1,q1,q2,q3⟩;have fin: ∀v2:AV,eJ M1 4000 v1=some v2->kW U w (v2,none) x (frz U1 as1 M1.arrs) w':=by
    intro v2 hd;refine⟨q3.below,fun b hb=>(lU q2 (.inl hb)).trans (q3.old b hb),fun b hb=>(lU q2 (.inr hb)).trans (q2.fr b hb),(AG q2 4000).1 _ _ _ q1 hd,fun _ _ _ _ _ _ h=>by cases h⟩
   unfold rY at h;split at h
   ·rename_i a es heq
    split at heq
    ·rename_i a' es'
     split at heq
     ·rename_i n ty sz hr
      split at heq
      ·rename_i hn
       cases heq;cases h;rw[hr];have hrep:Rep (frz U1 as1 M1.arrs) w' [] [] (.slc .shared es) x:=by
        have:dY (.slc (.own a) es)=some (.slc .shared es):=rfl;exact wn q2 (mQ q1 this)
       refine⟨_,_,rfl,q3.below,fun b hb=>(lU q2 (.inl hb)).trans (q3.old b hb),fun b hb=>(lU q2 (.inr hb)).trans (q2.fr b hb),hrep,?_⟩;intro sp es0 n0 ty0 sz0 e1 e2;cases e1;cases e2;have hsp:iu as1 es.length x (.own a):=by cases q1 with
        |slcN hs=>exact hs
        |slc _ _ _ _ hs _=>exact hs
       obtain⟨e,he,hle,hh⟩:=hsp;have har:=q2.ao a e _ he hr;have hg:e.g=n:=har.1;refine⟨e,?_,hn,?_⟩
       ·refine⟨har.1,?_⟩;rcases har.2 with hx|⟨x1,x2,x3,x4,x5,x6,x7,x8,x9⟩
        ·exact .inl hx
        ·exact .inr ⟨x1,x2,x3,x4,x5,x6,x7,by rw[GU q2 he hr x1];exact x8,x9⟩
       ·rw[hn];exact hh (by rw[hg,hn])
      ·cases heq
     ·cases heq
    ·cases heq
    ·rename_i hno
     exact absurd heq (G0 4000 v1)
   ·rename_i v2 hno heq
    cases h;split at heq
    ·rename_i a' es'
     split at heq
     ·rename_i n ty sz hr
      split at heq
      ·cases heq;exact absurd rfl (hno _ _)
      ·cases heq;have:dY (.slc (.own a') es')=some (.slc .shared es'):=rfl;exact⟨_,_,rfl,fin _ (by simp only[eJ];rfl)⟩
     ·cases heq
    ·cases heq;refine⟨_,_,rfl,q3.below,fun b hb=>(lU q2 (.inl hb)).trans (q3.old b hb),fun b hb=>(lU q2 (.inr hb)).trans (q2.fr b hb),wn q2 (zu q1 rfl),fun _ _ _ _ _ _ h=>by cases h⟩
    ·exact⟨_,_,rfl,fin _ heq⟩
   ·cases h
  ·cases h
 ·cases h
theorem di.after (hH:di base U bs as w M) (below:Below w.heap.size w w') (old: ∀b,b<w.heap.size->U' b=U b) (fr: ∀b,w'.heap.size<=b->U' b=0):di base U' bs as w' M/\Evo base U bs as w U' bs as w':=by
 have ev:Evo base U bs as w U' bs as w':=⟨below.mono hH.hb,fun b hb=>old b (Nat.lt_of_lt_of_le hb hH.hb),fun b=>by
   by_cases hlt:b<w.heap.size
   ·rw[old b hlt];exact Nat.le_refl _
   ·rw[hH.fr b (by omega)];exact Nat.zero_le _,
  fun a ha=>by
   by_cases hlt:a.block<w.heap.size
   ·exact below.cell hlt
   ·rw[hH.fr _ (by omega)]at ha;omega,eB.refl _,eK.refl _,
  fun b hb=>by
   by_cases hlt:b<w.heap.size
   ·exact qo (below.block b hlt)
   ·rw[hH.fr b (by omega)]at hb;cases hb⟩
 refine⟨{lo:=hH.lo,la:=hH.la,hb:=Nat.le_trans hH.hb below.size,d1:=hH.d1,d2:=hH.d2,d3:=hH.d3,ob:=?_,oo:=?_,ao:=?_,fr:=fr},ev⟩
 ·intro i b hb;obtain⟨h1,h2,h3⟩:=hH.ob i b hb;exact⟨h1,Nat.lt_of_lt_of_le h2 below.size,by rw[old b h2];exact h3⟩
 ·intro i b o hb ho;exact(hH.oo i b o hb ho).keep ev (below.block _ (hH.ob i b hb).2.1)
 ·intro i e r he hr;have ha:=hH.ao i e r he hr;exact ha.keep ev below.size (fun hn=>⟨below.block _ (ha.lt hn).2,old _ (ha.lt hn).2⟩)
theorem wq {r:AV×Option Arr} {x:Value} (hH:di base U bs as w M) (hP:kW U w r x U' w') (h:iJ false r M=some (v,M')):eL base U bs as w v M' x w':=by
 obtain⟨H1,ev⟩:=hH.after hP.below hP.old hP.fr;unfold iJ at h;split at h
 ·rename_i sp es n ty sz
  simp only at h;cases h;obtain⟨e,h1,h2,h3⟩:=hP.row sp es n ty sz rfl rfl;have hr:=hP.rep;have hA:fj base U' w' bs (as++[e]) e (.app n ty sz):=by
   refine⟨h1.1,?_⟩;rcases h1.2 with hx|⟨x1,x2,x3,x4⟩
   ·exact .inl hx
   ·exact .inr ⟨x1,Nat.le_trans hH.hb x2,x3,x4⟩
  have hnew:e.nil=false->w.heap.size<=e.b:=fun hn=>(h1.lt hn).1;refine⟨U',bs,as++[e],?_,H1.addArr e _ hA ?_ ?_,ev.trans (mN e)⟩
  ·have hsp:iu (as++[e]) es.length x (.own M.arrs.length):=by
    refine⟨e,by rw[<-hH.la];simp,by rw[h1.1,h2];exact Nat.le_refl _,fun _=>?_⟩;rw[<-h2];rcases h3 with h3|h3
    ·exact .inl h3
    ·exact .inr h3
   cases hr with
   |slcN _=>exact .slcN hsp
   |slc q1 q2 q3 q4 q5 q6=>exact .slc q1 q2 q3 q4 hsp q6
  ·intro hn i b hb;have:=(hH.ob i b hb).2.1;have:=hnew hn;omega
  ·intro hn j e' he' hn';obtain⟨r',_,hr'⟩:=hH.arr he';have:=(hr'.lt hn').2;have:=hnew hn;omega
 ·cases h;exact⟨U',bs,as,hP.rep.lift,H1,ev⟩
theorem sS: ∀{cs:List AV} {vs:List Value},ox cs=true->dt U w bs as cs vs-> ∀(U2:Nat->Nat) (w2:World) (bs2:List (Option Nat)) (as2:List BA),dt U2 w2 bs2 as2 cs vs
 |[],_,_,.nil,U2,w2,bs2,as2=>.nil
 |c::cs,_,hp,.cons q q1 t,U2,w2,bs2,as2=>by
  cases c<;>simp only[ox,Bool.false_eq_true]at hp
  case int=>cases q;exact .cons .int q1 (sS hp t U2 w2 bs2 as2)
  case bool=>cases q;exact .cons .bool q1 (sS hp t U2 w2 bs2 as2)
  case str=>cases q;exact .cons .str q1 (sS hp t U2 w2 bs2 as2)
theorem G1 {r:AV×Option Arr} {x:Value} (hH:di base U bs as w M) (hP:kW U w r x U' w') (h:iJ true r M=some (v,M')):eL base U bs as w v M' x w':=by
 obtain⟨H1,ev⟩:=hH.after hP.below hP.old hP.fr;unfold iJ at h;split at h
 ·rename_i sp es n ty sz
  simp only at h;split at h
  ·rename_i cs hcs
   split at h
   ·rename_i hck
    simp only[Bool.and_eq_true,decide_eq_true_eq]at hck;obtain⟨⟨hpl,hsz⟩,hne⟩:=hck;cases h;obtain⟨e,h1,h2,h3⟩:=hP.row sp es n ty sz rfl rfl;have hrep:=hP.rep;have hlsz:(if sz=1 then Lay.sc else Lay.ag sz).sz=sz:=by split<;>simp_all [Lay.sz]
    rcases h1.2 with hx|⟨x1,x2,x3,x4,x5,x6,x7,x8,cur,x9,x10⟩
    ·omega
    obtain⟨-,rfl⟩:e.nil=false/\x=e.val 0 n:=by
     rcases h3 with h3|h3
     ·exact h3
     ·rw[h3.1]at x1;cases x1
    simp only[BA.val,x1,Bool.false_eq_true,if_false]at hrep;cases hrep with
    |slc hf hL hr hz hs hcap=>
     rename_i cs0 vs0 sz0
     rw[hcs]at hf;cases hf;have hvl:=hL.length;have hcur:cur.toList.take cs.length=vs0:=by
      apply List.ext_getElem?;intro i;rw[List.getElem?_take];split
      ·rename_i hi
       have hi':i<vs0.length:=by omega
       have hv:vs0[i]? =some vs0[i]:=List.getElem?_eq_getElem hi';obtain⟨c1,_⟩:=hr i _ hv;have ea:(⟨e.b,0*e.sz,none⟩:Addr).add i=⟨e.b,i,none⟩:=by unfold Addr.add;split<;>simp_all
       rw[ea]at c1;simp only[World.cell?,x9]at c1;rw[hv];simpa using c1
      ·rw[List.getElem?_eq_none (by omega)]
     let e':BA:={e with g:=0}
     have old2: ∀b,b<w.heap.size->upd U' e.b 0 b=U b:=fun b hb=>by rw[ia _ (by omega)];exact hP.old b hb
     have fr2: ∀b,w'.heap.size<=b->upd U' e.b 0 b=0:=fun b hb=>by rw[ia _ (by omega)];exact hP.fr b hb
     obtain⟨H2,ev2⟩:=hH.after hP.below old2 fr2;have evA:Evo base U bs as w (upd U' e.b 0) bs (as++[e']) w':=ev2.trans (mN e');have hlen:cs.length=es.length*sz:=by
      have hall: ∀x∈es,∃c,cells x=some c/\c.length=sz:=by
       have hz0:sz0=sz:=by
        cases es with
        |nil=>simp at hne
        |cons a es=>
         obtain⟨c,k1,k2⟩:=hz a (List.mem_cons_self ..);simp only[dV,k1,decide_eq_true_eq]at hsz;omega
       rw[<-hz0];exact hz
      exact jZ hcs hall
     have hA:fj base (upd U' e.b 0) w' bs (as++[e']) e' (.wr 0 ty (if sz=1 then .sc else .ag sz) cs):=by
      refine⟨rfl,.inr ⟨x1,Nat.le_trans hH.hb x2,x3,by rw[hlsz];exact x5,?_,x7,gw _ _ _,cur,_,x9,by rw[hlsz];exact x10,rfl,by rw[hcur];exact sS hpl hL _ _ _ _⟩⟩;rw[hlsz,hlen,<-h2];exact Nat.mul_le_mul_right _ x6
     refine⟨upd U' e.b 0,bs,as++[e'],?_,H2.addArr e' _ hA ?_ ?_,evA⟩
     ·refine .osl (e:=e') (by rw[<-hH.la];simp) (Nat.le_refl _) (fun _=>⟨?_,fun h=>?_,?_⟩) ?_
      ·rfl
      ·have:e.nil=true:=h;rw[this]at x1;cases x1
      ·show 0+es.length<=e.cap;omega
      ·simp[BA.val,x1,Value.oneCell']
     ·intro _ i b hb;have:=(hH.ob i b hb).2.1;show e.b≠b;omega
     ·intro _ j e2 he2 hn2;obtain⟨r',_,hr'⟩:=hH.arr he2;have:=(hr'.lt hn2).2;show e2.b≠e.b;omega
   ·cases h
  ·cases h
 ·cases h;exact⟨U',bs,as,hP.rep.lift,H1,ev⟩
end
end Go.Proofs.Ae
namespace Go.Proofs.Ae
open Go Go.RowKit
variable [eg]
def dP (P:Program) (G:Gls) (orc:Nat->List AV->Option (AV×Option Arr)):Prop:=
 ∀(f:Nat) (as:List AV) (r:AV×Option Arr),orc f as=some r-> ∀(U:Nat->Nat) (bs:List (Option Nat)) (es:List BA) (w:World) (args:List Value),
  fQ U w G->dU U w bs es as args->(∀b,w.heap.size<=b->U b=0)->
  (callFunc f args.toArray).run P w=.ok (.enter f args.toArray) w/\Calls P f args.toArray w fun e w'=> ∃x U',e=.returned x/\kW U w r x U' w'
section
variable {base:Nat} {U:Nat->Nat} {bs:List (Option Nat)} {as:List BA} {w:World} {M:Mem}
def oP (e:BA):BA:=⟨e.g+1,0,0,0,true⟩
theorem di.freeze (hH:di base U bs as w M):di base (frz U as M.arrs) bs (as.map oP) w (ql M)/\Evo base U bs as w (frz U as M.arrs) bs (as.map oP) w:=by
 have ev:Evo base U bs as w (frz U as M.arrs) bs (as.map oP) w:=
  ⟨Below.refl _ _,fun b hb=>lU hH (.inl hb),AD hH,fun _ _=>rfl,eB.refl _,
   fun i e he=>⟨oP e,by rw[List.getElem?_map,he];rfl,.inr (Nat.lt_succ_self _)⟩,fun _ _=>rfl⟩
 refine⟨{lo:=hH.lo,la:=by simp[ql,hH.la],hb:=hH.hb,d1:=hH.d1,d2:=?_,d3:=?_,ob:=?_,oo:=?_,ao:=?_,fr:=fun b hb=>(lU hH (.inr hb)).trans (hH.fr b hb)},ev⟩
 ·intro i b j e hi he hn;rw[List.getElem?_map]at he;cases h:as[j]? with
  |none=>rw[h]at he;cases he
  |some x=>rw[h]at he;cases he;cases hn
 ·intro i j e e' he he' hn;rw[List.getElem?_map]at he;cases h:as[i]? with
  |none=>rw[h]at he;cases he
  |some x=>rw[h]at he;cases he;cases hn
 ·intro i b hi;obtain⟨h1,h2,h3⟩:=hH.ob i b hi;refine⟨h1,h2,?_⟩;unfold frz;split
  ·rename_i hh
   obtain⟨j,e',g',ty',l',cs',k1,k2,k3,k4,k5⟩:=hh.choose_spec;exact absurd k4 (hH.d2 i b j e' hi k1 k3)
  ·exact h3
 ·intro i b o hi ho;exact(hH.oo i b o hi ho).keep ev rfl
 ·intro i e r he hr;simp only[ql]at hr;rw[List.getElem?_map]at he hr;cases h:as[i]? with
  |none=>rw[h]at he;cases he
  |some x=>
   cases h':M.arrs[i]? with
   |none=>rw[h']at hr;cases hr
   |some y=>
    rw[h]at he;rw[h']at hr;cases he;cases hr;have ha:=hH.ao i x y h h';cases y with
    |app n ty sz=>exact⟨by simp[oP,ha.1],.inl ⟨rfl,rfl⟩⟩
    |wr g ty l cs=>exact⟨by simp[oP,ha.1],.inl ⟨rfl,rfl⟩⟩
theorem eL.sealed {v v':AV} {M':Mem} {x:Value} {w':World} (h:eL base U bs as w v M' x w') (hd:eJ M' 4000 v=some v'):eL base U bs as w v' (ql M') x w':=by
 obtain⟨U2,bs2,as2,h1,h2,h3⟩:=h;obtain⟨k1,k2⟩:=h2.freeze;exact⟨_,bs2,_,((AG h2 4000).1 _ _ _ h1 hd).lift,k1,h3.trans k2⟩
end
def wt (P:Program) (fns:Nat->Option CFn):Prop:= ∀(f:Nat) (cf:CFn),fns f=some cf->iM P f cf
section
variable {P:Program} {G:Gls} {T:lK} {N:Nat}
theorem kX {mu:Bool} {cl:a7} {yl:a7} (hm:P.follows .mixedOrders=true) (hk:KIs P) (hcl:fw P G cl) (hyl:iL P G yl):wm P G mu cl yl N/\Az P G mu cl yl N:=by
 have rng: ∀(n nt base:Nat) (f:Operand) (ps:Array Nat) (asg body:Code) (a' b' x y:dH) (s s':St) (e:Ex),eG P nt true asg a'=some x->eG P nt true body b'=some y->fG x=true->fG y=true->(∀p∈ps.toList,p<nt)->
   a8 G mu cl yl N (.rng (dm f) ps.toList x y) s=some (e,s')->fy P G none n nt base (.rangeFunc f ps asg body) s e s':=
  fun n nt base f ps asg body a' b' x y s s' e h1 h2 h3 h4 h5 h6=>GL hk hcl h1 h2 h3 h4 h5 h6
 exact⟨fun n nt base c k cc s s' e h1 h2=>Ax hm hcl hyl (rng n nt base) c none false k cc s s' e h1 (fun _=>rfl) h2,
  fun n nt base ro c k cc s s' e h1 h2=>Ax hm hcl hyl (rng n nt base) c ro true k cc s s' e h1 (fun h=>by cases h) h2⟩
theorem je (hm:P.follows .mixedOrders=true) (hk:KIs P) (hT:wt P T.fns) (hO:dP P G T.orc): ∀(k:Nat) (mu:Bool),fw P G (eY G T N mu k).1/\iL P G (eY G T N mu k).2:=by
 intro k
 induction k with
 |zero=>exact fun mu=>⟨fun _ _ _ _ _ h=>by simp[eY]at h,fun _ _ _ _ _ h=>by simp[eY]at h⟩
 |succ k ih=>
  intro mu;refine⟨?_,?_⟩
  ·intro f as M v M' h base U bs es w args hG hV hH;simp only[eY]at h;split at h
   ·rename_i r hr
    obtain⟨k1,k2⟩:=hO f as r hr U bs es w args hG hV hH.fr;refine⟨k1,Calls.mono k2 ?_⟩;rintro e w' ⟨x,U',rfl,hP⟩;refine⟨x,rfl,?_⟩;cases mu with
    |false=>exact wq hH hP h
    |true=>exact G1 hH hP h
   ·split at h
    ·rename_i cf hcf
     split at h
     ·split at h
      ·rename_i r hr
       obtain⟨k1,k2⟩:=qC (kX hm hk (ih (T.mutf f)).1 (ih (T.mutf f)).2).1 (hT f cf hcf) hr hG hV hH.fr;refine⟨k1,Calls.mono k2 ?_⟩;rintro e w' ⟨x,U',rfl,hP⟩;refine⟨x,rfl,?_⟩;cases mu with
       |false=>exact wq hH hP h
       |true=>
        simp only[rZ]at h;cases h;obtain⟨H1,ev⟩:=hH.after hP.below hP.old hP.fr;exact⟨U',bs,es,hP.rep.lift,H1,ev⟩
      ·cases h
     ·split at h
      ·unfold Ae.sealed at h;split at h
       ·rename_i v1 M1 hc
        split at h
        ·rename_i v2 hd
         cases h;obtain⟨k1,k2⟩:=sR (kX hm hk (ih true).1 (ih true).2).1 (hT f cf hcf) hc hG hV hH;refine⟨k1,Calls.mono k2 ?_⟩;rintro e w' ⟨x,rfl,hg⟩;exact⟨x,rfl,eL.sealed hg hd⟩
        ·cases h
       ·cases h
      ·exact sR (kX hm hk (ih mu).1 (ih mu).2).1 (hT f cf hcf) h hG hV hH
    ·cases h
  ·exact GN hk (kX hm hk (ih mu).1 (ih mu).2).2
end
end Go.Proofs.Ae
namespace Go.Proofs.Ae
open Go Go.RowKit
variable [eg]
section
variable {P:Program} {G:Gls} {cl:a7} {U:Nat->Nat} {w:World}
theorem G2 (hfr: ∀b,w.heap.size<=b->U b=0):di w.heap.size U [] [] w ⟨[],[]⟩:=
 ⟨rfl,rfl,Nat.le_refl _,fun _ _ _ h=>by simp at h,fun _ _ _ _ h=>by simp at h,fun _ _ _ _ h=>by simp at h,fun _ _ h=>by simp at h,fun _ _ _ h=>by simp at h,fun _ _ _ h=>by simp at h,hfr⟩
def oQ (cl:a7) (f:Nat) (as:List AV) (v:AV):Bool:=match cl f as ⟨[],[]⟩with
 |some (x,⟨[],[]⟩)=>eqA x v
 |_=>false
theorem sT {f:Nat} {as:List AV} {v:AV} (h:oQ cl f as v=true):cl f as ⟨[],[]⟩=some (v,⟨[],[]⟩):=by
 unfold oQ at h;split at h
 ·rename_i x hx
  rw[hx,qz h]
 ·cases h
theorem sU (hcl:fw P G cl) {f:Nat} {as:List AV} {v:AV} (h:cl f as ⟨[],[]⟩=some (v,⟨[],[]⟩)) (hp:eh as=some as)
  {bs:List (Option Nat)} {es:List BA} {args:List Value} (hG:fQ U w G) (hV:dU U w bs es as args) (hfr: ∀b,w.heap.size<=b->U b=0):
  (callFunc f args.toArray).run P w=.ok (.enter f args.toArray) w/\Calls P f args.toArray w fun e w'=> ∃x U',e=.returned x/\kW U w (v,none) x U' w':=by
 obtain⟨k1,k2⟩:=hcl f as _ v _ h w.heap.size U [] [] w args hG (qt hV hp) (G2 hfr);refine⟨k1,Calls.mono k2 ?_⟩;rintro e w' ⟨x,rfl,U',bs',as',h1,h2,h3⟩;have e1:bs'=[]:=by have:=h2.lo;simpa using this
 have e2:as'=[]:=by have:=h2.la;simpa using this
 subst e1 e2;exact⟨x,U',rfl,⟨h3.below,h3.old,h2.fr,h1,fun _ _ _ _ _ _ h=>by cases h⟩⟩
end
end Go.Proofs.Ae
namespace Go.Proofs.Ae
open Go Go.RowKit
variable [eg]
def qD:a7:=fun _ _ _=>none
def eW:a7:=fun _ _ _=>none
theorem G3 {P:Program} {G:Gls}:fw P G qD:=fun _ _ _ _ _ h=>by simp[qD]at h
theorem AH {P:Program} {G:Gls}:iL P G eW:=fun _ _ _ _ _ h=>by simp[eW]at h
def eX (P:Program) (G:Gls) (f:Nat) (as:List AV) (r:AV×Option Arr):Prop:=
 ∀(U:Nat->Nat) (bs:List (Option Nat)) (es:List BA) (w:World) (args:List Value),fQ U w G->dU U w bs es as args->(∀b,w.heap.size<=b->U b=0)->
  (callFunc f args.toArray).run P w=.ok (.enter f args.toArray) w/\Calls P f args.toArray w fun e w'=> ∃x U',e=.returned x/\kW U w r x U' w'
section
variable {P:Program} {G:Gls}
theorem qE {f:Nat} {cf:CFn} (h:iM P f cf) (args:Array Value) (w:World):(callFunc f args).run P w=.ok (.enter f args) w:=by
 obtain⟨fn,c,k,h1,h2,h3,_⟩:=h;exact AB args h1 h2 h3
theorem G4 {U:Nat->Nat} {w:World} (q:Option Addr):Rep U w [] [] (.slc .full []) (.slice q 0 0):=by
 cases q with
 |none=>exact .slcN ⟨none,rfl⟩
 |some p=>exact Rep.slc (sz:=0) (cs:=[]) (vs:=[]) (p:=p) rfl .nil (fun i v h=>by simp at h) (by simp) ⟨some p,rfl⟩ (Nat.le_refl _)
theorem AI {f ty sz:Nat} {cf:CFn} (hm:P.follows .mixedOrders=true) (hk:KIs P) (hf:iM P f cf)
  (h0: ∀w,Calls P f #[.slice none 0 0] w fun e w'=>e=.returned (.slice none 0 0)/\w=w')
  (h1: ∀w p c,Calls P f #[.slice (some p) 0 c] w fun e w'=>(∃q:Option Addr,e=.returned (.slice q 0 0))/\Below w.heap.size w w')
  (h2: ∀(e:AV) (es:List AV) (sp:Sp),dV sz (e::es)=true->(es.length+1)*4096<=140737488355328->dn G false qD eW 1 cf [.slc sp (e::es)]=some (.slc .shared (e::es),some (.app (e::es).length ty sz)))
  {as:List AV} {r:AV×Option Arr} (h:it ty sz as=some r):eX P G f as r:=by
 intro U bs es w args hG hV hfr;unfold it at h;split at h
 ·rename_i sp
  cases h;cases hV with
  |cons hx t=>
   cases t;refine⟨qE hf _ _,?_⟩;have fin: ∀(q:Option Addr) (w':World),Below w.heap.size w w'->kW U w (.slc .full [],none) (.slice q 0 0) U w':=fun q w' hb=>
    ⟨hb,fun _ _=>rfl,fun b hb'=>hfr b (Nat.le_trans hb.size hb'),G4 q,fun _ _ _ _ _ _ h=>by cases h⟩
   cases hx with
   |slcN _=>exact(h0 w).mono fun e w' ⟨he,hw⟩=>⟨_,U,he,hw▸fin none w (Below.refl _ _)⟩
   |slc _ _ _ _ _ _=>exact(h1 w _ _).mono fun e w' ⟨⟨q,he⟩,hb⟩=>⟨_,U,he,fin q w' hb⟩
 ·rename_i sp e es'
  split at h
  ·rename_i hc
   cases h;simp only[Bool.and_eq_true,decide_eq_true_eq,List.length_cons]at hc;exact qC (kX hm hk G3 AH).1 hf (h2 e es' sp hc.1 hc.2) hG hV hfr
  ·cases h
 ·cases h
end
end Go.Proofs.Ae
namespace Go.Proofs.Ae
open Go Go.RowKit
mutual
def fg {H:Type}:DataW H->Option AV
 | .lit (.bool b)=>some (.bool b)
 | .lit (.int k n)=>some (.int k n)
 | .lit (.string s)=>some (.str s)
 | .nil=>some (.slc .shared [])
 | .slice es _=>match km es with
  |some us=>some (.slc .shared us)
  |none=>none
 | .agg ps=>match km ps with
  |some us=>match dM us with
   |some cs=>some (.agg cs)
   |none=>none
  |none=>none
 |_=>none
def km {H:Type}:List (DataW H)->Option (List AV)
 |[]=>some []
 |d::ds=>match fg d with
  |some a=>match km ds with
   |some as=>some (a::as)
   |none=>none
  |none=>none
end
def qF (P:Program):Nat->List Field->Nat->Bool
 |off,[],tot=>Nat.beq off tot
 |off,f::fs,tot=>Nat.beq f.offset off&&qF P (off+P.cellsOf f.type) fs tot
def qG (P:Program) (S:Nat->Bool) (t:Nat):Bool:=match P.underlying t with
 |some .bool=>true
 |some (.int _)=>true
 |some .string=>true
 |some (.slice e)=>S e
 |some (.struct fs)=>qF P 0 fs.toList (P.cellsOf t)&&fs.toList.all (fun f=>S f.type)
 |some (.array n e)=>S e&&Nat.beq (n*P.cellsOf e) (P.cellsOf t)
 |_=>false
def U0 (w:World) (b:Nat):Nat:=match w.heap[b]? with
 |some (.cells c _ _)=>c.size
 |_=>0
variable [eg]
section
variable {w:World}
theorem G5 (b:Nat) (h:w.heap.size<=b):U0 w b=0:=by
 unfold U0;rw[Array.getElem?_eq_none h]
theorem wu {a:Addr} {v:Value} (h:w.cell? a=some v):a.off<U0 w a.block:=by
 unfold World.cell? at h;unfold U0;split at h
 ·rename_i c t f hc
  split at h
  ·cases h
  ·rw[hc];exact(Array.getElem?_eq_some_iff.1 h).1
 ·cases h
theorem oS {α β:Type} {f:α->Option β}: ∀{l:List α} {r:List β},l.mapM f=some r->r.length=l.length/\ ∀(i:Nat) (x:α) (y:β),l[i]? =some x->r[i]? =some y->f x=some y:=by
 intro l r h;refine⟨mapM_some_length h,fun i x y hx hy=>?_⟩;rw[mapM_some_get h i x hx,hy]
theorem G6 {base n:Nat} {a:Addr} {c:List Value} (h:w.cells? base a n=some c):c.length=n/\fL (U0 w) w a c:=by
 unfold World.cells? at h;split at h
 ·obtain⟨h1,h2⟩:=oS h;rw[List.length_range]at h1;refine⟨h1,fun i v hi=>?_⟩;have hlt:=eD hi;have:=h2 i i v (by rw[List.getElem?_range (by omega)]) hi;refine⟨this,?_⟩;have k:=wu this
  rwa [oz,oy]at k
 ·cases h
theorem G7 {U:Nat->Nat} {p:Addr} {c d:List Value} (h:fL U w p c) (k:fL U w (p.add c.length) d):fL U w p (c++d):=by
 intro i v hi;by_cases hlt:i<c.length
 ·rw[List.getElem?_append_left hlt]at hi;exact h i v hi
 ·rw[List.getElem?_append_right (by omega)]at hi;obtain⟨h1,h2⟩:=k _ v hi;rw[qm]at h1;rw[oz,oy]at h2;have e:c.length+(i - c.length)=i:=by omega
  rw[e]at h1;exact⟨h1,by omega⟩
theorem AJ {U:Nat->Nat} {a:Addr} {sz:Nat}: ∀(ccs:List (List Value)) (n0:Nat),(∀(i:Nat) (c:List Value),ccs[i]? =some c->c.length=sz/\fL U w (a.add ((n0+i)*sz)) c)->fL U w (a.add (n0*sz)) ccs.flatten
 |[],n0,_=>fun i v h=>by simp at h
 |c::ccs,n0,h=>by
  obtain⟨h1,h2⟩:=h 0 c rfl;simp only[Nat.add_zero]at h2;rw[List.flatten_cons];refine G7 h2 ?_;rw[qm,h1];have:=AJ ccs (n0+1) (fun i d hd=>by
   obtain⟨k1,k2⟩:=h (i+1) d (by simpa using hd);refine⟨k1,?_⟩;have e:n0+1+i=n0+(i+1):=by omega
   rw[e];exact k2)
  rwa [Nat.succ_mul]at this
def AK {H:Type} (w:World) (d:DataW H) (sz:Nat) (c:List Value):Prop:=
 ∃a ac,fg d=some a/\cells a=some ac/\ac.length=sz/\dt (U0 w) w [] [] ac c
theorem sV {H:Type}: ∀(ds:List (DataW H)) (ccs:List (List Value)) (szs:List Nat),ds.length=ccs.length->ds.length=szs.length->(∀(i:Nat) (d:DataW H) (c:List Value) (sz:Nat),ds[i]? =some d->ccs[i]? =some c->szs[i]? =some sz->AK w d sz c)->
  ∃us F,km ds=some us/\dM us=some F/\dt (U0 w) w [] [] F ccs.flatten/\us.length=ds.length/\(∀(i:Nat) (u:AV),us[i]? =some u-> ∃c sz,szs[i]? =some sz/\cells u=some c/\c.length=sz)
 |[],[],[],_,_,_=>⟨[],[],rfl,rfl,.nil,rfl,fun i u h=>by simp at h⟩
 |d::ds,c::ccs,sz::szs,hl,hl2,h=>by
  obtain⟨us,F,h1,h2,h3,h4,h5⟩:=sV ds ccs szs (by simpa using hl) (by simpa using hl2) (fun i d c sz hd hc hz=>h (i+1) d c sz (by simpa using hd) (by simpa using hc) (by simpa using hz));obtain⟨a,ac,k1,k2,k3,k4⟩:=h 0 d c sz rfl rfl rfl;refine⟨a::us,ac++F,by simp[km,k1,h1],by simp[dM,k2,h2],?_,by simp[h4],?_⟩
  ·rw[List.flatten_cons];exact k4.append h3
  ·intro i u hu;cases i with
   |zero=>simp at hu;subst hu;exact⟨ac,sz,rfl,k2,k3⟩
   |succ i=>simp at hu;simpa using h5 i u hu
theorem AL {P:Program}: ∀(fs:List Field) (off tot:Nat) (cs:List Value),qF P off fs tot=true->cs.length=tot->off<=tot/\(fs.map fun f=>(cs.drop f.offset).take (P.cellsOf f.type)).flatten=cs.drop off
 |[],off,tot,cs,h,hl=>by
  simp only[qF]at h;have:=Nat.eq_of_beq_eq_true h;subst this;exact⟨Nat.le_refl _,by simp[<-hl]⟩
 |f::fs,off,tot,cs,h,hl=>by
  simp only[qF,Bool.and_eq_true]at h;have e:=Nat.eq_of_beq_eq_true h.1;obtain⟨h1,h2⟩:=AL fs _ tot cs h.2 hl;refine⟨by omega,?_⟩;rw[List.map_cons,List.flatten_cons,h2,e,<-List.drop_drop,List.take_append_drop]
theorem AM {sz:Nat} (cs:List Value): ∀(n:Nat),n*sz<=cs.length->((List.range n).map fun i=>(cs.drop (i*sz)).take sz).flatten=cs.take (n*sz)
 |0,_=>by simp
 |n+1,h=>by
  rw[Nat.succ_mul]at h;rw[List.range_succ,List.map_append,List.flatten_append,AM cs n (by omega)];simp only[List.map_cons,List.map_nil,List.flatten_cons,List.flatten_nil,List.append_nil];rw[Nat.succ_mul,List.take_add]
theorem AN {H:Type} {enc:TypeId×Value->H} {P:Program} {S:Nat->Bool} {spare:Nat->Bool} {held:Bool} (hS: ∀t,S t=true->qG P S t=true) (h1: ∀t,S t=true->(∃d,P.underlying t=some d/\(match d with| .struct _=>False| .array _ _=>False|_=>True))->P.cellsOf t=1):
  ∀(fuel:Nat) (t:Nat) (cs:List Value) (d:DataW H) (ps:List MemPlace),S t=true->DataW.trod enc P w 0 spare held fuel t cs=some (d,ps)->cs.length=P.cellsOf t/\AK w d (P.cellsOf t) cs:=by
 intro fuel
 induction fuel with
 |zero=>intro t cs d ps _ h;simp[DataW.trod]at h
 |succ fuel ih=>
  intro t cs d ps hSt h;have hty:=hS t hSt;have one:=h1 t hSt;unfold qG at hty;unfold DataW.trod at h;split at h
  case h_1=>
   rename_i b hu
   rw[hu]at hty;simp only at hty;have e1:=one ⟨_,hu,trivial⟩;cases h;rw[e1];exact⟨rfl,.bool b,_,rfl,rfl,rfl,.cons .bool rfl .nil⟩
  case h_2=>
   rename_i k k' n hu
   rw[hu]at hty;simp only at hty;have e1:=one ⟨_,hu,trivial⟩;split at h
   ·rename_i hk
    cases h;rw[e1,hk.1];exact⟨rfl,.int k n,_,rfl,rfl,rfl,.cons .int rfl .nil⟩
   ·cases h
  case h_4=>
   rename_i s hu
   rw[hu]at hty;simp only at hty;have e1:=one ⟨_,hu,trivial⟩;split at h
   ·cases h;rw[e1];exact⟨rfl,.str s.data.toList,_,rfl,rfl,rfl,.cons (Rep.str (s:=s.data.toList)) rfl .nil⟩
   ·cases h
  case h_7=>
   rename_i e hu
   rw[hu]at hty;simp only at hty;have e1:=one ⟨_,hu,trivial⟩;cases h;rw[e1];exact⟨rfl,.slc .shared [],_,rfl,rfl,rfl,.cons (.slcN trivial) rfl .nil⟩
  case h_8=>
   rename_i e a len cap hu
   rw[hu]at hty;simp only at hty;have e1:=one ⟨_,hu,trivial⟩;rw[e1];simp only at h;split at h
   ·rename_i hc
    simp only[Option.bind_eq_some_iff]at h;obtain⟨elems,hel,h⟩:=h;simp only[Option.map_eq_some_iff]at h;obtain⟨rest,-,h⟩:=h;cases h;obtain⟨l1,l2⟩:=oS hel;rw[List.length_range]at l1
    -- the cells of each element
    have hex: ∀i,i<len-> ∃c x,w.cells? 0 (a.add (i*P.cellsOf e)) (P.cellsOf e)=some c/\elems[i]? =some x/\DataW.trod enc P w 0 spare held fuel e c=some x:=by
     intro i hi;have hx:elems[i]? =some elems[i]:=List.getElem?_eq_getElem (by omega);have:=l2 i i _ (by rw[List.getElem?_range (by omega)]) hx;rw[Option.bind_eq_some_iff]at this;obtain⟨c,k1,k2⟩:=this;exact⟨c,_,k1,hx,k2⟩
    let cc:Nat->List Value:=fun i=>(w.cells? 0 (a.add (i*P.cellsOf e)) (P.cellsOf e)).getD []
    have hcc: ∀i,i<len->w.cells? 0 (a.add (i*P.cellsOf e)) (P.cellsOf e)=some (cc i):=by
     intro i hi;obtain⟨c,x,k1,_,_⟩:=hex i hi;simp[cc,k1]
    obtain⟨us,F,r1,r2,r3,r4,r5⟩:=sV (w:=w) (elems.map (·.1)) ((List.range len).map cc) (List.replicate len (P.cellsOf e)) (by simp[l1]) (by simp[l1]) (by
     intro i d c sz hd hc hz;simp only[List.getElem?_map,Option.map_eq_some_iff]at hd hc;obtain⟨x,hx,rfl⟩:=hd;obtain⟨j,hj,rfl⟩:=hc;have hlt:i<len:=by have:=eD hx;omega
     rw[List.getElem?_range hlt]at hj;cases hj;obtain⟨c',x',k1,k2,k3⟩:=hex i hlt;rw[hx]at k2;cases k2;rw[hcc i hlt]at k1;cases k1;have:sz=P.cellsOf e:=by
      have:=List.mem_of_getElem? hz;exact List.eq_of_mem_replicate this
     rw[this];exact(ih e _ _ _ hty k3).2)
    have hrow:fL (U0 w) w a ((List.range len).map cc).flatten:=by
     have:=AJ (U:=U0 w) (a:=a) (sz:=P.cellsOf e) (w:=w) ((List.range len).map cc) 0 (by
      intro i c hc;simp only[List.getElem?_map,Option.map_eq_some_iff]at hc;obtain⟨j,hj,rfl⟩:=hc;have hlt:i<len:=by have:=eD hj;simpa using this
      rw[List.getElem?_range hlt]at hj;cases hj;rw[Nat.zero_add];exact G6 (hcc i hlt))
     simpa[Addr.add] using this
    have hlen:us.length=len:=by rw[r4];simp[l1]
    refine⟨rfl,.slc .shared us,_,by simp[fg,r1],rfl,rfl,.cons ?_ rfl .nil⟩;have:=Rep.slc (U:=U0 w) (w:=w) (bs:=[]) (as:=[]) (sp:=.shared) (sz:=P.cellsOf e) (cap:=cap) r2 r3 hrow (by
     intro u hu;obtain⟨i,hi⟩:=List.getElem?_of_mem hu;obtain⟨c,sz,q1,q2,q3⟩:=r5 i u hi;have:sz=P.cellsOf e:=List.eq_of_mem_replicate (List.mem_of_getElem? q1);exact⟨c,q2,by rw[q3,this]⟩) trivial (by rw[hlen];exact hc.2.1)
    rwa [hlen]at this
   ·cases h
  case h_9=>
   rename_i cs _ _ fs hu
   rw[hu]at hty;simp only at hty;split at h
   ·rename_i hl
    simp only[Bool.and_eq_true,List.all_eq_true]at hty;simp only[Option.map_eq_some_iff]at h;obtain⟨xs,hxs,h⟩:=h;cases h;refine⟨hl,?_⟩;obtain⟨l1,l2⟩:=oS hxs;obtain⟨us,F,r1,r2,r3,r4,r5⟩:=sV (w:=w) (xs.map (·.1)) (fs.toList.map fun f=>(cs.drop f.offset).take (P.cellsOf f.type)) (fs.toList.map fun f=>P.cellsOf f.type) (by simp[l1]) (by simp[l1]) (by
     intro i d c sz hd hc hz;simp only[List.getElem?_map,Option.map_eq_some_iff]at hd hc hz;obtain⟨x,hx,rfl⟩:=hd;obtain⟨f,hf,rfl⟩:=hc;obtain⟨f',hf',rfl⟩:=hz;rw[hf]at hf';cases hf';exact(ih _ _ _ _ (hty.2 f (List.mem_of_getElem? hf)) (l2 i f x hf hx)).2)
    rw[(AL fs.toList 0 _ cs hty.1 hl).2]at r3;rw[List.drop_zero]at r3;exact⟨.agg F,F,by simp[fg,r1,r2],rfl,by rw[<-r3.length,hl],r3⟩
   ·cases h
  case h_10=>
   rename_i cs _ _ n e hu
   rw[hu]at hty;simp only at hty;split at h
   ·rename_i hl
    simp only[Bool.and_eq_true]at hty;have hn:=Nat.eq_of_beq_eq_true hty.2;simp only[Option.map_eq_some_iff]at h;obtain⟨xs,hxs,h⟩:=h;cases h;refine⟨hl,?_⟩;obtain⟨l1,l2⟩:=oS hxs;rw[List.length_range]at l1;obtain⟨us,F,r1,r2,r3,r4,r5⟩:=sV (w:=w) (xs.map (·.1)) ((List.range n).map fun i=>(cs.drop (i*P.cellsOf e)).take (P.cellsOf e)) (List.replicate n (P.cellsOf e)) (by simp[l1]) (by simp[l1]) (by
     intro i d c sz hd hc hz;simp only[List.getElem?_map,Option.map_eq_some_iff]at hd hc;obtain⟨x,hx,rfl⟩:=hd;obtain⟨j,hj,rfl⟩:=hc;have hlt:i<n:=by have:=eD hx;omega
     have hj':=hj;rw[List.getElem?_range hlt]at hj';cases hj';have:sz=P.cellsOf e:=List.eq_of_mem_replicate (List.mem_of_getElem? hz);rw[this];exact(ih _ _ _ _ hty.1 (l2 i i x hj hx)).2)
    rw[AM cs n (by omega),hn,<-hl,List.take_length]at r3;exact⟨.agg F,F,by simp[fg,r1,r2],rfl,by rw[<-r3.length,hl],r3⟩
   ·cases h
  all_goals (first|(rename_i hu;rw[hu]at hty;simp at hty;done)|(cases h;done))
end
end Go.Proofs.Ae
namespace Go.Proofs.Ae
open Go Go.RowKit
abbrev Str:=List UInt8
inductive Nd where
 |mk (op:Int) (ns:List Str) (so nn mm:Int) (l:List Nd)
def Nd.op:Nd->Int| .mk o _ _ _ _ _=>o
def Nd.ns:Nd->List Str| .mk _ n _ _ _ _=>n
def Nd.so:Nd->Int| .mk _ _ s _ _ _=>s
def Nd.nn:Nd->Int| .mk _ _ _ n _ _=>n
def Nd.mm:Nd->Int| .mk _ _ _ _ m _=>m
def Nd.l:Nd->List Nd| .mk _ _ _ _ _ l=>l
mutual
def av:Nd->AV
 | .mk o ns s n m l=>.agg [.int .i64 o,.slc .shared (ns.map .str),.int .i64 s,.int .i64 n,.int .i64 m,.slc .shared (avL l)]
def avL:List Nd->List AV
 |[]=>[]
 |x::xs=>av x::avL xs
end
theorem mX: ∀l:List Nd,avL l=l.map av
 |[]=>rfl
 |x::xs=>by simp[avL,mX xs]
theorem lV (l:List Nd):(avL l).length=l.length:=by rw[mX];simp
theorem G8 (l:List Nd) (i:Nat):(avL l)[i]? =(l[i]?).map av:=by rw[mX];simp
mutual
def sz:Nd->Nat
 | .mk _ _ _ _ _ l=>szL l+1
def szL:List Nd->Nat
 |[]=>0
 |x::xs=>sz x+szL xs
end
theorem AO {x:Nd}: ∀{l:List Nd},x∈l->sz x<=szL l
 |[],h=>by simp at h
 |y::ys,h=>by
  rcases List.mem_cons.1 h with rfl|h
  ·simp[szL]
  ·have:=AO h;simp[szL];omega
theorem ko {n x:Nd} (h:x∈n.l):sz x<sz n:=by
 cases n with
 |mk o ns s a b l=>have:=AO h;simp[sz];simp[Nd.l]at this;omega
mutual
def deN:AV->Option Nd
 | .agg [.int .i64 o,.slc .shared ns,.int .i64 s,.int .i64 n,.int .i64 m,.slc .shared l]=>match kY ns with
  |some ns=>match sW l with
   |some l=>some (.mk o ns s n m l)
   |none=>none
  |none=>none
 |_=>none
def sW:List AV->Option (List Nd)
 |[]=>some []
 |x::xs=>match deN x with
  |some n=>match sW xs with
   |some ns=>some (n::ns)
   |none=>none
  |none=>none
def kY:List AV->Option (List Str)
 |[]=>some []
 | .str s::xs=>match kY xs with
  |some l=>some (s::l)
  |none=>none
 |_=>none
end
theorem sX: ∀l:List Str,kY (l.map .str)=some l
 |[]=>rfl
 |x::xs=>by simp[kY,sX xs]
mutual
theorem ww: ∀n:Nd,deN (av n)=some n
 | .mk o ns s n m l=>by simp[av,deN,sX,AP l]
theorem AP: ∀l:List Nd,sW (avL l)=some l
 |[]=>rfl
 |x::xs=>by simp[avL,sW,ww x,AP xs]
end
theorem AQ: ∀{l:List AV} {ss:List Str},kY l=some ss->l=ss.map .str
 |[],_,h=>by simp[kY]at h;subst h;rfl
 |x::xs,ss,h=>by
  cases x<;>simp only[kY,reduceCtorEq]at h;split at h
  ·rename_i l hl;cases h;rw[AQ hl];rfl
  ·cases h
def mY {σ ρ α:Type} (f:σ->α->σ ⊕ ρ):σ->List α->σ ⊕ ρ
 |a,[]=>.inl a
 |a,x::xs=>match f a x with
  | .inl a'=>mY f a' xs
  | .inr r=>.inr r
def fk (P:Ex->St->Prop):Option (Ex×St)->Prop
 |some (e,s)=>P e s
 |none=>False
theorem fk.out {P:Ex->St->Prop} {x:Option (Ex×St)} (h:fk P x): ∃e s,x=some (e,s)/\P e s:=by
 cases x with
 |none=>exact h.elim
 |some r=>exact⟨r.1,r.2,rfl,h⟩
theorem G9 {σ ρ α:Type} {mu:Bool} {step:St->Option (Ex×St)} {an:Ann} {k m:Nat} {xs:List α} (f:σ->α->σ ⊕ ρ) (S:σ->Nat->St) (I:σ->Nat->Prop) (Qr:ρ->Ex->St->Prop) (Qe:σ->Ex->St->Prop)
  (hstep: ∀i x acc,xs[i]? =some x->I acc i->match f acc x with
   | .inl acc'=>I acc' (i+1)/\fk (fun e s'=>e=.normal/\eI mu an k m s'=S acc' (i+1)) (step (S acc i))
   | .inr r=>fk (fun e s'=>e≠ .normal/\Qr r e s') (step (S acc i)))
  (hend: ∀acc,I acc xs.length->fk (fun e s'=>e≠ .normal/\Qe acc e s') (step (S acc xs.length))):
  ∀(rest done:List α) (acc:σ) (N:Nat),xs=done++rest->rest.length<N->I acc done.length->fk (fun e s'=>e≠ .normal/\(match mY f acc rest with
   | .inl a=>Qe a e s'
   | .inr r=>Qr r e s')) (dh mu step an k m N (S acc done.length)):=by
 have stop: ∀{N:Nat} {s:St} {Q:Ex->St->Prop},fk (fun e s'=>e≠ .normal/\Q e s') (step s)->fk (fun e s'=>e≠ .normal/\Q e s') (dh mu step an k m (N+1) s):=by
  intro N s Q h;obtain⟨e,s',h1,h2,h3⟩:=h.out;simp only[dh];cases e with
  |normal=>exact absurd rfl h2
  |exit id=>rw[h1];exact⟨h2,h3⟩
  |ret=>rw[h1];exact⟨h2,h3⟩
 intro rest
 induction rest with
 |nil=>
  intro done acc N hx hN hI;have e0:xs.length=done.length:=by rw[hx];simp
  cases N with
  |zero=>simp at hN
  |succ N=>
   have:=hend acc (by rw[e0];exact hI);rw[e0]at this;exact stop this
 |cons x rest ih=>
  intro done acc N hx hN hI;cases N with
  |zero=>simp at hN
  |succ N=>
   have hxi:xs[done.length]? =some x:=by rw[hx];simp
   have hs:=hstep done.length x acc hxi hI;simp only[mY];cases hf:f acc x with
   |inl acc'=>
    rw[hf]at hs;obtain⟨hI',hp⟩:=hs;obtain⟨e,s',h1,rfl,h2⟩:=hp.out;have:=ih (done++[x]) acc' N (by rw[hx];simp) (by simpa using hN) (by simpa using hI');simp only[dh,h1,h2];simpa using this
   |inr r=>
    rw[hf]at hs;exact stop hs
theorem AR {σ ρ α:Type} {mu:Bool} {step:St->Option (Ex×St)} {an:Ann} {k m N:Nat} (xs:List α) (f:σ->α->σ ⊕ ρ) (S:σ->Nat->St) (I:σ->Nat->Prop) (Qr:ρ->Ex->St->Prop) (Qe:σ->Ex->St->Prop) (acc:σ) (hN:xs.length<N) (h0:I acc 0)
  (hstep: ∀i x acc,xs[i]? =some x->I acc i->match f acc x with
   | .inl acc'=>I acc' (i+1)/\fk (fun e s'=>e=.normal/\eI mu an k m s'=S acc' (i+1)) (step (S acc i))
   | .inr r=>fk (fun e s'=>e≠ .normal/\Qr r e s') (step (S acc i)))
  (hend: ∀acc,I acc xs.length->fk (fun e s'=>e≠ .normal/\Qe acc e s') (step (S acc xs.length))):
  fk (fun e s'=>e≠ .normal/\(match mY f acc xs with
   | .inl a=>Qe a e s'
   | .inr r=>Qr r e s')) (dh mu step an k m N (S acc 0)):=
 G9 f S I Qr Qe hstep hend xs [] acc N rfl hN h0
theorem dJ {n:Int} (h1: -9223372036854775808<=n) (h2:n<=9223372036854775807):dj .i64 n=n:=by
 have h:dj .i64 n=IntKind.i64.wrap n:= @lN ⟨fun _ _ _=>True⟩ .i64 n;rw[h];exact IntWalk.i64_in _ ⟨h1,h2⟩
theorem dF {i:Nat} (h:i<9223372036854775807):dj .i64 ((i:Int)+1)=((i+1:Nat):Int):=by
 rw[dJ (by omega) (by omega)];omega
def ndc:Nd->List AV
 | .mk o ns s n m l=>[.int .i64 o,.slc .shared (ns.map .str),.int .i64 s,.int .i64 n,.int .i64 m,.slc .shared (avL l)]
theorem jH (n:Nd):av n=.agg (ndc n):=by cases n;rfl
theorem Ha (n:Nd):cells (av n)=some (ndc n):=by cases n;rfl
theorem Hb (n:Nd):(ndc n).length=6:=by cases n;rfl
theorem gL (n:Nd):ndc n=[.int .i64 n.op,.slc .shared (n.ns.map .str),.int .i64 n.so,.int .i64 n.nn,.int .i64 n.mm,.slc .shared (avL n.l)]:=by cases n;rfl
theorem Hc (k m:Nat) (n:Nd):scr k m (av n)=av n:=by cases n;rfl
theorem Hd (k m:Nat) (n:Nd):gj k m (ndc n)=ndc n:=by cases n;rfl
theorem He (n:Nd):dY (av n)=some (av n):=by cases n;rfl
theorem AU (n:Nd):gu (av n)=some (av n):=by cases n;rfl
theorem Hf (n:Nd):sub (.ag 6) 0 (ndc n)=some (av n):=by cases n;rfl
theorem Hg (n:Nd):unit (.ag 6) (ndc n)=some (av n):=by cases n;rfl
abbrev dC:=Option (AV×Option Arr)
def spC (orc:Nat->List AV->dC):a7:=fun f as M=>match eh as with
 |some as=>match orc f as with
  |some r=>iJ false r M
  |none=>none
 |none=>none
def dg:List (Nat×(List AV->dC))->Nat->List AV->dC
 |[],_,_=>none
 |e::l,f,as=>match Nat.beq f e.1 with
  |true=>e.2 as
  |false=>dg l f as
variable [eg]
section
variable {P:Program} {G:Gls} {orc:Nat->List AV->dC} {l:List (Nat×(List AV->dC))}
theorem Hh (h:dP P G orc):fw P G (spC orc):=by
 intro f as M v M' hc base U bs es w args hG hV hH;unfold spC at hc;split at hc
 ·rename_i as' ha
  split at hc
  ·rename_i r hr
   obtain⟨k1,k2⟩:=h f as' r hr U [] [] w args hG (qt hV ha) hH.fr;refine⟨k1,Calls.mono k2 ?_⟩;rintro e w' ⟨x,U',rfl,hP⟩;exact⟨x,rfl,wq hH hP hc⟩
  ·cases hc
 ·cases hc
theorem AW:dP P G (dg []):=fun f as r h=>by simp[dg]at h
theorem fl {f:Nat} {s:List AV->dC} (h:dP P G (dg l)) (hs: ∀as r,s as=some r->eX P G f as r):dP P G (dg ((f,s)::l)):=by
 intro g as r hr;simp only[dg]at hr;split at hr
 ·rename_i hb
  have:=Nat.eq_of_beq_eq_true hb;subst this;exact hs as r hr
 ·exact h g as r hr
theorem AX {f:Nat} {cf:CFn} (hm:P.follows .mixedOrders=true) (hk:KIs P) (hf:iM P f cf) (h:dP P G orc) {as:List AV} {r:AV×Option Arr} (hr: ∃N,dn G false (spC orc) eW N cf as=some r):eX P G f as r:=by
 obtain⟨N,hr⟩:=hr;intro U bs es w args hG hV hfr;exact qC (kX hm hk (Hh h) AH).1 hf hr hG hV hfr
theorem mZ {f:Nat} {cf:CFn} {T:lK} (hm:P.follows .mixedOrders=true) (hk:KIs P) (hT:wt P T.fns) (hf:iM P f cf) (h:dP P G T.orc) {as:List AV} {r:AV×Option Arr}
  (hr: ∃N k mu,dn G mu (eY G T N mu k).1 (eY G T N mu k).2 N cf as=some r):eX P G f as r:=by
 obtain⟨N,k,mu,hr⟩:=hr;intro U bs es w args hG hV hfr;have hb:=je (G:=G) (T:=T) (N:=N) hm hk hT h k mu;exact qC (kX hm hk hb.1 hb.2).1 hf hr hG hV hfr
theorem Hi {f:Nat} (spec:Nat->List AV->dC) (full:List AV->dC) (hfull: ∀as r,full as=some r-> ∃b,spec b as=some r) (h0: ∀as,spec 0 as=none)
  (hstep: ∀b as r,dP P G (dg ((f,spec b)::l))->spec (b+1) as=some r->eX P G f as r) (h:dP P G (dg l)):dP P G (dg ((f,full)::l)):=by
 have all: ∀b,dP P G (dg ((f,spec b)::l)):=by
  intro b
  induction b with
  |zero=>exact fl h fun as r hr=>by rw[h0]at hr;cases hr
  |succ b ih=>exact fl h fun as r hr=>hstep b as r ih hr
 refine fl h fun as r hr=>?_;obtain⟨b,hb⟩:=hfull as r hr;cases b with
 |zero=>rw[h0]at hb;cases hb
 |succ b=>exact hstep b as r (all b) hb
end
end Go.Proofs.Ae
namespace Go.Proofs.Ae
open Go Go.RowKit
def bkS:List Str->Nat
 |[]=>0
 |s::l=>s.length+1+bkS l
mutual
def bk:Nd->Nat
 | .mk _ ns _ _ _ l=>bkS ns+bkL l+1
def bkL:List Nd->Nat
 |[]=>0
 |x::xs=>bk x+bkL xs
end
theorem na (n:Nd):bk n=bkS n.ns+bkL n.l+1:=by cases n;rfl
theorem AY {x:Nd}: ∀{l:List Nd},x∈l->bk x<=bkL l
 |[],h=>by simp at h
 |y::ys,h=>by
  rcases List.mem_cons.1 h with rfl|h
  ·simp[bkL]
  ·have:=AY h;simp[bkL];omega
theorem ig {n x:Nd} (h:x∈n.l):bk x<bk n:=by rw[na n];have:=AY h;omega
theorem sY: ∀l:List Str,l.length<=bkS l
 |[]=>Nat.le_refl _
 |s::l=>by have:=sY l;simp[bkS];omega
theorem AZ {s:Str}: ∀{l:List Str},s∈l->s.length+1<=bkS l
 |[],h=>by simp at h
 |y::ys,h=>by
  rcases List.mem_cons.1 h with rfl|h
  ·simp[bkS]
  ·have:=AZ h;simp[bkS];omega
theorem A0 (n:Nd):1<=bk n:=by rw[na];omega
theorem A1: ∀l:List Nd,l.length<=bkL l
 |[]=>Nat.le_refl _
 |x::l=>by have:=A1 l;have:=A0 x;simp[bkL];omega
theorem iy (n:Nd):n.l.length<bk n:=by have:=A1 n.l;rw[na];omega
theorem jI (n:Nd):n.ns.length<bk n:=by have:=sY n.ns;rw[na];omega
mutual
theorem qH: ∀n:Nd,sz n<=bk n
 | .mk _ ns _ _ _ l=>by have:=A2 l;simp[sz,bk];omega
theorem A2: ∀l:List Nd,szL l<=bkL l
 |[]=>Nat.le_refl _
 |x::l=>by have:=qH x;have:=A2 l;simp[szL,bkL];omega
end
theorem oU (n:Nd):sz n=szL n.l+1:=by cases n;rfl
mutual
def dp:Nd->Nat
 | .mk _ _ _ _ _ l=>dpL l+1
def dpL:List Nd->Nat
 |[]=>0
 |x::xs=>max (dp x) (dpL xs)
end
mutual
theorem wx: ∀n:Nd,dp n<=sz n
 | .mk _ _ _ _ _ l=>by have:=A3 l;simp[dp,sz];omega
theorem A3: ∀l:List Nd,dpL l<=szL l
 |[]=>Nat.le_refl _
 |x::l=>by have:=wx x;have:=A3 l;simp[dpL,szL];omega
end
theorem oV (n:Nd):dp n=dpL n.l+1:=by cases n;rfl
theorem Hj (a b:List Nd):dpL (a++b)=max (dpL a) (dpL b):=by
 induction a with
 |nil=>simp[dpL]
 |cons x a ih=>simp[dpL,ih,Nat.max_assoc]
theorem A4 {l:List Nd} {i:Nat} {x:Nd} (h:l[i]? =some x):dpL (l.take (i+1))=max (dpL (l.take i)) (dp x):=by
 rw[List.take_add_one,h,Hj];simp[dpL]
def big:Nat:=4294967296
mutual
theorem sZ: ∀a:AV,eqA a a=true
 | .undef=>rfl
 | .int k n=>by simp[eqA,jB]
 | .bool b=>by simp[eqA]
 | .str s=>by simp[eqA]
 | .ptr a b=>by simp[eqA]
 | .nilp=>rfl
 | .nilm=>rfl
 | .eptr a=>by simp[eqA,sZ a]
 | .slc sp es=>by cases sp<;>simp[eqA,nc es]
 | .osl a b c d=>by simp[eqA]
 | .apt a b c=>by simp[eqA]
 | .map a=>by simp[eqA]
 | .fn f a b=>by simp[eqA,nc a,nc b]
 | .yld a=>by simp[eqA]
 | .iface t a=>by simp[eqA,sZ a]
 | .nili=>rfl
 | .agg a=>by simp[eqA,nc a]
 | .tup a=>by simp[eqA,nc a]
theorem nc: ∀l:List AV,gQ l l=true
 |[]=>rfl
 |x::xs=>by simp[gQ,sZ x,nc xs]
end
theorem fR {α:Type} {l:List α} {i:Nat} {x:α} (h:l[i]? =some x):x∈l:=List.mem_of_getElem? h
theorem A5 (l:List Nd) (i:Nat):szL (l.take i)<=szL l:=by
 induction l generalizing i with
 |nil=>simp
 |cons x l ih=>cases i with
  |zero=>simp[szL]
  |succ i=>simp[szL];exact ih i
theorem A6 {l:List Nd} {i:Nat} {x:Nd} (h:l[i]? =some x):szL (l.take (i+1))=szL (l.take i)+sz x:=by
 induction l generalizing i with
 |nil=>simp at h
 |cons y l ih=>cases i with
  |zero=>simp at h;subst h;simp[szL]
  |succ i=>simp at h;simp[szL,ih h];omega
def wy (G:Gls) (mu:Bool) (cl:a7) (yl:a7) (o:CO) (s:St):Option St:=match wanted s.ts o.gd with
 |some true=>match jC G mu cl yl s.ts s.m o.op with
  |some (v,M)=>some ⟨mK o.dst v s.ts,M,s.mks⟩
  |none=>none
 |some false=>some ⟨mK o.dst (.tup []) s.ts,s.m,s.mks⟩
 |none=>none
def nf (r:Option (Ex×St)) (f:St->Option (Ex×St)):Option (Ex×St):=match r with
 |some (.normal,s)=>f s
 |r=>r
def ng (id:Nat) (r:Option (Ex×St)):Option (Ex×St):=match r with
 |some (.exit i,s)=>if i=id then some (.normal,s)else some (.exit i,s)
 |r=>r
def onB (x:AV) (a b:Option (Ex×St)):Option (Ex×St):=match x with
 | .bool true=>a
 | .bool false=>b
 |_=>none
def s7 (r:Option St):Option (Ex×St):=match r with
 |some s=>some (.normal,s)
 |none=>none
section
variable {G:Gls} {mu:Bool} {cl:a7} {yl:a7} {N:Nat}
@[simp] theorem Su (s:St):gZ G mu cl yl [] s=some s:=by simp only[gZ]
@[simp] theorem Sv (o:CO) (os:List CO) (s:St):gZ G mu cl yl (o::os) s=(wy G mu cl yl o s).bind (gZ G mu cl yl os):=by
 simp only[gZ,wy]
 (repeat' split)<;>simp_all
@[simp] theorem Sw (s:St):a8 G mu cl yl N .skip s=some (.normal,s):=by simp only[a8]
@[simp] theorem Sx (l:List CO) (s:St):a8 G mu cl yl N (.reg l) s=s7 (gZ G mu cl yl l s):=by simp only[a8];rfl
@[simp] theorem Sy (l:List DOp) (s:St):a8 G mu cl yl N (.drg l) s=s7 (lI G mu cl yl l s):=by simp only[a8];rfl
@[simp] theorem Sz (a b:dH) (s:St):a8 G mu cl yl N (.seq a b) s=nf (a8 G mu cl yl N a s) (a8 G mu cl yl N b):=by simp only[a8];rfl
@[simp] theorem SA (x:Opd) (a b:dH) (s:St):a8 G mu cl yl N (.cond x a b) s=onB (x.val G s.ts) (a8 G mu cl yl N a s) (a8 G mu cl yl N b s):=by simp only[a8];rfl
@[simp] theorem SB (id:Nat) (c:dH) (s:St):a8 G mu cl yl N (.block id c) s=ng id (a8 G mu cl yl N c s):=by simp only[a8];rfl
@[simp] theorem SC (id:Nat) (s:St):a8 G mu cl yl N (.exit id) s=some (.exit id,s):=by simp only[a8]
@[simp] theorem SD (s:St):a8 G mu cl yl N .ret s=some (.ret,s):=by simp only[a8]
@[simp] theorem SE (an:Ann) (c:dH) (s:St):a8 G mu cl yl N (.loop an c) s=dh mu (a8 G mu cl yl N c) an (fK mu an.claims s).m.objs.length (fK mu an.claims s).m.arrs.length N (eI mu an (fK mu an.claims s).m.objs.length (fK mu an.claims s).m.arrs.length (fK mu an.claims s)):=by simp only[a8]
end
@[simp] theorem SF (s:St) (f:St->Option (Ex×St)):nf (some (.normal,s)) f=f s:=by simp only[nf]
@[simp] theorem SG (i:Nat) (s:St) (f:St->Option (Ex×St)):nf (some (.exit i,s)) f=some (.exit i,s):=by simp only[nf]
@[simp] theorem SH (s:St) (f:St->Option (Ex×St)):nf (some (.ret,s)) f=some (.ret,s):=by simp only[nf]
@[simp] theorem SI (i:Nat) (s:St):ng i (some (.normal,s))=some (.normal,s):=by simp only[ng]
@[simp] theorem SJ (i:Nat) (s:St):ng i (some (.ret,s))=some (.ret,s):=by simp only[ng]
@[simp] theorem SK (i j:Nat) (s:St):ng i (some (.exit j,s))=if j=i then some (.normal,s)else some (.exit j,s):=by simp only[ng]
@[simp] theorem SL (a b:Option (Ex×St)):onB (.bool true) a b=a:=by simp only[onB]
@[simp] theorem SM (a b:Option (Ex×St)):onB (.bool false) a b=b:=by simp only[onB]
@[simp] theorem SN (s:St):s7 (some s)=some (.normal,s):=by simp only[s7]
attribute [simp] wy jC dv wanted look mK Opd.val okO ok vC rT jB Ha Hg ept newObj setObj Hb Hf setAt target
attribute [simp] eI keep fP scr gj Hc mH vA vB Hd fk dn dr frame iq qh lV fK mL mM ow kK rX fd rY gv dY gX eh AU He Lay.sz
attribute [simp] lI oq rV eU qi qj jb ot ou lH sZ nc mI oi dI gP spC iJ unA mJ oj min2 om
@[simp] theorem SO (M:Mem) (f k n):eJ M (f+1) (.int k n)=some (.int k n):=rfl
@[simp] theorem SP (M:Mem) (f b):eJ M (f+1) (.bool b)=some (.bool b):=rfl
@[simp] theorem SQ (M:Mem) (f b):eJ M (f+1) (.str b)=some (.str b):=rfl
@[simp] theorem SR (M:Mem) (f a b):eJ M (f+1) (.slc a b)=some (.slc .shared b):=rfl
@[simp] theorem SS (M:Mem) (f a b c):eJ M (f+1) (.fn a b c)=dY (.fn a b c):=rfl
@[simp] theorem SU (M:Mem) (f b):eJ M (f+1) (.agg b)=match gv M f b with
 |some cs=>some (.agg cs)
 |none=>none:=rfl
@[simp] theorem SV (M:Mem) (f b):eJ M (f+1) (.tup b)=match gv M f b with
 |some cs=>some (.tup cs)
 |none=>none:=rfl
theorem Hk (M:Mem) (f:Nat) (n:Nd):eJ M (f+8) (av n)=some (av n):=by cases n;rfl
@[simp] theorem SW (M:Mem) (f:Nat) (n:Nd) (h:8<=f):eJ M f (av n)=some (av n):=by
 have:=Hk M (f - 8) n
 rwa [Nat.sub_add_cancel h]at this
@[simp] theorem Hl (k n):gu (.int k n)=some (.int k n):=rfl
@[simp] theorem SX (b):gu (.bool b)=some (.bool b):=rfl
@[simp] theorem SY (b):gu (.str b)=some (.str b):=rfl
@[simp] theorem Hm (b):gu (.slc .shared b)=some (.slc .shared b):=rfl
@[simp] theorem SZ (b):gu (.slc .full b)=some (.slc .full b):=rfl
@[simp] theorem S0 (a b):gu (.slc (.own a) b)=some (.slc .shared b):=rfl
@[simp] theorem S1 (b):gu (.agg b)=dY (.agg b):=rfl
@[simp] theorem S2 (a b c):gu (.fn a b c)=dY (.fn a b c):=rfl
@[simp] theorem S4 (k n):cells (.int k n)=some [.int k n]:=rfl
@[simp] theorem S5 (b):cells (.bool b)=some [.bool b]:=rfl
@[simp] theorem S6 (b):cells (.str b)=some [.str b]:=rfl
@[simp] theorem S7 (a b):cells (.slc a b)=some [.slc a b]:=rfl
@[simp] theorem S8 (a b):cells (.ptr a b)=some [.ptr a b]:=rfl
@[simp] theorem S9 (a):cells (.map a)=some [.map a]:=rfl
@[simp] theorem Ta (a b c):cells (.fn a b c)=some [.fn a b c]:=rfl
@[simp] theorem Tb (a b):cells (.iface a b)=some [.iface a b]:=rfl
@[simp] theorem Tc:cells .nili=some [.nili]:=rfl
@[simp] theorem Td (b):cells (.agg b)=some b:=rfl
@[simp] theorem Te (off:Nat) (cs:List AV):sub .sc off cs=cs[off]?:=rfl
@[simp] theorem Tf (n off:Nat) (cs:List AV):sub (.ag n) off cs=if off+n<=cs.length then some (.agg ((cs.drop off).take n))else none:=rfl
@[simp] theorem Tg (n:Nd):(ndc n).take 6=ndc n:=by cases n;rfl
@[simp] theorem Th (c:AV):unit .sc [c]=some c:=rfl
@[simp] theorem Ti (n:Nat) (cs:List AV):unit (.ag n) cs=if cs.length=n then some (.agg cs)else none:=rfl
@[simp] theorem Tj (l:List Nd) (i:Nat) (h:i<(avL l).length):(avL l)[i]=av (l[i]'(by rw[lV]at h;exact h)):=by
 have:=G8 l i;rw[List.getElem?_eq_getElem h,List.getElem?_eq_getElem (by rw[lV]at h;exact h)]at this;simpa using this
@[simp] theorem Tl (n:Nd):(ndc n)[0]? =some (.int .i64 n.op):=by cases n;rfl
@[simp] theorem Tm (n:Nd):(ndc n)[1]? =some (.slc .shared (n.ns.map .str)):=by cases n;rfl
@[simp] theorem Tn (n:Nd):(ndc n)[2]? =some (.int .i64 n.so):=by cases n;rfl
@[simp] theorem Tp (n:Nd):(ndc n)[3]? =some (.int .i64 n.nn):=by cases n;rfl
@[simp] theorem Tq (n:Nd):(ndc n)[4]? =some (.int .i64 n.mm):=by cases n;rfl
@[simp] theorem Ts (n:Nd):(ndc n)[5]? =some (.slc .shared (avL n.l)):=by cases n;rfl
@[simp] theorem Tt (n:Nd) (h:0<(ndc n).length):(ndc n)[0]'h=.int .i64 n.op:=by cases n;rfl
@[simp] theorem Tu (n:Nd) (h:1<(ndc n).length):(ndc n)[1]'h=.slc .shared (n.ns.map .str):=by cases n;rfl
@[simp] theorem Tv (n:Nd) (h:2<(ndc n).length):(ndc n)[2]'h=.int .i64 n.so:=by cases n;rfl
@[simp] theorem Tw (n:Nd) (h:3<(ndc n).length):(ndc n)[3]'h=.int .i64 n.nn:=by cases n;rfl
@[simp] theorem Tx (n:Nd) (h:4<(ndc n).length):(ndc n)[4]'h=.int .i64 n.mm:=by cases n;rfl
@[simp] theorem Ty (n:Nd) (h:5<(ndc n).length):(ndc n)[5]'h=.slc .shared (avL n.l):=by cases n;rfl
@[simp] theorem Tz (n:Nd):AV.agg (ndc n)=av n:=by cases n;rfl
@[simp] theorem TC (n:Nd):unit (.ag 6) (ndc n)=some (av n):=by cases n;rfl
theorem Hn {α ρ:Type} (l:List α):mY (fun(_:Unit) (_:α)=>(.inl ():Unit ⊕ ρ)) () l=.inl ():=by
 induction l with
 |nil=>rfl
 |cons x l ih=>exact ih
theorem Ho {α ρ:Type} (g:α->Option ρ) (l:List α):mY (fun(_:Unit) (x:α)=>match g x with
  |none=>(.inl ():Unit ⊕ ρ)
  |some r=>.inr r) () l=match l.findSome? g with
   |none=>.inl ()
   |some r=>.inr r:=by
 induction l with
 |nil=>rfl
 |cons x l ih=>
  simp only[mY,List.findSome?_cons];cases g x with
  |none=>exact ih
  |some r=>rfl
theorem jg {α:Type} {mu:Bool} {step:St->Option (Ex×St)} {an:Ann} {k m N:Nat} (xs:List α) (S:Nat->St) (e1:Ex) (s1:St) (hN:xs.length<N) (he:e1≠ .normal)
  (hstep: ∀i x,xs[i]? =some x->i<xs.length->fk (fun e s'=>e=.normal/\eI mu an k m s'=S (i+1)) (step (S i)))
  (hend:step (S xs.length)=some (e1,s1)):dh mu step an k m N (S 0)=some (e1,s1):=by
 have hl:=AR (mu:=mu) (step:=step) (an:=an) (k:=k) (m:=m) (N:=N) xs (fun(_:Unit) _=>(.inl ():Unit ⊕ Unit)) (fun _ i=>S i) (fun _ _=>True) (fun _ _ _=>False)
  (fun _ e s'=>e=e1/\s'=s1) () hN trivial (fun i x _ hx _=>⟨trivial,hstep i x hx (List.getElem?_eq_some_iff.1 hx).1⟩) (fun _ _=>by rw[hend];exact⟨he,rfl,rfl⟩)
 obtain⟨e,s',h1,-,h2⟩:=hl.out;rw[Hn]at h2;obtain⟨rfl,rfl⟩:=h2;exact h1
theorem oW {α ρ:Type} {mu:Bool} {step:St->Option (Ex×St)} {an:Ann} {k m N:Nat} (xs:List α) (g:α->Option ρ) (S:Nat->St) (Q:ρ->Ex->St->Prop) (e1:Ex) (s1:St) (hN:xs.length<N) (he:e1≠ .normal)
  (hstep: ∀i x,xs[i]? =some x->i<xs.length->match g x with
   |none=>fk (fun e s'=>e=.normal/\eI mu an k m s'=S (i+1)) (step (S i))
   |some r=>fk (fun e s'=>e≠ .normal/\Q r e s') (step (S i)))
  (hend:step (S xs.length)=some (e1,s1)):match xs.findSome? g with
   |none=>dh mu step an k m N (S 0)=some (e1,s1)
   |some r=> ∃e s',dh mu step an k m N (S 0)=some (e,s')/\e≠ .normal/\Q r e s':=by
 have hl:=AR (mu:=mu) (step:=step) (an:=an) (k:=k) (m:=m) (N:=N) xs (fun(_:Unit) x=>match g x with
  |none=>(.inl ():Unit ⊕ ρ)
  |some r=>.inr r) (fun _ i=>S i) (fun _ _=>True) Q
  (fun _ e s'=>e=e1/\s'=s1) () hN trivial (fun i x _ hx _=>by
   have:=hstep i x hx (List.getElem?_eq_some_iff.1 hx).1;cases hg:g x with
   |none=>rw[hg]at this;exact⟨trivial,this⟩
   |some r=>rw[hg]at this;exact this) (fun _ _=>by rw[hend];exact⟨he,rfl,rfl⟩)
 obtain⟨e,s',h1,h3,h2⟩:=hl.out;rw[Ho]at h2;cases hf:xs.findSome? g with
 |none=>
  rw[hf]at h2;obtain⟨rfl,rfl⟩:=h2;exact h1
 |some r=>
  rw[hf]at h2;exact⟨e,s',h1,h3,h2⟩
end Go.Proofs.Ae

