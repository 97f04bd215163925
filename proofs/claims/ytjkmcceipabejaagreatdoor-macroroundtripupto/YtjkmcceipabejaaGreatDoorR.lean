/- Further functions: what they answer, and what that means. -/
import Derived.Test.YtjkmcceipabejaaGreatDoorQ
set_option linter.unusedSimpArgs false
set_option linter.unusedVariables false
set_option linter.unusedSectionVars false
namespace Go.Proofs.Ae
open Go Go.RowKit
section
variable {L:List Tk}
theorem argS_mono (f:Str): ∀(h:Nat) (ns:List Str) (s:Ps) (r:List Str×Ps),argS L f h ns s=some r→argS L f (h+1) ns s=some r
 |0,ns,s,r,e=>by simp[argS]at e
 |h+1,ns,s,r,e=>by
  rw[argS]at e⊢;split at e
  ·rename_i h1
   rw[if_pos h1];split at e
   ·rename_i h2
    rw[if_pos h2];exact e
   ·rename_i h2
    rw[if_neg h2];split at e
    ·rename_i h3
     rw[if_pos h3];exact argS_mono f h _ _ r e
    ·rename_i h3
     rw[if_neg h3];exact e
  ·rename_i h1
   rw[if_neg h1];exact e
theorem atmS_mono {h:Nat} {s:Ps} {r:Nd×Ps} (e:atmS L h s=some r):atmS L (h+1) s=some r:=by
 unfold atmS at e⊢;split at e
 ·rename_i h1
  rw[if_pos h1];unfold calS at e⊢;split at e
  ·rename_i h2
   rw[if_pos h2];exact e
  ·rename_i h2
   rw[if_neg h2];simp only[Option.map_eq_some_iff]at e⊢;obtain⟨q,hq,rfl⟩:=e;exact⟨q,argS_mono _ _ _ _ _ hq,rfl⟩
 ·rename_i h1
  rw[if_neg h1];exact e
theorem lvl_mono {s:Ps} {f g:Ps→Option (Nd×Ps)} {r:Nd×Ps} (h: ∀s r,f s=some r→g s=some r) (e:lvl s f=some r):lvl s g=some r:=by
 unfold lvl at e⊢;split at e
 ·rename_i h1
  rw[if_pos h1];exact e
 ·rename_i h1
  rw[if_neg h1];simp only[Option.map_eq_some_iff]at e⊢;obtain⟨q,hq,rfl⟩:=e;exact⟨q,h _ _ hq,rfl⟩
theorem map_mono {α β:Type} {x y:Option α} {f:α→β} {r:β} (h: ∀a,x=some a→y=some a) (e:x.map f=some r):y.map f=some r:=by
 simp only[Option.map_eq_some_iff]at e⊢;obtain⟨q,hq,rfl⟩:=e;exact⟨q,h _ hq,rfl⟩
theorem bind_mono {α β:Type} {x y:Option α} {f g:α→Option β} {r:β} (h: ∀a,x=some a→y=some a) (k: ∀a r,f a=some r→g a=some r) (e:x.bind f=some r):y.bind g=some r:=by
 simp only[Option.bind_eq_some_iff]at e⊢;obtain⟨q,hq,e⟩:=e;exact⟨q,h _ hq,k _ _ e⟩
theorem pr_mono: ∀(h:Nat) (k:Kd) (s:Ps) (r:Nd×Ps),pr' L h k s=some r→pr' L (h+1) k s=some r:=by
 intro h
 induction h with
 |zero=>intro k s r e;simp[pr']at e
 |succ h ih=>
  intro k s r e;cases k with
  |opd=>
   rw[pr']at e⊢;by_cases h0:((tkA L s.i).k=3∨(tkA L s.i).k=4)∧s.e=0
   ·rw[if_pos h0]at e⊢;by_cases w1:(tkA L s.i).tx=wTrue
    ·rw[if_pos w1]at e⊢;exact e
    rw[if_neg w1]at e⊢;by_cases w2:(tkA L s.i).tx=wFalse
    ·rw[if_pos w2]at e⊢;exact e
    rw[if_neg w2]at e⊢;by_cases w3:(tkA L s.i).tx=wSize
    ·rw[if_pos w3]at e⊢;exact e
    rw[if_neg w3]at e⊢;by_cases w4:(tkA L s.i).tx=wOne
    ·rw[if_pos w4]at e⊢;exact e
    rw[if_neg w4]at e⊢;by_cases w5:(tkA L s.i).tx=wNot
    ·rw[if_pos w5]at e⊢;exact lvl_mono (fun s r=>map_mono fun a=>ih _ _ a) e
    rw[if_neg w5]at e⊢;by_cases w6:(tkA L s.i).tx=wSome
    ·rw[if_pos w6]at e⊢;exact lvl_mono (fun s r=>map_mono fun a=>ih _ _ a) e
    rw[if_neg w6]at e⊢;by_cases w7:(tkA L s.i).tx=wEvery
    ·rw[if_pos w7]at e⊢;exact lvl_mono (fun s r=>map_mono fun a=>ih _ _ a) e
    rw[if_neg w7]at e⊢;by_cases w8:(tkA L s.i).tx=wL
    ·rw[if_pos w8]at e⊢;exact lvl_mono (fun s r=>map_mono fun a=>ih _ _ a) e
    rw[if_neg w8]at e⊢;exact atmS_mono e
   ·rw[if_neg h0]at e⊢;exact atmS_mono e
  |ands=>rw[pr']at e⊢;exact bind_mono (ih _ _) (fun a r=>ih _ _ r) e
  |ors=>rw[pr']at e⊢;exact bind_mono (ih _ _) (fun a r=>ih _ _ r) e
  |imp=>rw[pr']at e⊢;exact bind_mono (ih _ _) (fun a r=>ih _ _ r) e
  |fml=>rw[pr']at e⊢;exact bind_mono (ih _ _) (fun a r=>ih _ _ r) e
  |tAnd n=>
   rw[pr']at e⊢;split at e
   ·rename_i h1
    rw[if_pos h1];exact bind_mono (ih _ _) (fun a r=>ih _ _ r) e
   ·rename_i h1
    rw[if_neg h1];exact e
  |tOr n=>
   rw[pr']at e⊢;split at e
   ·rename_i h1
    rw[if_pos h1];exact bind_mono (ih _ _) (fun a r=>ih _ _ r) e
   ·rename_i h1
    rw[if_neg h1];exact e
  |tIff n=>
   rw[pr']at e⊢;split at e
   ·rename_i h1
    rw[if_pos h1];exact bind_mono (ih _ _) (fun a r=>ih _ _ r) e
   ·rename_i h1
    rw[if_neg h1];exact e
  |tImp l=>
   rw[pr']at e⊢;split at e
   ·rename_i h1
    rw[if_pos h1];exact bind_mono (ih _ _) (fun a r=>ih _ _ r) e
   ·rename_i h1
    rw[if_neg h1];exact e
theorem pr_le {h h':Nat} (hh:h≤h') {k:Kd} {s:Ps} {r:Nd×Ps} (e:pr' L h k s=some r):pr' L h' k s=some r:=by
 induction hh with
 |refl=>exact e
 |step _ ih=>exact pr_mono _ _ _ _ ih
def Prs (L:List Tk) (k:Kd) (s:Ps) (r:Nd×Ps):Prop:= ∃h,pr' L h k s=some r
theorem Prs.det {k:Kd} {s:Ps} {r r':Nd×Ps} (h:Prs L k s r) (h':Prs L k s r'):r=r':=by
 obtain⟨a,e⟩:=h;obtain⟨b,e'⟩:=h';have e1:=pr_le (Nat.le_max_left a b) e;have e2:=pr_le (Nat.le_max_right a b) e';rw[e1]at e2;exact Option.some.inj e2
theorem two_h {k1 k2:Kd} {s1 s2:Ps} {r1 r2:Nd×Ps} (h1:Prs L k1 s1 r1) (h2:Prs L k2 s2 r2): ∃h,pr' L h k1 s1=some r1∧pr' L h k2 s2=some r2:=by
 obtain⟨a,e⟩:=h1;obtain⟨b,e'⟩:=h2;exact⟨max a b,pr_le (Nat.le_max_left a b) e,pr_le (Nat.le_max_right a b) e'⟩
theorem prs_ands {s:Ps} {r1 r:Nd×Ps} (h1:Prs L .opd s r1) (h2:Prs L (.tAnd r1.1) r1.2 r):Prs L .ands s r:=by
 obtain⟨h,e1,e2⟩:=two_h h1 h2;exact⟨h+1,by rw[pr',e1];exact e2⟩
theorem prs_tAnd {n:Nd} {s:Ps} {r1 r:Nd×Ps} (hs:isS L s wAnd=true) (h1:Prs L .opd (adv s) r1) (h2:Prs L (.tAnd (nd 12 [n,r1.1])) r1.2 r):Prs L (.tAnd n) s r:=by
 obtain⟨h,e1,e2⟩:=two_h h1 h2;exact⟨h+1,by rw[pr',if_pos hs,e1];exact e2⟩
theorem prs_tAnd0 {n:Nd} {s:Ps} (hs:isS L s wAnd=false):Prs L (.tAnd n) s (n,s):=⟨1,by rw[pr',if_neg (by simp[hs])]⟩
theorem prs_ors {s:Ps} {r1 r:Nd×Ps} (h1:Prs L .ands s r1) (h2:Prs L (.tOr r1.1) r1.2 r):Prs L .ors s r:=by
 obtain⟨h,e1,e2⟩:=two_h h1 h2;exact⟨h+1,by rw[pr',e1];exact e2⟩
theorem prs_tOr {n:Nd} {s:Ps} {r1 r:Nd×Ps} (hs:isS L s wOr=true) (h1:Prs L .ands (adv s) r1) (h2:Prs L (.tOr (nd 13 [n,r1.1])) r1.2 r):Prs L (.tOr n) s r:=by
 obtain⟨h,e1,e2⟩:=two_h h1 h2;exact⟨h+1,by rw[pr',if_pos hs,e1];exact e2⟩
theorem prs_tOr0 {n:Nd} {s:Ps} (hs:isS L s wOr=false):Prs L (.tOr n) s (n,s):=⟨1,by rw[pr',if_neg (by simp[hs])]⟩
theorem prs_imp {s:Ps} {r1 r:Nd×Ps} (h1:Prs L .ors s r1) (h2:Prs L (.tImp [r1.1]) r1.2 r):Prs L .imp s r:=by
 obtain⟨h,e1,e2⟩:=two_h h1 h2;exact⟨h+1,by rw[pr',e1];exact e2⟩
theorem prs_tImp {l:List Nd} {s:Ps} {r1 r:Nd×Ps} (hs:isS L s wImp=true) (h1:Prs L .ors (adv s) r1) (h2:Prs L (.tImp (l++[r1.1])) r1.2 r):Prs L (.tImp l) s r:=by
 obtain⟨h,e1,e2⟩:=two_h h1 h2;exact⟨h+1,by rw[pr',if_pos hs,e1];exact e2⟩
theorem prs_tImp0 {l:List Nd} {s:Ps} (hs:isS L s wImp=false):Prs L (.tImp l) s (chn l,s):=⟨1,by rw[pr',if_neg (by simp[hs])]⟩
theorem prs_fml {s:Ps} {r1 r:Nd×Ps} (h1:Prs L .imp s r1) (h2:Prs L (.tIff r1.1) r1.2 r):Prs L .fml s r:=by
 obtain⟨h,e1,e2⟩:=two_h h1 h2;exact⟨h+1,by rw[pr',e1];exact e2⟩
theorem prs_tIff {n:Nd} {s:Ps} {r1 r:Nd×Ps} (hs:isS L s wIff=true) (h1:Prs L .imp (adv s) r1) (h2:Prs L (.tIff (nd 15 [n,r1.1])) r1.2 r):Prs L (.tIff n) s r:=by
 obtain⟨h,e1,e2⟩:=two_h h1 h2;exact⟨h+1,by rw[pr',if_pos hs,e1];exact e2⟩
theorem prs_tIff0 {n:Nd} {s:Ps} (hs:isS L s wIff=false):Prs L (.tIff n) s (n,s):=⟨1,by rw[pr',if_neg (by simp[hs])]⟩
end
end Go.Proofs.Ae
namespace Go.Proofs.Ae
open Go Go.RowKit
set_option maxRecDepth 100000
def wt (w:Str):TkP:=if isId w=true then(1,w,0)else if isMrk (w.headD 0)=true then(4,w,0)else if isDig (w.headD 0)=true then(2,w,(runF w).1.v)else(3,w,0)
theorem wt_id {w:Str} (h:isId w=true):wt w=(1,w,0):=by unfold wt;rw[if_pos h]
def digB (k:Nat):Bool:=let w:=Lib.decDigits k;!w.isEmpty&&w.all isRun&&decide ((runF w).2=0)&&decide (prj (runF w).1=(2,w,(k:Int)))&&decide (wt w=(2,w,(k:Int)))
theorem dig_all:(List.range 65).all digB=true:=by kernel_rfl
theorem wt_dig {k:Nat} (h:k≤64):wt (Lib.decDigits k)=(2,Lib.decDigits k,(k:Int))∧okT (wt (Lib.decDigits k)):=by
 have:=List.all_eq_true.1 dig_all k (List.mem_range.2 (by omega));unfold digB at this;simp only[Bool.and_eq_true,decide_eq_true_eq,Bool.not_eq_true',List.isEmpty_eq_false_iff]at this;obtain⟨⟨⟨⟨h1,h2⟩,h3⟩,h4⟩,h5⟩:=this;refine⟨h5,?_⟩;rw[h5];exact .inr ⟨h1,h2,h3,h4⟩
def fixB (w:Str):Bool:=(match w with
 |[c]=>isMrk c&&decide (wt w=(4,w,0))
 |_=>false)||(!w.isEmpty&&w.all isRun&&decide ((runF w).2=0)&&decide (prj (runF w).1=(3,w,0))&&decide (wt w=(3,w,0)))
theorem fix_all:wdL.all fixB=true:=by kernel_rfl
theorem wt_fix {w:Str} (h:w∈wdL):(wt w=(4,w,0)∨wt w=(3,w,0))∧okT (wt w):=by
 have:=List.all_eq_true.1 fix_all w h;unfold fixB at this;rw[Bool.or_eq_true]at this;rcases this with h1|h1
 ·split at h1
  ·rename_i c
   simp only[Bool.and_eq_true,decide_eq_true_eq]at h1;refine⟨.inl h1.2,?_⟩;rw[h1.2];exact .inl ⟨c,h1.1,rfl⟩
  ·cases h1
 ·simp only[Bool.and_eq_true,decide_eq_true_eq,Bool.not_eq_true',List.isEmpty_eq_false_iff]at h1;obtain⟨⟨⟨⟨h1,h2⟩,h3⟩,h4⟩,h5⟩:=h1;refine⟨.inr h5,?_⟩;rw[h5];exact .inr ⟨h1,h2,h3,h4⟩
theorem wt_ok {w:Str} (h:Wd w):okT (wt w)∧(wt w).2.1=w:=by
 rcases h with h|⟨k,hk,rfl⟩|h
 ·rw[wt_id h];refine⟨?_,rfl⟩;have h':=h;unfold isId at h';simp only[Bool.and_eq_true,decide_eq_true_eq,Bool.not_eq_true',List.isEmpty_eq_false_iff]at h';obtain⟨⟨⟨h1,h2⟩,h3⟩,h4⟩:=h';refine .inr ⟨h1,h2,h3,?_⟩;have ht:=runF_tx h3;have hv:(runF w).1.v=0:=by
   unfold runF at h4⊢;split
   ·rfl
   ·rename_i c1
    rw[if_neg c1]at h4;split
    ·rename_i c2
     rw[if_pos c2]at h4;cases h4
    ·rename_i c2
     rw[if_neg c2]at h4;split
     ·rfl
     ·rename_i c3
      split<;>rfl
  simp only[prj,ht,hv,h4]
 ·obtain⟨h1,h2⟩:=wt_dig hk;exact⟨h2,by rw[h1]⟩
 ·obtain⟨h1,h2⟩:=wt_fix h;refine⟨h2,?_⟩;rcases h1 with h1|h1<;>rw[h1]
def AtW (L:List Tk) (i:Nat) (ws:List Str):Prop:= ∀j w,ws[j]? =some w→prj (tkA L (i+j))=wt w
section
variable {L:List Tk} {i o:Nat}
theorem AtW.hd {w:Str} {ws:List Str} (h:AtW L i (w::ws)):prj (tkA L i)=wt w:=h 0 w rfl
theorem AtW.tl {w:Str} {ws:List Str} (h:AtW L i (w::ws)):AtW L (i+1) ws:=fun j x hx=>by
 have:=h (j+1) x (by simpa using hx)
 rwa [show i+(j+1)=i+1+j by omega]at this
theorem AtW.l {a b:List Str} (h:AtW L i (a++b)):AtW L i a:=fun j x hx=>h j x (get_old hx b)
theorem AtW.r {a b:List Str} (h:AtW L i (a++b)):AtW L (i+a.length) b:=fun j x hx=>by
 have:=h (a.length+j) x (by rw[List.getElem?_append_right (by omega),Nat.add_sub_cancel_left];exact hx)
 rwa [←Nat.add_assoc]at this
abbrev st (i o:Nat):Ps:=⟨i,0,o⟩
theorem is_of {k v:Int} {x w:Str} (h:prj (tkA L i)=(k,x,v)):isS L (st i o) w=((decide (k=3)||decide (k=4))&&(x==w)):=by
 simp only[prj,Prod.mk.injEq]at h;obtain⟨h1,h2,h3⟩:=h;unfold isS;simp only[h1,h2];simp
theorem is_fix {w:Str} (hw:w∈wdL) (h:prj (tkA L i)=wt w):isS L (st i o) w=true:=by
 rcases(wt_fix hw).1 with e|e<;>rw[e]at h<;>rw[is_of h]<;>simp
theorem is_ne {w x:Str} (hx:Wd x) (h:prj (tkA L i)=wt x) (hne:x≠w):isS L (st i o) w=false:=by
 have e:=(wt_ok hx).2;rcases hh:wt x with⟨k,tx,v⟩
 rw[hh]at h e;rw[is_of h];simp only at e;subst e;simp[hne]
theorem is_id {w x:Str} (hx:isId x=true) (h:prj (tkA L i)=wt x):isS L (st i o) w=false:=by
 rw[wt_id hx]at h;rw[is_of h];simp
theorem name_id {x:Str} (hx:isId x=true) (h:prj (tkA L i)=wt x):nameS L (st i o)=(x,st (i+1) o):=by
 rw[wt_id hx]at h;simp only[prj,Prod.mk.injEq]at h;unfold nameS;simp only[h.1,h.2.1,if_true,adv]
theorem num_at {k:Int} {lo hi:Int} (hk:0≤k∧k≤64) (h:prj (tkA L i)=wt (numW k)) (h1:lo≤k) (h2:k≤hi):numS L (st i o) lo hi=(k,st (i+1) o):=by
 unfold numW at h;rw[(wt_dig (show k.toNat≤64 by omega)).1]at h;simp only[prj,Prod.mk.injEq]at h;have e:(tkA L i).v=k:=by rw[h.2.2];omega
 have e1:numT L (st i o) lo hi=st i o:=by
  unfold numT;simp only[h.1,if_true,e];rw[if_neg (by omega)]
 unfold numS;rw[e1];simp only[e,if_true,adv]
theorem need_fix {w:Str} (hw:w∈wdL) (h:prj (tkA L i)=wt w):needS L (st i o) w=st (i+1) o:=by
 unfold needS;rw[is_fix hw h];rfl
theorem srt_at {k:Int} (hk:0≤k∧k<4) (h:prj (tkA L i)=wt (snm k)):srtS L (st i o)=(k,st (i+1) o):=by
 have hd: ∀j:Int,0≤j∧j<4→isS L (st i o) (snm j)=decide (j=k):=by
  intro j hj;by_cases e:j=k
  ·subst e;rw[is_fix (by
    rcases(show j=0∨j=1∨j=2∨j=3 by omega)with rfl|rfl|rfl|rfl<;>decide) h]
   simp
  ·rw[is_ne (snm_wd hk) h ?_]
   ·simp[e]
   ·rcases(show j=0∨j=1∨j=2∨j=3 by omega)with rfl|rfl|rfl|rfl<;>rcases(show k=0∨k=1∨k=2∨k=3 by omega)with rfl|rfl|rfl|rfl<;>first|exact absurd rfl e|decide
 unfold srtS srtL srtL srtL srtL;rw[hd 0 (by decide),hd 1 (by decide),hd 2 (by decide),hd 3 (by decide)];rcases(show k=0∨k=1∨k=2∨k=3 by omega)with rfl|rfl|rfl|rfl<;>rfl
end
section
variable {L:List Tk} {i o:Nat}
theorem kt_id {x:Str} (hx:isId x=true) (h:prj (tkA L i)=wt x):(tkA L i).k=1∧(tkA L i).tx=x:=by
 rw[wt_id hx]at h;simp only[prj,Prod.mk.injEq]at h;exact⟨h.1,h.2.1⟩
theorem kt_fix {w:Str} (hw:w∈wdL) (h:prj (tkA L i)=wt w):((tkA L i).k=3∨(tkA L i).k=4)∧(tkA L i).tx=w:=by
 rcases(wt_fix hw).1 with e|e<;>rw[e]at h<;>simp only[prj,Prod.mk.injEq]at h
 ·exact⟨.inr h.1,h.2.1⟩
 ·exact⟨.inl h.1,h.2.1⟩
theorem prs_atm {x:Str} (hx:isId x=true) (h:prj (tkA L i)=wt x) {r:Nd×Ps} (e: ∃k,atmS L k (st i o)=some r):Prs L .opd (st i o) r:=by
 obtain⟨k,e⟩:=e;have:=(kt_id hx h).1;refine⟨k+1,?_⟩;rw[pr',if_neg (by simp only;omega)];exact e
theorem arg_at (f:Str): ∀(xs ns:List Str) (i:Nat),xs≠[]→(∀x∈xs,isId x=true)→ns.length+xs.length≤17→AtW L i (comW xs++[wR])→ ∃h,argS L f h ns (st i o)=some (ns++xs,st (i+(comW xs).length+1) o)
 |[],_,_,h,_,_,_=>absurd rfl h
 |[x],ns,i,_,hx,hl,h=>by
  have hx1:=hx x (by simp);have h0:prj (tkA L i)=wt x:=h.hd;have h1:prj (tkA L (i+1))=wt wR:=h.tl.hd;refine⟨1,?_⟩;rw[argS];rw[if_pos rfl,if_neg (by simp only[List.length_cons,List.length_nil]at hl;omega),name_id hx1 h0];simp only;rw[is_ne (wdM (by decide)) h1 (by decide),if_neg (by simp),need_fix (by decide) h1];rfl
 |x::y::l,ns,i,_,hx,hl,h=>by
  have hx1:=hx x (by simp);have h0:prj (tkA L i)=wt x:=h.hd;have h1:prj (tkA L (i+1))=wt wCom:=h.tl.hd;have h2:AtW L (i+1+1) (comW (y::l)++[wR]):=h.tl.tl;obtain⟨k,hk⟩:=arg_at f (y::l) (ns++[x]) (i+1+1) (by simp) (fun z hz=>hx z (List.mem_cons_of_mem _ hz)) (by simp only[List.length_append,List.length_cons,List.length_nil]at hl⊢;omega) h2;refine⟨k+1,?_⟩;rw[argS];rw[if_pos rfl,if_neg (by simp only[List.length_cons]at hl;omega),name_id hx1 h0];simp only;rw[is_fix (by decide) h1,if_pos rfl];have e:adv (st (i+1) o)=st (i+1+1) o:=rfl;rw[e,hk];simp only[comW,List.length_cons,List.append_assoc,List.singleton_append,Option.some.injEq,Prod.mk.injEq,true_and]
  congr 1
  omega
theorem rel_at {x y:Str} {op:Int} (ho:2≤op∧op≤6) (hy:isId y=true) (h1:prj (tkA L i)=wt (opw op)) (h2:prj (tkA L (i+1))=wt y):relS L x (st i o) 2 wRel=(.mk op [x,y] 0 0 0 [],st (i+1+1) o):=by
 have hn:=name_id (o:=o) hy h2;have ha:adv (st i o)=st (i+1) o:=rfl;have hd: ∀j:Int,2≤j∧j≤6→isS L (st i o) (opw j)=decide (j=op):=by
  intro j hj;by_cases e:j=op
  ·subst e;rw[is_fix (by
    rcases(show j=2∨j=3∨j=4∨j=5∨j=6 by omega)with rfl|rfl|rfl|rfl|rfl<;>decide) h1]
   simp
  ·rw[is_ne (opw_wd (.inl ho)) h1 ?_]
   ·simp[e]
   ·rcases(show j=2∨j=3∨j=4∨j=5∨j=6 by omega)with rfl|rfl|rfl|rfl|rfl<;>rcases(show op=2∨op=3∨op=4∨op=5∨op=6 by omega)with rfl|rfl|rfl|rfl|rfl<;>first|exact absurd rfl e|decide
 have e:wRel=[opw 2,opw 3,opw 4,opw 5,opw 6]:=rfl;rw[e];unfold relS relS relS relS relS;rw[hd 2 (by decide),hd 3 (by decide),hd 4 (by decide),hd 5 (by decide),hd 6 (by decide),ha,hn];rcases(show op=2∨op=3∨op=4∨op=5∨op=6 by omega)with rfl|rfl|rfl|rfl|rfl<;>rfl
theorem prs_atom {n:Nd} (hv:ndE n=0) (ho:n.op≤10) (h:AtW L i (atmT n.op n.ns n.nn n.mm)):Prs L .opd (st i o) (n,st (i+(atmT n.op n.ns n.nn n.mm).length) o):=by
 have hk:=vk_of hv;clear hv;cases hk with
 |cst op hc=>
  rcases hc with rfl|rfl
  ·have h0:prj (tkA L i)=wt wTrue:=h.hd;obtain⟨k0,t0⟩:=kt_fix (by decide) h0;refine⟨1,?_⟩;rw[pr',if_pos ⟨k0,rfl⟩,if_pos t0];rfl
  ·have h0:prj (tkA L i)=wt wFalse:=h.hd;obtain⟨k0,t0⟩:=kt_fix (by decide) h0;refine⟨1,?_⟩;rw[pr',if_pos ⟨k0,rfl⟩,if_neg (by rw[t0];decide),if_pos t0];rfl
 |two op x y hop hx hy=>
  have e:atmT (Nd.mk op [x,y] 0 0 0 []).op (Nd.mk op [x,y] 0 0 0 []).ns (Nd.mk op [x,y] 0 0 0 []).nn (Nd.mk op [x,y] 0 0 0 []).mm=[x,opw op,y]:=by
   show atmT op [x,y] 0 0=[x,opw op,y];unfold atmT;rw[if_neg (by omega),if_neg (by omega),if_neg (by omega),if_neg (by omega),if_neg (by omega),if_neg (by omega)];rfl
  rw[e]at h⊢;have h1:prj (tkA L (i+1))=wt (opw op):=h.tl.hd;have hw:Wd (opw op):=opw_wd (.inl hop);refine prs_atm hx h.hd ⟨0,?_⟩;unfold atmS;rw[name_id hx h.hd];simp only;have hne:opw op≠wL∧opw op≠wIs:=by
   rcases(show op=2∨op=3∨op=4∨op=5∨op=6 by omega)with rfl|rfl|rfl|rfl|rfl<;>decide
  rw[is_ne hw h1 hne.1,if_neg (by simp),is_ne hw h1 hne.2,if_neg (by simp),rel_at hop hy h1 h.tl.tl.hd];rfl
 |lab x k hx hk=>
  have h1:prj (tkA L (i+1))=wt wIs:=h.tl.hd;refine prs_atm hx h.hd ⟨0,?_⟩;unfold atmS;rw[name_id hx h.hd];simp only;have ha:adv (st (i+1) o)=st (i+1+1) o:=rfl;rw[is_ne (wdM (by decide)) h1 (by decide),if_neg (by simp),is_fix (by decide) h1,if_pos rfl,ha,num_at (k:=k) (by omega) h.tl.tl.hd hk.1 hk.2];rfl
 |smd x k m hx hk=>
  have h0:prj (tkA L i)=wt wSize:=h.hd;have h2:prj (tkA L (i+1+1))=wt wMod:=h.tl.tl.hd;have h4:prj (tkA L (i+1+1+1+1))=wt wIs:=h.tl.tl.tl.tl.hd;obtain⟨k0,t0⟩:=kt_fix (by decide) h0;refine⟨1,?_⟩;have ha:adv (st i o)=st (i+1) o:=rfl;rw[pr',if_pos ⟨k0,rfl⟩,if_neg (by rw[t0];decide),if_neg (by rw[t0];decide),if_pos t0];unfold sizS;rw[ha,name_id hx h.tl.hd];simp only;rw[need_fix (by decide) h2,num_at (k:=m) (by omega) h.tl.tl.tl.hd hk.1 hk.2.1];simp only;rw[need_fix (by decide) h4,num_at (k:=k) (by omega) h.tl.tl.tl.tl.tl.hd hk.2.2.1 (by omega)];rfl
 |sng x hx=>
  have h0:prj (tkA L i)=wt wOne:=h.hd;obtain⟨k0,t0⟩:=kt_fix (by decide) h0;refine⟨1,?_⟩;have ha:adv (st i o)=st (i+1) o:=rfl;rw[pr',if_pos ⟨k0,rfl⟩,if_neg (by rw[t0];decide),if_neg (by rw[t0];decide),if_neg (by rw[t0];decide),if_pos t0];unfold oneS;rw[ha,name_id hx h.tl.hd];rfl
 |cal f xs hl hx=>
  have e:atmT (Nd.mk 10 (f::xs) 0 0 0 []).op (Nd.mk 10 (f::xs) 0 0 0 []).ns (Nd.mk 10 (f::xs) 0 0 0 []).nn (Nd.mk 10 (f::xs) 0 0 0 []).mm=f::wL::(comW xs++[wR]):=rfl;rw[e]at h⊢;simp only[List.all_cons,Bool.and_eq_true,List.all_eq_true]at hx;have h1:prj (tkA L (i+1))=wt wL:=h.tl.hd;have h2:AtW L (i+1+1) (comW xs++[wR]):=h.tl.tl;have ha:adv (st (i+1) o)=st (i+1+1) o:=rfl;refine prs_atm hx.1 h.hd ?_;cases xs with
  |nil=>
   have h3:prj (tkA L (i+1+1))=wt wR:=h2.hd;refine⟨0,?_⟩;unfold atmS;rw[name_id hx.1 h.hd];simp only;rw[is_fix (by decide) h1,if_pos rfl];unfold calS;rw[ha,is_fix (by decide) h3,if_pos rfl];rfl
  |cons y ys=>
   have hy:isId y=true:=hx.2 y (by simp);have h3:prj (tkA L (i+1+1))=wt y:=by
    cases ys with
    |nil=>exact h2.hd
    |cons z zs=>exact h2.hd
   obtain⟨k,hk⟩:=arg_at (L:=L) (o:=o) f (y::ys) [f] (i+1+1) (by simp) hx.2 (by simp only[List.length_cons,List.length_nil]at hl⊢;omega) h2;refine⟨k,?_⟩;unfold atmS;rw[name_id hx.1 h.hd];simp only;rw[is_fix (by decide) h1,if_pos rfl];unfold calS;rw[ha,is_id hy h3,if_neg (by simp),hk];simp only[Option.map_some,List.singleton_append,List.length_cons,List.length_append,List.length_nil,Option.some.injEq,Prod.mk.injEq,true_and]
   congr 1
   omega
 |not a ha=>exact absurd ho (by simp[nd,Nd.op])
 |bin op a b hop ha hb=>exact absurd ho (by have:(nd op [a,b]).op=op:=rfl;omega)
 |qnt op x so a hop hx hs ha=>exact absurd ho (by have:(qn op x so a).op=op:=rfl;omega)
end
def Fo (L:List Tk) (j:Nat) (ws:List Str):Prop:= ∀w∈ws,∀o,isS L (st j o) w=false
abbrev ops4:List Str:=[wAnd,wOr,wImp,wIff]
theorem Fo.of {L:List Tk} {j:Nat} {x:Str} {ws:List Str} (hx:Wd x) (h:prj (tkA L j)=wt x) (hn: ∀w∈ws,x≠w):Fo L j ws:=fun w hw o=>is_ne hx h (hn w hw)
theorem Fo.sub {L:List Tk} {j:Nat} {ws ws':List Str} (h:Fo L j ws) (hs: ∀w∈ws',w∈ws):Fo L j ws':=fun w hw=>h w (hs w hw)
section
variable {L:List Tk}
def P4 (L:List Tk) (n:Nd) (s s':Ps):Prop:= ∀r,Prs L (.tAnd n) s' r→Prs L .ands s r
def P3 (L:List Tk) (n:Nd) (s s':Ps):Prop:= ∀r,Prs L (.tOr n) s' r→Prs L .ors s r
def P2 (L:List Tk) (n:Nd) (s s':Ps):Prop:= ∃fl,fl≠[]∧chn fl=n∧ ∀l r,Prs L (.tImp (l++fl)) s' r→ ∃r1,Prs L .ors s r1∧Prs L (.tImp (l++[r1.1])) r1.2 r
def P1 (L:List Tk) (n:Nd) (s s':Ps):Prop:= ∀r,Prs L (.tIff n) s' r→Prs L .fml s r
theorem lw54 {n:Nd} {s s':Ps} (h:Prs L .opd s (n,s')):P4 L n s s':=fun r k=>prs_ands h k
theorem lw43 {n:Nd} {s s':Ps} (h:P4 L n s s') (f:isS L s' wAnd=false):P3 L n s s':=fun r k=>prs_ors (h _ (prs_tAnd0 f)) k
theorem lw32 {n:Nd} {s s':Ps} (h:P3 L n s s') (f:isS L s' wOr=false):P2 L n s s':=⟨[n],by simp,rfl,fun l r k=>⟨_,h _ (prs_tOr0 f),k⟩⟩
theorem P2.imp {n:Nd} {s s':Ps} (h:P2 L n s s') (f:isS L s' wImp=false):Prs L .imp s (n,s'):=by
 obtain⟨fl,hne,hc,h⟩:=h;obtain⟨r1,h1,h2⟩:=h [] (chn fl,s') (prs_tImp0 f);rw[←hc];exact prs_imp h1 h2
theorem lw21 {n:Nd} {s s':Ps} (h:P2 L n s s') (f:isS L s' wImp=false):P1 L n s s':=fun r k=>prs_fml (h.imp f) k
theorem P1.fml {n:Nd} {s s':Ps} (h:P1 L n s s') (f:isS L s' wIff=false):Prs L .fml s (n,s'):=h _ (prs_tIff0 f)
structure Lv (L:List Tk) (n:Nd) (least:Int) (i j o:Nat):Prop where
 l5:5≤least→Prs L .opd (st i o) (n,st j o)
 l4:4≤least→P4 L n (st i o) (st j o)
 l3:3≤least→Fo L j [wAnd]→P3 L n (st i o) (st j o)
 l2:2≤least→Fo L j [wAnd,wOr]→P2 L n (st i o) (st j o)
 l1:Fo L j [wAnd,wOr,wImp]→P1 L n (st i o) (st j o)
theorem lv5 {n:Nd} {least:Int} {i j o:Nat} (h:Prs L .opd (st i o) (n,st j o)):Lv L n least i j o where
 l5:=fun _=>h
 l4:=fun _=>lw54 h
 l3:=fun _ f=>lw43 (lw54 h) (f _ (by simp) _)
 l2:=fun _ f=>lw32 (lw43 (lw54 h) (f _ (by simp) _)) (f _ (by simp) _)
 l1:=fun f=>lw21 (lw32 (lw43 (lw54 h) (f _ (by simp) _)) (f _ (by simp) _)) (f _ (by simp) _)
theorem lv4 {n:Nd} {i j o:Nat} (h:P4 L n (st i o) (st j o)):Lv L n 4 i j o where
 l5:=fun h=>by omega
 l4:=fun _=>h
 l3:=fun _ f=>lw43 h (f _ (by simp) _)
 l2:=fun _ f=>lw32 (lw43 h (f _ (by simp) _)) (f _ (by simp) _)
 l1:=fun f=>lw21 (lw32 (lw43 h (f _ (by simp) _)) (f _ (by simp) _)) (f _ (by simp) _)
theorem lv3 {n:Nd} {i j o:Nat} (h:Fo L j [wAnd]→P3 L n (st i o) (st j o)):Lv L n 3 i j o where
 l5:=fun h=>by omega
 l4:=fun h=>by omega
 l3:=fun _=>h
 l2:=fun _ f=>lw32 (h (f.sub (by simp))) (f _ (by simp) _)
 l1:=fun f=>lw21 (lw32 (h (f.sub (by simp))) (f _ (by simp) _)) (f _ (by simp) _)
theorem lv2 {n:Nd} {i j o:Nat} (h:Fo L j [wAnd,wOr]→P2 L n (st i o) (st j o)):Lv L n 2 i j o where
 l5:=fun h=>by omega
 l4:=fun h=>by omega
 l3:=fun h=>by omega
 l2:=fun _=>h
 l1:=fun f=>lw21 (h (f.sub (by simp))) (f _ (by simp) _)
theorem lv1 {n:Nd} {i j o:Nat} (h:Fo L j [wAnd,wOr,wImp]→P1 L n (st i o) (st j o)):Lv L n 1 i j o where
 l5:=fun h=>by omega
 l4:=fun h=>by omega
 l3:=fun h=>by omega
 l2:=fun h=>by omega
 l1:=h
theorem Lv.low {n:Nd} {a b:Int} {i j o:Nat} (h:Lv L n a i j o) (hab:b≤a):Lv L n b i j o where
 l5:=fun k=>h.l5 (by omega)
 l4:=fun k=>h.l4 (by omega)
 l3:=fun k=>h.l3 (by omega)
 l2:=fun k=>h.l2 (by omega)
 l1:=h.l1
def Pn (L:List Tk) (n:Nd):Prop:= ∀last i o,AtW L i (prN n last)→o+2*dp n≤256→(last=true→Fo L (i+(prN n last).length) ops4)→(last=false→ ¬(n.op=16∨n.op=17))→Lv L n (tgt n.op) i (i+(prN n last).length) o
theorem Pn.opn {x:Nd} (h:Pn L x) {least:Int} {last:Bool} {i o:Nat} (ha:AtW L i (opN least x last)) (ho:o+2*dp x+1≤256) (hf:last=true→Fo L (i+(opN least x last).length) ops4):Lv L x least i (i+(opN least x last).length) o:=by
 unfold opN at*;by_cases hk:okP least x.op last=true
 ·rw[if_pos hk]at*;unfold okP at hk;simp only[Bool.and_eq_true,decide_eq_true_eq]at hk;refine(h last i o ha (by omega) hf fun hl=>?_).low hk.1;rw[hl]at hk;simpa using hk.2
 ·rw[if_neg hk]at*;have h0:prj (tkA L i)=wt wL:=ha.hd;have h1:AtW L (i+1) (prN x true):=ha.tl.l;have h2:prj (tkA L (i+1+(prN x true).length))=wt wR:=ha.tl.r.hd;have hp:=(h true (i+1) (o+1) h1 (by omega) (fun _=>Fo.of (wdM (by decide)) h2 (by decide)) (by simp)).l1 (Fo.of (wdM (by decide)) h2 (by decide));obtain⟨k,hk⟩:=hp.fml (is_ne (wdM (by decide)) h2 (by decide));obtain⟨k0,t0⟩:=kt_fix (by decide) h0;have e:i+(wL::(prN x true++[wR])).length=i+1+(prN x true).length+1:=by simp;omega
  rw[e];refine lv5 ⟨k+1,?_⟩;rw[pr',if_pos ⟨k0,rfl⟩,if_neg (by rw[t0];decide),if_neg (by rw[t0];decide),if_neg (by rw[t0];decide),if_neg (by rw[t0];decide),if_neg (by rw[t0];decide),if_neg (by rw[t0];decide),if_neg (by rw[t0];decide),if_pos t0];unfold lvl;rw[if_neg (by simp only;omega)];have es:(⟨(st i o).i+1,(st i o).e,(st i o).o+1⟩:Ps)=st (i+1) (o+1):=rfl;rw[es];dsimp only;rw[hk];simp only[Option.map_some];rw[need_fix (by decide) h2];rfl
theorem chn_cons {a:Nd} {l:List Nd} (h:l≠[]):chn (a::l)=nd 14 [a,chn l]:=by
 cases l with
 |nil=>exact absurd rfl h
 |cons b l=>rfl
theorem pn_all (L:List Tk): ∀(sn:Nat) (n:Nd),sz n≤sn→ndE n=0→Pn L n:=by
 intro sn
 induction sn with
 |zero=>intro n h;have:=sz_eq n;omega
 |succ sn ih=>
  intro n hsn hv last i o hat ho hlast hq;have ih': ∀x∈n.l,Pn L x:=fun x hx=>ih x (by have:=sz_child hx;omega) (ndE_kid hv hx);have hd': ∀x∈n.l,dp x+1≤dp n:=fun x hx=>by have:=dp_child hx;omega
  by_cases hop:n.op≤10
  ·rcases prk hv with⟨_,hl,h6,hpr⟩|⟨h,_⟩|⟨h,_⟩|⟨h,_⟩
   ·rw[hpr]at hat⊢;exact lv5 (prs_atom hv hop hat)
   ·omega
   ·omega
   ·omega
  have hk:=vk_of hv;clear hv;cases hk with
  |cst op hc=>exact absurd (show(nd op []).op≤10 by have:(nd op []).op=op:=rfl;omega) hop
  |two op x y h hx hy=>exact absurd (show(Nd.mk op [x,y] 0 0 0 []).op≤10 by have:(Nd.mk op [x,y] 0 0 0 []).op=op:=rfl;omega) hop
  |lab x k hx h=>exact absurd (show(7:Int)≤10 by decide) hop
  |smd x k m hx h=>exact absurd (show(8:Int)≤10 by decide) hop
  |sng x hx=>exact absurd (show(9:Int)≤10 by decide) hop
  |cal x xs h hx=>exact absurd (show(10:Int)≤10 by decide) hop
  |not a ha=>
   have hda:=hd' a (by simp[nd,Nd.l]);rw[prN_not]at hat hlast⊢;have h0:prj (tkA L i)=wt wNot:=hat.hd;obtain⟨k0,t0⟩:=kt_fix (by decide) h0;have e:i+(wNot::opN 5 a last).length=i+1+(opN 5 a last).length:=by simp only[List.length_cons];omega
   rw[e]at hlast⊢;obtain⟨k,hk⟩:=((ih' a (by simp[nd,Nd.l])).opn (least:=5) (last:=last) (i:=i+1) (o:=o+1) hat.tl (by omega) hlast).l5 (by decide);refine lv5 ⟨k+1,?_⟩;rw[pr',if_pos ⟨k0,rfl⟩,if_neg (by rw[t0];decide),if_neg (by rw[t0];decide),if_neg (by rw[t0];decide),if_neg (by rw[t0];decide),if_pos t0];unfold lvl;rw[if_neg (by simp only;omega)];have es:(⟨(st i o).i+1,(st i o).e,(st i o).o+1⟩:Ps)=st (i+1) (o+1):=rfl;rw[es];dsimp only;rw[hk];rfl
  |bin op a b hop2 ha hb=>
   have hda:=hd' a (by simp[nd,Nd.l]);have hdb:=hd' b (by simp[nd,Nd.l]);have ia:=ih' a (by simp[nd,Nd.l]);have ib:=ih' b (by simp[nd,Nd.l]);rw[prN_bin]at hat hlast⊢;have htg:(nd op [a,b]).op=op:=rfl;rw[htg];obtain⟨la,hla⟩: ∃la,(if op=14 then tgt op+1 else tgt op)=la:=⟨_,rfl⟩
   obtain⟨lb,hlb⟩: ∃lb,(if op=14 then tgt op else tgt op+1)=lb:=⟨_,rfl⟩
   rw[hla,hlb]at hat hlast⊢;have h1:prj (tkA L (i+(opN la a false).length))=wt (opw op):=hat.r.hd;have hA:=ia.opn (least:=la) (last:=false) (i:=i) (o:=o) hat.l (by omega) (by simp);have e:i+(opN la a false++opw op::opN lb b last).length=i+(opN la a false).length+1+(opN lb b last).length:=by simp only[List.length_append,List.length_cons];omega
   rw[e]at hlast⊢;have hB:=ib.opn (least:=lb) (last:=last) (i:=i+(opN la a false).length+1) (o:=o) hat.r.tl (by omega) hlast;generalize i+(opN la a false).length=p at*;generalize hj:p+1+(opN lb b last).length=j at*;have hadv:adv (st p o)=st (p+1) o:=rfl;rcases(show op=12∨op=13∨op=14∨op=15 by omega)with rfl|rfl|rfl|rfl
   ·have e1:la=4:=by rw[←hla];decide
    have e2:lb=5:=by rw[←hlb];decide
    subst e1;subst e2;have h1':prj (tkA L p)=wt wAnd:=h1;refine lv4 fun r k=>hA.l4 (by decide) _ (prs_tAnd (is_fix (by decide) h1') (r1:=(b,st j o)) ?_ k);rw[hadv];exact hB.l5 (by decide)
   ·have e1:la=3:=by rw[←hla];decide
    have e2:lb=4:=by rw[←hlb];decide
    subst e1;subst e2;have h1':prj (tkA L p)=wt wOr:=h1;refine lv3 fun f r k=>hA.l3 (by decide) (Fo.of (wdM (by decide)) h1' (by decide)) _ (prs_tOr (is_fix (by decide) h1') (r1:=(b,st j o)) ?_ k);rw[hadv];exact hB.l4 (by decide) _ (prs_tAnd0 (f _ (by simp) _))
   ·have e1:la=3:=by rw[←hla];decide
    have e2:lb=2:=by rw[←hlb];decide
    subst e1;subst e2;have h1':prj (tkA L p)=wt wImp:=h1;refine lv2 fun f=>?_;obtain⟨fl,hne,hc,hfl⟩:=hB.l2 (by decide) f;refine⟨a::fl,by simp,by rw[chn_cons hne,hc],fun l r k=>?_⟩;obtain⟨r1,q1,q2⟩:=hfl (l++[a]) r (by rw[List.append_assoc];exact k);refine⟨(a,st p o),hA.l3 (by decide) (Fo.of (wdM (by decide)) h1' (by decide)) _ (prs_tOr0 (is_ne (wdM (by decide)) h1' (by decide))),?_⟩;refine prs_tImp (is_fix (by decide) h1') ?_ q2;rw[hadv];exact q1
   ·have e1:la=1:=by rw[←hla];decide
    have e2:lb=2:=by rw[←hlb];decide
    subst e1;subst e2;have h1':prj (tkA L p)=wt wIff:=h1;refine lv1 fun f r k=>hA.l1 (Fo.of (wdM (by decide)) h1' (by decide)) _ (prs_tIff (is_fix (by decide) h1') (r1:=(b,st j o)) ?_ k);rw[hadv];exact(hB.l2 (by decide) (f.sub (by simp))).imp (f _ (by simp) _)
  |qnt op x so a hop2 hx hs ha=>
   have hda:=hd' a (by simp[qn,Nd.l]);have hl:last=true:=by
    cases last with
    |true=>rfl
    |false=>exact absurd hop2 (hq rfl)
   subst hl;rw[prN_qnt op x so a true hop2]at hat hlast⊢;have h0:prj (tkA L i)=wt (opw op):=hat.hd;have h1:prj (tkA L (i+1))=wt (snm so):=hat.tl.hd;have h2:prj (tkA L (i+1+1))=wt x:=hat.tl.tl.hd;have h3:prj (tkA L (i+1+1+1))=wt wCol:=hat.tl.tl.tl.hd;have h4:AtW L (i+1+1+1+1) (prN a true):=hat.tl.tl.tl.tl;have e:i+(opw op::snm so::x::wCol::prN a true).length=i+1+1+1+1+(prN a true).length:=by simp only[List.length_cons];omega
   rw[e]at hlast⊢;obtain⟨k,hk⟩:=((ih' a (by simp[qn,Nd.l]) true (i+1+1+1+1) (o+1) h4 (by omega) hlast (by simp)).l1 ((hlast rfl).sub (by simp))).fml (hlast rfl _ (by simp) _);have es:(⟨(st i o).i+1,(st i o).e,(st i o).o+1⟩:Ps)=st (i+1) (o+1):=rfl;refine lv5 ⟨k+1,?_⟩;rcases hop2 with rfl|rfl
   ·obtain⟨k0,t0⟩:=kt_fix (w:=wSome) (by decide) h0;rw[pr',if_pos ⟨k0,rfl⟩,if_neg (by rw[t0];decide),if_neg (by rw[t0];decide),if_neg (by rw[t0];decide),if_neg (by rw[t0];decide),if_neg (by rw[t0];decide),if_pos t0];unfold lvl;rw[if_neg (by simp only;omega),es];dsimp only;rw[srt_at hs h1];simp only;rw[name_id hx h2];simp only;rw[need_fix (by decide) h3,hk];rfl
   ·obtain⟨k0,t0⟩:=kt_fix (w:=wEvery) (by decide) h0;rw[pr',if_pos ⟨k0,rfl⟩,if_neg (by rw[t0];decide),if_neg (by rw[t0];decide),if_neg (by rw[t0];decide),if_neg (by rw[t0];decide),if_neg (by rw[t0];decide),if_neg (by rw[t0];decide),if_pos t0];unfold lvl;rw[if_neg (by simp only;omega),es];dsimp only;rw[srt_at hs h1];simp only;rw[name_id hx h2];simp only;rw[need_fix (by decide) h3,hk];rfl
end
theorem wt_map {ws:List Str} (h: ∀w∈ws,Wd w):(∀p∈ws.map wt,okT p)∧(ws.map wt).map (fun p=>p.2.1)=ws:=by
 refine⟨fun p hp=>?_,?_⟩
 ·obtain⟨w,hw,rfl⟩:=List.mem_map.1 hp;exact(wt_ok (h w hw)).1
 ·rw[List.map_map]
  conv=>rhs;rw[←List.map_id ws]
  exact List.map_congr_left fun w hw=>(wt_ok (h w hw)).2
theorem lx_words {ws:List Str} (h: ∀w∈ws,Wd w):lx (Lib.join ws [32])=(ws.map wt,0):=by
 obtain⟨h1,h2⟩:=wt_map h;have:=lx_join h1
 rwa [h2]at this
theorem atw_of {L:List Tk} {l0:List Tk} {e:Tk} (h:L=l0++[e]) {ws:List Str} (hp:l0.map prj=ws.map wt):AtW L 0 ws∧tkA L ws.length=e∧L.length=ws.length+1:=by
 have hl:l0.length=ws.length:=by
  have:=congrArg List.length hp;simpa using this
 refine⟨fun j w hj=>?_,?_,?_⟩
 ·have hlt:=(List.getElem?_eq_some_iff.1 hj).1;have h2:l0[j]? =some l0[j]:=List.getElem?_eq_getElem (by omega);have h3:(l0.map prj)[j]? =some (wt w):=by rw[hp];simp[hj]
  rw[List.getElem?_map,h2]at h3;have:tkA L (0+j)=l0[j]:=by
   unfold tkA;rw[h,List.getD_eq_getElem?_getD,Nat.zero_add,List.getElem?_append_left (by omega),h2];rfl
  rw[this];simpa using h3
 ·unfold tkA;rw[h,List.getD_eq_getElem?_getD,←hl,List.getElem?_append_right (Nat.le_refl _)];simp
 ·rw[h];simp[hl]
theorem pfS_print (t:Nat) {n:Nd} (hc:chk n=0) (hd:2*dp n≤256) (hl:(prT n).length≤65536):pfS t (prT n)=(n,0):=by
 have hv:=chk_vd hc;have hw:=prN_wd _ n (Nat.le_refl _) hv true;have hlx:=lx_words hw;have h0:(lx (prT n)).2=0:=by unfold prT;rw[hlx]
 obtain⟨l0,ln,col,e1,e2⟩:=tkR_ok (t:=t) hl h0;have e3:=tkR_err (t:=t) hl;rw[h0]at e3;have hL:=tkR_lok (t:=t) hl h0;have e2':l0.map prj=(prN n true).map wt:=by rw[e2];unfold prT;rw[hlx]
 obtain⟨a1,a2,a3⟩:=atw_of e1 e2';have hF:Fo (tkR t (prT n)).1 (0+(prN n true).length) ops4:=by
  intro w hw o;rw[Nat.zero_add];unfold isS;rw[a2];simp
 have hP:=(pn_all (tkR t (prT n)).1 _ n (Nat.le_refl _) hv true 0 0 a1 (by omega) (fun _=>hF) (by simp)).l1 (hF.sub (by simp));have hR:Prs (tkR t (prT n)).1 .fml ⟨0,0,0⟩ (prR (tkR t (prT n)).1):=⟨_,prR_eq hL⟩
 have e4:=hR.det (hP.fml (hF _ (by simp) _));unfold pfS;rw[if_neg (by simp[e3]),e4];unfold pfL;have e5:endE (tkR t (prT n)).1 (n,st (0+(prN n true).length) 0).2=st (0+(prN n true).length) 0:=by
  unfold endE;rw[if_neg];simp only[Nat.zero_add];rw[a2];simp
 have hg:grt n=0:=by
  unfold chk at hc
  rwa [if_pos hv]at hc
 rw[e5,if_neg (by simp),if_neg (by simp[hg])]
theorem join_app (a b:List Str) (ha:a≠[]) (hb:b≠[]):Lib.join (a++b) [32]=Lib.join a [32]++32::Lib.join b [32]:=by
 induction a with
 |nil=>exact absurd rfl ha
 |cons x a ih=>
  cases a with
  |nil=>
   obtain⟨y,b',rfl⟩: ∃y b',b=y::b':=by
    cases b with
    |nil=>exact absurd rfl hb
    |cons y b'=>exact⟨y,b',rfl⟩
   rw[List.singleton_append,joinW_cons];simp[Lib.join,List.intercalate]
  |cons y a=>
   rw[List.cons_append,List.cons_append,joinW_cons,←List.cons_append,ih (by simp),joinW_cons,List.append_assoc];rfl
theorem lx_line: ∀{ws:List Str},ws≠[]→(∀w∈ws,Wd w)→ ∀(c:UInt8) (r:Str),isBlk c=true→lx (Lib.join ws [32]++c::r)=(ws.map wt++(lx r).1,(lx r).2)
 |[],h,_,_,_,_=>absurd rfl h
 |[w],_,h,c,r,hc=>by
  obtain⟨h1,h2⟩:=wt_ok (h w (by simp));have e:Lib.join [w] [32]=w:=by simp[Lib.join,List.intercalate]
  have:=lx_tok h1 (blk_end hc r);rw[h2]at this;rw[e,this,lx_blk hc];rfl
 |w::u::ws,_,h,c,r,hc=>by
  obtain⟨h1,h2⟩:=wt_ok (h w (by simp));have hb:isBlk 32=true:=rfl;have ih:=lx_line (ws:=u::ws) (by simp) (fun x hx=>h x (List.mem_cons_of_mem _ hx)) c r hc;have:=lx_tok h1 (blk_end hb (Lib.join (u::ws) [32]++c::r));rw[h2]at this;rw[joinW_cons,List.append_assoc,List.cons_append,this,lx_blk hb,ih];rfl
def lnF (m:Mc):List Str:=headW m.nm m.ps++(wR::wCol::(prN m.bd true++[wSem]))
theorem lnT_eq (m:Mc):lnT m (prT m.bd)=Lib.join (lnF m) [32]++[10]:=by
 unfold lnT
 congr 1
 have hp:=prN_ne m.bd true;have e1:lnW m (prT m.bd)=(headW m.nm m.ps++[wR,wCol])++[prT m.bd,wSem]:=by simp[lnW]
 have e2:lnF m=(headW m.nm m.ps++[wR,wCol])++(prN m.bd true++[wSem]):=by simp[lnF]
 have hne:headW m.nm m.ps++[wR,wCol]≠[]:=by simp
 rw[e1,e2,join_app _ _ hne (by simp),join_app _ _ hne (by simp),join_app _ _ hp (by simp),joinW_cons];rfl
theorem lnF_wd {u:List Mc} {m:Mc} (h:Md u m): ∀x∈lnF m,Wd x:=by
 intro x hx;unfold lnF at hx;rcases List.mem_append.1 hx with hx|hx
 ·exact headW_wd h x hx
 ·simp only[List.mem_cons,List.mem_append,List.not_mem_nil,or_false]at hx;rcases hx with rfl|rfl|hx|rfl
  ·exact wdM (by decide)
  ·exact wdM (by decide)
  ·exact prN_wd _ _ (Nat.le_refl _) (chk_vd h.bd) true x hx
  ·exact wdM (by decide)
def allF (w:List Mc):List Str:=w.flatMap lnF
def txtF:List Mc→Str
 |[]=>[]
 |m::w=>lnT m (prT m.bd)++txtF w
theorem lx_txt {w:List Mc} (h: ∀m∈w,∃u,Md u m):lx (txtF w)=((allF w).map wt,0):=by
 induction w with
 |nil=>exact lx_nil
 |cons m w ih=>
  obtain⟨u,hu⟩:=h m (by simp);have hne:lnF m≠[]:=by simp[lnF,headW]
  have:=lx_line hne (lnF_wd hu) 10 (txtF w) rfl;simp only[txtF];rw[lnT_eq,List.append_assoc,List.singleton_append,this,ih fun x hx=>h x (List.mem_cons_of_mem _ hx)];simp[allF]
theorem fmt_txt: ∀{w:List Mc},w.findSome? errG=none→(∀m∈w,chk m.bd=0)→accT w=txtF w
 |[],_,_=>rfl
 |m::w,h,hc=>by
  simp only[List.findSome?_cons]at h;cases he:errG m with
  |some e=>rw[he]at h;cases h
  |none=>
   rw[he]at h;have ih:=fmt_txt h fun x hx=>hc x (List.mem_cons_of_mem _ hx);have h0:=hc m (by simp);have e:(nodR m.bd).1=prT m.bd:=by
    unfold errG at he;split at he
    ·rename_i h2
     unfold nodR at h2⊢;rw[if_pos h0]at h2⊢;split
     ·rename_i h3
      rw[if_pos h3]at h2;cases h2
     ·rfl
    ·cases he
   simp only[accT,txtF,ih,e]
def wid (k:Nat):Nat→Str→Str
 |_,[]=>[]
 |i,c::s=>if c=32∧(i+k)%3=0 then 32::10::9::32::wid k (i+1) s else c::wid k (i+1) s
theorem wid_run (k:Nat): ∀(t:Str) (i:Nat) (r:Str),t.all isRun=true→wid k i (t++r)=t++wid k (i+t.length) r
 |[],i,r,_=>rfl
 |c::t,i,r,h=>by
  simp only[List.all_cons,Bool.and_eq_true]at h;have hc: ¬(c=32∧(i+k)%3=0):=by
   rintro⟨rfl,-⟩;exact absurd h.1 (by decide)
  simp only[List.cons_append,wid,hc,if_false,List.length_cons];rw[wid_run k t (i+1) r h.2,show i+1+t.length=i+(t.length+1)by omega]
theorem wid_end {k i:Nat} {r:Str} (h:endR r):endR (wid k i r):=by
 rcases h with rfl|⟨c,s,rfl,hc⟩
 ·exact .inl rfl
 ·refine .inr ?_;unfold wid;split
  ·exact⟨32,_,rfl,by decide⟩
  ·exact⟨c,_,rfl,hc⟩
theorem drop_end (s:Str):endR (s.drop (s.takeWhile isRun).length):=by
 induction s with
 |nil=>exact .inl rfl
 |cons c s ih=>
  cases hc:isRun c with
  |true=>simpa[List.takeWhile_cons,hc] using ih
  |false=>
   have e:(c::s).drop ((c::s).takeWhile isRun).length=c::s:=by simp[List.takeWhile_cons,hc]
   rw[e];exact .inr ⟨c,s,rfl,hc⟩
theorem lx_wid (k:Nat): ∀(n:Nat) (s:Str) (i:Nat),s.length≤n→lx (wid k i s)=lx s:=by
 intro n
 induction n with
 |zero=>
  intro s i h;have:s=[]:=List.eq_nil_of_length_eq_zero (by omega);subst this;rfl
 |succ n ih=>
  intro s i h;cases s with
  |nil=>rfl
  |cons c s=>
   simp only[List.length_cons]at h;have hs:=ih s (i+1) (by omega);unfold wid;split
   ·rename_i hc
    obtain⟨rfl,-⟩:=hc;rw[lx_blk (by decide),lx_blk (by decide),lx_blk (by decide),lx_blk (by decide),lx_blk (by decide),hs]
   ·cases hb:isBlk c with
    |true=>rw[lx_blk hb,lx_blk hb,hs]
    |false=>
     cases hm:isMrk c with
     |true=>rw[lx_mrk hb hm,lx_mrk hb hm,hs]
     |false=>
      cases hr:isRun c with
      |false=>rw[lx_bad hb hm hr,lx_bad hb hm hr]
      |true=>
       obtain⟨t,ht⟩: ∃t,s.takeWhile isRun=t:=⟨_,rfl⟩
       obtain⟨r,hr'⟩: ∃r,s.drop t.length=r:=⟨_,rfl⟩
       have hta:t.all isRun=true:=by rw[←ht];exact tw_allg s
       have hre:endR r:=by rw[←hr',←ht];exact drop_end s
       have e:s=t++r:=by
        rw[←hr',←ht]
        conv=>lhs;rw[←List.take_append_drop (s.takeWhile isRun).length s,tw_take]
       have ew:wid k (i+1) s=t++wid k (i+1+t.length) r:=by rw[e];exact wid_run k t (i+1) r hta
       have:=ih r (i+1+t.length) (by rw[←hr'];simp;omega);rw[lx_run hr,lx_run hr,ew,tw_endR hta (wid_end hre),ht,List.drop_left,hr',this]
section
variable {L:List Tk} {i:Nat}
abbrev ms (i:Nat):Ms:=⟨i,false⟩
theorem inr (hL:Lok L) {w:Str} (hw:Wd w) (h:prj (tkA L i)=wt w):i+1<L.length∧(tkA L i).k≠0:=by
 have hk:=okT_k (wt_ok hw).1;rw[←h]at hk;have hk':(tkA L i).k≠0:=by
  have:(prj (tkA L i)).1=(tkA L i).k:=rfl;omega
 have hi:i<L.length:=by
  apply Classical.byContradiction;intro hh;apply hk';unfold tkA;rw[List.getD_eq_getElem?_getD,List.getElem?_eq_none (by omega)];rfl
 exact⟨lt_of_k hL hi hk',hk'⟩
theorem mnx_at (hL:Lok L) {w:Str} (hw:Wd w) (h:prj (tkA L i)=wt w) (b:Bool):mnx L ⟨i,b⟩=⟨i+1,b⟩:=by
 have:=(inr hL hw h).1;unfold mnx;simp only[Ms.mk.injEq,and_true];omega
theorem mis_at {w:Str} {k:Int} (h:prj (tkA L i)=(k,w,0)) (b:Bool):mis L ⟨i,b⟩ k w=true:=by
 simp only[prj,Prod.mk.injEq]at h;unfold mis;simp[h.1,h.2.1]
theorem mis_ne {w x:Str} {k:Int} (hx:Wd x) (h:prj (tkA L i)=wt x) (hne:x≠w) (b:Bool):mis L ⟨i,b⟩ k w=false:=by
 have e:=(wt_ok hx).2;rw[←h]at e;have e':(tkA L i).tx=x:=e;unfold mis;simp[e',hne]
theorem mneed_at (hL:Lok L) {w:Str} {k:Int} (hw:w∈wdL) (hk:wt w=(k,w,0)) (h:prj (tkA L i)=wt w):mneed L (ms i) k w=ms (i+1):=by
 unfold mneed;rw[mis_at (by rw[h,hk]),mnx_at hL (wdM hw) h];rfl
theorem mname_at (hL:Lok L) {x:Str} (hx:isId x=true) (h:prj (tkA L i)=wt x):mname L (ms i)=ms (i+1):=by
 unfold mname;have:=(kt_id hx h).1;rw[mnx_at hL (.inl hx) h];simp[this]
theorem msort_at {k:Int} (hk:0≤k∧k<4) (h:prj (tkA L i)=wt (snm k)):msort L (ms i)=some k:=by
 have hd: ∀j:Int,0≤j∧j<4→mis L (ms i) 3 (snm j)=decide (j=k):=by
  intro j hj;by_cases e:j=k
  ·subst e;have e3:wt (snm j)=(3,snm j,0):=by rcases(show j=0∨j=1∨j=2∨j=3 by omega)with rfl|rfl|rfl|rfl<;>kernel_rfl
   rw[mis_at (by rw[h,e3])];simp
  ·rw[mis_ne (snm_wd hk) h ?_]
   ·simp[e]
   ·rcases(show j=0∨j=1∨j=2∨j=3 by omega)with rfl|rfl|rfl|rfl<;>rcases(show k=0∨k=1∨k=2∨k=3 by omega)with rfl|rfl|rfl|rfl<;>first|exact absurd rfl e|decide
 unfold msort;simp only[List.findSome?_cons,hd 0 (by decide),hd 1 (by decide),hd 2 (by decide),hd 3 (by decide)];rcases(show k=0∨k=1∨k=2∨k=3 by omega)with rfl|rfl|rfl|rfl<;>rfl
theorem msrt_at (hL:Lok L) {k:Int} (hk:0≤k∧k<4) (h:prj (tkA L i)=wt (snm k)):msrt L (ms i)=ms (i+1):=by
 unfold msrt;rw[msort_at hk h,mnx_at hL (snm_wd hk) h];have: ¬k<0:=by omega
 simp[this]
theorem mparam_at (hL:Lok L) {v:Vr} (hv:isId v.nm=true∧0≤v.so∧v.so<4) (h:prj (tkA L i)=wt (snm v.so)) (h':prj (tkA L (i+1))=wt v.nm):mparam L (ms i)=v:=by
 unfold mparam;rw[msrt_at hL hv.2 h,msort_at hv.2 h];have e:=(kt_id hv.1 h').2;obtain⟨nm,so⟩:=v;simp only at e hv⊢;rw[e]
 congr 1
 simp only[Option.getD_some];omega
def parC:List Vr→List Str
 |[]=>[]
 |v::l=>wCom::snm v.so::v.nm::parC l
theorem parW_cons: ∀(v:Vr) (l:List Vr),parW (v::l)=snm v.so::v.nm::parC l
 |v,[]=>rfl
 |v,u::l=>by
  have:=parW_cons u l;simp only[parW,parC]at this⊢;rw[this]
theorem mpars_at (hL:Lok L): ∀(ps vs:List Vr) (i H:Nat) (rest:List Str),(∀v∈ps,isId v.nm=true∧0≤v.so∧v.so<4)→AtW L i (parC ps++wR::rest)→ps.length<H→mpars L H vs (ms i)=some (vs++ps,ms (i+(parC ps).length))
 |[],vs,i,H,rest,hv,h,hH=>by
  obtain⟨H,rfl⟩: ∃j,H=j+1:=⟨H - 1,by simp at hH;omega⟩
  have h0:prj (tkA L i)=wt wR:=h.hd;unfold mpars;rw[if_neg]
  ·simp[parC]
  ·rw[mis_ne (wdM (by decide)) h0 (by decide)];simp
 |v::ps,vs,i,H,rest,hv,h,hH=>by
  simp only[List.length_cons]at hH;obtain⟨H,rfl⟩: ∃j,H=j+1:=⟨H - 1,by omega⟩
  have h0:prj (tkA L i)=wt wCom:=h.hd;have h1:prj (tkA L (i+1))=wt (snm v.so):=h.tl.hd;have h2:prj (tkA L (i+1+1))=wt v.nm:=h.tl.tl.hd;have hv0:=hv v (by simp);have hc:wt wCom=(4,wCom,0):=by kernel_rfl
  unfold mpars;rw[if_pos ⟨rfl,mis_at (by rw[h0,hc]) _⟩,mnx_at hL (wdM (by decide)) h0,mparam_at hL hv0 h1 h2,msrt_at hL hv0.2 h1,mname_at hL hv0.1 h2,mpars_at hL ps (vs++[v]) (i+1+1+1) H rest (fun u hu=>hv u (List.mem_cons_of_mem _ hu)) h.tl.tl.tl (by omega)];simp only[List.append_assoc,List.singleton_append,parC,List.length_cons,Option.some.injEq,Prod.mk.injEq,true_and,Ms.mk.injEq,and_true];omega
theorem mhead_at (hL:Lok L) {u:List Mc} {m:Mc} (hm:Md u m) (rest:List Str) {H:Nat} (hH:6<H) (h:AtW L i (headW m.nm m.ps++wR::wCol::rest)):mhead L H (ms i)=some (m.nm,m.ps,ms (i+(headW m.nm m.ps).length+2)):=by
 have hps:=parE_ids hm.ps;have h6:=parE_len hm.ps;have h0:prj (tkA L i)=wt wLet:=h.hd;have h1:prj (tkA L (i+1))=wt m.nm:=h.tl.hd;have h2:prj (tkA L (i+1+1))=wt wL:=h.tl.tl.hd;have h3:AtW L (i+1+1+1) (parW m.ps++wR::wCol::rest):=h.tl.tl.tl;have c0:wt wLet=(3,wLet,0):=by kernel_rfl
 have c1:wt wL=(4,wL,0):=by kernel_rfl
 have c2:wt wR=(4,wR,0):=by kernel_rfl
 have c3:wt wCol=(4,wCol,0):=by kernel_rfl
 have e1:mneed L (ms i) 3 wLet=ms (i+1):=mneed_at hL (by decide) c0 h0;have e2:mname L (ms (i+1))=ms (i+1+1):=mname_at hL hm.id h1;have e3:mneed L (ms (i+1+1)) 4 wL=ms (i+1+1+1):=mneed_at hL (by decide) c1 h2;have hnm:(tkA L (ms (i+1)).i).tx=m.nm:=(kt_id hm.id h1).2;have key:(if mis L (ms (i+1+1+1)) 4 wR=true then some ([],ms (i+1+1+1))else mpars L H [mparam L (ms (i+1+1+1))] (mname L (msrt L (ms (i+1+1+1)))))=some (m.ps,ms (i+1+1+1+(parW m.ps).length)):=by
  cases hp:m.ps with
  |nil=>
   rw[hp]at h3;have h4:prj (tkA L (i+1+1+1))=wt wR:=h3.hd;rw[if_pos (mis_at (by rw[h4,c2]) _)];rfl
  |cons v l=>
   rw[hp,parW_cons]at h3;rw[hp]at hps h6;have hv:=hps v (by simp);have h4:prj (tkA L (i+1+1+1))=wt (snm v.so):=h3.hd;have h5:prj (tkA L (i+1+1+1+1))=wt v.nm:=h3.tl.hd;have hne:snm v.so≠wR:=by
    rcases(show v.so=0∨v.so=1∨v.so=2∨v.so=3 by omega)with e|e|e|e<;>rw[e]<;>decide
   rw[mis_ne (snm_wd hv.2) h4 hne,if_neg (by simp),mparam_at hL hv h4 h5,msrt_at hL hv.2 h4,mname_at hL hv.1 h5,mpars_at hL l [v] _ H (wCol::rest) (fun u hu=>hps u (List.mem_cons_of_mem _ hu)) h3.tl.tl (by simp only[List.length_cons]at h6;omega),parW_cons];simp only[List.singleton_append,List.length_cons,Option.some.injEq,Prod.mk.injEq,true_and,Ms.mk.injEq,and_true];omega
 have h7:prj (tkA L (i+1+1+1+(parW m.ps).length))=wt wR:=h3.r.hd;have h8:prj (tkA L (i+1+1+1+(parW m.ps).length+1))=wt wCol:=h3.r.tl.hd;have e4:mneed L (ms (i+1+1+1+(parW m.ps).length)) 4 wR=ms (i+1+1+1+(parW m.ps).length+1):=mneed_at hL (by decide) c2 h7;have e5:mneed L (ms (i+1+1+1+(parW m.ps).length+1)) 4 wCol=ms (i+1+1+1+(parW m.ps).length+1+1):=mneed_at hL (by decide) c3 h8;dsimp only[mhead];rw[e1,e2,e3,hnm,key];simp only[Option.map_some];rw[e4,e5];simp only[headW,List.length_cons,Option.some.injEq,Prod.mk.injEq,true_and,Ms.mk.injEq,and_true];omega
theorem mscan_at (hL:Lok L): ∀(ws:List Str) (i H:Nat) (rest:List Str),(∀w∈ws,Wd w∧w≠wSem)→AtW L i (ws++wSem::rest)→ws.length<H→mscan L H (ms i)=some (some (ms (i+ws.length)))
 |[],i,H,rest,hw,h,hH=>by
  obtain⟨H,rfl⟩: ∃j,H=j+1:=⟨H - 1,by simp at hH;omega⟩
  have h0:prj (tkA L i)=wt wSem:=h.hd;have c0:wt wSem=(4,wSem,0):=by kernel_rfl
  unfold mscan;rw[if_pos (mis_at (by rw[h0,c0]) _)];rfl
 |w::ws,i,H,rest,hw,h,hH=>by
  simp only[List.length_cons]at hH;obtain⟨H,rfl⟩: ∃j,H=j+1:=⟨H - 1,by omega⟩
  have h0:prj (tkA L i)=wt w:=h.hd;obtain⟨h1,h2⟩:=hw w (by simp);unfold mscan;rw[mis_ne h1 h0 h2,if_neg (by simp),if_neg (inr hL h1 h0).2,mnx_at hL h1 h0,mscan_at hL ws (i+1) H rest (fun x hx=>hw x (List.mem_cons_of_mem _ hx)) h.tl (by omega)];simp only[List.length_cons,Option.some.injEq,Ms.mk.injEq,and_true];omega
theorem dtx_at (hL:Lok L): ∀(ws:List Str) (i:Nat),(∀w∈ws,Wd w)→AtW L i ws→((L.drop i).take ws.length).map Tk.tx=ws
 |[],i,_,_=>rfl
 |w::ws,i,hw,h=>by
  have h0:prj (tkA L i)=wt w:=h.hd;have hi:=(inr hL (hw w (by simp)) h0).1;have e:=(wt_ok (hw w (by simp))).2;rw[←h0]at e;have e':(tkA L i).tx=w:=e;have hd:=List.drop_eq_getElem_cons (show i<L.length by omega);have hg:L[i]=tkA L i:=(List.getElem?_eq_some_iff.1 (tkA_get (by omega))).2;rw[hd,List.length_cons,List.take_succ_cons,List.map_cons,hg,e',dtx_at hL ws (i+1) (fun x hx=>hw x (List.mem_cons_of_mem _ hx)) h.tl]
end
structure Rdb (m:Mc):Prop where
 dp:2*dp m.bd≤256
 tx:(prT m.bd).length≤65536
section
variable {L:List Tk} {i t:Nat}
theorem mdef_at (hL:Lok L) {u:List Mc} {m:Mc} (hm:Md u m) (hr:Rdb m) (rest:List Str) {H:Nat} (h6:6<H) (hH:(prN m.bd true).length<H) (h:AtW L i (lnF m++rest)):mdef t L H (ms i)=some (m,0,ms (i+(lnF m).length)):=by
 have hv:=chk_vd hm.bd;have hw:=prN_wd _ _ (Nat.le_refl _) hv true;have hs:=prN_ns hv true;have e0:lnF m++rest=headW m.nm m.ps++wR::wCol::(prN m.bd true++wSem::rest):=by simp[lnF]
 rw[e0]at h;have h1:=mhead_at hL hm (prN m.bd true++wSem::rest) h6 h;have h2:AtW L (i+(headW m.nm m.ps).length+2) (prN m.bd true++wSem::rest):=h.r.tl.tl;have h3:=mscan_at hL (prN m.bd true) _ H rest (fun w hh=>⟨hw w hh,hs w hh⟩) h2 hH;have h4:prj (tkA L (i+(headW m.nm m.ps).length+2+(prN m.bd true).length))=wt wSem:=h2.r.hd;have h5:=dtx_at hL (prN m.bd true) _ hw h2.l;unfold mdef;rw[h1];simp only[Option.bind_some];rw[if_neg (by simp),h3];simp only[Option.map_some];have ed:dtx L (ms (i+(headW m.nm m.ps).length+2)).i (ms (i+(headW m.nm m.ps).length+2+(prN m.bd true).length)).i=prT m.bd:=by
  unfold dtx prT;have:(ms (i+(headW m.nm m.ps).length+2+(prN m.bd true).length)).i - (ms (i+(headW m.nm m.ps).length+2)).i=(prN m.bd true).length:=by
   show i+(headW m.nm m.ps).length+2+(prN m.bd true).length - (i+(headW m.nm m.ps).length+2)=_;omega
  rw[this,h5]
 rw[ed,pfS_print t hm.bd hr.dp hr.tx,mnx_at hL (wdM (by decide)) h4];simp only[Option.some.injEq,Prod.mk.injEq,true_and,Ms.mk.injEq,and_true];simp only[lnF,List.length_append,List.length_cons,List.length_nil];omega
theorem mparse_at (hL:Lok L) {H:Nat} (hH:L.length<H): ∀(v w0:List Mc) (i h:Nat),AtW L i (allF v)→i+(allF v).length<L.length→(tkA L (i+(allF v).length)).k=0→Wf (w0++v)→(∀m∈v,Rdb m)→v.length<h→mparse t L H h w0 (ms i)=some (w0++v,0)
 |[],w0,i,h,ha,hlt,hk,hw,hr,hh=>by
  obtain⟨h,rfl⟩: ∃j,h=j+1:=⟨h - 1,by simp at hh;omega⟩
  unfold mparse;rw[if_pos (by simpa[allF] using hk)];simp
 |m::v,w0,i,h,ha,hlt,hk,hw,hr,hh=>by
  simp only[List.length_cons]at hh;obtain⟨h,rfl⟩: ∃j,h=j+1:=⟨h - 1,by omega⟩
  have hmay:=hw w0 m v rfl;have hm:=may_md hmay;have ea:allF (m::v)=lnF m++allF v:=rfl;rw[ea]at ha hlt hk;rw[List.length_append]at hlt hk;have h0:prj (tkA L i)=wt wLet:=ha.l.hd;have hll:(prN m.bd true).length+6≤(lnF m).length:=by
   simp only[lnF,headW,List.length_append,List.length_cons,List.length_nil];omega
  have hd:=mdef_at (t:=t) hL hm (hr m (by simp)) (allF v) (H:=H) (by omega) (by omega) ha;have e1:(w0++[m])++v=w0++m::v:=by simp
  have ih:=mparse_at hL hH v (w0++[m]) (i+(lnF m).length) h ha.r (by omega) (by rw[Nat.add_assoc];exact hk) (by rw[e1];exact hw) (fun x hx=>hr x (List.mem_cons_of_mem _ hx)) (by omega);unfold mparse;rw[if_neg (inr hL (wdM (by decide)) h0).2,hd];simp only[Option.bind_some];rw[if_neg (by simp),if_neg (by simp[hmay]),ih,e1]
theorem prsS_print (t:Nat) {w:List Mc} {s:Str} (hlx:lx s=((allF w).map wt,0)) (hs:s.length≤65536) (hw:Wf w) (hr: ∀m∈w,Rdb m):prsS t s=(w,0):=by
 have h0:(lx s).2=0:=by rw[hlx]
 obtain⟨l0,ln,col,e1,e2⟩:=tkR_ok (t:=t) hs h0;have e3:=tkR_err (t:=t) hs;rw[h0]at e3;have hL:=tkR_lok (t:=t) hs h0;rw[hlx]at e2;obtain⟨a1,a2,a3⟩:=atw_of e1 e2;have hvl:w.length≤(allF w).length:=by
  clear a1 a2 a3 e1 e2 hlx hw hr
  induction w with
  |nil=>simp
  |cons m w ih=>
   have:allF (m::w)=lnF m++allF w:=rfl;rw[this];have h1:0<(lnF m).length:=by simp[lnF,headW]
   simp only[List.length_append,List.length_cons];omega
 have h:=mparse_at (t:=t) hL (Nat.lt_succ_self _) w [] 0 ((tkR t s).1.length+1) a1 (by omega) (by rw[Nat.zero_add,a2]) hw hr (by omega);unfold prsS;rw[if_neg (by simp[e3])];have h':mparse t (tkR t s).1 ((tkR t s).1.length+1) ((tkR t s).1.length+1) [] ⟨0,false⟩=some ([]++w,0):=h;rw[h'];rfl
end
theorem prN_cnt {u:List Mc} (hu: ∀d∈u,d.ps.length≤6): ∀(n:Nd) (last:Bool),cok u n→(prN n last).length+2≤17*sz n
 | .mk op ns so nn mm [],last,h=>by
  simp only[cok]at h;simp only[prN,sz,szL];by_cases h10:op=10
  ·obtain⟨s,xs,d,rfl,h2,h3⟩:=h.1 h10;have h4:=hu d (List.mem_of_find?_eq_some h2);have h5:=comW_len xs;subst h10;have e:atmT 10 (s::xs) nn mm=s::wL::(comW xs++[wR]):=rfl;rw[e];simp only[List.length_cons,List.length_append,List.length_nil];omega
  ·have:(atmT op ns nn mm).length≤6:=by
    unfold atmT
    repeat' split
    all_goals first|contradiction|simp
   omega
 | .mk op ns so nn mm [a],last,h=>by
  simp only[cok,cokL]at h;have h1:=prN_cnt hu a last h.2.1;have h2:=prN_cnt hu a true h.2.1;simp only[prN,sz,szL]
  repeat' split
  all_goals simp only[List.length_cons,List.length_append,List.length_nil]
  all_goals omega
 | .mk op ns so nn mm (a::b::l),last,h=>by
  simp only[cok,cokL]at h;have h1:=prN_cnt hu a false h.2.1;have h2:=prN_cnt hu a true h.2.1;have h3:=prN_cnt hu b last h.2.2.1;have h4:=prN_cnt hu b true h.2.2.1;simp only[prN,sz,szL]
  repeat' split
  all_goals simp only[List.length_cons,List.length_append,List.length_nil]
  all_goals omega
theorem cnt_app (a b:Str):(a++b).count 32=a.count 32+b.count 32:=List.count_append
theorem wd_c {w:Str} (h:Wd w):w.count 32=0:=by
 rcases h with h|⟨k,hk,rfl⟩|h
 ·unfold isId at h;simp only[Bool.and_eq_true]at h;rw[List.count_eq_zero];intro hm;have:=List.all_eq_true.1 h.1.1.2 _ hm;exact absurd this (by decide)
 ·have:(List.range 65).all (fun k=>decide ((Lib.decDigits k).count 32=0))=true:=by kernel_rfl
  have:=List.all_eq_true.1 this k (List.mem_range.2 (by omega));simpa using this
 ·have:wdL.all (fun w=>decide (w.count 32=0))=true:=by kernel_rfl
  have:=List.all_eq_true.1 this w h;simpa using this
theorem join_c: ∀{ws:List Str},(∀w∈ws,Wd w)→(Lib.join ws [32]).count 32≤ws.length
 |[],_=>by simp[Lib.join,List.intercalate]
 |[w],h=>by
  have e:Lib.join [w] [32]=w:=by simp[Lib.join,List.intercalate]
  rw[e,wd_c (h w (by simp))];simp
 |w::u::ws,h=>by
  have ih:=join_c (ws:=u::ws) fun x hx=>h x (List.mem_cons_of_mem _ hx);rw[joinW_cons,cnt_app,wd_c (h w (by simp)),List.count_cons_self];simp only[List.length_cons]at ih⊢;omega
theorem wid_len (k:Nat): ∀(s:Str) (i:Nat),(wid k i s).length≤s.length+3*s.count 32
 |[],i=>by simp[wid]
 |c::s,i=>by
  have ih:=wid_len k s (i+1);unfold wid;split
  ·rename_i hc
   obtain⟨rfl,-⟩:=hc;rw[List.count_cons_self];simp only[List.length_cons];omega
  ·have:s.count 32≤(c::s).count 32:=List.count_le_count_cons ..;simp only[List.length_cons];omega
structure Sml (w:List Mc):Prop where
 wf:Wf w
 n:w.length≤5
 sz: ∀m∈w,sz m.bd≤30
 dp: ∀m∈w,dp m.bd≤20
theorem wf_pre {w:List Mc} (h:Wf w): ∀m∈w,∃u,Md u m∧ ∀d∈u,d.ps.length≤6:=by
 intro m hm;obtain⟨u,v,rfl⟩:=List.append_of_mem hm;refine⟨u,may_md (h u m v rfl),fun d hd=>?_⟩;obtain⟨u',hu'⟩:=wf_md h.left d hd;exact parE_len hu'.ps
theorem Sml.cnt {w:List Mc} (h:Sml w): ∀m∈w,(prN m.bd true).length≤510∧(lnF m).length≤534:=by
 intro m hm;obtain⟨u,hu,h6⟩:=wf_pre h.wf m hm;have h1:=prN_cnt h6 m.bd true hu.cok;have h2:=h.sz m hm;have h3:=parE_len hu.ps;have h4:=parW_len m.ps;refine⟨by omega,?_⟩;simp only[lnF,headW,List.length_append,List.length_cons,List.length_nil];omega
theorem Sml.rdb {w:List Mc} (h:Sml w): ∀m∈w,Rdb m:=by
 intro m hm;obtain⟨u,hu,-⟩:=wf_pre h.wf m hm;have h1:=h.dp m hm;have h2:=(h.cnt m hm).1;have h3:=sum_join_le (prN m.bd true) 16 fun x hx=>(prN_wd _ _ (Nat.le_refl _) (chk_vd hu.bd) true x hx).len;exact⟨by omega,by unfold prT;omega⟩
theorem Sml.ok {w:List Mc} (h:Sml w):w.findSome? errG=none:=by
 rw[List.findSome?_eq_none_iff];intro m hm;obtain⟨u,hu,-⟩:=wf_pre h.wf m hm;have h1:=(h.rdb m hm).tx;have e:nodR m.bd=(prT m.bd,0):=by
  unfold nodR;rw[if_pos hu.bd,if_neg (by omega)]
 unfold errG;rw[e,if_pos rfl]
theorem Sml.fmt {w:List Mc} (h:Sml w):fmtR w=(txtF w,0):=by
 unfold fmtR;rw[h.ok,fmt_txt h.ok fun m hm=>by
  obtain⟨u,hu,-⟩:=wf_pre h.wf m hm;exact hu.bd]
theorem txtF_len: ∀{w:List Mc},(∀m∈w,∃u,Md u m)→(∀m∈w,(lnF m).length≤534)→(txtF w).length≤9079*w.length∧(txtF w).count 32≤534*w.length
 |[],_,_=>by simp[txtF]
 |m::w,h,hl=>by
  obtain⟨u,hu⟩:=h m (by simp);have ih:=txtF_len (w:=w) (fun x hx=>h x (List.mem_cons_of_mem _ hx)) (fun x hx=>hl x (List.mem_cons_of_mem _ hx));have h1:=sum_join_le (lnF m) 16 fun x hx=>(lnF_wd hu x hx).len;have h2:=join_c (lnF_wd hu);have h3:=hl m (by simp);have h10:([10]:Str).count 32=0:=by decide
  simp only[txtF,lnT_eq,List.length_append,List.length_cons,List.length_nil,cnt_app,h10];omega
theorem txs_app (a b:List TkP):txs (a++b)=txs a+txs b:=by
 induction a with
 |nil=>simp[txs]
 |cons x a ih=>simp only[List.cons_append,txs,ih];omega
theorem allF_tx: ∀{w:List Mc},(∀m∈w,∃u,Md u m)→(∀m∈w,(lnF m).length≤534)→txs ((allF w).map wt)+((allF w).map wt).length≤17*(534*w.length)
 |[],_,_=>by simp[allF,txs]
 |m::w,h,hl=>by
  obtain⟨u,hu⟩:=h m (by simp);have ih:=allF_tx (w:=w) (fun x hx=>h x (List.mem_cons_of_mem _ hx)) (fun x hx=>hl x (List.mem_cons_of_mem _ hx));have h3:=hl m (by simp);have ea:allF (m::w)=lnF m++allF w:=rfl;have hw: ∀ws:List Str,(∀x∈ws,Wd x)→txs (ws.map wt)≤16*ws.length:=by
   intro ws
   induction ws with
   |nil=>intro _;simp[txs]
   |cons x ws ih=>
    intro hx;have h1:=(wt_ok (hx x (by simp))).2;have h2:=(hx x (by simp)).len;have h3:=ih fun y hy=>hx y (List.mem_cons_of_mem _ hy);simp only[List.map_cons,txs,h1,List.length_cons];omega
  have h4:=hw (lnF m) (lnF_wd hu);rw[ea,List.map_append,txs_app];simp only[List.length_append,List.length_map,List.length_cons]at ih⊢;omega
theorem Sml.txt {w:List Mc} (h:Sml w) (t k:Nat):TxOK (txtF w)∧TxOK (wid k 0 (txtF w))∧prsS t (txtF w)=(w,0)∧prsS t (wid k 0 (txtF w))=(w,0):=by
 have hm: ∀m∈w,∃u,Md u m:=fun m hm=>by
  obtain⟨u,hu,-⟩:=wf_pre h.wf m hm;exact⟨u,hu⟩
 have hc:=fun m hm=>(h.cnt m hm).2;have h1:=txtF_len hm hc;have h2:=allF_tx hm hc;have h3:=wid_len k (txtF w) 0;have hn:=h.n;have e1:=lx_txt hm;have e2:lx (wid k 0 (txtF w))=((allF w).map wt,0):=(lx_wid k _ _ 0 (Nat.le_refl _)).trans e1;refine⟨⟨by omega,by rw[e1];dsimp only;omega⟩,⟨by omega,by rw[e2];dsimp only;omega⟩,prsS_print t e1 (by omega) h.wf h.rdb,prsS_print t e2 (by omega) h.wf h.rdb⟩
end Go.Proofs.Ae
namespace Go.Proofs.Ae
open Go Go.RowKit
theorem wid_snoc (k:Nat): ∀(s:Str) (i:Nat) (c:UInt8),wid k i (s++[c])=wid k i s++(if c=32∧(i+s.length+k)%3=0 then [32,10,9,32]else [c])
 |[],i,c=>by
  simp only[List.nil_append,wid,List.length_nil,Nat.add_zero]
 |d::s,i,c=>by
  have ih:=wid_snoc k s (i+1) c;simp only[List.cons_append,wid];rw[ih,show i+1+s.length+k=i+(d::s).length+k by simp only[List.length_cons];omega];split<;>simp
section
variable {cl:Caller} {yl:Nat→List AV→Mem→Option (AV×Mem)} {N:Nat}
theorem loop5 {G:Nat→Option AV} (s:Str) (k:UInt8) (v5 v6:AV) (O:List Obj) (R:List Arr) (hs:s.length≤65536) (hN:s.length<N) (kk mm:Nat):
  iter false (evalC G false cl yl N c5b0) ⟨[1,5,6,7,9,10],[(9,none),(10,none)],true⟩ kk mm N ⟨[(1,.int .u8 k.toNat),(5,v5),(6,v6),(7,.str s),(9,.str []),(10,.int .i64 ((0:Nat):Int))],⟨O,R⟩,[]⟩=
   some (.exit 0,⟨[(37,.bool false),(36,.int .i64 s.length),(35,.str s),(34,.int .i64 s.length),(1,.int .u8 k.toNat),(5,v5),(6,v6),(7,.str s),(9,.str (wid k.toNat 0 s)),(10,.int .i64 s.length)],⟨O,R⟩,[]⟩):=by
 have hk:k.toNat<256:=k.toNat_lt;have main:=iter_all (mu:=false) (step:=evalC G false cl yl N c5b0) (an:=⟨[1,5,6,7,9,10],[(9,none),(10,none)],true⟩) (k:=kk) (m:=mm) (N:=N) s
  (fun i=>⟨[(1,.int .u8 k.toNat),(5,v5),(6,v6),(7,.str s),(9,.str (wid k.toNat 0 (s.take i))),(10,.int .i64 (i:Nat))],⟨O,R⟩,[]⟩) (.exit 0)
  ⟨[(37,.bool false),(36,.int .i64 s.length),(35,.str s),(34,.int .i64 s.length),(1,.int .u8 k.toNat),(5,v5),(6,v6),(7,.str s),(9,.str (wid k.toNat 0 s)),(10,.int .i64 s.length)],⟨O,R⟩,[]⟩ hN (by simp) ?_ ?_
 ·exact main
 ·intro i c hc hi;have hc':=(List.getElem?_eq_some_iff.1 hc).2;have w1:=wrap_succ (i:=i) (by omega);have hwl:=wid_len k.toNat (s.take i) 0;have hcn:(s.take i).count 32≤(s.take i).length:=List.count_le_length;have htl:(s.take i).length=i:=by simp;omega
  have e1:=wid_snoc k.toNat (s.take i) 0 c;rw[←take_succ_of hc,htl,Nat.zero_add]at e1;have hle:i≤i+1:=by omega
  have h0i:(0:Int)≤(i:Int)+1:=by omega
  have hle2:i+1≤s.length:=by omega
  have hsl:List.drop i (s.take (i+1))=[c]:=by
   rw[take_succ_of hc,List.drop_append,htl];simp
  have hcc:wrapF .i64 ((i:Int)+(k.toNat:Int))=((i+k.toNat:Nat):Int):=by rw[wrap_id (by omega) (by omega)];omega
  have hkc:wrapF .i64 (k.toNat:Int)=(k.toNat:Int):=wrap_id (by omega) (by omega);have hml:(wid k.toNat 0 (s.take i)).length+1≤9223372036854775807:=by omega
  have hml2:(wid k.toNat 0 (s.take i)).length+1+3≤9223372036854775807:=by omega
  rw[e1];generalize wid k.toNat 0 (s.take i)=acc at*;by_cases h1:c=32
  ·subst h1;have hrem:((i+k.toNat:Nat):Int).tmod 3=(((i+k.toNat)%3:Nat):Int):=by
    rw[Int.tmod_eq_emod_of_nonneg (by omega)];omega
   by_cases h2:(i+k.toNat)%3=0
   ·rw[if_pos ⟨rfl,h2⟩];have hr2:((i:Int)+(k.toNat:Int)).tmod 3=0:=by rw[←Int.natCast_add,hrem,h2];rfl
    simp -implicitDefEqProofs [c5b0,hi,hc',w1,h0i,hle,hle2,hsl,hml,hml2,hkc,hcc,hr2,strA]
   ·rw[if_neg (by simp[h2])];have hr2:(((i:Int)+(k.toNat:Int)).tmod 3==0)=false:=by
     rw[←Int.natCast_add,hrem];simp;omega
    simp -implicitDefEqProofs [c5b0,hi,hc',w1,h0i,hle,hle2,hsl,hml,hml2,hkc,hcc,hr2,strA]
  ·rw[if_neg (by simp[h1])];have hcn:((c.toNat:Int)==32)=false:=by
    have:c.toNat≠32:=fun e=>h1 (UInt8.toNat_inj.1 e);simp;omega
   simp -implicitDefEqProofs [c5b0,hi,hc',w1,h0i,hle,hle2,hsl,hml,hcn,strA]
 ·simp -implicitDefEqProofs [c5b0]
end
def c5i0:CCode:=(.reg [⟨some 4,(.mov (.const (.bool false))),none⟩])
def c5i1:CCode:=(.seq (.reg [⟨some 17,(.mov (.tmp 0)),none⟩,⟨some 18,(.call (.fn 8) [(.tmp 17)]),none⟩,⟨some 19,(.un .not (.tmp 18)),none⟩]) (.cond (.tmp 19) (.seq (.reg [⟨some 20,(.call (.fn 9) []),none⟩,⟨some 4,(.mov (.tmp 20)),none⟩]) .ret) .skip))
def c5i2:CCode:=(.reg [⟨some 22,(.mov (.tmp 0)),none⟩,⟨some 23,(.call (.fn 17) [(.tmp 22)]),none⟩,⟨some 21,(.mov (.tmp 23)),none⟩,⟨some 24,(.extr (.tmp 21) 0),none⟩,⟨some 25,(.extr (.tmp 21) 1),none⟩,⟨some 5,(.mov (.tmp 24)),none⟩,⟨some 6,(.mov (.tmp 25)),none⟩])
def c5i3:CCode:=(.reg [⟨some 27,(.mov (.tmp 5)),none⟩,⟨some 28,(.call (.fn 18) [(.tmp 27)]),none⟩,⟨some 26,(.mov (.tmp 28)),none⟩,⟨some 29,(.extr (.tmp 26) 0),none⟩,⟨some 30,(.extr (.tmp 26) 1),none⟩,⟨some 7,(.mov (.tmp 29)),none⟩,⟨some 8,(.mov (.tmp 30)),none⟩])
def c5i4:CCode:=(.seq (.reg [⟨some 31,(.mov (.tmp 8)),none⟩,⟨some 32,(.bin .neq (.tmp 31) (.const (.int .i64 0))),none⟩]) (.cond (.tmp 32) (.seq (.reg [⟨some 33,(.call (.fn 9) []),none⟩,⟨some 4,(.mov (.tmp 33)),none⟩]) .ret) .skip))
def c5i5:CCode:=(.reg [⟨some 9,(.mov (.const (.str []))),none⟩])
def c5i6:CCode:=(.seq (.reg [⟨some 10,(.mov (.const (.int .i64 0))),none⟩]) (.block 0 (.loop ⟨[1,5,6,7,9,10],[(9,none),(10,none)],true⟩ c5b0)))
def c5i7:CCode:=(.reg [⟨some 62,(.mov (.tmp 7)),none⟩,⟨some 63,(.call (.fn 20) [(.tmp 62)]),none⟩,⟨some 61,(.mov (.tmp 63)),none⟩,⟨some 64,(.extr (.tmp 61) 0),none⟩,⟨some 65,(.extr (.tmp 61) 1),none⟩,⟨some 66,(.extr (.tmp 61) 2),none⟩,⟨some 11,(.mov (.tmp 64)),none⟩,⟨some 12,(.mov (.tmp 65)),none⟩,⟨some 13,(.mov (.tmp 66)),none⟩])
def c5i8:CCode:=(.reg [⟨some 68,(.mov (.tmp 9)),none⟩,⟨some 69,(.call (.fn 20) [(.tmp 68)]),none⟩,⟨some 67,(.mov (.tmp 69)),none⟩,⟨some 70,(.extr (.tmp 67) 0),none⟩,⟨some 71,(.extr (.tmp 67) 1),none⟩,⟨some 72,(.extr (.tmp 67) 2),none⟩,⟨some 14,(.mov (.tmp 70)),none⟩,⟨some 15,(.mov (.tmp 71)),none⟩,⟨some 16,(.mov (.tmp 72)),none⟩])
def c5i9:CCode:=(.reg [⟨some 73,(.mov (.tmp 13)),none⟩,⟨some 74,(.bin .eql (.tmp 73) (.const (.int .i64 0))),none⟩,⟨some 75,(.mov (.tmp 74)),none⟩,⟨some 76,(.mov (.tmp 16)),some (75,true)⟩,⟨some 77,(.bin .eql (.tmp 76) (.const (.int .i64 0))),some (75,true)⟩,⟨some 78,(.pick (.tmp 75) (.tmp 77) (.const (.bool false))),none⟩,⟨some 79,(.mov (.tmp 78)),none⟩,⟨some 80,(.mov (.tmp 11)),some (79,true)⟩,⟨some 81,(.mov (.tmp 6)),some (79,true)⟩,⟨some 82,(.call (.fn 14) [(.tmp 80),(.tmp 81)]),some (79,true)⟩,⟨some 83,(.pick (.tmp 79) (.tmp 82) (.const (.bool false))),none⟩,⟨some 84,(.mov (.tmp 83)),none⟩,⟨some 85,(.mov (.tmp 11)),some (84,true)⟩,⟨some 86,(.mov (.tmp 5)),some (84,true)⟩,⟨some 87,(.call (.fn 22) [(.tmp 85),(.tmp 86)]),some (84,true)⟩,⟨some 88,(.pick (.tmp 84) (.tmp 87) (.const (.bool false))),none⟩,⟨some 89,(.mov (.tmp 88)),none⟩,⟨some 90,(.mov (.tmp 14)),some (89,true)⟩,⟨some 91,(.mov (.tmp 5)),some (89,true)⟩,⟨some 92,(.call (.fn 22) [(.tmp 90),(.tmp 91)]),some (89,true)⟩,⟨some 93,(.pick (.tmp 89) (.tmp 92) (.const (.bool false))),none⟩,⟨some 94,(.mov (.tmp 93)),none⟩,⟨some 95,(.mov (.tmp 5)),some (94,true)⟩,⟨some 96,(.mov (.tmp 14)),some (94,true)⟩,⟨some 97,(.call (.fn 22) [(.tmp 95),(.tmp 96)]),some (94,true)⟩,⟨some 98,(.pick (.tmp 94) (.tmp 97) (.const (.bool false))),none⟩,⟨some 99,(.mov (.tmp 98)),none⟩,⟨some 100,(.call (.fn 9) []),some (99,true)⟩,⟨some 101,(.pick (.tmp 99) (.tmp 100) (.const (.bool false))),none⟩,⟨some 4,(.mov (.tmp 101)),none⟩])
def c5i10:CCode:=.ret
def c5t9:CCode:=(.seq c5i9 c5i10)
def c5t7:CCode:=(.seq c5i7 (.seq c5i8 c5t9))
def c5t5:CCode:=(.seq c5i5 (.seq c5i6 c5t7))
def c5t3:CCode:=(.seq c5i3 (.seq c5i4 c5t5))
theorem c5_b:c5.body=(.seq c5i0 (.seq c5i1 (.seq c5i2 c5t3))):=rfl
theorem SetAt.old {O O':List Obj} {R R':List Arr} {id:Nat} {a:Option Nat} {w:List Mc} (h:SetAt O R id a w) (k:Old O O') (k':Old R R'):SetAt O' R' id a w:=by
 cases h with
 |nil h=>exact .nil (k _ _ h)
 |own h hr=>exact .own (k _ _ h) (k' _ _ hr)
structure Cs5 (cl:Caller) (l:List Mc) (t:Nat):Prop where
 h8: ∀M,cl 8 [.slc .shared (l.map mcv)] M=some (.bool (sme l),M)
 h9: ∀M,cl 9 [] M=some (.bool true,M)
 h17:l.length≤5→ ∀O R,∃X Y a w,cl 17 [.slc .shared (l.map mcv)] ⟨O,R⟩=some (.tup [.ptr O.length 0,.slc (.own R.length) (w.map mcv)],⟨O++X,R++Y⟩)∧SetAt (O++X) (R++Y) O.length a w∧Gd w∧Wf w∧w.length≤l.length∧ ∀d∈w,d∈l
 h18: ∀w O R id a,SetAt O R id a w→Gd w→Wf w→ ∃O' R',cl 18 [.ptr id 0] ⟨O,R⟩=some (.tup [.str (fmtR w).1,.int .i64 (fmtR w).2],⟨O',R'⟩)∧Old O O'∧Old R R'
 h20: ∀s O R,TxOK s→ ∃v n O' R',cl 20 [.str s] ⟨O,R⟩=some (.tup [v,.int .i64 n,.int .i64 (prsS t s).2],⟨O',R'⟩)∧PrsR O R (prsS t s) v n O' R'
 h14: ∀w O R id a sw,SetAt O R id a w→Gd w→sw≠ .full→Gw (cl 14 [.ptr id 0,.slc sw (w.map mcv)] ⟨O,R⟩) (.bool true) O R
 h22: ∀w O R i j a b,SetAt O R i a w→SetAt O R j b w→Gd w→cl 22 [.ptr i 0,.ptr j 0] ⟨O,R⟩=some (.bool true,⟨O,R⟩)
section
variable {G:Nat→Option AV} {cl:Caller} {yl:Nat→List AV→Mem→Option (AV×Mem)} {N:Nat}
theorem evD5 {l:List Mc} {t:Nat} (h:Cs5 cl l t) {w:List Mc} (hg:Gd w) {b c d:Nat} {ab ac ad:Option Nat} {O:List Obj} {R:List Arr} {ts:Slots} {a0:Nat}
  (sb:SetAt O R b ab w) (sc:SetAt O R c ac w) (sd:SetAt O R d ad w)
  (l5:look 5 ts=.ptr b 0) (l6:look 6 ts=.slc (.own a0) (w.map mcv)) (l11:look 11 ts=.ptr c 0) (l13:look 13 ts=.int .i64 0) (l14:look 14 ts=.ptr d 0) (l16:look 16 ts=.int .i64 0):
  ∃(M':Mem) (ts':Slots),evalC G false cl yl N c5t9 ⟨ts,⟨O,R⟩,[]⟩=some (.ret,⟨ts',M',[]⟩)∧look 4 ts'=.bool true:=by
 obtain⟨X,Y,k14⟩:=h.h14 w O R c ac (.own a0) sc hg (by simp);have k1:=h.h22 w _ _ c b ac ab (sc.grow X Y) (sb.grow X Y) hg;have k2:=h.h22 w _ _ d b ad ab (sd.grow X Y) (sb.grow X Y) hg;have k3:=h.h22 w _ _ b d ab ad (sb.grow X Y) (sd.grow X Y) hg;have h9:=h.h9;refine⟨⟨O++X,R++Y⟩,?_⟩;apply Exists.intro;apply And.intro
 ·simp -implicitDefEqProofs [c5t9,c5i9,c5i10,l5,l6,l11,l13,l14,l16,k14,k1,k2,k3,h9];rfl
 ·first|rfl|simp
theorem evC5 {l:List Mc} {t:Nat} (h:Cs5 cl l t) {w:List Mc} (hg:Gd w) {s1 s2:Str} (t1:TxOK s1) (t2:TxOK s2) (e1:prsS t s1=(w,0)) (e2:prsS t s2=(w,0)) {b:Nat} {ab:Option Nat} {O:List Obj} {R:List Arr} {ts:Slots} {a0:Nat}
  (sb:SetAt O R b ab w) (l5:look 5 ts=.ptr b 0) (l6:look 6 ts=.slc (.own a0) (w.map mcv)) (l7:look 7 ts=.str s1) (l9:look 9 ts=.str s2):
  ∃(M':Mem) (ts':Slots),evalC G false cl yl N c5t7 ⟨ts,⟨O,R⟩,[]⟩=some (.ret,⟨ts',M',[]⟩)∧look 4 ts'=.bool true:=by
 obtain⟨v1,n1,O1,R1,k1,p1⟩:=h.h20 s1 O R t1;obtain⟨v2,n2,O2,R2,k2,p2⟩:=h.h20 s2 O1 R1 t2;rw[e1]at k1 p1;rw[e2]at k2 p2;obtain⟨o1,r1,q1⟩:=p1;obtain⟨o2,r2,q2⟩:=p2;rcases q1 with⟨-,rfl,rfl,⟨a1,sc,-⟩,-⟩|⟨hh,-⟩
 ·rcases q2 with⟨-,rfl,rfl,⟨a2,sd,-⟩,-⟩|⟨hh,-⟩
  ·have mid: ∃ts2:Slots,evalC G false cl yl N c5t7 ⟨ts,⟨O,R⟩,[]⟩=evalC G false cl yl N c5t9 ⟨ts2,⟨O2,R2⟩,[]⟩∧look 5 ts2=.ptr b 0∧look 6 ts2=.slc (.own a0) (w.map mcv)∧look 11 ts2=.ptr (O.length+1) 0∧look 13 ts2=.int .i64 0∧look 14 ts2=.ptr (O1.length+1) 0∧look 16 ts2=.int .i64 0:=by
    apply Exists.intro;apply And.intro
    ·simp -implicitDefEqProofs [c5t7,c5i7,c5i8,l7,l9,k1,k2];rfl
    ·refine⟨?_,?_,?_,?_,?_,?_⟩<;>first|rfl|simpa using by assumption
   obtain⟨ts2,m1,m5,m6,m11,m13,m14,m16⟩:=mid;rw[m1];exact evD5 h hg ((sb.old o1 r1).old o2 r2) (sc.old o2 r2) sd m5 m6 m11 m13 m14 m16
  ·exact absurd rfl hh
 ·exact absurd rfl hh
theorem evB5 {l:List Mc} {t:Nat} (h:Cs5 cl l t) {w:List Mc} (hg:Gd w) (hS:Sml w) (k:UInt8) (hN:65536<N) {b:Nat} {ab:Option Nat} {O:List Obj} {R:List Arr} {ts:Slots} {a0:Nat}
  (sb:SetAt O R b ab w) (l1:look 1 ts=.int .u8 k.toNat) (l5:look 5 ts=.ptr b 0) (l6:look 6 ts=.slc (.own a0) (w.map mcv)):
  ∃(M':Mem) (ts':Slots),evalC G false cl yl N c5t3 ⟨ts,⟨O,R⟩,[]⟩=some (.ret,⟨ts',M',[]⟩)∧look 4 ts'=.bool true:=by
 obtain⟨O1,R1,k18,o1,r1⟩:=h.h18 w O R b ab sb hg hS.wf;rw[hS.fmt]at k18;obtain⟨t1,t2,e1,e2⟩:=hS.txt t k.toNat;have hl:=loop5 (G:=G) (cl:=cl) (yl:=yl) (N:=N) (txtF w) k (.ptr b 0) (.slc (.own a0) (w.map mcv)) O1 R1 t1.len (by have:=t1.len;omega) O1.length R1.length;generalize txtF w=tx at*;have mid: ∃ts2:Slots,evalC G false cl yl N c5t3 ⟨ts,⟨O,R⟩,[]⟩=evalC G false cl yl N c5t7 ⟨ts2,⟨O1,R1⟩,[]⟩∧look 5 ts2=.ptr b 0∧look 6 ts2=.slc (.own a0) (w.map mcv)∧look 7 ts2=.str tx∧look 9 ts2=.str (wid k.toNat 0 tx):=by
  simp -implicitDefEqProofs at hl;apply Exists.intro;apply And.intro
  ·simp -implicitDefEqProofs [c5t3,c5t5,c5i3,c5i4,c5i5,c5i6,l1,l5,l6,k18,hl];rfl
  ·refine⟨?_,?_,?_,?_⟩<;>first|rfl|simpa using by assumption
 obtain⟨ts2,m1,m5,m6,m7,m9⟩:=mid;rw[m1];exact evC5 h hg t1 t2 e1 e2 (sb.old o1 r1) m5 m6 m7 m9
theorem ev5 (l:List Mc) (k:UInt8) {t:Nat} (h:Cs5 cl l t) (hN:65536<N):pureA G false cl yl N c5 [.slc .shared (l.map mcv),.int .u8 k.toNat]=some (.bool true,none):=by
 have h8:=h.h8;have h9:=h.h9
 suffices hx: ∃M,callA G false cl yl N c5 [.slc .shared (l.map mcv),.int .u8 k.toNat] ⟨[],[]⟩=some (.bool true,M)by
  obtain⟨M,hM⟩:=hx;have harg:argL [.slc .shared (l.map mcv),.int .u8 k.toNat]=some [.slc .shared (l.map mcv),.int .u8 k.toNat]:=rfl;unfold pureA;rw[harg];simp only[hM];rfl
 have hsz: ∀d∈l,sme l=true→sz d.bd≤30∧dp d.bd≤20:=by
  intro d hd hs;unfold sme at hs;simp only[Bool.and_eq_true,decide_eq_true_eq,List.all_eq_true]at hs;have:=hs.2 d hd;unfold smOk few at this;simp only[Bool.and_eq_true,decide_eq_true_eq]at this;exact⟨this.1.1.1,this.1.1.2⟩
 cases c1:sme l with
 |false=>
  rw[c1]at h8;refine⟨⟨[],[]⟩,?_⟩;simp -implicitDefEqProofs [c5,h8,h9]
 |true=>
  rw[c1]at h8;have hl:l.length≤5:=by unfold sme at c1;simp at c1;exact c1.1
  obtain⟨X,Y,a,w,k17,sb,hg,hw,hn,hm⟩:=h.h17 hl [] [];have hS:Sml w:=⟨hw,by omega,fun m hh=>(hsz m (hm m hh) c1).1,fun m hh=>(hsz m (hm m hh) c1).2⟩
  simp only[List.nil_append,List.length_nil]at k17 sb;have mid: ∃ts2:Slots,evalC G false cl yl N c5.body ⟨frame 0 [.slc .shared (l.map mcv),.int .u8 k.toNat],⟨[],[]⟩,[]⟩=evalC G false cl yl N c5t3 ⟨ts2,⟨X,Y⟩,[]⟩∧look 1 ts2=.int .u8 k.toNat∧look 5 ts2=.ptr 0 0∧look 6 ts2=.slc (.own 0) (w.map mcv):=by
   apply Exists.intro;apply And.intro
   ·rw[c5_b];simp -implicitDefEqProofs [c5i0,c5i1,c5i2,h8,k17];rfl
   ·refine⟨?_,?_,?_⟩<;>first|rfl|simp
  obtain⟨ts2,m1,n1,n5,n6⟩:=mid;obtain⟨M',ts',z1,z2⟩:=evB5 (G:=G) (yl:=yl) h hg hS k hN sb n1 n5 n6;refine⟨M',?_⟩;unfold callA;rw[m1,z1];simp -implicitDefEqProofs [leave,takeMarks,z2,c5]
end
end Go.Proofs.Ae
namespace Go.Proofs.Ae
open Go Go.RowKit
set_option maxRecDepth 100000
section
variable {G:Nat→Option AV} {cl:Caller} {yl:Nat→List AV→Mem→Option (AV×Mem)} {N:Nat}
theorem ev22e (w:List Mc) {O:List Obj} {R:List Arr} {id1 id2:Nat} {a1 a2:Option Nat} (h1:SetAt O R id1 a1 w) (h2:SetAt O R id2 a2 w)
  (h61: ∀b1 b2 M,(b1=true→w=[])→(b2=true→w=[])→ ∀sp1 sp2,argV (.slc sp1 (w.map mcv))=some (.slc (spB' b1) (w.map mcv))→argV (.slc sp2 (w.map mcv))=some (.slc (spB' b2) (w.map mcv))→cl 61 [.slc sp1 (w.map mcv),.slc sp2 (w.map mcv),.fn 62 [] []] M=some (.bool true,M)):
  callA G false cl yl N c22 [.ptr id1 0,.ptr id2 0] ⟨O,R⟩=some (.bool true,⟨O,R⟩):=by
 have sp: ∀{id:Nat} {a:Option Nat},SetAt O R id a w→ ∃sp b,O[id]? =some (.cells [.slc sp (w.map mcv)])∧(b=true→w=[])∧argV (.slc sp (w.map mcv))=some (.slc (spB' b) (w.map mcv)):=by
  intro id a h;cases h with
  |nil h=>exact⟨.full,true,h,fun _=>rfl,rfl⟩
  |own h hr=>exact⟨.own _,false,h,(by simp),rfl⟩
 obtain⟨s1,b1,g1,q1,p1⟩:=sp h1;obtain⟨s2,b2,g2,q2,p2⟩:=sp h2;have k:=fun M=>h61 b1 b2 M q1 q2 s1 s2 p1 p2;simp -implicitDefEqProofs [c22,g1,g2,k]
end
section
variable {t N:Nat}
theorem bq_ok (k:Nat):CallerOK Tryz.prog (GG t) (BW (GG t) (orcOf Q3) N k)∧YielderOK Tryz.prog (GG t) (YW (GG t) (orcOf Q3) N k):=both_ok (T:=TW (orcOf Q3)) hmix kis tabOK (orcW_ok kq3) k false
theorem x22 {w:List Mc} (hg:Gd w) {O:List Obj} {R:List Arr} {i j:Nat} {a b:Option Nat} (h1:SetAt O R i a w) (h2:SetAt O R j b w):BW (GG t) (orcOf Q3) N 1000 22 [.ptr i 0,.ptr j 0] ⟨O,R⟩=some (.bool true,⟨O,R⟩):=by
 have hlen:=hg.len;rw[bw_in (k:=999) (cf:=c22) (by unfold orcW;split<;>rfl) rfl rfl rfl];refine ev22e w h1 h2 fun b1 b2 M q1 q2 s1 s2 p1 p2=>?_;refine bw_sp (k:=998) (spC_v e61_inj ((b1,b2),w,w) (by repeat first|exact .here|refine .there ?_ rfl) (by exact .inl ⟨rfl,by show w.length<big;unfold big;omega,hg.ok⟩) ?_ ?_ M)
 ·have p3:argV (.fn 62 [] [])=some (.fn 62 [] []):=rfl;simp only[argL,p1,p2,p3];rfl
 ·simp
def s5b (f:Nat):Bool:=Nat.beq f 22
noncomputable def K5 (t N:Nat):Caller:=inPl (GG t) false N 20 c20 (K20 t N) (Y2 t N 1000) (inPl (GG t) false N 18 c18 (K18 t N) (YW (GG t) (orcOf (T4 t)) N 1000) (twoC s5b (BW (GG t) (orcOf Q3) N 1000) (BP t N 1001)))
theorem k5_ok:CallerOK Tryz.prog (GG t) (K5 t N):=
 inPl_ok hmix kis ok20 k20_ok (both_ok (T:=TW (orcOf (T2 t))) hmix kis tabOK (orcW_ok t2ok) 1000 false).2 (inPl_ok hmix kis ok18 k18_ok (both_ok (T:=TW (orcOf (T4 t))) hmix kis tabOK (orcW_ok t4ok) 1000 false).2 (twoC_ok (bq_ok 1000).1 (bp_ok 1001).1))
theorem k5_p {f:Nat} {ags:List AV} {M:Mem} (h20:Nat.beq f 20=false) (h18:Nat.beq f 18=false) (h:s5b f=false):K5 t N f ags M=BP t N 1001 f ags M:=by
 unfold K5;rw[inPl_ne h20,inPl_ne h18,twoC_f h]
theorem cs5 (l:List Mc) (hl: ∀d∈l,OkM d) (hN:big<N):Cs5 (K5 t N) l t:=by
 have hN':4294967296<N:=hN;have hbN: ∀d∈l,bk d.bd<N∧d.ps.length<N:=fun d hd=>by
  have h1:=(hl d hd).bd;have h2:=(hl d hd).ps;unfold big at h1 h2;omega
 refine⟨fun M=>?_,fun M=>?_,fun h5 O R=>?_,fun w O R id a hs hg hw=>?_,fun s O R hs=>?_,fun w O R id a sw hs hg hsw=>?_,fun w O R i j a b h1 h2 hg=>?_⟩
 ·exact(k5_p rfl rfl rfl).trans (bw_sp (k:=1000) (spC_v eW1_inj l (by repeat first|exact .here|refine .there ?_ rfl) (by exact hl) (by rfl) (by rfl) M))
 ·exact(k5_p rfl rfl rfl).trans (bw_sp (k:=1000) (spC_v unit_inj () (by repeat first|exact .here|refine .there ?_ rfl) (by exact trivial) (by rfl) (by rfl) M))
 ·obtain⟨X,Y,a,w,h1,h2,h3,h4,h6,h7⟩:=ev17w (G:=GG t) (cl:=BP t N 1000) (yl:=YP t N 1000) (N:=N) l h5 hl (by omega) (cs3 l hl (by omega) hbN) O R;refine⟨X,Y,a,w,?_,h2,h4,h6.wf,h7,h6.mem⟩;rw[k5_p rfl rfl rfl,BP,bw_in (cf:=c17) (by unfold orcW;split<;>rfl) rfl rfl rfl];exact h1
 ·unfold K5;rw[inPl_ne rfl,inPl_eq];exact x18 hg hw hs (by omega)
 ·unfold K5;rw[inPl_eq];exact x20 hN s hs O R
 ·rw[k5_p rfl rfl rfl];exact p14 (k:=997) sw hsw hs hg (by omega)
 ·unfold K5;rw[inPl_ne rfl,inPl_ne rfl,twoC_t rfl];exact x22 hg h1 h2
theorem orc5 (l:List Mc) (k:UInt8) (hl: ∀d∈l,OkM d):OrcAt Tryz.prog (GG t) 5 [.slc .shared (l.map mcv),.int .u8 k.toNat] (.bool true,none):=by
 have hr:=ev5 (G:=GG t) (cl:=K5 t (big+100)) (yl:=Y2 t (big+100) 1000) (N:=big+100) l k (cs5 l hl (by omega)) (by unfold big;omega);intro U bs es w args hG hV hfr;exact good_pgood (codes_ok hmix kis k5_ok (both_ok (T:=TW (orcOf (T2 t))) hmix kis tabOK (orcW_ok t2ok) 1000 false).2).1 ok5 hr hG hV hfr
end
end Go.Proofs.Ae
