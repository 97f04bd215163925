/- An abstract execution of the code, proved sound (first part, continued). -/
import Derived.Test.YtjkmcceipabejaaGreatDoorA
import Derived.Laws.StructEq
import GoSem.Extern.BytealgIndexByte
import Derived.RangeFuncLeaves
import Derived.OrdersIn
set_option linter.unusedSimpArgs false
set_option linter.unusedVariables false
set_option linter.unusedSectionVars false
namespace Go.Proofs.Ae
open Go Go.RowKit
variable [eg]
section
variable {P:Program} {U:Nat->Nat} {bs:List (Option Nat)} {as:List BA} {w:World}
variable {G:Gls} {mu:Bool} {ts:dx} {M M':Mem} {base:Nat} {v:AV}
def oJ (P:Program) (t:TypeId):Bool:=match P.underlying t with
 |some (.int _)=>true
 |some .string=>true
 |_=>false
theorem vR {t:Nat} (h:oJ P t=true) (b:Bool) (n:Nat) (x:Value):(Instr.checkKey b (n+1) t x).run P w=.ok () w:=by
 unfold oJ at h;split at h
 ·rename_i k hk
  simp[Instr.checkKey,run_underlying hk]
 ·rename_i hk
  simp[Instr.checkKey,run_underlying hk]
 ·cases h
theorem sC {d:TypeDesc} {k k':AV} {x x':Value} {r:Bool} (h:eqK k k'=some r) (hk:Rep U w [] [] k x\/Rep U w bs as k x) (hk':Rep U w [] [] k' x') (hd:(∃q,d=.int q)/\(∃q n,k=.int q n)\/d=.string/\ ∃s,k=.str s):
  Instr.sameNow d x x'=some r:=by
 unfold eqK at h;split at h
 ·rename_i q a q' b
  split at h
  ·rename_i hq
   have hq:=zj.1 hq;subst hq;simp at h;subst h;have e1:x=.int q a:=by rcases hk with hk|hk<;>(cases hk;rfl)
   have e2:x'=.int q b:=by cases hk';rfl
   subst e1 e2;rcases hd with⟨⟨q',rfl⟩,_⟩|⟨rfl,s,hs⟩
   ·simp[Instr.sameNow]
   ·cases hs
  ·simp at h
 ·rename_i a b
  simp at h;subst h;have e1:x=.string ⟨a.toArray⟩:=by rcases hk with hk|hk<;>(cases hk;rfl)
  have e2:x'=.string ⟨b.toArray⟩:=by cases hk';rfl
  subst e1 e2;rcases hd with⟨⟨q',rfl⟩,q,n,hs⟩|⟨rfl,s,hs⟩
  ·cases hs
  ·simp only[Instr.sameNow]
   congr 1
   rw[beq_toListBytes,se,se]
 ·simp at h
theorem vS {d:TypeDesc} {k:AV} {x:Value} (hk:Rep U w bs as k x) (hd:(∃q,d=.int q)/\(∃q n,k=.int q n)\/d=.string/\ ∃s,k=.str s):
  ∀{es:List (AV×AV)} {ents:List MapEntry} {r:Option AV} (i:Nat),fW U w bs as es ents->find k es=some r->
   (r=none/\Instr.findNow d x ents i=some none)\/ ∃a j e,r=some a/\Instr.findNow d x ents i=some (some (i+j,e.val))/\ents[j]? =some e/\Rep U w bs as a e.val/\Instr.sameNow d x e.key=some true
 |[],_,r,i,.nil,h=>by simp[find]at h;subst h;exact .inl ⟨rfl,rfl⟩
 |(k',a)::es,_,r,i,.cons (e:=e) (ents:=ents) hk' hv t,h=>by
  simp only[find]at h;split at h
  ·rename_i he
   simp at h;subst h;have hs:=sC he (.inr hk) hk' hd;exact .inr ⟨a,0,e,rfl,by simp[Instr.findNow,hs],rfl,hv,hs⟩
  ·rename_i he
   have hs:=sC he (.inr hk) hk' hd;rcases vS hk hd (i+1) t h with⟨h1,h2⟩|⟨a',j,e',h1,h2,h3,h4,h5⟩
   ·exact .inl ⟨h1,by simp[Instr.findNow,hs,h2]⟩
   ·exact .inr ⟨a',j+1,e',h1,by simp[Instr.findNow,hs,h2,Nat.add_assoc,Nat.add_comm 1 j],by simpa using h3,h4,h5⟩
  ·simp at h
theorem zH {d:TypeDesc} {k a:AV} {x y:Value} (hk:Rep U w bs as k x) (hkp:Rep U w [] [] k x) (ha:Rep U w bs as a y) (hd:(∃q,d=.int q)/\(∃q n,k=.int q n)\/d=.string/\ ∃s,k=.str s):
  ∀{es es':List (AV×AV)} {ents:List MapEntry} (i:Nat) (born:Nat),fW U w bs as es ents->put k a es=some es'->
   (Instr.findNow d x ents i=some none/\fW U w bs as es' (ents++[{key:=x,val:=y,born:=born}]))\/
   ∃j e,Instr.findNow d x ents i=some (some (i+j,e.val))/\ents[j]? =some e/\Instr.sameNow d x e.key=some true/\fW U w bs as es' (ents.set j {e with key:=x,val:=y})
 |[],es',_,i,born,.nil,h=>by
  simp[put]at h;subst h;exact .inl ⟨rfl,.cons hkp ha .nil⟩
 |(k',b)::es,es',_,i,born,.cons (e:=e) (ents:=ents) hk' hv t,h=>by
  simp only[put]at h;split at h
  ·rename_i he
   simp at h;subst h;have hs:=sC he (.inr hk) hk' hd;exact .inr ⟨0,e,by simp[Instr.findNow,hs],rfl,hs,.cons hkp ha t⟩
  ·rename_i he
   have hs:=sC he (.inr hk) hk' hd;split at h
   ·rename_i es2 h2
    simp at h;subst h;rcases zH hk hkp ha hd (i+1) born t h2 with⟨q1,q2⟩|⟨j,e',q1,q2,q3,q4⟩
    ·exact .inl ⟨by simp[Instr.findNow,hs,q1],.cons hk' hv q2⟩
    ·exact .inr ⟨j+1,e',by simp[Instr.findNow,hs,q1,Nat.add_assoc,Nat.add_comm 1 j],by simpa using q2,q3,by simpa using fW.cons hk' hv q4⟩
   ·simp at h
  ·simp at h
theorem di.mapAt (h:di base U bs as w M) {id b:Nat} (hb:bs[id]? =some (some b)) {es:List (AV×AV)} (ho:M.objs[id]? =some (.map es)):
  ∃(ents:Array MapEntry) (ck:Nat),w.heap[b]? =some (.map ents ck)/\fW U w bs as es ents.toList:=h.oo id b _ hb ho
def sD (d:TypeDesc) (k:AV):Bool:=match d,k with
 | .int _,.int _ _=>true
 | .string,.str _=>true
 |_,_=>false
theorem zI {d:TypeDesc} {k:AV} (h:sD d k=true):(∃q,d=.int q)/\(∃q n,k=.int q n)\/d=.string/\ ∃s,k=.str s:=by
 unfold sD at h;split at h
 ·exact .inl ⟨⟨_,rfl⟩,_,_,rfl⟩
 ·exact .inr ⟨rfl,_,rfl⟩
 ·cases h
def oK:TypeDesc->Option Bool
 | .string=>some true
 | .int _=>some false
 |_=>none
theorem zJ {d:TypeDesc} {ks:Bool} {k:AV} (h:oK d=some ks) (hk:i8 ks k=true):sD d k=true:=by
 cases d<;>simp[oK]at h<;>subst h<;>cases k<;>simp[i8,sD]at hk⊢
theorem FF {ks:Bool} {t kt et:Nat} {d:TypeDesc} {z:AV} {okv:Bool} {x k:Opd} {vx vk:Value} (hu:P.underlying t=some (.map kt et)) (hd:P.underlying kt=some d) (hkt:oJ P kt=true) (hz:zV P et=some z)
  (hx:Rep U w bs as (x.val G ts) vx) (hk:Rep U w bs as (k.val G ts) vk) (hks:oK d=some ks) (hH:di base U bs as w M)
  (h:dv G mu ts M (.lkp ks z okv x k)=some (v,M')):ef P base U bs as w v M' (Instr.lookup t vx vk okv):=by
 simp only[dv]at h;split at h
 case isFalse=>cases h
 rename_i hkk
 have hl:=zJ hks hkk;simp only[gY]at h;split at h
 ·rename_i id hv
  rw[hv]at hx;cases hx with
  |map hb=>
   rename_i b
   split at h
   ·rename_i es ho
    obtain⟨ents,ck,h1,h2⟩:=hH.mapAt hb ho;have hkl:=zI hl;have ck0:=vR (P:=P) (w:=w) hkt ents.isEmpty 9999 vk;have base0: ∀(r:Option (Nat×Value)),Instr.findNow d vk ents.toList 0=some r->(Instr.lookup t (.map (some b)) vk okv).run P w=((match r with
      |some (_,v)=>pure (v,true)
      |none=>do pure (<-zeroValue et,false):Sem (Value×Bool)).run P w).andThen fun p w=>.ok (if okv then .tuple #[p.1,.bool p.2]else p.1) w:=by
     intro r hr;have hg:(getObj b).run P w=.ok (Go.Obj.map ents ck) w:=by simp[getObj,Sem.run,h1]
     simp only[Instr.lookup,Sem.run_bind,run_underlying hu,Result.andThen_ok,hg,Sem.run_pure];have e1:Instr.checkKey ents.isEmpty 10000 kt vk=Instr.checkKey ents.isEmpty (9999+1) kt vk:=rfl;rw[e1,ck0];simp only[Result.andThen_ok,Instr.findKey,Sem.run_bind,run_underlying hd,hr,Sem.run_pure];cases r with
     |none=>
      simp only[Sem.run_bind,Sem.run_pure];cases hq:(zeroValue et).run P w<;>rfl
     |some q=>rfl
    split at h
    ·rename_i a hf
     obtain⟨rfl,rfl⟩:=dR h;rcases vS hk hkl 0 h2 hf with⟨hbad,_⟩|⟨a',j,e,ha,hn,hj,hr,_⟩
     ·cases hbad
     ·cases ha;have:=base0 _ hn;cases okv
      ·exact dN hH (by simpa using this) hr
      ·exact dN hH (x:=.tuple #[e.val,.bool true]) (by simpa using this) (.tup (vs:=[e.val,.bool true]) (.cons hr (.cons .bool .nil)))
    ·rename_i hf
     obtain⟨rfl,rfl⟩:=dR h;obtain⟨zv,z1,z2⟩:=sk (w:=w) hz;rcases vS hk hkl 0 h2 hf with⟨_,hn⟩|⟨a',j,e,ha,_⟩
     ·have:=base0 _ hn;cases okv
      ·exact dN hH (x:=zv) (by simpa[z1] using this) (z2 U w bs as)
      ·exact dN hH (x:=.tuple #[zv,.bool false]) (by simpa[z1] using this) (.tup (vs:=[zv,.bool false]) (.cons (z2 U w bs as) (.cons .bool .nil)))
     ·cases ha
    ·simp at h
   ·simp at h
 ·rename_i hv
  rw[hv]at hx;cases hx;obtain⟨rfl,rfl⟩:=dR h;obtain⟨zv,z1,z2⟩:=sk (w:=w) hz;have ck0:=vR (P:=P) (w:=w) hkt true 9999 vk;have this:(Instr.lookup t (.map none) vk okv).run P w=.ok (if okv then .tuple #[zv,.bool false]else zv) w:=by
   have e1:Instr.checkKey true 10000 kt vk=Instr.checkKey true (9999+1) kt vk:=rfl;simp only[Instr.lookup,Sem.run_bind,run_underlying hu,Result.andThen_ok,Sem.run_pure];have e2:(#[]:Array MapEntry).isEmpty=true:=rfl;rw[e2,e1,ck0];simp only[Result.andThen_ok,Instr.findKey,Sem.run_bind,run_underlying hd,Sem.run_pure,Instr.findNow,z1]
  cases okv
  ·exact dN hH (x:=zv) (by simpa using this) (z2 U w bs as)
  ·exact dN hH (x:=.tuple #[zv,.bool false]) (by simpa using this) (.tup (vs:=[zv,.bool false]) (.cons (z2 U w bs as) (.cons .bool .nil)))
 ·simp at h
theorem FG {t:Nat} (hH:di base U bs as w M) (h:dv G mu ts M .mkmap=some (v,M')):ef P base U bs as w v M' (Instr.makeMap t none):=by
 simp only[dv]at h;obtain⟨rfl,rfl⟩:=dR h;have ev:=ib (base:=base) (bs:=bs) (as:=as) (.map #[] 0) hH.hb hH.fr 0;have h1:=hH.alloc (.map #[] 0) 0;have ev2:Evo base (upd U w.heap.size 0) bs as (w.alloc (.map #[] 0)) (upd U w.heap.size 0) (bs++[some w.heap.size]) as (w.alloc (.map #[] 0)):=oD _;refine⟨.map (some w.heap.size),w.alloc (.map #[] 0),?_,upd U w.heap.size 0,bs++[some w.heap.size],as,.map (by rw[<-hH.lo];simp),h1.addObj w.heap.size _ hH.hb (by simp) (gw _ _ _) ?_ ?_ ⟨#[],0,heap_alloc_new w _,.nil⟩,ev.trans ev2⟩
 ·simp[Instr.makeMap,newObj,Sem.run]
 ·intro i hi;have:=(hH.ob i _ hi).2.1;omega
 ·intro j e he hn hb;obtain⟨r,_,hr⟩:=hH.arr he;have:=(hr.lt hn).2;omega
theorem FH {kd t ty:Nat} {d:TypeDesc} {x:Opd} {vx:Value} (hu:P.underlying t=some d) (hkd:oG d=some kd)
  (hx:Rep U w bs as (x.val G ts) vx) (hH:di base U bs as w M)
  (h:dv G mu ts M (.len kd x)=some (v,M')):ef P base U bs as w v M' (Builtin.len_ #[t] ty #[vx]):=by
 simp only[dv]at h;split at h
 case isFalse=>cases h
 rename_i hk
 have hq:=zn hkd;simp only[qh]at h;split at h
 ·rename_i s hv
  rw[hv]at hx;obtain⟨rfl,rfl⟩:=dR h;cases hx;have hd:d=.string:=by
   rw[hv]at hk;rcases hq with⟨e,rfl⟩|⟨⟨_,rfl⟩,rfl⟩|⟨⟨_,_,rfl⟩,rfl⟩|⟨⟨_,rfl⟩,rfl⟩<;>simp_all [iq]
  subst hd;refine dN hH ?_ .int;simp[Builtin.len_,run_underlying hu,goInt,mO]
 ·rename_i sp es hv
  rw[hv]at hx;obtain⟨rfl,rfl⟩:=dR h;obtain⟨e,rfl⟩: ∃e,d=.slice e:=by
   rw[hv]at hk;rcases hq with⟨e,rfl⟩|⟨⟨_,rfl⟩,rfl⟩|⟨⟨_,_,rfl⟩,rfl⟩|⟨⟨_,rfl⟩,rfl⟩<;>simp_all [iq]
  cases hx with
  |slcN hs=>exact dN hH (by simp[Builtin.len_,run_underlying hu,goInt]) .int
  |slc hf hL hr hz hs hcap=>exact dN hH (by simp[Builtin.len_,run_underlying hu,goInt]) .int
 ·rename_i a g off n hv
  rw[hv]at hx;obtain⟨e,rfl⟩: ∃e,d=.slice e:=by
   rw[hv]at hk;rcases hq with⟨e,rfl⟩|⟨⟨_,rfl⟩,rfl⟩|⟨⟨_,_,rfl⟩,rfl⟩|⟨⟨_,rfl⟩,rfl⟩<;>simp_all [iq]
  split at h
  ·rename_i r hr
   obtain⟨rfl,rfl⟩:=dR h;cases hx with
   |osl ha hg hh h1=>
    rename_i e1
    obtain⟨rfl,hn0,hcap⟩:=hh (iK hH ha hr);cases hq:e1.nil with
    |true=>
     have hn:=hn0 hq;subst hn;exact dN hH (by simp[BA.val,hq,Builtin.len_,run_underlying hu,goInt]) .int
    |false=>exact dN hH (by rw[BA.val_some hq];simp[Builtin.len_,run_underlying hu,goInt]) .int
  ·simp at h
 ·rename_i id hv
  rw[hv]at hx;obtain⟨k,e,rfl⟩: ∃k e,d=.map k e:=by
   rw[hv]at hk;rcases hq with⟨e,rfl⟩|⟨⟨_,rfl⟩,rfl⟩|⟨⟨_,_,rfl⟩,rfl⟩|⟨⟨_,rfl⟩,rfl⟩<;>simp_all [iq]
  split at h
  ·rename_i es ho
   obtain⟨rfl,rfl⟩:=dR h;cases hx with
   |map hb=>
    obtain⟨ents,ck,h1,h2⟩:=hH.mapAt hb ho;have hlen: ∀{es:List (AV×AV)} {l:List MapEntry},fW U w bs as es l->l.length=es.length:=by
     intro es
     induction es with
     |nil=>intro l hh;cases hh;rfl
     |cons e es ih=>intro l hh;cases hh with|cons _ _ t=>simp[ih t]
    have:=hlen h2;refine dN hH ?_ .int;simp at this;simp[Builtin.len_,run_underlying hu,goInt,getObj,Sem.run,h1,this]
  ·simp at h
 ·simp at h
theorem FI (c:Array Value) (e:Nat):(w.alloc (.cells c e)).freeze ⟨w.heap.size,c.size,none⟩ 1=w.alloc (.cells c e (c.size,c.size+1)):=by
 simp only[World.freeze,World.alloc];rw[if_neg (by decide)]
 congr 1
 apply Array.ext_getElem?;intro i;rw[Array.getElem?_modify];by_cases h:w.heap.size=i
 ·subst h;simp
 ·simp only[h,if_false,Array.getElem?_push];rw[if_neg (Ne.symm h),if_neg (Ne.symm h)]
theorem FJ {src dst e:Nat} {x:Opd} {vx:Value} (hs:P.underlying src=some .string) (hd:P.underlying dst=some (.slice e)) (he:P.underlying e=some (.int .u8)) (hx:Rep U w bs as (x.val G ts) vx) (hH:di base U bs as w M)
  (h:dv G mu ts M (.convS x)=some (v,M')):ef P base U bs as w v M' (convert src dst vx):=by
 simp only[dv]at h;split at h
 ·rename_i s hv
  rw[hv]at hx;cases hx;obtain⟨rfl,rfl⟩:=dR h;have hge:=grownCap_ge w s.length 0 e
  let cells0:List Value:=s.map (fun b=>Value.int .u8 b.toNat)++List.replicate (grownCap w s.length 0 e - s.length) (.int .u8 0)
  have hrun:(convert src dst (.string ⟨s.toArray⟩)).run P w=.ok (.slice (some ⟨w.heap.size,0,none⟩) s.length (grownCap w s.length 0 e)) (w.drew.alloc (.cells cells0.toArray e (cells0.toArray.size,cells0.toArray.size+1))):=by
   have hch:(choose (.appendCap s.length 0 e)).run P w=.ok (grownCap w s.length 0 e) w.drew:=by
    rfl
   have harr:(ByteArray.mk s.toArray).data.map (fun b=>Value.int .u8 b.toNat)++Array.replicate (grownCap w s.length 0 e - s.length) (.int .u8 0)=cells0.toArray:=by
    apply Array.ext';simp[cells0]
   have hfr:=FI (w:=w.drew) cells0.toArray e;simp only[convert,Sem.run_bind,run_underlying hs,run_underlying hd,run_underlying he,Result.andThen_ok,Conv.stringToBytes,mO,hch,harr];have hn:(newRow e cells0.toArray).run P w.drew=.ok ⟨w.heap.size,0,none⟩ (w.drew.alloc (.cells cells0.toArray e)):=rfl;have hsh:(shape w.heap.size).run P (w.drew.alloc (.cells cells0.toArray e))=.ok (some (e,cells0.toArray.size)) (w.drew.alloc (.cells cells0.toArray e)):=by
    have:=heap_alloc_new w.drew (.cells cells0.toArray e);simp only[World.size_drew]at this;simp only[shape,Sem.run,World.shape?];rw[this]
   have hf2:(freeze ⟨w.heap.size,cells0.toArray.size,none⟩ 1).run P (w.drew.alloc (.cells cells0.toArray e))=.ok () (w.drew.alloc (.cells cells0.toArray e (cells0.toArray.size,cells0.toArray.size+1))):=by
    rw[<-hfr];rfl
   simp only[hn,markStringish,Sem.run_bind,Result.andThen_ok,hsh,hf2,Sem.run_pure]
  have hd2:=hH.drew;have evd:=jE (U:=U) (bs:=bs) (as:=as) hH.hb;have ev:=ib (base:=base) (bs:=bs) (as:=as) (w:=w.drew) (.cells cells0.toArray e (cells0.toArray.size,cells0.toArray.size+1)) hd2.hb hd2.fr s.length;have h1:=hd2.alloc (.cells cells0.toArray e (cells0.toArray.size,cells0.toArray.size+1)) s.length;have hflat: ∀l:List UInt8,dM (l.map fun b=>AV.int .u8 b.toNat)=some (l.map fun b=>AV.int .u8 b.toNat):=by
   intro l
   induction l with
   |nil=>rfl
   |cons b l ih=>simp[dM,cells,ih]
  have hrep: ∀(U:Nat->Nat) (w:World) (l:List UInt8),dt U w [] [] (l.map fun b=>AV.int .u8 b.toNat) (l.map fun b=>Value.int .u8 b.toNat):=by
   intro U w l
   induction l with
   |nil=>exact .nil
   |cons b l ih=>exact .cons .int rfl ih
  refine⟨_,_,hrun,_,bs,as,?_,h1,evd.trans ev⟩;have k:=Rep.slc (U:=upd U w.heap.size s.length) (w:=w.drew.alloc (.cells cells0.toArray e (cells0.toArray.size,cells0.toArray.size+1))) (bs:=bs) (as:=as) (sp:=.shared) (p:=⟨w.heap.size,0,none⟩) (cap:=grownCap w s.length 0 e) (sz:=1)
   (hflat s) (hrep _ _ s) (by
    intro i u hi;rw[iv];have hlt:=eD hi;simp at hlt;refine⟨?_,?_⟩
    ·simp only[World.cell?,World.alloc,World.size_drew];have:(w.drew.heap.push (Go.Obj.cells cells0.toArray e (cells0.toArray.size,cells0.toArray.size+1)))[w.heap.size]? =some (Go.Obj.cells cells0.toArray e (cells0.toArray.size,cells0.toArray.size+1)):=by
      have:=heap_alloc_new w.drew (Go.Obj.cells cells0.toArray e (cells0.toArray.size,cells0.toArray.size+1));exact this
     rw[this];simp only[Option.isSome_none,Bool.false_eq_true,if_false,Nat.zero_add,List.getElem?_toArray,cells0];rw[List.getElem?_append_left (by simp;omega)];exact hi
    ·show 0+i<upd U w.heap.size s.length w.heap.size;rw[gw];omega) (by
    intro e1 he1;obtain⟨b,_,rfl⟩:=List.mem_map.1 he1;exact⟨_,rfl,rfl⟩) trivial (by simpa using hge)
  simpa using k
 ·simp at h
theorem FK {d:TypeDesc} {x y:Value} (h:Instr.sameNow d x y=some true):Instr.sameBits 10000 y x=true:=by
 unfold Instr.sameNow at h;split at h
 ·rename_i k a k' b
  split at h
  ·rename_i hk
   subst hk;simp at h;subst h;simp[Instr.sameBits]
  ·simp at h
 ·simp at h;
  rename_i a b
  simp only[Instr.sameBits];rw[beq_toListBytes]at h⊢;simp at h⊢;exact h.symm
 ·simp at h;subst h;simp[Instr.sameBits]
 ·simp at h
theorem zK {ks:Bool} {t kt et:Nat} {d:TypeDesc} {x k y:Opd} {vx vk vy:Value} (hu:P.underlying t=some (.map kt et)) (hd:P.underlying kt=some d) (hkt:oJ P kt=true)
  (hx:Rep U w bs as (x.val G ts) vx) (hk:Rep U w bs as (k.val G ts) vk) (hy:Rep U w bs as (y.val G ts) vy) (hks:oK d=some ks) (hH:di base U bs as w M)
  (h:dv G mu ts M (.ins ks x k y)=some (v,M')):v=.tup []/\ ∃w',(Instr.mapUpdate t vx vk vy).run P w=.ok () w'/\di base U bs as w' M'/\Evo base U bs as w U bs as w':=by
 simp only[dv]at h;split at h
 case isFalse=>cases h
 rename_i hkk
 have hl:=zJ hks hkk;simp only[rU]at h;split at h
 ·rename_i id hv
  rw[hv]at hx;cases hx with
  |map hb=>
   rename_i b
   split at h
   ·rename_i es ho
    split at h
    ·rename_i es' hp
     obtain⟨rfl,rfl⟩:=dR h;refine⟨rfl,?_⟩;obtain⟨ents,ck,h1,h2⟩:=hH.mapAt hb ho;have hkl:=zI hl;have hkp:Rep U w [] [] (k.val G ts) vk:=by
      rcases hkl with⟨_,q,n,e⟩|⟨_,s,e⟩
      ·rw[e]at hk⊢;cases hk;exact .int
      ·rw[e]at hk⊢;cases hk;exact .str
     have ck0:=vR (P:=P) (w:=w) hkt false 9999 vk;have hg:(getObj b).run P w=.ok (Go.Obj.map ents ck) w:=by simp[getObj,Sem.run,h1]
     have hset: ∀o,(Go.setObj b o).run P w=.ok () {w with heap:=w.heap.setIfInBounds b o}:=by intro o;simp[Go.setObj,Sem.run,h1]
     have hb2:b<w.heap.size:=(hH.ob _ _ hb).2.1;have e1:Instr.checkKey false 10000 kt vk=Instr.checkKey false (9999+1) kt vk:=rfl;have done: ∀(o:Go.Obj) (ents':Array MapEntry) (ck':Nat),o=.map ents' ck'->fW U w bs as es' ents'.toList->(Instr.mapUpdate t (.map (some b)) vk vy).run P w=.ok () {w with heap:=w.heap.setIfInBounds b o}->
       ∃w',(Instr.mapUpdate t (.map (some b)) vk vy).run P w=.ok () w'/\di base U bs as w' (setObj M id (.map es'))/\Evo base U bs as w U bs as w':=by
      intro o ents' ck' hoo hm hr;have ev:Evo base U bs as w U bs as {w with heap:=w.heap.setIfInBounds b o}:=jF (vF w b o) (hH.ob _ _ hb).1 (hH.ob _ _ hb).2.2;obtain⟨q1,q2⟩:=hH.turnObj hb (vF w b o) (.map es') ⟨ents',ck',by simp[hb2,hoo],hm.evo ev⟩;exact⟨_,hr,q1,q2⟩
     rcases zH hk hkp hy hkl 0 ck h2 hp with⟨q1,q2⟩|⟨j,e,q1,q2,q3,q4⟩
     ·refine done _ (ents.push {key:=vk,val:=vy,born:=ck}) (ck+1) rfl (by simpa using q2) ?_;simp only[Instr.mapUpdate,Sem.run_bind,run_underlying hu,Result.andThen_ok,hg,e1,ck0,Instr.findKey,run_underlying hd,q1,Sem.run_pure,hset]
     ·refine done _ (ents.modify j fun e=>{e with key:=vk,val:=vy}) ck rfl ?_ ?_
      ·have:(ents.modify j fun e=>{e with key:=vk,val:=vy}).toList=ents.toList.set j {e with key:=vk,val:=vy}:=by
        apply List.ext_getElem?;intro i;simp only[Array.getElem?_toList,Array.getElem?_modify,List.getElem?_set];by_cases hij:j=i
        ·subst hij;have q2':ents[j]? =some e:=by simpa using q2
         have hlt:j<ents.size:=(Array.getElem?_eq_some_iff.1 q2').1;have hee:=(Array.getElem?_eq_some_iff.1 q2').2;simp[hlt,hee]
        ·simp[hij]
       rw[this];exact q4
      ·have q2':ents[j]? =some e:=by simpa using q2
       have hsb:=FK q3;simp only[Nat.zero_add]at q1;simp only[Instr.mapUpdate,Sem.run_bind,run_underlying hu,Result.andThen_ok,hg,e1,ck0,Instr.findKey,run_underlying hd,q1,Sem.run_pure,q2',Option.map_some,Option.getD_some,Instr.keyThatStays,hsb,if_true,hset]
    ·simp at h
   ·simp at h
 ·simp at h
theorem FL {x:Opd} {vx:Value} (hx:Rep U w bs as (x.val G ts) vx) (hH:di base U bs as w M) (h:dv G mu ts M (.mclone x)=some (v,M')):ef P base U bs as w v M' (Extern.MapsClone.clone #[vx]):=by
 simp only[dv]at h;split at h
 ·rename_i t id hv
  rw[hv]at hx;cases hx with
  |iface hx=>
   cases hx with
   |map hb=>
    rename_i b
    split at h
    ·rename_i es ho
     obtain⟨rfl,rfl⟩:=dR h;obtain⟨ents,ck,h1,h2⟩:=hH.mapAt hb ho;have ev:=ib (base:=base) (bs:=bs) (as:=as) (.map ents ck) hH.hb hH.fr 0;have h3:=hH.alloc (.map ents ck) 0;have ev2:Evo base (upd U w.heap.size 0) bs as (w.alloc (.map ents ck)) (upd U w.heap.size 0) (bs++[some w.heap.size]) as (w.alloc (.map ents ck)):=oD _;refine⟨.iface t (.map (some w.heap.size)),w.alloc (.map ents ck),?_,upd U w.heap.size 0,bs++[some w.heap.size],as,.iface (.map (by rw[<-hH.lo];simp)),h3.addObj w.heap.size _ hH.hb (by simp) (gw _ _ _) ?_ ?_ ⟨ents,ck,heap_alloc_new w _,h2.evo (ev.trans ev2)⟩,ev.trans ev2⟩
     ·have hg:(getObj b).run P w=.ok (Go.Obj.map ents ck) w:=by simp[getObj,Sem.run,h1]
      have hn:(Go.newObj (Go.Obj.map ents ck)).run P w=.ok w.heap.size (w.alloc (.map ents ck)):=rfl;show(getObj b >>= fun o=>_).run P w=_;rw[Sem.run_bind,hg];rw[Result.andThen_ok];show(Go.newObj (Go.Obj.map ents ck) >>= fun r=>_).run P w=_;rw[Sem.run_bind,hn];rfl
     ·intro i hi;have:=(hH.ob i _ hi).2.1;omega
     ·intro j e he hn hb;obtain⟨r,_,hr⟩:=hH.arr he;have:=(hr.lt hn).2;omega
    ·simp at h
 ·simp at h
end
end Go.Proofs.Ae
namespace Go.Proofs.Ae
open Go Go.RowKit
section
variable {G:Gls} {mu:Bool} {ts:dx} {M M':Mem} {v:AV} {o:COp}
theorem zL {x:Option AV} {M M':Mem} {v:AV}:okO x M=some (v,M')↔x=some v/\M'=M:=by
 cases x<;>simp[okO,eq_comm]
theorem zM {x:AV} {M M':Mem} {v:AV}:ok x M=some (v,M')↔x=v/\M'=M:=by
 simp[ok,eq_comm]
theorem zN {x:AV} {M M':Mem} {v:AV}:ept x M=some (v,M')↔(∃cs,cells x=some cs)/\.eptr x=v/\M'=M:=by
 unfold ept;cases h:cells x<;>simp[eq_comm]
theorem FM (hl:qi o=true) (h:dv G mu ts M o=some (v,M')):M'=M:=by
 cases o<;>simp only[qi,Bool.false_eq_true,reduceCtorEq]at hl<;>simp only[dv,om,qh,gY]at h<;>(repeat' split at h)<;>simp_all [zM,zL,zN]
theorem FN (a g:Nat):gk ⟨[],[]⟩ a g=none:=by simp[gk]
theorem FO (ha:qj o=false) (h:dv G mu ts ⟨[],[]⟩ o=some (v,⟨[],[]⟩)) (M:Mem):dv G mu ts M o=some (v,M):=by
 cases o<;>simp only[qj,Bool.true_eq_false,reduceCtorEq]at ha<;>simp only[dv,om,qh,gY,rU,FN,List.getElem?_nil]at h⊢ <;>(repeat' split at h)<;>first|(simp_all [zM,zL,zN,newObj];done)|skip
end
variable [eg]
section
variable {P:Program} {U:Nat->Nat} {bs:List (Option Nat)} {as:List BA} {w:World}
variable {G:Gls} {mu:Bool} {ts:dx} {M M':Mem} {base:Nat} {v:AV}
theorem FP {n:Int} (h0:0<=n) (h1:n<=1048576):IntKind.i64.wrap n=n:=by
 rw[<-lN];obtain⟨m,rfl⟩:=Int.eq_ofNat_of_zero_le h0;have hb:Nat.ble m 9223372036854775807=true:=Nat.ble_eq_true_of_le (by omega);show dj .i64 (Int.ofNat m)=Int.ofNat m;simp only[dj];rw[hb]
theorem FQ {t e:Nat} {i:TypeInfo} {l:Lay} {z:AV} {zc:List AV} {n c:Opd} {vn vc:Value} (hu:P.underlying t=some (.slice e)) (hi:P.info? e=some i) (hb:i.bytes<=4096) (hl:eE P e=some l)
  (hz:zV P e=some z) (hzc:cells z=some zc) (hzl:zc.length=l.sz) (hz0:l.sz≠0) (hn:Rep U w bs as (n.val G ts) vn) (hc:Rep U w bs as (c.val G ts) vc) (hH:di base U bs as w M)
  (h:dv G mu ts M (.mksl e l z n c)=some (v,M')):ef P base U bs as w v M' (Instr.makeSlice t vn vc):=by
 obtain⟨zv,hz1,hz2⟩:=sk (w:=w) hz;have hzs:zv.cells.size=l.sz:=by rw[<-hzl];exact zA (hz2 U w [] []) hzc
 simp only[dv]at h;split at h
 ·rename_i k1 nn k2 cc hv1 hv2
  rw[hv1]at hn;rw[hv2]at hc;cases hn;cases hc;split at h
  ·rename_i hh
   obtain⟨h0,rfl,h1⟩:=hh;obtain⟨m,rfl⟩:=Int.eq_ofNat_of_zero_le h0;have hm1:m<=1048576:=by omega
   rw[Int.toNat_natCast,su hzc m]at h;simp only at h;obtain⟨rfl,rfl⟩:=dR h;have hF:=sy ((hz2 U w bs as).cells hzc) m;have e1:Array.map (fun x=>zv.cells[x%zv.cells.size]!) (Array.range (m*l.sz))=((List.replicate m zv.cells.toList).flatten).toArray:=by
    have:=zy m zv.cells.toList;apply Array.ext';simp only[List.toList_toArray];rw[<-this];simp[hzs]
   have e2:Array.map (fun x=>(#[]:Array Value)[x%(#[]:Array Value).size]!) (Array.range 0)= #[]:=by simp
   have hlen:((List.replicate m zc).flatten).length=m*l.sz:=by simp[hzl]
   have hroom: ¬(m*i.bytes>roomBytes):=by
    have hmul:m*i.bytes<=1048576*4096:=Nat.mul_le_mul hm1 hb;unfold roomBytes;omega
   refine⟨.slice (some ⟨w.heap.size,0,none⟩) m m,w.alloc (.cells ((List.replicate m zv.cells.toList).flatten).toArray e),?_,zz hH e m hlen (by simp[maxLen];omega) hF⟩;have hlt: ¬((m:Int)<0):=by omega
   have hb48: ¬((2:Int)^48<(i.bytes:Int)*(m:Int)):=by
    have hmul:(i.bytes:Int)*(m:Int)<=4096*1048576:=Int.mul_le_mul (by omega) (by omega) (by omega) (by omega);omega
   have hti: ∀w:World,(typeInfo e).run P w=.ok i w:=by intro w;simp[typeInfo,hi]
   unfold Instr.makeSlice;simp only[Sem.run_bind,run_underlying hu,Result.andThen_ok,asInt,asIntOf,Sem.run_pure,hti,FP h0 h1,hb48,Bool.false_or,Bool.or_false,hlt,decide_false,Int.lt_irrefl,Bool.false_eq_true,or_self,if_false,gt_iff_lt,
    askRoom,Int.toNat_natCast,hroom,ic hl]
   by_cases hm:m*l.sz=0
   ·have hm0:m=0:=by
     rcases Nat.mul_eq_zero.1 hm with h|h
     ·exact h
     ·exact absurd h hz0
    subst hm0;simp only[Nat.zero_mul,if_true,Sem.run_bind,Sem.run_pure,Result.andThen_ok,e2,ic hl];simp[newRow,newObj,Sem.run]
   ·simp only[hm,if_false,Sem.run_bind,hz1,Sem.run_pure,Result.andThen_ok,e1];simp[newRow,newObj,Sem.run]
  ·cases h
 ·cases h
theorem zO (c:UInt8) (full:ByteArray): ∀(s:List UInt8) (k:Nat),full.data.toList.drop k=s->
  (match(List.range' k s.length).find? fun i=>full[i]! ==c with
   |some i=>(i:Int)
   |none=> -1)=ol (c.toNat:Int) s k
 |[],k,_=>rfl
 |b::s,k,h=>by
  have hg:full.data.toList[k]? =some b:=by
   have:=congrArg (fun l=>l[0]?) h;simpa using this
  have hb:full[k]! =b:=by
   have hlt:k<full.size:=(by simpa using(List.getElem?_eq_some_iff.1 hg).1)
   rw[getElem!_pos full k hlt];have:=(List.getElem?_eq_some_iff.1 hg).2;simpa[ByteArray.getElem_eq_getElem_data] using this
  have hs:full.data.toList.drop (k+1)=s:=by
   have:=congrArg (fun l=>l.drop 1) h;simpa[Nat.add_comm] using this
  simp only[List.length_cons,List.range'_succ,List.find?_cons,hb,ol];by_cases e:b=c
  ·subst e;simp
  ·have e2:(b==c)=false:=by simpa using e
   have e3: ¬((b.toNat:Int)=(c.toNat:Int)):=by
    intro h;exact e (UInt8.toNat_inj.1 (by omega))
   rw[e2,if_neg e3];exact zO c full s (k+1) hs
theorem FR {s c:Opd} {vs vc:Value} (hs:Rep U w bs as (s.val G ts) vs) (hc:Rep U w bs as (c.val G ts) vc) (hH:di base U bs as w M)
  (h:dv G mu ts M (.idxb s c)=some (v,M')):ef P base U bs as w v M' (Extern.BytealgIndexByte.indexByte #[vs,vc]):=by
 simp only[dv]at h;split at h
 ·rename_i l n hv1 hv2
  rw[hv1]at hs;rw[hv2]at hc;cases hs;cases hc;split at h
  ·rename_i hn
   obtain⟨rfl,rfl⟩:=dR h;obtain⟨m,rfl⟩:=Int.eq_ofNat_of_zero_le hn.1;have hm:m<256:=by omega
   have e:((m.toUInt8).toNat:Int)=(m:Int):=by simp;omega
   have key:=zO m.toUInt8 ⟨l.toArray⟩ l 0 (by simp);rw[e]at key;have key:_=ol (m:Int) l 0:=key;have hr:List.range (ByteArray.size ⟨l.toArray⟩)=List.range' 0 l.length:=by rw[List.range_eq_range'];rfl
   refine dN hH ?_ (.int (k:=.i64) (n:=ol m l 0));show(do
    match(List.range (ByteArray.size ⟨l.toArray⟩)).find? fun i=>(⟨l.toArray⟩:ByteArray)[i]! ==m.toUInt8 with
     |some i=>pure (goInt i)
     |none=>pure (goInt (-1)):Sem Value).run P w=_
   rw[hr];rw[<-key];cases(List.range' 0 l.length).find? fun i=>(⟨l.toArray⟩:ByteArray)[i]! ==m.toUInt8<;>rfl
  ·cases h
 ·cases h
end
end Go.Proofs.Ae
namespace Go.Proofs.Ae
open Go Go.RowKit
def zQ:TypeDesc->Operand->Bool
 | .slice _,.const (.slice none 0 0)=>true
 | .map _ _,.const (.map none)=>true
 | .interface _,.const .nilIface=>true
 | .pointer _,.const (.pointer none)=>true
 |_,_=>false
def oL (P:Program):Nat->List Field->Option (List Nat)
 |_,[]=>some []
 |off,f::fs=>if Nat.beq f.offset off&&!(f.name== "_")then(match eE P f.type,P.underlying f.type,oL P (off+1) fs with
   |some .sc,some .bool,some l=>some (0::l)
   |some .sc,some (.int _),some l=>some (1::l)
   |some .sc,some .string,some l=>some (2::l)
   |_,_,_=>none)else none
def lQ (P:Program) (neg:Bool) (xt:Nat) (x y:Operand):Option COp:=
 match P.underlying xt with
 |none=>none
 |some d=>match d with
  | .bool=>some (.eqb neg (dm x) (dm y))
  | .int _=>some (.bin (if neg then .neq else .eql) (dm x) (dm y))
  | .string=>some (.bin (if neg then .neq else .eql) (dm x) (dm y))
  | .struct fs=>match oL P 0 fs.toList with
   |some ks=>if !P.stoodInHeld xt&&!P.eqGuardType P.depth xt then some (.eqs ks neg (dm x) (dm y))else none
   |none=>none
  |d=>if zQ d y then(match oG d with
   |some k=>some (.isnil k neg (dm x))
   |none=>none)else none
def qu (P:Program) (t:Nat) (parts:Array (Nat×Operand)):Option COp:=
 match zC P t with
 |none=>none
 |some z=>match P.underlying t with
  |some (.struct fs)=>match oH P fs.toList with
   |none=>none
   |some pl=>match lP (pl[·]?) parts.toList with
    |some ps=>some (.build z ps)
    |none=>none
  |some (.array _ e)=>match P.info? e with
   |none=>none
   |some i=>match lP (fun j=>some (j*i.size,i.size)) parts.toList with
    |some ps=>some (.build z ps)
    |none=>none
  |_=>none
def sE (P:Program) (e:Nat):Option (Lay×AV):=
 match eE P e,zV P e with
 |some l,some z=>match cells z with
  |some zc=>if zc.length=l.sz/\l.sz≠0 then some (l,z)else none
  |none=>none
 |_,_=>none
def vT (P:Program) (t:Nat):Option (Nat×Lay×Nat):=
 match P.underlying t with
 |some (.slice e)=>match P.info? e,eE P e with
  |some i,some l=>match i.zero with
   |some zv=>if zv.cells.size=l.sz/\0<l.sz then some (e,l,i.bytes)else none
   |none=>none
  |_,_=>none
 |_=>none
def qv (P:Program) (b:Builtin) (ats:List Nat) (xs:List Operand):Option COp:=
 match b,ats,xs with
 | .len,[t],[x]=>match P.underlying t with
  |some d=>match oG d with
   |some k=>some (.len k (dm x))
   |none=>none
  |none=>none
 | .append,[t,t'],[s,x]=>if t=t' then(match vT P t with
  |some (e,l,n)=>some (.app e l n (dm s) (dm x))
  |none=>none)else none
 | .min,_,xs=>some (.mins (xs.map dm))
 | .max,_,xs=>some (.maxs (xs.map dm))
 |_,_,_=>none
def qw (P:Program) (t:Nat):Option (Bool×Nat):=
 match P.underlying t with
 |some (.map kt et)=>match P.underlying kt with
  |some d=>match oK d with
   |some ks=>if oJ P kt then some (ks,et)else none
   |none=>none
  |none=>none
 |_=>none
def qx (P:Program) (f:FuncId) (xs:List Operand):Option COp:=
 match P.funcs[f]? with
 |some fn=>if fn.body.isNone&&!(fn.name== "runtime.NumGoroutine")&&fn.origin== "" then(match fn.name,xs with
  | "maps.clone",[x]=>some (.mclone (dm x))
  | "internal/bytealg.IndexByteString",[s,c]=>some (.idxb (dm s) (dm c))
  |_,_=>none)else none
 |none=>none
def isB:List AV->Bool
 |[.nilp,.slc .full []]=>true
 |_=>false
def kh (P:Program):Op->Option COp
 | .move x=>some (.mov (dm x))
 | .assign x=>some (.mov (dm x))
 | .pick c a b=>some (.pick (dm c) (dm a) (dm b))
 | .alloc t=>match zC P t with
  |some z=>match isB z with
   |true=>some (.allocT t z)
   |false=>some (.alloc z)
  |none=>none
 | .box _ x=>some (.box (dm x))
 | .build t parts=>qu P t parts
 | .buildSlice t len parts=>match P.underlying t with
  |some (.slice e)=>match sE P e with
   |some (l,z)=>if len*l.sz<=2^24 then some (.bslice len e l z (parts.toList.map fun p=>(p.1,dm p.2)))else none
   |none=>none
  |_=>none
 | .load t a=>match eE P t with
  |some l=>some (.load l (dm a))
  |none=>none
 | .store t a x=>match P.info? t with
  |some i=>some (.store i.size (dm a) (dm x))
  |none=>none
 | .nilCheck x=>some (.nilck (dm x))
 | .binOp op xt x y _=>match op with
  | .eql=>lQ P false xt x y
  | .neq=>lQ P true xt x y
  |op=>some (.bin op (dm x) (dm y))
 | .unOp op _ x=>some (.un op (dm x))
 | .convert src dst x=>match P.underlying src,P.underlying dst with
  |some (.int _),some (.int k)=>some (.convI k (dm x))
  |some (.slice e),some .string=>match P.underlying e with
   |some (.int .u8)=>some (.convB (dm x))
   |_=>none
  |some .string,some (.slice e)=>match P.underlying e with
   |some (.int .u8)=>some (.convS (dm x))
   |_=>none
  |_,_=>none
 | .makeInterface t x=>match P.underlying t with
  |none=>none
  |some d=>match d with
   | .interface _=>none
   |_=>some (.mkif t (dm x))
 | .typeAssert x _ t ok=>if ok then none else match P.underlying t with
  |none=>none
  |some d=>match d with
   | .interface _=>none
   |_=>some (.tass t (dm x))
 | .makeFunc fn fst cap=>match fn with
  | .func f=>some (.mkfn f (fst.toList.map dm) (cap.toList.map dm))
  |_=>none
 | .makeMap _ r=>match r with
  |none=>some .mkmap
  |some _=>none
 | .makeSlice t n c=>match P.underlying t with
  |some (.slice e)=>match sE P e,P.info? e with
   |some (l,z),some i=>if i.bytes<=4096 then some (.mksl e l z (dm n) (dm c))else none
   |_,_=>none
  |_=>none
 | .slice t x lo hi mx=>match P.underlying t with
  |some .string=>match mx with
   |none=>some (.slcS (dm x) (lo.map dm) (hi.map dm))
   |some _=>none
  |some (.slice e)=>match eE P e with
   |some l=>if mx.isSome&&hi.isNone then none else some (.slcV l (dm x) (lo.map dm) (hi.map dm) (mx.map dm))
   |none=>none
  |_=>none
 | .fieldAddr t x f=>match P.underlying t with
  |some (.struct fs)=>match fs[f]? with
   |some fld=>match eE P fld.type with
    |some l=>if l.sz=0 then none else some (.faddr fld.offset l (dm x))
    |none=>none
   |none=>none
  |_=>none
 | .field t x f=>match P.underlying t with
  |some (.struct fs)=>match fs[f]? with
   |some fld=>match eE P fld.type with
    |some l=>some (.fieldv fld.offset l (dm x))
    |none=>none
   |none=>none
  |_=>none
 | .indexAddr t x i=>match P.underlying t with
  |some (.slice e)=>match eE P e with
   |some l=>some (.iaddrS l (dm x) (dm i))
   |none=>none
  |some (.array n e)=>match eE P e with
   |some l=>some (.iaddrA n l (dm x) (dm i))
   |none=>none
  |_=>none
 | .index t x i=>match P.underlying t with
  |some .string=>some (.idxS (dm x) (dm i))
  |some (.array n e)=>match eE P e with
   |some l=>some (.idxA n l (dm x) (dm i))
   |none=>none
  |_=>none
 | .insert t m k x=>match qw P t with
  |some (ks,_)=>some (.ins ks (dm m) (dm k) (dm x))
  |none=>none
 | .mapUpdate t m k x=>match qw P t with
  |some (ks,_)=>some (.ins ks (dm m) (dm k) (dm x))
  |none=>none
 | .lookup t m k ok=>match qw P t with
  |some (ks,et)=>match zV P et with
   |some z=>some (.lkp ks z ok (dm m) (dm k))
   |none=>none
  |none=>none
 | .extract x i=>some (.extr (dm x) i)
 | .call c=>match c.callee with
  | .builtin b=>qv P b c.argTypes.toList c.args.toList
  | .value f=>match f with
   | .func g=>match qx P g c.args.toList with
    |some o=>some o
    |none=>some (.call (.fn g) (c.args.toList.map dm))
   |f=>some (.call (dm f) (c.args.toList.map dm))
  | .invoke _ _=>none
 |_=>none
def mR:COp->Bool
 | .call ..=>true
 |_=>false
variable [eg]
section
variable {P:Program} {U:Nat->Nat} {bs:List (Option Nat)} {as:List BA} {w:World}
variable {G:Gls} {mu:Bool} {ts:dx} {M M':Mem} {base:Nat} {v:AV}
def kR (P:Program) (base:Nat) (U:Nat->Nat) (bs:List (Option Nat)) (as:List BA) (w:World) (v:AV) (M':Mem) (s:Sem Next):Prop:=
 ∃r x w',s.run P w=.ok r w'/\(r=.value x\/(r=.skip/\x=undef))/\eL base U bs as w v M' x w'
theorem ef.does {s:Sem Value} (h:ef P base U bs as w v M' s):kR P base U bs as w v M' (do pure (.value (<-s))):=by
 obtain⟨x,w',h1,h2⟩:=h;refine⟨.value x,x,w',?_,.inl rfl,h2⟩;rw[Sem.run_bind,h1];rfl
theorem vU {s:Sem Unit} (hv:v=.tup []) (h: ∃w',s.run P w=.ok () w'/\di base U bs as w' M'/\Evo base U bs as w U bs as w'):kR P base U bs as w v M' (do s;pure .skip):=by
 obtain⟨w',h1,h2,h3⟩:=h;subst hv;refine⟨.skip,undef,w',?_,.inr ⟨rfl,rfl⟩,U,bs,as,.tup .nil,h2,h3⟩;rw[Sem.run_bind,h1];rfl
theorem zR {x:Value} (hH:di base U bs as w M) (hv:Rep U w bs as v x):kR P base U bs as w v M (pure (.value x)):=
 ⟨.value x,x,w,rfl,.inl rfl,U,bs,as,hv,hH,Evo.refl _ _ _ _ _⟩
theorem FT {d:Nat} {XS YS:Array Value}: ∀(fs:List Field) (off:Nat) (ks:List Nat) (cs ds:List AV) (xs ys:List Value) (b:Bool),oL P off fs=some ks->(∀i,XS[off+i]? =xs[i]?)->(∀i,YS[off+i]? =ys[i]?)->
  dt U w bs as cs xs->dt U w bs as ds ys->eqL ks cs ds=some b->(Op.eqFields (d+1) XS YS fs).run P w=.ok b w:=by
 intro fs
 induction fs with
 |nil=>
  intro off ks cs ds xs ys b hp _ _ h1 h2 he;simp only[oL,Option.some.injEq]at hp;subst hp;cases cs<;>cases ds<;>simp only[eqL,Option.some.injEq,reduceCtorEq]at he;subst he;simp[Op.eqFields,Sem.run_pure]
 |cons f fs ih=>
  intro off ks cs ds xs ys b hp hX hY h1 h2 he;simp only[oL]at hp;split at hp
  ·rename_i hc
   simp only[Bool.and_eq_true]at hc;have hoff:=Nat.eq_of_beq_eq_true hc.1;have hn:f.name≠ "_" :=by simpa using hc.2
   have step: ∀{x y:Value} {xs' ys':List Value} {r:Bool},xs=x::xs'->ys=y::ys'->eE P f.type=some .sc->(Op.equalIn (d+1) f.type x y).run P w=.ok r w->(r=false->b=false)->(r=true->(Op.eqFields (d+1) XS YS fs).run P w=.ok b w)->(Op.eqFields (d+1) XS YS (f::fs)).run P w=.ok b w:=by
    intro x y xs' ys' r ex ey hl hq hf ht;have hag:=vI hl w;simp only at hag;have px:(part f.type XS f.offset).run P w=.ok x w:=by
     have:=hX 0;rw[ex]at this;simp only[Nat.add_zero,List.getElem?_cons_zero]at this;simp[part,Sem.run_bind,hag,hoff,this]
    have py:(part f.type YS f.offset).run P w=.ok y w:=by
     have:=hY 0;rw[ey]at this;simp only[Nat.add_zero,List.getElem?_cons_zero]at this;simp[part,Sem.run_bind,hag,hoff,this]
    simp only[Op.eqFields,hn,ne_eq,not_false_eq_true,if_true,Sem.run_bind,px,py,Result.andThen_ok,hq];cases r with
    |false=>simp[hf rfl,Sem.run_pure]
    |true=>simp[ht rfl]
   have rest: ∀{x y:Value} {xs' ys':List Value},xs=x::xs'->ys=y::ys'->(∀i,XS[off+1+i]? =xs'[i]?)/\(∀i,YS[off+1+i]? =ys'[i]?):=by
    intro x y xs' ys' ex ey;refine⟨fun i=>?_,fun i=>?_⟩
    ·have:=hX (i+1);rw[ex]at this;simpa[Nat.add_assoc,Nat.add_comm 1] using this
    ·have:=hY (i+1);rw[ey]at this;simpa[Nat.add_assoc,Nat.add_comm 1] using this
   split at hp
   ·rename_i l h3 h4 h5
    cases hp;cases cs with
    |nil=>simp[eqL]at he
    |cons c cs=>cases ds with
     |nil=>cases c<;>simp[eqL]at he
     |cons e ds=>
      cases c<;>cases e<;>simp only[eqL,reduceCtorEq]at he;cases h1 with
      |cons q1 o1 t1=>cases h2 with
       |cons q2 o2 t2=>
        cases q1;cases q2;refine step rfl rfl h3 (run_equalIn_bool' _ _ _ _ _ h4) ?_ ?_
        ·intro hr;rw[hr]at he;simpa using he.symm
        ·intro hr;rw[hr]at he;exact ih _ _ _ _ _ _ _ h5 (rest rfl rfl).1 (rest rfl rfl).2 t1 t2 (by simpa using he)
   ·rename_i l h3 h4 h5
    cases hp;cases cs with
    |nil=>simp[eqL]at he
    |cons c cs=>cases ds with
     |nil=>cases c<;>simp[eqL]at he
     |cons e ds=>
      cases c<;>cases e<;>simp only[eqL,reduceCtorEq]at he;cases h1 with
      |cons q1 o1 t1=>cases h2 with
       |cons q2 o2 t2=>
        cases q1;cases q2;split at he
        ·rename_i hk
         unfold jB at hk;have hk:=of_decide_eq_true hk;subst hk;refine step rfl rfl h3 (run_equalIn_int _ _ _ _ _ _ _ h4) ?_ ?_
         ·intro hr;rw[hr]at he;simpa using he.symm
         ·intro hr;rw[hr]at he;exact ih _ _ _ _ _ _ _ h5 (rest rfl rfl).1 (rest rfl rfl).2 t1 t2 (by simpa using he)
        ·cases he
   ·rename_i l h3 h4 h5
    cases hp;cases cs with
    |nil=>simp[eqL]at he
    |cons c cs=>cases ds with
     |nil=>cases c<;>simp[eqL]at he
     |cons e ds=>
      cases c<;>cases e<;>simp only[eqL,reduceCtorEq]at he;cases h1 with
      |cons q1 o1 t1=>cases h2 with
       |cons q2 o2 t2=>
        cases q1;cases q2
        rename_i s1 s2
        refine step rfl rfl h3 (run_equalIn_string _ _ _ _ _ h4) ?_ ?_
        ·intro hr;simp only[ByteArray.toList_eq]at hr;rw[hr]at he;simpa using he.symm
        ·intro hr;simp only[ByteArray.toList_eq]at hr;rw[hr]at he;exact ih _ _ _ _ _ _ _ h5 (rest rfl rfl).1 (rest rfl rfl).2 t1 t2 (by simpa using he)
   ·cases hp
  ·cases hp
theorem FU {neg:Bool} {xt:Nat} {x y:Operand} {fs:Array Field} {ks:List Nat} {vx vy:Value} (hu:P.underlying xt=some (.struct fs)) (hks:oL P 0 fs.toList=some ks) (hs:P.stoodInHeld xt=false) (hg:P.eqGuardType P.depth xt=false)
  (hx:Rep U w bs as ((dm x).val G ts) vx) (hy:Rep U w bs as ((dm y).val G ts) vy) (hH:di base U bs as w M) (hp:dv G mu ts M (.eqs ks neg (dm x) (dm y))=some (v,M')):
  ef P base U bs as w v M' (do eqGuard (if neg then .neq else .eql) xt x y vx vy;binOp (if neg then .neq else .eql) xt vx vy):=by
 simp only[dv]at hp;split at hp
 ·rename_i a b ha hb
  rw[ha]at hx;rw[hb]at hy;split at hp
  ·rename_i t ht
   obtain⟨rfl,rfl⟩:=dR hp;cases hx with
   |agg h1=>
    rename_i vs1
    cases hy with
    |agg h2=>
     rename_i vs2
     have hfo:P.fieldsOf xt=fs:=by simp[Program.fieldsOf,hu]
     have he:=FT (P:=P) (d:=9998) (XS:=vs1.toArray) (YS:=vs2.toArray) fs.toList 0 ks _ _ vs1 vs2 t hks (fun i=>by rw[Nat.zero_add];exact List.getElem?_toArray ..) (fun i=>by rw[Nat.zero_add];exact List.getElem?_toArray ..) h1 h2 ht;have hr:=run_equalIn_agg (P:=P) w 9999 xt vs1.toArray vs2.toArray (by rw[hfo];exact hu) hs;rw[hfo,he]at hr;cases neg with
     |false=>
      refine dN hH ?_ .bool;simp only[Bool.false_eq_true,if_false,Sem.run_bind,run_eqGuard_agg w _ xt x y _ _ hg,Result.andThen_ok,run_eql_struct w xt];rw[hr];rfl
     |true=>
      refine dN hH ?_ .bool;simp only[if_true,Sem.run_bind,run_eqGuard_agg w _ xt x y _ _ hg,Result.andThen_ok,run_neq_struct w xt];rw[hr];rfl
  ·cases hp
 ·cases hp
theorem zS {neg:Bool} {xt:Nat} {x y:Operand} {c:COp} {ρ:Operand->Value} (hcst: ∀v,ρ (.const v)=v) (hc:lQ P neg xt x y=some c) (hS: ∀x,Rep U w bs as ((dm x).val G ts) (ρ x)) (hH:di base U bs as w M)
  (hp:dv G mu ts M c=some (v,M')):ef P base U bs as w v M' (do eqGuard (if neg then .neq else .eql) xt x y (ρ x) (ρ y);binOp (if neg then .neq else .eql) xt (ρ x) (ρ y)):=by
 unfold lQ at hc;split at hc
 ·cases hc
 ·rename_i d hu
  split at hc
  ·cases hc;exact E8 hu (hS x) (hS y) hH hp x y
  ·cases hc;exact vM (hS x) (hS y) hH hp x y
  ·cases hc;exact vM (hS x) (hS y) hH hp x y
  ·split at hc
   ·rename_i ks hks
    split at hc
    ·rename_i hcc
     cases hc;simp only[Bool.and_eq_true,Bool.not_eq_true']at hcc;exact FU hu hks hcc.1 hcc.2 (hS x) (hS y) hH hp
    ·cases hc
   ·cases hc
  ·split at hc
   ·rename_i hn
    split at hc
    ·rename_i k hk
     cases hc;have hy:sf y=true/\ ∃nv,jG d=some nv/\ρ y=nv:=by
      unfold zQ at hn;split at hn
      ·exact⟨rfl,_,rfl,hcst _⟩
      ·exact⟨rfl,_,rfl,hcst _⟩
      ·exact⟨rfl,_,rfl,hcst _⟩
      ·exact⟨rfl,_,rfl,hcst _⟩
      ·cases hn
     obtain⟨h1,nv,h2,h3⟩:=hy;rw[h3];exact Fa hu h2 hk (hS x) hH hp x y h1
    ·cases hc
   ·cases hc
theorem FV {t:Nat} {parts:Array (Nat×Operand)} {c:COp} {ρ:Operand->Value} (hc:qu P t parts=some c) (hS: ∀x,Rep U w bs as ((dm x).val G ts) (ρ x)) (hH:di base U bs as w M)
  (hp:dv G mu ts M c=some (v,M')):ef P base U bs as w v M' (Instr.build t (parts.map fun(i,x)=>(i,ρ x))):=by
 unfold qu at hc;split at hc
 ·cases hc
 ·rename_i z hz
  split at hc
  ·rename_i fs hu
   split at hc
   ·cases hc
   ·rename_i pl hpl
    split at hc
    ·rename_i ps hps;cases hc;exact Fs hu hpl hz hps hS hH hp
    ·cases hc
  ·rename_i n e hu
   split at hc
   ·cases hc
   ·rename_i i hi
    split at hc
    ·rename_i ps hps;cases hc;exact Ft (sz:=0) hu hi hz hps hS hH hp
    ·cases hc
  ·cases hc
theorem zU {e:Nat} {l:Lay} {z:AV} (h:sE P e=some (l,z)):eE P e=some l/\zV P e=some z/\ ∃zc,cells z=some zc/\zc.length=l.sz/\l.sz≠0:=by
 unfold sE at h;split at h
 ·rename_i l' z' h1 h2
  split at h
  ·rename_i zc h3
   split at h
   ·rename_i h4
    cases h;exact⟨h1,h2,zc,h3,h4.1,h4.2⟩
   ·cases h
  ·cases h
 ·cases h
theorem FW {t e n:Nat} {l:Lay} (h:vT P t=some (e,l,n)):P.underlying t=some (.slice e)/\ ∃i zv,P.info? e=some i/\eE P e=some l/\i.zero=some zv/\zv.cells.size=l.sz/\0<l.sz/\n=i.bytes:=by
 unfold vT at h;split at h
 ·rename_i e' hu
  split at h
  ·rename_i i l' h1 h2
   split at h
   ·rename_i zv h3
    split at h
    ·rename_i h4
     cases h;exact⟨hu,i,zv,h1,h2,h3,h4.1,h4.2,rfl⟩
    ·cases h
   ·cases h
  ·cases h
 ·cases h
theorem vV {t et:Nat} {ks:Bool} (h:qw P t=some (ks,et)): ∃kt d,P.underlying t=some (.map kt et)/\P.underlying kt=some d/\oK d=some ks/\oJ P kt=true:=by
 unfold qw at h;split at h
 ·rename_i kt et' hu
  split at h
  ·rename_i d hd
   split at h
   ·rename_i ks' hk
    split at h
    ·rename_i hh;cases h;exact⟨kt,d,hu,hd,hk,hh⟩
    ·cases h
   ·cases h
  ·cases h
 ·cases h
end
end Go.Proofs.Ae
namespace Go.Proofs.Ae
open Go Go.RowKit
theorem lR {α:Type _} {x:Option α} (h:x.isNone=true):x=none:=by simpa using h
theorem n0:(Extern.allNextRows.lookup "").isNone=true:=by decide+kernel
theorem n1:(Extern.allNextRows.lookup "maps.clone").isNone=true:=by decide+kernel
theorem n2:(Extern.allNextRows.lookup "internal/bytealg.IndexByteString").isNone=true:=by decide+kernel
theorem n3:(Extern.allGenericRows.lookup "maps.clone").isNone=true:=by decide+kernel
theorem n4:(Extern.allTypedRows.lookup "maps.clone").isNone=true:=by decide+kernel
theorem n5:Extern.allRows.lookup "maps.clone" =some Extern.MapsClone.clone:=by rfl
theorem n6:Extern.allRows.lookup "internal/bytealg.IndexByteString" =some Extern.BytealgIndexByte.indexByte:=by rfl
theorem n7:(Extern.allGenericRows.lookup "internal/bytealg.IndexByteString").isNone=true:=by decide+kernel
theorem n8:(Extern.allTypedRows.lookup "internal/bytealg.IndexByteString").isNone=true:=by decide+kernel
variable [eg]
section
variable {P:Program} {U:Nat->Nat} {bs:List (Option Nat)} {as:List BA} {w:World}
variable {G:Gls} {mu:Bool} {ts:dx} {M M':Mem} {base:Nat} {v:AV}
theorem oM {α:Type} {a:Array α} {l:List α} (h:a.toList=l):a=l.toArray:=by rw[<-h]
theorem FX {c:Call} {b:Builtin} {ty:Nat} {k:COp} {ρ:Operand->Value} (hb:c.callee=.builtin b) (hc:qv P b c.argTypes.toList c.args.toList=some k)
  (hS: ∀x,Rep U w bs as ((dm x).val G ts) (ρ x)) (hH:di base U bs as w M) (hp:dv G mu ts M k=some (v,M')):
  kR P base U bs as w v M' (do let d<-resolve ρ c ty;invoke d.target d.args):=by
 have e: ∀s:Sem Value,(∀consts,builtin b c.argTypes ty consts (c.args.map ρ)=(do pure (.value (<-s))))->ef P base U bs as w v M' s->kR P base U bs as w v M' (do let d<-resolve ρ c ty;invoke d.target d.args):=by
  intro s hs hf;obtain⟨r,x,w',h1,h2⟩:=hf.does;refine⟨r,x,w',?_,h2⟩;rw[<-h1];unfold resolve;rw[hb];simp only[Sem.run_bind,Sem.run_pure,Result.andThen_ok];simp only[invoke,hs,Sem.run_bind,Sem.run_pure]
 unfold qv at hc;split at hc
 ·rename_i t x h1 h2
  split at hc
  ·rename_i d hu
   split at hc
   ·rename_i kd hk
    cases hc;refine e (Builtin.len_ #[t] ty #[ρ x]) ?_ (FH hu hk (hS x) hH hp);intro consts;rw[oM h1,oM h2];simp[builtin]
   ·cases hc
  ·cases hc
 ·rename_i t t' s x h1 h2
  split at hc
  ·rename_i ht
   subst ht;split at hc
   ·rename_i el l n hap
    cases hc;obtain⟨hu,i,zv,k1,k2,k3,k4,k5,rfl⟩:=FW hap;refine e (Builtin.append_ #[t,t] ty #[ρ s,ρ x]) ?_ ?_
    ·intro consts;rw[oM h1,oM h2];simp[builtin]
    ·cases mu with
     |false=>exact FA hu k1 k2 k3 k4 k5 (hS s) (hS x) hH hp
     |true=>exact FE hu k1 k2 k3 k4 k5 (hS s) (hS x) hH hp
   ·cases hc
  ·cases hc
 ·cases hc;exact e (Builtin.min_ c.argTypes ty (c.args.map ρ)) (fun _=>rfl) (Fi hS hH hp)
 ·cases hc;exact e (Builtin.max_ c.argTypes ty (c.args.map ρ)) (fun _=>rfl) (Fj hS hH hp)
 ·cases hc
theorem FY {c:Call} {g:FuncId} {ty:Nat} {k:COp} {ρ:Operand->Value} (hcf: ∀f,ρ (.func f)=.func (.func f) #[] #[]) (hb:c.callee=.value (.func g)) (hc:qx P g c.args.toList=some k)
  (hS: ∀x,Rep U w bs as ((dm x).val G ts) (ρ x)) (hH:di base U bs as w M) (hp:dv G mu ts M k=some (v,M')):
  kR P base U bs as w v M' (do let d<-resolve ρ c ty;invoke d.target d.args):=by
 unfold qx at hc;split at hc
 ·rename_i fn hf
  split at hc
  ·rename_i hbody
   simp only[Bool.and_eq_true,Bool.not_eq_true',beq_eq_false_iff_ne,ne_eq,beq_iff_eq]at hbody;obtain⟨⟨hn,hne⟩,horg⟩:=hbody;have e: ∀s:Sem Value,Extern.findNext fn=none->(∃x,Extern.find fn=some x/\x (c.args.map ρ)=s)->ef P base U bs as w v M' s->kR P base U bs as w v M' (do let d<-resolve ρ c ty;invoke d.target d.args):=by
    intro s h1 ⟨q,h2,h3⟩ hf';obtain⟨r,x,w',h4,h5⟩:=hf'.does;refine⟨r,x,w',?_,h5⟩;rw[<-h4];unfold resolve;rw[hb];simp only[hcf,Deferred.ofValue,Sem.run_bind,Sem.run_pure,Result.andThen_ok,invoke,callFunc,program,Sem.run,hf];simp only[beq_iff_eq,hne,if_false,hn,if_true,Sem.run_bind,mark,Sem.run,Result.andThen_ok,h1,h2];simp[h3]
   split at hc
   ·rename_i x h1 h2
    cases hc;refine e (Extern.MapsClone.clone #[ρ x]) ?_ ⟨Extern.MapsClone.clone,?_,?_⟩ (FL (hS x) hH hp)
    ·simp only[Extern.findNext,h1,horg,lR n1,lR n0];rfl
    ·simp only[Extern.find,h1,lR n3,lR n4,n5];rfl
    ·rw[oM h2];simp
   ·rename_i s x h1 h2
    cases hc;refine e (Extern.BytealgIndexByte.indexByte #[ρ s,ρ x]) ?_ ⟨Extern.BytealgIndexByte.indexByte,?_,?_⟩ (FR (hS s) (hS x) hH hp)
    ·simp only[Extern.findNext,h1,horg,lR n2,lR n0];rfl
    ·simp only[Extern.find,h1,lR n7,lR n8,n6];rfl
    ·rw[oM h2];simp
   ·cases hc
  ·cases hc
 ·cases hc
end
end Go.Proofs.Ae
namespace Go.Proofs.Ae
open Go Go.RowKit
variable [eg]
section
variable {P:Program} {U:Nat->Nat} {bs:List (Option Nat)} {as:List BA} {w:World}
variable {G:Gls} {mu:Bool} {ts:dx} {M M':Mem} {base:Nat} {v:AV}
theorem FZ {op:Op} {ty:Nat} {pos:String} {dst:Option Nat} {after:Array Edge} {gd:Option (Nat×Bool)} {c:COp} {ρ:Operand->Value} (hcst: ∀v,ρ (.const v)=v) (hcf: ∀f,ρ (.func f)=.func (.func f) #[] #[])
  (hc:kh P op=some c) (hn:mR c=false) (hS: ∀x,Rep U w bs as ((dm x).val G ts) (ρ x)) (hH:di base U bs as w M) (hp:dv G mu ts M c=some (v,M')):
  kR P base U bs as w v M' (execOp ρ ⟨dst,op,ty,pos,after,gd⟩):=by
 cases op<;>simp only[kh,reduceCtorEq]at hc
 case move x=>
  cases hc;simp only[dv]at hp;obtain⟨rfl,rfl⟩:=dR hp;exact zR hH (hS x)
 case assign x=>
  cases hc;simp only[dv]at hp;obtain⟨rfl,rfl⟩:=dR hp;exact zR hH (hS x)
 case pick c a b=>
  cases hc;simp only[dv]at hp;split at hp
  ·rename_i t hv
   obtain⟨rfl,rfl⟩:=dR hp;have hcv:=hS c;rw[hv]at hcv;generalize hx:ρ c=vc at hcv;cases hcv;refine⟨.value (if t then ρ a else ρ b),_,w,?_,.inl rfl,U,bs,as,?_,hH,Evo.refl _ _ _ _ _⟩
   ·simp only[execOp,hx,asBool,Sem.run_bind,Sem.run_pure,Result.andThen_ok]
   ·cases t
    ·exact hS b
    ·exact hS a
  ·cases hp
 case alloc t=>
  split at hc
  ·rename_i z hz
   split at hc
   ·cases hc;exact(Fp hz hH hp).does
   ·cases hc;exact(Fk hz hH hp).does
  ·cases hc
 case box t x=>cases hc;exact(Fq (hS x) hH hp).does
 case build t parts=>exact(FV hc hS hH hp).does
 case buildSlice t len parts=>
  split at hc
  ·rename_i e hu
   split at hc
   ·rename_i l z he
    split at hc
    ·rename_i h24
     cases hc;obtain⟨h1,h2,zc,h3,h4,h5⟩:=zU he;exact(Fy hu h1 h2 h3 h4 h5 h24 hS hH hp).does
    ·cases hc
   ·cases hc
  ·cases hc
 case insert t m k x=>
  split at hc
  ·rename_i ks et hm
   cases hc;obtain⟨kt,d,h1,h2,h3,h4⟩:=vV hm;obtain⟨e,h⟩:=zK h1 h2 h4 (hS m) (hS k) (hS x) h3 hH hp;exact vU e h
  ·cases hc
 case load t a=>
  split at hc
  ·rename_i l hl;cases hc;exact(EK hl (hS a) hH hp).does
  ·cases hc
 case store t a x=>
  split at hc
  ·rename_i i hi
   cases hc;obtain⟨e,h⟩:=Fu hi (hS a) (hS x) hH hp;exact vU e h
  ·cases hc
 case nilCheck x=>
  cases hc;obtain⟨h1,rfl,h3⟩:=ES (hS x) hH hp;refine⟨.value (ρ x),ρ x,w,?_,.inl rfl,U,bs,as,h1,hH,Evo.refl _ _ _ _ _⟩;rcases h3 with⟨p,e⟩|⟨f,a,b,e⟩|⟨b,e⟩<;>simp only[execOp,e]<;>rfl
 case binOp bop xt x y yt=>
  have e: ∀b,execOp ρ ⟨dst,.binOp b xt x y yt,ty,pos,after,gd⟩=(do pure (.value (<-(do eqGuard b xt x y (ρ x) (ρ y);binOp b xt (ρ x) (ρ y):Sem Value)))):=fun _=>rfl;rw[e];split at hc
  ·exact(zS hcst hc hS hH hp).does
  ·exact(zS hcst hc hS hH hp).does
  ·cases hc;exact(vM (hS x) (hS y) hH hp x y).does
 case unOp u t x=>cases hc;exact(EV (hS x) hH hp).does
 case convert src dst' x=>
  split at hc
  ·rename_i k0 k h1 h2
   cases hc;exact(EW h1 h2 (hS x) hH hp).does
  ·rename_i e h1 h2
   split at hc
   ·rename_i h3;cases hc;exact(Fh h1 h3 h2 (hS x) hH hp).does
   ·cases hc
  ·rename_i e h1 h2
   split at hc
   ·rename_i h3;cases hc;exact(FJ h1 h2 h3 (hS x) hH hp).does
   ·cases hc
  ·cases hc
 case makeInterface t x=>
  split at hc
  ·cases hc
  ·rename_i d hu
   split at hc
   ·cases hc
   ·rename_i hne
    cases hc;exact(Fe hu hne (hS x) hH hp).does
 case makeFunc fn fst cap=>
  split at hc
  ·cases hc;exact(Fg hS hH hp).does
  ·cases hc
 case makeMap t r=>
  split at hc
  ·cases hc;exact(FG hH hp).does
  ·cases hc
 case makeSlice t n c'=>
  split at hc
  ·rename_i e hu
   split at hc
   ·rename_i l z i he hi
    split at hc
    ·rename_i hb
     cases hc;obtain⟨h1,h2,zc,h3,h4,h5⟩:=zU he;exact(FQ hu hi hb h1 h2 h3 h4 h5 (hS n) (hS c') hH hp).does
    ·cases hc
   ·cases hc
  ·cases hc
 case slice t x lo hi mx=>
  split at hc
  ·rename_i hu
   split at hc
   ·cases hc;exact(Fc hu hS hH hp).does
   ·cases hc
  ·rename_i e hu
   split at hc
   ·rename_i l hl
    split at hc
    ·cases hc
    ·rename_i hm
     cases hc;refine(Fd hu hl ?_ hS hH hp).does;intro h1;cases hi with
     |some _=>rfl
     |none=>simp[h1]at hm
   ·cases hc
  ·cases hc
 case fieldAddr t x f=>
  split at hc
  ·rename_i fs hu
   split at hc
   ·rename_i fld hf
    split at hc
    ·rename_i l hl
     split at hc
     ·cases hc
     ·rename_i hz;cases hc;exact(EO hu hf hl hz (hS x) hH hp).does
    ·cases hc
   ·cases hc
  ·cases hc
 case field t x f=>
  split at hc
  ·rename_i fs hu
   split at hc
   ·rename_i fld hf
    split at hc
    ·rename_i l hl;cases hc;exact(EX hu hf hl (hS x) hH hp).does
    ·cases hc
   ·cases hc
  ·cases hc
 case indexAddr t x i=>
  split at hc
  ·rename_i e hu
   split at hc
   ·rename_i l hl;cases hc;exact(EP hu hl (hS x) (hS i) hH hp).does
   ·cases hc
  ·rename_i n e hu
   split at hc
   ·rename_i l hl;cases hc;exact(ER hu hl (hS x) (hS i) hH hp).does
   ·cases hc
  ·cases hc
 case index t x i=>
  split at hc
  ·rename_i hu;cases hc;exact(EZ hu (hS x) (hS i) hH hp).does
  ·rename_i n e hu
   split at hc
   ·rename_i l hl;cases hc;exact(EY hu hl (hS x) (hS i) hH hp).does
   ·cases hc
  ·cases hc
 case lookup t m k ok=>
  split at hc
  ·rename_i ks et hm
   split at hc
   ·rename_i z hz
    cases hc;obtain⟨kt,d,h1,h2,h3,h4⟩:=vV hm;exact(FF h1 h2 h4 hz (hS m) (hS k) h3 hH hp).does
   ·cases hc
  ·cases hc
 case mapUpdate t m k x=>
  split at hc
  ·rename_i ks et hm
   cases hc;obtain⟨kt,d,h1,h2,h3,h4⟩:=vV hm;obtain⟨e,h⟩:=zK h1 h2 h4 (hS m) (hS k) (hS x) h3 hH hp;exact vU e h
  ·cases hc
 case typeAssert x xt t okv=>
  split at hc
  ·cases hc
  ·rename_i hok
   split at hc
   ·cases hc
   ·rename_i d hu
    split at hc
    ·cases hc
    ·rename_i hne
     cases hc;have:okv=false:=by simpa using hok
     subst this;exact(Ff hu hne (hS x) hH hp).does
 case extract x i=>cases hc;exact(E0 (hS x) hH hp).does
 case call cl=>
  split at hc
  ·rename_i b hb
   exact FX hb hc hS hH hp
  ·rename_i f hb
   split at hc
   ·rename_i g hb
    split at hc
    ·rename_i k hk
     cases hc;exact FY hcf hb hk hS hH hp
    ·cases hc;cases hn
   ·cases hc;cases hn
  ·cases hc
end
end Go.Proofs.Ae
namespace Go.Proofs.Ae
open Go Go.RowKit
def fen (ro:Option Nat):Fence:={Fence.wide with round:=ro}
theorem vW {ro:Option Nat} {n:Nat} {P:Program} {f:FuncId} {args:Array Value} {w:World} {R:Ending->World->Prop}:CallsIn (fen ro) n P f args w R↔Calls P f args w R:=
 callsIn_wide (n:=n)
variable [eg]
def zW:COp:=.call (.const .undef) []
def mS (P:Program) (op:Op):Option COp:=match kh P op with
 |some c=>some c
 |none=>some zW
theorem F0 {P:Program} {op:Op} {c:COp} {G:Gls} {mu:Bool} {cl:a7} {yl:a7} {ts:dx} {M:Mem} {r:AV×Mem} (h:mS P op=some c) (he:jC G mu cl yl ts M c=some r):kh P op=some c:=by
 unfold mS at h;split at h
 ·rename_i c' hc;rw[hc];exact h
 ·cases h;simp[jC,zW,Opd.val,target]at he
theorem F1 {P:Program} {op:Op} {z:List AV} (h:mS P op=some (.alloc z)):kh P op=some (.alloc z):=by
 unfold mS at h;split at h
 ·rename_i c' hc;rw[hc];exact h
 ·cases h
def fw (P:Program) (G:Gls) (cl:a7):Prop:=
 ∀(f:Nat) (as:List AV) (M:Mem) (v:AV) (M':Mem),cl f as M=some (v,M')-> ∀(base:Nat) (U:Nat->Nat) (bs:List (Option Nat)) (es:List BA) (w:World) (args:List Value),
  fQ U w G->dU U w bs es as args->di base U bs es w M->
  (callFunc f args.toArray).run P w=.ok (.enter f args.toArray) w/\Calls P f args.toArray w fun e w'=> ∃x,e=.returned x/\eL base U bs es w v M' x w'
def iL (P:Program) (G:Gls) (yl:a7):Prop:=
 ∀(id:Nat) (as:List AV) (M:Mem) (v:AV) (M':Mem),yl id as M=some (v,M')-> ∀(base:Nat) (U:Nat->Nat) (bs:List (Option Nat)) (es:List BA) (w:World) (args:List Value) (b:Nat),
  fQ U w G->dU U w bs es as args->di base U bs es w M->bs[id]? =some (some b)->
  ∃(f:FuncId) (tmps:Array Value) (asg body:Code),(Instr.yield b args.toArray).run P w=.ok (.round b f tmps asg body) w/\
   ∀(ro:Option Nat) (n:Nat),RoundIn (fen ro) n P b f tmps asg body w fun e w'=> ∃x,e=.returned x/\eL base U bs es w v M' x w'
section
variable {P:Program} {U U':Nat->Nat} {bs bs':List (Option Nat)} {as as':List BA} {w w':World}
variable {G:Gls} {mu:Bool} {ts:dx} {M M':Mem} {base:Nat} {v:AV}
variable {cl:a7} {yl:a7} {ro:Option Nat} {n:Nat}
theorem fQ.evo (h:fQ U w G) (ev:Evo base U bs as w U' bs' as' w'):fQ U' w' G:=by
 intro g v hg;obtain⟨cs,vs,h1,h2,h3,h4⟩:=h g v hg;refine⟨cs,vs,h1,ev.repLP h2,ev.row h3,fun hp=>?_⟩;rw[ev.csz g ?_]
 ·exact h4 hp
 ·have:=(h3 0 vs[0] (List.getElem?_eq_getElem hp)).2;simp only at this;omega
theorem gl.evo {t:Array Value} (h:gl U w bs as ts t) (ev:Evo base U bs as w U' bs' as' w'):gl U' w' bs' as' ts t:=fun i=>ev.rep (h i)
theorem kU (t:Nat) (e:Nat×AV) (ts:dx):look t (e::ts)=if e.1=t then e.2 else look t ts:=by
 simp only[look];by_cases h:e.1=t
 ·subst h;have:Nat.beq e.1 e.1=true:=Nat.beq_refl _;simp[this]
 ·have:Nat.beq e.1 t=false:=by
   cases hb:Nat.beq e.1 t with
   |false=>rfl
   |true=>exact absurd (Nat.eq_of_beq_eq_true hb) h
  simp[this,h]
theorem sG {a:Array Value} {d i:Nat} {x:Value} (hd:d<a.size):(a.setIfInBounds d x).getD i undef=if d=i then x else a.getD i undef:=by
 by_cases h:d=i
 ·subst h;simp[Array.getD,hd]
 ·simp only[h,if_false,Array.getD_eq_getD_getElem?,Array.getElem?_setIfInBounds_ne h]
theorem gl.put {a:Act} (h:gl U w bs as ts a.tmps) {d:Option Nat} (hd: ∀k,d=some k->k<a.tmps.size) {x:Value} (hx:Rep U w bs as v x):
  gl U w bs as (mK d v ts) (a.put d x).tmps:=by
 cases d with
 |none=>exact h
 |some k=>
  intro i;simp only[mK,Act.put,kU,sG (hd k rfl)];split
  ·exact hx
  ·exact h i
theorem vX {a:Act} {d:Option Nat} {x:Value}:(a.put d x).tmps.size=a.tmps.size:=by cases d<;>simp[Act.put]
theorem vY {a:Act} {d:Option Nat} {x:Value}:(a.put d x).defers=a.defers:=by cases d<;>simp[Act.put]
theorem F2 {op:Op} {fo:Opd} {xs:List Opd} (h:kh P op=some (.call fo xs)): ∃(c:Call) (f:Operand),op=.call c/\c.callee=.value f/\fo=dm f/\xs=c.args.toList.map dm:=by
 cases op<;>simp only[kh,reduceCtorEq,Option.some.injEq]at h
 case call c=>
  split at h
  ·rename_i b hb
   unfold qv at h
   (repeat' split at h)<;>simp_all
  ·rename_i f hf
   split at h
   ·rename_i g
    split at h
    ·rename_i k hk
     cases h;unfold qx at hk
     (repeat' split at hk)<;>simp_all
    ·simp at h;exact⟨c,_,rfl,hf,h.1.symm,h.2.symm⟩
   ·simp at h;exact⟨c,f,rfl,hf,h.1.symm,h.2.symm⟩
  ·cases h
 case binOp op xt x y yt=>
  split at h
  ·unfold lQ at h;(repeat' split at h)<;>simp_all
  ·unfold lQ at h;(repeat' split at h)<;>simp_all
  ·simp at h
 case build t ps=>unfold qu at h;(repeat' split at h)<;>simp_all
 all_goals (repeat' split at h)<;>simp_all
theorem F3 {xs:List Operand} {ρ:Operand->Value} (hS: ∀x,Rep U w bs as ((dm x).val G ts) (ρ x)):dU U w bs as ((xs.map dm).map (·.val G ts)) (xs.map ρ):=by
 induction xs with
 |nil=>exact .nil
 |cons x xs ih=>exact .cons (hS x) ih
theorem vZ {o:Oper} {c:COp} {a:Act} {K:Act->World->Prop} {Q:Exit->Act->World->Prop} (hcl:fw P G cl) (hyl:iL P G yl) (hc:mS P o.op=some c)
  (he:jC G mu cl yl ts M c=some (v,M')) (hG:fQ U w G) (hS:gl U w bs as ts a.tmps) (hH:di base U bs as w M)
  (hK: ∀U' bs' as' w' x,Rep U' w' bs' as' v x->di base U' bs' as' w' M'->Evo base U bs as w U' bs' as' w'->K (a.put o.dst x) w'):o.wpIn (fen ro) n P a w K Q:=by
 have hc:=F0 hc he;have hS':=fun x=>vG (a:=a) hG hS x;have hdef: ∀c,o.op≠ .defer c:=by
  intro c' e;rw[e]at hc;simp[kh]at hc
 refine⟨fun _ _=>trivial,?_⟩;rw[Oper.semAt_eq _ _ _ hdef];have done: ∀{s:Sem Next},kR P base U bs as w v M' s->o.uponIn (fen ro) n P a K Q (s.run P w):=by
  intro s hs;obtain⟨r,x,w',h1,h2,U',bs',as',h3,h4,h5⟩:=hs;rw[h1];rcases h2 with rfl|⟨rfl,rfl⟩
  ·rw[Oper.uponIn_value];exact hK _ _ _ _ _ h3 h4 h5
  ·rw[Oper.uponIn_skip];exact hK _ _ _ _ _ h3 h4 h5
 cases hcc:mR c with
 |false=>
  have hp:dv G mu ts M c=some (v,M'):=by
   cases c<;>first|exact he|(simp[mR]at hcc)
  obtain⟨dst,op,ty,pos,after,gd⟩:=o;exact done (FZ (ρ:=a.eval) (fun _=>rfl) (fun _=>rfl) hc hcc hS' hH hp)
 |true=>
  obtain⟨fo,xs,rfl⟩: ∃fo xs,c=.call fo xs:=by cases c<;>simp[mR]at hcc;exact⟨_,_,rfl⟩
  obtain⟨cc,f,h1,h2,rfl,rfl⟩:=F2 hc;have hf:=hS' f;have hxs:=F3 (xs:=cc.args.toList) hS';have hres: ∀{fn:Fn} {fst cap:Array Value},a.eval f=.func fn fst cap->(execOp a.eval o).run P w=(invoke (.fn fn cap) (fst++cc.args.map a.eval)).run P w:=by
   intro fn fst cap hv;simp only[execOp,h1,resolve,h2,hv,Deferred.ofValue,Sem.run_bind,Sem.run_pure,Result.andThen_ok]
  simp only[jC]at he;split at he
  ·rename_i id hv
   rw[hv]at hf;generalize hvf:a.eval f=vf at hf;cases hf with
   |yld hb=>
    rw[hres hvf];simp only[invoke];obtain⟨f',tmps,asg,body,k1,k2⟩:=hyl _ _ _ _ _ he base U bs as w _ _ hG hxs hH hb;have e:(#[]++Array.map a.eval cc.args:Array Value)=(cc.args.toList.map a.eval).toArray:=by apply Array.ext';simp
    rw[e,k1,Oper.uponIn_round];refine⟨fun h=>(by cases h),(k2 ro (n - 1)).mono ?_⟩;rintro e w' ⟨x,rfl,U',bs',as',h3,h4,h5⟩;exact hK _ _ _ _ _ h3 h4 h5
  ·rename_i fv hfv
   split at he
   ·rename_i g as' ht
    unfold target at ht;split at ht
    ·rename_i g' fst cap hv
     cases ht;rw[hv]at hf;generalize hvf:a.eval f=vf at hf;cases hf with
     |fn hfs hcap=>
      rename_i vfs vcap
      rw[hres hvf];simp only[invoke];have e:(vfs.toArray++Array.map a.eval cc.args++vcap.toArray:Array Value)=(vfs++cc.args.toList.map a.eval++vcap).toArray:=by apply Array.ext';simp
      rw[e];obtain⟨k1,k2⟩:=hcl _ _ _ _ _ he base U bs as w _ hG ((hfs.append hxs).append hcap) hH;rw[k1,Oper.uponIn_enter];refine⟨fun h=>(by cases h),vW.2 (Calls.mono k2 ?_)⟩;rintro e w' ⟨x,rfl,U',bs',as',h3,h4,h5⟩;exact hK _ _ _ _ _ h3 h4 h5
    ·cases ht
   ·cases he
end
end Go.Proofs.Ae
