/- The arguments and the package variables of a call, as abstract values; the witness. -/
import Derived.Test.YtjkmcceipabejaaGreatDoorS
import Derived.Test.YtjkmcceipabejaaGreatDoorRows
import Derived.FnData
import Derived.MakeChecks
import Derived.ProofKit
import Derived.SizedLaws
import Derived.Carry
import Derived.OpenShut
import Derived.Deep.DeepHandedRow
import Derived.Deep.DeepWitnessRowRef
import Derived.Lib.LaidTab
set_option linter.unusedSimpArgs false
set_option linter.unusedVariables false
set_option linter.unusedSectionVars false
namespace Go.Proofs.Ae
open Go Go.RowKit
theorem xd {P:Program} {w:World}: ∀{laid:List (String×DataW Unit)} {ps:List MemPlace},DataW.LaidVars P w laid ps-> ∀{nm:String} {d:DataW Unit},(nm,d)∈laid->
  ∃g t cs fuel p,P.globalNamed nm=some g/\(P.globals[g]?).map (·.type)=some t/\w.var? P nm=some cs/\DataW.trod (fun _=>()) P w 0 (fun _=>true) false fuel t cs.toList=some (d,p)
 |[],_,_,_,_,h=>by simp at h
 |(n,d)::r,ps,hl,nm,d',h=>by
  obtain⟨g,t,cs,fuel,p,q,h1,h2,h3,h4,h5,-⟩:=hl;rcases List.mem_cons.1 h with e|h
  ·cases e;exact⟨g,t,cs,fuel,p,h1,h2,h3,h4⟩
  ·exact xd h5 h
theorem Bt {P:Program} {w:World} {nm:String} {g:Nat} {cs:Array Value} (hg:P.globalNamed nm=some g) (h:w.var? P nm=some cs):csz w g=some cs.size:=by
 unfold World.var? at h;rw[hg]at h;simp only[Option.bind_some]at h;unfold csz;split at h
 ·rename_i e
  rw[e];cases h;rfl
 ·cases h
theorem nM {w:World} {laid:List (String×DataW Unit)} {S:Nat->Bool} (hS: ∀t,S t=true->qG Tryz.prog S t=true) (h1: ∀t,S t=true->(∃d,Tryz.prog.underlying t=some d/\(match d with| .struct _=>False| .array _ _=>False|_=>True))->Tryz.prog.cellsOf t=1)
  {nm:String} {d:DataW Unit} {g t:Nat} {v:AV} (hl:laidMet Tryz.prog laid w) (hm:(nm,d)∈laid) (hg:Tryz.prog.globalNamed nm=some g) (ht:(Tryz.prog.globals[g]?).map (·.type)=some t) (hSt:S t=true) (hv:fg d=some v):
  ∃(cs:List AV) (vs:List Value),cells v=some cs/\dt (U0 w) w [] [] cs vs/\fL (U0 w) w ⟨g,0,none⟩ vs/\(0<vs.length->csz w g=some vs.length):=by
 obtain⟨ps,hlv,-,-⟩:=hl;obtain⟨g',t',cs,fuel,p,k1,k2,k3,k4⟩:=xd hlv hm;obtain rfl:=Option.some.inj (hg.symm.trans k1);obtain rfl:=Option.some.inj (ht.symm.trans k2);obtain⟨-,a,ac,r1,r2,r3,r4⟩:=AN hS h1 fuel t cs.toList d p hSt k4;rw[hv]at r1;cases r1;refine⟨ac,cs.toList,r2,r4,?_,fun _=>by rw[Bt hg k3];simp⟩;intro i u hu;have hc:=World.var?_cell hg k3 i;have e:(⟨g,0,none⟩:Addr).add i=⟨g,i,none⟩:=by unfold Addr.add;split<;>simp_all
 rw[e,hc];have hu':cs[i]? =some u:=by simpa using hu
 refine⟨hu',?_⟩;have:=wu (w:=w) (a:=⟨g,i,none⟩) (v:=u) (by rw[hc];exact hu');simpa using this
end Go.Proofs.Ae
namespace Go.Proofs.Ae
open Go Go.RowKit
open Go.Proofs.YtjkmcceipabejaaGreatDoor.Rows (uptoBulk uptoBulkAll)
section
variable {H:Type} {enc:TypeId×Value->H} {P:Program} {w:World} {sp:Nat->Bool} {held:Bool}
theorem rh {k:IntKind} {fuel t:Nat} {cs:List Value} {d:DataW H} {ps:List MemPlace} (hu:P.underlying t=some (.int k)) (h:DataW.trod enc P w 0 sp held fuel t cs=some (d,ps)): ∃n,d=.lit (.int k n):=by
 cases fuel with
 |zero=>simp[DataW.trod]at h
 |succ fuel=>
  unfold DataW.trod at h;rw[hu]at h;split at h
  case h_2=>
   have e:= ‹some (TypeDesc.int k)=_›;cases e;split at h
   ·cases h;exact⟨_,rfl⟩
   ·cases h
  all_goals first|(have e:= ‹some (TypeDesc.int k)=_›;cases e;done)|(cases h;done)
theorem uj {fuel t:Nat} {cs:List Value} {d:DataW H} {ps:List MemPlace} (hu:P.underlying t=some .string) (h:DataW.trod enc P w 0 sp held fuel t cs=some (d,ps)): ∃s,d=.lit (.string s):=by
 cases fuel with
 |zero=>simp[DataW.trod]at h
 |succ fuel=>
  unfold DataW.trod at h;rw[hu]at h;split at h
  case h_4=>
   split at h
   ·cases h;exact⟨_,rfl⟩
   ·cases h
  all_goals first|(have e:= ‹some TypeDesc.string=_›;cases e;done)|(cases h;done)
theorem uk {fuel t e:Nat} {cs:List Value} {d:DataW H} {ps:List MemPlace} (hu:P.underlying t=some (.slice e)) (h:DataW.trod enc P w 0 sp held (fuel+1) t cs=some (d,ps)):
  d=.nil\/ ∃es s,d=.slice es s/\ ∀x∈es,∃cs' ps',DataW.trod enc P w 0 sp held fuel e cs'=some (x,ps'):=by
 unfold DataW.trod at h;rw[hu]at h;split at h
 case h_7=>cases h;exact .inl rfl
 case h_8=>
  have e1:= ‹some (TypeDesc.slice e)=_›;cases e1;simp only at h;split at h
  ·simp only[Option.bind_eq_some_iff]at h;obtain⟨elems,hel,h⟩:=h;simp only[Option.map_eq_some_iff]at h;obtain⟨rest,-,h⟩:=h;cases h;refine .inr ⟨_,_,rfl,?_⟩;intro x hx;obtain⟨y,hy,rfl⟩:=List.mem_map.1 hx;obtain⟨i,hi⟩:=List.getElem?_of_mem hy;obtain⟨l1,l2⟩:=oS hel;rw[List.length_range]at l1;have:=l2 i i y (by rw[List.getElem?_range (by have:=eD hi;omega)]) hi;rw[Option.bind_eq_some_iff]at this;obtain⟨c,-,k⟩:=this;exact⟨c,y.2,k⟩
  ·cases h
 all_goals first|(have e:= ‹some (TypeDesc.slice _)=_›;cases e;done)|(cases h;done)
theorem xe {fuel t:Nat} {fs:Array Field} {cs:List Value} {d:DataW H} {ps:List MemPlace} (hu:P.underlying t=some (.struct fs)) (h:DataW.trod enc P w 0 sp held (fuel+1) t cs=some (d,ps)):
  ∃ds,d=.agg ds/\ds.length=fs.toList.length/\ ∀(i:Nat) (f:Field) (x:DataW H),fs.toList[i]? =some f->ds[i]? =some x-> ∃cs' ps',DataW.trod enc P w 0 sp held fuel f.type cs'=some (x,ps'):=by
 unfold DataW.trod at h;rw[hu]at h;split at h
 case h_9=>
  have e1:= ‹some (TypeDesc.struct fs)=_›;cases e1;split at h
  ·simp only[Option.map_eq_some_iff]at h;obtain⟨xs,hxs,h⟩:=h;cases h;obtain⟨l1,l2⟩:=oS hxs;refine⟨_,rfl,by simp[l1],?_⟩;intro i f x hf hx;simp only[List.getElem?_map,Option.map_eq_some_iff]at hx;obtain⟨y,hy,rfl⟩:=hx;exact⟨_,y.2,l2 i f y hf hy⟩
  ·cases h
 all_goals first|(have e:= ‹some (TypeDesc.struct fs)=_›;cases e;done)|(exact absurd rfl (‹∀ (fs_1:Array Field),some (TypeDesc.struct fs)=some (TypeDesc.struct fs_1)->False› fs))|(cases h;done)
end
section
variable {H:Type}
theorem rj {α:Type} (f:α->AV) (bulk:α->Nat): ∀(es:List (DataW H)),(∀x∈es,∃a,fg x=some (f a)/\bulk a<=uptoBulk x)-> ∃l:List α,km es=some (l.map f)/\(l.map bulk).sum<=uptoBulkAll es
 |[],_=>⟨[],rfl,by simp⟩
 |x::es,h=>by
  obtain⟨l,h1,h2⟩:=rj f bulk es (fun y hy=>h y (List.mem_cons_of_mem _ hy));obtain⟨a,k1,k2⟩:=h x List.mem_cons_self;refine⟨a::l,by simp[km,k1,h1],?_⟩;simp only[List.map_cons,List.sum_cons,uptoBulkAll];omega
end
section
variable {H:Type} {enc:TypeId×Value->H} {w:World} {sp:Nat->Bool} {held:Bool}
noncomputable abbrev tr (enc:TypeId×Value->H) (w:World) (sp:Nat->Bool) (held:Bool):=DataW.trod enc Tryz.prog w 0 sp held
theorem Kb {fuel:Nat} {cs:List Value} {d:DataW H} {ps:List MemPlace} (h:tr enc w sp held fuel 29 cs=some (d,ps)): ∃l:List Str,fg d=some (.slc .shared (l.map .str))/\bkS l<=uptoBulk d:=by
 cases fuel with
 |zero=>simp[DataW.trod]at h
 |succ fuel=>
  rcases uk Tryz.underlying29 h with rfl|⟨es,s,rfl,k⟩
  ·exact⟨[],rfl,by simp[bkS]⟩
  ·obtain⟨l,h1,h2⟩:=rj (H:=H) AV.str (fun s=>s.length+1) es (by
    intro x hx;obtain⟨cs',ps',k'⟩:=k x hx;obtain⟨s,rfl⟩:=uj Tryz.underlying9 k';exact⟨s,rfl,by simp[uptoBulk]⟩)
   refine⟨l,by simp[fg,h1],?_⟩;have:bkS l=(l.map fun s=>s.length+1).sum:=by
    clear h1 h2
    induction l with
    |nil=>rfl
    |cons x l ih=>simp[bkS,ih]
   simp only[uptoBulk];omega
theorem Kc (l:List Nd):bkL l=(l.map bk).sum:=by
 induction l with
 |nil=>rfl
 |cons x l ih=>simp[bkL,ih]
theorem Ke: ∀(fuel:Nat) {cs:List Value} {d:DataW H} {ps:List MemPlace},tr enc w sp held fuel 32 cs=some (d,ps)-> ∃n:Nd,fg d=some (av n)/\bk n<=uptoBulk d:=by
 intro fuel
 induction fuel using Nat.strongRecOn with
 |ind fuel ih=>
  intro cs d ps h;cases fuel with
  |zero=>simp[DataW.trod]at h
  |succ fuel=>
   obtain⟨ds,rfl,hl,k⟩:=xe Tryz.underlying32 h
   match ds,hl,k with
   |[a,b,c,e,f,g],_,k=>
    obtain⟨_,_,ka⟩:=k 0 _ a rfl rfl;obtain⟨_,_,kb⟩:=k 1 _ b rfl rfl;obtain⟨_,_,kc⟩:=k 2 _ c rfl rfl;obtain⟨_,_,ke⟩:=k 3 _ e rfl rfl;obtain⟨_,_,kf⟩:=k 4 _ f rfl rfl;obtain⟨_,_,kg⟩:=k 5 _ g rfl rfl;obtain⟨o,rfl⟩:=rh Tryz.underlying3 ka;obtain⟨ns,hn1,hn2⟩:=Kb kb;obtain⟨so,rfl⟩:=rh Tryz.underlying3 kc;obtain⟨nn,rfl⟩:=rh Tryz.underlying3 ke;obtain⟨mm,rfl⟩:=rh Tryz.underlying3 kf;have hg: ∃l:List Nd,fg g=some (.slc .shared (l.map av))/\bkL l<=uptoBulk g:=by
     cases fuel with
     |zero=>simp[DataW.trod]at kg
     |succ fuel=>
      rcases uk Tryz.underlying30 kg with rfl|⟨es,s,rfl,k'⟩
      ·exact⟨[],rfl,by simp[bkL]⟩
      ·obtain⟨l,h1,h2⟩:=rj (H:=H) av bk es (by
        intro x hx;obtain⟨cs',ps',k''⟩:=k' x hx;exact ih fuel (by omega) k'')
       refine⟨l,by simp[fg,h1],?_⟩;rw[Kc];simp only[uptoBulk];omega
    obtain⟨l,hl1,hl2⟩:=hg;refine⟨.mk o ns so nn mm l,?_,?_⟩
    ·simp[fg,km,hn1,hl1,dM,cells,av,mX]
    ·simp only[bk,uptoBulk,uptoBulkAll];omega
   |[],hl,_=>simp at hl
   |[_],hl,_=>simp at hl
   |[_,_],hl,_=>simp at hl
   |[_,_,_],hl,_=>simp at hl
   |[_,_,_,_],hl,_=>simp at hl
   |[_,_,_,_,_],hl,_=>simp at hl
   |_::_::_::_::_::_::_::_,hl,_=>simp at hl
def jM:List Vr->Nat
 |[]=>0
 |x::xs=>x.nm.length+2+jM xs
theorem Kf (l:List Vr):jM l=(l.map fun q=>q.nm.length+2).sum:=by
 induction l with
 |nil=>rfl
 |cons x l ih=>simp[jM,ih]
theorem Bu: ∀l:List Vr,l.length<=jM l
 |[]=>Nat.le_refl _
 |x::l=>by have:=Bu l;simp[jM];omega
theorem Bv: ∀{l:List Vr} {v:Vr},v∈l->v.nm.length<=jM l
 |[],v,h=>by simp at h
 |x::l,v,h=>by
  rcases List.mem_cons.1 h with rfl|h
  ·simp[jM];omega
  ·have:=Bv h;simp[jM];omega
theorem Kg {fuel:Nat} {cs:List Value} {d:DataW H} {ps:List MemPlace} (h:tr enc w sp held fuel 28 cs=some (d,ps)): ∃l:List Vr,fg d=some (.slc .shared (l.map vrv))/\jM l<=uptoBulk d:=by
 cases fuel with
 |zero=>simp[DataW.trod]at h
 |succ fuel=>
  rcases uk Tryz.underlying28 h with rfl|⟨es,s,rfl,k⟩
  ·exact⟨[],rfl,by simp[jM]⟩
  ·obtain⟨l,h1,h2⟩:=rj (H:=H) vrv (fun q=>q.nm.length+2) es (by
    intro x hx;obtain⟨cs',ps',k'⟩:=k x hx;cases fuel with
    |zero=>simp[DataW.trod]at k'
    |succ fuel=>
     obtain⟨ds,rfl,hl,kk⟩:=xe Tryz.underlying85 k'
     match ds,hl,kk with
     |[b,c],_,kk=>
      obtain⟨_,_,kb⟩:=kk 0 _ b rfl rfl;obtain⟨_,_,kc⟩:=kk 1 _ c rfl rfl;obtain⟨nm,rfl⟩:=uj Tryz.underlying9 kb;obtain⟨so,rfl⟩:=rh Tryz.underlying3 kc;refine⟨⟨nm,so⟩,by simp[fg,km,dM,cells,vrv],?_⟩;simp only[uptoBulk,uptoBulkAll];omega
     |[],hl,_=>simp at hl
     |[_],hl,_=>simp at hl
     |_::_::_::_,hl,_=>simp at hl)
   refine⟨l,by simp[fg,h1],?_⟩;rw[Kf];simp only[uptoBulk];omega
def bkM (m:Mc):Nat:=m.nm.length+jM m.ps+bk m.bd
theorem Kh {m:Mc} (h:bkM m<big):OkM m:=by
 unfold bkM at h;have:=Bu m.ps;exact⟨by omega,by omega,fun v hv=>by have:=Bv hv;omega,by omega⟩
theorem Ki {fuel:Nat} {cs:List Value} {d:DataW H} {ps:List MemPlace} (h:tr enc w sp held fuel 34 cs=some (d,ps)): ∃m:Mc,fg d=some (mcv m)/\bkM m<=uptoBulk d:=by
 cases fuel with
 |zero=>simp[DataW.trod]at h
 |succ fuel=>
  obtain⟨ds,rfl,hl,kk⟩:=xe Tryz.underlying34 h
  match ds,hl,kk with
  |[a,b,c],_,kk=>
   obtain⟨_,_,ka⟩:=kk 0 _ a rfl rfl;obtain⟨_,_,kb⟩:=kk 1 _ b rfl rfl;obtain⟨_,_,kc⟩:=kk 2 _ c rfl rfl;obtain⟨nm,rfl⟩:=uj Tryz.underlying9 ka;obtain⟨ps',hp1,hp2⟩:=Kg kb;obtain⟨n,hn1,hn2⟩:=Ke fuel kc;refine⟨⟨nm,ps',n⟩,?_,?_⟩
   ·simp[fg,km,hp1,hn1,dM,lm,gL]
   ·simp only[bkM,uptoBulk,uptoBulkAll];omega
  |[],hl,_=>simp at hl
  |[_],hl,_=>simp at hl
  |[_,_],hl,_=>simp at hl
  |_::_::_::_::_,hl,_=>simp at hl
def kA:List Mc->Nat
 |[]=>0
 |x::xs=>bkM x+kA xs
theorem Bw: ∀{l:List Mc} {v:Mc},v∈l->bkM v<=kA l
 |[],v,h=>by simp at h
 |x::l,v,h=>by
  rcases List.mem_cons.1 h with rfl|h
  ·simp[kA]
  ·have:=Bw h;simp[kA];omega
theorem Kj (l:List Mc):kA l=(l.map bkM).sum:=by
 induction l with
 |nil=>rfl
 |cons x l ih=>simp[kA,ih]
theorem Kk {fuel:Nat} {cs:List Value} {d:DataW H} {ps:List MemPlace} (h:tr enc w sp held fuel 22 cs=some (d,ps)): ∃l:List Mc,fg d=some (.slc .shared (l.map mcv))/\kA l<=uptoBulk d:=by
 cases fuel with
 |zero=>simp[DataW.trod]at h
 |succ fuel=>
  rcases uk Tryz.underlying22 h with rfl|⟨es,s,rfl,k⟩
  ·exact⟨[],rfl,by simp[kA]⟩
  ·obtain⟨l,h1,h2⟩:=rj (H:=H) mcv bkM es (by
    intro x hx;obtain⟨cs',ps',k'⟩:=k x hx;exact Ki k')
   refine⟨l,by simp[fg,h1],?_⟩;rw[Kj];simp only[uptoBulk];omega
end
end Go.Proofs.Ae
namespace Go.Proofs.Ae
open Go Go.RowKit
open Go.Proofs.YtjkmcceipabejaaGreatDoor
def tyL:List Nat:=[3,4,5,9,22,28,29,30,32,34,62,85,180,219,253,257,259,260,268,278,326]
def tyS (t:Nat):Bool:=tyL.contains t
theorem Kl:(tyL.all fun t=>qG Tryz.prog tyS t)=true:=by kernel_rfl
def Bx (P:Program) (t:Nat):Bool:=match P.underlying t with
 |some (.struct _)=>true
 |some (.array _ _)=>true
 |_=>Nat.beq (P.cellsOf t) 1
theorem Km:(tyL.all fun t=>Bx Tryz.prog t)=true:=by kernel_rfl
theorem Bz {t:Nat} (h:tyS t=true):t∈tyL:=by simpa[tyS] using h
theorem hS: ∀t,tyS t=true->qG Tryz.prog tyS t=true:=fun t h=>List.all_eq_true.1 Kl t (Bz h)
theorem hS1: ∀t,tyS t=true->(∃d,Tryz.prog.underlying t=some d/\(match d with| .struct _=>False| .array _ _=>False|_=>True))->Tryz.prog.cellsOf t=1:=fun t h ⟨d,hd,hk⟩=>by
 have:=List.all_eq_true.1 Km t (Bz h);unfold Bx at this;rw[hd]at this;cases d<;>simp only at this hk<;>exact Nat.eq_of_beq_eq_true this
theorem gv0:fg (Rows.laid_palmette_formula_sorts (H:=Unit))=Gv 0:=by kernel_rfl
theorem gv1:fg (Rows.laid_palmette_printer_words (H:=Unit))=Gv 1:=by kernel_rfl
theorem gv2:fg (Rows.laid_palmette_printer_tight (H:=Unit))=Gv 2:=by kernel_rfl
theorem gv3:fg (Rows.laid_palmette_formula_forms (H:=Unit))=Gv 3:=by kernel_rfl
theorem gv4:fg (Rows.laid_palmette_macro_sorts (H:=Unit))=Gv 4:=by kernel_rfl
theorem gv6:fg (Rows.laid_strings_asciiSpace (H:=Unit))=Gv 6:=by kernel_rfl
theorem Ko:fg (Rows.laid_internal_strconv_uint64pow10 (H:=Unit))=some pN:=by kernel_rfl
abbrev LL:List (String×DataW Unit):=Rows.macroAddUptoRow.laid
theorem xf:(LL.all fun x=>x.2.handleName?.isNone)=true:=by kernel_rfl
theorem Kp {w:World} (h:laidMetH Tryz.prog LL w):fQ (U0 w) w Gv:=by
 have hl:laidMet Tryz.prog LL w:=by
  have:=h
  rwa [Go.MakeChecks.laidMetH_plain _ _ _ xf]at this
 intro g v hg
 match g,hg with
 |0,hg=>exact nM hS hS1 (nm:= "palmette/formula.sorts") (d:=Rows.laid_palmette_formula_sorts) (t:=180) hl (by simp[LL,Rows.macroAddUptoRow]) (by kernel_rfl) (by kernel_rfl) (by kernel_rfl) (gv0.trans hg)
 |1,hg=>exact nM hS hS1 (nm:= "palmette/printer.words") (d:=Rows.laid_palmette_printer_words) (t:=219) hl (by simp[LL,Rows.macroAddUptoRow]) (by kernel_rfl) (by kernel_rfl) (by kernel_rfl) (gv1.trans hg)
 |2,hg=>exact nM hS hS1 (nm:= "palmette/printer.tight") (d:=Rows.laid_palmette_printer_tight) (t:=257) hl (by simp[LL,Rows.macroAddUptoRow]) (by kernel_rfl) (by kernel_rfl) (by kernel_rfl) (gv2.trans hg)
 |3,hg=>exact nM hS hS1 (nm:= "palmette/formula.forms") (d:=Rows.laid_palmette_formula_forms) (t:=260) hl (by simp[LL,Rows.macroAddUptoRow]) (by kernel_rfl) (by kernel_rfl) (by kernel_rfl) (gv3.trans hg)
 |4,hg=>exact nM hS hS1 (nm:= "palmette/macro.sorts") (d:=Rows.laid_palmette_macro_sorts) (t:=268) hl (by simp[LL,Rows.macroAddUptoRow]) (by kernel_rfl) (by kernel_rfl) (by kernel_rfl) (gv4.trans hg)
 |6,hg=>exact nM hS hS1 (nm:= "strings.asciiSpace") (d:=Rows.laid_strings_asciiSpace) (t:=278) hl (by simp[LL,Rows.macroAddUptoRow]) (by kernel_rfl) (by kernel_rfl) (by kernel_rfl) (gv6.trans hg)
 |5,hg=>simp[Gv]at hg
 |g+7,hg=>simp[Gv]at hg
theorem Kq {w:World} (h:laidMetH Tryz.prog LL w): ∃(cs:List AV) (vs:List Value),cells pN=some cs/\dt (U0 w) w [] [] cs vs/\fL (U0 w) w ⟨10,0,none⟩ vs/\(0<vs.length->csz w 10=some vs.length):=by
 have hl:laidMet Tryz.prog LL w:=by
  have:=h
  rwa [Go.MakeChecks.laidMetH_plain _ _ _ xf]at this
 exact nM hS hS1 (nm:= "internal/strconv.uint64pow10") (d:=Rows.laid_internal_strconv_uint64pow10) (t:=326) hl (by simp[LL,Rows.macroAddUptoRow]) (by kernel_rfl) (by kernel_rfl) (by kernel_rfl) Ko
end Go.Proofs.Ae
namespace Go.Proofs.Ae
open Go Go.RowKit Go.ChangeShapes Go.WideShapes Go.ChangeAt
open Go.Proofs.YtjkmcceipabejaaGreatDoor
set_option maxRecDepth 20000
theorem Kr:laidOutB Tryz.prog=true:=by kernel_rfl
theorem Ks:ownKnob Tryz.prog.godebug=none:=by kernel_rfl
section
variable {H:Type} {enc:TypeId×Value->H} {W:World} {r:Reach} {base:Nat} {sp:Nat->Bool} {held:Bool} {v:Value} {d:DataW H} {p:List MemPlace}
theorem BB {t:Nat} (hSt:tyS t=true) (hc:v.cells= #[v]) (h:DataW.Trod enc Tryz.prog W 0 sp held t v d p) {a:AV} (hd:fg d=some a) (ha:cells a=some [a]):Rep (U0 W) W [] [] a v:=by
 obtain⟨fuel,hf⟩:=h;obtain⟨-,a',ac,r1,r2,-,r4⟩:=AN hS hS1 fuel t _ d p hSt hf;rw[hd]at r1;cases r1;rw[ha]at r2;cases r2;rw[hc]at r4;cases r4;assumption
theorem Kt {t e:Nat} (hu:Tryz.prog.underlying t=some (.slice e)) (hSt:tyS t=true) (hval:Value.okWide Tryz.prog W r base t v) (h:DataW.Trod enc Tryz.prog W 0 sp held t v d p) {s:Sp} {l:List AV} (hd:fg d=some (.slc s l)):Rep (U0 W) W [] [] (.slc s l) v:=by
 obtain⟨a,len,cap,rfl⟩:=Go.WideShapes.okWide_slice (P:=Tryz.prog) hu hval;exact BB hSt rfl h hd rfl
theorem BC {t:Nat} (hr:Tryz.prog.readableRec t=true) (ht:t<Tryz.prog.types.size) (h:DataW.Trod enc Tryz.prog W 0 (fun _=>true) true t v d p) (hlt: ∀x∈p,x.block<W.heap.size) (W':World) (hb:Below W.heap.size W W'):
  DataW.Trod enc Tryz.prog W' 0 (fun b=>decide (b<W.heap.size)) true t v d p:=Below.trod Kr hr ht h hb hlt
end
theorem Ku {H:Type} {enc:TypeId×Value->H} {P:Program} {w:World} {sp:Nat->Bool} {held:Bool} {fuel t:Nat} {l:Array (String×TypeId)} {cs:List Value} {nm:String} {d:DataW H} {ps:List MemPlace} (hu:P.underlying t=some (.interface l)) (h:DataW.trod enc P w 0 sp held fuel t cs=some (.iface nm d,ps)): ∃u v,cs=[.iface u v]:=by
 cases fuel with
 |zero=>simp[DataW.trod]at h
 |succ fuel=>
  unfold DataW.trod at h;rw[hu]at h;split at h
  all_goals first|(rename_i u v e;exact⟨u,v,rfl⟩)|(cases h;done)|skip
  all_goals (have e:= ‹some (TypeDesc.interface _)=_›;cases e)
theorem Kv {w:World} (h:laidMetH Tryz.prog LL w): ∃t,fQ (U0 w) w (GG t):=by
 have hl:laidMet Tryz.prog LL w:=by
  have:=h
  rwa [Go.MakeChecks.laidMetH_plain _ _ _ xf]at this
 have h0:=Kp h;obtain⟨ps,hlv,-,-⟩:=hl;obtain⟨g,tt,cs,fuel,p,k1,k2,k3,k4⟩:=xd hlv (nm:= "strconv.ErrRange") (d:=Rows.laid_strconv_ErrRange) (by simp[LL,Rows.macroAddUptoRow]);obtain rfl:g=9:=Option.some.inj (k1.symm.trans (show Tryz.prog.globalNamed "strconv.ErrRange" =some 9 by kernel_rfl));obtain rfl:tt=107:=Option.some.inj (k2.symm.trans (show(Tryz.prog.globals[9]?).map (·.type)=some 107 by kernel_rfl));obtain⟨u,v,hcs⟩:=Ku Tryz.underlying107 k4;refine⟨u,?_⟩;intro g v' hg;unfold GG at hg;split at hg
 ·rename_i hb
  have:=Nat.eq_of_beq_eq_true hb;subst this;cases hg;refine⟨[.iface u .undef],cs.toList,rfl,?_,?_,fun _=>by rw[Bt k1 k3];simp⟩
  ·rw[hcs];exact .cons (.iface .undef) rfl .nil
  ·intro i x hx;have hc:=World.var?_cell k1 k3 i;have e:(⟨9,0,Option.none⟩:Addr).add i=⟨9,i,Option.none⟩:=by unfold Addr.add;split<;>simp_all
   have hx':cs[i]? =some x:=by simpa using hx
   rw[e,hc];refine⟨hx',?_⟩;have:=wu (w:=w) (a:=⟨9,i,Option.none⟩) (v:=x) (by rw[hc];exact hx');simpa using this
 ·split at hg
  ·rename_i hb
   have:=Nat.eq_of_beq_eq_true hb;subst this;cases hg;exact Kq h
  ·exact h0 g v' hg
theorem Kw {G:Gls} {f:Nat} {ags:List AV} {W:World} {args:List Value} (h:eX Tryz.prog G f ags (.bool true,none)) (hG:fQ (U0 W) W G) (hV:dU (U0 W) W [] [] ags args):
  Calls Tryz.prog f args.toArray W fun e W'=>e=.returned (.bool true)/\Below W.heap.size W W':=by
 refine Calls.mono (h (U0 W) [] [] W args hG hV G5).2 ?_;rintro e w' ⟨x,U',rfl,hp⟩;have:=hp.rep;cases this;exact⟨rfl,hp.below⟩
end Go.Proofs.Ae
namespace Go.Proofs.Ae
open Go Go.RowKit Go.ChangeShapes Go.WideShapes Go.ChangeAt
open Go.Proofs.YtjkmcceipabejaaGreatDoor
set_option maxRecDepth 100000
def Kx:Lit->Value
 | .int k n=>.int k n
 | .bool b=>.bool b
 | .string s=>.string ⟨s.toArray⟩
 |_=>.int .i64 0
mutual
def kB:DataW Unit->List Value
 | .lit l=>[Kx l]
 | .agg ps=>xg ps
 |_=>[]
def xg:List (DataW Unit)->List Value
 |[]=>[]
 |d::ds=>kB d++xg ds
end
def Ky:List Value:=match(Rows.laid_unicode_White_Space (H:=Unit))with
 | .ptr (.agg (.slice es _::_))=>xg es
 |_=>[]
def BD:DataW Unit->List Value
 | .iface _ (.ptr d)=>kB d
 |_=>[]
noncomputable def rk (os:Os):World:=
 let N:=(World.settled Tryz.prog os).heap.size
 let w0:=World.holding Tryz.prog os ⟨#[
  .cells (BD Rows.laid_strconv_ErrRange).toArray 332,
  .cells (BD Rows.laid_strconv_ErrSyntax).toArray 332,
  .cells #[.slice (some ⟨N+3,0,none⟩) 7 7,.slice none 0 0,.int .i64 2] 313,
  .cells Ky.toArray 316,
  .cells #[.int .i64 0,.int .i64 1,.int .i64 2,.int .i64 3] 3],#[],[]⟩
 let put (h:Array Go.Obj) (g:Nat) (cs:Array Value):Array Go.Obj:=h.modify g fun
  | .cells _ t frozen=>.cells cs t frozen
  |o=>o
 let h0:=put w0.heap 0 (kB Rows.laid_palmette_formula_sorts).toArray
 let h1:=put h0 1 (kB Rows.laid_palmette_printer_words).toArray
 let h2:=put h1 2 (kB Rows.laid_palmette_printer_tight).toArray
 let h3:=put h2 3 (kB Rows.laid_palmette_formula_forms).toArray
 let h4:=put h3 4 #[.slice (some ⟨N+4,0,none⟩) 4 4]
 let h5:=put h4 6 (kB Rows.laid_strings_asciiSpace).toArray
 let h6:=put h5 7 #[.pointer (some ⟨N+2,0,none⟩)]
 let h7:=put h6 8 #[.iface 330 (.pointer (some ⟨N+1,0,none⟩))]
 let h8:=put h7 9 #[.iface 330 (.pointer (some ⟨N,0,none⟩))]
 let h9:=put h8 10 (kB Rows.laid_internal_strconv_uint64pow10).toArray
 let h10:=put h9 11 (kB Rows.laid_math_bits_deBruijn32tab).toArray
 let h11:=put h10 12 (kB Rows.laid_math_bits_deBruijn64tab).toArray
 {w0 with heap:=h11}
theorem Kz (os:Os) (args:Array Value):laidMet Tryz.prog LL ((rk os).forCall (fun _ _=>0) ⟨#[],args,[]⟩).memory:=
 laidMet_of_run' 8 (by kernel_rfl) (by kernel_rfl)
theorem wv (os:Os) (args:Array Value):((rk os).forCall (fun _ _=>0) ⟨#[],args,[]⟩).variablesRefB Tryz.prog=true:=by kernel_rfl
theorem wr (os:Os) (args:Array Value):(((rk os).forCall (fun _ _=>0) ⟨#[],args,[]⟩).heap.toList.drop Tryz.prog.globals.size).take ((begin Tryz.prog (fun _ _=>0) default).world.heap.size - Tryz.prog.globals.size)=
   (begin Tryz.prog (fun _ _=>0) default).world.heap.toList.drop Tryz.prog.globals.size:=by kernel_rfl
end Go.Proofs.Ae
