/- The compiled form is that of the program. -/
import Derived.Test.YtjkmcceipabejaaGreatDoorE
import Derived.Test.YtjkmcceipabejaaGreatDoorChecked
import Derived.KernelRfl
import Derived.WalkKit
import Derived.WalkSpells
import Derived.ProofKit
set_option linter.unusedSimpArgs false
set_option linter.unusedVariables false
set_option linter.unusedSectionVars false
namespace Go.Proofs.Ae
open Go
set_option maxRecDepth 1000000
def wZ (P:Program) (k:Nat) (b:dH):Option (dH×List Res):=match P.funcs[k]? with
 |some fn=>match fn.name== "runtime.NumGoroutine",fn.body with
  |false,some c=>match eG P fn.ntmps false c b,kl P fn.results.toList with
   |some x,some y=>some (x,y)
   |_,_=>none
  |_,_=>none
 |none=>none
theorem IB {P:Program} {k:Nat} {cf:CFn} (h:wZ P k cf.body=some (cf.body,cf.res)):iM P k cf:=by
 unfold wZ at h;split at h
 ·rename_i fn hf
  split at h
  ·rename_i c hn hb
   split at h
   ·rename_i x y hx hy
    cases h;exact⟨fn,c,cf.body,hf,hn,hb,hx,hy⟩
   ·cases h
  ·cases h
 ·cases h
def Tr.lst:Tr->List (Nat×CFn)
 | .l k c=>[(k,c)]
 | .n _ a b=>a.lst++b.lst
theorem Tr.get_mem {f:Nat} {cf:CFn}: ∀t:Tr,t.get f=some cf->(f,cf)∈t.lst
 | .l k c=>fun h=>by
  simp only[Tr.get]at h;split at h
  ·rename_i hb
   cases h;rw[Nat.eq_of_beq_eq_true hb];simp[Tr.lst]
  ·cases h
 | .n k a b=>fun h=>by
  simp only[Tr.get]at h;simp only[Tr.lst,List.mem_append];split at h
  ·exact .inl (a.get_mem h)
  ·exact .inr (b.get_mem h)
theorem IC:fnT.lst.map (fun p=>wZ Tryz.prog p.1 p.2.body)=fnT.lst.map fun p=>some (p.2.body,p.2.res):=by
 kernel_rfl
theorem dz:wt Tryz.prog fns:=fun f cf h=>IB (List.map_inj_left.1 IC _ (fnT.get_mem h))
abbrev ok4:=dz 4 _ rfl
abbrev ok8:=dz 8 _ rfl
abbrev IE:=dz 11 _ rfl
abbrev IG:=dz 13 _ rfl
abbrev IH:=dz 16 _ rfl
abbrev II:=dz 18 _ rfl
abbrev IJ:=dz 19 _ rfl
abbrev IK:=dz 20 _ rfl
abbrev IL:=dz 21 _ rfl
abbrev IM:=dz 23 _ rfl
abbrev IP:=dz 25 _ rfl
abbrev IQ:=dz 32 _ rfl
abbrev IR:=dz 33 _ rfl
abbrev IT:=dz 34 _ rfl
abbrev IU:=dz 35 _ rfl
abbrev IV:=dz 36 _ rfl
abbrev IW:=dz 37 _ rfl
abbrev IX:=dz 38 _ rfl
abbrev IY:=dz 41 _ rfl
abbrev IZ:=dz 42 _ rfl
abbrev I0:=dz 43 _ rfl
abbrev I1:=dz 46 _ rfl
abbrev I2:=dz 48 _ rfl
abbrev I3:=dz 50 _ rfl
abbrev Bg:=dz 51 _ rfl
abbrev I4:=dz 52 _ rfl
abbrev I5:=dz 54 _ rfl
abbrev I6:=dz 56 _ rfl
abbrev I7:=dz 59 _ rfl
abbrev I8:=dz 60 _ rfl
abbrev I9:=dz 63 _ rfl
abbrev Ja:=dz 64 _ rfl
abbrev Jb:=dz 65 _ rfl
abbrev Jc:=dz 70 _ rfl
abbrev Jd:=dz 72 _ rfl
abbrev Bh:=dz 85 _ rfl
abbrev Je:=dz 86 _ rfl
abbrev Jf:=dz 87 _ rfl
abbrev Jg:=dz 88 _ rfl
abbrev Jh:=dz 89 _ rfl
abbrev Ji:=dz 90 _ rfl
abbrev Jj:=dz 93 _ rfl
abbrev Jk:=dz 94 _ rfl
abbrev Jl:=dz 96 _ rfl
abbrev Jm:=dz 98 _ rfl
abbrev Jn:=dz 99 _ rfl
abbrev Jo:=dz 100 _ rfl
abbrev Jp:=dz 101 _ rfl
abbrev Jq:=dz 109 _ rfl
abbrev Jr:=dz 114 _ rfl
abbrev Js:=dz 115 _ rfl
abbrev Jt:=dz 121 _ rfl
abbrev Ju:=dz 125 _ rfl
abbrev Jv:=dz 142 _ rfl
abbrev Jw:=dz 145 _ rfl
abbrev Jx:=dz 146 _ rfl
abbrev Jy:=dz 147 _ rfl
abbrev Jz:=dz 149 _ rfl
abbrev JA:=dz 151 _ rfl
abbrev JB:=dz 152 _ rfl
abbrev JC:=dz 154 _ rfl
abbrev JD:=dz 155 _ rfl
abbrev JE:=dz 156 _ rfl
abbrev JF:=dz 157 _ rfl
abbrev JG:=dz 159 _ rfl
abbrev JH:=dz 160 _ rfl
abbrev JI:=dz 166 _ rfl
abbrev JJ:=dz 171 _ rfl
abbrev JK:=dz 194 _ rfl
abbrev JL:=dz 195 _ rfl
abbrev JM:=dz 196 _ rfl
abbrev JN:=dz 198 _ rfl
abbrev JO:=dz 202 _ rfl
abbrev JP:=dz 220 _ rfl
abbrev JQ:=dz 223 _ rfl
end Go.Proofs.Ae



namespace Go.Proofs.Ae
open Go Go.RowKit
instance T5:eg:=⟨fun nt c cc=> ∃k,eG Tryz.prog nt true c k=some cc/\fG cc=true⟩
theorem kis:KIs Tryz.prog:=fun _ _ _=>Iff.rfl
theorem fp:Tryz.prog.follows .mixedOrders=true:=by kernel_rfl
theorem JR (w:World):Calls Tryz.prog 125 #[.slice none 0 0] w fun e w'=>e=.returned (.slice none 0 0)/\w=w':=by
 have k1:=fun(w:World) (a:Option Addr) (n c n' c':Nat)=>Lib.run_eql_slice_nil (P:=Tryz.prog) w 29 9 a n c n' c' Tryz.underlying29
 go_enter Tryz.func125,Tryz.ntmps125
 go_wp2
 go_ret
 exact⟨rfl,rfl⟩
theorem JS (w:World) (p:Addr) (c:Nat):Calls Tryz.prog 125 #[.slice (some p) 0 c] w fun e w'=>e=.returned (.slice (some ⟨w.heap.size,0,none⟩) 0 0)/\w.alloc (.cells #[] 9)=w':=by
 have k1:=fun(w:World) (a:Option Addr) (n c n' c':Nat)=>Lib.run_eql_slice_nil (P:=Tryz.prog) w 29 9 a n c n' c' Tryz.underlying29
 go_enter Tryz.func125,Tryz.ntmps125
 go_wp2
 go_ret
 exact⟨rfl,rfl⟩
theorem JT (G:Gls) (e:AV) (es:List AV) (sp:Sp) (h1:dV 1 (e::es)=true) (h2:(es.length+1)*4096<=140737488355328):
  dn G false qD eW 1 wE [.slc sp (e::es)]=some (.slc .shared (e::es),some (.app (e::es).length 9 1)):=by
 have h3:(es.length+1)*16<=140737488355328:=by omega
 have h4:es.length+1<=140737488355328:=by omega
 cases sp<;>simp -implicitDefEqProofs [wE,iq,h1,h3,h4]
theorem Bi {G:Gls} {ags:List AV} {r:AV×Option Arr} (h:it 9 1 ags=some r):eX Tryz.prog G 125 ags r:=
 AI fp kis Ju JR (fun w p c=>(JS w p c).mono fun e w' ⟨he,hw⟩=>⟨⟨_,he⟩,hw▸(Below.refl _ _).alloc (Nat.le_refl _) _⟩) (fun e es sp h1 h2=>JT G e es sp h1 h2) h
theorem JU (w:World):Calls Tryz.prog 70 #[.slice none 0 0] w fun e w'=>e=.returned (.slice none 0 0)/\w=w':=by
 have k1:=fun(w:World) (a:Option Addr) (n c n' c':Nat)=>Lib.run_eql_slice_nil (P:=Tryz.prog) w 37 74 a n c n' c' Tryz.underlying37
 go_enter Tryz.func70,Tryz.ntmps70
 go_wp2
 go_ret
 exact⟨rfl,rfl⟩
theorem JV (w:World) (p:Addr) (c:Nat):Calls Tryz.prog 70 #[.slice (some p) 0 c] w fun e w'=>e=.returned (.slice (some ⟨w.heap.size,0,none⟩) 0 0)/\w.alloc (.cells #[] 74)=w':=by
 have k1:=fun(w:World) (a:Option Addr) (n c n' c':Nat)=>Lib.run_eql_slice_nil (P:=Tryz.prog) w 37 74 a n c n' c' Tryz.underlying37
 go_enter Tryz.func70,Tryz.ntmps70
 go_wp2
 go_ret
 exact⟨rfl,rfl⟩
theorem JW (G:Gls) (e:AV) (es:List AV) (sp:Sp) (h1:dV 2 (e::es)=true) (h2:(es.length+1)*4096<=140737488355328):
  dn G false qD eW 1 c70 [.slc sp (e::es)]=some (.slc .shared (e::es),some (.app (e::es).length 74 2)):=by
 have h3:(es.length+1)*24<=140737488355328:=by omega
 have h4:es.length+1<=140737488355328:=by omega
 cases sp<;>simp -implicitDefEqProofs [c70,iq,h1,h3,h4]
theorem Bj {G:Gls} {ags:List AV} {r:AV×Option Arr} (h:it 74 2 ags=some r):eX Tryz.prog G 70 ags r:=
 AI fp kis Jc JU (fun w p c=>(JV w p c).mono fun e w' ⟨he,hw⟩=>⟨⟨_,he⟩,hw▸(Below.refl _ _).alloc (Nat.le_refl _) _⟩) (fun e es sp h1 h2=>JW G e es sp h1 h2) h
end Go.Proofs.Ae
namespace Go.Proofs.Ae
open Go Go.RowKit
open Classical in
noncomputable def spR {X:Type} (enc:X->List AV) (F:X->AV×Option Arr) (ok:X->Prop) (ags:List AV):dC:=if h: ∃x,ags=enc x/\ok x then some (F h.choose)else none
theorem gy {X:Type} {enc:X->List AV} {F:X->AV×Option Arr} {ok:X->Prop} {ags:List AV} {r:AV×Option Arr} (h:spR enc F ok ags=some r): ∃x,ags=enc x/\ok x/\r=F x:=by
 unfold spR at h;split at h
 ·rename_i hx
  cases h;exact⟨_,hx.choose_spec.1,hx.choose_spec.2,rfl⟩
 ·cases h
theorem jL {X:Type} {enc:X->List AV} {F:X->AV×Option Arr} {ok:X->Prop} (inj: ∀x y,enc x=enc y->x=y) {x:X} (h:ok x):spR enc F ok (enc x)=some (F x):=by
 unfold spR;have hx: ∃y,enc x=enc y/\ok y:=⟨x,rfl,h⟩
 rw[dif_pos hx];rw[<-inj _ _ hx.choose_spec.1]
theorem ik (f:Nat) (s:List AV->dC) (l:List (Nat×(List AV->dC))) (ags:List AV):dg ((f,s)::l) f ags=s ags:=by
 simp[dg]
theorem gM {f g:Nat} (h:g≠f) (s:List AV->dC) (l:List (Nat×(List AV->dC))) (ags:List AV):dg ((f,s)::l) g ags=dg l g ags:=by
 have:Nat.beq g f=false:=by
  cases hb:Nat.beq g f with
  |false=>rfl
  |true=>exact absurd (Nat.eq_of_beq_eq_true hb) h
 simp[dg,this]
section
variable {G:Gls} {l:List (Nat×(List AV->dC))}
theorem ek {X:Type} {f:Nat} {cf:CFn} (enc:X->List AV) (F:X->AV×Option Arr) (ok:X->Prop) (hf:iM Tryz.prog f cf)
  (h: ∀x,ok x-> ∃N,dn G false (spC (dg l)) eW N cf (enc x)=some (F x)) (hl:dP Tryz.prog G (dg l)):dP Tryz.prog G (dg ((f,spR enc F ok)::l)):=
 fl hl fun ags r hr=>by
  obtain⟨x,rfl,hx,rfl⟩:=gy hr;exact AX fp kis hf hl (h x hx)
theorem nK {X:Type} {f:Nat} {cf:CFn} (enc:X->List AV) (F:X->AV×Option Arr) (ok:X->Prop) (μ:X->Nat) (inj: ∀x y,enc x=enc y->x=y) (hf:iM Tryz.prog f cf)
  (h: ∀x,ok x-> ∀orc:Nat->List AV->dC,(∀y,ok y->μ y<μ x->orc f (enc y)=some (F y))->(∀g,g≠f-> ∀ags,orc g ags=dg l g ags)-> ∃N,dn G false (spC orc) eW N cf (enc x)=some (F x))
  (hl:dP Tryz.prog G (dg l)):dP Tryz.prog G (dg ((f,spR enc F ok)::l)):=by
 refine Hi (fun b=>spR enc F (fun x=>ok x/\μ x<b)) (spR enc F ok) ?_ ?_ ?_ hl
 ·intro ags r hr;obtain⟨x,rfl,hx,rfl⟩:=gy hr;exact⟨μ x+1,jL (ok:=fun x=>ok x/\μ x<_) inj ⟨hx,Nat.lt_succ_self _⟩⟩
 ·intro ags;cases hs:spR enc F (fun x=>ok x/\μ x<0) ags with
  |none=>rfl
  |some r=>
   obtain⟨x,_,hx,_⟩:=gy hs;omega
 ·intro b ags r ho hs;obtain⟨x,rfl,hx,rfl⟩:=gy hs;refine AX fp kis hf ho (h x hx.1 _ (fun y hy hlt=>?_) (fun g hg ags=>gM hg _ _ _));rw[ik];exact jL (ok:=fun x=>ok x/\μ x<b) inj ⟨hy,by omega⟩
end
theorem nL {a b:Nd} (h:av a=av b):a=b:=by
 have:=ww a;rw[h,ww]at this;exact(Option.some.inj this).symm
theorem eO (a b:Nd) (h:[av a]=[av b]):a=b:=nL (by simpa using h)
@[simp] theorem Bk (n:Nd) (M:Mem):iJ false (av n,none) M=some (av n,M):=by cases n;rfl
abbrev L0:List (Nat×(List AV->dC)):=[(125,it 9 1),(70,it 74 2)]
theorem o0 {G:Gls}:dP Tryz.prog G (dg L0):=fl (fl AW fun ags r hr=>Bj hr) fun ags r hr=>Bi hr
noncomputable abbrev L1:List (Nat×(List AV->dC)):=(99,spR (fun n:Nd=>[av n]) (fun n=>(av n,none)) (fun n=>bk n<=big))::L0
theorem o1 {G:Gls}:dP Tryz.prog G (dg L1):=by
 refine nK _ _ _ sz eO Jn ?_ o0;intro n hb orc hself hother;refine⟨n.l.length+1,Ik n hb (Nat.lt_succ_self _) (fun x hx M=>?_) (fun M=>?_)⟩
 ·have:=hself x (by have:=ig hx;omega) (ko hx);simp[spC,this]
 ·have h:=hother 125 (by decide) [.slc .shared (n.ns.map .str)];have hlen:=jI n;unfold big at hb;cases hns:n.ns with
  |nil=>rw[hns]at h;simp[dg,it]at h;simp[spC,h,re]
  |cons s ns=>
   rw[hns]at h hlen;simp at hlen;have b1:(ns.length+1)*4096<=140737488355328:=by omega
   simp[dg,it,b1]at h;simp[spC,h,re]
end Go.Proofs.Ae

