/- Further functions: what they answer, and what that means. -/
import Derived.Test.YtjkmcceipabejaaGreatDoorM
set_option linter.unusedSimpArgs false
set_option linter.unusedVariables false
set_option linter.unusedSectionVars false
namespace Go.Proofs.Ae
open Go Go.RowKit
theorem xC (v:AV) (M:Mem):iJ false (v,none) M=some (v,M):=by cases v<;>rfl
inductive Has:List (Nat×(List AV->dC))->Nat->(List AV->dC)->Prop
 |here {f:Nat} {s:List AV->dC} {l:List (Nat×(List AV->dC))}:Has ((f,s)::l) f s
 |there {f g:Nat} {s s':List AV->dC} {l:List (Nat×(List AV->dC))} (h:Has l f s) (hn:Nat.beq f g=false):Has ((g,s')::l) f s
theorem Has.eq {l:List (Nat×(List AV->dC))} {f:Nat} {s:List AV->dC} (h:Has l f s) (ags:List AV):dg l f ags=s ags:=by
 induction h with
 |here=>exact ik _ _ _ _
 |there h hn ih=>simp only[dg,hn,ih]
theorem Cf {l:List (Nat×(List AV->dC))} {f:Nat} {X:Type} {enc:X->List AV} {F:X->AV×Option Arr} {ok:X->Prop} (inj: ∀x y,enc x=enc y->x=y) (x:X)
  (ho:Has l f (spR enc F ok)) (hx:ok x) {ags:List AV} (ha:eh ags=some (enc x)) (M:Mem):spC (dg l) f ags M=iJ false (F x) M:=by
 unfold spC;rw[ha];simp only[ho.eq,jL inj hx]
theorem du {l:List (Nat×(List AV->dC))} {f:Nat} {X:Type} {enc:X->List AV} {F:X->AV×Option Arr} {ok:X->Prop} (inj: ∀x y,enc x=enc y->x=y) (x:X)
  (ho:Has l f (spR enc F ok)) (hx:ok x) {ags:List AV} (ha:eh ags=some (enc x)) {v:AV} (hv:F x=(v,none)) (M:Mem):spC (dg l) f ags M=some (v,M):=by
 rw[Cf inj x ho hx ha,hv,xC]
def dL (orc:Nat->List AV->dC) (f:Nat) (ags:List AV):dC:=match eh ags with
 |some a=>orc f a
 |none=>none
theorem jr {P:Program} {G:Gls} {orc:Nat->List AV->dC} (h:dP P G orc):dP P G (dL orc):=by
 intro f ags r hr U bs es w args hG hV hfr;unfold dL at hr;split at hr
 ·rename_i a ha
  exact h f a r hr U [] [] w args hG (qt hV ha) hfr
 ·cases hr
def TW (orc:Nat->List AV->dC):lK:=⟨fns,dL orc,lp⟩
abbrev BW (G:Gls) (orc:Nat->List AV->dC) (N k:Nat):a7:=(eY G (TW orc) N false k).1
abbrev YW (G:Gls) (orc:Nat->List AV->dC) (N k:Nat):a7:=(eY G (TW orc) N false k).2
section
variable {G:Gls} {orc:Nat->List AV->dC} {N k f:Nat} {ags:List AV}
theorem dS {r:AV×Mem} {M:Mem} (h:spC orc f ags M=some r):BW G orc N (k+1) f ags M=some r:=by
 unfold spC at h;have e:(TW orc).orc f ags=dL orc f ags:=rfl;unfold BW;rw[eY];simp only[e];unfold dL;split at h
 ·rename_i a ha
  split at h
  ·rename_i r' hr'
   simp only[ha,hr',h]
  ·cases h
 ·cases h
theorem Cg {cf:CFn} (h1:dL orc f ags=none) (hf:fns f=some cf) (hm:lp f=false) (M:Mem):
  BW G orc N (k+1) f ags M=if cf.pure&&(eh ags).isSome then(match dn G false (BW G orc N k) (YW G orc N k) N cf ags with
   |some r=>rZ false r M
   |none=>none)else dr G false (BW G orc N k) (YW G orc N k) N cf ags M:=by
 have e1:(TW orc).orc f ags=none:=h1;have e2:(TW orc).fns f=some cf:=hf;have e3:(TW orc).mutf f=false:=hm;unfold BW YW;rw[eY];simp only[e1,e2,e3,Bool.false_and,Bool.not_false,Bool.and_true];rfl
theorem fZ {cf:CFn} {v:AV} (h1:dL orc f ags=none) (hf:fns f=some cf) (hm:lp f=false) (hp:cf.pure=true) (ha:(eh ags).isSome=true) (h:dn G false (BW G orc N k) (YW G orc N k) N cf ags=some (v,none)) (M:Mem):
  BW G orc N (k+1) f ags M=some (v,M):=by
 rw[Cg h1 hf hm,hp,ha];simp only[Bool.and_self,if_true,h];cases v<;>rfl
end
section
variable {G:Gls} {l:List (Nat×(List AV->dC))}
theorem ml {X:Type} {f:Nat} {cf:CFn} (enc:X->List AV) (F:X->AV×Option Arr) (ok:X->Prop) (hf:iM Tryz.prog f cf)
  (h: ∀x,ok x-> ∃N k,dn G false (BW G (dg l) N k) (YW G (dg l) N k) N cf (enc x)=some (F x)) (hl:dP Tryz.prog G (dg l)):dP Tryz.prog G (dg ((f,spR enc F ok)::l)):=
 fl hl fun ags r hr=>by
  obtain⟨x,rfl,hx,rfl⟩:=gy hr;obtain⟨N,k,h⟩:=h x hx;exact mZ (T:=TW (dg l)) fp kis dz hf (jr hl) ⟨N,k,false,h⟩
end
theorem ux {orc:Nat->List AV->dC} {f:Nat} {ags:List AV} {v:AV} (h:orc f ags=some (v,none)) (ha:eh ags=some ags) (M:Mem):spC orc f ags M=some (v,M):=by
 unfold spC;rw[ha];simp only[h,xC]
theorem pX {orc orc':Nat->List AV->dC} {f:Nat} (h: ∀ags,orc f ags=orc' f ags) (ags:List AV) (M:Mem):spC orc f ags M=spC orc' f ags M:=by
 unfold spC;split<;>simp only[h]
theorem Ch (a b:Int) (h:[AV.int .i64 a]=[AV.int .i64 b]):a=b:=by simpa using h
theorem Ci: ∀{a b:List Str},a.map AV.str=b.map AV.str->a=b
 |[],[],_=>rfl
 |[],_::_,h=>by simp at h
 |_::_,[],h=>by simp at h
 |x::a,y::b,h=>by simp at h;rw[h.1,Ci h.2]
theorem xD (a b:Unit) (h:([]:List AV)=[]):a=b:=rfl
theorem nV {G:Gls} {l:List (Nat×(List AV->dC))} {f:Nat} {cf:CFn} (F:Nd->AV) (hF: ∀n M,iJ false (F n,none) M=some (F n,M)) (hf:iM Tryz.prog f cf)
  (h: ∀n (cl:a7),bk n<=big->(∀x∈n.l,∀M,cl f [av x] M=some (F x,M))->dn G false cl eW (bk n+1) cf [av n]=some (F n,none))
  (hl:dP Tryz.prog G (dg l)):dP Tryz.prog G (dg ((f,spR (fun n:Nd=>[av n]) (fun n=>(F n,none)) (fun n=>bk n<=big))::l)):=by
 refine nK _ _ _ sz eO hf ?_ hl;intro n hb orc hself hother;refine⟨bk n+1,h n _ hb fun x hx M=>?_⟩;have:=hself x (by have:=ig hx;omega) (ko hx);simp only[spC,eh,AU,Hl,Hm,this,hF]
noncomputable abbrev ndS (F:Nd->AV):List AV->dC:=spR (fun n:Nd=>[av n]) (fun n=>(F n,none)) (fun n=>bk n<=big)
theorem mo (n:Nd):n.l.length<bk n+1:=by have:=iy n;omega
theorem xE (n:Nd):n.ns.length<bk n+1:=by have:=jI n;omega
theorem Cj (a b:Nd×Nd) (h:[av a.1,av a.2]=[av b.1,av b.2]):a=b:=by
 simp only[List.cons.injEq,and_true]at h;exact Prod.ext (nL h.1) (nL h.2)
abbrev e1 (n:Nd):List AV:=[av n]
noncomputable abbrev sNd (F:Nd->AV) (ok:Nd->Prop):List AV->dC:=spR e1 (fun n=>(F n,none)) ok
theorem a1 (n:Nd):eh [av n]=some (e1 n):=by simp[e1]
abbrev e2 (p:Nd×Nd):List AV:=[av p.1,av p.2]
theorem a2 (a b:Nd):eh [av a,av b]=some (e2 (a,b)):=by simp[e2]
section
variable {t:Nat}
noncomputable abbrev M1:List (Nat×(List AV->dC)):=(65,ndS fun n=>.bool (nmq n))::(64,ndS fun n=>.int .i64 (dp n))::(63,ndS fun n=>.int .i64 (sz n))::(157,ndS fun n=>.int .i64 (dp n))::(156,ndS fun n=>.int .i64 (sz n))::(159,ndS av)::(72,ndS av)::L1
theorem m1 {G:Gls}:dP Tryz.prog G (dg M1):=
 nV _ (fun n M=>rfl) Jb (fun n cl hb hc=>Mr n hb (xE n) (mo n) hc)
  (nV _ (fun n M=>rfl) Ja (fun n cl hb hc=>Ib n hb (mo n) hc)
   (nV _ (fun n M=>rfl) I9 (fun n cl hb hc=>H9 n hb (mo n) hc)
    (nV _ (fun n M=>rfl) JF (fun n cl hb hc=>Ia n hb (mo n) hc)
     (nV _ (fun n M=>rfl) JE (fun n cl hb hc=>H8 n hb (mo n) hc)
      (nV _ Bk JG (fun n cl hb hc=>Ii n hb (mo n) hc)
       (nV _ Bk Jd (fun n cl hb hc=>Ig n hb (mo n) hc) o1))))))
noncomputable abbrev M2:List (Nat×(List AV->dC)):=(160,spR e2 (fun p=>(.bool (iP p.1 p.2),none)) (fun p=>bk p.1<=big/\bk p.2<=big))::(23,sNd (fun n=>.bool (few n)) fun n=>bk n<=big)::M1
theorem m2 {G:Gls}:dP Tryz.prog G (dg M2):=by
 refine nK _ _ _ (fun p=>sz p.1) Cj JH ?_ ?_
 ·intro p hb orc hself hother;refine⟨bk p.1+1,Im p.1 p.2 hb.1 hb.2 (Nat.lt_succ_self _) fun x hx y hy M=>?_⟩;exact ux (hself (x,y) ⟨by have:=ig hx;show bk x<=big;omega,by have:=ig hy;show bk y<=big;omega⟩ (ko hx)) (by simp[e2]) M
 ·exact ek _ _ _ IM (fun n hb=>⟨1,Mt n (fun M=>du eO n (by repeat first|exact .here|refine .there ?_ rfl) (by exact hb) (by exact a1 n) (by rfl) M) (fun M=>du eO n (by repeat first|exact .here|refine .there ?_ rfl) (by exact hb) (by exact a1 n) (by rfl) M) (fun M=>du eO n (by repeat first|exact .here|refine .there ?_ rfl) (by exact hb) (by exact a1 n) (by rfl) M)⟩) m1
noncomputable abbrev M3:List (Nat×(List AV->dC)):=(196,spR (fun s:Str=>[.str s]) (fun s=>(.bool (!dy s),none)) (fun _=>True))::(36,spR (fun s:Str=>[.str s]) (fun s=>(.bool (dy s),none)) (fun _=>True))::M2
theorem m3:dP Tryz.prog (GG t) (dg M3):=by
 refine ek _ _ _ JM (fun s _=>⟨1,Ln s fun M=>du fS s (by repeat first|exact .here|refine .there ?_ rfl) (by exact trivial) (by exact rfl) (by rfl) M⟩) ?_;refine fl m2 fun ags r hr=>?_;obtain⟨s,rfl,-,rfl⟩:=gy hr;exact Lm s
def nsE (l:List Str):List AV:=[.slc .shared (l.map .str),.fn 196 [] []]
theorem Ck (a b:List Str) (h:nsE a=nsE b):a=b:=by
 simp only[nsE,List.cons.injEq,AV.slc.injEq,true_and,and_true]at h;exact Ci h
noncomputable abbrev M4:List (Nat×(List AV->dC)):=(155,sNd (fun n=>.bool (kD n)) fun _=>True)::(154,sNd (fun n=>.bool (jO n)) fun n=>0<=n.op/\n.op<18/\bk n<=big)::(195,spR nsE (fun l=>(.bool (!l.all dy),none)) (fun l=>l.length<big))::(220,spR nsE (fun l=>(.int .i64 (jN dy l),none)) (fun l=>l.length<big))::M3
theorem m4:dP Tryz.prog (GG t) (dg M4):=by
 refine ek _ _ _ JD (fun n _=>⟨1,Lu n⟩) ?_;refine ek _ _ _ JC (fun n h=>⟨1,Lr n h.1 h.2.1 fun M=>du Ck n.ns (by repeat first|exact .here|refine .there ?_ rfl) (by have:=jI n;have:=h.2.2;show n.ns.length<big;omega) (by exact rfl) (by rfl) M⟩) ?_;refine ek _ _ _ JL (fun l h=>⟨1,Lp l fun M=>du Ck l (by repeat first|exact .here|refine .there ?_ rfl) (by exact h) (by exact rfl) (by rfl) M⟩) ?_;exact ek _ _ _ JP (fun l h=>⟨l.length+1,Lo l h (Nat.lt_succ_self _) fun s M=>du fS s (by repeat first|exact .here|refine .there ?_ rfl) (by exact trivial) (by exact rfl) (by rfl) M⟩) m3
noncomputable abbrev M5:List (Nat×(List AV->dC)):=(93,sNd (fun n=>.int .i64 (ndE n)) fun n=>bk n<=big)::M4
theorem m5:dP Tryz.prog (GG t) (dg M5):=by
 refine nK _ _ _ sz eO Jj ?_ m4;intro n hb orc hself hother;refine⟨n.l.length+1,Lv n hb (Nat.lt_succ_self _) (fun h0 h1 M=>?_) (fun M=>?_) (fun x hx M=>?_)⟩
 ·rw[pX (hother 154 (by decide))];exact du eO n (by repeat first|exact .here|refine .there ?_ rfl) (by exact⟨h0,h1,hb⟩) (by simp[e1]) (by rfl) M
 ·rw[pX (hother 155 (by decide))];exact du eO n (by repeat first|exact .here|refine .there ?_ rfl) (by exact trivial) (by simp[e1]) (by rfl) M
 ·exact ux (hself x (by have:=ig hx;show bk x<=big;omega) (ko hx)) (by simp[e1]) M
noncomputable abbrev M6:List (Nat×(List AV->dC)):=(38,sNd (fun n=>.int .i64 (chk n)) fun n=>bk n<=big)::(94,sNd (fun n=>.int .i64 (grt n)) fun n=>bk n<=big)::M5
theorem m6:dP Tryz.prog (GG t) (dg M6):=by
 refine ek _ _ _ IX (fun n hb=>⟨1,Lx n (fun M=>du eO n (by repeat first|exact .here|refine .there ?_ rfl) (by exact hb) (by exact(a1 n)) (by rfl) M) (fun M=>du eO n (by repeat first|exact .here|refine .there ?_ rfl) (by exact hb) (by exact(a1 n)) (by rfl) M)⟩) ?_;exact ek _ _ _ Jk (fun n hb=>⟨1,Lw n (fun M=>du eO n (by repeat first|exact .here|refine .there ?_ rfl) (by exact hb) (by exact(a1 n)) (by rfl) M) (fun M=>du eO n (by repeat first|exact .here|refine .there ?_ rfl) (by exact hb) (by exact(a1 n)) (by rfl) M)⟩) m5
def siE (s:Str):List AV:=[.str s,.int .i64 0]
theorem MF (a b:Str) (h:siE a=siE b):a=b:=by simpa[siE] using h
noncomputable abbrev R1:List (Nat×(List AV->dC)):=
 (151,spR (fun s:Str=>[.str s]) (fun s=>(.bool (kwL.contains s),none)) (fun _=>True))::(85,spR siE (fun s=>(.int .i64 (dE de s),none)) (fun s=>s.length<big))::
 (194,spR (fun _:Unit=>[]) (fun _=>(.slc .full (kwL.map .str),none)) (fun _=>True))::(117,spB de)::(148,spB ed)::(150,spB gm)::M6
theorem r1:dP Tryz.prog (GG t) (dg R1):=by
 have hB: ∀{f:Nat} {g:UInt8->Bool},okB f g=true-> ∀ags r,spB g ags=some r->eX Tryz.prog (GG t) f ags r:=by
  intro f g h ags r hr;obtain⟨c,rfl,-,rfl⟩:=gy hr;exact uh (xi h c)
 refine ek _ _ _ JA (fun s _=>⟨27,LA s (by omega) (fun M=>du xD () (by repeat first|exact .here|refine .there ?_ rfl) (by exact trivial) (by rfl) (by rfl) M)⟩) ?_;refine ek _ _ _ Bh (fun s hs=>⟨s.length+1,Ly s hs (Nat.lt_succ_self _) (fun c M=>du (fun _ _ h=>iT h) c (by repeat first|exact .here|refine .there ?_ rfl) (by exact trivial) (by rfl) (by rfl) M)⟩) ?_;refine ek _ _ _ JK (fun _ _=>⟨1,Lz⟩) ?_;exact fl (fl (fl m6 (hB KR)) (hB KQ)) (hB KP)
theorem MG (s:Str) (hs:s.length<big) (M:Mem):spC (dg R1) 85 [.str s,.int .i64 0] M=some (.int .i64 (dE de s),M):=
 du MF s (by repeat first|exact .here|refine .there ?_ rfl) (by exact hs) (by rfl) (by rfl) M
noncomputable abbrev R2:List (Nat×(List AV->dC)):=(32,spR (fun s:Str=>[.str s]) (fun s=>(.bool (dy s),none)) (fun s=>s.length<big))::R1
theorem r2:dP Tryz.prog (GG t) (dg R2):=by
 refine ml _ _ _ IQ (fun s hs=>⟨s.length+1,4,LF s hs (fun _ M=>dS (MG s hs M)) (fun h0=>?_)⟩) r1;have h148: ∀k (c:UInt8) M,BW (GG t) (dg R1) (s.length+1) (k+1) 148 [.int .u8 c.toNat] M=some (.bool (ed c),M):=fun k c M=>dS (du (fun _ _ h=>iT h) c (by repeat first|exact .here|refine .there ?_ rfl) (by exact trivial) (by rfl) (by rfl) M);have h150: ∀k (c:UInt8) M,BW (GG t) (dg R1) (s.length+1) (k+1) 150 [.int .u8 c.toNat] M=some (.bool (gm c),M):=fun k c M=>dS (du (fun _ _ h=>iT h) c (by repeat first|exact .here|refine .there ?_ rfl) (by exact trivial) (by rfl) (by rfl) M);have h151: ∀k M,BW (GG t) (dg R1) (s.length+1) (k+1) 151 [.str s] M=some (.bool (kwL.contains s),M):=fun k M=>dS (du fS s (by repeat first|exact .here|refine .there ?_ rfl) (by exact trivial) (by rfl) (by rfl) M);obtain⟨v,e,h149⟩:=LB (G:=GG t) (cl:=BW (GG t) (dg R1) (s.length+1) 2) (yl:=YW (GG t) (dg R1) (s.length+1) 2) (N:=s.length+1) s h0 hs (Nat.lt_succ_self _) (h148 1);have k149: ∀M,BW (GG t) (dg R1) (s.length+1) 3 149 [.str s] M=some (.tup [.int .i64 v,.int .i64 e],M):=fun M=>
  fZ (cf:=gR) (by unfold dL;split<;>rfl) rfl rfl rfl rfl h149 M
 obtain⟨k,tx,v',e',h86,h2⟩:=LC (G:=GG t) (cl:=BW (GG t) (dg R1) (s.length+1) 3) (yl:=YW (GG t) (dg R1) (s.length+1) 3) (N:=s.length+1) s h0 hs (h148 2) (h150 2) ⟨v,e,k149⟩ (h151 2);exact⟨k,tx,v',e',fun M=>fZ (cf:=c86) (by unfold dL;split<;>rfl) rfl rfl rfl rfl h86 M,h2⟩
noncomputable abbrev R3:List (Nat×(List AV->dC)):=(152,spR (fun k:Int=>[.int .i64 k]) (fun k=>(.tup [.int .i64 (fA k),.int .i64 (fB k),.int .i64 (fC k)],none)) (fun k=>0<=k/\k<18))::R2
noncomputable abbrev R4:List (Nat×(List AV->dC)):=(87,sNd (fun n=>.int .i64 (ndE n)) fun n=>bk n<=big)::R3
theorem r4:dP Tryz.prog (GG t) (dg R4):=by
 refine nK _ _ _ sz eO Jf ?_ (ek _ _ _ JB (fun k h=>⟨1,LG k h.1 h.2⟩) r2);intro n hb orc hself hother;refine⟨bk n+1,LN n hb (Nat.lt_succ_self _) (fun h0 h1 M=>?_) (fun x hx M=>?_) (fun x hx M=>?_)⟩
 ·rw[pX (hother 152 (by decide))];exact du Ch n.op (by repeat first|exact .here|refine .there ?_ rfl) (by exact⟨h0,h1⟩) (by rfl) (by rfl) M
 ·rw[pX (hother 32 (by decide))];exact du fS x (by repeat first|exact .here|refine .there ?_ rfl) (by have:=AZ hx;have:=na n;show x.length<big;omega) (by rfl) (by rfl) M
 ·exact ux (hself x (by have:=ig hx;show bk x<=big;omega) (ko hx)) (by simp[e1]) M
noncomputable abbrev R5:List (Nat×(List AV->dC)):=(34,sNd (fun n=>.int .i64 (chk n)) fun n=>bk n<=big)::(88,sNd (fun n=>.int .i64 (grt n)) fun n=>bk n<=big)::R4
theorem r5:dP Tryz.prog (GG t) (dg R5):=by
 refine ek _ _ _ IT (fun n hb=>⟨1,LK n (fun M=>du eO n (by repeat first|exact .here|refine .there ?_ rfl) (by exact hb) (by exact a1 n) (by rfl) M) (fun M=>du eO n (by repeat first|exact .here|refine .there ?_ rfl) (by exact hb) (by exact a1 n) (by rfl) M)⟩) ?_;exact ek _ _ _ Jg (fun n hb=>⟨1,LJ n (fun M=>du eO n (by repeat first|exact .here|refine .there ?_ rfl) (by exact hb) (by exact a1 n) (by rfl) M) (fun M=>du eO n (by repeat first|exact .here|refine .there ?_ rfl) (by exact hb) (by exact a1 n) (by rfl) M)⟩) r4
end
theorem MH {a b:Vr} (h:vrv a=vrv b):a=b:=by
 obtain⟨a1,a2⟩:=a;obtain⟨b1,b2⟩:=b;simp only[vrv,AV.agg.injEq,List.cons.injEq,AV.str.injEq,AV.int.injEq,true_and,and_true]at h;obtain⟨rfl,rfl⟩:=h;rfl
theorem nW: ∀{a b:List Vr},a.map vrv=b.map vrv->a=b
 |[],[],_=>rfl
 |[],_::_,h=>by simp at h
 |_::_,[],h=>by simp at h
 |x::a,y::b,h=>by simp at h;rw[MH h.1,nW h.2]
theorem xF {a b:Mc} (h:mcv a=mcv b):a=b:=by
 obtain⟨a1,a2,a3⟩:=a;obtain⟨b1,b2,b3⟩:=b;simp only[mcv,mcc,AV.agg.injEq,List.cons.injEq,AV.str.injEq,AV.slc.injEq,true_and]at h;obtain⟨rfl,h2,h3⟩:=h;have:av a3=av b3:=by rw[jH,jH,h3]
 rw[nW h2,nL this]
theorem nX: ∀{a b:List Mc},a.map mcv=b.map mcv->a=b
 |[],[],_=>rfl
 |[],_::_,h=>by simp at h
 |_::_,[],h=>by simp at h
 |x::a,y::b,h=>by simp at h;rw[xF h.1,nX h.2]
theorem Cl {a b:Qn} (h:qsv a=qsv b):a=b:=by
 obtain⟨a1,a2⟩:=a;obtain⟨b1,b2⟩:=b;rw[<-rA,<-rA]at h;simp only[AV.agg.injEq,List.cons.injEq,AV.slc.injEq,true_and]at h;have:av a2=av b2:=by rw[jH,jH,h.2]
 rw[nW h.1,nL this]
abbrev eM (m:Mc):List AV:=[mcv m]
abbrev eQ (q:Qn):List AV:=[qsv q]
theorem rC (a b:Mc) (h:eM a=eM b):a=b:=xF (by simpa[eM] using h)
theorem Cm (a b:Qn) (h:eQ a=eQ b):a=b:=Cl (by simpa[eQ] using h)
structure OkM (m:Mc):Prop where
 nm:m.nm.length<big
 ps:m.ps.length<big
 vs: ∀v∈m.ps,v.nm.length<big
 bd:bk m.bd<=big
structure OkQ (q:Qn):Prop where
 fr:q.fr.length<big
 vs: ∀v∈q.fr,v.nm.length<big
 bd:bk q.bd<=big
theorem OkM.q {m:Mc} (h:OkM m):OkQ ⟨m.ps,m.bd⟩:=⟨h.ps,h.vs,h.bd⟩
abbrev eQ2 (q:Qn):List AV:=[qsv q,qsv q]
theorem MI (a b:Qn) (h:eQ2 a=eQ2 b):a=b:=Cl (by simp[eQ2]at h;exact h)
def eW2 (w:List Mc):List AV:=[.slc .shared (w.map mcv),.slc .shared (w.map mcv)]
theorem MJ (a b:List Mc) (h:eW2 a=eW2 b):a=b:=by
 simp only[eW2,List.cons.injEq,AV.slc.injEq,true_and,and_true]at h;exact nX h.1
def eWS (p:List Mc×Str):List AV:=[.slc .shared (p.1.map mcv),.str p.2]
theorem xG (a b:List Mc×Str) (h:eWS a=eWS b):a=b:=by
 simp only[eWS,List.cons.injEq,AV.slc.injEq,AV.str.injEq,true_and,and_true]at h;exact Prod.ext (nX h.1) h.2
def eVS (p:List Vr×Str):List AV:=[.slc .shared (p.1.map vrv),.str p.2]
theorem xH (a b:List Vr×Str) (h:eVS a=eVS b):a=b:=by
 simp only[eVS,List.cons.injEq,AV.slc.injEq,AV.str.injEq,true_and,and_true]at h;exact Prod.ext (nW h.1) h.2
section
variable {t:Nat}
theorem MK {l:List (Nat×(List AV->dC))} (h:Has l 70 (it 74 2)) (vs:List Vr) (hb:vs.length<big) (M:Mem):spC (dg l) 70 [.slc .shared (vs.map vrv)] M=pW vs M:=by
 unfold big at hb;cases vs with
 |nil=>
  have e:dg l 70 [.slc .shared []]=some (.slc .full [],none):=by rw[h.eq];rfl
  simp[spC,pW,e]
 |cons v vs=>
  have b1:(vs.length+1)*4096<=140737488355328:=by simp at hb;omega
  have e:dg l 70 [.slc .shared ((v::vs).map vrv)]=some (.slc .shared ((v::vs).map vrv),some (.app (vs.length+1) 74 2)):=by
   rw[h.eq];simp[it,b1]
  simp only[List.map_cons]at e;simp[spC,pW,e]
noncomputable abbrev N1:List (Nat×(List AV->dC)):=(42,spR eM (fun m=>(mcv m,none)) OkM)::(13,spR eM (fun m=>(mcv m,none)) OkM)::(100,spR eQ (fun q=>(qsv q,none)) OkQ)::(25,spR eQ (fun q=>(qsv q,none)) OkQ)::(41,spR eM (fun m=>(mcv m,none)) OkM)::R5
theorem aM (m:Mc):eh [mcv m]=some (eM m):=by simp[eM]
theorem aQ (q:Qn):eh [qsv q]=some (eQ q):=by simp[eQ]
theorem kn1:dP Tryz.prog (GG t) (dg N1):=by
 refine ek _ _ _ IZ (fun m h=>⟨1,Mx m fun M=>du Cm ⟨m.ps,m.bd⟩ (by repeat first|exact .here|refine .there ?_ rfl) (by exact h.q) (by exact aQ _) (by rfl) M⟩) ?_;refine ek _ _ _ IG (fun m h=>⟨1,Mw m fun M=>du Cm ⟨m.ps,m.bd⟩ (by repeat first|exact .here|refine .there ?_ rfl) (by exact h.q) (by exact aQ _) (by rfl) M⟩) ?_;refine ek _ _ _ Jo (fun q h=>⟨q.fr.length+1,Mv q h.fr (Nat.lt_succ_self _) fun M=>du eO q.bd (by repeat first|exact .here|refine .there ?_ rfl) (by exact h.bd) (by exact a1 _) (by rfl) M⟩) ?_;refine ek _ _ _ IP (fun q h=>⟨q.fr.length+1,Mu q h.fr (Nat.lt_succ_self _) fun M=>du eO q.bd (by repeat first|exact .here|refine .there ?_ rfl) (by exact h.bd) (by exact a1 _) (by rfl) M⟩) ?_;exact ek _ _ _ IY (fun m h=>⟨1,My m (fun M=>MK (by repeat first|exact .here|refine .there ?_ rfl) m.ps h.ps M) fun M=>du eO m.bd (by repeat first|exact .here|refine .there ?_ rfl) (by exact h.bd) (by exact a1 _) (by rfl) M⟩) r5
noncomputable abbrev N2:List (Nat×(List AV->dC)):=(43,spR eW2 (fun w=>(.bool true,none)) (fun w=>w.length<big/\ ∀m∈w,OkM m))::(101,spR eQ2 (fun q=>(.bool true,none)) OkQ)::N1
theorem kn2:dP Tryz.prog (GG t) (dg N2):=by
 refine ek _ _ _ I0 (fun w h=>⟨w.length+1,MA w h.1 (Nat.lt_succ_self _) fun m hm M=>du MI ⟨m.ps,m.bd⟩ (by repeat first|exact .here|refine .there ?_ rfl) (by exact(h.2 m hm).q) (by simp[eQ2]) (by rfl) M⟩) ?_;exact ek _ _ _ Jp (fun q h=>⟨q.fr.length+1,Mz q h.fr (Nat.lt_succ_self _) fun M=>du Cj (q.bd,q.bd) (by repeat first|exact .here|refine .there ?_ rfl) (by exact⟨h.bd,h.bd⟩) (by exact a2 _ _) (by
  have:iP q.bd q.bd=true:=(A8 _ _).2 rfl;simp only[this]) M⟩) kn1
noncomputable abbrev N3:List (Nat×(List AV->dC)):=(98,spR (fun s:Str=>[.str s]) (fun s=>(lkv [] s,none)) (fun _=>True))::(96,sNd (fun n=>.bool (n.op==16||n.op==17)) fun _=>True)::(33,spR eVS (fun p=>(.int .i64 (mns p.1 p.2),none)) (fun p=>p.1.length<big))::(16,spR eWS (fun p=>(.int .i64 (fix p.1 p.2),none)) (fun p=>p.1.length<big))::N2
theorem kn3:dP Tryz.prog (GG t) (dg N3):=by
 refine ek _ _ _ Jm (fun s h=>⟨1,LU s⟩) ?_;refine ek _ _ _ Jl (fun n h=>⟨1,L3 n⟩) ?_;refine ek _ _ _ IR (fun p h=>⟨p.1.length+1,Iu p.1 .shared p.2 h (Nat.lt_succ_self _)⟩) ?_;exact ek _ _ _ IH (fun p h=>⟨p.1.length+1,Ir p.1 p.2 h (Nat.lt_succ_self _)⟩) kn2
theorem aWS (p:List Mc×Str) (sp:Sp) (h:sp≠ .full):eh [.slc sp (p.1.map mcv),.str p.2]=some (eWS p):=by cases sp<;>simp_all [eWS]
def eCl (p:List Mc×Nd×List Vr):List AV:=[.slc .shared (p.1.map mcv),av p.2.1,.slc .shared (p.2.2.map vrv)]
theorem ML (a b:List Mc×Nd×List Vr) (h:eCl a=eCl b):a=b:=by
 simp only[eCl,List.cons.injEq,AV.slc.injEq,true_and,and_true]at h;exact Prod.ext (nX h.1) (Prod.ext (nL h.2.1) (nW h.2.2))
noncomputable abbrev N4:List (Nat×(List AV->dC)):=(89,spR eCl (fun p=>(.int .i64 (iA p.1 p.2.1.ns p.2.2),none)) (fun p=>p.2.1.ns≠[]/\p.1.length<big/\p.2.2.length<big/\bk p.2.1<=big))::N3
theorem kn4:dP Tryz.prog (GG t) (dg N4):=by
 refine ek _ _ _ Jh (fun p h=>⟨bk p.2.1+1,?_⟩) kn3;obtain⟨w,n,env⟩:=p;obtain⟨h1,h2,h3,h4⟩:=h;simp only at h1 h2 h3 h4;have hnl:=jI n;refine Iw w n env h1 (by omega) (xE n) (fun x _ M=>?_) (fun x _ M=>?_)
 ·exact du xG (w,x) (by repeat first|exact .here|refine .there ?_ rfl) (by exact h2) (by exact rfl) (by rfl) M
 ·exact du xH (env,x) (by repeat first|exact .here|refine .there ?_ rfl) (by exact h3) (by exact rfl) (by rfl) M
structure Wk where
 w:List Mc
 n:Nd
 env:List Vr
 all:Bool
def eWk (p:Wk):List AV:=[.slc .shared (p.w.map mcv),av p.n,.slc .shared (p.env.map vrv),.bool p.all]
theorem Cn (a b:Wk) (h:eWk a=eWk b):a=b:=by
 obtain⟨a1,a2,a3,a4⟩:=a;obtain⟨b1,b2,b3,b4⟩:=b;simp only[eWk,List.cons.injEq,AV.slc.injEq,AV.bool.injEq,true_and,and_true]at h;obtain⟨h1,h2,h3,rfl⟩:=h;rw[nX h1,nL h2,nW h3]
structure MM (p:Wk):Prop where
 vd:ndE p.n=0
 bk:bk p.n<=big
 env:p.env.length+dp p.n<big
 w:p.w.length<big
theorem uy {n:Nd} (h:ndE n=0):n.op=10\/15<n.op->n.ns≠[]:=by
 intro ho;cases lz h with
 |cst op h=>simp[nd,Nd.op]at ho;omega
 |two op x y h=>simp[Nd.op]at ho;omega
 |lab=>simp[Nd.op]at ho
 |smd=>simp[Nd.op]at ho
 |sng=>simp[Nd.op]at ho
 |cal=>simp[Nd.ns]
 |not=>simp[nd,Nd.op]at ho
 |bin op a b h=>simp[nd,Nd.op]at ho;omega
 |qnt op x so a h=>simp[qn,Nd.ns]
theorem MN {n:Nd} (h:ndE n=0) (ho:n.op=10):n.l=[]:=by
 cases lz h with
 |cst op h=>simp[nd,Nd.l]
 |two op x y h=>simp[Nd.l]
 |lab=>simp[Nd.l]
 |smd=>simp[Nd.l]
 |sng=>simp[Nd.l]
 |cal=>simp[Nd.l]
 |not=>simp[nd,Nd.op]at ho
 |bin op a b h=>simp[nd,Nd.op]at ho;omega
 |qnt op x so a h=>simp[qn,Nd.op]at ho;omega
theorem Co (n:Nd) (env:List Vr):(inn n env).length<=env.length+1:=by unfold inn;split<;>simp
theorem Cp {x:Nd}: ∀{l:List Nd},x∈l->dp x<=dpL l
 |[],h=>by simp at h
 |y::ys,h=>by
  rcases List.mem_cons.1 h with rfl|h
  ·simp[dpL];omega
  ·have:=Cp h;simp[dpL];omega
theorem uz {n x:Nd} (h:x∈n.l):dp x+1<=dp n:=by
 have:=Cp h;have:=oV n;omega
noncomputable abbrev N5:List (Nat×(List AV->dC)):=(35,spR eWk (fun p=>(.int .i64 (wlk p.w p.all p.n p.env),none)) MM)::N4
theorem kn5:dP Tryz.prog (GG t) (dg N5):=by
 refine nK _ _ _ (fun p=>sz p.n) Cn IU ?_ kn4;intro p h orc hself hother;obtain⟨w,n,env,all⟩:=p;obtain⟨hv,hb,he,hw⟩:=h;simp only at hv hb he hw;have hnl:=jI n;have hll:=iy n;refine⟨bk n+1,IA w all n env (by omega) (xE n) (by omega) (mo n) (by omega) ⟨uy hv,fun x hx b M=>?_,fun h10 M=>?_,fun x hx M=>?_⟩⟩
 ·have hd:=uz hx;have hi:=Co n env;have k:=hself ⟨w,x,inn n env,all⟩ ⟨mf hv hx,by have:=ig hx;show bk x<=big;omega,by show(inn n env).length+dp x<big;omega,hw⟩ (ko hx);unfold spC;have ha:eh [.slc .shared (w.map mcv),av x,.slc (spO b) ((inn n env).map vrv),.bool all]=some (eWk ⟨w,x,inn n env,all⟩):=by cases b<;>simp[spO,eWk]
  rw[ha];simp only[k,xC]
 ·rw[pX (hother 89 (by decide))];exact du ML (w,n,env) (by repeat first|exact .here|refine .there ?_ rfl) (by exact⟨uy hv (.inl h10),hw,by show env.length<big;omega,hb⟩) (by simp[eCl]) (by rfl) M
 ·rw[pX (hother 33 (by decide))];exact du xH (env,x) (by repeat first|exact .here|refine .there ?_ rfl) (by show env.length<big;omega) (by simp[eVS]) (by rfl) M
def eMy (p:List Mc×Mc):List AV:=[.slc .shared (p.1.map mcv),mcv p.2]
theorem Cq (a b:List Mc×Mc) (h:eMy a=eMy b):a=b:=by
 simp only[eMy,List.cons.injEq,AV.slc.injEq,true_and,and_true]at h;exact Prod.ext (nX h.1) (xF h.2)
theorem rD {ps:List Vr} (h:fu ps=0):ps.length<=6:=by
 unfold fu at h;split at h
 ·cases h
 ·omega
theorem uA {n:Nd} (h:chk n=0):ndE n=0:=by
 unfold chk at h;split at h
 ·assumption
 ·assumption
theorem xI {n:Nd} (h:chk n=0):sz n<=4096/\dp n<=256:=by
 unfold chk at h;split at h
 ·unfold grt at h;split at h
  ·cases h
  ·split at h
   ·cases h
   ·omega
 ·contradiction
noncomputable abbrev N6:List (Nat×(List AV->dC)):=(11,spR eMy (fun p=>(.int .i64 (may p.1 p.2),none)) (fun p=>p.1.length<big/\OkM p.2))::N5
theorem kn6:dP Tryz.prog (GG t) (dg N6):=by
 refine ek _ _ _ IE (fun p h=>⟨7,?_⟩) kn5;obtain⟨w,m⟩:=p;obtain⟨hw,hm⟩:=h;simp only at hw hm;refine ME w m hm.ps (by omega) ⟨fun M=>?_,fun v hv M=>?_,fun M=>?_,fun i v M hv=>?_,fun M=>?_,fun h1 h2 M=>?_⟩
 ·exact du fS m.nm (by repeat first|exact .here|refine .there ?_ rfl) (by exact hm.nm) (by rfl) (by rfl) M
 ·exact du fS v.nm (by repeat first|exact .here|refine .there ?_ rfl) (by exact hm.vs v hv) (by rfl) (by rfl) M
 ·exact du xG (w,m.nm) (by repeat first|exact .here|refine .there ?_ rfl) (by exact hw) (by rfl) (by rfl) M
 ·exact du xH (m.ps.take i,v.nm) (by repeat first|exact .here|refine .there ?_ rfl) (by have:=hm.ps;simp;omega) (by rfl) (by rfl) M
 ·exact du eO m.bd (by repeat first|exact .here|refine .there ?_ rfl) (by exact hm.bd) (by exact a1 _) (by rfl) M
 ·have hd:=(xI h1).2;exact du Cn ⟨w,m.bd,m.ps,true⟩ (by repeat first|exact .here|refine .there ?_ rfl) (by
   have:=rD h2;exact⟨uA h1,hm.bd,by show m.ps.length+dp m.bd<big;unfold big;omega,hw⟩) (by simp[eWk]) (by rfl) M
end
theorem dG {G:Gls} {orc:Nat->List AV->dC} {N k f:Nat} {ags:List AV} {cf:CFn} (h1:dL orc f ags=none) (hf:fns f=some cf) (hm:lp f=false) (hp:(cf.pure&&(eh ags).isSome)=false) (M:Mem):
  BW G orc N (k+1) f ags M=dr G false (BW G orc N k) (YW G orc N k) N cf ags M:=by
 rw[Cg h1 hf hm,hp];simp
theorem xJ {f p o:Nat} (sp:Sp) (es:List AV):eh [.slc sp es,.fn f [] [.ptr p o]]=none:=by cases sp<;>rfl
def eW1 (w:List Mc):List AV:=[.slc .shared (w.map mcv)]
theorem xK (a b:List Mc) (h:eW1 a=eW1 b):a=b:=by
 simp only[eW1,List.cons.injEq,AV.slc.injEq,true_and,and_true]at h;exact nX h
noncomputable abbrev N6b:List (Nat×(List AV->dC)):=(8,spR eW1 (fun l=>(.bool (sme l),none)) (fun l=> ∀m∈l,OkM m))::(9,spR (fun _:Unit=>[]) (fun _=>(.bool true,none)) (fun _=>True))::N6
theorem Cr {t:Nat}:dP Tryz.prog (GG t) (dg N6b):=by
 refine ek _ _ _ ok8 (fun l h=>⟨7,ev8 l (by omega) fun m hm M=>du eO m.bd (by repeat first|exact .here|refine .there ?_ rfl) (by exact(h m hm).bd) (by exact a1 _) (by rfl) M⟩) ?_;refine fl kn6 fun ags r hr=>?_;obtain⟨s,rfl,-,rfl⟩:=gy hr;exact Ka
section
variable {t:Nat} {N:Nat}
noncomputable abbrev BN (t N k:Nat):a7:=BW (GG t) (dg N6b) N k
theorem k92 {k:Nat} {O:List Obj} {R:List Arr} {p:Nat} {v:Vr} (hp:O[p]? =some (.cells (vrc v))) (o:Vr) (X:List Obj):
  BN t N (k+1) 92 [vrv o,.ptr p 0] ⟨O++X,R⟩=some (.bool (o.nm==v.nm),⟨O++X++[.cells (vrc o)],R⟩):=by
 rw[BN,dG (cf:=c92) (by unfold dL;split<;>rfl) rfl rfl rfl];exact Ma o (dD hp X)
theorem k91 {k:Nat} {O:List Obj} {R:List Arr} {p:Nat} {v:Vr} (hp:O[p]? =some (.cells (vrc v))) (l:List Vr) (hb:l.length<big) (hN:l.length<N):
  Gr (BN t N (k+3) 91 [.slc .shared (l.map vrv),.fn 92 [] [.ptr p 0]] ⟨O,R⟩) (.bool (l.any (fun o=>o.nm==v.nm))) O R:=by
 rw[BN,dG (cf:=c91) (by unfold dL;split<;>rfl) rfl rfl (by rw[xJ];rfl)];refine Mg l v ?_;rw[dG (cf:=qX) (by unfold dL;split<;>rfl) rfl rfl (by rw[xJ];rfl)];exact Me l v hp hb hN fun o X=>k92 hp o X
def eVs (l:List Vr):List AV:=[.slc .shared (l.map vrv)]
theorem xL (a b:List Vr) (h:eVs a=eVs b):a=b:=by
 simp only[eVs,List.cons.injEq,AV.slc.injEq,true_and,and_true]at h;exact nW h
noncomputable abbrev xM:List AV->dC:=spR eVs (fun l=>(.int .i64 (fu l),none)) (fun l=>l.length<big)
theorem o37:dP Tryz.prog (GG t) (dg ((37,xM)::N6b)):=by
 refine ml _ _ _ IW (fun l h=>⟨l.length+1,4,?_⟩) Cr;refine Mi l h (Nat.lt_succ_self _) (fun v hv M=>?_) (fun l' v X hl=>?_)
 ·exact dS (du fS v.nm (by repeat first|exact .here|refine .there ?_ rfl) (by exact trivial) (by rfl) (by rfl) M)
 ·have hp:(X++[Obj.cells (vrc v)])[X.length]? =some (.cells (vrc v)):=by simp
  have h1:l'.length<big:=by omega
  have h2:l'.length<l.length+1:=by omega
  have h3:=k91 (t:=t) (k:=1) (N:=l.length+1) (O:=X++[.cells (vrc v)]) (R:=[]) (p:=X.length) (v:=v) hp l' h1 h2;exact h3
end
noncomputable abbrev N7:List (Nat×(List AV->dC)):=(37,xM)::N6b
section
variable {t:Nat} {N:Nat}
noncomputable abbrev BP (t N k:Nat):a7:=BW (GG t) (dg N7) N k
noncomputable abbrev YP (t N k:Nat):=YW (GG t) (dg N7) N k
theorem p97 {k:Nat} {O:List Obj} {R:List Arr} {c:AV} (v:Vr) (hc:cells c=some [c]):
  BP t N (k+1) 97 [c,vrv v] ⟨O,R⟩=some (.fn 158 [] [.ptr (O.length+1) 0,.ptr O.length 0],⟨O++[.cells [c],.cells (vrc v)],R⟩):=by
 rw[BP,dG (cf:=c97) (by unfold dL;split<;>rfl) rfl rfl rfl];exact LQ hc
theorem Cs {O:List Obj} {c:AV} {env:List Vr} (h:Sc O c env): ∀k,env.length<k->pT (BP t N k) O c env:=by
 induction h with
 |nil=>
  intro k hk;obtain⟨k,rfl⟩:=Nat.exists_eq_succ_of_ne_zero (n:=k) (by omega);refine⟨98,[],rfl,fun x X R=>?_⟩;refine dS (du fS x (by repeat first|exact .here|refine .there ?_ rfl) (by exact trivial) (by rfl) ?_ _);rfl
 |snoc h hi hj ih=>
  rename_i c env v i j
  intro k hk;obtain⟨k,rfl⟩:=Nat.exists_eq_succ_of_ne_zero (n:=k) (by omega);refine⟨158,_,rfl,fun x X R=>?_⟩;rw[BP,dG (cf:=nw) (by unfold dL;split<;>rfl) rfl rfl rfl];rw[LP];cases hv:v.nm==x with
  |true=>
   rw[if_pos rfl];exact LR (c:=c) x (dD hi X) hv
  |false=>
   rw[if_neg (by simp)];obtain⟨f,cap,rfl,hl⟩:=ih k (by simp at hk;omega);exact LS x (dD hi X) (dD hj X) hv (hl x X R)
theorem p45 {k:Nat} {O:List Obj} {R:List Arr} {p:Nat} {x:Str} (hp:O[p]? =some (.cells [.str x])) (m:Mc) (X:List Obj):
  BP t N (k+1) 45 [mcv m,.ptr p 0] ⟨O++X,R⟩=some (.bool (m.nm==x),⟨O++X++[.cells (mcc m)],R⟩):=by
 rw[BP,dG (cf:=c45) (by unfold dL;split<;>rfl) rfl rfl (by rfl)];exact LV m (dD hp X)
theorem p15 {k:Nat} {O:List Obj} {R:List Arr} {id:Nat} {a:Option Nat} {w:List Mc} (hs:dQ O R id a w) (hb:w.length<big) (hN:w.length<N) (hm: ∀d∈w,OkM d) (x:Str):
  Gr (BP t N (k+3) 15 [.ptr id 0,.str x] ⟨O,R⟩) (lup w x) O R:=by
 rw[BP,dG (cf:=c15) (by unfold dL;split<;>rfl) rfl rfl rfl];refine LY w x hs (fun sp X p hp=>?_) (fun d hd M=>?_)
 ·rw[dG (cf:=c44) (by unfold dL;split<;>rfl) rfl rfl (by rw[xJ];rfl)];exact LX w sp x hp hb hN fun m Y=>p45 hp m Y
 ·exact dS (du rC d (by repeat first|exact .here|refine .there ?_ rfl) (by exact hm d hd) (by exact aM d) (by rfl) M)
theorem p95 {k:Nat} {O:List Obj} {R:List Arr} {id:Nat} {a:Option Nat} {w:List Mc} (hs:dQ O R id a w) (hb:w.length<big) (hN:w.length<N) (hm: ∀d∈w,OkM d) (n:Nd) (env:List Vr) {c:AV} (hc:Sc O c env) (he: ∀v∈env,0<=v.so) (hk:env.length<k+3) (hne:n.ns≠[]) (hnb:n.ns.length<big) (hnN:n.ns.length<N):
  Gr (BP t N (k+4) 95 [.ptr id 0,av n,c] ⟨O,R⟩) (.int .i64 (iA w n.ns env)) O R:=by
 obtain⟨f,cap,rfl⟩:=hc.fn;rw[BP,dG (cf:=c95) (by unfold dL;split<;>rfl) rfl rfl rfl];exact L2 w n env he hne hnb hnN (fun x _ X=>p15 (hs.growO X) hb hN hm x) (Cs hc _ hk)
theorem MO {n:Nd} (hv:ndE n=0) {env:List Vr} (he: ∀v∈env,0<=v.so): ∀v∈inn n env,0<=v.so:=by
 unfold inn;split
 ·rename_i h15
  intro v hv';rcases List.mem_append.1 hv' with h|h
  ·exact he v h
  ·simp at h;subst h;cases lz hv with
   |qnt op x so a ho hx hs ha=>exact hs.1
   |cst op h=>simp[nd,Nd.op]at h15;omega
   |two op x y h=>simp[Nd.op]at h15;omega
   |lab=>simp[Nd.op]at h15
   |smd=>simp[Nd.op]at h15
   |sng=>simp[Nd.op]at h15
   |cal=>simp[Nd.op]at h15
   |not=>simp[nd,Nd.op]at h15
   |bin op a b h=>simp[nd,Nd.op]at h15;omega
 ·exact he
theorem p39 {w:List Mc} (hb:w.length<big) (hN:w.length<N) (hm: ∀d∈w,OkM d) (all:Bool): ∀(sn:Nat) (n:Nd),sz n<=sn->ndE n=0->bk n<=big->bk n<N-> ∀(env:List Vr),(∀v∈env,0<=v.so)->
  ∀(k:Nat) (O:List Obj) (R:List Arr) (id:Nat) (a:Option Nat) (c:AV),dQ O R id a w->Sc O c env->env.length+2*dp n+4<k->
   Gr (BP t N k 39 [.ptr id 0,av n,c,.bool all] ⟨O,R⟩) (.int .i64 (wlk w all n env)) O R:=by
 intro sn
 induction sn with
 |zero=>intro n h;have:=oU n;omega
 |succ sn ih=>
  intro n hsn hv hbn hbN env he k O R id a c hs hc hk;obtain⟨k,rfl⟩:=Nat.exists_eq_succ_of_ne_zero (n:=k) (by omega);have hnl:=jI n;have hll:=iy n;have hd1:1<=dp n:=by have:=oV n;omega
  obtain⟨f,cap,rfl⟩:=hc.fn;rw[BP,dG (cf:=c39) (by unfold dL;split<;>rfl) rfl rfl rfl];have hin:=Co n env;refine L7 w all n env he (by omega) (by omega) (by omega) (by omega) ⟨fun h=>uy hv (.inr h),MN hv,(lw.1 hv).op1,hc,fun X=>(Cs hc k (by omega)).grow X,?_,?_,?_,?_⟩
  ·intro x hx X c' hc';have hd:=uz hx;have:=ig hx;have:=ko hx;exact ih x (by omega) (mf hv hx) (by omega) (by omega) _ (MO hv he) k _ R id a c' (hs.growO X) hc' (by omega)
  ·intro h10 X;obtain⟨j,rfl⟩: ∃j,k=j+4:=⟨k - 4,by omega⟩
   exact p95 (hs.growO X) hb hN hm n env (hc.grow X) he (by omega) (uy hv (.inl h10)) (by omega) (by omega)
  ·intro M;obtain⟨j,rfl⟩: ∃j,k=j+1:=⟨k - 1,by omega⟩
   exact dS (du eO n (by repeat first|exact .here|refine .there ?_ rfl) (by exact trivial) (by exact a1 n) (by rfl) M)
  ·intro v X;obtain⟨j,rfl⟩: ∃j,k=j+1:=⟨k - 1,by omega⟩
   exact p97 v rfl
theorem p40 {k:Nat} {O:List Obj} {R:List Arr} (sp:Sp) (ps:List Vr) (hb:ps.length<big) (hN:ps.length<N):
  ∃c X,BP t N (k+2) 40 [.slc sp (ps.map vrv)] ⟨O,R⟩=some (c,⟨O++X,R⟩)/\Sc (O++X) c ps:=by
 rw[BP,dG (cf:=c40) (by unfold dL;split<;>rfl) rfl rfl rfl];exact L9 sp ps hb hN fun c v X hc=>p97 v hc
theorem xN {k:Nat} {O:List Obj} {R:List Arr} {id:Nat} {a:Option Nat} {w:List Mc} (hs:dQ O R id a w) (hb:w.length<big) (hN:w.length<N) (hm: ∀d∈w,OkM d) (m:Mc) (hmm:OkM m) (hmN:bk m.bd<N) (hpN:m.ps.length<N):xB (BP t N (k+600)) w m id O R where
 h15:=fun X=>p15 (k:=k+597) (hs.growO X) hb hN hm m.nm
 h36:=fun M=>dS (k:=k+599) (du fS m.nm (by repeat first|exact .here|refine .there ?_ rfl) (by exact trivial) (by rfl) (by rfl) M)
 h37:=fun M=>dS (k:=k+599) (du xL m.ps (by repeat first|exact .here|refine .there ?_ rfl) (by exact hmm.ps) (by rfl) (by rfl) M)
 h38:=fun M=>dS (k:=k+599) (du eO m.bd (by repeat first|exact .here|refine .there ?_ rfl) (by exact hmm.bd) (by exact a1 _) (by rfl) M)
 h40:=fun X=>p40 (k:=k+598) .shared m.ps hmm.ps hpN
 h39:=fun h1 h2 X c hc=>by
  have hd:=(xI h1).2;have hp:=rD h2;exact p39 hb hN hm true _ m.bd (Nat.le_refl _) (uA h1) hmm.bd hmN m.ps (Ls h2) _ _ R id a c (hs.growO X) hc (by omega)
 h41:=fun M=>dS (k:=k+599) (du rC m (by repeat first|exact .here|refine .there ?_ rfl) (by exact hmm) (by exact aM m) (by rfl) M)
theorem p10 {k:Nat} (O:List Obj) (R:List Arr):BP t N (k+1) 10 [] ⟨O,R⟩=some (.ptr O.length 0,⟨O++[.cells [.slc .full []]],R⟩):=by
 rw[BP,dG (cf:=c10) (by unfold dL;split<;>rfl) rfl rfl rfl];simp -implicitDefEqProofs [c10]
theorem MP {k:Nat} {O:List Obj} {R:List Arr} {id:Nat} {a:Option Nat} {w:List Mc} (hs:dQ O R id a w) (hb:w.length<big) (hN:w.length<N) (hm: ∀d∈w,OkM d) (m:Mc) (hmm:OkM m) (hmN:bk m.bd<N) (hpN:m.ps.length<N) (h:may w m≠0):
  Gr (BP t N (k+601) 12 [.ptr id 0,mcv m] ⟨O,R⟩) (.int .i64 (may w m)) O R:=by
 rw[BP,dG (cf:=c12) (by unfold dL;split<;>rfl) rfl rfl rfl];exact Mj w m hs (xN hs hb hN hm m hmm hmN hpN) h
theorem MQ {k:Nat} {O:List Obj} {R:List Arr} {id:Nat} {a:Option Nat} {w:List Mc} (hs:dQ O R id a w) (hb:w.length<big) (hN:w.length<N) (hm: ∀d∈w,OkM d) (m:Mc) (hmm:OkM m) (hmN:bk m.bd<N) (hpN:m.ps.length<N) (h:may w m=0):
  ∃O' R' a',BP t N (k+601) 12 [.ptr id 0,mcv m] ⟨O,R⟩=some (.int .i64 0,⟨O',R'⟩)/\ry O R id a (w++[m]) O' R' a':=by
 rw[BP,dG (cf:=c12) (by unfold dL;split<;>rfl) rfl rfl rfl];exact Mk w m hs (xN hs hb hN hm m hmm hmN hpN) h
end
structure Gd (w:List Mc):Prop where
 len:w.length<=64
 dst:Dst w
 ok: ∀d∈w,OkM d
theorem Ct {w:List Mc} {d:Mc} (h:may w d=0):fnd w d.nm=none/\w.length<64:=by
 unfold may at h;split at h
 ·cases h
 ·split at h
  ·cases h
  ·split at h
   ·cases h
   ·rename_i h1 h2 h3
    refine⟨?_,by omega⟩;cases hf:fnd w d.nm with
    |none=>rfl
    |some x=>rw[hf]at h3;simp at h3
theorem MS (w:List Mc) (d:Mc) (x:Str):fnd (w++[d]) x=(fnd w x).or (if d.nm==x then some d else none):=by
 unfold fnd;rw[List.find?_append]
 congr 1
 simp only[List.find?_cons,List.find?_nil];cases d.nm==x<;>rfl
theorem Gd.snoc {w:List Mc} {d:Mc} (h:Gd w) (hm:may w d=0) (hd:OkM d):Gd (w++[d]):=by
 obtain⟨hn,hl⟩:=Ct hm;refine⟨by simp;omega,?_,?_⟩
 ·intro x hx;rw[MS];rcases List.mem_append.1 hx with hx|hx
  ·rw[h.dst x hx];rfl
  ·simp at hx;subst hx;rw[hn];simp
 ·intro x hx;rcases List.mem_append.1 hx with hx|hx
  ·exact h.ok x hx
  ·simp at hx;subst hx;exact hd
theorem uB:Gd []:=⟨by simp,by intro d h;simp at h,by intro d h;simp at h⟩
theorem dQ.setRow {O:List Obj} {R:List Arr} {id:Nat} {a:Option Nat} {w:List Mc} (h:dQ O R id a w) {b:Nat} (hb:a≠some b) (r:Arr):dQ O (R.set b r) id a w:=by
 cases h with
 |nil h=>exact .nil h
 |own h hr=>
  refine .own h ?_;rw[List.getElem?_set_ne (by intro e;exact hb (by rw[e]))];exact hr
theorem MT {w:List Mc} (h:Dst w) {d:Mc} (hd:d∈w):lup w d.nm=.tup [mcv d,.bool true]:=by unfold lup;rw[h d hd]
def nob:Str:=[110,111,98,111,100,121]
theorem MU (w:List Mc) (x:Str):decide (0<=fix w x)=(fnd w x).isSome:=by
 have:=uf (w:=w) (x:=x);cases h:fnd w x with
 |none=>
  have:=this.2 h;simp;omega
 |some d=>
  obtain⟨j,hj,-⟩:=ug h;rw[hj];simp
structure Cs3 (cl:a7) (l:List Mc):Prop where
 h8: ∀M,cl 8 [.slc .shared (l.map mcv)] M=some (.bool (sme l),M)
 h9: ∀M,cl 9 [] M=some (.bool true,M)
 h10: ∀O R,cl 10 [] ⟨O,R⟩=some (.ptr O.length 0,⟨O++[.cells [.slc .full []]],R⟩)
 h11: ∀w d sp M,Gd w->d∈l->sp≠ .full->cl 11 [.slc sp (w.map mcv),mcv d] M=some (.int .i64 (may w d),M)
 h13: ∀d∈l,∀M,cl 13 [mcv d] M=some (mcv d,M)
 h12y: ∀w d O R id a,dQ O R id a w->Gd w->d∈l->may w d=0-> ∃O' R' a',cl 12 [.ptr id 0,mcv d] ⟨O,R⟩=some (.int .i64 0,⟨O',R'⟩)/\ry O R id a (w++[d]) O' R' a'
 h12n: ∀w d O R id a,dQ O R id a w->Gd w->d∈l->may w d≠0->Gr (cl 12 [.ptr id 0,mcv d] ⟨O,R⟩) (.int .i64 (may w d)) O R
 h14: ∀w O R id a sw,dQ O R id a w->Gd w->sw≠ .full->Gw (cl 14 [.ptr id 0,.slc sw (w.map mcv)] ⟨O,R⟩) (.bool true) O R
 h15: ∀w O R id a x,dQ O R id a w->Gd w->Gr (cl 15 [.ptr id 0,.str x] ⟨O,R⟩) (lup w x) O R
 h16: ∀w x sp M,Gd w->sp≠ .full->cl 16 [.slc sp (w.map mcv),.str x] M=some (.int .i64 (fix w x),M)
section
variable {G:Gls} {cl:a7} {yl:a7} {N:Nat}
def S3 (l:List Mc) (i:Nat) (st:St):Prop:=
 ∃O R a w,st=⟨[(0,.slc .shared (l.map mcv)),(3,.ptr 0 0),(4,.slc (.own 0) (w.map mcv)),(5,.int .i64 (i:Int))],⟨O,R⟩,[]⟩/\dQ O R 0 a w/\R[0]? =some (dA w.length 34 8)/\a≠some 0/\Gd w
theorem MV (l:List Mc) (hl:l.length<=5) (hm: ∀d∈l,OkM d) (hN:6<N) (h:Cs3 cl l):
  ∃e s',dh false (a8 G false cl yl N oY) ⟨[0,3,4,5],[(4,none),(5,none)],true⟩ 1 1 N ⟨[(0,.slc .shared (l.map mcv)),(3,.ptr 0 0),(4,.slc (.own 0) []),(5,.int .i64 0)],⟨[.cells [.slc .full []]],[.app 0 0 0]⟩,[]⟩=some (e,s')/\e≠ .normal/\
   (e=.exit 0/\s'.mks=[]/\ ∃O R a w,s'.m=⟨O,R⟩/\look 3 s'.ts=.ptr 0 0/\look 4 s'.ts=.slc (.own 0) (w.map mcv)/\dQ O R 0 a w/\Gd w):=by
 obtain⟨h8,h9,h10,h11,h13,h12y,h12n,h14,h15,h16⟩:=h;refine(eN (mu:=false) (step:=a8 G false cl yl N oY) (an:=⟨[0,3,4,5],[(4,none),(5,none)],true⟩) (k:=1) (m:=1) (N:=N) l (fun _=>(none:Option Unit)) (S3 l)
  (fun r e s'=>e=.exit 0/\s'.mks=[]/\ ∃O R a w,s'.m=⟨O,R⟩/\look 3 s'.ts=.ptr 0 0/\look 4 s'.ts=.slc (.own 0) (w.map mcv)/\dQ O R 0 a w/\Gd w) (by omega) ⟨[.cells [.slc .full []]],[.app 0 0 0],none,[],rfl,.nil rfl,rfl,by simp,uB⟩ ?_ ?_)
 ·rintro i d st hx hi ⟨O,R,a,w,rfl,hs,hr,ha,hg⟩;have hx':=(List.getElem?_eq_some_iff.1 hx).2;have hd:=fR hx;have w1:=dF (i:=i) (by omega);have k11:=fun M=>h11 w d (.own 0) M hg hd (by simp);have k13:=h13 d hd;by_cases hc:may w d=0
  ·obtain⟨O',R',a',k12,hA⟩:=h12y w d O R 0 a hs hg hd hc;rw[hc]at k11;have hr':R'[0]? =some (dA w.length 34 8):=hA.row 0 _ (fun e=>ha e.symm) hr;have hRlen:0<R.length:=(List.getElem?_eq_some_iff.1 hr).1;have ha':a'≠some 0:=by
    rcases hA.own with e|⟨-,k,hk,e⟩
    ·rw[e];exact ha
    ·rw[e];exact fun hh=>by have:=Option.some.inj hh;omega
   have hg':=hg.snoc hc (hm d hd);obtain⟨X,Y,k14⟩:=h14 (w++[d]) O' (R'.set 0 (.app (w.length+1) 34 8)) 0 a' (.own 0) (hA.set.setRow ha' _) hg' (by simp);have hq:(w.length+1)*120<=140737488355328:=by have:=hg.len;omega
   have hq2:w.length+1<=140737488355328:=by have:=hg.len;omega
   have hz:=nT w;have hz1:=nS d [];simp -implicitDefEqProofs at k14;have hrr:w=[]\/ ¬w=[]:=Decidable.em _;simp only[dA]at hr';have fin:S3 l (i+1) ⟨[(0,.slc .shared (l.map mcv)),(3,.ptr 0 0),(4,.slc (.own 0) (w.map mcv++[mcv d])),(5,.int .i64 ((i+1:Nat):Int))],⟨O'++X,R'.set 0 (.app (w.length+1) 34 8)++Y⟩,[]⟩:=by
    refine⟨O'++X,R'.set 0 (.app (w.length+1) 34 8)++Y,a',w++[d],by simp,(hA.set.setRow ha' _).grow X Y,?_,ha',hg'⟩;refine dD ?_ _;have:0<R'.length:=(List.getElem?_eq_some_iff.1 hr').1;simp[dA,this]
   simp -implicitDefEqProofs [oY,hi,hx',w1,k11,k13,k12,hr',hq,hq2,hz,hz1,hrr,k14];simpa using fin
  ·obtain⟨X,k12⟩:=h12n w d O R 0 a hs hg hd hc;obtain⟨X',Y,k14⟩:=h14 w (O++X) R 0 a (.own 0) (hs.growO X) hg (by simp);have hc':(may w d==0)=false:=by simp[hc]
   simp -implicitDefEqProofs at k14;have fin:S3 l (i+1) ⟨[(0,.slc .shared (l.map mcv)),(3,.ptr 0 0),(4,.slc (.own 0) (w.map mcv)),(5,.int .i64 ((i+1:Nat):Int))],⟨O++(X++X'),R++Y⟩,[]⟩:=by
    refine⟨O++(X++X'),R++Y,a,w,rfl,hs.grow _ Y,dD hr _,ha,hg⟩
   simp -implicitDefEqProofs [oY,hi,hx',w1,k11,k13,k12,hc',k14];simpa using fin
 ·rintro st ⟨O,R,a,w,rfl,hs,hr,ha,hg⟩;simp -implicitDefEqProofs [oY];exact⟨O,R,⟨rfl,rfl⟩,a,w,rfl,hs,hg⟩
theorem ev3 (l:List Mc) (hm: ∀d∈l,OkM d) (hN:6<N) (h:Cs3 cl l):dn G false cl yl N c3 [.slc .shared (l.map mcv)]=some (.bool true,none):=by
 have h':=h;obtain⟨h8,h9,h10,h11,h13,h12y,h12n,h14,h15,h16⟩:=h;cases hsm:sme l with
 |false=>
  rw[hsm]at h8;simp -implicitDefEqProofs [c3,h8,h9]
 |true=>
  rw[hsm]at h8;have hl:l.length<=5:=by
   unfold sme at hsm;simp at hsm;exact hsm.1
  obtain⟨e,⟨ts,M,mks⟩,k1,-,rfl,rfl,O,R,a,w,rfl,p3,p4,hs,hg⟩:=MV (G:=G) (yl:=yl) l hl hm hN h';obtain⟨X,k15⟩:=h15 w O R 0 a nob hs hg;obtain⟨dc,hdc,hlu⟩:=ru w nob;rw[hlu]at k15;have k16:=fun M=>h16 w nob (.own 0) M hg (by simp);have k10:=h10 [] [];have hge:=MU w nob;generalize(fnd w nob).isSome=b at*;generalize fix w nob=j at*;simp[nob]at k1 p3 p4 k15 k16 k10;cases b with
  |true=>
   have hj:0<=j:=of_decide_eq_true hge;simp -implicitDefEqProofs [c3,h8,h9,k10,k1,p3,p4,k15,hdc,k16,hj]
  |false=>
   have hj: ¬0<=j:=of_decide_eq_false hge;simp -implicitDefEqProofs [c3,h8,h9,k10,k1,p3,p4,k15,hdc,k16,hj]
end
section
variable {t:Nat} {N:Nat}
theorem Cu (sp:Sp) (h:sp≠ .full) (w:List Mc) (d:Mc):eh [.slc sp (w.map mcv),mcv d]=some (eMy (w,d)):=by cases sp<;>simp_all [eMy]
theorem p14 {k:Nat} {O:List Obj} {R:List Arr} {id:Nat} {a:Option Nat} {w:List Mc} (sw:Sp) (hsw:sw≠ .full) (hs:dQ O R id a w) (hg:Gd w) (hN:65<N):Gw (BP t N (k+4) 14 [.ptr id 0,.slc sw (w.map mcv)] ⟨O,R⟩) (.bool true) O R:=by
 have hlen:=hg.len;rw[BP,dG (cf:=c14) (by unfold dL;split<;>rfl) rfl rfl rfl];refine Mp w sw hsw ⟨?_,fun d hd X Y=>?_,fun d hd M=>?_,fun sp sp' M h1 h2=>?_⟩ (by unfold big;omega) (by omega)
 ·rw[dG (cf:=c28) (by unfold dL;split<;>rfl) rfl rfl rfl];exact Mm w hs (by unfold big;omega) (by omega)
 ·have:=p15 (t:=t) (N:=N) (k:=k) (hs.grow X Y) (by unfold big;omega) (by omega) hg.ok d.nm
  rwa [MT hg.dst hd]at this
 ·exact dS (du rC d (by repeat first|exact .here|refine .there ?_ rfl) (by exact hg.ok d hd) (by exact aM d) (by rfl) M)
 ·exact dS (du MJ w (by repeat first|exact .here|refine .there ?_ rfl) (by exact⟨by show w.length<big;unfold big;omega,hg.ok⟩) (by cases sp<;>cases sp'<;>simp_all [eW2]) (by rfl) M)
theorem cs3 (l:List Mc) (hm: ∀d∈l,OkM d) (hN:65<N) (hbN: ∀d∈l,bk d.bd<N/\d.ps.length<N):Cs3 (BP t N 1000) l where
 h8:=fun M=>dS (k:=999) (du xK l (by repeat first|exact .here|refine .there ?_ rfl) (by exact hm) (by rfl) (by rfl) M)
 h9:=fun M=>dS (k:=999) (du xD () (by repeat first|exact .here|refine .there ?_ rfl) (by exact trivial) (by rfl) (by rfl) M)
 h10:=fun O R=>p10 (k:=999) O R
 h11:=fun w d sp M hg hd hsp=>dS (k:=999) (du Cq (w,d) (by repeat first|exact .here|refine .there ?_ rfl) (by have:=hg.len;exact⟨by show w.length<big;unfold big;omega,hm d hd⟩) (by exact Cu sp hsp w d) (by rfl) M)
 h13:=fun d hd M=>dS (k:=999) (du rC d (by repeat first|exact .here|refine .there ?_ rfl) (by exact hm d hd) (by exact aM d) (by rfl) M)
 h12y:=fun w d O R id a hs hg hd hc=>by
  have:=hg.len;exact MQ (k:=399) hs (by unfold big;omega) (by omega) hg.ok d (hm d hd) (hbN d hd).1 (hbN d hd).2 hc
 h12n:=fun w d O R id a hs hg hd hc=>by
  have:=hg.len;exact MP (k:=399) hs (by unfold big;omega) (by omega) hg.ok d (hm d hd) (hbN d hd).1 (hbN d hd).2 hc
 h14:=fun w O R id a sw hs hg hsw=>p14 (k:=996) sw hsw hs hg hN
 h15:=fun w O R id a x hs hg=>by
  have:=hg.len;exact p15 (k:=997) hs (by unfold big;omega) (by omega) hg.ok x
 h16:=fun w x sp M hg hsp=>dS (k:=999) (du xG (w,x) (by repeat first|exact .here|refine .there ?_ rfl) (by have:=hg.len;show w.length<big;unfold big;omega) (by exact aWS (w,x) sp hsp) (by rfl) M)
end
end Go.Proofs.Ae
