/- Further functions: what they answer, and what that means. -/
import Derived.Test.YtjkmcceipabejaaGreatDoorM
set_option linter.unusedSimpArgs false
set_option linter.unusedVariables false
set_option linter.unusedSectionVars false
namespace Go.Proofs.Ae
open Go Go.RowKit
theorem takeV_none (v:AV) (M:Mem):takeV false (v,none) M=some (v,M):=by cases v<;>rfl
inductive Has:List (Nat×(List AV→Ores))→Nat→(List AV→Ores)→Prop
 |here {f:Nat} {s:List AV→Ores} {l:List (Nat×(List AV→Ores))}:Has ((f,s)::l) f s
 |there {f g:Nat} {s s':List AV→Ores} {l:List (Nat×(List AV→Ores))} (h:Has l f s) (hn:Nat.beq f g=false):Has ((g,s')::l) f s
theorem Has.eq {l:List (Nat×(List AV→Ores))} {f:Nat} {s:List AV→Ores} (h:Has l f s) (ags:List AV):orcOf l f ags=s ags:=by
 induction h with
 |here=>exact orcOf_self _ _ _ _
 |there h hn ih=>simp only[orcOf,hn,ih]
theorem spC_at {l:List (Nat×(List AV→Ores))} {f:Nat} {X:Type} {enc:X→List AV} {F:X→AV×Option Arr} {ok:X→Prop} (inj: ∀x y,enc x=enc y→x=y) (x:X)
  (ho:Has l f (spR enc F ok)) (hx:ok x) {ags:List AV} (ha:argL ags=some (enc x)) (M:Mem):spC (orcOf l) f ags M=takeV false (F x) M:=by
 unfold spC;rw[ha];simp only[ho.eq,spR_at inj hx]
theorem spC_v {l:List (Nat×(List AV→Ores))} {f:Nat} {X:Type} {enc:X→List AV} {F:X→AV×Option Arr} {ok:X→Prop} (inj: ∀x y,enc x=enc y→x=y) (x:X)
  (ho:Has l f (spR enc F ok)) (hx:ok x) {ags:List AV} (ha:argL ags=some (enc x)) {v:AV} (hv:F x=(v,none)) (M:Mem):spC (orcOf l) f ags M=some (v,M):=by
 rw[spC_at inj x ho hx ha,hv,takeV_none]
def orcW (orc:Nat→List AV→Ores) (f:Nat) (ags:List AV):Ores:=match argL ags with
 |some a=>orc f a
 |none=>none
theorem orcW_ok {P:Program} {G:Nat→Option AV} {orc:Nat→List AV→Ores} (h:OrcOK P G orc):OrcOK P G (orcW orc):=by
 intro f ags r hr U bs es w args hG hV hfr;unfold orcW at hr;split at hr
 ·rename_i a ha
  exact h f a r hr U [] [] w args hG (argL_rep hV ha) hfr
 ·cases hr
def TW (orc:Nat→List AV→Ores):Table:=⟨fns,orcW orc,mutv⟩
abbrev BW (G:Nat→Option AV) (orc:Nat→List AV→Ores) (N k:Nat):Caller:=(both G (TW orc) N false k).1
abbrev YW (G:Nat→Option AV) (orc:Nat→List AV→Ores) (N k:Nat):Nat→List AV→Mem→Option (AV×Mem):=(both G (TW orc) N false k).2
section
variable {G:Nat→Option AV} {orc:Nat→List AV→Ores} {N k f:Nat} {ags:List AV}
theorem bw_sp {r:AV×Mem} {M:Mem} (h:spC orc f ags M=some r):BW G orc N (k+1) f ags M=some r:=by
 unfold spC at h;have e:(TW orc).orc f ags=orcW orc f ags:=rfl;unfold BW;rw[both];simp only[e];unfold orcW;split at h
 ·rename_i a ha
  split at h
  ·rename_i r' hr'
   simp only[ha,hr',h]
  ·cases h
 ·cases h
theorem bw_fn {cf:CFn} (h1:orcW orc f ags=none) (hf:fns f=some cf) (hm:mutv f=false) (M:Mem):
  BW G orc N (k+1) f ags M=if cf.pure&&(argL ags).isSome then(match pureA G false (BW G orc N k) (YW G orc N k) N cf ags with
   |some r=>takeP false r M
   |none=>none)else callA G false (BW G orc N k) (YW G orc N k) N cf ags M:=by
 have e1:(TW orc).orc f ags=none:=h1;have e2:(TW orc).fns f=some cf:=hf;have e3:(TW orc).mutf f=false:=hm;unfold BW YW;rw[both];simp only[e1,e2,e3,Bool.false_and,Bool.not_false,Bool.and_true];rfl
theorem bw_pure {cf:CFn} {v:AV} (h1:orcW orc f ags=none) (hf:fns f=some cf) (hm:mutv f=false) (hp:cf.pure=true) (ha:(argL ags).isSome=true) (h:pureA G false (BW G orc N k) (YW G orc N k) N cf ags=some (v,none)) (M:Mem):
  BW G orc N (k+1) f ags M=some (v,M):=by
 rw[bw_fn h1 hf hm,hp,ha];simp only[Bool.and_self,if_true,h];cases v<;>rfl
end
section
variable {G:Nat→Option AV} {l:List (Nat×(List AV→Ores))}
theorem orc_bw {X:Type} {f:Nat} {cf:CFn} (enc:X→List AV) (F:X→AV×Option Arr) (ok:X→Prop) (hf:FnOK Tryz.prog f cf)
  (h: ∀x,ok x→ ∃N k,pureA G false (BW G (orcOf l) N k) (YW G (orcOf l) N k) N cf (enc x)=some (F x)) (hl:OrcOK Tryz.prog G (orcOf l)):OrcOK Tryz.prog G (orcOf ((f,spR enc F ok)::l)):=
 orc_cons hl fun ags r hr=>by
  obtain⟨x,rfl,hx,rfl⟩:=spR_inv hr;obtain⟨N,k,h⟩:=h x hx;exact orc_both (T:=TW (orcOf l)) hmix kis tabOK hf (orcW_ok hl) ⟨N,k,false,h⟩
theorem orc_selfB {X:Type} {f:Nat} {cf:CFn} (enc:X→List AV) (F:X→AV×Option Arr) (ok:X→Prop) (μ:X→Nat) (inj: ∀x y,enc x=enc y→x=y) (hf:FnOK Tryz.prog f cf)
  (h: ∀x,ok x→ ∀orc:Nat→List AV→Ores,(∀y,ok y→μ y<μ x→orc f (enc y)=some (F y))→(∀g,g≠f→ ∀ags,orc g ags=orcOf l g ags)→ ∃N k,pureA G false (BW G orc N k) (YW G orc N k) N cf (enc x)=some (F x))
  (hl:OrcOK Tryz.prog G (orcOf l)):OrcOK Tryz.prog G (orcOf ((f,spR enc F ok)::l)):=by
 refine orc_rec (fun b=>spR enc F (fun x=>ok x∧μ x<b)) (spR enc F ok) ?_ ?_ ?_ hl
 ·intro ags r hr;obtain⟨x,rfl,hx,rfl⟩:=spR_inv hr;exact⟨μ x+1,spR_at (ok:=fun x=>ok x∧μ x<_) inj ⟨hx,Nat.lt_succ_self _⟩⟩
 ·intro ags;cases hs:spR enc F (fun x=>ok x∧μ x<0) ags with
  |none=>rfl
  |some r=>
   obtain⟨x,_,hx,_⟩:=spR_inv hs;omega
 ·intro b ags r ho hs;obtain⟨x,rfl,hx,rfl⟩:=spR_inv hs;obtain⟨N,k,h⟩:=h x hx.1 _ (fun y hy hlt=>by
   rw[orcOf_self];exact spR_at (ok:=fun x=>ok x∧μ x<b) inj ⟨hy,by omega⟩) (fun g hg ags=>orcOf_other hg _ _ _)
  exact orc_both (T:=TW _) hmix kis tabOK hf (orcW_ok ho) ⟨N,k,false,h⟩
end
theorem spC_self {orc:Nat→List AV→Ores} {f:Nat} {ags:List AV} {v:AV} (h:orc f ags=some (v,none)) (ha:argL ags=some ags) (M:Mem):spC orc f ags M=some (v,M):=by
 unfold spC;rw[ha];simp only[h,takeV_none]
theorem spC_ext {orc orc':Nat→List AV→Ores} {f:Nat} (h: ∀ags,orc f ags=orc' f ags) (ags:List AV) (M:Mem):spC orc f ags M=spC orc' f ags M:=by
 unfold spC;split<;>simp only[h]
theorem int_inj (a b:Int) (h:[AV.int .i64 a]=[AV.int .i64 b]):a=b:=by simpa using h
theorem strs_inj: ∀{a b:List Str},a.map AV.str=b.map AV.str→a=b
 |[],[],_=>rfl
 |[],_::_,h=>by simp at h
 |_::_,[],h=>by simp at h
 |x::a,y::b,h=>by simp at h;rw[h.1,strs_inj h.2]
theorem unit_inj (a b:Unit) (h:([]:List AV)=[]):a=b:=rfl
theorem self_node {G:Nat→Option AV} {l:List (Nat×(List AV→Ores))} {f:Nat} {cf:CFn} (F:Nd→AV) (hF: ∀n M,takeV false (F n,none) M=some (F n,M)) (hf:FnOK Tryz.prog f cf)
  (h: ∀n (cl:Caller),bk n≤big→(∀x∈n.l,∀M,cl f [av x] M=some (F x,M))→pureA G false cl noYl (bk n+1) cf [av n]=some (F n,none))
  (hl:OrcOK Tryz.prog G (orcOf l)):OrcOK Tryz.prog G (orcOf ((f,spR (fun n:Nd=>[av n]) (fun n=>(F n,none)) (fun n=>bk n≤big))::l)):=by
 refine orc_self _ _ _ sz av1_inj hf ?_ hl;intro n hb orc hself hother;refine⟨bk n+1,h n _ hb fun x hx M=>?_⟩;have:=hself x (by have:=bk_child hx;omega) (sz_child hx);simp only[spC,argL,argV_av,argV_int,argV_shared,this,hF]
noncomputable abbrev ndS (F:Nd→AV):List AV→Ores:=spR (fun n:Nd=>[av n]) (fun n=>(F n,none)) (fun n=>bk n≤big)
theorem len_N (n:Nd):n.l.length<bk n+1:=by have:=len_bk n;omega
theorem nm_N (n:Nd):n.ns.length<bk n+1:=by have:=names_bk n;omega
theorem av2_inj (a b:Nd×Nd) (h:[av a.1,av a.2]=[av b.1,av b.2]):a=b:=by
 simp only[List.cons.injEq,and_true]at h;exact Prod.ext (av_inj h.1) (av_inj h.2)
abbrev e1 (n:Nd):List AV:=[av n]
noncomputable abbrev sNd (F:Nd→AV) (ok:Nd→Prop):List AV→Ores:=spR e1 (fun n=>(F n,none)) ok
theorem a1 (n:Nd):argL [av n]=some (e1 n):=by simp[e1]
abbrev e2 (p:Nd×Nd):List AV:=[av p.1,av p.2]
theorem a2 (a b:Nd):argL [av a,av b]=some (e2 (a,b)):=by simp[e2]
section
variable {t:Nat}
noncomputable abbrev M1:List (Nat×(List AV→Ores)):=(65,ndS fun n=>.bool (nmq n))::(64,ndS fun n=>.int .i64 (dp n))::(63,ndS fun n=>.int .i64 (sz n))::(157,ndS fun n=>.int .i64 (dp n))::(156,ndS fun n=>.int .i64 (sz n))::(159,ndS av)::(72,ndS av)::L1
theorem m1 {G:Nat→Option AV}:OrcOK Tryz.prog G (orcOf M1):=
 self_node _ (fun n M=>rfl) ok65 (fun n cl hb hc=>ev65 n hb (nm_N n) (len_N n) hc)
  (self_node _ (fun n M=>rfl) ok64 (fun n cl hb hc=>ev64 n hb (len_N n) hc)
   (self_node _ (fun n M=>rfl) ok63 (fun n cl hb hc=>ev63 n hb (len_N n) hc)
    (self_node _ (fun n M=>rfl) ok157 (fun n cl hb hc=>ev157 n hb (len_N n) hc)
     (self_node _ (fun n M=>rfl) ok156 (fun n cl hb hc=>ev156 n hb (len_N n) hc)
      (self_node _ takeV_av ok159 (fun n cl hb hc=>ev159 n hb (len_N n) hc)
       (self_node _ takeV_av ok72 (fun n cl hb hc=>ev72 n hb (len_N n) hc) o1))))))
noncomputable abbrev M2:List (Nat×(List AV→Ores)):=(160,spR e2 (fun p=>(.bool (sameN p.1 p.2),none)) (fun p=>bk p.1≤big∧bk p.2≤big))::(23,sNd (fun n=>.bool (few n)) fun n=>bk n≤big)::M1
theorem m2 {G:Nat→Option AV}:OrcOK Tryz.prog G (orcOf M2):=by
 refine orc_self _ _ _ (fun p=>sz p.1) av2_inj ok160 ?_ ?_
 ·intro p hb orc hself hother;refine⟨bk p.1+1,ev160 p.1 p.2 hb.1 hb.2 (Nat.lt_succ_self _) fun x hx y hy M=>?_⟩;exact spC_self (hself (x,y) ⟨by have:=bk_child hx;show bk x≤big;omega,by have:=bk_child hy;show bk y≤big;omega⟩ (sz_child hx)) (by simp[e2]) M
 ·exact orc_con _ _ _ ok23 (fun n hb=>⟨1,ev23 n (fun M=>spC_v av1_inj n (by repeat first|exact .here|refine .there ?_ rfl) (by exact hb) (by exact a1 n) (by rfl) M) (fun M=>spC_v av1_inj n (by repeat first|exact .here|refine .there ?_ rfl) (by exact hb) (by exact a1 n) (by rfl) M) (fun M=>spC_v av1_inj n (by repeat first|exact .here|refine .there ?_ rfl) (by exact hb) (by exact a1 n) (by rfl) M)⟩) m1
noncomputable abbrev M3:List (Nat×(List AV→Ores)):=(196,spR (fun s:Str=>[.str s]) (fun s=>(.bool (!isId s),none)) (fun _=>True))::(36,spR (fun s:Str=>[.str s]) (fun s=>(.bool (isId s),none)) (fun _=>True))::M2
theorem m3:OrcOK Tryz.prog (GG t) (orcOf M3):=by
 refine orc_con _ _ _ ok196 (fun s _=>⟨1,ev196 s fun M=>spC_v str1_inj s (by repeat first|exact .here|refine .there ?_ rfl) (by exact trivial) (by exact rfl) (by rfl) M⟩) ?_;refine orc_cons m2 fun ags r hr=>?_;obtain⟨s,rfl,-,rfl⟩:=spR_inv hr;exact orc36 s
def nsE (l:List Str):List AV:=[.slc .shared (l.map .str),.fn 196 [] []]
theorem nsE_inj (a b:List Str) (h:nsE a=nsE b):a=b:=by
 simp only[nsE,List.cons.injEq,AV.slc.injEq,true_and,and_true]at h;exact strs_inj h
noncomputable abbrev M4:List (Nat×(List AV→Ores)):=(155,sNd (fun n=>.bool (rngF n)) fun _=>True)::(154,sNd (fun n=>.bool (hasF n)) fun n=>0≤n.op∧n.op<18∧bk n≤big)::(195,spR nsE (fun l=>(.bool (!l.all isId),none)) (fun l=>l.length<big))::(220,spR nsE (fun l=>(.int .i64 (firstN isId l),none)) (fun l=>l.length<big))::M3
theorem m4:OrcOK Tryz.prog (GG t) (orcOf M4):=by
 refine orc_con _ _ _ ok155 (fun n _=>⟨1,ev155 n⟩) ?_;refine orc_con _ _ _ ok154 (fun n h=>⟨1,ev154 n h.1 h.2.1 fun M=>spC_v nsE_inj n.ns (by repeat first|exact .here|refine .there ?_ rfl) (by have:=names_bk n;have:=h.2.2;show n.ns.length<big;omega) (by exact rfl) (by rfl) M⟩) ?_;refine orc_con _ _ _ ok195 (fun l h=>⟨1,ev195 l fun M=>spC_v nsE_inj l (by repeat first|exact .here|refine .there ?_ rfl) (by exact h) (by exact rfl) (by rfl) M⟩) ?_;exact orc_con _ _ _ ok220 (fun l h=>⟨l.length+1,ev220 l h (Nat.lt_succ_self _) fun s M=>spC_v str1_inj s (by repeat first|exact .here|refine .there ?_ rfl) (by exact trivial) (by exact rfl) (by rfl) M⟩) m3
noncomputable abbrev M5:List (Nat×(List AV→Ores)):=(93,sNd (fun n=>.int .i64 (ndE n)) fun n=>bk n≤big)::M4
theorem m5:OrcOK Tryz.prog (GG t) (orcOf M5):=by
 refine orc_self _ _ _ sz av1_inj ok93 ?_ m4;intro n hb orc hself hother;refine⟨n.l.length+1,ev93 n hb (Nat.lt_succ_self _) (fun h0 h1 M=>?_) (fun M=>?_) (fun x hx M=>?_)⟩
 ·rw[spC_ext (hother 154 (by decide))];exact spC_v av1_inj n (by repeat first|exact .here|refine .there ?_ rfl) (by exact⟨h0,h1,hb⟩) (by simp[e1]) (by rfl) M
 ·rw[spC_ext (hother 155 (by decide))];exact spC_v av1_inj n (by repeat first|exact .here|refine .there ?_ rfl) (by exact trivial) (by simp[e1]) (by rfl) M
 ·exact spC_self (hself x (by have:=bk_child hx;show bk x≤big;omega) (sz_child hx)) (by simp[e1]) M
noncomputable abbrev M6:List (Nat×(List AV→Ores)):=(38,sNd (fun n=>.int .i64 (chk n)) fun n=>bk n≤big)::(94,sNd (fun n=>.int .i64 (grt n)) fun n=>bk n≤big)::M5
theorem m6:OrcOK Tryz.prog (GG t) (orcOf M6):=by
 refine orc_con _ _ _ ok38 (fun n hb=>⟨1,ev38 n (fun M=>spC_v av1_inj n (by repeat first|exact .here|refine .there ?_ rfl) (by exact hb) (by exact(a1 n)) (by rfl) M) (fun M=>spC_v av1_inj n (by repeat first|exact .here|refine .there ?_ rfl) (by exact hb) (by exact(a1 n)) (by rfl) M)⟩) ?_;exact orc_con _ _ _ ok94 (fun n hb=>⟨1,ev94 n (fun M=>spC_v av1_inj n (by repeat first|exact .here|refine .there ?_ rfl) (by exact hb) (by exact(a1 n)) (by rfl) M) (fun M=>spC_v av1_inj n (by repeat first|exact .here|refine .there ?_ rfl) (by exact hb) (by exact(a1 n)) (by rfl) M)⟩) m5
def siE (s:Str):List AV:=[.str s,.int .i64 0]
theorem siE_inj (a b:Str) (h:siE a=siE b):a=b:=by simpa[siE] using h
noncomputable abbrev R1:List (Nat×(List AV→Ores)):=
 (151,spR (fun s:Str=>[.str s]) (fun s=>(.bool (kwL.contains s),none)) (fun _=>True))::(85,spR siE (fun s=>(.int .i64 (cutN isRun s),none)) (fun s=>s.length<big))::
 (194,spR (fun _:Unit=>[]) (fun _=>(.slc .full (kwL.map .str),none)) (fun _=>True))::(117,spB isRun)::(148,spB isDig)::(150,spB isLet)::M6
theorem r1:OrcOK Tryz.prog (GG t) (orcOf R1):=by
 have hB: ∀{f:Nat} {g:UInt8→Bool},okB f g=true→ ∀ags r,spB g ags=some r→OrcAt Tryz.prog (GG t) f ags r:=by
  intro f g h ags r hr;obtain⟨c,rfl,-,rfl⟩:=spR_inv hr;exact orc_up (okB_at h c)
 refine orc_con _ _ _ ok151 (fun s _=>⟨27,ev151 s (by omega) (fun M=>spC_v unit_inj () (by repeat first|exact .here|refine .there ?_ rfl) (by exact trivial) (by rfl) (by rfl) M)⟩) ?_;refine orc_con _ _ _ ok85 (fun s hs=>⟨s.length+1,ev85 s hs (Nat.lt_succ_self _) (fun c M=>spC_v (fun _ _ h=>u8_inj h) c (by repeat first|exact .here|refine .there ?_ rfl) (by exact trivial) (by rfl) (by rfl) M)⟩) ?_;refine orc_con _ _ _ ok194 (fun _ _=>⟨1,ev194⟩) ?_;exact orc_cons (orc_cons (orc_cons m6 (hB b150)) (hB b148)) (hB b117)
theorem r1_85 (s:Str) (hs:s.length<big) (M:Mem):spC (orcOf R1) 85 [.str s,.int .i64 0] M=some (.int .i64 (cutN isRun s),M):=
 spC_v siE_inj s (by repeat first|exact .here|refine .there ?_ rfl) (by exact hs) (by rfl) (by rfl) M
noncomputable abbrev R2:List (Nat×(List AV→Ores)):=(32,spR (fun s:Str=>[.str s]) (fun s=>(.bool (isId s),none)) (fun s=>s.length<big))::R1
theorem r2:OrcOK Tryz.prog (GG t) (orcOf R2):=by
 refine orc_bw _ _ _ ok32 (fun s hs=>⟨s.length+1,4,ev32 s hs (fun _ M=>bw_sp (r1_85 s hs M)) (fun h0=>?_)⟩) r1;have h148: ∀k (c:UInt8) M,BW (GG t) (orcOf R1) (s.length+1) (k+1) 148 [.int .u8 c.toNat] M=some (.bool (isDig c),M):=fun k c M=>bw_sp (spC_v (fun _ _ h=>u8_inj h) c (by repeat first|exact .here|refine .there ?_ rfl) (by exact trivial) (by rfl) (by rfl) M);have h150: ∀k (c:UInt8) M,BW (GG t) (orcOf R1) (s.length+1) (k+1) 150 [.int .u8 c.toNat] M=some (.bool (isLet c),M):=fun k c M=>bw_sp (spC_v (fun _ _ h=>u8_inj h) c (by repeat first|exact .here|refine .there ?_ rfl) (by exact trivial) (by rfl) (by rfl) M);have h151: ∀k M,BW (GG t) (orcOf R1) (s.length+1) (k+1) 151 [.str s] M=some (.bool (kwL.contains s),M):=fun k M=>bw_sp (spC_v str1_inj s (by repeat first|exact .here|refine .there ?_ rfl) (by exact trivial) (by rfl) (by rfl) M);obtain⟨v,e,h149⟩:=ev149 (G:=GG t) (cl:=BW (GG t) (orcOf R1) (s.length+1) 2) (yl:=YW (GG t) (orcOf R1) (s.length+1) 2) (N:=s.length+1) s h0 hs (Nat.lt_succ_self _) (h148 1);have k149: ∀M,BW (GG t) (orcOf R1) (s.length+1) 3 149 [.str s] M=some (.tup [.int .i64 v,.int .i64 e],M):=fun M=>
  bw_pure (cf:=c149) (by unfold orcW;split<;>rfl) rfl rfl rfl rfl h149 M
 obtain⟨k,tx,v',e',h86,h2⟩:=ev86 (G:=GG t) (cl:=BW (GG t) (orcOf R1) (s.length+1) 3) (yl:=YW (GG t) (orcOf R1) (s.length+1) 3) (N:=s.length+1) s h0 hs (h148 2) (h150 2) ⟨v,e,k149⟩ (h151 2);exact⟨k,tx,v',e',fun M=>bw_pure (cf:=c86) (by unfold orcW;split<;>rfl) rfl rfl rfl rfl h86 M,h2⟩
noncomputable abbrev R3:List (Nat×(List AV→Ores)):=(152,spR (fun k:Int=>[.int .i64 k]) (fun k=>(.tup [.int .i64 (fA k),.int .i64 (fB k),.int .i64 (fC k)],none)) (fun k=>0≤k∧k<18))::R2
noncomputable abbrev R4:List (Nat×(List AV→Ores)):=(87,sNd (fun n=>.int .i64 (ndE n)) fun n=>bk n≤big)::R3
theorem r4:OrcOK Tryz.prog (GG t) (orcOf R4):=by
 refine orc_self _ _ _ sz av1_inj ok87 ?_ (orc_con _ _ _ ok152 (fun k h=>⟨1,ev152 k h.1 h.2⟩) r2);intro n hb orc hself hother;refine⟨bk n+1,ev87 n hb (Nat.lt_succ_self _) (fun h0 h1 M=>?_) (fun x hx M=>?_) (fun x hx M=>?_)⟩
 ·rw[spC_ext (hother 152 (by decide))];exact spC_v int_inj n.op (by repeat first|exact .here|refine .there ?_ rfl) (by exact⟨h0,h1⟩) (by rfl) (by rfl) M
 ·rw[spC_ext (hother 32 (by decide))];exact spC_v str1_inj x (by repeat first|exact .here|refine .there ?_ rfl) (by have:=mem_bkS hx;have:=bk_eq n;show x.length<big;omega) (by rfl) (by rfl) M
 ·exact spC_self (hself x (by have:=bk_child hx;show bk x≤big;omega) (sz_child hx)) (by simp[e1]) M
noncomputable abbrev R5:List (Nat×(List AV→Ores)):=(34,sNd (fun n=>.int .i64 (chk n)) fun n=>bk n≤big)::(88,sNd (fun n=>.int .i64 (grt n)) fun n=>bk n≤big)::R4
theorem r5:OrcOK Tryz.prog (GG t) (orcOf R5):=by
 refine orc_con _ _ _ ok34 (fun n hb=>⟨1,ev34 n (fun M=>spC_v av1_inj n (by repeat first|exact .here|refine .there ?_ rfl) (by exact hb) (by exact a1 n) (by rfl) M) (fun M=>spC_v av1_inj n (by repeat first|exact .here|refine .there ?_ rfl) (by exact hb) (by exact a1 n) (by rfl) M)⟩) ?_;exact orc_con _ _ _ ok88 (fun n hb=>⟨1,ev88 n (fun M=>spC_v av1_inj n (by repeat first|exact .here|refine .there ?_ rfl) (by exact hb) (by exact a1 n) (by rfl) M) (fun M=>spC_v av1_inj n (by repeat first|exact .here|refine .there ?_ rfl) (by exact hb) (by exact a1 n) (by rfl) M)⟩) r4
end
theorem vrv_inj {a b:Vr} (h:vrv a=vrv b):a=b:=by
 obtain⟨a1,a2⟩:=a;obtain⟨b1,b2⟩:=b;simp only[vrv,AV.agg.injEq,List.cons.injEq,AV.str.injEq,AV.int.injEq,true_and,and_true]at h;obtain⟨rfl,rfl⟩:=h;rfl
theorem vrs_inj: ∀{a b:List Vr},a.map vrv=b.map vrv→a=b
 |[],[],_=>rfl
 |[],_::_,h=>by simp at h
 |_::_,[],h=>by simp at h
 |x::a,y::b,h=>by simp at h;rw[vrv_inj h.1,vrs_inj h.2]
theorem mcv_inj {a b:Mc} (h:mcv a=mcv b):a=b:=by
 obtain⟨a1,a2,a3⟩:=a;obtain⟨b1,b2,b3⟩:=b;simp only[mcv,mcc,AV.agg.injEq,List.cons.injEq,AV.str.injEq,AV.slc.injEq,true_and]at h;obtain⟨rfl,h2,h3⟩:=h;have:av a3=av b3:=by rw[av_ndc,av_ndc,h3]
 rw[vrs_inj h2,av_inj this]
theorem mcs_inj: ∀{a b:List Mc},a.map mcv=b.map mcv→a=b
 |[],[],_=>rfl
 |[],_::_,h=>by simp at h
 |_::_,[],h=>by simp at h
 |x::a,y::b,h=>by simp at h;rw[mcv_inj h.1,mcs_inj h.2]
theorem qsv_inj {a b:Qn} (h:qsv a=qsv b):a=b:=by
 obtain⟨a1,a2⟩:=a;obtain⟨b1,b2⟩:=b;rw[←agg_qnd,←agg_qnd]at h;simp only[AV.agg.injEq,List.cons.injEq,AV.slc.injEq,true_and]at h;have:av a2=av b2:=by rw[av_ndc,av_ndc,h.2]
 rw[vrs_inj h.1,av_inj this]
abbrev eM (m:Mc):List AV:=[mcv m]
abbrev eQ (q:Qn):List AV:=[qsv q]
theorem eM_inj (a b:Mc) (h:eM a=eM b):a=b:=mcv_inj (by simpa[eM] using h)
theorem eQ_inj (a b:Qn) (h:eQ a=eQ b):a=b:=qsv_inj (by simpa[eQ] using h)
structure OkM (m:Mc):Prop where
 nm:m.nm.length<big
 ps:m.ps.length<big
 vs: ∀v∈m.ps,v.nm.length<big
 bd:bk m.bd≤big
structure OkQ (q:Qn):Prop where
 fr:q.fr.length<big
 vs: ∀v∈q.fr,v.nm.length<big
 bd:bk q.bd≤big
theorem OkM.q {m:Mc} (h:OkM m):OkQ ⟨m.ps,m.bd⟩:=⟨h.ps,h.vs,h.bd⟩
abbrev eQ2 (q:Qn):List AV:=[qsv q,qsv q]
theorem eQ2_inj (a b:Qn) (h:eQ2 a=eQ2 b):a=b:=qsv_inj (by simp[eQ2]at h;exact h)
def eW2 (w:List Mc):List AV:=[.slc .shared (w.map mcv),.slc .shared (w.map mcv)]
theorem eW2_inj (a b:List Mc) (h:eW2 a=eW2 b):a=b:=by
 simp only[eW2,List.cons.injEq,AV.slc.injEq,true_and,and_true]at h;exact mcs_inj h.1
def eWS (p:List Mc×Str):List AV:=[.slc .shared (p.1.map mcv),.str p.2]
theorem eWS_inj (a b:List Mc×Str) (h:eWS a=eWS b):a=b:=by
 simp only[eWS,List.cons.injEq,AV.slc.injEq,AV.str.injEq,true_and,and_true]at h;exact Prod.ext (mcs_inj h.1) h.2
def eVS (p:List Vr×Str):List AV:=[.slc .shared (p.1.map vrv),.str p.2]
theorem eVS_inj (a b:List Vr×Str) (h:eVS a=eVS b):a=b:=by
 simp only[eVS,List.cons.injEq,AV.slc.injEq,AV.str.injEq,true_and,and_true]at h;exact Prod.ext (vrs_inj h.1) h.2
section
variable {t:Nat}
theorem cl70_of {l:List (Nat×(List AV→Ores))} (h:Has l 70 (cloneA 74 2)) (vs:List Vr) (hb:vs.length<big) (M:Mem):spC (orcOf l) 70 [.slc .shared (vs.map vrv)] M=cl70 vs M:=by
 unfold big at hb;cases vs with
 |nil=>
  have e:orcOf l 70 [.slc .shared []]=some (.slc .full [],none):=by rw[h.eq];rfl
  simp[spC,cl70,e]
 |cons v vs=>
  have b1:(vs.length+1)*4096≤140737488355328:=by simp at hb;omega
  have e:orcOf l 70 [.slc .shared ((v::vs).map vrv)]=some (.slc .shared ((v::vs).map vrv),some (.app (vs.length+1) 74 2)):=by
   rw[h.eq];simp[cloneA,b1]
  simp only[List.map_cons]at e;simp[spC,cl70,e]
noncomputable abbrev N1:List (Nat×(List AV→Ores)):=(42,spR eM (fun m=>(mcv m,none)) OkM)::(13,spR eM (fun m=>(mcv m,none)) OkM)::(100,spR eQ (fun q=>(qsv q,none)) OkQ)::(25,spR eQ (fun q=>(qsv q,none)) OkQ)::(41,spR eM (fun m=>(mcv m,none)) OkM)::R5
theorem aM (m:Mc):argL [mcv m]=some (eM m):=by simp[eM]
theorem aQ (q:Qn):argL [qsv q]=some (eQ q):=by simp[eQ]
theorem kn1:OrcOK Tryz.prog (GG t) (orcOf N1):=by
 refine orc_con _ _ _ ok42 (fun m h=>⟨1,ev42 m fun M=>spC_v eQ_inj ⟨m.ps,m.bd⟩ (by repeat first|exact .here|refine .there ?_ rfl) (by exact h.q) (by exact aQ _) (by rfl) M⟩) ?_;refine orc_con _ _ _ ok13 (fun m h=>⟨1,ev13 m fun M=>spC_v eQ_inj ⟨m.ps,m.bd⟩ (by repeat first|exact .here|refine .there ?_ rfl) (by exact h.q) (by exact aQ _) (by rfl) M⟩) ?_;refine orc_con _ _ _ ok100 (fun q h=>⟨q.fr.length+1,ev100 q h.fr (Nat.lt_succ_self _) fun M=>spC_v av1_inj q.bd (by repeat first|exact .here|refine .there ?_ rfl) (by exact h.bd) (by exact a1 _) (by rfl) M⟩) ?_;refine orc_con _ _ _ ok25 (fun q h=>⟨q.fr.length+1,ev25 q h.fr (Nat.lt_succ_self _) fun M=>spC_v av1_inj q.bd (by repeat first|exact .here|refine .there ?_ rfl) (by exact h.bd) (by exact a1 _) (by rfl) M⟩) ?_;exact orc_con _ _ _ ok41 (fun m h=>⟨1,ev41 m (fun M=>cl70_of (by repeat first|exact .here|refine .there ?_ rfl) m.ps h.ps M) fun M=>spC_v av1_inj m.bd (by repeat first|exact .here|refine .there ?_ rfl) (by exact h.bd) (by exact a1 _) (by rfl) M⟩) r5
noncomputable abbrev N2:List (Nat×(List AV→Ores)):=(43,spR eW2 (fun w=>(.bool true,none)) (fun w=>w.length<big∧ ∀m∈w,OkM m))::(101,spR eQ2 (fun q=>(.bool true,none)) OkQ)::N1
theorem kn2:OrcOK Tryz.prog (GG t) (orcOf N2):=by
 refine orc_con _ _ _ ok43 (fun w h=>⟨w.length+1,ev43 w h.1 (Nat.lt_succ_self _) fun m hm M=>spC_v eQ2_inj ⟨m.ps,m.bd⟩ (by repeat first|exact .here|refine .there ?_ rfl) (by exact(h.2 m hm).q) (by simp[eQ2]) (by rfl) M⟩) ?_;exact orc_con _ _ _ ok101 (fun q h=>⟨q.fr.length+1,ev101 q h.fr (Nat.lt_succ_self _) fun M=>spC_v av2_inj (q.bd,q.bd) (by repeat first|exact .here|refine .there ?_ rfl) (by exact⟨h.bd,h.bd⟩) (by exact a2 _ _) (by
  have:sameN q.bd q.bd=true:=(sameN_iff _ _).2 rfl;simp only[this]) M⟩) kn1
noncomputable abbrev N3:List (Nat×(List AV→Ores)):=(98,spR (fun s:Str=>[.str s]) (fun s=>(lkv [] s,none)) (fun _=>True))::(96,sNd (fun n=>.bool (n.op==16||n.op==17)) fun _=>True)::(33,spR eVS (fun p=>(.int .i64 (mns p.1 p.2),none)) (fun p=>p.1.length<big))::(16,spR eWS (fun p=>(.int .i64 (fix p.1 p.2),none)) (fun p=>p.1.length<big))::N2
theorem kn3:OrcOK Tryz.prog (GG t) (orcOf N3):=by
 refine orc_con _ _ _ ok98 (fun s h=>⟨1,ev98 s⟩) ?_;refine orc_con _ _ _ ok96 (fun n h=>⟨1,ev96 n⟩) ?_;refine orc_con _ _ _ ok33 (fun p h=>⟨p.1.length+1,ev33 p.1 .shared p.2 h (Nat.lt_succ_self _)⟩) ?_;exact orc_con _ _ _ ok16 (fun p h=>⟨p.1.length+1,ev16 p.1 p.2 h (Nat.lt_succ_self _)⟩) kn2
theorem aWS (p:List Mc×Str) (sp:Sp) (h:sp≠ .full):argL [.slc sp (p.1.map mcv),.str p.2]=some (eWS p):=by cases sp<;>simp_all [eWS]
def eCl (p:List Mc×Nd×List Vr):List AV:=[.slc .shared (p.1.map mcv),av p.2.1,.slc .shared (p.2.2.map vrv)]
theorem eCl_inj (a b:List Mc×Nd×List Vr) (h:eCl a=eCl b):a=b:=by
 simp only[eCl,List.cons.injEq,AV.slc.injEq,true_and,and_true]at h;exact Prod.ext (mcs_inj h.1) (Prod.ext (av_inj h.2.1) (vrs_inj h.2.2))
noncomputable abbrev N4:List (Nat×(List AV→Ores)):=(89,spR eCl (fun p=>(.int .i64 (callE p.1 p.2.1.ns p.2.2),none)) (fun p=>p.2.1.ns≠[]∧p.1.length<big∧p.2.2.length<big∧bk p.2.1≤big))::N3
theorem kn4:OrcOK Tryz.prog (GG t) (orcOf N4):=by
 refine orc_con _ _ _ ok89 (fun p h=>⟨bk p.2.1+1,?_⟩) kn3;obtain⟨w,n,env⟩:=p;obtain⟨h1,h2,h3,h4⟩:=h;simp only at h1 h2 h3 h4;have hnl:=names_bk n;refine ev89 w n env h1 (by omega) (nm_N n) (fun x _ M=>?_) (fun x _ M=>?_)
 ·exact spC_v eWS_inj (w,x) (by repeat first|exact .here|refine .there ?_ rfl) (by exact h2) (by exact rfl) (by rfl) M
 ·exact spC_v eVS_inj (env,x) (by repeat first|exact .here|refine .there ?_ rfl) (by exact h3) (by exact rfl) (by rfl) M
structure Wk where
 w:List Mc
 n:Nd
 env:List Vr
 all:Bool
def eWk (p:Wk):List AV:=[.slc .shared (p.w.map mcv),av p.n,.slc .shared (p.env.map vrv),.bool p.all]
theorem eWk_inj (a b:Wk) (h:eWk a=eWk b):a=b:=by
 obtain⟨a1,a2,a3,a4⟩:=a;obtain⟨b1,b2,b3,b4⟩:=b;simp only[eWk,List.cons.injEq,AV.slc.injEq,AV.bool.injEq,true_and,and_true]at h;obtain⟨h1,h2,h3,rfl⟩:=h;rw[mcs_inj h1,av_inj h2,vrs_inj h3]
structure WkOk (p:Wk):Prop where
 vd:ndE p.n=0
 bk:bk p.n≤big
 env:p.env.length+dp p.n<big
 w:p.w.length<big
theorem vd_ns {n:Nd} (h:ndE n=0):n.op=10∨15<n.op→n.ns≠[]:=by
 intro ho;cases vk_of h with
 |cst op h=>simp[nd,Nd.op]at ho;omega
 |two op x y h=>simp[Nd.op]at ho;omega
 |lab=>simp[Nd.op]at ho
 |smd=>simp[Nd.op]at ho
 |sng=>simp[Nd.op]at ho
 |cal=>simp[Nd.ns]
 |not=>simp[nd,Nd.op]at ho
 |bin op a b h=>simp[nd,Nd.op]at ho;omega
 |qnt op x so a h=>simp[qn,Nd.ns]
theorem vd_cal {n:Nd} (h:ndE n=0) (ho:n.op=10):n.l=[]:=by
 cases vk_of h with
 |cst op h=>simp[nd,Nd.l]
 |two op x y h=>simp[Nd.l]
 |lab=>simp[Nd.l]
 |smd=>simp[Nd.l]
 |sng=>simp[Nd.l]
 |cal=>simp[Nd.l]
 |not=>simp[nd,Nd.op]at ho
 |bin op a b h=>simp[nd,Nd.op]at ho;omega
 |qnt op x so a h=>simp[qn,Nd.op]at ho;omega
theorem inn_len (n:Nd) (env:List Vr):(inn n env).length≤env.length+1:=by unfold inn;split<;>simp
theorem dpL_mem {x:Nd}: ∀{l:List Nd},x∈l→dp x≤dpL l
 |[],h=>by simp at h
 |y::ys,h=>by
  rcases List.mem_cons.1 h with rfl|h
  ·simp[dpL];omega
  ·have:=dpL_mem h;simp[dpL];omega
theorem dp_child {n x:Nd} (h:x∈n.l):dp x+1≤dp n:=by
 have:=dpL_mem h;have:=dp_eq n;omega
noncomputable abbrev N5:List (Nat×(List AV→Ores)):=(35,spR eWk (fun p=>(.int .i64 (wlk p.w p.all p.n p.env),none)) WkOk)::N4
theorem kn5:OrcOK Tryz.prog (GG t) (orcOf N5):=by
 refine orc_self _ _ _ (fun p=>sz p.n) eWk_inj ok35 ?_ kn4;intro p h orc hself hother;obtain⟨w,n,env,all⟩:=p;obtain⟨hv,hb,he,hw⟩:=h;simp only at hv hb he hw;have hnl:=names_bk n;have hll:=len_bk n;refine⟨bk n+1,ev35 w all n env (by omega) (nm_N n) (by omega) (len_N n) (by omega) ⟨vd_ns hv,fun x hx b M=>?_,fun h10 M=>?_,fun x hx M=>?_⟩⟩
 ·have hd:=dp_child hx;have hi:=inn_len n env;have k:=hself ⟨w,x,inn n env,all⟩ ⟨ndE_kid hv hx,by have:=bk_child hx;show bk x≤big;omega,by show(inn n env).length+dp x<big;omega,hw⟩ (sz_child hx);unfold spC;have ha:argL [.slc .shared (w.map mcv),av x,.slc (spO b) ((inn n env).map vrv),.bool all]=some (eWk ⟨w,x,inn n env,all⟩):=by cases b<;>simp[spO,eWk]
  rw[ha];simp only[k,takeV_none]
 ·rw[spC_ext (hother 89 (by decide))];exact spC_v eCl_inj (w,n,env) (by repeat first|exact .here|refine .there ?_ rfl) (by exact⟨vd_ns hv (.inl h10),hw,by show env.length<big;omega,hb⟩) (by simp[eCl]) (by rfl) M
 ·rw[spC_ext (hother 33 (by decide))];exact spC_v eVS_inj (env,x) (by repeat first|exact .here|refine .there ?_ rfl) (by show env.length<big;omega) (by simp[eVS]) (by rfl) M
def eMy (p:List Mc×Mc):List AV:=[.slc .shared (p.1.map mcv),mcv p.2]
theorem eMy_inj (a b:List Mc×Mc) (h:eMy a=eMy b):a=b:=by
 simp only[eMy,List.cons.injEq,AV.slc.injEq,true_and,and_true]at h;exact Prod.ext (mcs_inj h.1) (mcv_inj h.2)
theorem parE_len {ps:List Vr} (h:parE ps=0):ps.length≤6:=by
 unfold parE at h;split at h
 ·cases h
 ·omega
theorem chk_vd {n:Nd} (h:chk n=0):ndE n=0:=by
 unfold chk at h;split at h
 ·assumption
 ·assumption
theorem chk_lim {n:Nd} (h:chk n=0):sz n≤4096∧dp n≤256:=by
 unfold chk at h;split at h
 ·unfold grt at h;split at h
  ·cases h
  ·split at h
   ·cases h
   ·omega
 ·contradiction
noncomputable abbrev N6:List (Nat×(List AV→Ores)):=(11,spR eMy (fun p=>(.int .i64 (may p.1 p.2),none)) (fun p=>p.1.length<big∧OkM p.2))::N5
theorem kn6:OrcOK Tryz.prog (GG t) (orcOf N6):=by
 refine orc_con _ _ _ ok11 (fun p h=>⟨7,?_⟩) kn5;obtain⟨w,m⟩:=p;obtain⟨hw,hm⟩:=h;simp only at hw hm;refine ev11 w m hm.ps (by omega) ⟨fun M=>?_,fun v hv M=>?_,fun M=>?_,fun i v M hv=>?_,fun M=>?_,fun h1 h2 M=>?_⟩
 ·exact spC_v str1_inj m.nm (by repeat first|exact .here|refine .there ?_ rfl) (by exact hm.nm) (by rfl) (by rfl) M
 ·exact spC_v str1_inj v.nm (by repeat first|exact .here|refine .there ?_ rfl) (by exact hm.vs v hv) (by rfl) (by rfl) M
 ·exact spC_v eWS_inj (w,m.nm) (by repeat first|exact .here|refine .there ?_ rfl) (by exact hw) (by rfl) (by rfl) M
 ·exact spC_v eVS_inj (m.ps.take i,v.nm) (by repeat first|exact .here|refine .there ?_ rfl) (by have:=hm.ps;simp;omega) (by rfl) (by rfl) M
 ·exact spC_v av1_inj m.bd (by repeat first|exact .here|refine .there ?_ rfl) (by exact hm.bd) (by exact a1 _) (by rfl) M
 ·have hd:=(chk_lim h1).2;exact spC_v eWk_inj ⟨w,m.bd,m.ps,true⟩ (by repeat first|exact .here|refine .there ?_ rfl) (by
   have:=parE_len h2;exact⟨chk_vd h1,hm.bd,by show m.ps.length+dp m.bd<big;unfold big;omega,hw⟩) (by simp[eWk]) (by rfl) M
end
theorem bw_in {G:Nat→Option AV} {orc:Nat→List AV→Ores} {N k f:Nat} {ags:List AV} {cf:CFn} (h1:orcW orc f ags=none) (hf:fns f=some cf) (hm:mutv f=false) (hp:(cf.pure&&(argL ags).isSome)=false) (M:Mem):
  BW G orc N (k+1) f ags M=callA G false (BW G orc N k) (YW G orc N k) N cf ags M:=by
 rw[bw_fn h1 hf hm,hp];simp
theorem argL_fnp {f p o:Nat} (sp:Sp) (es:List AV):argL [.slc sp es,.fn f [] [.ptr p o]]=none:=by cases sp<;>rfl
def eW1 (w:List Mc):List AV:=[.slc .shared (w.map mcv)]
theorem eW1_inj (a b:List Mc) (h:eW1 a=eW1 b):a=b:=by
 simp only[eW1,List.cons.injEq,AV.slc.injEq,true_and,and_true]at h;exact mcs_inj h
noncomputable abbrev N6b:List (Nat×(List AV→Ores)):=(8,spR eW1 (fun l=>(.bool (sme l),none)) (fun l=> ∀m∈l,OkM m))::(9,spR (fun _:Unit=>[]) (fun _=>(.bool true,none)) (fun _=>True))::N6
theorem kn6b {t:Nat}:OrcOK Tryz.prog (GG t) (orcOf N6b):=by
 refine orc_con _ _ _ ok8 (fun l h=>⟨7,ev8 l (by omega) fun m hm M=>spC_v av1_inj m.bd (by repeat first|exact .here|refine .there ?_ rfl) (by exact(h m hm).bd) (by exact a1 _) (by rfl) M⟩) ?_;refine orc_cons kn6 fun ags r hr=>?_;obtain⟨s,rfl,-,rfl⟩:=spR_inv hr;exact orc9
section
variable {t:Nat} {N:Nat}
noncomputable abbrev BN (t N k:Nat):Caller:=BW (GG t) (orcOf N6b) N k
theorem k92 {k:Nat} {O:List Obj} {R:List Arr} {p:Nat} {v:Vr} (hp:O[p]? =some (.cells (vrc v))) (o:Vr) (X:List Obj):
  BN t N (k+1) 92 [vrv o,.ptr p 0] ⟨O++X,R⟩=some (.bool (o.nm==v.nm),⟨O++X++[.cells (vrc o)],R⟩):=by
 rw[BN,bw_in (cf:=c92) (by unfold orcW;split<;>rfl) rfl rfl rfl];exact ev92 o (get_old hp X)
theorem k91 {k:Nat} {O:List Obj} {R:List Arr} {p:Nat} {v:Vr} (hp:O[p]? =some (.cells (vrc v))) (l:List Vr) (hb:l.length<big) (hN:l.length<N):
  Gr (BN t N (k+3) 91 [.slc .shared (l.map vrv),.fn 92 [] [.ptr p 0]] ⟨O,R⟩) (.bool (l.any (fun o=>o.nm==v.nm))) O R:=by
 rw[BN,bw_in (cf:=c91) (by unfold orcW;split<;>rfl) rfl rfl (by rw[argL_fnp];rfl)];refine ev91 l v ?_;rw[bw_in (cf:=c153) (by unfold orcW;split<;>rfl) rfl rfl (by rw[argL_fnp];rfl)];exact ev153 l v hp hb hN fun o X=>k92 hp o X
def eVs (l:List Vr):List AV:=[.slc .shared (l.map vrv)]
theorem eVs_inj (a b:List Vr) (h:eVs a=eVs b):a=b:=by
 simp only[eVs,List.cons.injEq,AV.slc.injEq,true_and,and_true]at h;exact vrs_inj h
noncomputable abbrev sp37:List AV→Ores:=spR eVs (fun l=>(.int .i64 (parE l),none)) (fun l=>l.length<big)
theorem o37:OrcOK Tryz.prog (GG t) (orcOf ((37,sp37)::N6b)):=by
 refine orc_bw _ _ _ ok37 (fun l h=>⟨l.length+1,4,?_⟩) kn6b;refine ev37 l h (Nat.lt_succ_self _) (fun v hv M=>?_) (fun l' v X hl=>?_)
 ·exact bw_sp (spC_v str1_inj v.nm (by repeat first|exact .here|refine .there ?_ rfl) (by exact trivial) (by rfl) (by rfl) M)
 ·have hp:(X++[Obj.cells (vrc v)])[X.length]? =some (.cells (vrc v)):=by simp
  have h1:l'.length<big:=by omega
  have h2:l'.length<l.length+1:=by omega
  have h3:=k91 (t:=t) (k:=1) (N:=l.length+1) (O:=X++[.cells (vrc v)]) (R:=[]) (p:=X.length) (v:=v) hp l' h1 h2;exact h3
end
noncomputable abbrev N7:List (Nat×(List AV→Ores)):=(37,sp37)::N6b
section
variable {t:Nat} {N:Nat}
noncomputable abbrev BP (t N k:Nat):Caller:=BW (GG t) (orcOf N7) N k
noncomputable abbrev YP (t N k:Nat):=YW (GG t) (orcOf N7) N k
theorem p97 {k:Nat} {O:List Obj} {R:List Arr} {c:AV} (v:Vr) (hc:cells c=some [c]):
  BP t N (k+1) 97 [c,vrv v] ⟨O,R⟩=some (.fn 158 [] [.ptr (O.length+1) 0,.ptr O.length 0],⟨O++[.cells [c],.cells (vrc v)],R⟩):=by
 rw[BP,bw_in (cf:=c97) (by unfold orcW;split<;>rfl) rfl rfl rfl];exact ev97 hc
theorem look_ok {O:List Obj} {c:AV} {env:List Vr} (h:Sc O c env): ∀k,env.length<k→LookOK (BP t N k) O c env:=by
 induction h with
 |nil=>
  intro k hk;obtain⟨k,rfl⟩:=Nat.exists_eq_succ_of_ne_zero (n:=k) (by omega);refine⟨98,[],rfl,fun x X R=>?_⟩;refine bw_sp (spC_v str1_inj x (by repeat first|exact .here|refine .there ?_ rfl) (by exact trivial) (by rfl) ?_ _);rfl
 |snoc h hi hj ih=>
  rename_i c env v i j
  intro k hk;obtain⟨k,rfl⟩:=Nat.exists_eq_succ_of_ne_zero (n:=k) (by omega);refine⟨158,_,rfl,fun x X R=>?_⟩;rw[BP,bw_in (cf:=c158) (by unfold orcW;split<;>rfl) rfl rfl rfl];rw[lkv_snoc];cases hv:v.nm==x with
  |true=>
   rw[if_pos rfl];exact ev158a (c:=c) x (get_old hi X) hv
  |false=>
   rw[if_neg (by simp)];obtain⟨f,cap,rfl,hl⟩:=ih k (by simp at hk;omega);exact ev158b x (get_old hi X) (get_old hj X) hv (hl x X R)
theorem p45 {k:Nat} {O:List Obj} {R:List Arr} {p:Nat} {x:Str} (hp:O[p]? =some (.cells [.str x])) (m:Mc) (X:List Obj):
  BP t N (k+1) 45 [mcv m,.ptr p 0] ⟨O++X,R⟩=some (.bool (m.nm==x),⟨O++X++[.cells (mcc m)],R⟩):=by
 rw[BP,bw_in (cf:=c45) (by unfold orcW;split<;>rfl) rfl rfl (by rfl)];exact ev45 m (get_old hp X)
theorem p15 {k:Nat} {O:List Obj} {R:List Arr} {id:Nat} {a:Option Nat} {w:List Mc} (hs:SetAt O R id a w) (hb:w.length<big) (hN:w.length<N) (hm: ∀d∈w,OkM d) (x:Str):
  Gr (BP t N (k+3) 15 [.ptr id 0,.str x] ⟨O,R⟩) (lup w x) O R:=by
 rw[BP,bw_in (cf:=c15) (by unfold orcW;split<;>rfl) rfl rfl rfl];refine ev15 w x hs (fun sp X p hp=>?_) (fun d hd M=>?_)
 ·rw[bw_in (cf:=c44) (by unfold orcW;split<;>rfl) rfl rfl (by rw[argL_fnp];rfl)];exact ev44 w sp x hp hb hN fun m Y=>p45 hp m Y
 ·exact bw_sp (spC_v eM_inj d (by repeat first|exact .here|refine .there ?_ rfl) (by exact hm d hd) (by exact aM d) (by rfl) M)
theorem p95 {k:Nat} {O:List Obj} {R:List Arr} {id:Nat} {a:Option Nat} {w:List Mc} (hs:SetAt O R id a w) (hb:w.length<big) (hN:w.length<N) (hm: ∀d∈w,OkM d) (n:Nd) (env:List Vr) {c:AV} (hc:Sc O c env) (he: ∀v∈env,0≤v.so) (hk:env.length<k+3) (hne:n.ns≠[]) (hnb:n.ns.length<big) (hnN:n.ns.length<N):
  Gr (BP t N (k+4) 95 [.ptr id 0,av n,c] ⟨O,R⟩) (.int .i64 (callE w n.ns env)) O R:=by
 obtain⟨f,cap,rfl⟩:=hc.fn;rw[BP,bw_in (cf:=c95) (by unfold orcW;split<;>rfl) rfl rfl rfl];exact ev95 w n env he hne hnb hnN (fun x _ X=>p15 (hs.growO X) hb hN hm x) (look_ok hc _ hk)
theorem inn_so {n:Nd} (hv:ndE n=0) {env:List Vr} (he: ∀v∈env,0≤v.so): ∀v∈inn n env,0≤v.so:=by
 unfold inn;split
 ·rename_i h15
  intro v hv';rcases List.mem_append.1 hv' with h|h
  ·exact he v h
  ·simp at h;subst h;cases vk_of hv with
   |qnt op x so a ho hx hs ha=>exact hs.1
   |cst op h=>simp[nd,Nd.op]at h15;omega
   |two op x y h=>simp[Nd.op]at h15;omega
   |lab=>simp[Nd.op]at h15
   |smd=>simp[Nd.op]at h15
   |sng=>simp[Nd.op]at h15
   |cal=>simp[Nd.op]at h15
   |not=>simp[nd,Nd.op]at h15
   |bin op a b h=>simp[nd,Nd.op]at h15;omega
 ·exact he
theorem p39 {w:List Mc} (hb:w.length<big) (hN:w.length<N) (hm: ∀d∈w,OkM d) (all:Bool): ∀(sn:Nat) (n:Nd),sz n≤sn→ndE n=0→bk n≤big→bk n<N→ ∀(env:List Vr),(∀v∈env,0≤v.so)→
  ∀(k:Nat) (O:List Obj) (R:List Arr) (id:Nat) (a:Option Nat) (c:AV),SetAt O R id a w→Sc O c env→env.length+2*dp n+4<k→
   Gr (BP t N k 39 [.ptr id 0,av n,c,.bool all] ⟨O,R⟩) (.int .i64 (wlk w all n env)) O R:=by
 intro sn
 induction sn with
 |zero=>intro n h;have:=sz_eq n;omega
 |succ sn ih=>
  intro n hsn hv hbn hbN env he k O R id a c hs hc hk;obtain⟨k,rfl⟩:=Nat.exists_eq_succ_of_ne_zero (n:=k) (by omega);have hnl:=names_bk n;have hll:=len_bk n;have hd1:1≤dp n:=by have:=dp_eq n;omega
  obtain⟨f,cap,rfl⟩:=hc.fn;rw[BP,bw_in (cf:=c39) (by unfold orcW;split<;>rfl) rfl rfl rfl];have hin:=inn_len n env;refine ev39 w all n env he (by omega) (by omega) (by omega) (by omega) ⟨fun h=>vd_ns hv (.inr h),vd_cal hv,(vd_iff.1 hv).op1,hc,fun X=>(look_ok hc k (by omega)).grow X,?_,?_,?_,?_⟩
  ·intro x hx X c' hc';have hd:=dp_child hx;have:=bk_child hx;have:=sz_child hx;exact ih x (by omega) (ndE_kid hv hx) (by omega) (by omega) _ (inn_so hv he) k _ R id a c' (hs.growO X) hc' (by omega)
  ·intro h10 X;obtain⟨j,rfl⟩: ∃j,k=j+4:=⟨k - 4,by omega⟩
   exact p95 (hs.growO X) hb hN hm n env (hc.grow X) he (by omega) (vd_ns hv (.inl h10)) (by omega) (by omega)
  ·intro M;obtain⟨j,rfl⟩: ∃j,k=j+1:=⟨k - 1,by omega⟩
   exact bw_sp (spC_v av1_inj n (by repeat first|exact .here|refine .there ?_ rfl) (by exact trivial) (by exact a1 n) (by rfl) M)
  ·intro v X;obtain⟨j,rfl⟩: ∃j,k=j+1:=⟨k - 1,by omega⟩
   exact p97 v rfl
theorem p40 {k:Nat} {O:List Obj} {R:List Arr} (sp:Sp) (ps:List Vr) (hb:ps.length<big) (hN:ps.length<N):
  ∃c X,BP t N (k+2) 40 [.slc sp (ps.map vrv)] ⟨O,R⟩=some (c,⟨O++X,R⟩)∧Sc (O++X) c ps:=by
 rw[BP,bw_in (cf:=c40) (by unfold orcW;split<;>rfl) rfl rfl rfl];exact ev40 sp ps hb hN fun c v X hc=>p97 v hc
theorem cs12 {k:Nat} {O:List Obj} {R:List Arr} {id:Nat} {a:Option Nat} {w:List Mc} (hs:SetAt O R id a w) (hb:w.length<big) (hN:w.length<N) (hm: ∀d∈w,OkM d) (m:Mc) (hmm:OkM m) (hmN:bk m.bd<N) (hpN:m.ps.length<N):Cs12 (BP t N (k+600)) w m id O R where
 h15:=fun X=>p15 (k:=k+597) (hs.growO X) hb hN hm m.nm
 h36:=fun M=>bw_sp (k:=k+599) (spC_v str1_inj m.nm (by repeat first|exact .here|refine .there ?_ rfl) (by exact trivial) (by rfl) (by rfl) M)
 h37:=fun M=>bw_sp (k:=k+599) (spC_v eVs_inj m.ps (by repeat first|exact .here|refine .there ?_ rfl) (by exact hmm.ps) (by rfl) (by rfl) M)
 h38:=fun M=>bw_sp (k:=k+599) (spC_v av1_inj m.bd (by repeat first|exact .here|refine .there ?_ rfl) (by exact hmm.bd) (by exact a1 _) (by rfl) M)
 h40:=fun X=>p40 (k:=k+598) .shared m.ps hmm.ps hpN
 h39:=fun h1 h2 X c hc=>by
  have hd:=(chk_lim h1).2;have hp:=parE_len h2;exact p39 hb hN hm true _ m.bd (Nat.le_refl _) (chk_vd h1) hmm.bd hmN m.ps (parE_ok h2) _ _ R id a c (hs.growO X) hc (by omega)
 h41:=fun M=>bw_sp (k:=k+599) (spC_v eM_inj m (by repeat first|exact .here|refine .there ?_ rfl) (by exact hmm) (by exact aM m) (by rfl) M)
theorem p10 {k:Nat} (O:List Obj) (R:List Arr):BP t N (k+1) 10 [] ⟨O,R⟩=some (.ptr O.length 0,⟨O++[.cells [.slc .full []]],R⟩):=by
 rw[BP,bw_in (cf:=c10) (by unfold orcW;split<;>rfl) rfl rfl rfl];simp -implicitDefEqProofs [c10]
theorem p12_no {k:Nat} {O:List Obj} {R:List Arr} {id:Nat} {a:Option Nat} {w:List Mc} (hs:SetAt O R id a w) (hb:w.length<big) (hN:w.length<N) (hm: ∀d∈w,OkM d) (m:Mc) (hmm:OkM m) (hmN:bk m.bd<N) (hpN:m.ps.length<N) (h:may w m≠0):
  Gr (BP t N (k+601) 12 [.ptr id 0,mcv m] ⟨O,R⟩) (.int .i64 (may w m)) O R:=by
 rw[BP,bw_in (cf:=c12) (by unfold orcW;split<;>rfl) rfl rfl rfl];exact ev12_no w m hs (cs12 hs hb hN hm m hmm hmN hpN) h
theorem p12_yes {k:Nat} {O:List Obj} {R:List Arr} {id:Nat} {a:Option Nat} {w:List Mc} (hs:SetAt O R id a w) (hb:w.length<big) (hN:w.length<N) (hm: ∀d∈w,OkM d) (m:Mc) (hmm:OkM m) (hmN:bk m.bd<N) (hpN:m.ps.length<N) (h:may w m=0):
  ∃O' R' a',BP t N (k+601) 12 [.ptr id 0,mcv m] ⟨O,R⟩=some (.int .i64 0,⟨O',R'⟩)∧Added O R id a (w++[m]) O' R' a':=by
 rw[BP,bw_in (cf:=c12) (by unfold orcW;split<;>rfl) rfl rfl rfl];exact ev12_yes w m hs (cs12 hs hb hN hm m hmm hmN hpN) h
end
structure Gd (w:List Mc):Prop where
 len:w.length≤64
 dst:Dst w
 ok: ∀d∈w,OkM d
theorem may_none {w:List Mc} {d:Mc} (h:may w d=0):fnd w d.nm=none∧w.length<64:=by
 unfold may at h;split at h
 ·cases h
 ·split at h
  ·cases h
  ·split at h
   ·cases h
   ·rename_i h1 h2 h3
    refine⟨?_,by omega⟩;cases hf:fnd w d.nm with
    |none=>rfl
    |some x=>rw[hf]at h3;simp at h3
theorem fnd_append (w:List Mc) (d:Mc) (x:Str):fnd (w++[d]) x=(fnd w x).or (if d.nm==x then some d else none):=by
 unfold fnd;rw[List.find?_append]
 congr 1
 simp only[List.find?_cons,List.find?_nil];cases d.nm==x<;>rfl
theorem Gd.snoc {w:List Mc} {d:Mc} (h:Gd w) (hm:may w d=0) (hd:OkM d):Gd (w++[d]):=by
 obtain⟨hn,hl⟩:=may_none hm;refine⟨by simp;omega,?_,?_⟩
 ·intro x hx;rw[fnd_append];rcases List.mem_append.1 hx with hx|hx
  ·rw[h.dst x hx];rfl
  ·simp at hx;subst hx;rw[hn];simp
 ·intro x hx;rcases List.mem_append.1 hx with hx|hx
  ·exact h.ok x hx
  ·simp at hx;subst hx;exact hd
theorem gd_nil:Gd []:=⟨by simp,by intro d h;simp at h,by intro d h;simp at h⟩
theorem SetAt.setRow {O:List Obj} {R:List Arr} {id:Nat} {a:Option Nat} {w:List Mc} (h:SetAt O R id a w) {b:Nat} (hb:a≠some b) (r:Arr):SetAt O (R.set b r) id a w:=by
 cases h with
 |nil h=>exact .nil h
 |own h hr=>
  refine .own h ?_;rw[List.getElem?_set_ne (by intro e;exact hb (by rw[e]))];exact hr
theorem lup_mem {w:List Mc} (h:Dst w) {d:Mc} (hd:d∈w):lup w d.nm=.tup [mcv d,.bool true]:=by unfold lup;rw[h d hd]
def nob:Str:=[110,111,98,111,100,121]
theorem fix_ge (w:List Mc) (x:Str):decide (0≤fix w x)=(fnd w x).isSome:=by
 have:=fix_none (w:=w) (x:=x);cases h:fnd w x with
 |none=>
  have:=this.2 h;simp;omega
 |some d=>
  obtain⟨j,hj,-⟩:=fix_some h;rw[hj];simp
structure Cs3 (cl:Caller) (l:List Mc):Prop where
 h8: ∀M,cl 8 [.slc .shared (l.map mcv)] M=some (.bool (sme l),M)
 h9: ∀M,cl 9 [] M=some (.bool true,M)
 h10: ∀O R,cl 10 [] ⟨O,R⟩=some (.ptr O.length 0,⟨O++[.cells [.slc .full []]],R⟩)
 h11: ∀w d sp M,Gd w→d∈l→sp≠ .full→cl 11 [.slc sp (w.map mcv),mcv d] M=some (.int .i64 (may w d),M)
 h13: ∀d∈l,∀M,cl 13 [mcv d] M=some (mcv d,M)
 h12y: ∀w d O R id a,SetAt O R id a w→Gd w→d∈l→may w d=0→ ∃O' R' a',cl 12 [.ptr id 0,mcv d] ⟨O,R⟩=some (.int .i64 0,⟨O',R'⟩)∧Added O R id a (w++[d]) O' R' a'
 h12n: ∀w d O R id a,SetAt O R id a w→Gd w→d∈l→may w d≠0→Gr (cl 12 [.ptr id 0,mcv d] ⟨O,R⟩) (.int .i64 (may w d)) O R
 h14: ∀w O R id a sw,SetAt O R id a w→Gd w→sw≠ .full→Gw (cl 14 [.ptr id 0,.slc sw (w.map mcv)] ⟨O,R⟩) (.bool true) O R
 h15: ∀w O R id a x,SetAt O R id a w→Gd w→Gr (cl 15 [.ptr id 0,.str x] ⟨O,R⟩) (lup w x) O R
 h16: ∀w x sp M,Gd w→sp≠ .full→cl 16 [.slc sp (w.map mcv),.str x] M=some (.int .i64 (fix w x),M)
section
variable {G:Nat→Option AV} {cl:Caller} {yl:Nat→List AV→Mem→Option (AV×Mem)} {N:Nat}
def S3 (l:List Mc) (i:Nat) (st:St):Prop:=
 ∃O R a w,st=⟨[(0,.slc .shared (l.map mcv)),(3,.ptr 0 0),(4,.slc (.own 0) (w.map mcv)),(5,.int .i64 (i:Int))],⟨O,R⟩,[]⟩∧SetAt O R 0 a w∧R[0]? =some (rowA w.length 34 8)∧a≠some 0∧Gd w
theorem loop3 (l:List Mc) (hl:l.length≤5) (hm: ∀d∈l,OkM d) (hN:6<N) (h:Cs3 cl l):
  ∃e s',iter false (evalC G false cl yl N c3b0) ⟨[0,3,4,5],[(4,none),(5,none)],true⟩ 1 1 N ⟨[(0,.slc .shared (l.map mcv)),(3,.ptr 0 0),(4,.slc (.own 0) []),(5,.int .i64 0)],⟨[.cells [.slc .full []]],[.app 0 0 0]⟩,[]⟩=some (e,s')∧e≠ .normal∧
   (e=.exit 0∧s'.mks=[]∧ ∃O R a w,s'.m=⟨O,R⟩∧look 3 s'.ts=.ptr 0 0∧look 4 s'.ts=.slc (.own 0) (w.map mcv)∧SetAt O R 0 a w∧Gd w):=by
 obtain⟨h8,h9,h10,h11,h13,h12y,h12n,h14,h15,h16⟩:=h;refine(iter_inv (mu:=false) (step:=evalC G false cl yl N c3b0) (an:=⟨[0,3,4,5],[(4,none),(5,none)],true⟩) (k:=1) (m:=1) (N:=N) l (fun _=>(none:Option Unit)) (S3 l)
  (fun r e s'=>e=.exit 0∧s'.mks=[]∧ ∃O R a w,s'.m=⟨O,R⟩∧look 3 s'.ts=.ptr 0 0∧look 4 s'.ts=.slc (.own 0) (w.map mcv)∧SetAt O R 0 a w∧Gd w) (by omega) ⟨[.cells [.slc .full []]],[.app 0 0 0],none,[],rfl,.nil rfl,rfl,by simp,gd_nil⟩ ?_ ?_)
 ·rintro i d st hx hi ⟨O,R,a,w,rfl,hs,hr,ha,hg⟩;have hx':=(List.getElem?_eq_some_iff.1 hx).2;have hd:=mem_of_get hx;have w1:=wrap_succ (i:=i) (by omega);have k11:=fun M=>h11 w d (.own 0) M hg hd (by simp);have k13:=h13 d hd;by_cases hc:may w d=0
  ·obtain⟨O',R',a',k12,hA⟩:=h12y w d O R 0 a hs hg hd hc;rw[hc]at k11;have hr':R'[0]? =some (rowA w.length 34 8):=hA.row 0 _ (fun e=>ha e.symm) hr;have hRlen:0<R.length:=(List.getElem?_eq_some_iff.1 hr).1;have ha':a'≠some 0:=by
    rcases hA.own with e|⟨-,k,hk,e⟩
    ·rw[e];exact ha
    ·rw[e];exact fun hh=>by have:=Option.some.inj hh;omega
   have hg':=hg.snoc hc (hm d hd);obtain⟨X,Y,k14⟩:=h14 (w++[d]) O' (R'.set 0 (.app (w.length+1) 34 8)) 0 a' (.own 0) (hA.set.setRow ha' _) hg' (by simp);have hq:(w.length+1)*120≤140737488355328:=by have:=hg.len;omega
   have hq2:w.length+1≤140737488355328:=by have:=hg.len;omega
   have hz:=szOk_mcvL w;have hz1:=szOk_mcv d [];simp -implicitDefEqProofs at k14;have hrr:w=[]∨ ¬w=[]:=Decidable.em _;simp only[rowA]at hr';have fin:S3 l (i+1) ⟨[(0,.slc .shared (l.map mcv)),(3,.ptr 0 0),(4,.slc (.own 0) (w.map mcv++[mcv d])),(5,.int .i64 ((i+1:Nat):Int))],⟨O'++X,R'.set 0 (.app (w.length+1) 34 8)++Y⟩,[]⟩:=by
    refine⟨O'++X,R'.set 0 (.app (w.length+1) 34 8)++Y,a',w++[d],by simp,(hA.set.setRow ha' _).grow X Y,?_,ha',hg'⟩;refine get_old ?_ _;have:0<R'.length:=(List.getElem?_eq_some_iff.1 hr').1;simp[rowA,this]
   simp -implicitDefEqProofs [c3b0,hi,hx',w1,k11,k13,k12,hr',hq,hq2,hz,hz1,hrr,k14];simpa using fin
  ·obtain⟨X,k12⟩:=h12n w d O R 0 a hs hg hd hc;obtain⟨X',Y,k14⟩:=h14 w (O++X) R 0 a (.own 0) (hs.growO X) hg (by simp);have hc':(may w d==0)=false:=by simp[hc]
   simp -implicitDefEqProofs at k14;have fin:S3 l (i+1) ⟨[(0,.slc .shared (l.map mcv)),(3,.ptr 0 0),(4,.slc (.own 0) (w.map mcv)),(5,.int .i64 ((i+1:Nat):Int))],⟨O++(X++X'),R++Y⟩,[]⟩:=by
    refine⟨O++(X++X'),R++Y,a,w,rfl,hs.grow _ Y,get_old hr _,ha,hg⟩
   simp -implicitDefEqProofs [c3b0,hi,hx',w1,k11,k13,k12,hc',k14];simpa using fin
 ·rintro st ⟨O,R,a,w,rfl,hs,hr,ha,hg⟩;simp -implicitDefEqProofs [c3b0];exact⟨O,R,⟨rfl,rfl⟩,a,w,rfl,hs,hg⟩
theorem ev3 (l:List Mc) (hm: ∀d∈l,OkM d) (hN:6<N) (h:Cs3 cl l):pureA G false cl yl N c3 [.slc .shared (l.map mcv)]=some (.bool true,none):=by
 have h':=h;obtain⟨h8,h9,h10,h11,h13,h12y,h12n,h14,h15,h16⟩:=h;cases hsm:sme l with
 |false=>
  rw[hsm]at h8;simp -implicitDefEqProofs [c3,h8,h9]
 |true=>
  rw[hsm]at h8;have hl:l.length≤5:=by
   unfold sme at hsm;simp at hsm;exact hsm.1
  obtain⟨e,⟨ts,M,mks⟩,k1,-,rfl,rfl,O,R,a,w,rfl,p3,p4,hs,hg⟩:=loop3 (G:=G) (yl:=yl) l hl hm hN h';obtain⟨X,k15⟩:=h15 w O R 0 a nob hs hg;obtain⟨dc,hdc,hlu⟩:=lup_agg w nob;rw[hlu]at k15;have k16:=fun M=>h16 w nob (.own 0) M hg (by simp);have k10:=h10 [] [];have hge:=fix_ge w nob;generalize(fnd w nob).isSome=b at*;generalize fix w nob=j at*;simp[nob]at k1 p3 p4 k15 k16 k10;cases b with
  |true=>
   have hj:0≤j:=of_decide_eq_true hge;simp -implicitDefEqProofs [c3,h8,h9,k10,k1,p3,p4,k15,hdc,k16,hj]
  |false=>
   have hj: ¬0≤j:=of_decide_eq_false hge;simp -implicitDefEqProofs [c3,h8,h9,k10,k1,p3,p4,k15,hdc,k16,hj]
end
section
variable {t:Nat} {N:Nat}
theorem argL_wm (sp:Sp) (h:sp≠ .full) (w:List Mc) (d:Mc):argL [.slc sp (w.map mcv),mcv d]=some (eMy (w,d)):=by cases sp<;>simp_all [eMy]
theorem p14 {k:Nat} {O:List Obj} {R:List Arr} {id:Nat} {a:Option Nat} {w:List Mc} (sw:Sp) (hsw:sw≠ .full) (hs:SetAt O R id a w) (hg:Gd w) (hN:65<N):Gw (BP t N (k+4) 14 [.ptr id 0,.slc sw (w.map mcv)] ⟨O,R⟩) (.bool true) O R:=by
 have hlen:=hg.len;rw[BP,bw_in (cf:=c14) (by unfold orcW;split<;>rfl) rfl rfl rfl];refine ev14 w sw hsw ⟨?_,fun d hd X Y=>?_,fun d hd M=>?_,fun sp sp' M h1 h2=>?_⟩ (by unfold big;omega) (by omega)
 ·rw[bw_in (cf:=c28) (by unfold orcW;split<;>rfl) rfl rfl rfl];exact ev28 w hs (by unfold big;omega) (by omega)
 ·have:=p15 (t:=t) (N:=N) (k:=k) (hs.grow X Y) (by unfold big;omega) (by omega) hg.ok d.nm
  rwa [lup_mem hg.dst hd]at this
 ·exact bw_sp (spC_v eM_inj d (by repeat first|exact .here|refine .there ?_ rfl) (by exact hg.ok d hd) (by exact aM d) (by rfl) M)
 ·exact bw_sp (spC_v eW2_inj w (by repeat first|exact .here|refine .there ?_ rfl) (by exact⟨by show w.length<big;unfold big;omega,hg.ok⟩) (by cases sp<;>cases sp'<;>simp_all [eW2]) (by rfl) M)
theorem cs3 (l:List Mc) (hm: ∀d∈l,OkM d) (hN:65<N) (hbN: ∀d∈l,bk d.bd<N∧d.ps.length<N):Cs3 (BP t N 1000) l where
 h8:=fun M=>bw_sp (k:=999) (spC_v eW1_inj l (by repeat first|exact .here|refine .there ?_ rfl) (by exact hm) (by rfl) (by rfl) M)
 h9:=fun M=>bw_sp (k:=999) (spC_v unit_inj () (by repeat first|exact .here|refine .there ?_ rfl) (by exact trivial) (by rfl) (by rfl) M)
 h10:=fun O R=>p10 (k:=999) O R
 h11:=fun w d sp M hg hd hsp=>bw_sp (k:=999) (spC_v eMy_inj (w,d) (by repeat first|exact .here|refine .there ?_ rfl) (by have:=hg.len;exact⟨by show w.length<big;unfold big;omega,hm d hd⟩) (by exact argL_wm sp hsp w d) (by rfl) M)
 h13:=fun d hd M=>bw_sp (k:=999) (spC_v eM_inj d (by repeat first|exact .here|refine .there ?_ rfl) (by exact hm d hd) (by exact aM d) (by rfl) M)
 h12y:=fun w d O R id a hs hg hd hc=>by
  have:=hg.len;exact p12_yes (k:=399) hs (by unfold big;omega) (by omega) hg.ok d (hm d hd) (hbN d hd).1 (hbN d hd).2 hc
 h12n:=fun w d O R id a hs hg hd hc=>by
  have:=hg.len;exact p12_no (k:=399) hs (by unfold big;omega) (by omega) hg.ok d (hm d hd) (hbN d hd).1 (hbN d hd).2 hc
 h14:=fun w O R id a sw hs hg hsw=>p14 (k:=996) sw hsw hs hg hN
 h15:=fun w O R id a x hs hg=>by
  have:=hg.len;exact p15 (k:=997) hs (by unfold big;omega) (by omega) hg.ok x
 h16:=fun w x sp M hg hsp=>bw_sp (k:=999) (spC_v eWS_inj (w,x) (by repeat first|exact .here|refine .there ?_ rfl) (by have:=hg.len;show w.length<big;unfold big;omega) (by exact aWS (w,x) sp hsp) (by rfl) M)
end
section
variable {G:Nat→Option AV} {cl:Caller} {yl:Nat→List AV→Mem→Option (AV×Mem)} {N:Nat}
theorem ev130 (a b:List Str) (ha:a.length<big) (hN:a.length<N):pureA G false cl yl N c130 [.slc .shared (a.map .str),.slc .shared (b.map .str)]=some (.bool (a==b),none):=by
 unfold big at ha;by_cases hl:a.length=b.length
 ·have k:((a.length:Int) !=(b.length:Int))=false:=by simp;omega
  have hz:(a.zip b).length=a.length:=by simp[hl]
  have l1:=iter_find (mu:=false) (step:=evalC G false cl yl N c130b0) (an:=⟨[0,1,12,13],[(13,none)],false⟩) (k:=0) (m:=0) (N:=N) (a.zip b) (fun p=>if p.1==p.2 then none else some ())
   (fun i=>⟨[(0,.slc .shared (a.map .str)),(1,.slc .shared (b.map .str)),(12,.int .i64 a.length),(13,.int .i64 (i:Int))],⟨[],[]⟩,[]⟩) (fun _ e s'=>e=.ret∧look 4 s'.ts=.bool false∧s'.mks=[]) (.exit 0)
   ⟨[(14,.bool false),(0,.slc .shared (a.map .str)),(1,.slc .shared (b.map .str)),(12,.int .i64 a.length),(13,.int .i64 a.length)],⟨[],[]⟩,[]⟩ (by rw[hz];omega) (by simp) ?_ ?_
  ·rw[strs_zip _ _ hl];cases hf:(a.zip b).findSome? (fun p=>if p.1==p.2 then none else some ())with
   |none=>
    rw[hf]at l1;simp at l1;simp -implicitDefEqProofs [c130,k,l1]
   |some r=>
    rw[hf]at l1;obtain⟨e,s',q1,-,rfl,q2,q3⟩:=l1;simp at q1;simp -implicitDefEqProofs [c130,k,q1,q2,q3]
  ·intro i p hp hi;obtain⟨x,y⟩:=p;obtain⟨p1,p2⟩:=zip_get hp;rw[hz]at hi;have hib:i<b.length:=by omega
   have w1:=wrap_succ (i:=i) (by omega);have hx':=(List.getElem?_eq_some_iff.1 p1).2;have hy':=(List.getElem?_eq_some_iff.1 p2).2;simp only at hx' hy';cases hs:x==y<;>simp -implicitDefEqProofs [c130b0,strA,hi,hib,hx',hy',hs,w1]
  ·rw[hz];simp -implicitDefEqProofs [c130b0]
 ·have k:((a.length:Int) !=(b.length:Int))=true:=by simp;omega
  have:(a==b)=false:=by
   cases h:a==b with
   |false=>rfl
   |true=>exact absurd (by rw[eq_of_beq h]) hl
  simp -implicitDefEqProofs [c130,k,this]
theorem ev131 (a b:List Nd) (ha:a.length<big) (hN:a.length<N) (hc: ∀x∈a,∀y∈b,∀M,cl 77 [av x,av y] M=some (.bool (sameN x y),M)):
  pureA G false cl yl N c131 [.slc .shared (avL a),.slc .shared (avL b),.fn 77 [] []]=some (.bool (sameL a b),none):=by
 unfold big at ha;by_cases hl:a.length=b.length
 ·have k:((a.length:Int) !=(b.length:Int))=false:=by simp;omega
  have hz:(a.zip b).length=a.length:=by simp[hl]
  have l1:=iter_find (mu:=false) (step:=evalC G false cl yl N c131b0) (an:=⟨[1,2,15,16,17],[(17,none)],false⟩) (k:=0) (m:=0) (N:=N) (a.zip b) (fun p=>if sameN p.1 p.2 then none else some ())
   (fun i=>⟨[(1,.slc .shared (avL b)),(2,.fn 77 [] []),(15,.slc .shared (avL a)),(16,.int .i64 a.length),(17,.int .i64 (i:Int))],⟨[],[]⟩,[]⟩) (fun _ e s'=>e=.ret∧look 6 s'.ts=.bool false∧s'.mks=[]) (.exit 0)
   ⟨[(18,.bool false),(1,.slc .shared (avL b)),(2,.fn 77 [] []),(15,.slc .shared (avL a)),(16,.int .i64 a.length),(17,.int .i64 a.length)],⟨[],[]⟩,[]⟩ (by rw[hz];omega) (by simp) ?_ ?_
  ·rw[sameL_zip _ _ hl];cases hf:(a.zip b).findSome? (fun p=>if sameN p.1 p.2 then none else some ())with
   |none=>
    rw[hf]at l1;simp at l1;simp -implicitDefEqProofs [c131,k,l1]
   |some r=>
    rw[hf]at l1;obtain⟨e,s',q1,-,rfl,q2,q3⟩:=l1;simp at q1;simp -implicitDefEqProofs [c131,k,q1,q2,q3]
  ·intro i p hp hi;obtain⟨x,y⟩:=p;obtain⟨p1,p2⟩:=zip_get hp;rw[hz]at hi;have hib:i<b.length:=by omega
   have w1:=wrap_succ (i:=i) (by omega);have hc':=hc x (mem_of_get p1) y (mem_of_get p2);have hx':=(List.getElem?_eq_some_iff.1 p1).2;have hy':=(List.getElem?_eq_some_iff.1 p2).2;simp only at hx' hy';cases hs:sameN x y<;>simp -implicitDefEqProofs [c131b0,hi,hib,hx',hy',hc',hs,w1]
  ·rw[hz];simp -implicitDefEqProofs [c131b0]
 ·have k:((a.length:Int) !=(b.length:Int))=true:=by simp;omega
  have:sameL a b=false:=by
   cases h:sameL a b with
   |false=>rfl
   |true=>exact absurd (by rw[(sameL_iff _ _).1 h]) hl
  simp -implicitDefEqProofs [c131,k,this]
theorem ev77 (a b:Nd) (h56: ∀M,cl 130 [.slc .shared (a.ns.map .str),.slc .shared (b.ns.map .str)] M=some (.bool (a.ns==b.ns),M))
  (h57: ∀M,cl 131 [.slc .shared (avL a.l),.slc .shared (avL b.l),.fn 77 [] []] M=some (.bool (sameL a.l b.l),M)):
  pureA G false cl yl N c77 [av a,av b]=some (.bool (sameN a b),none):=by
 rw[sameN_eq];cases h1:(a.op==b.op)with
 |false=>simp -implicitDefEqProofs [c77,h1]
 |true=>
  cases h2:(a.so==b.so)with
  |false=>simp -implicitDefEqProofs [c77,h1,h2]
  |true=>
   cases h3:(a.nn==b.nn)with
   |false=>simp -implicitDefEqProofs [c77,h1,h2,h3]
   |true=>
    cases h4:(a.mm==b.mm)with
    |false=>simp -implicitDefEqProofs [c77,h1,h2,h3,h4]
    |true=>
     cases h5:(a.ns==b.ns)with
     |false=>
      rw[h5]at h56;simp -implicitDefEqProofs [c77,h1,h2,h3,h4,h56]
     |true=>
      rw[h5]at h56;simp -implicitDefEqProofs [c77,h1,h2,h3,h4,h56,h57]
end
end Go.Proofs.Ae
