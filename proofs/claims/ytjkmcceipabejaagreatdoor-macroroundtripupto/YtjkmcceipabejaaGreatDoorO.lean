/- Further functions: what they answer, and what that means. -/
import Derived.Test.YtjkmcceipabejaaGreatDoorN
set_option linter.unusedSimpArgs false
set_option linter.unusedVariables false
set_option linter.unusedSectionVars false
namespace Go.Proofs.Ae
open Go Go.RowKit
def Old {α:Type} (l l1:List α):Prop:= ∀(i:Nat) (x:α),l[i]? =some x→l1[i]? =some x
theorem Old.refl {α:Type} (l:List α):Old l l:=fun _ _ h=>h
theorem Old.trans {α:Type} {l l1 l2:List α} (h:Old l l1) (k:Old l1 l2):Old l l2:=fun i x hi=>k i x (h i x hi)
theorem Old.app {α:Type} (l r:List α):Old l (l++r):=fun _ _ h=>get_old h r
theorem Old.pre {α:Type} {l l1:List α} (h:Old l l1): ∃X,l1=l++X:=by
 refine⟨l1.drop l.length,?_⟩;apply List.ext_getElem?;intro i;by_cases hi:i<l.length
 ·rw[List.getElem?_append_left hi,List.getElem?_eq_getElem hi];exact h i _ (List.getElem?_eq_getElem hi)
 ·rw[List.getElem?_append_right (by omega),List.getElem?_drop]
  congr 1
  omega
theorem Old.len {α:Type} {l l1:List α} (h:Old l l1):l.length≤l1.length:=by
 obtain⟨X,rfl⟩:=h.pre;simp
section
variable {P:Program} {G:Nat→Option AV}
def twoC (s:Nat→Bool) (c1 c2:Caller):Caller:=fun f ags M=>match s f with
 |true=>c1 f ags M
 |false=>c2 f ags M
theorem twoC_ok {s:Nat→Bool} {c1 c2:Caller} (h1:CallerOK P G c1) (h2:CallerOK P G c2):CallerOK P G (twoC s c1 c2):=by
 intro f ags M v M' h;unfold twoC at h;split at h
 ·exact h1 _ _ _ _ _ h
 ·exact h2 _ _ _ _ _ h
theorem twoC_t {s:Nat→Bool} {c1 c2:Caller} {f:Nat} {ags:List AV} {M:Mem} (h:s f=true):twoC s c1 c2 f ags M=c1 f ags M:=by
 unfold twoC;rw[h]
theorem twoC_f {s:Nat→Bool} {c1 c2:Caller} {f:Nat} {ags:List AV} {M:Mem} (h:s f=false):twoC s c1 c2 f ags M=c2 f ags M:=by
 unfold twoC;rw[h]
end
section
variable {G:Nat→Option AV} {cl:Caller} {yl:Nat→List AV→Mem→Option (AV×Mem)} {N:Nat}
theorem loop44m (w:List Mc) (sp:Sp) (x:Str) {O:List Obj} {R:List Arr} {p:Nat} (hp:O[p]? =some (.cells [.str x])) (hb:w.length<big) (hN:w.length<N) (k m:Nat) {ts:Slots}
  (q0:look 0 ts=.slc sp (w.map mcv)) (q1:look 1 ts=.fn 45 [] [.ptr p 0]) (q7:look 7 ts=.int .i64 w.length) (q8:look 8 ts=.int .i64 0)
  (h45: ∀m X,cl 45 [mcv m,.ptr p 0] ⟨O++X,R⟩=some (.bool (m.nm==x),⟨O++X++[.cells (mcc m)],R⟩)):
  ∃e s',iter true (evalC G true cl yl N c44b0) ⟨[0,1,7,8],[(8,none)],true⟩ k m N ⟨ts,⟨O,R⟩,[]⟩=some (e,s')∧e≠ .normal∧
   (s'.mks=[]∧(∃X,s'.m=⟨O++X,R⟩)∧((e=.exit 0∧fix w x= -1)∨(e=.ret∧look 4 s'.ts=.int .i64 (fix w x)))):=by
 unfold big at hb;have h:=iter_inv (mu:=true) (step:=evalC G true cl yl N c44b0) (an:=⟨[0,1,7,8],[(8,none)],true⟩) (k:=k) (m:=m) (N:=N) (w.zipIdx 0) (fixG x)
  (fun i s=>look 0 s.ts=.slc sp (w.map mcv)∧look 1 s.ts=.fn 45 [] [.ptr p 0]∧look 7 s.ts=.int .i64 w.length∧look 8 s.ts=.int .i64 (i:Int)∧s.mks=[]∧ ∃X,s.m=⟨O++X,R⟩)
  (fun r e s'=>s'.mks=[]∧(∃X,s'.m=⟨O++X,R⟩)∧match r with
   |none=>e=.exit 0
   |some j=>e=.ret∧look 4 s'.ts=.int .i64 (j:Int)) (s0:=⟨ts,⟨O,R⟩,[]⟩) (by simpa using hN) ⟨q0,q1,q7,q8,rfl,[],by simp⟩ ?_ ?_
 ·obtain⟨e,s',h1,h2,h3,h4,h5⟩:=h;refine⟨e,s',h1,h2,h3,h4,?_⟩;rw[fixG_all]at h5;unfold fix;cases hf:w.findIdx? (fun m=>m.nm==x)with
  |none=>rw[hf]at h5;exact .inl ⟨h5,rfl⟩
  |some j=>rw[hf]at h5;exact .inr h5
 ·rintro i ⟨m,j⟩ ⟨ts,M,mks⟩ hx hi ⟨p0,p1,p7,p8,rfl,X,rfl⟩;rw[List.getElem?_zipIdx]at hx;have hil:i<w.length:=by simpa using hi
  rw[List.getElem?_eq_getElem hil]at hx;simp at hx;obtain⟨rfl,rfl⟩:=hx;simp only at p0 p1 p7 p8;have w1:=wrap_succ (i:=i) (by omega);have k:=h45 w[i] X;cases hs:w[i].nm==x with
  |true=>
   rw[hs]at k;simp -implicitDefEqProofs at k;simp -implicitDefEqProofs [fixG,c44b0,p0,p1,p7,p8,hil,hs,w1,k]
  |false=>
   rw[hs]at k;simp -implicitDefEqProofs at k;simp -implicitDefEqProofs [fixG,c44b0,p0,p1,p7,p8,hil,hs,w1,k]
 ·rintro⟨ts,M,mks⟩ ⟨p0,p1,p7,p8,rfl,X,rfl⟩;simp only at p0 p1 p7 p8;simp -implicitDefEqProofs [c44b0,p7,p8]
def spB' (b:Bool):Sp:=if b then .full else .shared
theorem ev61 (b1 b2:Bool) (w:List Mc) (hb:w.length<big) (hN:w.length<N) (h62: ∀m∈w,∀M,cl 62 [mcv m,mcv m] M=some (.bool true,M)):
  pureA G false cl yl N c61 [.slc (spB' b1) (w.map mcv),.slc (spB' b2) (w.map mcv),.fn 62 [] []]=some (.bool true,none):=by
 unfold big at hb;have h1:=iter_all (mu:=false) (step:=evalC G false cl yl N c61b0) (an:=⟨[1,2,15,16,17],[(17,none)],false⟩) (k:=0) (m:=0) (N:=N) w
  (fun i=>⟨[(1,.slc (spB' b2) (w.map mcv)),(2,.fn 62 [] []),(15,.slc (spB' b1) (w.map mcv)),(16,.int .i64 w.length),(17,.int .i64 (i:Int))],⟨[],[]⟩,[]⟩)
  (.exit 0) ⟨[(18,.bool false),(1,.slc (spB' b2) (w.map mcv)),(2,.fn 62 [] []),(15,.slc (spB' b1) (w.map mcv)),(16,.int .i64 w.length),(17,.int .i64 w.length)],⟨[],[]⟩,[]⟩ hN (by simp) ?_ ?_
 ·cases b1<;>cases b2<;>simp[spB']at h1<;>simp -implicitDefEqProofs [c61,spB',h1,pureV,pureL]
 ·intro i m hx hi;have w1:=wrap_succ (i:=i) (by omega);have hx':=(List.getElem?_eq_some_iff.1 hx).2;have k:=h62 m (mem_of_get hx);cases b1<;>cases b2<;>simp -implicitDefEqProofs [c61b0,spB',hi,hx',w1,k]
 ·simp -implicitDefEqProofs [c61b0]
theorem ev61n (b1 b2:Bool) (w1 w2:List Mc) (h:w1.length≠w2.length):
  pureA G false cl yl N c61 [.slc (spB' b1) (w1.map mcv),.slc (spB' b2) (w2.map mcv),.fn 62 [] []]=some (.bool false,none):=by
 have h':((w1.length:Int) !=(w2.length:Int))=true:=by simp;omega
 cases b1<;>cases b2<;>simp -implicitDefEqProofs [c61,spB',h',pureV,pureL]
theorem ev62 (m:Mc) (h76: ∀M,cl 76 [.slc .shared (m.ps.map vrv),.slc .shared (m.ps.map vrv)] M=some (.bool true,M)) (h77: ∀M,cl 77 [av m.bd,av m.bd] M=some (.bool true,M)):
  pureA G false cl yl N c62 [mcv m,mcv m]=some (.bool true,none):=by
 simp -implicitDefEqProofs [c62,mcc_eq,strA,h76,h77]
theorem ev76 (l:List Vr) (hb:l.length<big) (hN:l.length<N):pureA G false cl yl N c76 [.slc .shared (l.map vrv),.slc .shared (l.map vrv)]=some (.bool true,none):=by
 unfold big at hb;have h1:=iter_all (mu:=false) (step:=evalC G false cl yl N c76b0) (an:=⟨[0,1,12,13],[(13,none)],false⟩) (k:=0) (m:=0) (N:=N) l
  (fun i=>⟨[(0,.slc .shared (l.map vrv)),(1,.slc .shared (l.map vrv)),(12,.int .i64 l.length),(13,.int .i64 (i:Int))],⟨[],[]⟩,[]⟩)
  (.exit 0) ⟨[(14,.bool false),(0,.slc .shared (l.map vrv)),(1,.slc .shared (l.map vrv)),(12,.int .i64 l.length),(13,.int .i64 l.length)],⟨[],[]⟩,[]⟩ hN (by simp) ?_ ?_
 ·simp at h1;simp -implicitDefEqProofs [c76,h1]
 ·intro i v hx hi;have w1:=wrap_succ (i:=i) (by omega);have hx':=(List.getElem?_eq_some_iff.1 hx).2;have he:eqL [2,1] [.str v.nm,.int .i64 v.so] [.str v.nm,.int .i64 v.so]=some true:=by simp[eqL,kindEq]
  have hv:vrv v=.agg [.str v.nm,.int .i64 v.so]:=rfl;simp -implicitDefEqProofs [c76b0,hi,hx',w1,hv,he,-agg_vrv]
 ·simp -implicitDefEqProofs [c76b0]
end
section
variable {t:Nat}
def ssE (p:List Str×List Str):List AV:=[.slc .shared (p.1.map .str),.slc .shared (p.2.map .str)]
theorem ssE_inj (a b:List Str×List Str) (h:ssE a=ssE b):a=b:=by
 simp only[ssE,List.cons.injEq,AV.slc.injEq,true_and,and_true]at h;exact Prod.ext (strs_inj h.1) (strs_inj h.2)
noncomputable abbrev Q1:List (Nat×(List AV→Ores)):=(77,spR e2 (fun p=>(.bool (sameN p.1 p.2),none)) (fun p=>bk p.1≤big))::(130,spR ssE (fun p=>(.bool (p.1==p.2),none)) (fun p=>p.1.length<big))::N7
theorem kq1:OrcOK Tryz.prog (GG t) (orcOf Q1):=by
 refine orc_selfB _ _ _ (fun p=>sz p.1) av2_inj ok77 ?_ (orc_con _ _ _ ok130 (fun p hb=>⟨p.1.length+1,ev130 p.1 p.2 hb (Nat.lt_succ_self _)⟩) o37);intro p hb orc hself hother;obtain⟨a,b⟩:=p;simp only at hb;have hl:=len_bk a;refine⟨bk a+1,3,ev77 a b (fun M=>bw_sp ?_) (fun M=>?_)⟩
 ·rw[spC_ext (hother 130 (by decide))];exact spC_v ssE_inj (a.ns,b.ns) (by repeat first|exact .here|refine .there ?_ rfl) (by have:=names_bk a;show a.ns.length<big;omega) (by exact rfl) (by rfl) M
 ·refine bw_pure (cf:=c131) ?_ rfl rfl rfl rfl (ev131 a.l b.l (by omega) (by omega) fun x hx y hy M=>bw_sp ?_) M
  ·have:argL [.slc .shared (avL a.l),.slc .shared (avL b.l),.fn 77 [] []]=some [.slc .shared (avL a.l),.slc .shared (avL b.l),.fn 77 [] []]:=by simp
   unfold orcW;rw[this];show orc 131 _=none;rw[hother 131 (by decide)];rfl
  ·exact spC_self (hself (x,y) (by have:=bk_child hx;show bk x≤big;omega) (sz_child hx)) (by simp[e2]) M
def eVV (l:List Vr):List AV:=[.slc .shared (l.map vrv),.slc .shared (l.map vrv)]
theorem eVV_inj (a b:List Vr) (h:eVV a=eVV b):a=b:=by
 simp only[eVV,List.cons.injEq,AV.slc.injEq,true_and,and_true]at h;exact vrs_inj h.1
abbrev eMM (m:Mc):List AV:=[mcv m,mcv m]
theorem eMM_inj (a b:Mc) (h:eMM a=eMM b):a=b:=mcv_inj (by simp[eMM]at h;exact h)
noncomputable abbrev Q2:List (Nat×(List AV→Ores)):=(62,spR eMM (fun _=>(.bool true,none)) OkM)::(76,spR eVV (fun _=>(.bool true,none)) (fun l=>l.length<big))::Q1
theorem kq2:OrcOK Tryz.prog (GG t) (orcOf Q2):=by
 refine orc_con _ _ _ ok62 (fun m h=>⟨1,ev62 m (fun M=>spC_v eVV_inj m.ps (by repeat first|exact .here|refine .there ?_ rfl) (by exact h.ps) (by exact rfl) (by rfl) M) fun M=>spC_v av2_inj (m.bd,m.bd) (by repeat first|exact .here|refine .there ?_ rfl) (by exact h.bd) (by exact a2 _ _) (by
  have:sameN m.bd m.bd=true:=(sameN_iff _ _).2 rfl;simp only[this]) M⟩) ?_
 exact orc_con _ _ _ ok76 (fun l h=>⟨l.length+1,ev76 l h (Nat.lt_succ_self _)⟩) kq1
def e61 (p:(Bool×Bool)×List Mc×List Mc):List AV:=[.slc (spB' p.1.1) (p.2.1.map mcv),.slc (spB' p.1.2) (p.2.2.map mcv),.fn 62 [] []]
theorem e61_inj (a b:(Bool×Bool)×List Mc×List Mc) (h:e61 a=e61 b):a=b:=by
 obtain⟨⟨a1,a2⟩,a3,a4⟩:=a;obtain⟨⟨b1,b2⟩,b3,b4⟩:=b;simp only[e61,List.cons.injEq,AV.slc.injEq,true_and,and_true]at h;obtain⟨⟨h1,h2⟩,h3,h4⟩:=h;rw[mcs_inj h2,mcs_inj h4];have e1:a1=b1:=by cases a1<;>cases b1<;>simp_all [spB']
 have e2:a2=b2:=by cases a2<;>cases b2<;>simp_all [spB']
 rw[e1,e2]
noncomputable abbrev Q3:List (Nat×(List AV→Ores)):=(61,spR e61 (fun p=>(.bool (p.2.1.length==p.2.2.length),none)) (fun p=>(p.2.1=p.2.2∧p.2.1.length<big∧ ∀d∈p.2.1,OkM d)∨p.2.1.length≠p.2.2.length))::Q2
theorem kq3:OrcOK Tryz.prog (GG t) (orcOf Q3):=by
 refine orc_con _ _ _ ok61 ?_ kq2;rintro⟨⟨b1,b2⟩,w1,w2⟩ h;rcases h with⟨h1,h2,h3⟩|h
 ·simp only at h1 h2 h3;subst h1;refine⟨w1.length+1,?_⟩;simp only[beq_self_eq_true];exact ev61 b1 b2 w1 h2 (Nat.lt_succ_self _) fun m hm M=>spC_v eMM_inj m (by repeat first|exact .here|refine .there ?_ rfl) (by exact h3 m hm) (by simp[eMM]) (by rfl) M
 ·simp only at h;refine⟨1,?_⟩;have hb:(w1.length==w2.length)=false:=by simpa using h
  simp only[hb];exact ev61n b1 b2 w1 w2 h
end
section
variable {t:Nat} {N:Nat}
theorem bp_ok (k:Nat):CallerOK Tryz.prog (GG t) (BP t N k)∧YielderOK Tryz.prog (GG t) (YP t N k):=
 both_ok (T:=TW (orcOf N7)) hmix kis tabOK (orcW_ok o37) k false
end
def SetR (O:List Obj) (id:Nat) (w:List Mc):Prop:= ∃sp,O[id]? =some (.cells [.slc sp (w.map mcv)])
theorem SetR.grow {O:List Obj} {id:Nat} {w:List Mc} (h:SetR O id w) (X:List Obj):SetR (O++X) id w:=by
 obtain⟨sp,h⟩:=h;exact⟨sp,get_old h X⟩
theorem SetAt.r {O:List Obj} {R:List Arr} {id:Nat} {a:Option Nat} {w:List Mc} (h:SetAt O R id a w):SetR O id w:=h.get
section
variable {G:Nat→Option AV} {cl:Caller} {yl:Nat→List AV→Mem→Option (AV×Mem)} {N:Nat}
end
section
variable {t:Nat} {N:Nat}
end
def nc6 (op so nn mm:Int) (nv kv:AV):List AV:=[.int .i64 op,nv,.int .i64 so,.int .i64 nn,.int .i64 mm,kv]
def celL:AV→List AV
 | .agg cs=>cs
 |_=>[]
def flC (vs:List AV):List AV:=(vs.map celL).flatten
def NmAt (ar:List Arr) (ns:List Str) (lo m:Nat) (nv:AV):Prop:=(ns=[]∧nv=.slc .full []∧lo≤m)∨(ns≠[]∧lo<m∧nv=.osl lo 0 0 ns.length∧ar[lo]? =some (.wr 0 9 .sc (ns.map .str)))
def KvAt (ar:List Arr) (n b:Nat) (vs:List AV) (kv:AV) (m hi:Nat):Prop:=(n=0∧kv=.slc .full [])∨(∃k,n=k+1∧kv=.osl b k 0 (k+1)∧ar[b]? =some (.wr k 40 (.ag 6) (flC vs))∧m≤b∧b<hi)
mutual
def Ld (ar:List Arr):Nd→Nat→Nat→AV→Prop
 | .mk op ns so nn mm l,lo,hi,v=> ∃nv kv m b vs,v=.agg (nc6 op so nn mm nv kv)∧NmAt ar ns lo m nv∧m≤hi∧KvAt ar l.length b vs kv m hi∧LdL ar l m hi b vs
def LdL (ar:List Arr):List Nd→Nat→Nat→Nat→List AV→Prop
 |[],lo,hi,b,vs=>vs=[]
 |x::xs,lo,hi,b,vs=> ∃v vs' l1 h1,vs=v::vs'∧lo≤l1∧l1≤h1∧h1≤hi∧(b<l1∨h1≤b)∧Ld ar x l1 h1 v∧LdL ar xs h1 hi b vs'
end
theorem NmAt.frame {ar ar':List Arr} {ns:List Str} {lo m:Nat} {nv:AV} (hf: ∀i,lo≤i→i<m→ar'[i]? =ar[i]?) (h:NmAt ar ns lo m nv):NmAt ar' ns lo m nv:=by
 rcases h with h|⟨h1,h2,h3,h4⟩
 ·exact .inl h
 ·exact .inr ⟨h1,h2,h3,by rw[hf lo (Nat.le_refl _) h2];exact h4⟩
theorem KvAt.frame {ar ar':List Arr} {n b:Nat} {vs:List AV} {kv:AV} {m hi:Nat} (hf: ∀i,m≤i→i<hi→ar'[i]? =ar[i]?) (h:KvAt ar n b vs kv m hi):KvAt ar' n b vs kv m hi:=by
 rcases h with h|⟨k,h1,h2,h3,h4,h5⟩
 ·exact .inl h
 ·exact .inr ⟨k,h1,h2,by rw[hf b h4 h5];exact h3,h4,h5⟩
mutual
theorem Ld.frame {ar ar':List Arr}: ∀(n:Nd) {lo hi:Nat} {v:AV},(∀i,lo≤i→i<hi→ar'[i]? =ar[i]?)→Ld ar n lo hi v→Ld ar' n lo hi v
 | .mk op ns so nn mm l,lo,hi,v,hf,h=>by
  simp only[Ld]at h⊢;obtain⟨nv,kv,m,b,vs,h1,h2,h3,h4,h5⟩:=h;have hm:lo≤m:=by rcases h2 with⟨_,_,h⟩|⟨_,h,_⟩<;>omega
  exact⟨nv,kv,m,b,vs,h1,h2.frame (fun i a c=>hf i a (by omega)),h3,h4.frame (fun i a c=>hf i (by omega) c),LdL.frame l (fun i a c=>hf i (by omega) c) h5⟩
theorem LdL.frame {ar ar':List Arr}: ∀(l:List Nd) {lo hi b:Nat} {vs:List AV},(∀i,lo≤i→i<hi→ar'[i]? =ar[i]?)→LdL ar l lo hi b vs→LdL ar' l lo hi b vs
 |[],lo,hi,b,vs,hf,h=>by simp only[LdL]at h⊢;exact h
 |x::xs,lo,hi,b,vs,hf,h=>by
  simp only[LdL]at h⊢;obtain⟨v,vs',l1,h1,e,a1,a2,a3,a4,a5,a6⟩:=h;exact⟨v,vs',l1,h1,e,a1,a2,a3,a4,Ld.frame x (fun i a c=>hf i (by omega) (by omega)) a5,LdL.frame xs (fun i a c=>hf i (by omega) c) a6⟩
end
theorem LdL.snoc {ar:List Arr} {x:Nd} {v:AV}: ∀(l:List Nd) {lo h0 l1 h1 hi b:Nat} {vs:List AV},LdL ar l lo h0 b vs→lo≤h0→h0≤l1→l1≤h1→h1≤hi→(b<l1∨h1≤b)→Ld ar x l1 h1 v→LdL ar (l++[x]) lo hi b (vs++[v])
 |[],lo,h0,l1,h1,hi,b,vs,h,g0,g1,g2,g3,g4,g5=>by
  simp only[LdL]at h;subst h;simp only[List.nil_append,LdL];exact⟨v,[],l1,h1,rfl,by omega,g2,g3,g4,g5,rfl⟩
 |y::ys,lo,h0,l1,h1,hi,b,vs,h,g0,g1,g2,g3,g4,g5=>by
  simp only[LdL]at h;obtain⟨u,us,l2,h2,rfl,a1,a2,a3,a4,a5,a6⟩:=h;simp only[List.cons_append,LdL];exact⟨u,us++[v],l2,h2,rfl,a1,a2,by omega,a4,a5,LdL.snoc ys a6 a3 g1 g2 g3 g4 g5⟩
mutual
def ncl:Nd→Bool
 | .mk op _ _ _ _ l=>!(op==10)&&nclL l
def nclL:List Nd→Bool
 |[]=>true
 |x::xs=>ncl x&&nclL xs
end
mutual
def cok (w:List Mc):Nd→Prop
 | .mk op ns _ _ _ l=>(op=10→ ∃s xs d,ns=s::xs∧fnd w s=some d∧xs.length=d.ps.length)∧cokL w l
def cokL (w:List Mc):List Nd→Prop
 |[]=>True
 |x::xs=>cok w x∧cokL w xs
end
mutual
theorem wlk_cok {w:List Mc} {all:Bool}: ∀(n:Nd) (env:List Vr),ndE n=0→wlk w all n env=0→cok w n
 | .mk op ns so nn mm l,env,hv,h=>by
  rw[wlk_eq]at h;by_cases hs:stE w all (.mk op ns so nn mm l) env=0
  ·rw[if_pos hs]at h;simp only[cok];refine⟨fun h10=>?_,wlkL_cok l _ (fun x hx=>ndE_kid hv hx) h⟩;unfold stE at hs;simp only[Nd.op,Nd.ns,h10,if_true]at hs;have hne:=vd_ns hv (.inl h10);simp only[Nd.ns]at hne;cases ns with
   |nil=>exact absurd rfl hne
   |cons s xs=>
    simp only[callE]at hs;cases hf:fnd w s with
    |none=>rw[hf]at hs;simp at hs
    |some d=>
     rw[hf]at hs;refine⟨s,xs,d,rfl,hf,?_⟩;by_cases hl:xs.length=d.ps.length
     ·exact hl
     ·simp[hl]at hs
  ·rw[if_neg hs]at h;exact absurd h hs
theorem wlkL_cok {w:List Mc} {all:Bool}: ∀(l:List Nd) (env:List Vr),(∀x∈l,ndE x=0)→wlkL w all l env=0→cokL w l
 |[],_,_,_=>by simp only[cokL]
 |x::xs,env,hv,h=>by
  simp only[wlkL]at h;by_cases hx:wlk w all x env=0
  ·rw[if_pos hx]at h;simp only[cokL];exact⟨wlk_cok x env (hv x (by simp)) hx,wlkL_cok xs env (fun y hy=>hv y (by simp[hy])) h⟩
  ·rw[if_neg hx]at h;exact absurd h hx
end
abbrev Kn:=List (Str×Nat×Nat)
def Wf (w:List Mc):Prop:= ∀u d v,w=u++d::v→may u d=0
theorem wf_nil:Wf []:=by
 intro u d v h;cases u<;>simp at h
theorem Wf.snoc {w:List Mc} {d:Mc} (h:Wf w) (hm:may w d=0):Wf (w++[d]):=by
 intro u e v he;rcases List.eq_nil_or_concat v with rfl|⟨v',x,rfl⟩
 ·obtain⟨h1,h2⟩:=List.append_inj_left' he rfl,List.append_inj_right' he rfl;simp at h2;rw[←h1,←h2];exact hm
 ·have he':w++[d]=(u++e::v')++[x]:=by simpa using he
  exact h u e v' (List.append_inj_left' he' rfl)
theorem Wf.left {u v:List Mc} (h:Wf (u++v)):Wf u:=by
 intro a d b he;exact h a d (b++v) (by rw[he];simp)
structure Md (u:List Mc) (d:Mc):Prop where
 id:isId d.nm=true
 new:fnd u d.nm=none
 ps:parE d.ps=0
 bd:chk d.bd=0
 wl:wlk u true d.bd d.ps=0
theorem may_md {u:List Mc} {d:Mc} (h:may u d=0):Md u d:=by
 have hn:=(may_none h).1;unfold may at h;split at h
 ·cases h
 ·split at h
  ·cases h
  ·rename_i h2
   split at h
   ·cases h
   ·split at h
    ·split at h
     ·rename_i h4 h5
      exact⟨by simpa using h2,hn,h4,h5,h⟩
     ·rename_i h4 h5
      exact absurd h h5
    ·rename_i h4
     exact absurd h h4
theorem Md.vd {u:List Mc} {d:Mc} (h:Md u d):ndE d.bd=0:=chk_vd h.bd
theorem Md.cok {u:List Mc} {d:Mc} (h:Md u d):Ae.cok u d.bd:=wlk_cok d.bd d.ps h.vd h.wl
theorem ns_le {n:Nd} (h:ndE n=0):n.ns.length≤17:=by
 cases vk_of h with
 |cst op h=>simp[nd,Nd.ns]
 |two op x y h hx hy=>simp[Nd.ns]
 |lab x k hx h=>simp[Nd.ns]
 |smd x k m hx h=>simp[Nd.ns]
 |sng x hx=>simp[Nd.ns]
 |cal x xs hl hx=>exact hl
 |not a ha=>simp[nd,Nd.ns]
 |bin op a b h ha hb=>simp[nd,Nd.ns]
 |qnt op x so a h hx hs ha=>simp[qn,Nd.ns]
structure Wm (l w:List Mc):Prop where
 wf:Wf w
 mem: ∀d∈w,d∈l
section
variable {G:Nat→Option AV} {cl:Caller} {yl:Nat→List AV→Mem→Option (AV×Mem)} {N:Nat}
def S17w (l:List Mc) (O:List Obj) (R:List Arr) (i:Nat) (st:St):Prop:=
 ∃O1 R1 a w,st=⟨[(0,.slc .shared (l.map mcv)),(4,.ptr O.length 0),(5,.slc (.own R.length) (w.map mcv)),(6,.int .i64 (i:Int))],⟨O1,R1⟩,[]⟩∧SetAt O1 R1 O.length a w∧R1[R.length]? =some (rowA w.length 34 8)∧(∀b,a=some b→R.length<b)∧Gd w∧Old O O1∧Old R R1∧Wm l w∧w.length≤i
theorem loop17w (l:List Mc) (hl:l.length≤5) (hm: ∀d∈l,OkM d) (hN:6<N) (h:Cs3 cl l) (O:List Obj) (R:List Arr):
  ∃e s',iter false (evalC G false cl yl N c17b0) ⟨[0,4,5,6],[(5,none),(6,none)],true⟩ (O.length+1) (R.length+1) N ⟨[(0,.slc .shared (l.map mcv)),(4,.ptr O.length 0),(5,.slc (.own R.length) []),(6,.int .i64 0)],⟨O++[.cells [.slc .full []]],R++[.app 0 0 0]⟩,[]⟩=some (e,s')∧e≠ .normal∧
   (e=.exit 0∧s'.mks=[]∧ ∃O1 R1 a w,s'.m=⟨O1,R1⟩∧look 4 s'.ts=.ptr O.length 0∧look 5 s'.ts=.slc (.own R.length) (w.map mcv)∧SetAt O1 R1 O.length a w∧(∀b,a=some b→R.length<b)∧Gd w∧Old O O1∧Old R R1∧Wm l w∧w.length≤l.length):=by
 obtain⟨h8,h9,h10,h11,h13,h12y,h12n,h14,h15,h16⟩:=h;refine(iter_inv (mu:=false) (step:=evalC G false cl yl N c17b0) (an:=⟨[0,4,5,6],[(5,none),(6,none)],true⟩) (k:=O.length+1) (m:=R.length+1) (N:=N) l (fun _=>(none:Option Unit)) (S17w l O R)
  (fun r e s'=>e=.exit 0∧s'.mks=[]∧ ∃O1 R1 a w,s'.m=⟨O1,R1⟩∧look 4 s'.ts=.ptr O.length 0∧look 5 s'.ts=.slc (.own R.length) (w.map mcv)∧SetAt O1 R1 O.length a w∧(∀b,a=some b→R.length<b)∧Gd w∧Old O O1∧Old R R1∧Wm l w∧w.length≤l.length) (by omega)
  ⟨O++[.cells [.slc .full []]],R++[.app 0 0 0],none,[],rfl,.nil (by simp),by simp[rowA],fun b h=>(by cases h),gd_nil,.app _ _,.app _ _,⟨wf_nil,by simp⟩,Nat.le_refl _⟩ ?_ ?_)
 ·rintro i d st hx hi ⟨O1,R1,a,w,rfl,hs,hr,ha,hg,hO,hR,hwf,hwl⟩;have hx':=(List.getElem?_eq_some_iff.1 hx).2;have hd:=mem_of_get hx;have w1:=wrap_succ (i:=i) (by omega);have k11:=fun M=>h11 w d (.own R.length) M hg hd (by simp);have k13:=h13 d hd;by_cases hc:may w d=0
  ·obtain⟨O',R',a',k12,hA⟩:=h12y w d O1 R1 O.length a hs hg hd hc;rw[hc]at k11;have hr':R'[R.length]? =some (rowA w.length 34 8):=hA.row R.length _ (fun e=>by have:=ha R.length e.symm;omega) hr;have hRlen:R.length<R1.length:=(List.getElem?_eq_some_iff.1 hr).1;have ha': ∀b,a'=some b→R.length<b:=by
    intro b hb;rcases hA.own with e|⟨-,k,hk,e⟩
    ·rw[e]at hb;exact ha b hb
    ·rw[e]at hb;cases hb;omega
   have hg':=hg.snoc hc (hm d hd);have hq:(w.length+1)*120≤140737488355328:=by have:=hg.len;omega
   have hq2:w.length+1≤140737488355328:=by have:=hg.len;omega
   have hz:=szOk_mcvL w;have hz1:=szOk_mcv d [];have hrr:w=[]∨ ¬w=[]:=Decidable.em _;simp only[rowA]at hr';have fin:S17w l O R (i+1) ⟨[(0,.slc .shared (l.map mcv)),(4,.ptr O.length 0),(5,.slc (.own R.length) (w.map mcv++[mcv d])),(6,.int .i64 ((i+1:Nat):Int))],⟨O',R'.set R.length (.app (w.length+1) 34 8)⟩,[]⟩:=by
    have hne:a'≠some R.length:=fun e=>by have:=ha' _ e;omega
    refine⟨O',R'.set R.length (.app (w.length+1) 34 8),a',w++[d],by simp,hA.set.setRow hne _,?_,ha',hg',?_,?_,⟨hwf.wf.snoc hc,fun x hx=>by
     rcases List.mem_append.1 hx with hx|hx
     ·exact hwf.mem x hx
     ·simp at hx;rw[hx];exact hd⟩,by simp;omega⟩
    ·have:R.length<R'.length:=(List.getElem?_eq_some_iff.1 hr').1;simp[rowA,this]
    ·intro j o hj;exact hA.obj j o (by have:=(List.getElem?_eq_some_iff.1 hj).1;omega) (hO j o hj)
    ·intro j r hj;have hjl:=(List.getElem?_eq_some_iff.1 hj).1;rw[List.getElem?_set_ne (by omega)];exact hA.row j r (fun e=>by have:=ha j e.symm;omega) (hR j r hj)
   simp -implicitDefEqProofs [c17b0,hi,hx',w1,k11,k13,k12,hr',hq,hq2,hz,hz1,hrr];simpa using fin
  ·obtain⟨X,k12⟩:=h12n w d O1 R1 O.length a hs hg hd hc;have hc':(may w d==0)=false:=by simp[hc]
   have fin:S17w l O R (i+1) ⟨[(0,.slc .shared (l.map mcv)),(4,.ptr O.length 0),(5,.slc (.own R.length) (w.map mcv)),(6,.int .i64 ((i+1:Nat):Int))],⟨O1,R1⟩,[]⟩:=
    ⟨O1,R1,a,w,rfl,hs,hr,ha,hg,hO,hR,hwf,by omega⟩
   simp -implicitDefEqProofs [c17b0,hi,hx',w1,k11,hc'];simpa using fin
 ·rintro st ⟨O1,R1,a,w,rfl,hs,hr,ha,hg,hO,hR,hwf,hwl⟩;simp -implicitDefEqProofs [c17b0];exact⟨O1,R1,⟨rfl,rfl⟩,a,w,rfl,hs,ha,hg,hO,hR,hwf,hwl⟩
theorem ev17w (l:List Mc) (hl:l.length≤5) (hm: ∀d∈l,OkM d) (hN:6<N) (h:Cs3 cl l) (O:List Obj) (R:List Arr):
  ∃X Y a w,callA G false cl yl N c17 [.slc .shared (l.map mcv)] ⟨O,R⟩=some (.tup [.ptr O.length 0,.slc (.own R.length) (w.map mcv)],⟨O++X,R++Y⟩)∧SetAt (O++X) (R++Y) O.length a w∧(∀b,a=some b→R.length<b)∧Gd w∧Wm l w∧w.length≤l.length:=by
 obtain⟨e,⟨ts,M,mks⟩,h1,-,rfl,rfl,O1,R1,a,w,rfl,h3,h4,hs,ha,hg,hO,hR,hwf,hwl⟩:=loop17w (G:=G) (cl:=cl) (yl:=yl) (N:=N) l hl hm hN h O R;obtain⟨X,rfl⟩:=hO.pre;obtain⟨Y,rfl⟩:=hR.pre;have k10:=h.h10 O R;simp at h3 h4;refine⟨X,Y,a,w,?_,hs,ha,hg,hwf,hwl⟩;simp -implicitDefEqProofs [c17,k10,h1,h3,h4]
end
def tkE (l:List Str):List (AV×AV):=l.map fun s=>(.str s,.bool true)
@[simp] theorem scr_tkE (k m:Nat) (l:List Str):(tkE l).map (fun e=>(e.1,scr k m e.2))=tkE l:=by simp[tkE]
def snm (k:Int):Str:=if k=0 then [118,101,114,116,101,120]else if k=1 then [101,100,103,101]else if k=2 then [115,101,116]else if k=3 then [101,100,103,101,115]else []
section
variable {t:Nat} {cl:Caller} {yl:Nat→List AV→Mem→Option (AV×Mem)} {N:Nat}
theorem ev47 (k:Int):pureA (GG t) false cl yl N c47 [.int .i64 k]=some (.str (snm k),none):=by
 have hG:GG t 0=some (.agg [.str [118,101,114,116,101,120],.str [101,100,103,101],.str [115,101,116],.str [101,100,103,101,115]]):=rfl;by_cases h1:k<0
 ·have e0: ¬k=0:=by omega
  have e1: ¬k=1:=by omega
  have e2: ¬k=2:=by omega
  have e3: ¬k=3:=by omega
  simp -implicitDefEqProofs [c47,h1,snm,e0,e1,e2,e3]
 ·by_cases h2:4≤k
  ·have e0: ¬k=0:=by omega
   have e1: ¬k=1:=by omega
   have e2: ¬k=2:=by omega
   have e3: ¬k=3:=by omega
   simp -implicitDefEqProofs [c47,h1,h2,snm,e0,e1,e2,e3]
  ·have:k=0∨k=1∨k=2∨k=3:=by omega
   rcases this with rfl|rfl|rfl|rfl<;>simp -implicitDefEqProofs [c47,hG,snm]
end
section
variable {G:Nat→Option AV} {cl:Caller} {yl:Nat→List AV→Mem→Option (AV×Mem)} {N:Nat}
end
structure Fro (p:Nat) (O O':List Obj):Prop where
 len:O.length≤O'.length
 get: ∀i,i<O.length→i≠p→O'[i]? =O[i]?
theorem Fro.refl (p:Nat) (O:List Obj):Fro p O O:=⟨Nat.le_refl _,fun _ _ _=>rfl⟩
theorem Fro.trans {p:Nat} {O O1 O2:List Obj} (h:Fro p O O1) (k:Fro p O1 O2):Fro p O O2:=
 ⟨Nat.le_trans h.len k.len,fun i hi hp=>(k.get i (Nat.lt_of_lt_of_le hi h.len) hp).trans (h.get i hi hp)⟩
theorem Fro.app (p:Nat) (O X:List Obj):Fro p O (O++X):=⟨by simp,fun i hi _=>List.getElem?_append_left hi⟩
theorem Fro.set (p:Nat) (O:List Obj) (x:Obj):Fro p O (O.set p x):=⟨by simp,fun i hi hp=>List.getElem?_set_ne (by omega)⟩
theorem Fro.old {p:Nat} {O O':List Obj} (h:Fro p O O') {i:Nat} {x:Obj} (hi:O[i]? =some x) (hp:i≠p):O'[i]? =some x:=by
 rw[h.get i (List.getElem?_eq_some_iff.1 hi).1 hp];exact hi
structure TkAt (O:List Obj) (c p id tq:Nat) (tk:List Str):Prop where
 c:O[c]? =some (.cells [.ptr p 0])
 p:O[p]? =some (.cells [.ptr id 0,.map tq,.int .i64 0])
 tq:O[tq]? =some (.map (tkE tk))
theorem TkAt.app {O:List Obj} {c p id tq:Nat} {tk:List Str} (h:TkAt O c p id tq tk) (X:List Obj):TkAt (O++X) c p id tq tk:=
 ⟨get_old h.c X,get_old h.p X,get_old h.tq X⟩
theorem TkAt.nec {O:List Obj} {c p id tq:Nat} {tk:List Str} (h:TkAt O c p id tq tk):c≠tq∧p≠tq:=by
 refine⟨fun e=>?_,fun e=>?_⟩
 ·have:=h.c;rw[e,h.tq]at this;simp at this
 ·have:=h.p;rw[e,h.tq]at this;simp at this
theorem TkAt.fro {O O':List Obj} {c p id tq:Nat} {tk tk':List Str} (h:TkAt O c p id tq tk) (k:Fro tq O O') (ht:O'[tq]? =some (.map (tkE tk'))):TkAt O' c p id tq tk':=
 ⟨k.old h.c h.nec.1,k.old h.p h.nec.2,ht⟩
section
variable {G:Nat→Option AV} {cl:Caller} {yl:Nat→List AV→Mem→Option (AV×Mem)} {N:Nat}
end
def msz (a:Nat):Int:=((min a 1073741824:Nat):Int)
def knV (a:Nat×Nat):AV:=.agg [.int .i64 (msz a.1),.int .i64 (msz a.2)]
def knE (kn:Kn):List (AV×AV):=kn.map fun p=>(.str p.1,knV p.2)
structure MsAt (O:List Obj) (a b m:Nat) (kn:Kn):Prop where
 fa:O[a]? =some (.cells [.map m])
 fb:O[b]? =some (.cells [.fn 123 [] [.ptr a 0,.ptr b 0]])
 fm:O[m]? =some (.map (knE kn))
theorem MsAt.app {O:List Obj} {a b m:Nat} {kn:Kn} (h:MsAt O a b m kn) (X:List Obj):MsAt (O++X) a b m kn:=⟨get_old h.fa X,get_old h.fb X,get_old h.fm X⟩
section
variable {G:Nat→Option AV} {cl:Caller} {yl:Nat→List AV→Mem→Option (AV×Mem)} {N:Nat}
end
structure Ps where
 i:Nat
 e:Int
 o:Nat
def adv (s:Ps):Ps:=⟨s.i+1,s.e,s.o⟩
def wrg (s:Ps) (c:Int):Ps:=if s.e=0 then⟨s.i,c,s.o⟩else s
def ndZ:Nd:=.mk 0 [] 0 0 0 []
def wTrue:Str:=[116,114,117,101]
def wFalse:Str:=[102,97,108,115,101]
def wSize:Str:=[115,105,122,101]
def wOne:Str:=[111,110,101]
def wNot:Str:=[110,111,116]
def wSome:Str:=[115,111,109,101]
def wEvery:Str:=[101,118,101,114,121]
def wL:Str:=[40]
def wR:Str:=[41]
def wCom:Str:=[44]
def wCol:Str:=[58]
def wIs:Str:=[105,115]
def wMod:Str:=[109,111,100]
def wAnd:Str:=[97,110,100]
def wOr:Str:=[111,114]
def wImp:Str:=[105,109,112,108,105,101,115]
def wIff:Str:=[105,102,102]
def wRel:List Str:=[[61],[105,110],[115,117,98],[97,100,106],[111,110]]
section
variable (L:List Tk)
def tkA (i:Nat):Tk:=L.getD i ⟨0,[],0,0,0⟩
def isS (s:Ps) (w:Str):Bool:=decide (s.e=0)&&(decide ((tkA L s.i).k=3)||decide ((tkA L s.i).k=4))&&((tkA L s.i).tx==w)
def tksS (s:Ps) (w:Str):Ps:=if isS L s w then adv s else s
def needS (s:Ps) (w:Str):Ps:=if isS L s w then adv s else wrg s 3
def nameS (s:Ps):Str×Ps:=
 if(if(tkA L s.i).k=1 then s else wrg s 3).e=0 then((tkA L s.i).tx,adv s)else([],if(tkA L s.i).k=1 then s else wrg s 3)
def numT (s:Ps) (lo hi:Int):Ps:=if(tkA L s.i).k=2 then(if(tkA L s.i).v<lo∨hi<(tkA L s.i).v then wrg s 2 else s)else wrg s 3
def numS (s:Ps) (lo hi:Int):Int×Ps:=if(numT L s lo hi).e=0 then((tkA L s.i).v,adv s)else(0,numT L s lo hi)
def srtL (s:Ps):List Int→Int×Ps
 |[]=>(0,wrg s 3)
 |k::ks=>if isS L s (snm k)then(k,adv s)else srtL s ks
def srtS (s:Ps):Int×Ps:=srtL L s [0,1,2,3]
def argS (f:Str):Nat→List Str→Ps→Option (List Str×Ps)
 |0,_,_=>none
 |h+1,ns,s=>if s.e=0 then
   (if(tkA L s.i).k=1∧ns.length=17 then some (ns,wrg s 8)else
    if isS L (nameS L s).2 wCom then argS f h (ns++[(nameS L s).1]) (adv (nameS L s).2)else some (ns++[(nameS L s).1],needS L (nameS L s).2 wR))
  else some (ns,s)
def calS (f:Str) (h:Nat) (s:Ps):Option (Nd×Ps):=
 if isS L (adv s) wR then some (.mk 10 [f] 0 0 0 [],adv (adv s))else(argS L f h [f] (adv s)).map fun r=>(.mk 10 r.1 0 0 0 [],r.2)
def relS (a:Str) (s:Ps):Int→List Str→Nd×Ps
 |_,[]=>(ndZ,wrg s 3)
 |k,w::ws=>if isS L s w then(.mk k [a,(nameS L (adv s)).1] 0 0 0 [],(nameS L (adv s)).2)else relS a s (k+1) ws
def atmS (h:Nat) (s:Ps):Option (Nd×Ps):=
 if isS L (nameS L s).2 wL then calS L (nameS L s).1 h (nameS L s).2
 else if isS L (nameS L s).2 wIs then some (.mk 7 [(nameS L s).1] 0 (numS L (adv (nameS L s).2) 0 7).1 0 [],(numS L (adv (nameS L s).2) 0 7).2)
 else some (relS L (nameS L s).1 (nameS L s).2 2 wRel)
def sizS (s:Ps):Nd×Ps:=
 let a:=nameS L (adv s)
 let m:=numS L (needS L a.2 wMod) 1 64
 let k:=numS L (needS L m.2 wIs) 0 (m.1 - 1)
 (.mk 8 [a.1] 0 k.1 m.1 [],k.2)
def oneS (s:Ps):Nd×Ps:=(.mk 9 [(nameS L (adv s)).1] 0 0 0 [],(nameS L (adv s)).2)
def lvl (s:Ps) (f:Ps→Option (Nd×Ps)):Option (Nd×Ps):=
 if s.o=256 then some (ndZ,wrg s 16)else(f ⟨s.i+1,s.e,s.o+1⟩).map fun r=>(r.1,⟨r.2.i,r.2.e,r.2.o - 1⟩)
def chn:List Nd→Nd
 |[]=>ndZ
 |[n]=>n
 |n::l=>nd 14 [n,chn l]
inductive Kd where
 |opd|ands|ors|imp|fml
 |tAnd (n:Nd)|tOr (n:Nd)|tIff (n:Nd)|tImp (l:List Nd)
def pr':Nat→Kd→Ps→Option (Nd×Ps)
 |0,_,_=>none
 |h+1,.opd,s=>if((tkA L s.i).k=3∨(tkA L s.i).k=4)∧s.e=0 then
   (if(tkA L s.i).tx=wTrue then some (ndZ,adv s)
   else if(tkA L s.i).tx=wFalse then some (nd 1 [],adv s)
   else if(tkA L s.i).tx=wSize then some (sizS L s)
   else if(tkA L s.i).tx=wOne then some (oneS L s)
   else if(tkA L s.i).tx=wNot then lvl s fun s1=>(pr' h .opd s1).map fun r=>(nd 11 [r.1],r.2)
   else if(tkA L s.i).tx=wSome then lvl s fun s1=>(pr' h .fml (needS L (nameS L (srtS L s1).2).2 wCol)).map fun r=>(qn 16 (nameS L (srtS L s1).2).1 (srtS L s1).1 r.1,r.2)
   else if(tkA L s.i).tx=wEvery then lvl s fun s1=>(pr' h .fml (needS L (nameS L (srtS L s1).2).2 wCol)).map fun r=>(qn 17 (nameS L (srtS L s1).2).1 (srtS L s1).1 r.1,r.2)
   else if(tkA L s.i).tx=wL then lvl s fun s1=>(pr' h .fml s1).map fun r=>(r.1,needS L r.2 wR)
   else atmS L h s)
  else atmS L h s
 |h+1,.ands,s=>(pr' h .opd s).bind fun r=>pr' h (.tAnd r.1) r.2
 |h+1,.tAnd n,s=>if isS L s wAnd then(pr' h .opd (adv s)).bind fun r=>pr' h (.tAnd (nd 12 [n,r.1])) r.2 else some (n,s)
 |h+1,.ors,s=>(pr' h .ands s).bind fun r=>pr' h (.tOr r.1) r.2
 |h+1,.tOr n,s=>if isS L s wOr then(pr' h .ands (adv s)).bind fun r=>pr' h (.tOr (nd 13 [n,r.1])) r.2 else some (n,s)
 |h+1,.imp,s=>(pr' h .ors s).bind fun r=>pr' h (.tImp [r.1]) r.2
 |h+1,.tImp l,s=>if isS L s wImp then(pr' h .ors (adv s)).bind fun r=>pr' h (.tImp (l++[r.1])) r.2 else some (chn l,s)
 |h+1,.fml,s=>(pr' h .imp s).bind fun r=>pr' h (.tIff r.1) r.2
 |h+1,.tIff n,s=>if isS L s wIff then(pr' h .imp (adv s)).bind fun r=>pr' h (.tIff (nd 15 [n,r.1])) r.2 else some (n,s)
end
structure Lok (L:List Tk):Prop where
 pos:0<L.length
 last: ∀i,i+1=L.length→(tkA L i).k=0
structure Stp (L:List Tk) (s s':Ps):Prop where
 o:s'.o=s.o
 le:s.i≤s'.i
 lt:s.i<L.length→s'.i<L.length
 er:s.e≠0→s'=s
section
variable {L:List Tk}
theorem Stp.refl (s:Ps):Stp L s s:=⟨rfl,Nat.le_refl _,id,fun _=>rfl⟩
theorem Stp.trans {s s1 s2:Ps} (h:Stp L s s1) (k:Stp L s1 s2):Stp L s s2:=
 ⟨k.o.trans h.o,Nat.le_trans h.le k.le,fun x=>k.lt (h.lt x),fun x=>by have e:=h.er x;subst e;exact k.er x⟩
theorem Stp.e0 {s s':Ps} (h:Stp L s s') (k:s'.e=0):s.e=0:=by
 apply Classical.byContradiction;intro hn;have:=h.er hn;subst this;exact hn k
theorem wrg_stp (s:Ps) (c:Int):Stp L s (wrg s c):=by
 unfold wrg;split
 ·exact⟨rfl,Nat.le_refl _,id,fun h=>absurd (by assumption) h⟩
 ·exact .refl s
theorem wrg_ne {s:Ps} {c:Int} (hc:c≠0):(wrg s c).e≠0:=by
 unfold wrg;split
 ·exact hc
 ·assumption
theorem wrg_i (s:Ps) (c:Int):(wrg s c).i=s.i:=by unfold wrg;split<;>rfl
theorem lt_of_k (hL:Lok L) {i:Nat} (hi:i<L.length) (hk:(tkA L i).k≠0):i+1<L.length:=by
 apply Classical.byContradiction;intro hn;exact hk (hL.last i (by omega))
theorem adv_stp (hL:Lok L) {s:Ps} (he:s.e=0) (hk:(tkA L s.i).k≠0):Stp L s (adv s):=
 ⟨rfl,by simp[adv],fun h=>lt_of_k hL h hk,fun h=>absurd he h⟩
theorem isS_iff {s:Ps} {w:Str}:isS L s w=true↔s.e=0∧((tkA L s.i).k=3∨(tkA L s.i).k=4)∧(tkA L s.i).tx=w:=by
 unfold isS;simp[and_assoc]
theorem isS_k {s:Ps} {w:Str} (h:isS L s w=true):(tkA L s.i).k≠0:=by
 have:=(isS_iff.1 h).2.1;omega
theorem isS_adv (hL:Lok L) {s:Ps} {w:Str} (h:isS L s w=true):Stp L s (adv s):=adv_stp hL (isS_iff.1 h).1 (isS_k h)
theorem needS_stp (hL:Lok L) (s:Ps) (w:Str):Stp L s (needS L s w):=by
 unfold needS;split
 ·exact isS_adv hL (by assumption)
 ·exact wrg_stp s 3
theorem nameS_stp (hL:Lok L) (s:Ps):Stp L s (nameS L s).2:=by
 unfold nameS;by_cases hk:(tkA L s.i).k=1
 ·simp only[hk,if_true];by_cases he:s.e=0
  ·simp only[he,if_true];exact adv_stp hL he (by omega)
  ·simp only[he,if_false];exact .refl s
 ·simp only[hk,if_false,wrg_ne (s:=s) (c:=3) (by decide)];exact wrg_stp s 3
theorem numT_stp (s:Ps) (lo hi:Int):Stp L s (numT L s lo hi):=by
 unfold numT;split
 ·split
  ·exact wrg_stp s 2
  ·exact .refl s
 ·exact wrg_stp s 3
theorem numT_ok {s:Ps} {lo hi:Int} (h:(numT L s lo hi).e=0):numT L s lo hi=s∧(tkA L s.i).k=2:=by
 unfold numT at h⊢;split at h
 ·split at h
  ·exact absurd h (wrg_ne (by decide))
  ·rename_i h1 h2
   rw[if_pos h1,if_neg h2];exact⟨rfl,h1⟩
 ·exact absurd h (wrg_ne (by decide))
theorem numS_stp (hL:Lok L) (s:Ps) (lo hi:Int):Stp L s (numS L s lo hi).2:=by
 unfold numS;split
 ·rename_i h
  obtain⟨h1,h2⟩:=numT_ok h;rw[h1]at h;exact adv_stp hL h (by omega)
 ·exact numT_stp s lo hi
theorem srtL_stp (hL:Lok L) (s:Ps): ∀ks:List Int,Stp L s (srtL L s ks).2
 |[]=>wrg_stp s 3
 |k::ks=>by
  unfold srtL;split
  ·exact isS_adv hL (by assumption)
  ·exact srtL_stp hL s ks
theorem argS_stp (hL:Lok L) (f:Str): ∀(h:Nat) (ns:List Str) (s:Ps) (r:List Str×Ps),argS L f h ns s=some r→Stp L s r.2
 |0,_,_,_,h=>by simp[argS]at h
 |h+1,ns,s,r,e=>by
  unfold argS at e;split at e
  ·split at e
   ·cases e;exact wrg_stp s 8
   ·split at e
    ·exact(nameS_stp hL s).trans ((isS_adv hL (by assumption)).trans (argS_stp hL f h _ _ r e))
    ·cases e;exact(nameS_stp hL s).trans (needS_stp hL _ _)
  ·cases e;exact .refl s
theorem relS_stp (hL:Lok L) (a:Str) (s:Ps): ∀(k:Int) (ws:List Str),Stp L s (relS L a s k ws).2
 |k,[]=>wrg_stp s 3
 |k,w::ws=>by
  unfold relS;split
  ·exact(isS_adv hL (by assumption)).trans (nameS_stp hL _)
  ·exact relS_stp hL a s (k+1) ws
theorem calS_stp (hL:Lok L) {f:Str} {h:Nat} {s:Ps} {r:Nd×Ps} (hs:isS L s wL=true) (e:calS L f h s=some r):Stp L s r.2:=by
 unfold calS at e;split at e
 ·cases e;exact(isS_adv hL hs).trans (isS_adv hL (by assumption))
 ·simp only[Option.map_eq_some_iff]at e;obtain⟨q,hq,rfl⟩:=e;exact(isS_adv hL hs).trans (argS_stp hL f h _ _ _ hq)
theorem atmS_stp (hL:Lok L) {h:Nat} {s:Ps} {r:Nd×Ps} (e:atmS L h s=some r):Stp L s r.2:=by
 unfold atmS at e;split at e
 ·exact(nameS_stp hL s).trans (calS_stp hL (by assumption) e)
 ·split at e
  ·cases e;exact(nameS_stp hL s).trans ((isS_adv hL (by assumption)).trans (numS_stp hL _ _ _))
  ·cases e;exact(nameS_stp hL s).trans (relS_stp hL _ _ _ _)
theorem sizS_stp (hL:Lok L) {s:Ps} (h:Stp L s (adv s)):Stp L s (sizS L s).2:=
 h.trans ((nameS_stp hL _).trans ((needS_stp hL _ _).trans ((numS_stp hL _ _ _).trans ((needS_stp hL _ _).trans (numS_stp hL _ _ _)))))
theorem oneS_stp (hL:Lok L) {s:Ps} (h:Stp L s (adv s)):Stp L s (oneS L s).2:=h.trans (nameS_stp hL _)
theorem lvl_stp {s:Ps} {f:Ps→Option (Nd×Ps)} {r:Nd×Ps} (hL:Lok L) (he:s.e=0) (hk:(tkA L s.i).k≠0) (hf: ∀r,f ⟨s.i+1,s.e,s.o+1⟩=some r→Stp L ⟨s.i+1,s.e,s.o+1⟩ r.2) (e:lvl s f=some r):Stp L s r.2:=by
 unfold lvl at e;split at e
 ·cases e;exact wrg_stp s 16
 ·simp only[Option.map_eq_some_iff]at e;obtain⟨q,hq,rfl⟩:=e;have h:=hf q hq;refine⟨by have:=h.o;simp only at this⊢;omega,by have:=h.le;simp only at this⊢;omega,fun hi=>h.lt (lt_of_k hL hi hk),fun hn=>absurd he hn⟩
theorem pr_stp (hL:Lok L): ∀(h:Nat) (k:Kd) (s:Ps) (r:Nd×Ps),pr' L h k s=some r→Stp L s r.2
 |0,_,_,_,e=>by simp[pr']at e
 |h+1,k,s,r,e=>by
  have ih:=pr_stp hL h;have bnd: ∀{k1:Kd} {s1:Ps} {g:Nd→Kd},Stp L s s1→((pr' L h k1 s1).bind fun r=>pr' L h (g r.1) r.2)=some r→Stp L s r.2:=by
   intro k1 s1 g hs1 e;rw[Option.bind_eq_some_iff]at e;obtain⟨q,h1,h2⟩:=e;exact hs1.trans ((ih _ _ _ h1).trans (ih _ _ _ h2))
  cases k with
  |opd=>
   simp only[pr']at e;split at e
   ·rename_i hh
    have hk:(tkA L s.i).k≠0:=by omega
    have ha:=adv_stp hL hh.2 hk;split at e
    ·cases e;exact ha
    ·split at e
     ·cases e;exact ha
     ·split at e
      ·cases e;exact sizS_stp hL ha
      ·split at e
       ·cases e;exact oneS_stp hL ha
       ·split at e
        ·refine lvl_stp hL hh.2 hk (fun r hr=>?_) e;simp only[Option.map_eq_some_iff]at hr;obtain⟨q,hq,rfl⟩:=hr;have h2:=ih _ _ q hq;exact h2
        ·split at e
         ·refine lvl_stp hL hh.2 hk (fun r hr=>?_) e;simp only[Option.map_eq_some_iff]at hr;obtain⟨q,hq,rfl⟩:=hr;have h2:=ih _ _ q hq;have h3:=(srtL_stp hL ⟨s.i+1,s.e,s.o+1⟩ [0,1,2,3]).trans ((nameS_stp hL _).trans ((needS_stp hL _ wCol).trans h2));exact h3
         ·split at e
          ·refine lvl_stp hL hh.2 hk (fun r hr=>?_) e;simp only[Option.map_eq_some_iff]at hr;obtain⟨q,hq,rfl⟩:=hr;have h2:=ih _ _ q hq;have h3:=(srtL_stp hL ⟨s.i+1,s.e,s.o+1⟩ [0,1,2,3]).trans ((nameS_stp hL _).trans ((needS_stp hL _ wCol).trans h2));exact h3
          ·split at e
           ·refine lvl_stp hL hh.2 hk (fun r hr=>?_) e;simp only[Option.map_eq_some_iff]at hr;obtain⟨q,hq,rfl⟩:=hr;have h2:=ih _ _ q hq;exact h2.trans (needS_stp hL _ _)
           ·exact atmS_stp hL e
   ·exact atmS_stp hL e
  |ands=>exact bnd (.refl s) e
  |ors=>exact bnd (.refl s) e
  |imp=>
   simp only[pr']at e;exact bnd (g:=fun n=>.tImp [n]) (.refl s) e
  |fml=>exact bnd (.refl s) e
  |tAnd n=>
   simp only[pr']at e;split at e
   ·exact bnd (g:=fun m=>.tAnd (nd 12 [n,m])) (isS_adv hL (by assumption)) e
   ·cases e;exact .refl s
  |tOr n=>
   simp only[pr']at e;split at e
   ·exact bnd (g:=fun m=>.tOr (nd 13 [n,m])) (isS_adv hL (by assumption)) e
   ·cases e;exact .refl s
  |tIff n=>
   simp only[pr']at e;split at e
   ·exact bnd (g:=fun m=>.tIff (nd 15 [n,m])) (isS_adv hL (by assumption)) e
   ·cases e;exact .refl s
  |tImp l=>
   simp only[pr']at e;split at e
   ·exact bnd (g:=fun m=>.tImp (l++[m])) (isS_adv hL (by assumption)) e
   ·cases e;exact .refl s
theorem argS_tot (hL:Lok L) (f:Str): ∀(h:Nat) (ns:List Str) (s:Ps),s.i<L.length→L.length - s.i<h→ ∃r,argS L f h ns s=some r
 |0,_,_,_,h=>by omega
 |h+1,ns,s,hi,hh=>by
  unfold argS;split
  ·split
   ·exact⟨_,rfl⟩
   ·split
    ·rename_i hc
     have h1:=nameS_stp hL s;have h2:=isS_adv hL hc;have h3:=h1.le;have h4:=h1.lt hi;exact argS_tot hL f h _ _ (h2.lt h4) (by simp only[adv];omega)
    ·exact⟨_,rfl⟩
  ·exact⟨_,rfl⟩
theorem atmS_tot (hL:Lok L) {h:Nat} {s:Ps} (hi:s.i<L.length) (hh:L.length - s.i<h): ∃r,atmS L h s=some r:=by
 have h1:=nameS_stp hL s;unfold atmS;split
 ·rename_i hc
  have h2:=isS_adv hL hc;unfold calS;split
  ·exact⟨_,rfl⟩
  ·obtain⟨q,hq⟩:=argS_tot hL (nameS L s).1 h [(nameS L s).1] (adv (nameS L s).2) (h2.lt (h1.lt hi)) (by have:=h1.le;simp only[adv];omega);rw[hq];exact⟨_,rfl⟩
 ·split<;>exact⟨_,rfl⟩
def rnk:Kd→Nat
 | .opd=>1| .tAnd _=>1| .tOr _=>1| .tIff _=>1| .tImp _=>1
 | .ands=>2| .ors=>3| .imp=>4| .fml=>5
theorem pr_tot (hL:Lok L): ∀(h:Nat) (k:Kd) (s:Ps),s.i<L.length→6*(L.length - s.i)+rnk k≤h→ ∃r,pr' L h k s=some r
 |0,k,s,hi,hh=>by cases k<;>simp[rnk]at hh
 |h+1,k,s,hi,hh=>by
  have ih:=pr_tot hL h;have two: ∀{k1:Kd} {s1:Ps} {g:Nd→Kd},Stp L s s1→6*(L.length - s1.i)+rnk k1≤h→(∀n,rnk (g n)=1)→6*(L.length - s1.i)+1≤h→ ∃r,((pr' L h k1 s1).bind fun r=>pr' L h (g r.1) r.2)=some r:=by
   intro k1 s1 g h1 h2 h3 h4;obtain⟨q,hq⟩:=ih k1 s1 (h1.lt hi) h2;have h5:=pr_stp hL _ _ _ _ hq;have h6:=h5.le;obtain⟨r,hr⟩:=ih (g q.1) q.2 (h5.lt (h1.lt hi)) (by rw[h3];omega);exact⟨r,by rw[hq];exact hr⟩
  have adv1: ∀{w:Str},isS L s w=true→6*(L.length - (adv s).i)+5<6*(L.length - s.i):=by
   intro w hw;have:=(isS_adv hL hw).lt hi;simp only[adv]at this⊢;omega
  cases k with
  |opd=>
   simp only[rnk]at hh;simp only[pr'];have ha:=atmS_tot (h:=h) hL hi (by omega);split
   ·rename_i hc
    have hk:(tkA L s.i).k≠0:=by omega
    have hlt:=lt_of_k hL hi hk;have lv: ∀{f:Ps→Option (Nd×Ps)},(∃r,f ⟨s.i+1,s.e,s.o+1⟩=some r)→ ∃r,lvl s f=some r:=by
     intro f hf;unfold lvl;split
     ·exact⟨_,rfl⟩
     ·obtain⟨r,hr⟩:=hf;rw[hr];exact⟨_,rfl⟩
    have bn: ∀{op:Int},∃r,lvl s (fun s1=>(pr' L h .fml (needS L (nameS L (srtS L s1).2).2 wCol)).map fun r=>(qn op (nameS L (srtS L s1).2).1 (srtS L s1).1 r.1,r.2))=some r:=by
     intro op;refine lv ?_;have h1:=(srtL_stp hL ⟨s.i+1,s.e,s.o+1⟩ [0,1,2,3]).trans ((nameS_stp hL _).trans (needS_stp hL _ wCol));obtain⟨q,hq⟩:=ih .fml (needS L (nameS L (srtS L ⟨s.i+1,s.e,s.o+1⟩).2).2 wCol) (h1.lt hlt) (by
      have:=h1.le;simp only[rnk]at this⊢;unfold srtS;omega)
     exact⟨_,by simp only[hq];rfl⟩
    split
    ·exact⟨_,rfl⟩
    ·split
     ·exact⟨_,rfl⟩
     ·split
      ·exact⟨_,rfl⟩
      ·split
       ·exact⟨_,rfl⟩
       ·split
        ·refine lv ?_;obtain⟨q,hq⟩:=ih .opd ⟨s.i+1,s.e,s.o+1⟩ hlt (by simp only[rnk];omega);exact⟨_,by simp only[hq];rfl⟩
        ·split
         ·exact bn
         ·split
          ·exact bn
          ·split
           ·refine lv ?_;obtain⟨q,hq⟩:=ih .fml ⟨s.i+1,s.e,s.o+1⟩ hlt (by simp only[rnk];omega);exact⟨_,by simp only[hq];rfl⟩
           ·exact ha
   ·exact ha
  |ands=>simp only[rnk]at hh;exact two (.refl s) (by simp only[rnk];omega) (fun _=>rfl) (by omega)
  |ors=>simp only[rnk]at hh;exact two (.refl s) (by simp only[rnk];omega) (fun _=>rfl) (by omega)
  |imp=>simp only[rnk]at hh;exact two (g:=fun n=>.tImp [n]) (.refl s) (by simp only[rnk];omega) (fun _=>rfl) (by omega)
  |fml=>simp only[rnk]at hh;exact two (.refl s) (by simp only[rnk];omega) (fun _=>rfl) (by omega)
  |tAnd n=>
   simp only[rnk]at hh;simp only[pr'];split
   ·rename_i hw
    have:=adv1 hw;exact two (g:=fun m=>.tAnd (nd 12 [n,m])) (isS_adv hL hw) (by simp only[rnk];omega) (fun _=>rfl) (by omega)
   ·exact⟨_,rfl⟩
  |tOr n=>
   simp only[rnk]at hh;simp only[pr'];split
   ·rename_i hw
    have:=adv1 hw;exact two (g:=fun m=>.tOr (nd 13 [n,m])) (isS_adv hL hw) (by simp only[rnk];omega) (fun _=>rfl) (by omega)
   ·exact⟨_,rfl⟩
  |tIff n=>
   simp only[rnk]at hh;simp only[pr'];split
   ·rename_i hw
    have:=adv1 hw;exact two (g:=fun m=>.tIff (nd 15 [n,m])) (isS_adv hL hw) (by simp only[rnk];omega) (fun _=>rfl) (by omega)
   ·exact⟨_,rfl⟩
  |tImp l=>
   simp only[rnk]at hh;simp only[pr'];split
   ·rename_i hw
    have:=adv1 hw;exact two (g:=fun m=>.tImp (l++[m])) (isS_adv hL hw) (by simp only[rnk];omega) (fun _=>rfl) (by omega)
   ·exact⟨_,rfl⟩
end
section
variable {L:List Tk}
def Wt (L:List Tk):Nat→Nat
 |0=>0
 |i+1=>Wt L i+(tkA L i).tx.length+4
theorem Wt_mono {i j:Nat} (h:i≤j):Wt L i≤Wt L j:=by
 induction j with
 |zero=>
  have:i=0:=by omega
  subst this;exact Nat.le_refl _
 |succ j ih=>
  by_cases hj:i=j+1
  ·subst hj;exact Nat.le_refl _
  ·have:=ih (by omega);simp only[Wt];omega
theorem name_W (s:Ps):(nameS L s).1.length+Wt L s.i≤Wt L (nameS L s).2.i:=by
 unfold nameS;by_cases hk:(tkA L s.i).k=1
 ·simp only[hk,if_true];split
  ·show(tkA L s.i).tx.length+Wt L s.i≤Wt L (s.i+1);simp only[Wt];omega
  ·simp
 ·simp only[hk,if_false];rw[if_neg (wrg_ne (by decide))];simp[wrg_i]
theorem adv_W (s:Ps):Wt L s.i+4≤Wt L (adv s).i:=by
 show Wt L s.i+4≤Wt L (s.i+1);simp only[Wt];omega
theorem stp_W {s s':Ps} (h:Stp L s s'):Wt L s.i≤Wt L s'.i:=Wt_mono h.le
theorem bkS_app (a b:List Str):bkS (a++b)=bkS a+bkS b:=by
 induction a with
 |nil=>simp[bkS]
 |cons x a ih=>simp[bkS,ih];omega
theorem bkL_app (a b:List Nd):bkL (a++b)=bkL a+bkL b:=by
 induction a with
 |nil=>simp[bkL]
 |cons x a ih=>simp[bkL,ih];omega
theorem bk_chn: ∀{l:List Nd},l≠[]→bk (chn l)+1≤bkL l+l.length
 |[],h=>absurd rfl h
 |[n],_=>by simp[chn,bkL]
 |n::m::l,_=>by
  have:=bk_chn (l:=m::l) (by simp);simp only[chn,nd,bk,bkS,bkL,List.length_cons]at this⊢;omega
theorem arg_W (hL:Lok L) (f:Str): ∀(h:Nat) (ns:List Str) (s:Ps) (r:List Str×Ps),argS L f h ns s=some r→bkS r.1+Wt L s.i≤Wt L r.2.i+bkS ns+1
 |0,ns,s,r,e=>by simp[argS]at e
 |h+1,ns,s,r,e=>by
  simp only[argS]at e;have hn:=name_W (L:=L) s;split at e
  ·split at e
   ·cases e;simp only[wrg_i];omega
   ·split at e
    ·have:=arg_W hL f h _ _ r e;have ha:=adv_W (L:=L) (nameS L s).2;rw[bkS_app]at this;simp only[bkS]at this;omega
    ·cases e;have:=stp_W (needS_stp hL (nameS L s).2 wR);simp only[bkS_app,bkS];omega
  ·cases e;simp only[];omega
theorem rel_W (hL:Lok L) (a:Str) (s:Ps): ∀(k:Int) (ws:List Str),bk (relS L a s k ws).1+Wt L s.i≤Wt L (relS L a s k ws).2.i+1+a.length
 |k,[]=>by simp[relS,ndZ,bk,bkS,bkL,wrg_i];omega
 |k,w::ws=>by
  unfold relS;split
  ·have h1:=adv_W (L:=L) s;have h2:=name_W (L:=L) (adv s);simp only[bk,bkS,bkL];omega
  ·exact rel_W hL a s (k+1) ws
theorem atm_W (hL:Lok L) {h:Nat} {s:Ps} {r:Nd×Ps} (e:atmS L h s=some r):bk r.1+Wt L s.i≤Wt L r.2.i+1:=by
 have hn:=name_W (L:=L) s;unfold atmS at e;split at e
 ·have ha:=adv_W (L:=L) (nameS L s).2;unfold calS at e;split at e
  ·cases e;have hb:=adv_W (L:=L) (adv (nameS L s).2);simp only[bk,bkS,bkL];omega
  ·simp only[Option.map_eq_some_iff]at e;obtain⟨q,hq,rfl⟩:=e;have:=arg_W hL _ _ _ _ _ hq;simp only[bk,bkS,bkL]at this⊢;omega
 ·split at e
  ·cases e;have ha:=adv_W (L:=L) (nameS L s).2;have hb:=stp_W (numS_stp hL (adv (nameS L s).2) 0 7);simp only[bk,bkS,bkL];omega
  ·cases e;have:=rel_W hL (nameS L s).1 (nameS L s).2 2 wRel;omega
theorem lvl_W {s:Ps} {f:Ps→Option (Nd×Ps)} {r:Nd×Ps} (hf: ∀q,f ⟨s.i+1,s.e,s.o+1⟩=some q→bk q.1+Wt L (s.i+1)≤Wt L q.2.i+4) (e:lvl s f=some r):bk r.1+Wt L s.i≤Wt L r.2.i+1:=by
 unfold lvl at e;split at e
 ·cases e;simp only[wrg_i,ndZ,bk,bkS,bkL];omega
 ·simp only[Option.map_eq_some_iff]at e;obtain⟨q,hq,rfl⟩:=e;have h1:=hf q hq;have h2:=adv_W (L:=L) s;have h3:(adv s).i=s.i+1:=rfl;rw[h3]at h2;simp only[]at h1⊢;omega
def crd:Kd→Nat
 | .tAnd n=>bk n
 | .tOr n=>bk n
 | .tIff n=>bk n
 | .tImp l=>bkL l+l.length - 1
 |_=>1
theorem pr_W (hL:Lok L): ∀(h:Nat) (k:Kd) (s:Ps) (r:Nd×Ps),(∀l,k=.tImp l→l≠[])→pr' L h k s=some r→bk r.1+Wt L s.i≤Wt L r.2.i+crd k
 |0,_,_,_,_,e=>by simp[pr']at e
 |h+1,k,s,r,hl,e=>by
  have ih:=fun(k:Kd) (s:Ps) (r:Nd×Ps) (hk: ∀l,k≠ .tImp l)=>pr_W hL h k s r (fun l hh=>absurd hh (hk l));have ihI:=fun(l:List Nd) (s:Ps) (r:Nd×Ps) (hl:l≠[])=>pr_W hL h (.tImp l) s r (fun l' hh=>by cases hh;exact hl);have qnt: ∀(op:Int) (q:Nd×Ps),(pr' L h .fml (needS L (nameS L (srtS L ⟨s.i+1,s.e,s.o+1⟩).2).2 wCol)).map (fun r=>(qn op (nameS L (srtS L ⟨s.i+1,s.e,s.o+1⟩).2).1 (srtS L ⟨s.i+1,s.e,s.o+1⟩).1 r.1,r.2))=some q→bk q.1+Wt L (s.i+1)≤Wt L q.2.i+4:=by
   intro op q hq;simp only[Option.map_eq_some_iff]at hq;obtain⟨q',h1,rfl⟩:=hq;have h2:=ih _ _ _ (by simp) h1;have h3:=stp_W (srtL_stp hL ⟨s.i+1,s.e,s.o+1⟩ [0,1,2,3]);have h4:=name_W (L:=L) (srtS L ⟨s.i+1,s.e,s.o+1⟩).2;have h5:=stp_W (needS_stp hL (nameS L (srtS L ⟨s.i+1,s.e,s.o+1⟩).2).2 wCol);have h6:Wt L (s.i+1)≤Wt L (srtS L ⟨s.i+1,s.e,s.o+1⟩).2.i:=h3;simp only[crd,qn,bk,bkS,bkL]at h2⊢;omega
  cases k with
  |opd=>
   simp only[pr']at e;simp only[crd];have hadv:=adv_W (L:=L) s;split at e
   ·split at e
    ·cases e;simp only[ndZ,bk,bkS,bkL];omega
    ·split at e
     ·cases e;simp only[nd,bk,bkS,bkL];omega
     ·split at e
      ·cases e;have h1:=name_W (L:=L) (adv s);have h2:=stp_W (needS_stp hL (nameS L (adv s)).2 wMod);have h3:=stp_W (numS_stp hL (needS L (nameS L (adv s)).2 wMod) 1 64);have h4:=stp_W (needS_stp hL (numS L (needS L (nameS L (adv s)).2 wMod) 1 64).2 wIs);have h5:=stp_W (numS_stp hL (needS L (numS L (needS L (nameS L (adv s)).2 wMod) 1 64).2 wIs) 0 ((numS L (needS L (nameS L (adv s)).2 wMod) 1 64).1 - 1));simp only[sizS,bk,bkS,bkL];omega
      ·split at e
       ·cases e;have h1:=name_W (L:=L) (adv s);simp only[oneS,bk,bkS,bkL];omega
       ·split at e
        ·refine lvl_W (fun q hq=>?_) e;simp only[Option.map_eq_some_iff]at hq;obtain⟨q',h1,rfl⟩:=hq;have h2:=ih _ _ _ (by simp) h1;simp only[crd,nd,bk,bkS,bkL]at h2⊢;omega
        ·split at e
         ·exact lvl_W (fun q hq=>qnt 16 q hq) e
         ·split at e
          ·exact lvl_W (fun q hq=>qnt 17 q hq) e
          ·split at e
           ·refine lvl_W (fun q hq=>?_) e;simp only[Option.map_eq_some_iff]at hq;obtain⟨q',h1,rfl⟩:=hq;have h2:=ih _ _ _ (by simp) h1;have h3:=stp_W (needS_stp hL q'.2 wR);simp only[crd]at h2⊢;omega
           ·exact atm_W hL e
   ·exact atm_W hL e
  |ands=>
   simp only[pr',Option.bind_eq_some_iff]at e;obtain⟨q,e1,e2⟩:=e;have h1:=ih _ _ _ (by simp) e1;have h2:=ih _ _ _ (by simp) e2;simp only[crd]at h1 h2⊢;omega
  |ors=>
   simp only[pr',Option.bind_eq_some_iff]at e;obtain⟨q,e1,e2⟩:=e;have h1:=ih _ _ _ (by simp) e1;have h2:=ih _ _ _ (by simp) e2;simp only[crd]at h1 h2⊢;omega
  |fml=>
   simp only[pr',Option.bind_eq_some_iff]at e;obtain⟨q,e1,e2⟩:=e;have h1:=ih _ _ _ (by simp) e1;have h2:=ih _ _ _ (by simp) e2;simp only[crd]at h1 h2⊢;omega
  |imp=>
   simp only[pr',Option.bind_eq_some_iff]at e;obtain⟨q,e1,e2⟩:=e;have h1:=ih _ _ _ (by simp) e1;have h2:=ihI _ _ _ (by simp) e2;simp only[crd,bkL,List.length_cons,List.length_nil]at h1 h2⊢;omega
  |tAnd n=>
   simp only[pr']at e;split at e
   ·simp only[Option.bind_eq_some_iff]at e;obtain⟨q,e1,e2⟩:=e;have h0:=adv_W (L:=L) s;have h1:=ih _ _ _ (by simp) e1;have h2:=ih _ _ _ (by simp) e2;simp only[crd,nd,bk,bkS,bkL]at h1 h2⊢;omega
   ·cases e;simp only[crd];omega
  |tOr n=>
   simp only[pr']at e;split at e
   ·simp only[Option.bind_eq_some_iff]at e;obtain⟨q,e1,e2⟩:=e;have h0:=adv_W (L:=L) s;have h1:=ih _ _ _ (by simp) e1;have h2:=ih _ _ _ (by simp) e2;simp only[crd,nd,bk,bkS,bkL]at h1 h2⊢;omega
   ·cases e;simp only[crd];omega
  |tIff n=>
   simp only[pr']at e;split at e
   ·simp only[Option.bind_eq_some_iff]at e;obtain⟨q,e1,e2⟩:=e;have h0:=adv_W (L:=L) s;have h1:=ih _ _ _ (by simp) e1;have h2:=ih _ _ _ (by simp) e2;simp only[crd,nd,bk,bkS,bkL]at h1 h2⊢;omega
   ·cases e;simp only[crd];omega
  |tImp l=>
   have hne:=hl l rfl;have hpos:0<l.length:=List.length_pos_iff.2 hne;simp only[pr']at e;split at e
   ·simp only[Option.bind_eq_some_iff]at e;obtain⟨q,e1,e2⟩:=e;have h0:=adv_W (L:=L) s;have h1:=ih _ _ _ (by simp) e1;have h2:=ihI _ _ _ (by simp) e2;simp only[crd,bkL_app,bkL,List.length_append,List.length_cons,List.length_nil]at h1 h2⊢;omega
   ·cases e;have:=bk_chn hne;simp only[crd];omega
end
def rdc (sp:Sp) (L:List Tk) (s:Ps):List AV:=[.slc sp (L.map tkv),.int .i64 (s.i:Nat),.int .i64 s.e,.int .i64 (s.o:Nat)]
def Rd (O:List Obj) (p:Nat) (sp:Sp) (L:List Tk) (s:Ps):Prop:=O[p]? =some (.cells (rdc sp L s))
theorem Rd.app {O:List Obj} {p:Nat} {sp:Sp} {L:List Tk} {s:Ps} (h:Rd O p sp L s) (X:List Obj):Rd (O++X) p sp L s:=get_old h X
theorem Rd.put {O:List Obj} {p:Nat} {sp:Sp} {L:List Tk} {s:Ps} (h:Rd O p sp L s) (s':Ps):Rd (O.set p (.cells (rdc sp L s'))) p sp L s':=List.getElem?_set_self (List.getElem?_eq_some_iff.1 h).1
def RR (r:Option (AV×Mem)) (v:AV) (p:Nat) (sp:Sp) (L:List Tk) (s':Ps) (O:List Obj) (R:List Arr):Prop:= ∃O',r=some (v,⟨O',R⟩)∧Fro p O O'∧Rd O' p sp L s'
theorem tkA_get {L:List Tk} {i:Nat} (h:i<L.length):L[i]? =some (tkA L i):=by
 unfold tkA;rw[List.getD_eq_getElem?_getD,List.getElem?_eq_getElem h];rfl
section
variable {G:Nat→Option AV} {cl:Caller} {yl:Nat→List AV→Mem→Option (AV×Mem)} {N:Nat}
variable {O:List Obj} {R:List Arr} {p:Nat} {sp:Sp} {L:List Tk} {s:Ps}
theorem ev132 (h:Rd O p sp L s) (hi:s.i<L.length): ∃X,callA G false cl yl N c132 [.ptr p 0] ⟨O,R⟩=some (tkv (tkA L s.i),⟨O++X,R⟩):=by
 have hx:=tkA_get hi;have h':=fun X=>get_old h X;have hp:p<O.length:=(List.getElem?_eq_some_iff.1 h).1;unfold rdc at h';generalize tkA L s.i=t at*;apply Exists.intro;simp -implicitDefEqProofs [c132,h',hx,tkv,tkC];rfl
theorem ev133 (h:Rd O p sp L s) (c:Int):RR (callA G false cl yl N c133 [.ptr p 0,.int .i64 c] ⟨O,R⟩) (.tup []) p sp L (wrg s c) O R:=by
 have h':=h;unfold Rd rdc at h';unfold wrg;by_cases he:s.e=0
 ·rw[if_pos he];refine⟨O.set p (.cells (rdc sp L ⟨s.i,c,s.o⟩)),?_,.set _ _ _,h.put _⟩;simp -implicitDefEqProofs [c133,h',he,resV,rdc]
 ·rw[if_neg he];have he':(s.e==0)=false:=by simp[he]
  refine⟨O,?_,.refl _ _,h⟩;simp -implicitDefEqProofs [c133,h',he,he',resV,rdc]
theorem ev191 (h:Rd O p sp L s) (w:Str) (h132: ∃X,cl 132 [.ptr p 0] ⟨O,R⟩=some (tkv (tkA L s.i),⟨O++X,R⟩)):
  Gr (callA G false cl yl N c191 [.ptr p 0,.str w] ⟨O,R⟩) (.bool (isS L s w)) O R:=by
 obtain⟨X,k⟩:=h132;have h':=fun X=>get_old h X;unfold rdc at h';unfold isS;generalize tkA L s.i=t at*;unfold tkv tkC at k;unfold Gr;by_cases he:s.e=0
 ·by_cases h3:t.k=3
  ·have h3':(t.k==3)=true:=by simp[h3]
   apply Exists.intro;simp -implicitDefEqProofs [c191,k,h',he,h3,h3',strA];rfl
  ·have h3':(t.k==3)=false:=by simp[h3]
   by_cases h4:t.k=4
   ·apply Exists.intro;simp -implicitDefEqProofs [c191,k,h',he,h4,strA];rfl
   ·have h4':(t.k==4)=false:=by simp[h4]
    apply Exists.intro;simp -implicitDefEqProofs [c191,k,h',he,h3,h3',h4,h4',strA];rfl
 ·have he':(s.e==0)=false:=by simp[he]
  apply Exists.intro;simp -implicitDefEqProofs [c191,k,h',he,he',strA];rfl
theorem ev134 (h:Rd O p sp L s) (hi:s.i<L.length) (hb:L.length<big) (w:Str) (h191:Gr (cl 191 [.ptr p 0,.str w] ⟨O,R⟩) (.bool (isS L s w)) O R):
  RR (callA G false cl yl N c134 [.ptr p 0,.str w] ⟨O,R⟩) (.bool (isS L s w)) p sp L (tksS L s w) O R:=by
 obtain⟨X,k⟩:=h191;have h':=get_old h X;have hlt:p<(O++X).length:=(List.getElem?_eq_some_iff.1 h').1;unfold big at hb;have w1:wrapF .i64 ((s.i:Int)+1)=((s.i+1:Nat):Int):=wrap_succ (by omega);unfold tksS;unfold rdc at h';cases hw:isS L s w with
 |true=>
  rw[hw]at k;refine⟨(O++X).set p (.cells (rdc sp L (adv s))),?_,(Fro.app _ _ _).trans (.set _ _ _),Rd.put (s:=s) (h.app X) _⟩;simp -implicitDefEqProofs [c134,k,h',w1,rdc,adv]
 |false=>
  rw[hw]at k;refine⟨O++X,?_,.app _ _ _,h.app X⟩;simp -implicitDefEqProofs [c134,k,h',w1,rdc,adv]
theorem ev138 (h:Rd O p sp L s) (w:Str) (h134:RR (cl 134 [.ptr p 0,.str w] ⟨O,R⟩) (.bool (isS L s w)) p sp L (tksS L s w) O R)
  (h133: ∀O' s' c,Rd O' p sp L s'→RR (cl 133 [.ptr p 0,.int .i64 c] ⟨O',R⟩) (.tup []) p sp L (wrg s' c) O' R):
  RR (callA G false cl yl N c138 [.ptr p 0,.str w] ⟨O,R⟩) (.tup []) p sp L (needS L s w) O R:=by
 obtain⟨O1,k1,f1,r1⟩:=h134;unfold needS;cases hw:isS L s w with
 |true=>
  rw[hw]at k1;unfold tksS at r1;rw[hw]at r1;refine⟨O1,?_,f1,r1⟩;simp -implicitDefEqProofs [c138,k1,resV]
 |false=>
  rw[hw]at k1;unfold tksS at r1;rw[hw]at r1;obtain⟨O2,k2,f2,r2⟩:=h133 O1 s 3 r1;refine⟨O2,?_,f1.trans f2,r2⟩;simp -implicitDefEqProofs [c138,k1,k2,resV]
theorem ev137 (h:Rd O p sp L s) (hi:s.i<L.length) (hb:L.length<big) (h132: ∃X,cl 132 [.ptr p 0] ⟨O,R⟩=some (tkv (tkA L s.i),⟨O++X,R⟩))
  (h133: ∀O' s' c,Rd O' p sp L s'→RR (cl 133 [.ptr p 0,.int .i64 c] ⟨O',R⟩) (.tup []) p sp L (wrg s' c) O' R):
  RR (callA G false cl yl N c137 [.ptr p 0] ⟨O,R⟩) (.str (nameS L s).1) p sp L (nameS L s).2 O R:=by
 obtain⟨X,k⟩:=h132;have hp:p<O.length:=(List.getElem?_eq_some_iff.1 h).1;unfold big at hb;have w1:wrapF .i64 ((s.i:Int)+1)=((s.i+1:Nat):Int):=wrap_succ (by omega);unfold nameS;generalize tkA L s.i=t at*;have hT:Rd (O++(X++[.cells (tkC t)])) p sp L s:=h.app _;have hTt:(O++(X++[.cells (tkC t)]))[O.length+X.length]? =some (.cells (tkC t)):=by
  rw[←List.append_assoc];have:=get_new0 (O++X) [Obj.cells (tkC t)];rw[List.length_append]at this;rw[this];rfl
 obtain⟨O1,hO1⟩: ∃O1,O++(X++[.cells (tkC t)])=O1:=⟨_,rfl⟩
 rw[hO1]at hT hTt;have f0:Fro p O O1:=by rw[←hO1];exact .app _ _ _
 unfold tkC at hO1 hTt;unfold tkv tkC at k;by_cases hk:t.k=1
 ·have hT':=hT;have hk':(t.k !=1)=false:=by simp[hk]
  simp only[hk,if_true];unfold Rd rdc at hT';by_cases he:s.e=0
  ·simp only[he,if_true];have hne:p≠O.length+X.length:=by omega
   have g2: ∀x,(O1.set p x)[O.length+X.length]? =some (.cells [.int .i64 t.k,.str t.tx,.int .i64 t.v,.int .i64 t.ln,.int .i64 t.col]):=fun x=>by rw[List.getElem?_set_ne hne];exact hTt
   refine⟨O1.set p (.cells (rdc sp L (adv s))),?_,f0.trans (.set _ _ _),hT.put _⟩;rw[hk]at hO1 hTt g2 k;simp -implicitDefEqProofs [c137,k,hO1,hTt,hT',he,w1,g2,rdc,adv]
  ·have he':(s.e !=0)=true:=by simp[he]
   simp only[he,if_false];refine⟨O1,?_,f0,hT⟩;rw[hk]at hO1 hTt k;simp -implicitDefEqProofs [c137,k,hO1,hTt,hT',he,he']
 ·have hk':(t.k !=1)=true:=by simp[hk]
  simp only[hk,if_false];have hwn: ¬(wrg s 3).e=0:=wrg_ne (by decide);simp only[hwn,if_false];obtain⟨O2,k2,f2,r2⟩:=h133 O1 s 3 hT;have r2':=r2;unfold Rd rdc at r2';have he':((wrg s 3).e !=0)=true:=by simp[hwn]
  refine⟨O2,?_,f0.trans f2,r2⟩;simp -implicitDefEqProofs [c137,k,hO1,hTt,hk,hk',k2,r2',hwn,he']
end
abbrev H133 (cl:Caller) (p:Nat) (sp:Sp) (L:List Tk):Prop:= ∀O R s' c,Rd O p sp L s'→RR (cl 133 [.ptr p 0,.int .i64 c] ⟨O,R⟩) (.tup []) p sp L (wrg s' c) O R
abbrev H134 (cl:Caller) (p:Nat) (sp:Sp) (L:List Tk):Prop:= ∀O R s' w,Rd O p sp L s'→s'.i<L.length→RR (cl 134 [.ptr p 0,.str w] ⟨O,R⟩) (.bool (isS L s' w)) p sp L (tksS L s' w) O R
theorem srtL_find (L:List Tk) (s:Ps): ∀ks:List Int,srtL L s ks=match ks.findSome? (fun k=>if isS L s (snm k)then some k else none)with
  |none=>(0,wrg s 3)
  |some k=>(k,adv s)
 |[]=>rfl
 |k::ks=>by
  simp only[srtL,List.findSome?_cons];cases isS L s (snm k)with
  |true=>rfl
  |false=>simpa using srtL_find L s ks
section
variable {G:Nat→Option AV} {cl:Caller} {yl:Nat→List AV→Mem→Option (AV×Mem)} {N:Nat}
variable {O:List Obj} {R:List Arr} {p:Nat} {sp:Sp} {L:List Tk} {s:Ps}
theorem ev245 (h:Rd O p sp L s) (hi:s.i<L.length) (hb:L.length<big) (lo hi':Int) (h132: ∃X,cl 132 [.ptr p 0] ⟨O,R⟩=some (tkv (tkA L s.i),⟨O++X,R⟩)) (h133:H133 cl p sp L):
  RR (callA G false cl yl N c245 [.ptr p 0,.int .i64 lo,.int .i64 hi'] ⟨O,R⟩) (.int .i64 (numS L s lo hi').1) p sp L (numS L s lo hi').2 O R:=by
 obtain⟨X,k⟩:=h132;have hp:p<O.length:=(List.getElem?_eq_some_iff.1 h).1;unfold big at hb;have w1:wrapF .i64 ((s.i:Int)+1)=((s.i+1:Nat):Int):=wrap_succ (by omega);unfold numS numT;generalize tkA L s.i=t at*;have hT:Rd (O++(X++[.cells (tkC t)])) p sp L s:=h.app _;have hTt:(O++(X++[.cells (tkC t)]))[O.length+X.length]? =some (.cells (tkC t)):=by
  rw[←List.append_assoc];have:=get_new0 (O++X) [Obj.cells (tkC t)];rw[List.length_append]at this;rw[this];rfl
 obtain⟨O1,hO1⟩: ∃O1,O++(X++[.cells (tkC t)])=O1:=⟨_,rfl⟩
 rw[hO1]at hT hTt;have f0:Fro p O O1:=by rw[←hO1];exact .app _ _ _
 have hne:p≠O.length+X.length:=by omega
 unfold tkC at hO1 hTt;unfold tkv tkC at k;by_cases hk:t.k=2
 ·have hk':(t.k !=2)=false:=by simp[hk]
  simp only[hk,if_true];rw[hk]at hO1 hTt k;by_cases hr:t.v<lo∨hi'<t.v
  ·obtain⟨O2,k2,f2,r2⟩:=h133 O1 R s 2 hT;have r2':=r2;unfold Rd rdc at r2';have hwn: ¬(wrg s 2).e=0:=wrg_ne (by decide);have he':((wrg s 2).e !=0)=true:=by simp[hwn]
   simp only[hr,if_true,hwn,if_false];refine⟨O2,?_,f0.trans f2,r2⟩;by_cases h1:t.v<lo
   ·simp -implicitDefEqProofs [c245,k,hO1,hTt,h1,k2,r2',hwn,he']
   ·have h2:hi'<t.v:=by omega
    simp -implicitDefEqProofs [c245,k,hO1,hTt,h1,h2,k2,r2',hwn,he']
  ·have h1: ¬t.v<lo:=fun h=>hr (.inl h);have h2: ¬hi'<t.v:=fun h=>hr (.inr h);simp only[hr,if_false];have hT':=hT;unfold Rd rdc at hT';by_cases he:s.e=0
   ·simp only[he,if_true];have g2: ∀x,(O1.set p x)[O.length+X.length]? =some (.cells [.int .i64 2,.str t.tx,.int .i64 t.v,.int .i64 t.ln,.int .i64 t.col]):=fun x=>by rw[List.getElem?_set_ne hne];exact hTt
    refine⟨O1.set p (.cells (rdc sp L (adv s))),?_,f0.trans (.set _ _ _),hT.put _⟩;simp -implicitDefEqProofs [c245,k,hO1,hTt,h1,h2,hT',he,w1,g2,rdc,adv]
   ·have he':(s.e !=0)=true:=by simp[he]
    simp only[he,if_false];refine⟨O1,?_,f0,hT⟩;simp -implicitDefEqProofs [c245,k,hO1,hTt,h1,h2,hT',he,he']
 ·have hk':(t.k !=2)=true:=by simp[hk]
  simp only[hk,if_false];obtain⟨O2,k2,f2,r2⟩:=h133 O1 R s 3 hT;have r2':=r2;unfold Rd rdc at r2';have hwn: ¬(wrg s 3).e=0:=wrg_ne (by decide);have he':((wrg s 3).e !=0)=true:=by simp[hwn]
  simp only[hwn,if_false];refine⟨O2,?_,f0.trans f2,r2⟩;simp -implicitDefEqProofs [c245,k,hO1,hTt,hk,hk',k2,r2',hwn,he']
end
section
variable {t:Nat} {cl:Caller} {yl:Nat→List AV→Mem→Option (AV×Mem)} {N:Nat}
variable {O:List Obj} {R:List Arr} {p:Nat} {sp:Sp} {L:List Tk} {s:Ps}
abbrev srtA:AV:=.agg [.str [118,101,114,116,101,120],.str [101,100,103,101],.str [115,101,116],.str [101,100,103,101,115]]
theorem loop135 (h:Rd O p sp L s) (hi:s.i<L.length) (h134:H134 cl p sp L) (hN:5<N):
  ∃e s',iter false (evalC (GG t) false cl yl N c135b0) ⟨[0,5,6],[(6,none)],true⟩ O.length R.length N ⟨[(0,.ptr p 0),(5,srtA),(6,.int .i64 0)],⟨O,R⟩,[]⟩=some (e,s')∧e≠ .normal∧
   (s'.mks=[]∧match([0,1,2,3]:List Int).findSome? (fun k=>if isS L s (snm k)then some k else none)with
    |none=>e=.exit 0∧look 0 s'.ts=.ptr p 0∧ ∃O1,s'.m=⟨O1,R⟩∧Fro p O O1∧Rd O1 p sp L s
    |some k=>e=.ret∧look 2 s'.ts=.int .i64 k∧ ∃O1,s'.m=⟨O1,R⟩∧Fro p O O1∧Rd O1 p sp L (adv s)):=by
 refine iter_inv (mu:=false) (step:=evalC (GG t) false cl yl N c135b0) (an:=⟨[0,5,6],[(6,none)],true⟩) (k:=O.length) (m:=R.length) (N:=N) [0,1,2,3] (fun k=>if isS L s (snm k)then some k else none)
  (fun i st=> ∃O1,st=⟨[(0,.ptr p 0),(5,srtA),(6,.int .i64 (i:Nat))],⟨O1,R⟩,[]⟩∧Fro p O O1∧Rd O1 p sp L s)
  (fun r e s'=>s'.mks=[]∧match r with
    |none=>e=.exit 0∧look 0 s'.ts=.ptr p 0∧ ∃O1,s'.m=⟨O1,R⟩∧Fro p O O1∧Rd O1 p sp L s
    |some k=>e=.ret∧look 2 s'.ts=.int .i64 k∧ ∃O1,s'.m=⟨O1,R⟩∧Fro p O O1∧Rd O1 p sp L (adv s)) (by simp;omega) ⟨O,rfl,.refl _ _,h⟩ ?_ ?_
 ·rintro i x st hx hil ⟨O1,rfl,hF,hR⟩;have hi4:i<4:=hil;have hxi:x=(i:Int):=by
   rcases(show i=0∨i=1∨i=2∨i=3 by omega)with rfl|rfl|rfl|rfl<;>simp at hx<;>omega
  obtain⟨O2,k2,f2,r2⟩:=h134 O1 R s (snm x) hR hi;have w1:=wrap_succ (i:=i) (by omega);have hlt:(i:Int)<4:=by omega
  have hix:([.str [118,101,114,116,101,120],.str [101,100,103,101],.str [115,101,116],.str [101,100,103,101,115]]:List AV)[i]? =some (.str (snm x)):=by
   rw[hxi];rcases(show i=0∨i=1∨i=2∨i=3 by omega)with rfl|rfl|rfl|rfl<;>rfl
  have hix': ∀h,([.str [118,101,114,116,101,120],.str [101,100,103,101],.str [115,101,116],.str [101,100,103,101,115]]:List AV)[i]'h=.str (snm x):=fun h=>(List.getElem?_eq_some_iff.1 hix).2;unfold tksS at r2;cases hw:isS L s (snm x)with
  |true=>
   rw[hw]at k2 r2;simp -implicitDefEqProofs [c135b0,hlt,hi4,hix',k2,w1];exact⟨hxi.symm,hF.trans f2,r2⟩
  |false=>
   rw[hw]at k2 r2;simp -implicitDefEqProofs [c135b0,hlt,hi4,hix',k2,w1];exact⟨hF.trans f2,r2⟩
 ·rintro st ⟨O1,rfl,hF,hR⟩;simp -implicitDefEqProofs [c135b0];exact⟨hF,hR⟩
theorem ev135 (h:Rd O p sp L s) (hi:s.i<L.length) (h134:H134 cl p sp L) (h133:H133 cl p sp L) (hN:5<N):RR (callA (GG t) false cl yl N c135 [.ptr p 0] ⟨O,R⟩) (.int .i64 (srtS L s).1) p sp L (srtS L s).2 O R:=by
 have hG:GG t 0=some srtA:=rfl;obtain⟨e,⟨ts,M,mks⟩,k1,-,rfl,hm⟩:=loop135 (t:=t) (cl:=cl) (yl:=yl) (N:=N) (R:=R) h hi h134 hN;unfold srtS;rw[srtL_find];cases hf:([0,1,2,3]:List Int).findSome? (fun k=>if isS L s (snm k)then some k else none)with
 |none=>
  rw[hf]at hm;obtain⟨rfl,l0,O1,rfl,f1,r1⟩:=hm;obtain⟨O2,k2,f2,r2⟩:=h133 O1 R s 3 r1;simp at l0;refine⟨O2,?_,f1.trans f2,r2⟩;simp -implicitDefEqProofs [c135,hG,k1,l0,k2]
 |some k=>
  rw[hf]at hm;obtain⟨rfl,l2,O1,rfl,f1,r1⟩:=hm;simp at l2;refine⟨O1,?_,f1,r1⟩;simp -implicitDefEqProofs [c135,hG,k1,l2]
end
def icN (s1 s2:Sp) (n:Nd):List AV:=[.int .i64 n.op,.slc s1 (n.ns.map .str),.int .i64 n.so,.int .i64 n.nn,.int .i64 n.mm,.slc s2 (avL n.l)]
theorem icN_pure (s1 s2:Sp) (n:Nd):pureV (.agg (icN s1 s2 n))=some (av n):=by
 simp[icN]
def RN (r:Option (AV×Mem)) (n:Nd) (p:Nat) (sp:Sp) (L:List Tk) (s':Ps) (O:List Obj) (R:List Arr):Prop:=
 ∃s1 s2 O' Y,r=some (.agg (icN s1 s2 n),⟨O',R++Y⟩)∧Fro p O O'∧Rd O' p sp L s'
structure Pre (L:List Tk) (s:Ps):Prop where
 i:s.i<L.length
 o:s.o≤256
theorem Pre.step {L:List Tk} {s s':Ps} (h:Pre L s) (k:Stp L s s'):Pre L s':=⟨k.lt h.i,by rw[k.o];exact h.o⟩
def FrN (n p:Nat) (O O':List Obj):Prop:= ∀i,i<n→i≠p→O'[i]? =O[i]?
theorem wr_ok {O1:List Obj} {q:Nat} (c:Obj) (hlt:q<O1.length): ∃O2,O1.set q c=O2∧O2[q]? =some c∧(∀i,i≠q→O2[i]? =O1[i]?)∧O2.length=O1.length:=
 ⟨_,rfl,List.getElem?_set_self hlt,fun i hi=>List.getElem?_set_ne (by omega),by simp⟩
section
variable {G:Nat→Option AV} {cl:Caller} {yl:Nat→List AV→Mem→Option (AV×Mem)} {N:Nat}
variable {p:Nat} {sp:Sp} {L:List Tk}
theorem loop139 (w:Str) (op:Int) (kd:Kd) (tl:Nd→Kd) (H:Nat) (f:Nat) (fst cap:List AV) (n0:Nat) (Inv:List Obj→Prop) (hInv: ∀O O',FrN n0 p O O'→Inv O→Inv O') (hL:Lok L)
  (htl: ∀h n s,pr' L (h+1) (tl n) s=if isS L s w then(pr' L h kd (adv s)).bind (fun r=>pr' L h (tl (nd op [n,r.1])) r.2)else some (n,s))
  (hc: ∀h',h'≤H→ ∀O R s r,Inv O→Rd O p sp L s→Pre L s→pr' L h' kd s=some r→RN (cl f (fst++[]++cap) ⟨O,R⟩) r.1 p sp L r.2 O R)
  (h134:H134 cl p sp L) (t8:AV) (q9 kk mm:Nat) (hq9:n0≤q9):
  ∀(h:Nat) (n:Nd) (s:Ps) (r:Nd×Ps),h≤H→pr' L h (tl n) s=some r→ ∀(O:List Obj) (R:List Arr) (s1 s2:Sp) (N':Nat),h<N'→Inv O→Rd O p sp L s→Pre L s→n0≤O.length→q9≠p→O[q9]? =some (.cells (icN s1 s2 n))→
   ∃(O':List Obj) (Y:List Arr) (ts':Slots) (s3 s4:Sp),iter false (evalC G false cl yl N c139b0) ⟨[0,1,2,3,8,9],[],true⟩ kk mm N' ⟨[(0,.ptr p 0),(1,.str w),(2,.int .i64 op),(3,.fn f fst cap),(8,t8),(9,.ptr q9 0)],⟨O,R⟩,[]⟩=some (.exit 0,⟨ts',⟨O',R++Y⟩,[]⟩)∧
    look 8 ts'=t8∧look 9 ts'=.ptr q9 0∧O'[q9]? =some (.cells (icN s3 s4 r.1))∧Rd O' p sp L r.2∧O.length≤O'.length∧ ∀i,i<O.length→i≠p→i≠q9→O'[i]? =O[i]?:=by
 intro h
 induction h with
 |zero=>intro n s r _ e;simp[pr']at e
 |succ h ih=>
  intro n s r hH e O R s1 s2 N' hN' hI hR hi hn0 hqp hq;obtain⟨N',rfl⟩: ∃m,N'=m+1:=⟨N' - 1,by omega⟩
  rw[htl]at e;obtain⟨O1,k1,f1,r1⟩:=h134 O R s w hR hi.i;unfold tksS at r1;have g1:=f1.old hq hqp;cases hw:isS L s w with
  |false=>
   rw[hw]at e k1 r1;simp only[Bool.false_eq_true,if_false,Option.some.injEq]at e r1;subst e;refine⟨O1,[],?_⟩;rw[List.append_nil]
   suffices hx: ∃ts',iter false (evalC G false cl yl N c139b0) ⟨[0,1,2,3,8,9],[],true⟩ kk mm (N'+1) ⟨[(0,.ptr p 0),(1,.str w),(2,.int .i64 op),(3,.fn f fst cap),(8,t8),(9,.ptr q9 0)],⟨O,R⟩,[]⟩=some (.exit 0,⟨ts',⟨O1,R⟩,[]⟩)∧look 8 ts'=t8∧look 9 ts'=.ptr q9 0 by
    obtain⟨ts',h1,h2,h3⟩:=hx;exact⟨ts',s1,s2,h1,h2,h3,g1,r1,f1.len,fun i hi hp _=>f1.get i hi hp⟩
   apply Exists.intro;apply And.intro
   ·simp -implicitDefEqProofs [iter,c139b0,k1];rfl
   ·refine⟨?_,?_⟩<;>first|rfl|simp
  |true=>
   rw[hw]at e k1 r1;simp only[if_true,Option.bind_eq_some_iff]at e r1;obtain⟨q,e1,e2⟩:=e;have hstp:=isS_adv hL hw;have hi1:=hi.step hstp;obtain⟨a1,a2,O2,Y1,k2,f2,r2⟩:=hc h (by omega) O1 R (adv s) q (hInv O O1 (fun i hi hp=>f1.get i (by omega) hp) hI) r1 hi1 e1;have g2:=f2.old g1 hqp;have hi2:=hi1.step (pr_stp hL _ _ _ _ e1);have hlt:=(List.getElem?_eq_some_iff.1 g2).1;have p1:=icN_pure s1 s2 n;have p2:=icN_pure a1 a2 q.1;obtain⟨O3,hO3⟩: ∃O3,O2.set q9 (.cells (icN .full .full (nd op [n,q.1])))=O3:=⟨_,rfl⟩
   have g3:O3[q9]? =some (.cells (icN .full .full (nd op [n,q.1]))):=by rw[←hO3];exact List.getElem?_set_self hlt
   have r3:Rd O3 p sp L q.2:=by unfold Rd;rw[←hO3,List.getElem?_set_ne hqp];exact r2
   have l3:O3.length=O2.length:=by rw[←hO3];simp
   have fr3: ∀i,i<O.length→i≠p→i≠q9→O3[i]? =O[i]?:=fun i hi hp h9=>by
    rw[←hO3,List.getElem?_set_ne (by omega),f2.get i (Nat.lt_of_lt_of_le hi f1.len) hp,f1.get i hi hp]
   have hlen:=Nat.le_trans f1.len f2.len;obtain⟨O4,Y2,ts',s3,s4,i1,i2,i3,i4,i5,i6,i7⟩:=ih (nd op [n,q.1]) q.2 r (by omega) e2 O3 (R++Y1) .full .full N' (by omega) (hInv O O3 (fun i hi hp=>fr3 i (by omega) hp (by omega)) hI) r3 hi2 (by omega) hqp g3;refine⟨O4,Y1++Y2,ts',s3,s4,?_,i2,i3,i4,i5,by omega,fun i hi hp h9=>(i7 i (by omega) hp h9).trans (fr3 i hi hp h9)⟩;rw[←List.append_assoc,←i1];have hnd:icN .full .full (nd op [n,q.1])=[.int .i64 op,.slc .full [],.int .i64 0,.int .i64 0,.int .i64 0,.slc .full [av n,av q.1]]:=rfl;rw[hnd]at hO3;have p1':=p1;have p2':=p2;simp only[List.append_nil]at k2;have c1:cells (av n)=some (ndc n):=by simp
   unfold icN at g1 g2 p1' p2' k2;have step: ∃ts1,evalC G false cl yl N c139b0 ⟨[(0,.ptr p 0),(1,.str w),(2,.int .i64 op),(3,.fn f fst cap),(8,t8),(9,.ptr q9 0)],⟨O,R⟩,[]⟩=some (.normal,⟨ts1,⟨O3,R++Y1⟩,[]⟩)∧keepT ts1 [0,1,2,3,8,9]=[(0,.ptr p 0),(1,.str w),(2,.int .i64 op),(3,.fn f fst cap),(8,t8),(9,.ptr q9 0)]:=by
    apply Exists.intro;apply And.intro
    ·simp -implicitDefEqProofs [c139b0,k1,g1,g2,k2,hO3];rfl
    ·first|rfl|simp
   obtain⟨ts1,st1,st2⟩:=step;simp only[iter,st1,tidy,Bool.false_eq_true,if_false,if_true,st2]
theorem ev139 (w:Str) (op:Int) (kd:Kd) (tl:Nd→Kd) (h:Nat) (f:Nat) (fst cap:List AV) (O:List Obj) (R:List Arr) (Inv:List Obj→Prop) (hInv: ∀O1 O',FrN O.length p O1 O'→Inv O1→Inv O') (hL:Lok L)
  (htl: ∀h n s,pr' L (h+1) (tl n) s=if isS L s w then(pr' L h kd (adv s)).bind (fun r=>pr' L h (tl (nd op [n,r.1])) r.2)else some (n,s))
  (hc: ∀h',h'≤h→ ∀O R s r,Inv O→Rd O p sp L s→Pre L s→pr' L h' kd s=some r→RN (cl f (fst++[]++cap) ⟨O,R⟩) r.1 p sp L r.2 O R)
  (h134:H134 cl p sp L) (hN:h<N) {s:Ps} {r:Nd×Ps} (hI:Inv O) (hR:Rd O p sp L s) (hi:Pre L s) (e:(pr' L h kd s).bind (fun r=>pr' L h (tl r.1) r.2)=some r):
  RN (callA G false cl yl N c139 [.ptr p 0,.str w,.int .i64 op,.fn f fst cap] ⟨O,R⟩) r.1 p sp L r.2 O R:=by
 rw[Option.bind_eq_some_iff]at e;obtain⟨q,e1,e2⟩:=e;have hp:p<O.length:=(List.getElem?_eq_some_iff.1 hR).1;obtain⟨a1,a2,O1,Y1,k1,f1,r1⟩:=hc h (Nat.le_refl _) (O++[.cells [.int .i64 0,.slc .full [],.int .i64 0,.int .i64 0,.int .i64 0,.slc .full []]]) R s q (hInv O _ (fun i hi _=>List.getElem?_append_left hi) hI) (hR.app _) hi e1;have l1:O.length+1≤O1.length:=by have:=f1.len;simpa using this
 have g8:O1[O.length]? =some (.cells [.int .i64 0,.slc .full [],.int .i64 0,.int .i64 0,.int .i64 0,.slc .full []]):=f1.old (by simp) (by omega);have fr1: ∀i,i<O.length→i≠p→O1[i]? =O[i]?:=fun i hi hp=>by rw[f1.get i (by simp;omega) hp,List.getElem?_append_left hi]
 obtain⟨O2,Y2,ts',s3,s4,i1,i2,i3,i4,i5,i6,i7⟩:=loop139 (G:=G) (yl:=yl) (N:=N) w op kd tl h f fst cap O.length Inv hInv hL htl hc h134 (.ptr O.length 0) O1.length (O1.length+1) (R++Y1).length (by omega) h q.1 q.2 r (Nat.le_refl _) e2
  (O1++[.cells (icN a1 a2 q.1)]) (R++Y1) a1 a2 N hN (hInv O _ (fun i hi hp=>by rw[List.getElem?_append_left (by omega)];exact fr1 i hi hp) hI) (r1.app _) (hi.step (pr_stp hL _ _ _ _ e1)) (by simp;omega) (by omega) (by simp)
 have g8':O2[O.length]? =some (.cells [.int .i64 0,.slc .full [],.int .i64 0,.int .i64 0,.int .i64 0,.slc .full []]):=by
  rw[i7 O.length (by simp;omega) (by omega) (by omega)];exact get_old g8 _
 have hl2:O1.length+1≤O2.length:=by simpa using i6
 obtain⟨O9,e9,g9,n9,m9⟩:=wr_ok (.cells (icN s3 s4 r.1)) (List.getElem?_eq_some_iff.1 g8').1;refine⟨s3,s4,O9,Y1++Y2,?_,⟨by omega,fun i hi hp=>?_⟩,?_⟩
 ·simp only[List.append_nil]at k1;unfold icN at k1 i1 i4 e9 g9;simp -implicitDefEqProofs at k1 i1;unfold icN;clear n9 m9 hl2 l1 hp i6;simp -implicitDefEqProofs [c139,k1,i1,i2,i3,i4,g8',e9,g9]
 ·rw[n9 i (by omega),i7 i (by simp;omega) hp (by omega),List.getElem?_append_left (by omega)];exact fr1 i hi hp
 ·unfold Rd;rw[n9 p (by omega)];exact i5
theorem ev248 (f:Nat) (fst cap:List AV) (g:Ps→Option (Nd×Ps)) {O:List Obj} {R:List Arr} {s:Ps} {r:Nd×Ps} (he:s.e=0) (hb:L.length<big) (hR:Rd O p sp L s) (hi:Pre L s) (hk:s.i+1<L.length)
  (hg: ∀q,g ⟨s.i+1,s.e,s.o+1⟩=some q→q.2.o=s.o+1)
  (hc: ∀O1 q,FrN O.length p O O1→Rd O1 p sp L ⟨s.i+1,s.e,s.o+1⟩→Pre L ⟨s.i+1,s.e,s.o+1⟩→g ⟨s.i+1,s.e,s.o+1⟩=some q→RN (cl f (fst++[]++cap) ⟨O1,R⟩) q.1 p sp L q.2 O1 R)
  (h133:H133 cl p sp L) (e:lvl s g=some r):RN (callA G false cl yl N c248 [.ptr p 0,.fn f fst cap] ⟨O,R⟩) r.1 p sp L r.2 O R:=by
 have hp:p<O.length:=(List.getElem?_eq_some_iff.1 hR).1;have hT:=hR.app [.cells [.int .i64 0,.slc .full [],.int .i64 0,.int .i64 0,.int .i64 0,.slc .full []]];unfold lvl at e;by_cases ho:s.o=256
 ·rw[if_pos ho]at e;cases e;obtain⟨O1,k1,f1,r1⟩:=h133 _ R s 16 hT;have g8:O1[O.length]? =some (.cells [.int .i64 0,.slc .full [],.int .i64 0,.int .i64 0,.int .i64 0,.slc .full []]):=f1.old (by simp) (by omega);have l1:=f1.len;rw[List.length_append]at l1;obtain⟨O9,e9,g9,n9,m9⟩:=wr_ok (.cells (icN .full .full ndZ)) (List.getElem?_eq_some_iff.1 g8).1;have r1':=r1;unfold Rd rdc at r1';unfold Rd rdc at hT;have hwn: ¬(wrg s 16).e=0:=wrg_ne (by decide);have he':((wrg s 16).e !=0)=true:=by simp[hwn]
  have ho':(s.o:Int)=256:=by omega
  rw[ho']at hT;refine⟨.full,.full,O9,[],?_,⟨by omega,fun i hi hp=>?_⟩,?_⟩
  ·clear n9 m9 l1;have hz:icN .full .full ndZ=[.int .i64 0,.slc .full [],.int .i64 0,.int .i64 0,.int .i64 0,.slc .full []]:=rfl;rw[hz]at e9 g9⊢;simp -implicitDefEqProofs [c248,hT,k1,r1',hwn,he',g8,e9,g9]
  ·rw[n9 i (by omega),f1.get i (by simp;omega) hp,List.getElem?_append_left hi]
  ·unfold Rd;rw[n9 p (by omega)];exact r1
 ·rw[if_neg ho]at e;simp only[Option.map_eq_some_iff]at e;obtain⟨q,hq,rfl⟩:=e;have hoq:=hg q hq;have ho2:=hi.o;unfold big at hb;have w1:wrapF .i64 ((s.i:Int)+1)=((s.i+1:Nat):Int):=wrap_succ (by omega);have w2:wrapF .i64 ((s.o:Int)+1)=((s.o+1:Nat):Int):=wrap_succ (by omega);have w3:wrapF .i64 ((q.2.o:Int) - 1)=((q.2.o - 1:Nat):Int):=by rw[wrap_id (by omega) (by omega)];omega
  have ho': ¬(s.o:Int)=256:=by omega
  have ho'':((s.o:Int)==256)=false:=by simp[ho']
  obtain⟨O1,hO1⟩: ∃O1,((O++[Obj.cells [.int .i64 0,.slc .full [],.int .i64 0,.int .i64 0,.int .i64 0,.slc .full []]]).set p (.cells (rdc sp L ⟨s.i+1,s.e,s.o⟩))).set p (.cells (rdc sp L ⟨s.i+1,s.e,s.o+1⟩))=O1:=⟨_,rfl⟩
  have hlt:p<(O++[Obj.cells [.int .i64 0,.slc .full [],.int .i64 0,.int .i64 0,.int .i64 0,.slc .full []]]).length:=by simp;omega
  have r1:Rd O1 p sp L ⟨s.i+1,s.e,s.o+1⟩:=by unfold Rd;rw[←hO1];exact List.getElem?_set_self (by simpa using hlt)
  have fr1: ∀i,i≠p→O1[i]? =(O++[Obj.cells [.int .i64 0,.slc .full [],.int .i64 0,.int .i64 0,.int .i64 0,.slc .full []]])[i]?:=fun i h=>by rw[←hO1,List.getElem?_set_ne (by omega),List.getElem?_set_ne (by omega)]
  have l1:O1.length=O.length+1:=by rw[←hO1];simp
  obtain⟨s1,s2,O2,Y,k2,f2,r2⟩:=hc O1 q (fun i hi hp=>by rw[fr1 i hp,List.getElem?_append_left hi]) r1 ⟨hk,by show s.o+1≤256;omega⟩ hq;have g8:O2[O.length]? =some (.cells [.int .i64 0,.slc .full [],.int .i64 0,.int .i64 0,.int .i64 0,.slc .full []]):=f2.old (by rw[fr1 _ (by omega)];simp) (by omega);have l2:O.length+1≤O2.length:=by have:=f2.len;omega
  obtain⟨O3,hO3⟩: ∃O3,(O2++[Obj.cells (icN s1 s2 q.1)]).set p (.cells (rdc sp L ⟨q.2.i,q.2.e,q.2.o - 1⟩))=O3:=⟨_,rfl⟩
  have fr3: ∀i,i≠p→O3[i]? =(O2++[Obj.cells (icN s1 s2 q.1)])[i]?:=fun i h=>by rw[←hO3,List.getElem?_set_ne (by omega)]
  have r3:Rd O3 p sp L ⟨q.2.i,q.2.e,q.2.o - 1⟩:=by unfold Rd;rw[←hO3];exact List.getElem?_set_self (by simp;omega)
  have l3:O3.length=O2.length+1:=by rw[←hO3];simp
  have g5:O3[O2.length]? =some (.cells (icN s1 s2 q.1)):=by rw[fr3 _ (by omega)];simp
  have g83:O3[O.length]? =some (.cells [.int .i64 0,.slc .full [],.int .i64 0,.int .i64 0,.int .i64 0,.slc .full []]):=by rw[fr3 _ (by omega)];exact get_old g8 _
  obtain⟨O9,e9,g9,n9,m9⟩:=wr_ok (.cells (icN s1 s2 q.1)) (List.getElem?_eq_some_iff.1 g83).1;have r2':=r2.app [.cells (icN s1 s2 q.1)];have hT':=hT.put ⟨s.i+1,s.e,s.o⟩;unfold Rd at hT hT' r2';unfold rdc at hT hT' hO1 r2' hO3;simp only[List.append_nil]at k2;unfold icN at k2 r2' hO3 g5;refine⟨s1,s2,O9,Y,?_,⟨by omega,fun i hi hp=>?_⟩,?_⟩
  ·clear n9 m9 l3 l2 l1 hlt;unfold icN at e9 g9⊢;rw[he]at hT hO1 hT';simp -implicitDefEqProofs at hO1 hT' hO3;simp -implicitDefEqProofs [c248,hT,ho',ho'',he,w1,w2,hT',hO1,k2,r2',w3,hO3,g5,g83,e9,g9]
  ·rw[n9 i (by omega),fr3 i hp,List.getElem?_append_left (by omega),f2.get i (by omega) hp,fr1 i hp,List.getElem?_append_left hi]
  ·unfold Rd;rw[n9 p (by omega)];exact r3
end
abbrev zz6:List AV:=[.int .i64 0,.slc .full [],.int .i64 0,.int .i64 0,.int .i64 0,.slc .full []]
section
variable {p:Nat} {sp:Sp} {L:List Tk}
theorem fin_ok {O O1:List Obj} {x:Obj} {s':Ps} (c:Obj) (hp:p<O.length) (f:Fro p (O++[x]) O1) (r:Rd O1 p sp L s'):
  ∃O9,O1.set O.length c=O9∧Fro p O O9∧Rd O9 p sp L s'∧O1[O.length]? =some x∧O9[O.length]? =some c:=by
 have h1:O1[O.length]? =some x:=f.old (by simp) (by omega);have h2:=(List.getElem?_eq_some_iff.1 h1).1;refine⟨_,rfl,⟨by simp;omega,fun i hi hp=>?_⟩,?_,h1,List.getElem?_set_self h2⟩
 ·rw[List.getElem?_set_ne (by omega),f.get i (by simp;omega) hp,List.getElem?_append_left hi]
 ·unfold Rd;rw[List.getElem?_set_ne (by omega)];exact r
theorem adv_ok {O:List Obj} {s:Ps} (h:Rd O p sp L s) (x:Obj):Fro p (O++[x]) ((O++[x]).set p (.cells (rdc sp L (adv s))))∧Rd ((O++[x]).set p (.cells (rdc sp L (adv s)))) p sp L (adv s):=
 ⟨.set _ _ _,(h.app [x]).put _⟩
end
section
variable {G:Nat→Option AV} {cl:Caller} {yl:Nat→List AV→Mem→Option (AV×Mem)} {N:Nat}
variable {p:Nat} {sp:Sp} {L:List Tk} {O:List Obj} {R:List Arr} {s:Ps}
abbrev H137 (cl:Caller) (p:Nat) (sp:Sp) (L:List Tk):Prop:= ∀O R s',Rd O p sp L s'→s'.i<L.length→RR (cl 137 [.ptr p 0] ⟨O,R⟩) (.str (nameS L s').1) p sp L (nameS L s').2 O R
abbrev H138 (cl:Caller) (p:Nat) (sp:Sp) (L:List Tk):Prop:= ∀O R s' w,Rd O p sp L s'→s'.i<L.length→RR (cl 138 [.ptr p 0,.str w] ⟨O,R⟩) (.tup []) p sp L (needS L s' w) O R
abbrev H245 (cl:Caller) (p:Nat) (sp:Sp) (L:List Tk):Prop:= ∀O R s' lo hi,Rd O p sp L s'→s'.i<L.length→RR (cl 245 [.ptr p 0,.int .i64 lo,.int .i64 hi] ⟨O,R⟩) (.int .i64 (numS L s' lo hi).1) p sp L (numS L s' lo hi).2 O R
theorem ev242 (h:Rd O p sp L s) (hb:s.i+1<big):RN (callA G false cl yl N c242 [.ptr p 0] ⟨O,R⟩) ndZ p sp L (adv s) O R:=by
 have hp:p<O.length:=(List.getElem?_eq_some_iff.1 h).1;unfold big at hb;have w1:wrapF .i64 ((s.i:Int)+1)=((s.i+1:Nat):Int):=wrap_succ (by omega);obtain⟨f1,r1⟩:=adv_ok h (.cells zz6);obtain⟨O9,e9,q1,q2,q3,q4⟩:=fin_ok (.cells (icN .full .full ndZ)) hp f1 r1;refine⟨.full,.full,_,[],?_,q1,q2⟩;have h':=h.app [.cells zz6];unfold Rd rdc at h';have hz:icN .full .full ndZ=zz6:=rfl;rw[hz]at e9 q4⊢;unfold rdc adv at e9 q3;simp -implicitDefEqProofs at e9 q3;simp -implicitDefEqProofs [c242,h',w1,e9,q3,q4]
theorem ev243 (h:Rd O p sp L s) (hb:s.i+1<big):RN (callA G false cl yl N c243 [.ptr p 0] ⟨O,R⟩) (nd 1 []) p sp L (adv s) O R:=by
 have hp:p<O.length:=(List.getElem?_eq_some_iff.1 h).1;unfold big at hb;have w1:wrapF .i64 ((s.i:Int)+1)=((s.i+1:Nat):Int):=wrap_succ (by omega);obtain⟨f1,r1⟩:=adv_ok h (.cells zz6);obtain⟨O9,e9,q1,q2,q3,q4⟩:=fin_ok (.cells (icN .full .full (nd 1 []))) hp f1 r1;refine⟨.full,.full,_,[],?_,q1,q2⟩;have h':=h.app [.cells zz6];unfold Rd rdc at h';have hz:icN .full .full (nd 1 [])=[.int .i64 1,.slc .full [],.int .i64 0,.int .i64 0,.int .i64 0,.slc .full []]:=rfl;rw[hz]at e9 q4⊢;unfold rdc adv at e9 q3;simp -implicitDefEqProofs at e9 q3;simp -implicitDefEqProofs [c243,h',w1,e9,q3,q4]
theorem ev246 (h:Rd O p sp L s) (hb:s.i+1<big) (hi:s.i+1<L.length) (h137:H137 cl p sp L):RN (callA G false cl yl N c246 [.ptr p 0] ⟨O,R⟩) (oneS L s).1 p sp L (oneS L s).2 O R:=by
 have hp:p<O.length:=(List.getElem?_eq_some_iff.1 h).1;unfold big at hb;have w1:wrapF .i64 ((s.i:Int)+1)=((s.i+1:Nat):Int):=wrap_succ (by omega);obtain⟨f1,r1⟩:=adv_ok h (.cells zz6);obtain⟨O2,k2,f2,r2⟩:=h137 _ R (adv s) r1 hi;obtain⟨O9,e9,q1,q2,q3,q4⟩:=fin_ok (.cells (icN .full .full (oneS L s).1)) hp (f1.trans f2) r2;refine⟨.full,.full,_,[],?_,q1,q2⟩;have h':=h.app [.cells zz6];unfold Rd rdc at h';unfold oneS at e9 q4⊢;unfold rdc at k2;generalize nameS L (adv s)=a at*;have hz:icN .full .full (.mk 9 [a.1] 0 0 0 [])=[.int .i64 9,.slc .full [.str a.1],.int .i64 0,.int .i64 0,.int .i64 0,.slc .full []]:=rfl;rw[hz]at e9 q4⊢;unfold adv at k2
 try simp -implicitDefEqProofs at k2
 simp -implicitDefEqProofs [c246,h',w1,k2,e9,q3,q4]
theorem ev250 (h:Rd O p sp L s) (op:Int) (r:Nd×Ps) (hop:op=16) (h251: ∀O',FrN O.length p O O'→Rd O' p sp L s→RN (cl 251 [.ptr p 0,.int .i64 op] ⟨O',R⟩) r.1 p sp L r.2 O' R):RN (callA G false cl yl N c250 [.ptr p 0] ⟨O,R⟩) r.1 p sp L r.2 O R:=by
 have hp:p<O.length:=(List.getElem?_eq_some_iff.1 h).1;subst hop;obtain⟨s1,s2,O2,Y,k2,f2,r2⟩:=h251 (O++[.cells zz6]) (fun i hi _=>List.getElem?_append_left hi) (h.app _);obtain⟨O9,e9,q1,q2,q3,q4⟩:=fin_ok (.cells (icN s1 s2 r.1)) hp f2 r2;refine⟨s1,s2,_,Y,?_,q1,q2⟩;unfold icN at k2 e9 q4⊢
 try simp -implicitDefEqProofs at k2
 simp -implicitDefEqProofs [c250,k2,e9,q3,q4]
theorem ev252 (h:Rd O p sp L s) (op:Int) (r:Nd×Ps) (hop:op=17) (h251: ∀O',FrN O.length p O O'→Rd O' p sp L s→RN (cl 251 [.ptr p 0,.int .i64 op] ⟨O',R⟩) r.1 p sp L r.2 O' R):RN (callA G false cl yl N c252 [.ptr p 0] ⟨O,R⟩) r.1 p sp L r.2 O R:=by
 have hp:p<O.length:=(List.getElem?_eq_some_iff.1 h).1;subst hop;obtain⟨s1,s2,O2,Y,k2,f2,r2⟩:=h251 (O++[.cells zz6]) (fun i hi _=>List.getElem?_append_left hi) (h.app _);obtain⟨O9,e9,q1,q2,q3,q4⟩:=fin_ok (.cells (icN s1 s2 r.1)) hp f2 r2;refine⟨s1,s2,_,Y,?_,q1,q2⟩;unfold icN at k2 e9 q4⊢
 try simp -implicitDefEqProofs at k2
 simp -implicitDefEqProofs [c252,k2,e9,q3,q4]
theorem ev247 (h:Rd O p sp L s) (r:Nd×Ps) (h248: ∀O' b,FrN O.length p O O'→Rd O' p sp L s→O'[b]? =some (.cells [.ptr p 0])→b≠p→RN (cl 248 [.ptr p 0,.fn 249 [] [.ptr b 0]] ⟨O',R⟩) r.1 p sp L r.2 O' R):RN (callA G false cl yl N c247 [.ptr p 0] ⟨O,R⟩) r.1 p sp L r.2 O R:=by
 have hp:p<O.length:=(List.getElem?_eq_some_iff.1 h).1;obtain⟨s1,s2,O2,Y,k2,f2,r2⟩:=h248 (O++[.cells [.ptr p 0],.cells zz6]) O.length (fun i hi _=>List.getElem?_append_left hi) (h.app _) (by simp) (by omega);have g:O2[O.length+1]? =some (.cells zz6):=f2.old (by simp) (by omega);obtain⟨O9,e9,g9,n9,m9⟩:=wr_ok (.cells (icN s1 s2 r.1)) (List.getElem?_eq_some_iff.1 g).1;have l2:=f2.len;rw[List.length_append]at l2;refine⟨s1,s2,O9,Y,?_,⟨by omega,fun i hi hp=>?_⟩,?_⟩
 ·clear n9 m9 l2;unfold icN at k2 e9 g9⊢
  try simp -implicitDefEqProofs at k2
  simp -implicitDefEqProofs [c247,k2,g,e9,g9]
 ·rw[n9 i (by omega),f2.get i (by simp;omega) hp,List.getElem?_append_left hi]
 ·unfold Rd;rw[n9 p (by omega)];exact r2
theorem ev253 (h:Rd O p sp L s) (r:Nd×Ps) (h248: ∀O' b,FrN O.length p O O'→Rd O' p sp L s→O'[b]? =some (.cells [.ptr p 0])→b≠p→RN (cl 248 [.ptr p 0,.fn 254 [] [.ptr b 0]] ⟨O',R⟩) r.1 p sp L r.2 O' R):RN (callA G false cl yl N c253 [.ptr p 0] ⟨O,R⟩) r.1 p sp L r.2 O R:=by
 have hp:p<O.length:=(List.getElem?_eq_some_iff.1 h).1;obtain⟨s1,s2,O2,Y,k2,f2,r2⟩:=h248 (O++[.cells [.ptr p 0],.cells zz6]) O.length (fun i hi _=>List.getElem?_append_left hi) (h.app _) (by simp) (by omega);have g:O2[O.length+1]? =some (.cells zz6):=f2.old (by simp) (by omega);obtain⟨O9,e9,g9,n9,m9⟩:=wr_ok (.cells (icN s1 s2 r.1)) (List.getElem?_eq_some_iff.1 g).1;have l2:=f2.len;rw[List.length_append]at l2;refine⟨s1,s2,O9,Y,?_,⟨by omega,fun i hi hp=>?_⟩,?_⟩
 ·clear n9 m9 l2;unfold icN at k2 e9 g9⊢
  try simp -implicitDefEqProofs at k2
  simp -implicitDefEqProofs [c253,k2,g,e9,g9]
 ·rw[n9 i (by omega),f2.get i (by simp;omega) hp,List.getElem?_append_left hi]
 ·unfold Rd;rw[n9 p (by omega)];exact r2
theorem ev249 (h:Rd O p sp L s) {b:Nat} (hbx:O[b]? =some (.cells [.ptr p 0])) (q:Nd×Ps) (h218: ∀O',FrN O.length p O O'→Rd O' p sp L s→RN (cl 218 [.ptr p 0] ⟨O',R⟩) q.1 p sp L q.2 O' R):RN (callA G false cl yl N c249 [.ptr b 0] ⟨O,R⟩) (nd 11 [q.1]) p sp L q.2 O R:=by
 have hp:p<O.length:=(List.getElem?_eq_some_iff.1 h).1;obtain⟨s1,s2,O2,Y,k2,f2,r2⟩:=h218 (O++[.cells zz6]) (fun i hi _=>List.getElem?_append_left hi) (h.app _);obtain⟨O9,e9,q1,q2,q3,q4⟩:=fin_ok (.cells (icN .full .full (nd 11 [q.1]))) hp f2 r2;have hb':=get_old hbx [.cells zz6];have hnd:icN .full .full (nd 11 [q.1])=[.int .i64 11,.slc .full [],.int .i64 0,.int .i64 0,.int .i64 0,.slc .full [av q.1]]:=rfl;refine⟨.full,.full,_,Y,?_,q1,q2⟩;rw[hnd]at e9 q4⊢;unfold icN at k2
 try simp -implicitDefEqProofs at k2
 simp -implicitDefEqProofs [c249,hb',k2,e9,q3,q4]
theorem ev254 (h:Rd O p sp L s) {b:Nat} (hbx:O[b]? =some (.cells [.ptr p 0])) (hbp:b≠p) (q:Nd×Ps) (hqi:q.2.i<L.length) (h81: ∀O',FrN O.length p O O'→Rd O' p sp L s→RN (cl 81 [.ptr p 0] ⟨O',R⟩) q.1 p sp L q.2 O' R) (h138:H138 cl p sp L):RN (callA G false cl yl N c254 [.ptr b 0] ⟨O,R⟩) q.1 p sp L (needS L q.2 wR) O R:=by
 have hp:p<O.length:=(List.getElem?_eq_some_iff.1 h).1;obtain⟨s1,s2,O2,Y,k2,f2,r2⟩:=h81 (O++[.cells zz6]) (fun i hi _=>List.getElem?_append_left hi) (h.app _);obtain⟨O3,k3,f3,r3⟩:=h138 (O2++[.cells (icN s1 s2 q.1)]) (R++Y) q.2 wR (r2.app _) hqi;have hb':=get_old hbx [.cells zz6];have hb2:=get_old (f2.old hb' hbp) [.cells (icN s1 s2 q.1)];have hl2:O.length+1≤O2.length:=by have:=f2.len;simpa using this
 have g5:O3[O2.length]? =some (.cells (icN s1 s2 q.1)):=f3.old (by simp) (by omega);obtain⟨O9,e9,q1,q2,q3,q4⟩:=fin_ok (.cells (icN s1 s2 q.1)) hp ((f2.trans (.app _ _ _)).trans f3) r3;refine⟨s1,s2,_,Y,?_,q1,q2⟩;have hw:wR=[41]:=rfl;rw[hw]at k3;unfold icN at k2 k3 g5 hb2 e9 q4⊢
 try simp -implicitDefEqProofs at k2
 try simp -implicitDefEqProofs at k3
 simp -implicitDefEqProofs [c254,hb',hb2,k2,k3,g5,e9,q3,q4]
end
theorem st_ok {O1:List Obj} {q p:Nat} {sp:Sp} {L:List Tk} {s:Ps} (c:Obj) (hq:q≠p) (hlt:q<O1.length) (r:Rd O1 p sp L s):
  ∃O2,O1.set q c=O2∧Rd O2 p sp L s∧O2[q]? =some c∧(∀i,i≠q→O2[i]? =O1[i]?)∧O2.length=O1.length:=by
 refine⟨_,rfl,?_,List.getElem?_set_self hlt,fun i hi=>List.getElem?_set_ne (by omega),by simp⟩;unfold Rd;rw[List.getElem?_set_ne hq];exact r
section
variable {G:Nat→Option AV} {cl:Caller} {yl:Nat→List AV→Mem→Option (AV×Mem)} {N:Nat}
variable {p:Nat} {sp:Sp} {L:List Tk} {O:List Obj} {R:List Arr} {s:Ps}
theorem ev251 (h:Rd O p sp L s) (op:Int) (r:Nd×Ps) (h248: ∀O' b c,FrN O.length p O O'→Rd O' p sp L s→O'[b]? =some (.cells [.ptr p 0])→O'[c]? =some (.cells [.int .i64 op])→b≠p→c≠p→RN (cl 248 [.ptr p 0,.fn 265 [] [.ptr c 0,.ptr b 0]] ⟨O',R⟩) r.1 p sp L r.2 O' R):RN (callA G false cl yl N c251 [.ptr p 0,.int .i64 op] ⟨O,R⟩) r.1 p sp L r.2 O R:=by
 have hp:p<O.length:=(List.getElem?_eq_some_iff.1 h).1;obtain⟨s1,s2,O2,Y,k2,f2,r2⟩:=h248 (O++[.cells [.ptr p 0],.cells [.int .i64 op],.cells zz6]) O.length (O.length+1) (fun i hi _=>List.getElem?_append_left hi) (h.app _) (by simp) (by simp) (by omega) (by omega);have g:O2[O.length+2]? =some (.cells zz6):=f2.old (by simp) (by omega);obtain⟨O9,e9,g9,n9,m9⟩:=wr_ok (.cells (icN s1 s2 r.1)) (List.getElem?_eq_some_iff.1 g).1;have l2:=f2.len;rw[List.length_append]at l2;refine⟨s1,s2,O9,Y,?_,⟨by omega,fun i hi hp=>?_⟩,?_⟩
 ·clear n9 m9 l2;unfold icN at k2 e9 g9⊢
  try simp -implicitDefEqProofs at k2
  simp -implicitDefEqProofs [c251,k2,g,e9,g9]
 ·rw[n9 i (by omega),f2.get i (by simp;omega) hp,List.getElem?_append_left hi]
 ·unfold Rd;rw[n9 p (by omega)];exact r2
abbrev H135 (cl:Caller) (p:Nat) (sp:Sp) (L:List Tk):Prop:= ∀O R s',Rd O p sp L s'→s'.i<L.length→RR (cl 135 [.ptr p 0] ⟨O,R⟩) (.int .i64 (srtS L s').1) p sp L (srtS L s').2 O R
theorem ev265 (hL:Lok L) (h:Rd O p sp L s) (hi:s.i<L.length) {b c:Nat} (op:Int) (hbx:O[b]? =some (.cells [.ptr p 0])) (hcx:O[c]? =some (.cells [.int .i64 op])) (hbp:b≠p) (hcp:c≠p) (q:Nd×Ps)
  (h135:H135 cl p sp L) (h137:H137 cl p sp L) (h138:H138 cl p sp L)
  (h81: ∀O',FrN O.length p O O'→Rd O' p sp L (needS L (nameS L (srtS L s).2).2 wCol)→RN (cl 81 [.ptr p 0] ⟨O',R⟩) q.1 p sp L q.2 O' R):
  RN (callA G false cl yl N c265 [.ptr c 0,.ptr b 0] ⟨O,R⟩) (qn op (nameS L (srtS L s).2).1 (srtS L s).1 q.1) p sp L q.2 O R:=by
 have hp:p<O.length:=(List.getElem?_eq_some_iff.1 h).1;have hbl:b<O.length:=(List.getElem?_eq_some_iff.1 hbx).1;have hcl:c<O.length:=(List.getElem?_eq_some_iff.1 hcx).1;have t1:=srtL_stp hL s [0,1,2,3];have t2:=nameS_stp hL (srtS L s).2;obtain⟨O1,k1,f1,r1⟩:=h135 (O++[.cells zz6,.cells zz6]) R s (h.app _) hi;have i1:(srtS L s).2.i<L.length:=t1.lt hi;have l1:O.length+2≤O1.length:=by have:=f1.len;simpa using this
 have z2:O1[O.length]? =some (.cells zz6):=f1.old (by simp) (by omega);have z3:O1[O.length+1]? =some (.cells zz6):=f1.old (by simp) (by omega);have b0:=get_old hbx [.cells zz6,.cells zz6];have c0:=get_old hcx [.cells zz6,.cells zz6];have b1:=f1.old b0 hbp;have c1:=f1.old c0 hcp;generalize hS:srtS L s=so at*;obtain⟨O2,e2,r2,g2,n2,m2⟩:=st_ok (q:=O.length+1) (.cells [.int .i64 op,.slc .full [],.int .i64 so.1,.int .i64 0,.int .i64 0,.slc .full []]) (by omega) (by omega) r1;have b2:O2[b]? =some (.cells [.ptr p 0]):=by rw[n2 b (by omega)];exact b1
 obtain⟨O3,k3,f3,r3⟩:=h137 O2 R so.2 r2 i1;have i3:(nameS L so.2).2.i<L.length:=t2.lt i1;have b3:=f3.old b2 hbp;have g3:=f3.old g2 (by omega);have l3:=f3.len;generalize hA:nameS L so.2=a at*;obtain⟨O4,e4,r4,g4,n4,m4⟩:=st_ok (q:=O.length+1) (.cells [.int .i64 op,.slc .full [.str a.1],.int .i64 so.1,.int .i64 0,.int .i64 0,.slc .full []]) (by omega) (by omega) r3;have b4:O4[b]? =some (.cells [.ptr p 0]):=by rw[n4 b (by omega)];exact b3
 obtain⟨O5,k5,f5,r5⟩:=h138 O4 R a.2 wCol r4 i3;have b5:=f5.old b4 hbp;have g5:=f5.old g4 (by omega);have l5:=f5.len;have fr5: ∀i,i<O.length→i≠p→O5[i]? =O[i]?:=fun i hi hp=>by
  rw[f5.get i (by omega) hp,n4 i (by omega),f3.get i (by omega) hp,n2 i (by omega),f1.get i (by simp;omega) hp,List.getElem?_append_left hi]
 obtain⟨s1,s2,O6,Y,k6,f6,r6⟩:=h81 O5 (fun i hi hp=>fr5 i hi hp) r5;have g6:=f6.old g5 (by omega);have l6:=f6.len;obtain⟨O7,e7,r7,g7,n7,m7⟩:=st_ok (q:=O.length+1) (.cells [.int .i64 op,.slc .full [.str a.1],.int .i64 so.1,.int .i64 0,.int .i64 0,.slc .full [av q.1]]) (by omega) (by omega) r6;have z2':O7[O.length]? =some (.cells zz6):=by
  rw[n7 _ (by omega),f6.get _ (by omega) (by omega),f5.get _ (by omega) (by omega),n4 _ (by omega),f3.get _ (by omega) (by omega),n2 _ (by omega)];exact z2
 obtain⟨O9,e9,g9,n9,m9⟩:=wr_ok (.cells (icN .full .full (qn op a.1 so.1 q.1))) (List.getElem?_eq_some_iff.1 z2').1;have hnd:icN .full .full (qn op a.1 so.1 q.1)=[.int .i64 op,.slc .full [.str a.1],.int .i64 so.1,.int .i64 0,.int .i64 0,.slc .full [av q.1]]:=rfl;refine⟨.full,.full,O9,Y,?_,⟨by omega,fun i hi hp=>?_⟩,?_⟩
 ·rw[hnd]at e9 g9⊢;have hw:wCol=[58]:=rfl;rw[hw]at k5;unfold icN at k6;clear n9 m9 n7 m7 l6 l5 m4 l3 m2 l1 hcl hbl hp n2 n4 fr5
  try simp -implicitDefEqProofs at k1
  simp -implicitDefEqProofs [c265,b0,c0,k1,b1,c1,z3,e2,b2,k3,b3,g3,e4,b4,k5,b5,g5,k6,g6,e7,g7,z2',e9,g9]
 ·rw[n9 i (by omega),n7 i (by omega),f6.get i (by omega) hp];exact fr5 i hi hp
 ·unfold Rd;rw[n9 p (by omega)];exact r7
end
section
variable {p:Nat} {sp:Sp} {L:List Tk} {O:List Obj} {R:List Arr} {s:Ps}
theorem numS_v (lo hi:Int):(numS L s lo hi).1=0∨(lo≤(numS L s lo hi).1∧(numS L s lo hi).1≤hi):=by
 unfold numS;split
 ·rename_i h
  unfold numT at h;split at h
  ·split at h
   ·exact absurd h (wrg_ne (by decide))
   ·right;constructor<;>simp only[]<;>omega
  ·exact absurd h (wrg_ne (by decide))
 ·exact .inl rfl
end
section
variable {G:Nat→Option AV} {cl:Caller} {yl:Nat→List AV→Mem→Option (AV×Mem)} {N:Nat}
variable {p:Nat} {sp:Sp} {L:List Tk} {O:List Obj} {R:List Arr} {s:Ps}
theorem ev244 (hL:Lok L) (h:Rd O p sp L s) (hb:s.i+1<big) (hi:s.i+1<L.length) (h137:H137 cl p sp L) (h138:H138 cl p sp L) (h245:H245 cl p sp L):RN (callA G false cl yl N c244 [.ptr p 0] ⟨O,R⟩) (sizS L s).1 p sp L (sizS L s).2 O R:=by
 have hp:p<O.length:=(List.getElem?_eq_some_iff.1 h).1;unfold big at hb;have w1:wrapF .i64 ((s.i:Int)+1)=((s.i+1:Nat):Int):=wrap_succ (by omega);obtain⟨f1,r1⟩:=adv_ok h (.cells zz6);obtain⟨OA,hOA⟩: ∃OA,(O++[Obj.cells zz6]).set p (.cells (rdc sp L (adv s)))=OA:=⟨_,rfl⟩
 rw[hOA]at f1 r1;obtain⟨O2,k2,f2,r2⟩:=h137 OA R (adv s) r1 hi;dsimp only[sizS];have t2:=nameS_stp hL (adv s);generalize nameS L (adv s)=a at*;have i2:a.2.i<L.length:=t2.lt hi;have f02:=f1.trans f2;have l2:=f02.len;rw[List.length_append,List.length_singleton]at l2;obtain⟨O4,k4,f4,r4⟩:=h138 (O2++[.cells [.int .i64 8,.slc .full [.str a.1],.int .i64 0,.int .i64 0,.int .i64 0,.slc .full []]]) R a.2 wMod (r2.app _) i2;have g4:O4[O2.length]? =some (.cells [.int .i64 8,.slc .full [.str a.1],.int .i64 0,.int .i64 0,.int .i64 0,.slc .full []]):=f4.old (by simp) (by omega);have i4:(needS L a.2 wMod).i<L.length:=(needS_stp hL _ _).lt i2;obtain⟨O5,k5,f5,r5⟩:=h245 O4 R _ 1 64 r4 i4;have g5:=f5.old g4 (by omega);have t5:=numS_stp hL (needS L a.2 wMod) 1 64;have v5:=numS_v (L:=L) (s:=needS L a.2 wMod) 1 64;have f05:=((f02.trans (.app _ _ _)).trans f4).trans f5;generalize numS L (needS L a.2 wMod) 1 64=m at*;have i5:m.2.i<L.length:=t5.lt i4;obtain⟨O6,e6,r6,g6,n6,m6⟩:=st_ok (q:=O2.length) (.cells [.int .i64 8,.slc .full [.str a.1],.int .i64 0,.int .i64 0,.int .i64 m.1,.slc .full []]) (by omega) (List.getElem?_eq_some_iff.1 g5).1 r5;obtain⟨O7,k7,f7,r7⟩:=h138 O6 R m.2 wIs r6 i5;have g7:=f7.old g6 (by omega);have i7:(needS L m.2 wIs).i<L.length:=(needS_stp hL _ _).lt i5;have w2:wrapF .i64 (m.1 - 1)=m.1 - 1:=wrap_id (by omega) (by omega);obtain⟨O8,k8,f8,r8⟩:=h245 O7 R _ 0 (m.1 - 1) r7 i7;have g8:=f8.old g7 (by omega);generalize numS L (needS L m.2 wIs) 0 (m.1 - 1)=k at*;obtain⟨O9,e9,r9,g9,n9,m9⟩:=st_ok (q:=O2.length) (.cells [.int .i64 8,.slc .full [.str a.1],.int .i64 0,.int .i64 k.1,.int .i64 m.1,.slc .full []]) (by omega) (List.getElem?_eq_some_iff.1 g8).1 r8;have l5:=f5.len;have l4:=f4.len;have l7:=f7.len;have l8:=f8.len;rw[List.length_append,List.length_singleton]at l4;have fr:Fro p (O++[.cells zz6]) O9:=⟨by rw[List.length_append,List.length_singleton];omega,fun i hi hp=>by
  rw[List.length_append,List.length_singleton]at hi;rw[n9 i (by omega),f8.get i (by omega) hp,f7.get i (by omega) hp,n6 i (by omega),f05.get i (by rw[List.length_append,List.length_singleton];omega) hp]⟩
 obtain⟨Oz,ez,q1,q2,q3,q4⟩:=fin_ok (.cells (icN .full .full (.mk 8 [a.1] 0 k.1 m.1 []))) hp fr r9;refine⟨.full,.full,Oz,[],?_,q1,q2⟩;have h':=h.app [.cells zz6];unfold Rd rdc at h';unfold rdc adv at hOA;have hnd:icN .full .full (.mk 8 [a.1] 0 k.1 m.1 [])=[.int .i64 8,.slc .full [.str a.1],.int .i64 0,.int .i64 k.1,.int .i64 m.1,.slc .full []]:=rfl;rw[hnd]at ez q4⊢;have hw:wMod=[109,111,100]:=rfl;have hw2:wIs=[105,115]:=rfl;rw[hw]at k4;rw[hw2]at k7;clear l2 l4 l5 l7 l8 m9 m6 n6 n9 i2 i4 i5 i7 hp f1 f2 f02 f4 f5 f05 f7 f8 fr v5
 try simp -implicitDefEqProofs at hOA
 simp -implicitDefEqProofs [c244,h',w1,hOA,k2,k4,k5,g5,e6,g6,k7,g7,w2,k8,g8,e9,g9,q3,ez,q4]
end
theorem relS_find (L:List Tk) (a:Str) (s:Ps): ∀(ws:List Str) (k:Nat),relS L a s ((k:Int)+2) ws=match(ws.zipIdx k).findSome? (fun x=>(if isS L s x.1 then some x.2 else none:Option Nat))with
  |none=>(ndZ,wrg s 3)
  |some j=>(.mk ((j:Int)+2) [a,(nameS L (adv s)).1] 0 0 0 [],(nameS L (adv s)).2)
 |[],k=>rfl
 |w::ws,k=>by
  simp only[relS,List.zipIdx_cons,List.findSome?_cons];cases isS L s w with
  |true=>rfl
  |false=>
   have:=relS_find L a s ws (k+1);have e:(((k+1:Nat):Int)+2)=(k:Int)+2+1:=by omega
   rw[e]at this;simpa using this
section
variable {G:Nat→Option AV} {cl:Caller} {yl:Nat→List AV→Mem→Option (AV×Mem)} {N:Nat}
variable {p:Nat} {sp:Sp} {L:List Tk} {O:List Obj} {R:List Arr} {s:Ps}
abbrev H191 (cl:Caller) (p:Nat) (sp:Sp) (L:List Tk):Prop:= ∀O R s' w,Rd O p sp L s'→s'.i<L.length→Gr (cl 191 [.ptr p 0,.str w] ⟨O,R⟩) (.bool (isS L s' w)) O R
abbrev relA:AV:=.agg [.str [61],.str [105,110],.str [115,117,98],.str [97,100,106],.str [111,110]]
theorem loop229 (hL:Lok L) (a:Str) {q:Nat} (h:Rd O p sp L s) (hi:s.i<L.length) (hq:O[q]? =some (.cells zz6)) (hqp:q≠p) (h134:H134 cl p sp L) (h137:H137 cl p sp L) (hN:6<N) (kk mm:Nat):
  ∃e s',iter false (evalC G false cl yl N c229b0) ⟨[0,2,3,22,23],[(23,none)],true⟩ kk mm N ⟨[(0,.ptr p 0),(2,.ptr q 0),(3,.str a),(22,relA),(23,.int .i64 0)],⟨O,R⟩,[]⟩=some (e,s')∧e≠ .normal∧
   (s'.mks=[]∧look 0 s'.ts=.ptr p 0∧look 2 s'.ts=.ptr q 0∧match(wRel.zipIdx 0).findSome? (fun x=>(if isS L s x.1 then some x.2 else none:Option Nat))with
    |none=>e=.exit 1∧ ∃O1,s'.m=⟨O1,R⟩∧Fro p O O1∧Rd O1 p sp L s
    |some j=>e=.ret∧ ∃O1,s'.m=⟨O1,R⟩∧Rd O1 p sp L (nameS L (adv s)).2∧O1[q]? =some (.cells (icN .full .full (.mk ((j:Int)+2) [a,(nameS L (adv s)).1] 0 0 0 [])))∧O.length≤O1.length∧ ∀i,i<O.length→i≠p→i≠q→O1[i]? =O[i]?):=by
 refine iter_inv (mu:=false) (step:=evalC G false cl yl N c229b0) (an:=⟨[0,2,3,22,23],[(23,none)],true⟩) (k:=kk) (m:=mm) (N:=N) (wRel.zipIdx 0) (fun x=>if isS L s x.1 then some x.2 else none)
  (fun i st=> ∃O1,st=⟨[(0,.ptr p 0),(2,.ptr q 0),(3,.str a),(22,relA),(23,.int .i64 (i:Nat))],⟨O1,R⟩,[]⟩∧Fro p O O1∧Rd O1 p sp L s)
  (fun r e s'=>s'.mks=[]∧look 0 s'.ts=.ptr p 0∧look 2 s'.ts=.ptr q 0∧match r with
    |none=>e=.exit 1∧ ∃O1,s'.m=⟨O1,R⟩∧Fro p O O1∧Rd O1 p sp L s
    |some j=>e=.ret∧ ∃O1,s'.m=⟨O1,R⟩∧Rd O1 p sp L (nameS L (adv s)).2∧O1[q]? =some (.cells (icN .full .full (.mk ((j:Int)+2) [a,(nameS L (adv s)).1] 0 0 0 [])))∧O.length≤O1.length∧ ∀i,i<O.length→i≠p→i≠q→O1[i]? =O[i]?) (by simp[wRel];omega) ⟨O,rfl,.refl _ _,h⟩ ?_ ?_
 ·rintro i ⟨w,j⟩ st hx hil ⟨O1,rfl,hF,hR⟩;have hi5:i<5:=by simpa[wRel] using hil
  rw[List.getElem?_zipIdx]at hx;obtain⟨hj,hw⟩:i=j∧wRel[i]? =some w:=by
   rw[List.getElem?_eq_getElem (show i<wRel.length from hi5)]at hx;simp at hx;exact⟨hx.2,by rw[List.getElem?_eq_getElem (show i<wRel.length from hi5),hx.1]⟩
  subst hj;obtain⟨O2,k2,f2,r2⟩:=h134 O1 R s w hR hi;have w1:=wrap_succ (i:=i) (by omega);have w2:wrapF .i64 (2+(i:Int))=(i:Int)+2:=by rw[wrap_id (by omega) (by omega)];omega
  have hlt:(i:Int)<5:=by omega
  have hix:([.str [61],.str [105,110],.str [115,117,98],.str [97,100,106],.str [111,110]]:List AV)[i]? =some (.str w):=by
   rcases(show i=0∨i=1∨i=2∨i=3∨i=4 by omega)with rfl|rfl|rfl|rfl|rfl<;>(simp[wRel]at hw;subst hw;rfl)
  have hix': ∀h,([.str [61],.str [105,110],.str [115,117,98],.str [97,100,106],.str [111,110]]:List AV)[i]'h=.str w:=fun h=>(List.getElem?_eq_some_iff.1 hix).2;unfold tksS at r2;simp only[];cases hw:isS L s w with
  |true=>
   rw[hw]at k2 r2;obtain⟨O3,k3,f3,r3⟩:=h137 O2 R (adv s) r2 ((isS_adv hL hw).lt hi);have g3:=f3.old (f2.old (hF.old hq hqp) hqp) hqp;obtain⟨O4,e4,r4,g4,n4,m4⟩:=st_ok (.cells (icN .full .full (.mk ((i:Int)+2) [a,(nameS L (adv s)).1] 0 0 0 []))) hqp (List.getElem?_eq_some_iff.1 g3).1 r3;have fin:(∀i,i<O.length→i≠p→i≠q→O4[i]? =O[i]?)∧O.length≤O4.length:=by
    have l1:=hF.len;have l2:=f2.len;have l3:=f3.len;exact⟨fun i hi hp hq=>by rw[n4 i hq,f3.get i (by omega) hp,f2.get i (by omega) hp,hF.get i hi hp],by omega⟩
   have hnd:icN .full .full (.mk ((i:Int)+2) [a,(nameS L (adv s)).1] 0 0 0 [])=[.int .i64 ((i:Int)+2),.slc .full [.str a,.str (nameS L (adv s)).1],.int .i64 0,.int .i64 0,.int .i64 0,.slc .full []]:=rfl;simp only[if_true,hnd];rw[hnd]at e4 g4;generalize nameS L (adv s)=nm at*;clear n4 m4;simp -implicitDefEqProofs [c229b0,hlt,hi5,hix',k2,w1,w2,k3,g3,e4];exact⟨r4,g4,fin.2,fin.1⟩
  |false=>
   rw[hw]at k2 r2;simp -implicitDefEqProofs [c229b0,hlt,hi5,hix',k2,w1];exact⟨hF.trans f2,r2⟩
 ·rintro st ⟨O1,rfl,hF,hR⟩;simp -implicitDefEqProofs [c229b0,wRel];exact⟨hF,hR⟩
theorem ev229 (hL:Lok L) (h:Rd O p sp L s) (hi:s.i<L.length) (H:Nat) {r:Nd×Ps} (e:atmS L H s=some r) (h137:H137 cl p sp L) (h191:H191 cl p sp L) (h134:H134 cl p sp L) (h245:H245 cl p sp L) (h133:H133 cl p sp L) (hN:6<N)
  (h255: ∀O' f s' r',Rd O' p sp L s'→s'.i<L.length→isS L s' wL=true→calS L f H s'=some r'→RN (cl 255 [.ptr p 0,.str f] ⟨O',R⟩) r'.1 p sp L r'.2 O' R):
  RN (callA G false cl yl N c229 [.ptr p 0] ⟨O,R⟩) r.1 p sp L r.2 O R:=by
 have hp:p<O.length:=(List.getElem?_eq_some_iff.1 h).1;obtain⟨O2,k2,f2,r2⟩:=h137 (O++[.cells zz6]) R s (h.app _) hi;unfold atmS at e;have t2:=nameS_stp hL s;generalize nameS L s=a at*;have i2:a.2.i<L.length:=t2.lt hi;obtain⟨X,k3⟩:=h191 O2 R a.2 wL r2 i2;have f3:Fro p (O++[.cells zz6]) (O2++X):=f2.trans (.app _ _ _);have hw:wL=[40]:=rfl;have hw2:wIs=[105,115]:=rfl;cases h1:isS L a.2 wL with
 |true=>
  rw[h1]at e k3;rw[if_pos rfl]at e;obtain⟨s1,s2,O4,Y,k4,f4,r4⟩:=h255 (O2++X) a.1 a.2 r (r2.app _) i2 h1 e;obtain⟨O9,e9,q1,q2,q3,q4⟩:=fin_ok (.cells (icN s1 s2 r.1)) hp (f3.trans f4) r4;refine⟨s1,s2,O9,Y,?_,q1,q2⟩;rw[hw]at k3;unfold icN at k4 e9 q4⊢;simp -implicitDefEqProofs [c229,k2,k3,k4,e9,q3,q4]
 |false=>
  rw[h1]at e k3;rw[if_neg (by decide)]at e;rw[hw]at k3;obtain⟨O4,k4,f4,r4⟩:=h134 (O2++X) R a.2 wIs (r2.app _) i2;rw[hw2]at k4;unfold tksS at r4;cases h2:isS L a.2 wIs with
  |true=>
   have hs:=isS_adv hL h2;rw[hw2]at h2;rw[h2]at k4;rw[hw2]at e r4;rw[h2]at e r4;rw[if_pos rfl]at e r4;obtain⟨O5,k5,f5,r5⟩:=h245 O4 R (adv a.2) 0 7 r4 (hs.lt i2);simp only[Option.some.injEq]at e;subst e;generalize numS L (adv a.2) 0 7=m at*;obtain⟨O9,e9,q1,q2,q3,q4⟩:=fin_ok (.cells (icN .full .full (.mk 7 [a.1] 0 m.1 0 []))) hp ((f3.trans f4).trans f5) r5;refine⟨.full,.full,O9,[],?_,q1,q2⟩;have hnd:icN .full .full (.mk 7 [a.1] 0 m.1 0 [])=[.int .i64 7,.slc .full [.str a.1],.int .i64 0,.int .i64 m.1,.int .i64 0,.slc .full []]:=rfl;rw[hnd]at e9 q4⊢;simp -implicitDefEqProofs [c229,k2,k3,k4,k5,e9,q3,q4]
  |false=>
   rw[hw2]at h2;rw[h2]at k4;rw[hw2]at e r4;rw[h2]at e r4;rw[if_neg (by decide)]at e r4;simp only[Option.some.injEq]at e;have hz:O4[O.length]? =some (.cells zz6):=(f3.trans f4).old (by simp) (by omega);obtain⟨ex,⟨ts,M,mks⟩,k5,-,hmk,l0,l2,hm⟩:=loop229 (G:=G) (yl:=yl) (R:=R) hL a.1 r4 i2 hz (by omega) h134 h137 hN O4.length R.length;simp only[]at hmk l0 l2 hm;subst hmk;have hrel:=relS_find L a.1 a.2 wRel 0;rw[show((0:Nat):Int)+2=2 from rfl,e]at hrel;have l4:=(f3.trans f4).len;rw[List.length_append,List.length_singleton]at l4;cases hf:(wRel.zipIdx 0).findSome? (fun x=>(if isS L a.2 x.1 then some x.2 else none:Option Nat))with
   |some j=>
    rw[hf]at hm hrel;simp only[]at hm hrel;obtain⟨rfl,O5,rfl,r5,g5,l5,n5⟩:=hm;subst hrel;refine⟨.full,.full,O5,[],?_,⟨by omega,fun i hi hp=>?_⟩,r5⟩
    ·have hnd:icN .full .full (.mk ((j:Int)+2) [a.1,(nameS L (adv a.2)).1] 0 0 0 [])=[.int .i64 ((j:Int)+2),.slc .full [.str a.1,.str (nameS L (adv a.2)).1],.int .i64 0,.int .i64 0,.int .i64 0,.slc .full []]:=rfl;rw[hnd]at g5⊢;simp -implicitDefEqProofs [c229,k2,k3,k4,k5,l2,g5]
    ·rw[n5 i (by omega) hp (by omega),(f3.trans f4).get i (by rw[List.length_append,List.length_singleton];omega) hp,List.getElem?_append_left hi]
   |none=>
    rw[hf]at hm hrel;simp only[]at hm hrel;obtain⟨rfl,O5,rfl,f5,r5⟩:=hm;subst hrel;obtain⟨O6,k6,f6,r6⟩:=h133 O5 R a.2 3 r5;obtain⟨O9,e9,q1,q2,q3,q4⟩:=fin_ok (.cells (icN .full .full ndZ)) hp (((f3.trans f4).trans f5).trans f6) r6;refine⟨.full,.full,O9,[],?_,q1,q2⟩;have hnd:icN .full .full ndZ=zz6:=rfl;rw[hnd]at e9 q4⊢;simp -implicitDefEqProofs [c229,k2,k3,k4,k5,l0,l2,k6,e9,q3,q4]
end
def ApN (n:Nat) (R:List Arr) (s1:Sp) (R':List Arr):Prop:=(s1=.full∧R'=R)∨(s1=.own R.length∧R'=R++[.app n 9 1])
theorem app_ok {n:Nat} {R R':List Arr} {s1:Sp} (h:ApN n R s1 R') (es:List AV) (he:es.length=n) (hz:szOk 1 es=true) (x:Str) (O:List Obj) (hn:n<8589934592):
  appS 9 .sc 16 (.slc s1 es) [.str x] ⟨O,R'⟩=some (.slc (.own R.length) (es++[.str x]),⟨O,R++[.app (n+1) 9 1]⟩):=by
 have h1:(n+1)*16≤140737488355328:=by omega
 have h2:n+1≤140737488355328:=by omega
 rcases h with⟨rfl,rfl⟩|⟨rfl,rfl⟩
 ·simp[appS,he,hz,h1,h2,szOk];exact hz
 ·simp[appS,he,hz,h1,h2,szOk];exact hz
section
variable {G:Nat→Option AV} {cl:Caller} {yl:Nat→List AV→Mem→Option (AV×Mem)} {N:Nat}
variable {p:Nat} {sp:Sp} {L:List Tk} {O:List Obj} {R:List Arr} {s:Ps}
abbrev H132 (cl:Caller) (p:Nat) (sp:Sp) (L:List Tk):Prop:= ∀O R s',Rd O p sp L s'→s'.i<L.length→ ∃X,cl 132 [.ptr p 0] ⟨O,R⟩=some (tkv (tkA L s'.i),⟨O++X,R⟩)
def icC (s1:Sp) (ns:List Str):List AV:=[.int .i64 10,.slc s1 (ns.map .str),.int .i64 0,.int .i64 0,.int .i64 0,.slc .full []]
theorem loop255 (hL:Lok L) (f:Str) {q4 q5:Nat} (h132:H132 cl p sp L) (h133:H133 cl p sp L) (h134:H134 cl p sp L) (h137:H137 cl p sp L) (h138:H138 cl p sp L) (hq4:q4≠p) (hq5:q5≠p) (hq45:q4≠q5) (kk mm:Nat):
  ∀(h:Nat) (ns:List Str) (s:Ps) (r:List Str×Ps) (O:List Obj) (R R':List Arr) (s1:Sp) (N':Nat),argS L f h ns s=some r→h<N'→ns.length+h<8589934592→Rd O p sp L s→s.i<L.length→ApN ns.length R s1 R'→O[q4]? =some (.cells zz6)→O[q5]? =some (.cells (icC s1 ns))→
   ∃(O':List Obj) (Y:List Arr) (ts':Slots) (s3:Sp),iter false (evalC G false cl yl N c255b0) ⟨[0,4,5],[(5,some 1)],true⟩ kk mm N' ⟨[(0,.ptr p 0),(4,.ptr q4 0),(5,.ptr q5 0)],⟨O,R'⟩,[]⟩=some (.exit 0,⟨ts',⟨O',R++Y⟩,[]⟩)∧
    look 4 ts'=.ptr q4 0∧look 5 ts'=.ptr q5 0∧O'[q5]? =some (.cells (icC s3 r.1))∧Rd O' p sp L r.2∧O.length≤O'.length∧ ∀i,i<O.length→i≠p→i≠q5→O'[i]? =O[i]?:=by
 intro h
 induction h with
 |zero=>intro ns s r O R R' s1 N' e;simp[argS]at e
 |succ h ih=>
  intro ns s r O R R' s1 N' e hN' hb hR hi hA g4 g5;obtain⟨N',rfl⟩: ∃m,N'=m+1:=⟨N' - 1,by omega⟩
  have hRY: ∃Y,R'=R++Y:=by
   rcases hA with⟨-,rfl⟩|⟨-,rfl⟩
   ·exact⟨[],by simp⟩
   ·exact⟨_,rfl⟩
  simp only[argS]at e;have hR':=hR;unfold Rd rdc at hR';by_cases he:s.e=0
  ·rw[if_pos he]at e;obtain⟨X1,k1⟩:=h132 O R' s hR hi;rw[he]at hR';have rd1:=hR.app X1;have g5':=get_old g5 X1;unfold tkv tkC at k1;by_cases hk:(tkA L s.i).k=1∧ns.length=17
   ·rw[if_pos hk]at e;cases e;obtain⟨O2,k2,f2,r2⟩:=h133 (O++X1) R' s 8 rd1;obtain⟨Y,rfl⟩:=hRY
    suffices hx: ∃ts',iter false (evalC G false cl yl N c255b0) ⟨[0,4,5],[(5,some 1)],true⟩ kk mm (N'+1) ⟨[(0,.ptr p 0),(4,.ptr q4 0),(5,.ptr q5 0)],⟨O,R++Y⟩,[]⟩=some (.exit 0,⟨ts',⟨O2,R++Y⟩,[]⟩)∧look 4 ts'=.ptr q4 0∧look 5 ts'=.ptr q5 0 by
     obtain⟨ts',h1,h2,h3⟩:=hx;have l2:=f2.len;rw[List.length_append]at l2;exact⟨O2,Y,ts',s1,h1,h2,h3,f2.old g5' hq5,r2,by omega,fun i hi hp _=>by rw[f2.get i (by rw[List.length_append];omega) hp,List.getElem?_append_left hi]⟩
    unfold icC at g5';have hk1:=hk.1;have hk2:=hk.2;rw[hk1]at k1;apply Exists.intro;apply And.intro
    ·simp -implicitDefEqProofs [iter,c255b0,hR',k1,g5',hk2,k2];rfl
    ·refine⟨?_,?_⟩<;>first|rfl|simp
   ·rw[if_neg hk]at e;obtain⟨O2,k2,f2,r2⟩:=h137 (O++X1) R' s rd1 hi;have t2:=nameS_stp hL s;generalize nameS L s=a at*;have i2:=t2.lt hi;have g2:=f2.old g5' hq5;have hap:=app_ok hA (ns.map .str) (by simp) (by simp) a.1 O2 (by omega);obtain⟨O3,e3,r3,g3,n3,m3⟩:=st_ok (.cells (icC (.own R.length) (ns++[a.1]))) hq5 (List.getElem?_eq_some_iff.1 g2).1 r2;obtain⟨O4,k4,f4,r4⟩:=h134 O3 (R++[.app (ns.length+1) 9 1]) a.2 wCom r3 i2;have g45:=f4.old g3 hq5;have hw:wCom=[44]:=rfl;rw[hw]at k4 e r4;unfold tksS at r4;have l2:=f2.len;have l4:=f4.len;rw[List.length_append]at l2;have fr4: ∀i,i<O.length→i≠p→i≠q5→O4[i]? =O[i]?:=fun i hi hp h5=>by
     rw[f4.get i (by omega) hp,n3 i h5,f2.get i (by rw[List.length_append];omega) hp,List.getElem?_append_left hi]
    have hcond: ∀b,((tkA L s.i).k==1)=b→(b=true→(ns.length:Int)≠17):=fun b hb hb'=>by
     subst hb';simp at hb;intro h;exact hk ⟨hb,by omega⟩
    have g5m:=g5';have g2m:=g2;have e3m:=e3;have hicN:icC (.own R.length) (ns++[a.1])=[.int .i64 10,.slc (.own R.length) (ns.map .str++[.str a.1]),.int .i64 0,.int .i64 0,.int .i64 0,.slc .full []]:=by simp[icC]
    rw[hicN]at e3m;unfold icC at g5m g2m;clear m3;cases h1:isS L a.2 [44]with
    |true=>
     rw[h1]at e k4 r4;rw[if_pos rfl]at e r4;have hs:=isS_adv hL h1;obtain⟨O5,Y,ts',s3,j1,j2,j3,j4,j5,j6,j7⟩:=ih (ns++[a.1]) (adv a.2) r O4 R (R++[.app (ns.length+1) 9 1]) (.own R.length) N' e (by omega) (by simp;omega) r4 (hs.lt i2) (.inr ⟨rfl,by simp⟩) (by rw[fr4 q4 (List.getElem?_eq_some_iff.1 g4).1 hq4 hq45];exact g4) g45;have l3:O3.length=O2.length:=by rw[←e3];simp
     refine⟨O5,Y,ts',s3,?_,j2,j3,j4,j5,by omega,fun i hi hp h5=>by rw[j7 i (by omega) hp h5];exact fr4 i hi hp h5⟩;rw[←j1];have step: ∃ts1,evalC G false cl yl N c255b0 ⟨[(0,.ptr p 0),(4,.ptr q4 0),(5,.ptr q5 0)],⟨O,R'⟩,[]⟩=some (.normal,⟨ts1,⟨O4,R++[.app (ns.length+1) 9 1]⟩,[]⟩)∧keepT ts1 [0,4,5]=[(0,.ptr p 0),(4,.ptr q4 0),(5,.ptr q5 0)]:=by
      clear l2 l3 l4 fr4 j7 j6 f2 f4;by_cases hk1:(tkA L s.i).k=1
      ·have h17:((ns.length:Int)==17)=false:=by simpa using hcond true (by simp[hk1]) rfl
       rw[hk1]at k1;apply Exists.intro;apply And.intro
       ·simp -implicitDefEqProofs [-appS,c255b0,hR',k1,g5m,h17,k2,g2m,hap,e3m,k4];rfl
       ·first|rfl|simp
      ·apply Exists.intro;apply And.intro
       ·simp -implicitDefEqProofs [-appS,c255b0,hR',k1,g5m,show((tkA L s.i).k==1)=false by simp[hk1],k2,g2m,hap,e3m,k4];rfl
       ·first|rfl|simp
     obtain⟨ts1,st1,st2⟩:=step;simp only[iter,st1,tidy,Bool.false_eq_true,if_false,if_true,st2]
    |false=>
     rw[h1]at e k4 r4;rw[if_neg (by decide)]at e r4;simp only[Option.some.injEq]at e;subst e;obtain⟨O5,k5,f5,r5⟩:=h138 O4 (R++[.app (ns.length+1) 9 1]) a.2 wR r4 i2;have hw5:wR=[41]:=rfl;rw[hw5]at k5;have l5:=f5.len;have l3:O3.length=O2.length:=by rw[←e3];simp
     suffices hx: ∃ts',iter false (evalC G false cl yl N c255b0) ⟨[0,4,5],[(5,some 1)],true⟩ kk mm (N'+1) ⟨[(0,.ptr p 0),(4,.ptr q4 0),(5,.ptr q5 0)],⟨O,R'⟩,[]⟩=some (.exit 0,⟨ts',⟨O5,R++[.app (ns.length+1) 9 1]⟩,[]⟩)∧look 4 ts'=.ptr q4 0∧look 5 ts'=.ptr q5 0 by
      obtain⟨ts',h1,h2,h3⟩:=hx;exact⟨O5,_,ts',.own R.length,h1,h2,h3,f5.old g45 hq5,r5,by omega,fun i hi hp h5=>by rw[f5.get i (by omega) hp];exact fr4 i hi hp h5⟩
     clear l2 l3 l4 l5 fr4 f2 f4 f5;by_cases hk1:(tkA L s.i).k=1
     ·have h17:((ns.length:Int)==17)=false:=by simpa using hcond true (by simp[hk1]) rfl
      rw[hk1]at k1;apply Exists.intro;apply And.intro
      ·simp -implicitDefEqProofs [-appS,iter,c255b0,hR',k1,g5m,h17,k2,g2m,hap,e3m,k4,k5];rfl
      ·refine⟨?_,?_⟩<;>first|rfl|simp
     ·apply Exists.intro;apply And.intro
      ·simp -implicitDefEqProofs [-appS,iter,c255b0,hR',k1,g5m,show((tkA L s.i).k==1)=false by simp[hk1],k2,g2m,hap,e3m,k4,k5];rfl
      ·refine⟨?_,?_⟩<;>first|rfl|simp
  ·rw[if_neg he]at e;simp only[Option.some.injEq]at e;subst e;obtain⟨Y,rfl⟩:=hRY;have he':(s.e==0)=false:=by simp[he]
   suffices hx: ∃ts',iter false (evalC G false cl yl N c255b0) ⟨[0,4,5],[(5,some 1)],true⟩ kk mm (N'+1) ⟨[(0,.ptr p 0),(4,.ptr q4 0),(5,.ptr q5 0)],⟨O,R++Y⟩,[]⟩=some (.exit 0,⟨ts',⟨O,R++Y⟩,[]⟩)∧look 4 ts'=.ptr q4 0∧look 5 ts'=.ptr q5 0 by
    obtain⟨ts',h1,h2,h3⟩:=hx;exact⟨O,Y,ts',s1,h1,h2,h3,g5,hR,Nat.le_refl _,fun _ _ _ _=>rfl⟩
   apply Exists.intro;apply And.intro
   ·simp -implicitDefEqProofs [iter,c255b0,hR',he,he'];rfl
   ·refine⟨?_,?_⟩<;>first|rfl|simp
theorem ev255 (hL:Lok L) (hbL:L.length<big) (f:Str) (H:Nat) (h:Rd O p sp L s) (hi:s.i+1<L.length) {r:Nd×Ps} (e:calS L f H s=some r) (hH:H<big) (hN:H<N)
  (h132:H132 cl p sp L) (h133:H133 cl p sp L) (h134:H134 cl p sp L) (h137:H137 cl p sp L) (h138:H138 cl p sp L):
  RN (callA G false cl yl N c255 [.ptr p 0,.str f] ⟨O,R⟩) r.1 p sp L r.2 O R:=by
 have hp:p<O.length:=(List.getElem?_eq_some_iff.1 h).1;unfold big at hbL hH;have w1:wrapF .i64 ((s.i:Int)+1)=((s.i+1:Nat):Int):=wrap_succ (by omega);have h':=h.app [.cells zz6,.cells (icC .full [f])];have r1:=h'.put (adv s);obtain⟨OA,hOA⟩: ∃OA,(O++[Obj.cells zz6,.cells (icC .full [f])]).set p (.cells (rdc sp L (adv s)))=OA:=⟨_,rfl⟩
 rw[hOA]at r1;have f1:Fro p (O++[.cells zz6,.cells (icC .full [f])]) OA:=by rw[←hOA];exact .set _ _ _
 have ez:(O++[.cells zz6,.cells (icC .full [f])])[O.length]? =some (.cells zz6):=by simp
 have e5:(O++[.cells zz6,.cells (icC .full [f])])[O.length+1]? =some (.cells (icC .full [f])):=by simp
 obtain⟨O2,k2,f2,r2⟩:=h134 OA R (adv s) wR r1 hi;have f12:=f1.trans f2;have z2:=f12.old ez (by omega);have g2:=f12.old e5 (by omega);have l2:=f12.len;rw[List.length_append]at l2;simp only[List.length_cons,List.length_nil]at l2;have hw:wR=[41]:=rfl;unfold calS at e;rw[hw]at e k2 r2;unfold tksS at r2;unfold Rd rdc at h';unfold icC at h';unfold rdc adv at hOA;unfold icC at hOA;cases h1:isS L (adv s) [41]with
 |true=>
  rw[h1]at e k2 r2;rw[if_pos rfl]at e r2;simp only[Option.some.injEq]at e;subst e;obtain⟨O9,e9,g9,n9,m9⟩:=wr_ok (.cells (icN .full .full (.mk 10 [f] 0 0 0 []))) (List.getElem?_eq_some_iff.1 z2).1;refine⟨.full,.full,O9,[],?_,⟨by omega,fun i hi hp=>?_⟩,?_⟩
  ·have hnd:icN .full .full (.mk 10 [f] 0 0 0 [])=[.int .i64 10,.slc .full [.str f],.int .i64 0,.int .i64 0,.int .i64 0,.slc .full []]:=rfl;rw[hnd]at e9 g9⊢;unfold icC at g2;clear n9 m9 l2
   try simp -implicitDefEqProofs at hOA
   try simp -implicitDefEqProofs at h'
   try simp -implicitDefEqProofs at g2
   simp -implicitDefEqProofs [c255,h',w1,hOA,k2,g2,z2,e9,g9]
  ·rw[n9 i (by omega),f12.get i (by rw[List.length_append];omega) hp,List.getElem?_append_left hi]
  ·unfold Rd;rw[n9 p (by omega)];exact r2
 |false=>
  rw[h1]at e k2 r2;rw[if_neg (by decide)]at e r2;simp only[Option.map_eq_some_iff]at e;obtain⟨q,hq,rfl⟩:=e;obtain⟨O3,Y,ts',s3,j1,j2,j3,j4,j5,j6,j7⟩:=loop255 (G:=G) (yl:=yl) (N:=N) hL f (q4:=O.length) (q5:=O.length+1) h132 h133 h134 h137 h138 (by omega) (by omega) (by omega) O2.length R.length H [f] (adv s) q O2 R R .full N hq hN (by simp;omega) r2 hi (.inl ⟨rfl,rfl⟩) z2 g2;have z3:O3[O.length]? =some (.cells zz6):=by rw[j7 _ (by omega) (by omega) (by omega)];exact z2
  obtain⟨O9,e9,g9,n9,m9⟩:=wr_ok (.cells (icC s3 q.1)) (List.getElem?_eq_some_iff.1 z3).1;refine⟨s3,.full,O9,Y,?_,⟨by omega,fun i hi hp=>?_⟩,?_⟩
  ·have hnd:icN s3 .full (.mk 10 q.1 0 0 0 [])=[.int .i64 10,.slc s3 (q.1.map .str),.int .i64 0,.int .i64 0,.int .i64 0,.slc .full []]:=rfl;rw[hnd];unfold icC at g2 j4 e9 g9;clear n9 m9 l2 j6 j7
   try simp -implicitDefEqProofs at hOA
   try simp -implicitDefEqProofs at h'
   try simp -implicitDefEqProofs at g2
   simp -implicitDefEqProofs [c255,h',w1,hOA,k2,g2,z2,j1,j2,j3,j4,z3,e9,g9]
  ·rw[n9 i (by omega),j7 i (by omega) hp (by omega),f12.get i (by rw[List.length_append];omega) hp,List.getElem?_append_left hi]
  ·unfold Rd;rw[n9 p (by omega)];exact j5
end
def ES228:List (AV×AV):=[(.str [116,114,117,101],.agg [.fn 242 [] []]),(.str [102,97,108,115,101],.agg [.fn 243 [] []]),(.str [115,105,122,101],.agg [.fn 244 [] []]),(.str [111,110,101],.agg [.fn 246 [] []]),
 (.str [110,111,116],.agg [.fn 247 [] []]),(.str [115,111,109,101],.agg [.fn 250 [] []]),(.str [101,118,101,114,121],.agg [.fn 252 [] []]),(.str [40],.agg [.fn 253 [] []])]
def fnW (w:Str):Option Nat:=
 if w=wTrue then some 242 else if w=wFalse then some 243 else if w=wSize then some 244 else if w=wOne then some 246
 else if w=wNot then some 247 else if w=wSome then some 250 else if w=wEvery then some 252 else if w=wL then some 253 else none
theorem find228 (w:Str):find (.str w) ES228=some ((fnW w).map fun f=>.agg [.fn f [] []]):=by
 have st: ∀(c:Str) (x:AV) (es:List (AV×AV)),find (.str w) ((.str c,x)::es)=if w=c then some (some x)else find (.str w) es:=by
  intro c x es;simp only[find,eqK];by_cases h:w=c
  ·rw[if_pos h,h];simp
  ·rw[if_neg h];have:(w==c)=false:=by simpa using h
   rw[this]
 unfold ES228 fnW wTrue wFalse wSize wOne wNot wSome wEvery wL;simp only[st]
 repeat' split
 all_goals rfl
section
variable {G:Nat→Option AV} {cl:Caller} {yl:Nat→List AV→Mem→Option (AV×Mem)} {N:Nat}
variable {p:Nat} {sp:Sp} {L:List Tk} {O:List Obj} {R:List Arr} {s:Ps}
theorem ev228:callA G false cl yl N c228 [] ⟨O,R⟩=some (.map O.length,⟨O++[.map ES228],R⟩):=by
 simp -implicitDefEqProofs [c228,insA,keyK,put,eqK,ES228]
theorem ev218 (h:Rd O p sp L s) (hi:s.i<L.length) (h132:H132 cl p sp L) (h228: ∀O R,cl 228 [] ⟨O,R⟩=some (.map O.length,⟨O++[.map ES228],R⟩)) (r:Nd×Ps)
  (hA: ∀f,(tkA L s.i).k=3∨(tkA L s.i).k=4→s.e=0→fnW (tkA L s.i).tx=some f→ ∀O',FrN O.length p O O'→Rd O' p sp L s→RN (cl f [.ptr p 0] ⟨O',R⟩) r.1 p sp L r.2 O' R)
  (hB: ¬(((tkA L s.i).k=3∨(tkA L s.i).k=4)∧s.e=0∧ ∃f,fnW (tkA L s.i).tx=some f)→ ∀O',Rd O' p sp L s→RN (cl 229 [.ptr p 0] ⟨O',R⟩) r.1 p sp L r.2 O' R):
  RN (callA G false cl yl N c218 [.ptr p 0] ⟨O,R⟩) r.1 p sp L r.2 O R:=by
 have hp:p<O.length:=(List.getElem?_eq_some_iff.1 h).1;obtain⟨X,k1⟩:=h132 (O++[.cells zz6]) R s (h.app _) hi;generalize tkA L s.i=t at*;have hT:Rd (O++Obj.cells zz6::(X++[Obj.cells (tkC t)])) p sp L s:=h.app _;have hz1:(O++Obj.cells zz6::(X++[Obj.cells (tkC t)]))[O.length]? =some (.cells zz6):=by simp
 have hTt:(O++Obj.cells zz6::(X++[Obj.cells (tkC t)]))[O.length+(X.length+1)]? =some (.cells (tkC t)):=by
  rw[List.getElem?_append_right (by omega),show O.length+(X.length+1) - O.length=X.length+1 from by omega,List.getElem?_cons_succ];simp
 have hfr: ∀i,i<O.length→(O++Obj.cells zz6::(X++[Obj.cells (tkC t)]))[i]? =O[i]?:=fun i hi=>List.getElem?_append_left hi;have hln:(O++Obj.cells zz6::(X++[Obj.cells (tkC t)])).length=O.length+X.length+2:=by simp;omega
 obtain⟨O1,hO1⟩: ∃O1,O++Obj.cells zz6::(X++[Obj.cells (tkC t)])=O1:=⟨_,rfl⟩
 rw[hO1]at hT hTt hfr hz1 hln;have f0: ∀Y,Fro p (O++[.cells zz6]) (O1++Y):=fun Y=>by
  refine⟨by simp;omega,fun i hi hp=>?_⟩;rw[List.length_append,List.length_singleton]at hi;by_cases hi':i<O.length
  ·rw[List.getElem?_append_left (by omega),hfr i hi',List.getElem?_append_left hi']
  ·have:i=O.length:=by omega
   subst this;rw[List.getElem?_append_left (by omega),hz1];simp
 have hTt':=fun Y=>get_old hTt Y;have hT':=fun Y=>get_old hT Y;rw[List.append_assoc]at k1;unfold tkv at k1;unfold tkC at k1 hO1 hTt hTt';unfold rdc at hT';have fin: ∀(f:Nat) (Y:List Obj),(∀O',FrN O.length p O O'→Rd O' p sp L s→RN (cl f [.ptr p 0] ⟨O',R⟩) r.1 p sp L r.2 O' R)→ ∃s1 s2 O3 Z O9,cl f [.ptr p 0] ⟨O1++Y,R⟩=some (.agg (icN s1 s2 r.1),⟨O3,R++Z⟩)∧O3.set O.length (.cells (icN s1 s2 r.1))=O9∧Fro p O O9∧Rd O9 p sp L r.2∧O3[O.length]? =some (.cells zz6)∧O9[O.length]? =some (.cells (icN s1 s2 r.1)):=by
  intro f Y hf;obtain⟨s1,s2,O3,Z,k2,f2,r2⟩:=hf (O1++Y) (fun i hi hp=>by rw[List.getElem?_append_left (by omega)];exact hfr i hi) (hT.app Y);obtain⟨O9,e9,q1,q2,q3,q4⟩:=fin_ok (.cells (icN s1 s2 r.1)) hp ((f0 Y).trans f2) r2;exact⟨s1,s2,O3,Z,O9,k2,e9,q1,q2,q3,q4⟩
 clear hln f0 hfr hz1 hi h hT;by_cases hk:t.k=3∨t.k=4
 ·have hk3:(t.k==3)=true∨((t.k==3)=false∧(t.k==4)=true):=by
   by_cases h3:t.k=3
   ·left;simp[h3]
   ·right;rcases hk with h|h
    ·exact absurd h h3
    ·simp[h]
  cases hw:fnW t.tx with
  |some f=>
   have hfd:=find228 t.tx;rw[hw]at hfd;simp only[Option.map_some]at hfd;by_cases he:s.e=0
   ·obtain⟨s1,s2,O3,Z,O9,k2,e9,q1,q2,q3,q4⟩:=fin f [.cells [.fn f [] []],.map ES228] (hA f hk he hw);refine⟨s1,s2,O9,Z,?_,q1,q2⟩;unfold icN at k2 e9 q4⊢;rcases hk3 with h3|⟨h3,h4⟩
    ·simp -implicitDefEqProofs [c218,k1,hO1,hTt,hTt',h3,h228,lkpA,keyK,hfd,hT',he,k2,e9,q3,q4]
    ·simp -implicitDefEqProofs [c218,k1,hO1,hTt,hTt',h3,h4,h228,lkpA,keyK,hfd,hT',he,k2,e9,q3,q4]
   ·obtain⟨s1,s2,O3,Z,O9,k2,e9,q1,q2,q3,q4⟩:=fin 229 [.cells [.fn f [] []],.map ES228] (fun O' _ hr=>hB (fun h=>he h.2.1) O' hr);have he':(s.e==0)=false:=by simp[he]
    refine⟨s1,s2,O9,Z,?_,q1,q2⟩;unfold icN at k2 e9 q4⊢;rcases hk3 with h3|⟨h3,h4⟩
    ·simp -implicitDefEqProofs [c218,k1,hO1,hTt,hTt',h3,h228,lkpA,keyK,hfd,hT',he',k2,e9,q3,q4]
    ·simp -implicitDefEqProofs [c218,k1,hO1,hTt,hTt',h3,h4,h228,lkpA,keyK,hfd,hT',he',k2,e9,q3,q4]
  |none=>
   have hfd:=find228 t.tx;rw[hw]at hfd;simp only[Option.map_none]at hfd;obtain⟨s1,s2,O3,Z,O9,k2,e9,q1,q2,q3,q4⟩:=fin 229 [.cells [.undef],.map ES228] (fun O' _ hr=>hB (fun⟨_,_,f,hf⟩=>by rw[hw]at hf;cases hf) O' hr);refine⟨s1,s2,O9,Z,?_,q1,q2⟩;unfold icN at k2 e9 q4⊢;rcases hk3 with h3|⟨h3,h4⟩
   ·simp -implicitDefEqProofs [c218,k1,hO1,hTt,hTt',h3,h228,lkpA,keyK,hfd,hT',k2,e9,q3,q4]
   ·simp -implicitDefEqProofs [c218,k1,hO1,hTt,hTt',h3,h4,h228,lkpA,keyK,hfd,hT',k2,e9,q3,q4]
 ·have h3:(t.k==3)=false:=by simp;omega
  have h4:(t.k==4)=false:=by simp;omega
  obtain⟨s1,s2,O3,Z,O9,k2,e9,q1,q2,q3,q4⟩:=fin 229 [] (fun O' _ hr=>hB (fun h=>hk h.1) O' hr);refine⟨s1,s2,O9,Z,?_,q1,q2⟩;rw[List.append_nil]at k2;unfold icN at k2 e9 q4⊢;simp -implicitDefEqProofs [c218,k1,hO1,hTt,hTt',h3,h4,k2,e9,q3,q4]
end
section
variable {G:Nat→Option AV} {cl:Caller} {yl:Nat→List AV→Mem→Option (AV×Mem)} {N:Nat}
theorem c_rngP {mu:Bool} (x:Opd) (ps:List Nat) (asg body:CCode) (s:St):evalC G mu cl yl N (.rng x ps asg body) s=(match target (x.val G s.ts) [.yld (s.m.objs.length+1)]with
  |some (f,ags)=>match cl f ags (newObj (newObj s.m .mark) (.loop true none s.ts ps asg body))with
   |some (_,M)=>match M.objs[s.m.objs.length+1]? with
    |some (.loop true none _ _ _ _)=>some (.normal,⟨s.ts,setObj M (s.m.objs.length+1) .dead,s.m.objs.length::s.mks⟩)
    |some (.loop false (some e) _ _ _ _)=>some (e,⟨s.ts,setObj M (s.m.objs.length+1) .dead,s.m.objs.length::s.mks⟩)
    |_=>none
   |none=>none
  |none=>none):=by simp only[evalC];rfl
def ixB (len j:Nat):Int:=(len:Int) - 1 - j
end
section
variable {G:Nat→Option AV} {cl:Caller} {yl:Nat→List AV→Mem→Option (AV×Mem)} {N:Nat}
variable {p:Nat} {sp:Sp} {L:List Tk} {O:List Obj} {R:List Arr} {s:Ps}
theorem ev192 (h:Rd O p sp L s) (r:Nd×Ps) (h139: ∀O' b,FrN O.length p O O'→Rd O' p sp L s→O'[b]? =some (.cells [.ptr p 0])→b≠p→RN (cl 139 [.ptr p 0,.str wOr,.int .i64 13,.fn 217 [] [.ptr b 0]] ⟨O',R⟩) r.1 p sp L r.2 O' R):RN (callA G false cl yl N c192 [.ptr p 0] ⟨O,R⟩) r.1 p sp L r.2 O R:=by
 have hp:p<O.length:=(List.getElem?_eq_some_iff.1 h).1;obtain⟨s1,s2,O2,Y,k2,f2,r2⟩:=h139 (O++[.cells [.ptr p 0],.cells zz6]) O.length (fun i hi _=>List.getElem?_append_left hi) (h.app _) (by simp) (by omega);have g:O2[O.length+1]? =some (.cells zz6):=f2.old (by simp) (by omega);have g0:O2[O.length]? =some (.cells [.ptr p 0]):=f2.old (by simp) (by omega);obtain⟨O9,e9,g9,n9,m9⟩:=wr_ok (.cells (icN s1 s2 r.1)) (List.getElem?_eq_some_iff.1 g).1;have l2:=f2.len;rw[List.length_append]at l2;refine⟨s1,s2,O9,Y,?_,⟨by omega,fun i hi hp=>?_⟩,?_⟩
 ·clear n9 m9 l2;have hw:wOr=[111,114]:=rfl;rw[hw]at k2;unfold icN at k2 e9 g9⊢
  try simp -implicitDefEqProofs at k2
  simp -implicitDefEqProofs [c192,k2,g,e9,g9]
 ·rw[n9 i (by omega),f2.get i (by simp;omega) hp,List.getElem?_append_left hi]
 ·unfold Rd;rw[n9 p (by omega)];exact r2
theorem ev217 (h:Rd O p sp L s) {b:Nat} (hbx:O[b]? =some (.cells [.ptr p 0])) (r:Nd×Ps) (h139: ∀O',FrN O.length p O O'→Rd O' p sp L s→RN (cl 139 [.ptr p 0,.str wAnd,.int .i64 12,.fn 218 [.ptr p 0] []] ⟨O',R⟩) r.1 p sp L r.2 O' R):RN (callA G false cl yl N c217 [.ptr b 0] ⟨O,R⟩) r.1 p sp L r.2 O R:=by
 have hp:p<O.length:=(List.getElem?_eq_some_iff.1 h).1;obtain⟨s1,s2,O2,Y,k2,f2,r2⟩:=h139 (O++[.cells zz6]) (fun i hi _=>List.getElem?_append_left hi) (h.app _);obtain⟨O9,e9,q1,q2,q3,q4⟩:=fin_ok (.cells (icN s1 s2 r.1)) hp f2 r2;have hb':=get_old hbx [.cells zz6];refine⟨s1,s2,O9,Y,?_,q1,q2⟩;have hw:wAnd=[97,110,100]:=rfl;rw[hw]at k2;unfold icN at k2 e9 q4⊢
 try simp -implicitDefEqProofs at k2
 simp -implicitDefEqProofs [c217,hb',k2,e9,q3,q4]
theorem ev81 (h:Rd O p sp L s) (r:Nd×Ps) (h139: ∀O',FrN O.length p O O'→Rd O' p sp L s→RN (cl 139 [.ptr p 0,.str wIff,.int .i64 15,.fn 140 [.ptr p 0] []] ⟨O',R⟩) r.1 p sp L r.2 O' R):RN (callA G false cl yl N c81 [.ptr p 0] ⟨O,R⟩) r.1 p sp L r.2 O R:=by
 have hp:p<O.length:=(List.getElem?_eq_some_iff.1 h).1;obtain⟨s1,s2,O2,Y,k2,f2,r2⟩:=h139 (O++[.cells zz6]) (fun i hi _=>List.getElem?_append_left hi) (h.app _);obtain⟨O9,e9,q1,q2,q3,q4⟩:=fin_ok (.cells (icN s1 s2 r.1)) hp f2 r2;refine⟨s1,s2,O9,Y,?_,q1,q2⟩;have hw:wIff=[105,102,102]:=rfl;rw[hw]at k2;unfold icN at k2 e9 q4⊢
 try simp -implicitDefEqProofs at k2
 simp -implicitDefEqProofs [c81,k2,e9,q3,q4]
theorem ndc_ic (n:Nd): ∃s1 s2,ndc n=icN s1 s2 n:=by
 cases n;exact⟨_,_,rfl⟩
theorem ev193 (sp1:Sp) (es:List AV):callA G false cl yl N c193 [.slc sp1 es] ⟨O,R⟩=some (.fn 219 [] [.ptr O.length 0],⟨O++[.cells [.slc sp1 es]],R⟩):=by
 simp -implicitDefEqProofs [c193]
theorem r140a {q:Nat} {ts:Slots} (n:Nd) (i:Int) (hts:look 4 ts=.ptr q 0): ∃ts',evalC G false cl yl N c140r1a ⟨setPs [29,30] [.int .i64 i,av n] ts,⟨O,R⟩,[]⟩=some (.normal,⟨ts',⟨O++[.cells (ndc n)],R⟩,[]⟩)∧look 6 ts'=.ptr O.length 0∧look 4 ts'=.ptr q 0:=by
 apply Exists.intro;apply And.intro
 ·simp -implicitDefEqProofs [setPs,c140r1a];rfl
 ·simpa using hts
theorem r140b {z q:Nat} {ts:Slots} {s1 s2:Sp} (n m:Nd) (h6:look 6 ts=.ptr z 0) (h4:look 4 ts=.ptr q 0) (hz:O[z]? =some (.cells (ndc n))) (hq:O[q]? =some (.cells (icN s1 s2 m))) {O3:List Obj} (h3:O.set q (.cells (icN .full .full (nd 14 [n,m])))=O3):
  ∃ts',evalC G false cl yl N c140r1b ⟨ts,⟨O,R⟩,[]⟩=some (.normal,⟨ts',⟨O3,R⟩,[]⟩):=by
 have hnd:icN .full .full (nd 14 [n,m])=[.int .i64 14,.slc .full [],.int .i64 0,.int .i64 0,.int .i64 0,.slc .full [av n,av m]]:=rfl;rw[hnd]at h3;unfold icN at hq;apply Exists.intro;simp -implicitDefEqProofs [c140r1b,h6,h4,hz,hq,h3];rfl
theorem yield140 {id q:Nat} {ts:Slots} {s1 s2:Sp} (n m:Nd) (i:Int) (hid:O[id]? =some (.loop true none ts [29,30] c140r1a c140r1b)) (hts:look 4 ts=.ptr q 0) (hq:O[q]? =some (.cells (icN s1 s2 m))) (hqi:q≠id):
  ∃O',yieldA G false cl yl N id [.int .i64 i,av n] ⟨O,R⟩=some (.bool true,⟨O',R⟩)∧O'[q]? =some (.cells (icN .full .full (nd 14 [n,m])))∧O'[id]? =some (.loop true none ts [29,30] c140r1a c140r1b)∧O.length≤O'.length∧ ∀i,i<O.length→i≠q→i≠id→O'[i]? =O[i]?:=by
 have h1:=get_old hid [.cells (ndc n)];have hl1:=(List.getElem?_eq_some_iff.1 h1).1;have hlo:=(List.getElem?_eq_some_iff.1 hid).1;have hlq:=(List.getElem?_eq_some_iff.1 hq).1;obtain⟨O2,e2,g2,n2,m2⟩:=wr_ok (.loop false none ts [29,30] c140r1a c140r1b) hl1;have q2:O2[q]? =some (.cells (icN s1 s2 m)):=by rw[n2 q hqi];exact get_old hq _
 have z2:O2[O.length]? =some (.cells (ndc n)):=by rw[n2 _ (by omega)];simp
 obtain⟨O3,e3,g3,n3,m3⟩:=wr_ok (.cells (icN .full .full (nd 14 [n,m]))) (List.getElem?_eq_some_iff.1 q2).1;have i3:O3[id]? =some (.loop false none ts [29,30] c140r1a c140r1b):=by rw[n3 id (by omega)];exact g2
 obtain⟨O4,e4,g4,n4,m4⟩:=wr_ok (.loop true none ts [29,30] c140r1a c140r1b) (List.getElem?_eq_some_iff.1 i3).1;rw[List.length_append,List.length_singleton]at m2;refine⟨O4,?_,by rw[n4 q hqi];exact g3,g4,by omega,fun i hi hq hid=>by rw[n4 i hid,n3 i hq,n2 i hid,List.getElem?_append_left hi]⟩;obtain⟨ts1,a1,a2,a3⟩:=r140a (G:=G) (cl:=cl) (yl:=yl) (N:=N) (O:=O) (R:=R) n i hts;obtain⟨ts2,b1⟩:=r140b (G:=G) (cl:=cl) (yl:=yl) (N:=N) (R:=R) n m a2 a3 z2 q2 e3;unfold yieldA;simp only[hid,List.length_cons,List.length_nil,if_true,a1,h1,setObj,e2,b1,i3,e4]
theorem loop219 (l:List Nd) (m:Nd) {id q b:Nat} {ts:Slots} {s1 s2 sp1:Sp} (hl:l.length<big) (hN:l.length<N) (hid:O[id]? =some (.loop true none ts [29,30] c140r1a c140r1b)) (hts:look 4 ts=.ptr q 0) (hq:O[q]? =some (.cells (icN s1 s2 m))) (hb:O[b]? =some (.cells [.slc sp1 (avL l)])) (hqi:q≠id) (hbi:b≠id) (hbq:b≠q) (kk mm:Nat)
  (hy: ∀(O:List Obj) (s1 s2:Sp) (n m:Nd) (i:Int),O[id]? =some (.loop true none ts [29,30] c140r1a c140r1b)→O[q]? =some (.cells (icN s1 s2 m))→ ∃O',yl id [.int .i64 i,av n] ⟨O,R⟩=some (.bool true,⟨O',R⟩)∧O'[q]? =some (.cells (icN .full .full (nd 14 [n,m])))∧O'[id]? =some (.loop true none ts [29,30] c140r1a c140r1b)∧O.length≤O'.length∧ ∀i,i<O.length→i≠q→i≠id→O'[i]? =O[i]?):
  ∃e s',iter false (evalC G false cl yl N c219b0) ⟨[0,1,3],[(3,none)],true⟩ kk mm N ⟨[(0,.yld id),(1,.ptr b 0),(3,.int .i64 (ixB l.length 0))],⟨O,R⟩,[]⟩=some (e,s')∧e≠ .normal∧(e=.exit 0∧s'.mks=[]∧
   ∃O1 s3 s4,s'.m=⟨O1,R⟩∧O1[q]? =some (.cells (icN s3 s4 (l.foldr (fun n r=>nd 14 [n,r]) m)))∧O1[id]? =some (.loop true none ts [29,30] c140r1a c140r1b)∧O.length≤O1.length∧ ∀i,i<O.length→i≠q→i≠id→O1[i]? =O[i]?):=by
 unfold big at hl;refine iter_inv (mu:=false) (step:=evalC G false cl yl N c219b0) (an:=⟨[0,1,3],[(3,none)],true⟩) (k:=kk) (m:=mm) (N:=N) l (fun _=>(none:Option Unit))
  (fun j st=> ∃O1 s3 s4,st=⟨[(0,.yld id),(1,.ptr b 0),(3,.int .i64 (ixB l.length j))],⟨O1,R⟩,[]⟩∧O1[q]? =some (.cells (icN s3 s4 ((l.drop (l.length - j)).foldr (fun n r=>nd 14 [n,r]) m)))∧O1[id]? =some (.loop true none ts [29,30] c140r1a c140r1b)∧O.length≤O1.length∧ ∀i,i<O.length→i≠q→i≠id→O1[i]? =O[i]?)
  (fun r e s'=>e=.exit 0∧s'.mks=[]∧
   ∃O1 s3 s4,s'.m=⟨O1,R⟩∧O1[q]? =some (.cells (icN s3 s4 (l.foldr (fun n r=>nd 14 [n,r]) m)))∧O1[id]? =some (.loop true none ts [29,30] c140r1a c140r1b)∧O.length≤O1.length∧ ∀i,i<O.length→i≠q→i≠id→O1[i]? =O[i]?) hN ⟨O,s1,s2,rfl,by simpa using hq,hid,Nat.le_refl _,fun _ _ _ _=>rfl⟩ ?_ ?_
 ·rintro j x st hx hjl ⟨O1,s3,s4,rfl,g1,g2,g3,g4⟩;obtain⟨i,hi⟩: ∃i,l.length=j+1+i:=⟨l.length - j - 1,by omega⟩
  have hil:i<l.length:=by omega
  have e1:ixB l.length j=(i:Int):=by unfold ixB;omega
  have w1:wrapF .i64 ((i:Int) - 1)=ixB l.length (j+1):=by rw[wrap_id (by omega) (by omega)];unfold ixB;omega
  have d1:l.drop (l.length - (j+1))=l[i]::l.drop (l.length - j):=by
   have a1:l.length - (j+1)=i:=by omega
   have a2:l.length - j=i+1:=by omega
   rw[a1,a2,List.drop_eq_getElem_cons hil]
  have hp:(0:Int)≤(i:Int):=by omega
  obtain⟨O2,y1,y2,y3,y4,y5⟩:=hy O1 s3 s4 l[i] _ (i:Int) g2 g1;have hb1:O1[b]? =some (.cells [.slc sp1 (avL l)]):=by rw[g4 b (List.getElem?_eq_some_iff.1 hb).1 hbq hbi];exact hb
  have fin: ∃O3 s3 s4,(⟨[(0,.yld id),(1,.ptr b 0),(3,.int .i64 (ixB l.length (j+1)))],⟨O2,R⟩,[]⟩:St)=⟨[(0,.yld id),(1,.ptr b 0),(3,.int .i64 (ixB l.length (j+1)))],⟨O3,R⟩,[]⟩∧O3[q]? =some (.cells (icN s3 s4 ((l.drop (l.length - (j+1))).foldr (fun n r=>nd 14 [n,r]) m)))∧O3[id]? =some (.loop true none ts [29,30] c140r1a c140r1b)∧O.length≤O3.length∧ ∀i,i<O.length→i≠q→i≠id→O3[i]? =O[i]?:=
   ⟨O2,.full,.full,rfl,by rw[d1];exact y2,y3,by omega,fun i hi hq hid=>by rw[y5 i (by omega) hq hid];exact g4 i hi hq hid⟩
  clear g1 g3 g4 y2 y4 y5 d1;generalize hF:(∃O3 s3 s4,(⟨[(0,.yld id),(1,.ptr b 0),(3,.int .i64 (ixB l.length (j+1)))],⟨O2,R⟩,[]⟩:St)=⟨[(0,.yld id),(1,.ptr b 0),(3,.int .i64 (ixB l.length (j+1)))],⟨O3,R⟩,[]⟩∧O3[q]? =some (.cells (icN s3 s4 ((l.drop (l.length - (j+1))).foldr (fun n r=>nd 14 [n,r]) m)))∧O3[id]? =some (.loop true none ts [29,30] c140r1a c140r1b)∧O.length≤O3.length∧ ∀i,i<O.length→i≠q→i≠id→O3[i]? =O[i]?)=F at fin;have step: ∃ts1,evalC G false cl yl N c219b0 ⟨[(0,.yld id),(1,.ptr b 0),(3,.int .i64 (ixB l.length j))],⟨O1,R⟩,[]⟩=some (.normal,⟨ts1,⟨O2,R⟩,[]⟩)∧keepT ts1 [0,1,3]=[(0,.yld id),(1,.ptr b 0),(3,.int .i64 (ixB l.length (j+1)))]:=by
   apply Exists.intro;apply And.intro
   ·simp -implicitDefEqProofs [c219b0,e1,w1,hp,hb1,hil,y1];rfl
   ·first|rfl|simp
  obtain⟨ts1,st1,st2⟩:=step;rw[st1];simp only[Post,tidy,Bool.false_eq_true,if_false,if_true,st2];exact⟨trivial,by rw[hF];exact fin⟩
 ·rintro st ⟨O1,s3,s4,rfl,g1,g2,g3,g4⟩;have e1:decide (ixB l.length l.length≥0)=false:=by simp[ixB];omega
  rw[Nat.sub_self,List.drop_zero]at g1;have step: ∃ts1,evalC G false cl yl N c219b0 ⟨[(0,.yld id),(1,.ptr b 0),(3,.int .i64 (ixB l.length l.length))],⟨O1,R⟩,[]⟩=some (.exit 0,⟨ts1,⟨O1,R⟩,[]⟩):=by
   apply Exists.intro;simp -implicitDefEqProofs [c219b0,e1];rfl
  obtain⟨ts1,st1⟩:=step;rw[st1];exact⟨by simp,rfl,rfl,O1,s3,s4,rfl,g1,g2,g3,g4⟩
theorem ev219 (l:List Nd) (m:Nd) {id q b:Nat} {ts:Slots} {s1 s2 sp1:Sp} (hl:l.length<big) (hN:l.length<N) (hid:O[id]? =some (.loop true none ts [29,30] c140r1a c140r1b)) (hts:look 4 ts=.ptr q 0) (hq:O[q]? =some (.cells (icN s1 s2 m))) (hb:O[b]? =some (.cells [.slc sp1 (avL l)])) (hqi:q≠id) (hbi:b≠id) (hbq:b≠q)
  (hy: ∀(O:List Obj) (s1 s2:Sp) (n m:Nd) (i:Int),O[id]? =some (.loop true none ts [29,30] c140r1a c140r1b)→O[q]? =some (.cells (icN s1 s2 m))→ ∃O',yl id [.int .i64 i,av n] ⟨O,R⟩=some (.bool true,⟨O',R⟩)∧O'[q]? =some (.cells (icN .full .full (nd 14 [n,m])))∧O'[id]? =some (.loop true none ts [29,30] c140r1a c140r1b)∧O.length≤O'.length∧ ∀i,i<O.length→i≠q→i≠id→O'[i]? =O[i]?):
  ∃O1 s3 s4,callA G false cl yl N c219 [.yld id,.ptr b 0] ⟨O,R⟩=some (.tup [],⟨O1,R⟩)∧O1[q]? =some (.cells (icN s3 s4 (l.foldr (fun n r=>nd 14 [n,r]) m)))∧O1[id]? =some (.loop true none ts [29,30] c140r1a c140r1b)∧O.length≤O1.length∧ ∀i,i<O.length→i≠q→i≠id→O1[i]? =O[i]?:=by
 obtain⟨e,⟨ts',M,mks⟩,k1,-,rfl,rfl,O1,s3,s4,rfl,g1,g2,g3,g4⟩:=loop219 (G:=G) (cl:=cl) l m hl hN hid hts hq hb hqi hbi hbq O.length R.length hy;refine⟨O1,s3,s4,?_,g1,g2,g3,g4⟩;unfold big at hl;have w0:wrapF .i64 ((l.length:Int) - 1)=ixB l.length 0:=by rw[wrap_id (by omega) (by omega)];simp[ixB]
 simp -implicitDefEqProofs [c219,hb,w0,k1]
end
def ApF (n:Nat) (R:List Arr) (s1:Sp) (R':List Arr):Prop:=(∃Y,R'=R++Y)∧(s1=.full∨ ∃a,s1=.own a∧R.length≤a∧R'[a]? =some (.app n 40 6))
theorem ApF.app {n:Nat} {R R':List Arr} {s1:Sp} (h:ApF n R s1 R') (Y:List Arr):ApF n R s1 (R'++Y):=by
 obtain⟨⟨Z,rfl⟩,h⟩:=h;refine⟨⟨Z++Y,by simp⟩,?_⟩;rcases h with h|⟨a,h1,h2,h3⟩
 ·exact .inl h
 ·exact .inr ⟨a,h1,h2,get_old h3 Y⟩
theorem appF_ok {l:List Nd} {R R':List Arr} {s1:Sp} (h:ApF l.length R s1 R') (n:Nd) (O:List Obj) (hn:l.length<858993459200):
  ∃s2 R3,appS 40 (.ag 6) 80 (.slc s1 (avL l)) [av n] ⟨O,R'⟩=some (.slc s2 (avL (l++[n])),⟨O,R3⟩)∧ApF (l.length+1) R s2 R3:=by
 have h1:(l.length+1)*80≤140737488355328:=by omega
 have h2:l.length+1≤140737488355328:=by omega
 obtain⟨⟨Z,rfl⟩,h⟩:=h;rcases h with rfl|⟨a,rfl,h3,h4⟩
 ·refine⟨.own (R++Z).length,(R++Z)++[.app (l.length+1) 40 6],?_,⟨Z++[.app (l.length+1) 40 6],by simp⟩,.inr ⟨_,rfl,by simp,by simp⟩⟩;simp[appS,h1,h2];rw[avL_append];rfl
 ·have hlt:=(List.getElem?_eq_some_iff.1 h4).1;refine⟨.own a,(R++Z).set a (.app (l.length+1) 40 6),?_,⟨Z.set (a - R.length) (.app (l.length+1) 40 6),by rw[List.set_append_right _ _ h3]⟩,.inr ⟨_,rfl,h3,List.getElem?_set_self hlt⟩⟩;simp[appS,h1,h2,h4];rw[avL_append];rfl
theorem chn_snoc: ∀(l:List Nd) (x:Nd),chn (l++[x])=l.foldr (fun n r=>nd 14 [n,r]) x
 |[],x=>rfl
 |[a],x=>rfl
 |a::b::l,x=>by
  have:=chn_snoc (b::l) x;simp only[List.cons_append,chn,List.foldr_cons]at this⊢;rw[this]
section
variable {G:Nat→Option AV} {cl:Caller} {yl:Nat→List AV→Mem→Option (AV×Mem)} {N:Nat}
variable {p:Nat} {sp:Sp} {L:List Tk} {O:List Obj} {R:List Arr} {s:Ps}
theorem loop140 (hL:Lok L) (H:Nat) {q2:Nat} (h134:H134 cl p sp L) (hc: ∀h',h'≤H→ ∀O R s r,Rd O p sp L s→Pre L s→pr' L h' .ors s=some r→RN (cl 192 [.ptr p 0] ⟨O,R⟩) r.1 p sp L r.2 O R) (kk mm:Nat):
  ∀(h:Nat) (l:List Nd) (s:Ps) (r:Nd×Ps) (O:List Obj) (R':List Arr) (s1:Sp) (N':Nat),h≤H→pr' L h (.tImp l) s=some r→h<N'→l.length+h<858993459200→l≠[]→Rd O p sp L s→Pre L s→ApF l.length R s1 R'→
   ∃(O':List Obj) (R3:List Arr) (ts':Slots) (s3:Sp) (l':List Nd),iter false (evalC G false cl yl N c140b0) ⟨[0,2,3],[(3,none)],true⟩ kk mm N' ⟨[(0,.ptr p 0),(2,.ptr q2 0),(3,.slc s1 (avL l))],⟨O,R'⟩,[]⟩=some (.exit 0,⟨ts',⟨O',R3⟩,[]⟩)∧
    look 2 ts'=.ptr q2 0∧look 3 ts'=.slc s3 (avL l')∧r.1=chn l'∧l'≠[]∧l'.length≤l.length+h∧Rd O' p sp L r.2∧(∃Y,R3=R++Y)∧Fro p O O':=by
 intro h
 induction h with
 |zero=>intro l s r O R' s1 N' _ e;simp[pr']at e
 |succ h ih=>
  intro l s r O R' s1 N' hH e hN' hb hne hR hi hA;obtain⟨N',rfl⟩: ∃m,N'=m+1:=⟨N' - 1,by omega⟩
  simp only[pr']at e;obtain⟨O1,k1,f1,r1⟩:=h134 O R' s wImp hR hi.i;have hw:wImp=[105,109,112,108,105,101,115]:=rfl;unfold tksS at r1;cases h1:isS L s wImp with
  |false=>
   rw[h1]at e k1 r1;rw[hw]at k1;simp only[Bool.false_eq_true,if_false,Option.some.injEq]at e r1;subst e
   suffices hx: ∃ts',iter false (evalC G false cl yl N c140b0) ⟨[0,2,3],[(3,none)],true⟩ kk mm (N'+1) ⟨[(0,.ptr p 0),(2,.ptr q2 0),(3,.slc s1 (avL l))],⟨O,R'⟩,[]⟩=some (.exit 0,⟨ts',⟨O1,R'⟩,[]⟩)∧look 2 ts'=.ptr q2 0∧look 3 ts'=.slc s1 (avL l)by
    obtain⟨ts',h1,h2,h3⟩:=hx;exact⟨O1,R',ts',s1,l,h1,h2,h3,rfl,hne,by omega,r1,hA.1,f1⟩
   apply Exists.intro;apply And.intro
   ·simp -implicitDefEqProofs [iter,c140b0,k1];rfl
   ·refine⟨?_,?_⟩<;>first|rfl|simp
  |true=>
   rw[h1]at e k1 r1;rw[hw]at k1;simp only[if_true,Option.bind_eq_some_iff]at e r1;obtain⟨q,e1,e2⟩:=e;have hi1:=hi.step (isS_adv hL h1);obtain⟨a1,a2,O2,Y1,k2,f2,r2⟩:=hc h (by omega) O1 R' (adv s) q r1 hi1 e1;have hi2:=hi1.step (pr_stp hL _ _ _ _ e1);obtain⟨s2,R3,hap,hA3⟩:=appF_ok (hA.app Y1) q.1 O2 (by omega);obtain⟨O4,R4,ts',s3,l',j1,j2,j3,j4,j5,j6,j7,j8,j9⟩:=ih (l++[q.1]) q.2 r O2 R3 s2 N' (by omega) e2 (by omega) (by simp;omega) (by simp) r2 hi2 (by simpa using hA3);refine⟨O4,R4,ts',s3,l',?_,j2,j3,j4,j5,by simp at j6;omega,j7,j8,(f1.trans f2).trans j9⟩;rw[←j1];have hpz:=icN_pure a1 a2 q.1;unfold icN at k2 hpz;have step: ∃ts1,evalC G false cl yl N c140b0 ⟨[(0,.ptr p 0),(2,.ptr q2 0),(3,.slc s1 (avL l))],⟨O,R'⟩,[]⟩=some (.normal,⟨ts1,⟨O2,R3⟩,[]⟩)∧keepT ts1 [0,2,3]=[(0,.ptr p 0),(2,.ptr q2 0),(3,.slc s2 (avL (l++[q.1])))]:=by
    apply Exists.intro;apply And.intro
    ·simp -implicitDefEqProofs [-appS,c140b0,k1,k2,hpz,hap];rfl
    ·first|rfl|simp
   obtain⟨ts1,st1,st2⟩:=step;simp only[iter,st1,tidy,Bool.false_eq_true,if_false,if_true,st2]
end
def t140:CCode:=(.seq (.block 2 (.rng (.tmp 28) [29,30] c140r1a c140r1b)) (.seq (.reg [⟨some 35,(.load (.ag 6) (.tmp 4)),none⟩,⟨none,(.store 6 (.tmp 2) (.tmp 35)),none⟩]) .ret))
abbrev H219 (cl:Caller) (N:Nat):Prop:= ∀(l:List Nd) (m:Nd) {id q b:Nat} {ts:Slots} {s1 s2 sp1:Sp} {O:List Obj} {R:List Arr},l.length<big→l.length<N→O[id]? =some (.loop true none ts [29,30] c140r1a c140r1b)→look 4 ts=.ptr q 0→O[q]? =some (.cells (icN s1 s2 m))→O[b]? =some (.cells [.slc sp1 (avL l)])→q≠id→b≠id→b≠q→
  ∃O1 s3 s4,cl 219 [.yld id,.ptr b 0] ⟨O,R⟩=some (.tup [],⟨O1,R⟩)∧O1[q]? =some (.cells (icN s3 s4 (l.foldr (fun n r=>nd 14 [n,r]) m)))∧O1[id]? =some (.loop true none ts [29,30] c140r1a c140r1b)∧O.length≤O1.length∧ ∀i,i<O.length→i≠q→i≠id→O1[i]? =O[i]?
section
variable {G:Nat→Option AV} {cl:Caller} {yl:Nat→List AV→Mem→Option (AV×Mem)} {N:Nat}
variable {p:Nat} {sp:Sp} {L:List Tk} {O:List Obj} {R:List Arr} {s:Ps}
theorem rng140 (l:List Nd) (m:Nd) {q b:Nat} {ts:Slots} {s1 s2 sp1:Sp} (h219:H219 cl N) (hl:l.length<big) (hN:l.length<N) (h28:look 28 ts=.fn 219 [] [.ptr b 0]) (h4:look 4 ts=.ptr q 0) (hq:O[q]? =some (.cells (icN s1 s2 m))) (hb:O[b]? =some (.cells [.slc sp1 (avL l)])) (hbq:b≠q):
  ∃O7 s3 s4,evalC G false cl yl N (.rng (.tmp 28) [29,30] c140r1a c140r1b) ⟨ts,⟨O,R⟩,[]⟩=some (.normal,⟨ts,⟨O7,R⟩,[O.length]⟩)∧O7[q]? =some (.cells (icN s3 s4 (l.foldr (fun n r=>nd 14 [n,r]) m)))∧O7[O.length]? =some .mark∧O.length≤O7.length∧ ∀i,i<O.length→i≠q→O7[i]? =O[i]?:=by
 have lq:=(List.getElem?_eq_some_iff.1 hq).1;have lb:=(List.getElem?_eq_some_iff.1 hb).1;obtain⟨O1,s3,s4,k1,g1,g2,g3,g4⟩:=h219 l m (id:=O.length+1) (q:=q) (b:=b) (ts:=ts) (O:=O++[.mark,.loop true none ts [29,30] c140r1a c140r1b]) (R:=R) hl hN (by simp) h4 (get_old hq _) (get_old hb _) (by omega) (by omega) hbq;obtain⟨O7,e7,g7,n7,m7⟩:=wr_ok .dead (List.getElem?_eq_some_iff.1 g2).1;rw[List.length_append]at g3;refine⟨O7,s3,s4,?_,by rw[n7 q (by omega)];exact g1,?_,by omega,fun i hi hq=>by rw[n7 i (by omega),g4 i (by simp;omega) hq (by omega),List.getElem?_append_left hi]⟩
 ·rw[c_rngP];simp only[Opd.val,h28,target,List.append_nil,List.nil_append,List.cons_append,newObj,List.append_assoc];simp only[k1,g2,setObj,e7]
 ·rw[n7 _ (by omega),g4 _ (by simp) (by omega) (by omega)];simp
theorem tail140 (l:List Nd) (m:Nd) {q b q2:Nat} {ts:Slots} {s1 s2 sp1:Sp} (h219:H219 cl N) (hl:l.length<big) (hN:l.length<N) (h28:look 28 ts=.fn 219 [] [.ptr b 0]) (h4:look 4 ts=.ptr q 0) (h2:look 2 ts=.ptr q2 0) (hq:O[q]? =some (.cells (icN s1 s2 m))) (hb:O[b]? =some (.cells [.slc sp1 (avL l)])) (hbq:b≠q) (hz:O[q2]? =some (.cells zz6)) (hq2:q2≠q):
  ∃O9 s3 s4,(match evalC G false cl yl N t140 ⟨ts,⟨O,R⟩,[]⟩with
    |some (.exit _,_)=>none
    |some (_,s)=>leave s c140.res
    |none=>none)=some (.agg (icN s3 s4 (l.foldr (fun n r=>nd 14 [n,r]) m)),⟨O9,R⟩)∧O.length≤O9.length∧ ∀i,i<O.length→i≠q→i≠q2→O9[i]? =O[i]?:=by
 obtain⟨O7,s3,s4,k1,g1,g2,g3,g4⟩:=rng140 (G:=G) (yl:=yl) (R:=R) l m h219 hl hN h28 h4 hq hb hbq;have l2:=(List.getElem?_eq_some_iff.1 hz).1;have z7:O7[q2]? =some (.cells zz6):=by rw[g4 q2 l2 hq2];exact hz
 generalize l.foldr (fun n r=>nd 14 [n,r]) m=x at*;obtain⟨O8,e8,g8,n8,m8⟩:=wr_ok (.cells (icN s3 s4 x)) (List.getElem?_eq_some_iff.1 z7).1;have mk8:O8[O.length]? =some .mark:=by rw[n8 _ (by omega)];exact g2
 obtain⟨O9,e9,g9,n9,m9⟩:=wr_ok .dead (List.getElem?_eq_some_iff.1 mk8).1;have g29:O9[q2]? =some (.cells (icN s3 s4 x)):=by rw[n9 _ (by omega)];exact g8
 refine⟨O9,s3,s4,?_,by omega,fun i hi hq h2=>by rw[n9 i (by omega),n8 i h2];exact g4 i hi hq⟩;unfold icN at g1 e8 g29⊢;clear n8 n9 m8 m9 l2 g3 g4;simp -implicitDefEqProofs [t140,k1,h4,h2,g1,z7,e8,c140,mk8,e9,g29]
theorem ev140 (hL:Lok L) (h:Nat) {r:Nd×Ps} (h134:H134 cl p sp L) (hc: ∀h',h'≤h→ ∀O R s r,Rd O p sp L s→Pre L s→pr' L h' .ors s=some r→RN (cl 192 [.ptr p 0] ⟨O,R⟩) r.1 p sp L r.2 O R)
  (h193: ∀sp1 es O R,cl 193 [.slc sp1 es] ⟨O,R⟩=some (.fn 219 [] [.ptr O.length 0],⟨O++[.cells [.slc sp1 es]],R⟩)) (h219:H219 cl N) (hN:h+1<N) (hh:h+1<big) (hR:Rd O p sp L s) (hi:Pre L s) (e:(pr' L h .ors s).bind (fun r=>pr' L h (.tImp [r.1]) r.2)=some r):
  RN (callA G false cl yl N c140 [.ptr p 0] ⟨O,R⟩) r.1 p sp L r.2 O R:=by
 unfold big at hh;rw[Option.bind_eq_some_iff]at e;obtain⟨q,e1,e2⟩:=e;have hp:p<O.length:=(List.getElem?_eq_some_iff.1 hR).1;obtain⟨a1,a2,O1,Y1,k1,f1,r1⟩:=hc h (Nat.le_refl _) (O++[.cells zz6]) R s q (hR.app _) hi e1;have hi1:=hi.step (pr_stp hL _ _ _ _ e1);obtain⟨O2,R3,ts',s3,l',j1,j2,j3,j4,j5,j6,j7,⟨Y3,rfl⟩,j9⟩:=loop140 (G:=G) (yl:=yl) (N:=N) (R:=R) hL h (q2:=O.length) h134 hc O1.length (R++Y1).length h [q.1] q.2 r O1 (R++Y1) .full N (Nat.le_refl _) e2 (by omega) (by simp;omega) (by simp) r1 hi1 ⟨⟨Y1,rfl⟩,.inl rfl⟩;have f2:=f1.trans j9;have l2:=f2.len;rw[List.length_append,List.length_singleton]at l2;have z2:O2[O.length]? =some (.cells zz6):=f2.old (by simp) (by omega);obtain⟨l0,x,rfl⟩: ∃l0 x,l'=l0++[x]:=⟨l'.dropLast,l'.getLast j5,(List.dropLast_concat_getLast j5).symm⟩
 rw[chn_snoc]at j4;have hl0:l0.length<big∧l0.length<N∧l0.length<8589934592:=by
  unfold big;simp at j6;omega
 have b1:O2.length+1≠O2.length:=by omega
 obtain⟨t1,t2,hx⟩:=ndc_ic x;have key: ∃ts,callA G false cl yl N c140 [.ptr p 0] ⟨O,R⟩=(match evalC G false cl yl N t140 ⟨ts,⟨O2++[.cells (ndc x),.cells [.slc .shared (avL l0)]],R++Y3⟩,[]⟩with
    |some (.exit _,_)=>none
    |some (_,s)=>leave s c140.res
    |none=>none)∧look 28 ts=.fn 219 [] [.ptr (O2.length+1) 0]∧look 4 ts=.ptr O2.length 0∧look 2 ts=.ptr O.length 0:=by
  have hpz:=icN_pure a1 a2 q.1;unfold icN at k1 hpz;have w1:wrapF .i64 (l0.length:Int)=(l0.length:Int):=wrap_id (by omega) (by omega);have hap:=avL_append l0 [x];have hlen:(avL l0).length=l0.length:=avL_length l0;have hax:avL [x]=[av x]:=rfl;rw[hax]at hap;have hsz:szOk 6 (avL l0++[av x])=true:=by rw[←hap];simp
  rw[hap]at j3;have hav1:avL [q.1]=[av q.1]:=rfl;rw[hav1]at j1;have hget:(avL l0++[av x])[l0.length]? =some (av x):=by rw[List.getElem?_append_right (by omega)];simp[hlen]
  have htk:(avL l0++[av x]).take l0.length=avL l0:=by rw[←hlen];simp
  have hln:(avL l0++[av x]).length=l0.length+1:=by simp
  have hget': ∀h,(avL l0++[av x])[l0.length]'h=av x:=fun h=>(List.getElem?_eq_some_iff.1 hget).2;generalize avL l0++[av x]=es at*;rw[List.length_append]at j1;cases s3 with
  |shared=>
   apply Exists.intro;apply And.intro
   ·simp -implicitDefEqProofs [c140,k1,hpz,j1,j2,j3,hln,hlen,hsz,w1,hget',htk,h193,t140];rfl
   ·refine⟨?_,?_,?_⟩<;>first|rfl|(simp;done)|simpa using j2
  |full=>
   apply Exists.intro;apply And.intro
   ·simp -implicitDefEqProofs [c140,k1,hpz,j1,j2,j3,hln,hlen,hsz,w1,hget',htk,h193,t140];rfl
   ·refine⟨?_,?_,?_⟩<;>first|rfl|(simp;done)|simpa using j2
  |own a=>
   apply Exists.intro;apply And.intro
   ·simp -implicitDefEqProofs [c140,k1,hpz,j1,j2,j3,hln,hlen,hsz,w1,hget',htk,h193,t140];rfl
   ·refine⟨?_,?_,?_⟩<;>first|rfl|(simp;done)|simpa using j2
 obtain⟨ts,y1,y2,y3,y4⟩:=key;obtain⟨O9,s5,s6,v1,v2,v3⟩:=tail140 (G:=G) (cl:=cl) (yl:=yl) (N:=N) (O:=O2++[.cells (ndc x),.cells [.slc .shared (avL l0)]]) (R:=R++Y3) l0 x (s1:=t1) (s2:=t2) (sp1:=.shared) h219 hl0.1 hl0.2.1 y2 y3 y4 (by rw[←hx];simp) (by simp) b1 (get_old z2 _) (by omega);rw[List.length_append]at v2;simp only[List.length_cons,List.length_nil]at v2;refine⟨s5,s6,O9,Y3,by rw[y1,v1,j4],⟨by omega,fun i hi hp=>?_⟩,?_⟩
 ·rw[v3 i (by rw[List.length_append];omega) (by omega) (by omega),List.getElem?_append_left (by omega),f2.get i (by rw[List.length_append];omega) hp,List.getElem?_append_left hi]
 ·have hpl:p<O2.length:=by omega
  unfold Rd;rw[v3 p (by rw[List.length_append];omega) (by omega) (by omega),List.getElem?_append_left hpl];exact j7
end
def prF:List Nat:=[81,132,133,134,135,137,138,139,140,191,192,193,217,218,219,228,229,242,243,244,245,246,247,248,249,250,251,252,253,254,255,265]
def NoO (orc:Nat→List AV→Ores):Prop:= ∀f∈prF,∀ags,orcW orc f ags=none
section
variable {t N k:Nat} {orc:Nat→List AV→Ores} {p:Nat} {sp:Sp} {L:List Tk}
theorem q132 (ho:NoO orc):H132 (BW (GG t) orc N (k+1)) p sp L:=fun O R s hR hi=>by
 rw[bw_in (cf:=c132) (ho 132 (by decide) _) rfl rfl rfl];exact ev132 hR hi
theorem q133 (ho:NoO orc):H133 (BW (GG t) orc N (k+1)) p sp L:=fun O R s c hR=>by
 rw[bw_in (cf:=c133) (ho 133 (by decide) _) rfl rfl rfl];exact ev133 hR c
theorem q191 (ho:NoO orc):H191 (BW (GG t) orc N (k+2)) p sp L:=fun O R s w hR hi=>by
 rw[bw_in (cf:=c191) (ho 191 (by decide) _) rfl rfl rfl];exact ev191 hR w (q132 ho O R s hR hi)
theorem q134 (ho:NoO orc) (hb:L.length<big):H134 (BW (GG t) orc N (k+3)) p sp L:=fun O R s w hR hi=>by
 rw[bw_in (cf:=c134) (ho 134 (by decide) _) rfl rfl rfl];exact ev134 hR hi hb w (q191 ho O R s w hR hi)
theorem q138 (ho:NoO orc) (hb:L.length<big):H138 (BW (GG t) orc N (k+4)) p sp L:=fun O R s w hR hi=>by
 rw[bw_in (cf:=c138) (ho 138 (by decide) _) rfl rfl rfl];exact ev138 hR w (q134 ho hb O R s w hR hi) (fun O' s' c h'=>q133 ho O' R s' c h')
theorem q137 (ho:NoO orc) (hb:L.length<big):H137 (BW (GG t) orc N (k+2)) p sp L:=fun O R s hR hi=>by
 rw[bw_in (cf:=c137) (ho 137 (by decide) _) rfl rfl rfl];exact ev137 hR hi hb (q132 ho O R s hR hi) (fun O' s' c h'=>q133 ho O' R s' c h')
theorem q245 (ho:NoO orc) (hb:L.length<big):H245 (BW (GG t) orc N (k+2)) p sp L:=fun O R s lo hi' hR hi=>by
 rw[bw_in (cf:=c245) (ho 245 (by decide) _) rfl rfl rfl];exact ev245 hR hi hb lo hi' (q132 ho O R s hR hi) (q133 ho)
theorem q135 (ho:NoO orc) (hb:L.length<big) (hN:5<N):H135 (BW (GG t) orc N (k+4)) p sp L:=fun O R s hR hi=>by
 rw[bw_in (cf:=c135) (ho 135 (by decide) _) rfl rfl rfl];exact ev135 hR hi (q134 ho hb) (q133 ho) hN
theorem q228 (ho:NoO orc) (O:List Obj) (R:List Arr):BW (GG t) orc N (k+1) 228 [] ⟨O,R⟩=some (.map O.length,⟨O++[.map ES228],R⟩):=by
 rw[bw_in (cf:=c228) (ho 228 (by decide) _) rfl rfl rfl];exact ev228
theorem q193 (ho:NoO orc) (sp1:Sp) (es:List AV) (O:List Obj) (R:List Arr):BW (GG t) orc N (k+1) 193 [.slc sp1 es] ⟨O,R⟩=some (.fn 219 [] [.ptr O.length 0],⟨O++[.cells [.slc sp1 es]],R⟩):=by
 rw[bw_in (cf:=c193) (ho 193 (by decide) _) rfl rfl rfl];exact ev193 sp1 es
theorem q219 (ho:NoO orc):H219 (BW (GG t) orc N (k+2)) N:=by
 intro l m id q b ts s1 s2 sp1 O R h1 h2 h3 h4 h5 h6 h7 h8 h9;rw[bw_in (cf:=c219) (ho 219 (by decide) _) rfl rfl rfl];refine ev219 l m h1 h2 h3 h4 h5 h6 h7 h8 h9 fun O s1 s2 n m i g1 g2=>?_;exact yield140 (G:=GG t) (cl:=BW (GG t) orc N k) (yl:=YW (GG t) orc N k) (N:=N) n m i g1 h4 g2 h7
end
theorem FrN.old {p:Nat} {O O':List Obj} (h:FrN O.length p O O') {i:Nat} {x:Obj} (hi:O[i]? =some x) (hp:i≠p):O'[i]? =some x:=by
 rw[h i (List.getElem?_eq_some_iff.1 hi).1 hp];exact hi
structure PrK (cl:Caller) (p:Nat) (sp:Sp) (L:List Tk) (h:Nat):Prop where
 opd: ∀O R s r,Rd O p sp L s→Pre L s→pr' L h .opd s=some r→RN (cl 218 [.ptr p 0] ⟨O,R⟩) r.1 p sp L r.2 O R
 ands: ∀O R s r b,O[b]? =some (.cells [.ptr p 0])→b≠p→Rd O p sp L s→Pre L s→pr' L h .ands s=some r→RN (cl 217 [.ptr b 0] ⟨O,R⟩) r.1 p sp L r.2 O R
 ors: ∀O R s r,Rd O p sp L s→Pre L s→pr' L h .ors s=some r→RN (cl 192 [.ptr p 0] ⟨O,R⟩) r.1 p sp L r.2 O R
 imp: ∀O R s r,Rd O p sp L s→Pre L s→pr' L h .imp s=some r→RN (cl 140 [.ptr p 0] ⟨O,R⟩) r.1 p sp L r.2 O R
 fml: ∀O R s r,Rd O p sp L s→Pre L s→pr' L h .fml s=some r→RN (cl 81 [.ptr p 0] ⟨O,R⟩) r.1 p sp L r.2 O R
section
variable {t N:Nat} {orc:Nat→List AV→Ores} {p:Nat} {sp:Sp} {L:List Tk}
theorem pr_atm {h:Nat} {s:Ps} (hw: ¬(((tkA L s.i).k=3∨(tkA L s.i).k=4)∧s.e=0∧ ∃f,fnW (tkA L s.i).tx=some f)):pr' L (h+1) .opd s=atmS L h s:=by
 simp only[pr'];by_cases hc:((tkA L s.i).k=3∨(tkA L s.i).k=4)∧s.e=0
 ·rw[if_pos hc];by_cases w0:(tkA L s.i).tx=wTrue
  ·exact absurd ⟨hc.1,hc.2,242,by unfold fnW;rw[if_pos w0]⟩ hw
  by_cases w1:(tkA L s.i).tx=wFalse
  ·exact absurd ⟨hc.1,hc.2,243,by unfold fnW;rw[if_neg w0,if_pos w1]⟩ hw
  by_cases w2:(tkA L s.i).tx=wSize
  ·exact absurd ⟨hc.1,hc.2,244,by unfold fnW;rw[if_neg w0,if_neg w1,if_pos w2]⟩ hw
  by_cases w3:(tkA L s.i).tx=wOne
  ·exact absurd ⟨hc.1,hc.2,246,by unfold fnW;rw[if_neg w0,if_neg w1,if_neg w2,if_pos w3]⟩ hw
  by_cases w4:(tkA L s.i).tx=wNot
  ·exact absurd ⟨hc.1,hc.2,247,by unfold fnW;rw[if_neg w0,if_neg w1,if_neg w2,if_neg w3,if_pos w4]⟩ hw
  by_cases w5:(tkA L s.i).tx=wSome
  ·exact absurd ⟨hc.1,hc.2,250,by unfold fnW;rw[if_neg w0,if_neg w1,if_neg w2,if_neg w3,if_neg w4,if_pos w5]⟩ hw
  by_cases w6:(tkA L s.i).tx=wEvery
  ·exact absurd ⟨hc.1,hc.2,252,by unfold fnW;rw[if_neg w0,if_neg w1,if_neg w2,if_neg w3,if_neg w4,if_neg w5,if_pos w6]⟩ hw
  by_cases w7:(tkA L s.i).tx=wL
  ·exact absurd ⟨hc.1,hc.2,253,by unfold fnW;rw[if_neg w0,if_neg w1,if_neg w2,if_neg w3,if_neg w4,if_neg w5,if_neg w6,if_pos w7]⟩ hw
  rw[if_neg w0,if_neg w1,if_neg w2,if_neg w3,if_neg w4,if_neg w5,if_neg w6,if_neg w7]
 ·rw[if_neg hc]
theorem q251 {i h:Nat} (ho:NoO orc) (hL:Lok L) (hb:L.length<big) (hN:6<N) (ih: ∀j,i≤j→PrK (BW (GG t) orc N (j+10)) p sp L h) (op:Int) {O:List Obj} {R:List Arr} {s:Ps} {r:Nd×Ps} (hR:Rd O p sp L s) (hi:Pre L s) (he:s.e=0) (hk:s.i+1<L.length)
  (e:lvl s (fun s1=>(pr' L h .fml (needS L (nameS L (srtS L s1).2).2 wCol)).map fun r=>(qn op (nameS L (srtS L s1).2).1 (srtS L s1).1 r.1,r.2))=some r):
  RN (BW (GG t) orc N (i+13) 251 [.ptr p 0,.int .i64 op] ⟨O,R⟩) r.1 p sp L r.2 O R:=by
 rw[bw_in (cf:=c251) (ho 251 (by decide) _) rfl rfl rfl];refine ev251 hR op r fun O1 b c f1 r1 hb1 hc1 hbp hcp=>?_;rw[bw_in (cf:=c248) (ho 248 (by decide) _) rfl rfl rfl];have st: ∀s1:Ps,Stp L s1 (needS L (nameS L (srtS L s1).2).2 wCol):=fun s1=>(srtL_stp hL s1 [0,1,2,3]).trans ((nameS_stp hL _).trans (needS_stp hL _ wCol));refine ev248 265 [] [.ptr c 0,.ptr b 0] _ he hb r1 hi hk (fun q hq=>?_) (fun O2 q f2 r2 hi2 hq=>?_) (q133 ho) e
 ·simp only[Option.map_eq_some_iff]at hq;obtain⟨q',h1,rfl⟩:=hq;exact((st _).trans (pr_stp hL _ _ _ _ h1)).o
 ·simp only[Option.map_eq_some_iff]at hq;obtain⟨q',h1,rfl⟩:=hq;simp only[List.nil_append];rw[bw_in (cf:=c265) (ho 265 (by decide) _) rfl rfl rfl];exact ev265 hL r2 hi2.i op (f2.old hb1 hbp) (f2.old hc1 hcp) hbp hcp q' (q135 ho hb (by omega)) (q137 ho hb) (q138 ho hb) fun O3 f3 r3=>(ih i (Nat.le_refl _)).fml O3 _ _ q' r3 (hi2.step (st _)) h1
theorem pr_all (ho:NoO orc) (hL:Lok L) (hb:L.length<big) (hN:6<N): ∀(h k:Nat),5*h+10≤k→h+2<N→h+2<big→PrK (BW (GG t) orc N k) p sp L h:=by
 intro h
 induction h using Nat.strongRecOn with
 |ind h ih=>
 intro k hk hhN hhb;cases h with
 |zero=>refine⟨?_,?_,?_,?_,?_⟩<;>intros<;>rename_i e<;>simp[pr']at e
 |succ h=>
  obtain⟨i,rfl⟩: ∃i,k=i+15:=⟨k - 15,by omega⟩
  have ih': ∀j,i≤j→PrK (BW (GG t) orc N (j+10)) p sp L h:=fun j hj=>ih h (by omega) (j+10) (by omega) (by omega) (by omega);have ihl: ∀j h',i≤j→h'≤h→PrK (BW (GG t) orc N (j+10)) p sp L h':=fun j h' hj hh=>ih h' (by omega) (j+10) (by omega) (by omega) (by omega);refine⟨fun O R s r hR hi e=>?_,fun O R s r b hbx hbp hR hi e=>?_,fun O R s r hR hi e=>?_,fun O R s r hR hi e=>?_,fun O R s r hR hi e=>?_⟩
  ·rw[bw_in (cf:=c218) (ho 218 (by decide) _) rfl rfl rfl];refine ev218 hR hi.i (q132 ho) (fun O R=>q228 ho O R) r (fun f hk he hw O' f1 r1=>?_) (fun hn O' r1=>?_)
   ·have hkn:(tkA L s.i).k≠0:=by omega
    have hlt:=lt_of_k hL hi.i hkn;have hbi:s.i+1<big:=by omega
    simp only[pr']at e;rw[if_pos ⟨hk,he⟩]at e;unfold fnW at hw;by_cases w1:(tkA L s.i).tx=wTrue
    ·rw[if_pos w1]at hw e;cases hw;cases e;rw[bw_in (cf:=c242) (ho 242 (by decide) _) rfl rfl rfl];exact ev242 r1 hbi
    rw[if_neg w1]at hw e;by_cases w2:(tkA L s.i).tx=wFalse
    ·rw[if_pos w2]at hw e;cases hw;cases e;rw[bw_in (cf:=c243) (ho 243 (by decide) _) rfl rfl rfl];exact ev243 r1 hbi
    rw[if_neg w2]at hw e;by_cases w3:(tkA L s.i).tx=wSize
    ·rw[if_pos w3]at hw e;cases hw;cases e;rw[bw_in (cf:=c244) (ho 244 (by decide) _) rfl rfl rfl];exact ev244 hL r1 hbi hlt (q137 ho hb) (q138 ho hb) (q245 ho hb)
    rw[if_neg w3]at hw e;by_cases w4:(tkA L s.i).tx=wOne
    ·rw[if_pos w4]at hw e;cases hw;cases e;rw[bw_in (cf:=c246) (ho 246 (by decide) _) rfl rfl rfl];exact ev246 r1 hbi hlt (q137 ho hb)
    rw[if_neg w4]at hw e;by_cases w5:(tkA L s.i).tx=wNot
    ·rw[if_pos w5]at hw e;cases hw;rw[bw_in (cf:=c247) (ho 247 (by decide) _) rfl rfl rfl];refine ev247 r1 r fun O1 b f1 r1 hb1 hbp=>?_;rw[bw_in (cf:=c248) (ho 248 (by decide) _) rfl rfl rfl];refine ev248 249 [] [.ptr b 0] _ he hb r1 hi hlt (fun q hq=>?_) (fun O2 q f2 r2 hi2 hq=>?_) (q133 ho) e
     ·simp only[Option.map_eq_some_iff]at hq;obtain⟨q',h1,rfl⟩:=hq;exact(pr_stp hL _ _ _ _ h1).o
     ·simp only[Option.map_eq_some_iff]at hq;obtain⟨q',h1,rfl⟩:=hq;simp only[List.nil_append];rw[bw_in (cf:=c249) (ho 249 (by decide) _) rfl rfl rfl];exact ev249 r2 (f2.old hb1 hbp) q' fun O3 f3 r3=>(ih' (i+1) (by omega)).opd O3 _ _ q' r3 hi2 h1
    rw[if_neg w5]at hw e;by_cases w6:(tkA L s.i).tx=wSome
    ·rw[if_pos w6]at hw e;cases hw;rw[bw_in (cf:=c250) (ho 250 (by decide) _) rfl rfl rfl];exact ev250 r1 16 r rfl fun O1 f1 r1=>q251 ho hL hb hN ih' 16 r1 hi he hlt e
    rw[if_neg w6]at hw e;by_cases w7:(tkA L s.i).tx=wEvery
    ·rw[if_pos w7]at hw e;cases hw;rw[bw_in (cf:=c252) (ho 252 (by decide) _) rfl rfl rfl];exact ev252 r1 17 r rfl fun O1 f1 r1=>q251 ho hL hb hN ih' 17 r1 hi he hlt e
    rw[if_neg w7]at hw e;by_cases w8:(tkA L s.i).tx=wL
    ·rw[if_pos w8]at hw e;cases hw;rw[bw_in (cf:=c253) (ho 253 (by decide) _) rfl rfl rfl];refine ev253 r1 r fun O1 b f1 r1 hb1 hbp=>?_;rw[bw_in (cf:=c248) (ho 248 (by decide) _) rfl rfl rfl];refine ev248 254 [] [.ptr b 0] _ he hb r1 hi hlt (fun q hq=>?_) (fun O2 q f2 r2 hi2 hq=>?_) (q133 ho) e
     ·simp only[Option.map_eq_some_iff]at hq;obtain⟨q',h1,rfl⟩:=hq;exact((pr_stp hL _ _ _ _ h1).trans (needS_stp hL _ _)).o
     ·simp only[Option.map_eq_some_iff]at hq;obtain⟨q',h1,rfl⟩:=hq;simp only[List.nil_append];rw[bw_in (cf:=c254) (ho 254 (by decide) _) rfl rfl rfl];exact ev254 r2 (f2.old hb1 hbp) hbp q' ((pr_stp hL _ _ _ _ h1).lt hi2.i) (fun O3 f3 r3=>(ih' (i+1) (by omega)).fml O3 _ _ q' r3 hi2 h1) (q138 ho hb)
    rw[if_neg w8]at hw;cases hw
   ·rw[pr_atm hn]at e;rw[bw_in (cf:=c229) (ho 229 (by decide) _) rfl rfl rfl];refine ev229 hL r1 hi.i h e (q137 ho hb) (q191 ho) (q134 ho hb) (q245 ho hb) (q133 ho) hN fun O' f s' r' r2 hi' hs hq=>?_;rw[bw_in (cf:=c255) (ho 255 (by decide) _) rfl rfl rfl];exact ev255 hL hb f h r2 ((isS_adv hL hs).lt hi') hq (by omega) (by omega) (q132 ho) (q133 ho) (q134 ho hb) (q137 ho hb) (q138 ho hb)
  ·rw[bw_in (cf:=c217) (ho 217 (by decide) _) rfl rfl rfl];refine ev217 hR hbx r fun O1 f1 r1=>?_;rw[bw_in (cf:=c139) (ho 139 (by decide) _) rfl rfl rfl];simp only[pr']at e;exact ev139 wAnd 12 .opd .tAnd h 218 [.ptr p 0] [] O1 R (fun _=>True) (fun _ _ _ _=>trivial) hL (fun h n s=>by simp only[pr']) (fun h' hh O R s r _ hR hi e=>(ihl (i+3) h' (by omega) hh).opd O R s r hR hi e) (q134 ho hb) (by omega) trivial r1 hi e
  ·rw[bw_in (cf:=c192) (ho 192 (by decide) _) rfl rfl rfl];refine ev192 hR r fun O1 b f1 r1 hb1 hbp=>?_;rw[bw_in (cf:=c139) (ho 139 (by decide) _) rfl rfl rfl];simp only[pr']at e;exact ev139 wOr 13 .ands .tOr h 217 [] [.ptr b 0] O1 R (fun O=>O[b]? =some (.cells [.ptr p 0])) (fun O2 O3 h2 h3=>by rw[h2 b (List.getElem?_eq_some_iff.1 hb1).1 hbp];exact h3) hL (fun h n s=>by simp only[pr']) (fun h' hh O R s r hx hR hi e=>(ihl (i+3) h' (by omega) hh).ands O R s r b hx hbp hR hi e) (q134 ho hb) (by omega) hb1 r1 hi e
  ·rw[bw_in (cf:=c140) (ho 140 (by decide) _) rfl rfl rfl];simp only[pr']at e;exact ev140 hL h (q134 ho hb) (fun h' hh O R s r hR hi e=>(ihl (i+4) h' (by omega) hh).ors O R s r hR hi e) (fun sp1 es O R=>q193 ho sp1 es O R) (q219 ho) (by omega) (by omega) hR hi e
  ·rw[bw_in (cf:=c81) (ho 81 (by decide) _) rfl rfl rfl];refine ev81 hR r fun O1 f1 r1=>?_;rw[bw_in (cf:=c139) (ho 139 (by decide) _) rfl rfl rfl];simp only[pr']at e;exact ev139 wIff 15 .imp .tIff h 140 [.ptr p 0] [] O1 R (fun _=>True) (fun _ _ _ _=>trivial) hL (fun h n s=>by simp only[pr']) (fun h' hh O R s r _ hR hi e=>(ihl (i+3) h' (by omega) hh).imp O R s r hR hi e) (q134 ho hb) (by omega) trivial r1 hi e
end
end Go.Proofs.Ae
