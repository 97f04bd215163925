/- The lexer: what single functions answer for every input. -/
import Derived.Test.YtjkmcceipabejaaGreatDoorG
import Derived.Shelf.Pu.ToErrorRange
import Derived.Test.YtjkmcceipabejaaGreatDoorProg
set_option linter.unusedSimpArgs false
set_option linter.unusedVariables false
set_option linter.unusedSectionVars false
namespace Go.Proofs.Ae
open Go Go.RowKit
set_option maxRecDepth 1000000
def isLet (c:UInt8):Bool:=(97≤c&&c≤122)||(65≤c&&c≤90)
def isDig (c:UInt8):Bool:=48≤c&&c≤57
def isRun (c:UInt8):Bool:=isLet c||isDig c||c==39
def isBlk (c:UInt8):Bool:=c==9||c==10||c==13||c==32
def isMrk (c:UInt8):Bool:=c==61||c==40||c==41||c==44||c==58||c==59
def mrkS:Str:=[61,40,41,44,58,59]
def TZ:Table:=⟨fns,fun _ _=>none,mutv⟩
theorem oZ {G:Nat→Option AV}:OrcOK Tryz.prog G TZ.orc:=fun f ags r h=>by cases h
def okB (f:Nat) (g:UInt8→Bool):Bool:=(List.range 256).all fun i=>runTo (both Gv TZ 1000 false 50).1 f [.int .u8 (i:Nat)] (.bool (g (UInt8.ofNat i)))
theorem b169:okB 169 isLet=true:=by kernel_rfl
theorem b170:okB 170 isDig=true:=by kernel_rfl
theorem b108:okB 108 isRun=true:=by kernel_rfl
theorem b106:okB 106 isBlk=true:=by kernel_rfl
theorem b117:okB 117 isRun=true:=by kernel_rfl
theorem b148:okB 148 isDig=true:=by kernel_rfl
theorem b150:okB 150 isLet=true:=by kernel_rfl
def idxL (l:Str) (c:UInt8):Int:=match l.idxOf? c with
 |some i=>(i:Int)
 |none=> -1
theorem b107:((List.range 256).all fun i=>runTo (both Gv TZ 1000 false 50).1 107 [.str mrkS,.int .u8 (i:Nat)] (.int .i64 (idxL mrkS (UInt8.ofNat i))))=true:=by kernel_rfl
theorem okB_at {f:Nat} {g:UInt8→Bool} (h:okB f g=true) (c:UInt8):OrcAt Tryz.prog Gv f [.int .u8 c.toNat] (.bool (g c),none):=by
 have:=List.all_eq_true.1 h c.toNat (List.mem_range.2 c.toNat_lt);rw[UInt8.ofNat_toNat]at this;exact fun U bs es w args hG hV hfr=>pgood_run (both_ok (T:=TZ) (N:=1000) hmix kis tabOK oZ 50 false).1 (runTo_inv this) rfl hG hV hfr
theorem orc107 (c:UInt8):OrcAt Tryz.prog Gv 107 [.str mrkS,.int .u8 c.toNat] (.int .i64 (idxL mrkS c),none):=by
 have:=List.all_eq_true.1 b107 c.toNat (List.mem_range.2 c.toNat_lt);rw[UInt8.ofNat_toNat]at this;exact fun U bs es w args hG hV hfr=>pgood_run (both_ok (T:=TZ) (N:=1000) hmix kis tabOK oZ 50 false).1 (runTo_inv this) rfl hG hV hfr
section
variable {G:Nat→Option AV} {cl:Caller} {N:Nat}
def cutN (g:UInt8→Bool) (s:Str):Nat:=(s.takeWhile g).length
theorem tw_get {g:UInt8→Bool}: ∀{s:Str} {i:Nat} {x:UInt8},(s.takeWhile g)[i]? =some x→s[i]? =some x∧g x=true
 |[],i,x,h=>by simp at h
 |c::s,i,x,h=>by
  rw[List.takeWhile_cons]at h;split at h
  ·cases i with
   |zero=>simp at h;subst h;exact⟨rfl,by assumption⟩
   |succ i=>simp at h;simpa using tw_get h
  ·simp at h
theorem tw_end {g:UInt8→Bool}: ∀(s:Str),(s.takeWhile g).length=s.length∨ ∃y,s[(s.takeWhile g).length]? =some y∧g y=false
 |[]=>.inl rfl
 |c::s=>by
  rw[List.takeWhile_cons];cases h:g c with
  |true=>
   rcases tw_end (g:=g) s with k|⟨y,k1,k2⟩
   ·exact .inl (by simp[k])
   ·exact .inr ⟨y,by simpa using k1,k2⟩
  |false=>exact .inr ⟨c,by simp,h⟩
theorem tw_le (g:UInt8→Bool): ∀s:Str,(s.takeWhile g).length≤s.length
 |[]=>Nat.le_refl _
 |c::s=>by
  rw[List.takeWhile_cons];have:=tw_le g s;split<;>simp<;>omega
end
end Go.Proofs.Ae
namespace Go.Proofs.Ae
open Go Go.RowKit
theorem iter_while {mu:Bool} {step:St→Option (Ex×St)} {an:Ann} {kk m:Nat} (I:Nat→St→Prop) (Q:Ex→St→Prop)
  (h: ∀k s,I k s→Post (fun e s'=>(e=.normal∧ ∃k',k'<k∧I k' (tidy mu an kk m s'))∨(e≠ .normal∧Q e s')) (step s)):
  ∀(N k:Nat) (s:St),I k s→k<N→ ∃e s',iter mu step an kk m N s=some (e,s')∧e≠ .normal∧Q e s':=by
 intro N
 induction N with
 |zero=>intro k s _ h;omega
 |succ N ih=>
  intro k s hI hk;obtain⟨e,s',h1,h2⟩:=(h k s hI).out;simp only[iter,h1];rcases h2 with⟨rfl,k',hk',hI'⟩|⟨he,hQ⟩
  ·obtain⟨e2,s2,k1,k2,k3⟩:=ih k' _ hI' (by omega);exact⟨e2,s2,k1,k2,k3⟩
  ·refine⟨e,s',?_,he,hQ⟩;cases e<;>first|exact absurd rfl he|rfl
section
variable {G:Nat→Option AV} {cl:Caller} {N:Nat}
theorem ev109 (g:UInt8→Bool) (f:Nat) (s:Str) (hs:s.length<big) (hN:s.length<N) (hc: ∀(c:UInt8) M,cl f [.int .u8 c.toNat] M=some (.bool (g c),M)):
  pureA G false cl noYl N c109 [.str s,.fn f [] []]=some (.int .i64 (cutN g s),none):=by
 unfold big at hs;have hle:=tw_le g s;obtain⟨e,⟨ts,M,mks⟩,h1,h2,rfl,rfl,rfl,h5⟩:=iter_while (mu:=false) (step:=evalC G false cl noYl N c109b0) (an:=⟨[0,1,5],[(5,none)],false⟩) (kk:=0) (m:=0)
  (fun k st=> ∃i,i≤(s.takeWhile g).length∧k=(s.takeWhile g).length - i∧st=⟨[(0,.str s),(1,.fn f [] []),(5,.int .i64 (i:Nat))],⟨[],[]⟩,[]⟩)
  (fun e s'=>e=.exit 0∧s'.m=⟨[],[]⟩∧s'.mks=[]∧look 5 s'.ts=.int .i64 (cutN g s))
  (by
   rintro k _ ⟨i,hi,rfl,rfl⟩;by_cases hlt:i<(s.takeWhile g).length
   ·obtain⟨hx,hg⟩:=tw_get (List.getElem?_eq_getElem hlt);generalize(s.takeWhile g)[i]=x at hx hg;obtain⟨hil,hx'⟩:=List.getElem?_eq_some_iff.1 hx;have w1:wrapF .i64 ((i:Int)+1)=((i+1:Nat):Int):=wrap_succ (by omega);have hp:(0:Int)≤(i:Int):=by omega
    simp -implicitDefEqProofs [c109b0,hil,hx',hc,hg,w1,hp];exact⟨_,by omega,i+1,by omega,rfl,by simp⟩
   ·have hi':i=(s.takeWhile g).length:=by omega
    rcases tw_end (g:=g) s with k|⟨y,k1,k2⟩
    ·have hil: ¬i<s.length:=by omega
     simp -implicitDefEqProofs [c109b0,hil,cutN,hi',k]
    ·obtain⟨hil,hx'⟩:=List.getElem?_eq_some_iff.1 k1;have hp:(0:Int)≤((s.takeWhile g).length:Int):=by omega
     simp -implicitDefEqProofs [c109b0,hil,hx',hi',hp,hc,k2,cutN])
  N _ _ ⟨0,by omega,rfl,rfl⟩ (by omega)
 rw[show((0:Nat):Int)=0 from rfl]at h1;simp only[]at h5;simp -implicitDefEqProofs [c109,h1,h5]
end
theorem wrap_u64 {n:Int} (h1:0≤n) (h2:n≤18446744073709551615):wrapF .u64 n=n:=by
 have:n%18446744073709551616=n:=Int.emod_eq_of_lt h1 (by omega);simp only[wrapF,IntKind.wrap,IntKind.bits,IntKind.signed,Bool.false_and,Bool.false_eq_true,if_false];exact this
theorem wrap_u8 {n:Int} (h1:0≤n) (h2:n≤255):wrapF .u8 n=n:=by
 have:n%256=n:=Int.emod_eq_of_lt h1 (by omega);simp only[wrapF,IntKind.wrap,IntKind.bits,IntKind.signed,Bool.false_and,Bool.false_eq_true,if_false];exact this
def puN:Nat→Str→Option Nat
 |n,[]=>some n
 |n,c::s=>if n*10+(c.toNat - 48)≤2147483647 then puN (n*10+(c.toNat - 48)) s else none
def puV:Option Nat→AV
 |some n=>.tup [.int .u64 n,.nili]
 |none=>.tup [.int .u64 2147483647,.iface 296 (.int .i64 1)]
section
variable {G:Nat→Option AV} {cl:Caller} {N:Nat}
def ts181 (s:Str) (n i:Nat):Slots:=[(1,.int .i64 10),(8,.bool false),(9,.str s),(10,.int .u64 1844674407370955162),(11,.int .u64 2147483647),(12,.bool false),(13,.int .u64 n),(99,.slc .shared (s.map fun b=>.int .u8 b.toNat)),(100,.int .i64 s.length),(101,.int .i64 i)]
theorem ev223 (s:Str) (h0:s≠[]) (hd: ∀c∈s,isDig c=true) (hs:s.length<big) (hN:s.length<N):
  pureA G false cl noYl N c223 [.str s,.int .i64 10,.int .i64 31]=some (puV (puN 0 s),none):=by
 unfold big at hs;obtain⟨e,⟨ts,M,mks⟩,h1,h2,rfl,rfl,h5⟩:=iter_while (mu:=false) (step:=evalC G false cl noYl N c223b0) (an:=⟨[1,8,9,10,11,12,13,99,100,101],[(12,none),(13,none),(101,none)],true⟩) (kk:=0) (m:=0)
  (fun k st=> ∃i n,i≤s.length∧k=s.length - i∧n≤2147483647∧puN n (s.drop i)=puN 0 s∧st=⟨ts181 s n i,⟨[],[]⟩,[]⟩)
  (fun e s'=>s'.m=⟨[],[]⟩∧s'.mks=[]∧match puN 0 s with
   |some n=>e=.exit 3∧look 12 s'.ts=.bool false∧look 13 s'.ts=.int .u64 n
   |none=>e=.ret∧look 6 s'.ts=.int .u64 2147483647∧look 7 s'.ts=.iface 296 (.int .i64 1))
  (by
   rintro k _ ⟨i,n,hi,rfl,hn,hp,rfl⟩;by_cases hlt:i<s.length
   ·have hx':s[i]=s[i]:=rfl;generalize hxx:s[i]=x at hx';clear hx';have hdx:=hd x (hxx▸List.getElem_mem hlt);simp only[isDig,Bool.and_eq_true,decide_eq_true_eq,UInt8.le_iff_toNat_le]at hdx;have hb1:48≤x.toNat:=hdx.1;have hb2:x.toNat≤57:=hdx.2;have hdrop:s.drop i=x::s.drop (i+1):=by rw[←hxx];exact List.drop_eq_getElem_cons hlt
    rw[hdrop,puN]at hp;have hp0:(0:Int)≤(i:Int):=by omega
    have w1:wrapF .i64 ((i:Int)+1)=((i+1:Nat):Int):=wrap_succ (by omega);have w2:wrapF .u8 ((x.toNat:Int) - 48)=((x.toNat - 48:Nat):Int):=by rw[wrap_u8 (by omega) (by omega)];omega
    have w3:wrapF .u8 10=10:=wrap_u8 (by omega) (by omega);have w4:wrapF .u64 10=10:=wrap_u64 (by omega) (by omega);have w5:wrapF .u64 ((n:Int)*10)=((n*10:Nat):Int):=by rw[wrap_u64 (by omega) (by omega)];omega
    have w6:wrapF .u64 ((x.toNat - 48:Nat):Int)=((x.toNat - 48:Nat):Int):=by rw[wrap_u64 (by omega) (by omega)]
    have w7:wrapF .u64 (((n*10:Nat):Int)+((x.toNat - 48:Nat):Int))=((n*10+(x.toNat - 48):Nat):Int):=by rw[wrap_u64 (by omega) (by omega)];omega
    have c1:decide ((i:Int)<(s.length:Int))=true:=by simpa using hlt
    have c2:(((x.toNat:Nat):Int)==95)=false:=by simp;omega
    have c3:decide ((48:Int)≤(x.toNat:Int))=true:=by simp;omega
    have c4:decide ((x.toNat:Int)≤57)=true:=by simp;omega
    have c5:decide (((x.toNat - 48:Nat):Int)≥10)=false:=by simp;omega
    have c6:decide ((n:Int)≥1844674407370955162)=false:=by simp;omega
    have c7:decide (((n*10+(x.toNat - 48):Nat):Int)<((n*10:Nat):Int))=false:=by simp only[decide_eq_false_iff_not];omega
    have d1: ¬n*10+(x.toNat - 48)<n*10:=by omega
    have d2: ¬(10:Int)≤((x.toNat - 48:Nat):Int):=by omega
    have d3: ¬10≤x.toNat - 48:=by omega
    have d4: ¬(1844674407370955162:Int)≤(n:Int):=by omega
    have d5: ¬1844674407370955162≤n:=by omega
    have d6: ¬(((x.toNat:Nat):Int)=95):=by omega
    have d7:(48:Int)≤(x.toNat:Int):=by omega
    have d8:(x.toNat:Int)≤57:=by omega
    by_cases hov:n*10+(x.toNat - 48)≤2147483647
    ·have d9: ¬2147483647<n*10+(x.toNat - 48):=by omega
     have d10: ¬(2147483647:Int)<((n*10+(x.toNat - 48):Nat):Int):=by omega
     rw[if_pos hov]at hp;generalize n*10+(x.toNat - 48)=n2 at*;generalize n*10=n1 at*;generalize x.toNat - 48=d at*;simp -implicitDefEqProofs [c223b0,ts181,hlt,hxx,hp0,w1,w2,w3,w4,w5,w6,w7,c2,d1,d2,d3,d4,d5,d6,d7,d8,d9,d10,hb1,hb2];exact⟨s.length - (i+1),by omega,i+1,by omega,rfl,n2,by omega,hp,by simp⟩
    ·have d9:2147483647<n*10+(x.toNat - 48):=by omega
     have d10:(2147483647:Int)<((n*10+(x.toNat - 48):Nat):Int):=by omega
     rw[if_neg hov]at hp;rw[←hp];generalize n*10+(x.toNat - 48)=n2 at*;generalize n*10=n1 at*;generalize x.toNat - 48=d at*;simp -implicitDefEqProofs [c223b0,ts181,hlt,hxx,hp0,w1,w2,w3,w4,w5,w6,w7,c2,d1,d2,d3,d4,d5,d6,d7,d8,d9,d10,hb1,hb2]
   ·have hi':i=s.length:=by omega
    subst hi';rw[List.drop_length,puN]at hp;rw[←hp];simp -implicitDefEqProofs [c223b0,ts181])
  N _ _ ⟨0,0,by omega,rfl,by omega,rfl,rfl⟩ (by omega)
 have z1:wrapF .u64 31=31:=wrap_u64 (by omega) (by omega);have z2:wrapF .u64 2147483648=2147483648:=wrap_u64 (by omega) (by omega);have z3:wrapF .u64 2147483647=2147483647:=wrap_u64 (by omega) (by omega);have hse:strA .eql s []=some (.bool false):=by
  cases s with
  |nil=>exact absurd rfl h0
  |cons c s=>rfl
 have hsh:shiftA .shl .u64 1 31=some (.int .u64 2147483648):=rfl;cases hpu:puN 0 s with
 |none=>
  rw[hpu]at h5;obtain⟨rfl,h6,h7⟩:=h5;simp only[]at h6 h7;simp[ts181]at h1;simp -implicitDefEqProofs [c223,hse,hsh,h1,h6,h7,z1,z2,z3,puV];rfl
 |some n=>
  rw[hpu]at h5;obtain⟨rfl,h6,h7⟩:=h5;simp only[]at h6 h7;simp[ts181]at h1;simp -implicitDefEqProofs [c223,hse,hsh,h1,h6,h7,z1,z2,z3,puV];rfl
end
end Go.Proofs.Ae
namespace Go.Proofs
open Go.Shelf
def Tryz.laysPu17_ren:Go.Shelf.Ren:=⟨fun|17=>224|21=>233|22=>234|23=>235|24=>236|25=>258|27=>179|26=>259|28=>210|29=>226|30=>238|31=>239|32=>240|33=>241|35=>190|34=>261|36=>262|37=>263|38=>264|39=>268|40=>269|n=>n,fun|9=>9|3=>3|24=>107|34=>296|4=>4|39=>298|44=>322|37=>101|0=>0|47=>182|50=>332|48=>330|2=>2|52=>301|22=>253|5=>5|55=>303|59=>326|60=>251|20=>20|61=>327|36=>207|65=>334|66=>335|67=>112|n=>n,fun|0=>8|1=>9|2=>10|3=>11|4=>12|n=>n⟩
theorem Tryz.laysPu17:Go.Proofs.LaysPu.n17 Tryz.prog Tryz.laysPu17_ren:={
 mixed:=by kernel_rfl
 f17:=Tryz.func224.trans (congrArg some (by kernel_rfl))
 f21:=Tryz.func233.trans (congrArg some (by kernel_rfl))
 f22:=Tryz.func234.trans (congrArg some (by kernel_rfl))
 f23:=Tryz.func235.trans (congrArg some (by kernel_rfl))
 f24:=Tryz.func236.trans (congrArg some (by kernel_rfl))
 f25:=Tryz.func258.trans (congrArg some (by kernel_rfl))
 f26:=Tryz.func259.trans (congrArg some (by kernel_rfl))
 f27:=Tryz.func179.trans (congrArg some (by kernel_rfl))
 f28:=Tryz.func210.trans (congrArg some (by kernel_rfl))
 f29:=Tryz.func226.trans (congrArg some (by kernel_rfl))
 f30:=Tryz.func238.trans (congrArg some (by kernel_rfl))
 f31:=Tryz.func239.trans (congrArg some (by kernel_rfl))
 f32:=Tryz.func240.trans (congrArg some (by kernel_rfl))
 f33:=Tryz.func241.trans (congrArg some (by kernel_rfl))
 f34:=Tryz.func261.trans (congrArg some (by kernel_rfl))
 f35:=Tryz.func190.trans (congrArg some (by kernel_rfl))
 f36:=Tryz.func262.trans (congrArg some (by kernel_rfl))
 f37:=Tryz.func263.trans (congrArg some (by kernel_rfl))
 f38:=Tryz.func264.trans (congrArg some (by kernel_rfl))
 f39:=Tryz.func268.trans (congrArg some (by kernel_rfl))
 f40:=Tryz.func269.trans (congrArg some (by kernel_rfl))
 t0:=Tryz.underlying0
 a0:=Tryz.isAgg0
 z0:=Tryz.sizeOf0
 v0:=Tryz.zeroValue0
 i0:=by kernel_rfl
 t2:=Tryz.underlying2
 a2:=Tryz.isAgg2
 z2:=Tryz.sizeOf2
 v2:=Tryz.zeroValue2
 i2:=by kernel_rfl
 t3:=Tryz.underlying3
 a3:=Tryz.isAgg3
 z3:=Tryz.sizeOf3
 v3:=Tryz.zeroValue3
 i3:=by kernel_rfl
 t4:=Tryz.underlying4
 a4:=Tryz.isAgg4
 z4:=Tryz.sizeOf4
 v4:=Tryz.zeroValue4
 i4:=by kernel_rfl
 t5:=Tryz.underlying5
 a5:=Tryz.isAgg5
 z5:=Tryz.sizeOf5
 v5:=Tryz.zeroValue5
 i5:=by kernel_rfl
 t9:=Tryz.underlying9
 a9:=Tryz.isAgg9
 z9:=Tryz.sizeOf9
 v9:=Tryz.zeroValue9
 i9:=by kernel_rfl
 t20:=Tryz.underlying20
 a20:=Tryz.isAgg20
 z20:=Tryz.sizeOf20
 v20:=Tryz.zeroValue20
 i20:=by kernel_rfl
 t22:=Tryz.underlying253
 a22:=Tryz.isAgg253
 z22:=Tryz.sizeOf253
 v22:=Tryz.zeroValue253
 i22:=by kernel_rfl
 t24:=Tryz.underlying107
 a24:=Tryz.isAgg107
 z24:=Tryz.sizeOf107
 v24:=Tryz.zeroValue107
 i24:=by kernel_rfl
 t34:=Tryz.underlying296
 a34:=Tryz.isAgg296
 z34:=Tryz.sizeOf296
 v34:=Tryz.zeroValue296
 i34:=by kernel_rfl
 c34:=by kernel_rfl
 t36:=Tryz.underlying207
 a36:=Tryz.isAgg207
 z36:=Tryz.sizeOf207
 v36:=Tryz.zeroValue207
 i36:=by kernel_rfl
 t37:=Tryz.underlying101
 a37:=Tryz.isAgg101
 z37:=Tryz.sizeOf101
 v37:=Tryz.zeroValue101
 i37:=by kernel_rfl
 t39:=Tryz.underlying298
 a39:=Tryz.isAgg298
 z39:=Tryz.sizeOf298
 v39:=Tryz.zeroValue298
 i39:=by kernel_rfl
 t44:=Tryz.underlying322
 a44:=Tryz.isAgg322
 z44:=Tryz.sizeOf322
 v44:=Tryz.zeroValue322
 i44:=by kernel_rfl
 t47:=Tryz.underlying182
 a47:=Tryz.isAgg182
 z47:=Tryz.sizeOf182
 v47:=Tryz.zeroValue182
 i47:=by kernel_rfl
 t48:=Tryz.underlying330
 a48:=Tryz.isAgg330
 z48:=Tryz.sizeOf330
 v48:=Tryz.zeroValue330
 i48:=by kernel_rfl
 t50:=Tryz.underlying332
 a50:=Tryz.isAgg332
 z50:=Tryz.sizeOf332
 v50:=Tryz.zeroValue332
 i50:=by kernel_rfl
 t52:=Tryz.underlying301
 a52:=Tryz.isAgg301
 z52:=Tryz.sizeOf301
 v52:=Tryz.zeroValue301
 i52:=by kernel_rfl
 t55:=Tryz.underlying303
 a55:=Tryz.isAgg303
 z55:=Tryz.sizeOf303
 v55:=Tryz.zeroValue303
 i55:=by kernel_rfl
 t59:=Tryz.underlying326
 a59:=Tryz.isAgg326
 z59:=Tryz.sizeOf326
 v59:=Tryz.zeroValue326
 i59:=by kernel_rfl
 t60:=Tryz.underlying251
 a60:=Tryz.isAgg251
 z60:=Tryz.sizeOf251
 v60:=Tryz.zeroValue251
 i60:=by kernel_rfl
 t61:=Tryz.underlying327
 a61:=Tryz.isAgg327
 z61:=Tryz.sizeOf327
 t65:=Tryz.underlying334
 a65:=Tryz.isAgg334
 z65:=Tryz.sizeOf334
 v65:=Tryz.zeroValue334
 i65:=by kernel_rfl
 t66:=Tryz.underlying335
 a66:=Tryz.isAgg335
 z66:=Tryz.sizeOf335
 v66:=Tryz.zeroValue335
 i66:=by kernel_rfl
 t67:=Tryz.underlying112
 a67:=Tryz.isAgg112
 z67:=Tryz.sizeOf112
 v67:=Tryz.zeroValue112
 i67:=by kernel_rfl
 g0:=by kernel_rfl
 m0:=by kernel_rfl
 g1:=by kernel_rfl
 m1:=by kernel_rfl
 g2:=by kernel_rfl
 m2:=by kernel_rfl
 g3:=by kernel_rfl
 m3:=by kernel_rfl
 g4:=by kernel_rfl
 m4:=by kernel_rfl}
end Go.Proofs
namespace Go.Proofs.Ae
open Go Go.RowKit
def anyP:AV:=.eptr (.agg [])
def errV:AV:=.iface 298 anyP
def puS:Str:=[80,97,114,115,101,85,105,110,116]
theorem orc224 {t:Nat} (s:Str) (hs:s.length<big):OrcAt Tryz.prog (GG t) 224 [.str puS,.str s,.int .i64 10,.int .i64 31,.iface 296 (.int .i64 1)] (errV,none):=by
 intro U bs es w args hG hV hfr;cases hV with
 |cons h1 hV=>cases hV with
  |cons h2 hV=>cases hV with
   |cons h3 hV=>cases hV with
    |cons h4 hV=>cases hV with
     |cons h5 hV=>
      cases hV;cases h1;cases h2;cases h3;cases h4;cases h5 with
      |iface h5=>
       cases h5;refine⟨Go.Proofs.enters_of Tryz.func224 (by kernel_rfl) rfl _ _,?_⟩;obtain⟨cs,vs,k1,k2,k3,-⟩:=hG 9 (.iface t .undef) rfl;cases k1;cases k2 with
       |cons k4 k5 k6=>
        cases k6;cases k4 with
        |iface k4=>
         rename_i ev
         have hc:=(k3 0 _ rfl).1;have h:=AnyPu.strconv_toError_range Tryz.laysPu17 ⟨puS.toArray⟩ ⟨s.toArray⟩ 10 31 (.iface t ev) w (by unfold big at hs;show s.toArray.size≤_;simp;omega) hc (.inr ⟨_,_,rfl⟩);refine Calls.mono h ?_;rintro e w' ⟨N,rfl,hN,hw,hb⟩;refine⟨_,U,rfl,⟨hb,fun _ _=>rfl,fun b hbb=>hfr b (Nat.le_trans hb.size hbb),?_,fun _ _ _ _ _ hx=>by cases hx⟩⟩;exact Rep.iface (Rep.eptr (cs:=[]) (vs:=[]) rfl .nil (fun i v hv=>by simp at hv))
def puR:Option Nat→AV
 |some n=>.tup [.int .u64 n,.nili]
 |none=>.tup [.int .u64 2147483647,errV]
theorem puN_le: ∀{s:Str} {n m:Nat},n≤2147483647→puN n s=some m→m≤2147483647
 |[],n,m,h,k=>by simp[puN]at k;omega
 |c::s,n,m,h,k=>by
  simp only[puN]at k;split at k
  ·exact puN_le (by assumption) k
  ·cases k
def numF (s:Str):Int×Int:=
 if s.all isDig=false then(0,3)else
 match s with
 |[]=>(0,3)
 |c::r=>if r≠[]∧c=48 then(0,3)else match puN 0 (c::r)with
  |some n=>(n,0)
  |none=>(0,2)
section
variable {G:Nat→Option AV} {cl:Caller} {N:Nat}
theorem ev202 (s:Str) (hs:s.length<big) (h1: ∀M,cl 223 [.str s,.int .i64 10,.int .i64 31] M=some (puV (puN 0 s),M)) (h2: ∀M,cl 224 [.str puS,.str s,.int .i64 10,.int .i64 31,.iface 296 (.int .i64 1)] M=some (errV,M)):
  pureA G false cl noYl N c202 [.str s,.int .i64 10,.int .i64 31]=some (puR (puN 0 s),none):=by
 simp only[puS]at h2;cases hp:puN 0 s with
 |none=>
  rw[hp]at h1;simp only[puV]at h1;simp -implicitDefEqProofs [c202,h1,h2,puR,errV,anyP];rfl
 |some n=>
  rw[hp]at h1;simp only[puV]at h1;simp -implicitDefEqProofs [c202,h1,h2,puR];rfl
theorem tw_all {g:UInt8→Bool}: ∀(s:Str),(s.takeWhile g).length=s.length↔s.all g=true
 |[]=>by simp
 |c::s=>by
  rw[List.takeWhile_cons];cases h:g c with
  |true=>simpa[h] using tw_all (g:=g) s
  |false=>simp[h]
theorem ev171 (s:Str) (h0:s≠[]) (hs:s.length<big) (h1: ∀M,cl 109 [.str s,.fn 170 [] []] M=some (.int .i64 (cutN isDig s),M))
  (h2:s.all isDig=true→ ∀M,cl 202 [.str s,.int .i64 10,.int .i64 31] M=some (puR (puN 0 s),M)):
  pureA G false cl noYl N c171 [.str s]=some (.tup [.int .i64 (numF s).1,.int .i64 (numF s).2],none):=by
 cases hall:s.all isDig with
 |false=>
  have hlt:cutN isDig s<s.length:=by
   have:=tw_le isDig s;have h3: ¬(s.takeWhile isDig).length=s.length:=fun h=>by rw[tw_all]at h;rw[h]at hall;cases hall
   unfold cutN;omega
  simp -implicitDefEqProofs [c171,h1,hlt,numF,hall]
 |true=>
  have hcut:cutN isDig s=s.length:=(tw_all s).2 hall;rw[hcut]at h1;have h2':=h2 hall;cases s with
  |nil=>exact absurd rfl h0
  |cons c r=>
   have hne: ¬((c::r).all isDig=false):=by rw[hall];simp
   have hc8:(((c.toNat:Nat):Int)=48)=(c=48):=by
    apply propext;constructor
    ·intro h;have:c.toNat=(48:UInt8).toNat:=by show c.toNat=48;omega
     exact UInt8.toNat_inj.1 this
    ·rintro rfl;rfl
   simp only[List.length_cons]at h1 hs;unfold big at hs;cases r with
   |nil=>
    have e1:numF [c]=match puN 0 [c]with
     |some n=>((n:Int),0)
     |none=>(0,2):=by unfold numF;rw[if_neg hne];simp
    rw[e1];cases hp:puN 0 [c]with
    |none=>
     rw[hp]at h2';simp only[puR,errV,anyP]at h2';simp -implicitDefEqProofs [c171,h1,h2']
    |some n=>
     rw[hp]at h2';simp only[puR]at h2';have:=puN_le (by omega) hp;have w:wrapF .i64 (n:Int)=n:=wrap_id (by omega) (by omega);simp -implicitDefEqProofs [c171,h1,h2',w]
   |cons d r=>
    have hgt:(1:Int)<(r.length:Int)+1+1:=by omega
    by_cases h48:c=48
    ·have e1:numF (c::d::r)=(0,3):=by unfold numF;rw[if_neg hne];simp[h48]
     rw[e1];subst h48;simp -implicitDefEqProofs [c171,h1,hgt]
    ·have hb:(((c.toNat:Nat):Int)==48)=false:=by rw[beq_eq_false_iff_ne];intro h;exact h48 (hc8▸h)
     have e1:numF (c::d::r)=match puN 0 (c::d::r)with
      |some n=>((n:Int),0)
      |none=>(0,2):=by unfold numF;rw[if_neg hne];simp[h48]
     rw[e1];cases hp:puN 0 (c::d::r)with
     |none=>
      rw[hp]at h2';simp only[puR,errV,anyP]at h2';simp -implicitDefEqProofs [c171,h1,h2',hgt,hb,hc8,h48]
     |some n=>
      rw[hp]at h2';simp only[puR]at h2';have:=puN_le (by omega) hp;have w:wrapF .i64 (n:Int)=n:=wrap_id (by omega) (by omega);simp -implicitDefEqProofs [c171,h1,h2',hgt,hb,hc8,h48,w]
def kwL:List Str:=[[102,105,110,100],[115,111,109,101],[101,118,101,114,121],[118,101,114,116,101,120],[101,100,103,101],[115,101,116],[101,100,103,101,115],[116,114,117,101],[102,97,108,115,101],[110,111,116],[97,110,100],[111,114],[105,109,112,108,105,101,115],[105,102,102],[105,110],[115,117,98],[97,100,106],[111,110],[105,115],[111,110,101],[115,105,122,101],[109,111,100],[108,101,97,115,116],[103,114,101,97,116,101,115,116],[97,115,107],[108,101,116]]
def kwM:List (AV×AV):=kwL.map fun k=>(.str k,.bool true)
theorem find_kw (s:Str): ∀l:List Str,find (.str s) (l.map fun k=>(.str k,.bool true))=some (if s∈l then some (.bool true)else none)
 |[]=>by simp[find]
 |k::l=>by
  have ih:=find_kw s l;by_cases h:s=k
  ·subst h;simp[find,eqK]
  ·have:(s==k)=false:=by simp[h]
   simp[find,eqK,this,ih,h]
structure Tk where
 k:Int
 tx:Str
 v:Int
 ln:Int
 col:Int
def tkC (t:Tk):List AV:=[.int .i64 t.k,.str t.tx,.int .i64 t.v,.int .i64 t.ln,.int .i64 t.col]
def runF (t:Str):Tk×Int:=
 if t∈kwL then(⟨3,t,0,0,0⟩,0)else if isDig (t.headD 0)then(⟨2,t,(numF t).1,0,0⟩,(numF t).2)else if isLet (t.headD 0)=false then(⟨0,[],0,0,0⟩,3)else if t.length>16 then(⟨0,[],0,0,0⟩,2)else(⟨1,t,0,0,0⟩,0)
theorem ev110 {yl:Nat→List AV→Mem→Option (AV×Mem)} (t:Str) (M:Mem) (h0:t≠[]) (hM:M.objs[1]? =some (.map kwM)) (hM2:2≤M.objs.length) (h1: ∀(c:UInt8) M,cl 170 [.int .u8 c.toNat] M=some (.bool (isDig c),M)) (h2: ∀(c:UInt8) M,cl 169 [.int .u8 c.toNat] M=some (.bool (isLet c),M))
  (h3: ∀M,cl 171 [.str t] M=some (.tup [.int .i64 (numF t).1,.int .i64 (numF t).2],M)):
  callA G false cl yl N c110 [.str t,.map 1] M=some (.tup [.agg (tkC (runF t).1),.int .i64 (runF t).2],⟨M.objs++[.cells (tkC (runF t).1)],M.arrs⟩):=by
 have hf:find (.str t) kwM=some (if t∈kwL then some (.bool true)else none):=find_kw t kwL;obtain⟨objs,arrs⟩:=M;simp only at hM hM2⊢;have hM': ∀x:Obj,(objs++[x])[1]? =some (.map kwM):=fun x=>by rw[List.getElem?_append_left (by omega)];exact hM
 have hkey:keyK true (.str t)=true:=rfl;cases t with
 |nil=>exact absurd rfl h0
 |cons c r=>
  by_cases hk:(c::r)∈kwL
  ·rw[if_pos hk]at hf;have hr:runF (c::r)=(⟨3,c::r,0,0,0⟩,0):=by unfold runF;rw[if_pos hk]
   rw[hr];simp -implicitDefEqProofs [c110,lkpA,hM',hf,tkC,hkey]
  ·rw[if_neg hk]at hf;by_cases hd:isDig c=true
   ·have hr:runF (c::r)=(⟨2,c::r,(numF (c::r)).1,0,0⟩,(numF (c::r)).2):=by unfold runF;rw[if_neg hk];simp[hd]
    rw[hr];simp -implicitDefEqProofs [c110,lkpA,hM',hf,tkC,hkey,h1,h3,hd]
   ·have hd':isDig c=false:=by simpa using hd
    by_cases hl:isLet c=true
    ·by_cases hlen:16<(c::r).length
     ·have hr:runF (c::r)=(⟨0,[],0,0,0⟩,2):=by unfold runF;rw[if_neg hk];simp at hlen;simp[hd',hl,hlen]
      rw[hr];simp only[List.length_cons]at hlen;have hlen':(16:Int)<(r.length:Int)+1:=by omega
      simp -implicitDefEqProofs [c110,lkpA,hM',hf,tkC,hkey,h1,h2,hd',hl,hlen']
     ·have hr:runF (c::r)=(⟨1,c::r,0,0,0⟩,0):=by unfold runF;rw[if_neg hk];simp at hlen;simp[hd',hl];omega
      rw[hr];simp only[List.length_cons]at hlen;have hlen': ¬(16:Int)<(r.length:Int)+1:=by omega
      simp -implicitDefEqProofs [c110,lkpA,hM',hf,tkC,hkey,h1,h2,hd',hl,hlen']
    ·have hl':isLet c=false:=by simpa using hl
     have hr:runF (c::r)=(⟨0,[],0,0,0⟩,3):=by unfold runF;rw[if_neg hk];simp[hd',hl']
     rw[hr];simp -implicitDefEqProofs [c110,lkpA,hM',hf,tkC,hkey,h1,h2,hd',hl']
end
def tkv (t:Tk):AV:=.agg (tkC t)
@[simp] theorem szOk_agg (k:Nat) (cs l:List AV):szOk k (.agg cs::l)=decide (cs.length=k):=rfl
@[simp] theorem szOk_tkv (t:Tk) (l:List AV):szOk 5 (tkv t::l)=true:=rfl
@[simp] theorem szOk_tkvs (l:List Tk):szOk 5 (l.map tkv)=true:=by cases l<;>rfl
@[simp] theorem pureV_tkv (t:Tk):pureV (tkv t)=some (tkv t):=rfl
@[simp] theorem cells_tkv (t:Tk):cells (tkv t)=some (tkC t):=rfl
def ltR (f g:UInt8→Bool):Bool:=(List.range 256).all fun i=>!(f (UInt8.ofNat i))||!(g (UInt8.ofNat i))
theorem ltR_at {f g:UInt8→Bool} (h:ltR f g=true) {c:UInt8} (hf:f c=true):g c=false:=by
 have:=List.all_eq_true.1 h c.toNat (List.mem_range.2 c.toNat_lt);rw[UInt8.ofNat_toNat,hf]at this;simpa using this
theorem blk_run:ltR isBlk isRun=true:=by kernel_rfl
theorem mrk_run:ltR isMrk isRun=true:=by kernel_rfl
theorem mrk_idx:((List.range 256).all fun i=>decide (idxL mrkS (UInt8.ofNat i)≥0)==isMrk (UInt8.ofNat i))=true:=by kernel_rfl
theorem idx_mrk (c:UInt8):decide (0≤idxL mrkS c)=isMrk c:=by
 have:=List.all_eq_true.1 mrk_idx c.toNat (List.mem_range.2 c.toNat_lt);rw[UInt8.ofNat_toNat]at this;simpa using this
theorem scr_kw (k m:Nat):List.map (fun e:AV×AV=>(e.fst,scr k m e.snd)) kwM=kwM:=by rfl
theorem scr_row (k m n ty sz:Nat):(match rowA n ty sz with
  |Arr.app n ty sz=>Arr.app n ty sz
  |Arr.wr g ty l cs=>Arr.wr g ty l (scrL k m cs))=rowA n ty sz:=by cases n<;>rfl
structure LexC (cl:Caller):Prop where
 h139:cl 105 [] ⟨[.cells [.int .i64 0,.int .i64 0]],[]⟩=some (.map 1,⟨[.cells [.int .i64 0,.int .i64 0],.map kwM],[]⟩)
 h140: ∀(c:UInt8) M,cl 106 [.int .u8 c.toNat] M=some (.bool (isBlk c),M)
 h141: ∀(c:UInt8) M,cl 107 [.str mrkS,.int .u8 c.toNat] M=some (.int .i64 (idxL mrkS c),M)
 h142: ∀(c:UInt8) M,cl 108 [.int .u8 c.toNat] M=some (.bool (isRun c),M)
 h143: ∀(t:Str) M,t.length≤65536→cl 109 [.str t,.fn 108 [] []] M=some (.int .i64 (cutN isRun t),M)
 h144: ∀(t:Str) (M:Mem),t≠[]→t.length≤65536→M.objs[1]? =some (.map kwM)→2≤M.objs.length→cl 110 [.str t,.map 1] M=some (.tup [.agg (tkC (runF t).1),.int .i64 (runF t).2],⟨M.objs++[.cells (tkC (runF t).1)],M.arrs⟩)
theorem rowA_l (l:List Tk):rowA l.length 121 5=Arr.app l.length (if l=[]then 0 else 121) (if l=[]then 0 else 5):=by simp[rowA]
def anT:Ann:=⟨[0,3,5,6,7,8,9],[(5,none),(8,none),(9,none)],false⟩
def ST (s:Str) (i ls:Nat) (a b:Int) (l:List Tk):St:=⟨[(0,.str s),(3,.ptr 0 0),(5,.slc (.own 0) (l.map tkv)),(6,.map 1),(7,.ptr 2 0),(8,.int .i64 ls),(9,.int .i64 i)],
 ⟨[.cells [.int .i64 0,.int .i64 0],.map kwM,.cells [.int .i64 a,.int .i64 b]],[rowA l.length 121 5]⟩,[]⟩
def NextT (s:Str) (i:Nat) (l:List Tk) (i':Nat) (l':List Tk):Prop:=
 (∃c,s[i]? =some c∧isRun c=false∧i'=i+1∧(l'=l∨ ∃ln col,l'=l++[⟨4,[c],0,ln,col⟩]))∨
 (∃ln col,0<cutN isRun (s.drop i)∧i'=i+cutN isRun (s.drop i)∧(runF ((s.take i').drop i)).2=0∧l'=l++[{(runF ((s.take i').drop i)).1 with ln:=ln,col:=col}])
def EndT (s:Str) (i:Nat) (l:List Tk) (e:Ex) (s':St):Prop:=
 (e=.exit 0∧i=s.length∧s'.mks=[]∧look 3 s'.ts=.ptr 0 0∧ ∃ln col,look 5 s'.ts=.slc (.own 0) ((l++([⟨0,[],0,ln,col⟩]:List Tk)).map tkv)∧ ∃X,s'.m=⟨.cells [.int .i64 0,.int .i64 0]::X,[rowA (l.length+1) 121 5]⟩)∨
 (e=.ret∧i<s.length∧s'.mks=[]∧look 2 s'.ts=.slc .full []∧look 3 s'.ts=.ptr 0 0∧ ∃er ln col,er≠0∧look 4 s'.ts=.int .i64 er∧(∃X,s'.m=⟨.cells [.int .i64 ln,.int .i64 col]::X,[rowA l.length 121 5]⟩)∧
  (isRun (s.getD i 0)=true→er=(runF ((s.take (i+cutN isRun (s.drop i))).drop i)).2))
section
variable {G:Nat→Option AV} {cl:Caller} {yl:Nat→List AV→Mem→Option (AV×Mem)} {N:Nat}
theorem roundT (h:LexC cl) (s:Str) (hs:s.length≤65536) (i ls:Nat) (a b:Int) (l:List Tk) (hi:i≤s.length) (hls:ls≤i) (ha:1≤a) (ha2:a≤i+1) (hl:l.length≤i):
  Post (fun e s'=>(e=.normal∧ ∃(i' ls':Nat) (a' b':Int) (l':List Tk),i<i'∧i'≤s.length∧ls'≤i'∧1≤a'∧a'≤i'+1∧l'.length≤i'∧tidy false anT 3 1 s'=ST s i' ls' a' b' l'∧NextT s i l i' l')∨(e≠ .normal∧EndT s i l e s'))
   (evalC G false cl yl N c54b0 (ST s i ls a b l)):=by
 have w1:wrapF .i64 ((i:Int) - (ls:Int))=(i:Int) - (ls:Int):=wrap_id (by omega) (by omega);have w2:wrapF .i64 ((i:Int) - (ls:Int)+1)=(i:Int) - (ls:Int)+1:=wrap_id (by omega) (by omega);have w3:wrapF .i64 ((i:Int)+1)=((i+1:Nat):Int):=wrap_succ (by omega);have w4:wrapF .i64 (a+1)=a+1:=wrap_id (by omega) (by omega);have b1:(l.length+1)*48≤140737488355328:=by omega
 have b2:l.length+1≤140737488355328:=by omega
 have hr:l=[]∨ ¬l=[]:=by cases l<;>simp
 have hp:(0:Int)≤(i:Int):=by omega
 generalize hcol:(i:Int) - (ls:Int)+1=col at w2;by_cases hend:i=s.length
 ·subst hend;simp -implicitDefEqProofs [ST,c54b0,w1,hcol,w2,rowA,b1,b2,hr,tkC];exact .inl ⟨rfl,rfl,rfl,rfl,a,col,by simp[tkv,tkC],[.map kwM,.cells [.int .i64 a,.int .i64 col]],by simp[rowA]⟩
 ·have hlt:i<s.length:=by omega
  have hne:((i:Int)==(s.length:Int))=false:=by rw[beq_eq_false_iff_ne];omega
  have hx:s[i]=s[i]:=rfl;generalize hc:s[i]=c at hx;clear hx;have hget:s[i]? =some c:=by rw[List.getElem?_eq_getElem hlt,hc]
  by_cases hblk:isBlk c=true
  ·have hnr:=ltR_at blk_run hblk;by_cases h10:c=10
   ·have e10:(((c.toNat:Nat):Int)==10)=true:=by rw[h10];rfl
    simp -implicitDefEqProofs [ST,c54b0,w1,hcol,w2,w3,w4,hne,hp,hlt,hc,h.h140,hblk,e10,anT,scr_kw,scr_row];exact⟨i+1,by omega,by omega,i+1,by omega,a+1,by omega,by omega,col,l,by omega,by simp[rowA],.inl ⟨c,hget,hnr,rfl,.inl rfl⟩⟩
   ·have e10: ¬(((c.toNat:Nat):Int)=10):=by
     intro hh;have:c.toNat=(10:UInt8).toNat:=by show c.toNat=10;omega
     exact h10 (UInt8.toNat_inj.1 this)
    have e10':(((c.toNat:Nat):Int)==10)=false:=by rw[beq_eq_false_iff_ne];exact e10
    simp -implicitDefEqProofs [ST,c54b0,w1,hcol,w2,w3,w4,hne,hp,hlt,hc,h.h140,hblk,e10',anT,scr_kw,scr_row];exact⟨i+1,by omega,by omega,ls,by omega,a,by omega,by omega,col,l,by omega,by simp[rowA],.inl ⟨c,hget,hnr,rfl,.inl rfl⟩⟩
  ·have hblk':isBlk c=false:=by simpa using hblk
   have hidx:=idx_mrk c;have h141:=h.h141 c;simp only[mrkS]at h141 hidx;by_cases hmrk:isMrk c=true
   ·have hnr:=ltR_at mrk_run hmrk;rw[hmrk]at hidx;have hidx':=of_decide_eq_true hidx;have htk:(s.take (i+1)).drop i=[c]:=by
     have:s.take (i+1)=s.take i++[c]:=by rw[List.take_add_one,hget];rfl
     rw[this,List.drop_append_of_le_length (by simp;omega),List.drop_of_length_le (by simp;omega)];rfl
    have hi1:i+1≤s.length:=by omega
    have hi0:i≤i+1:=by omega
    have hp1:(0:Int)≤(i:Int)+1:=by omega
    simp -implicitDefEqProofs [ST,c54b0,w1,hcol,w2,w3,w4,hne,hp,hlt,hc,h.h140,hblk',h141,hidx',anT,scr_kw,scr_row,htk,hi1,hi0,hp1,optV,b1,b2,hr,rowA,tkC];exact⟨i+1,by omega,by omega,ls,by omega,a,by omega,by omega,col,l++[⟨4,[c],0,a,col⟩],by simp;omega,by simp[tkv,tkC],.inl ⟨c,hget,hnr,rfl,.inr ⟨a,col,rfl⟩⟩⟩
   ·have hmrk':isMrk c=false:=by simpa using hmrk
    rw[hmrk']at hidx;have hidx': ¬0≤idxL [61,40,41,44,58,59] c:=of_decide_eq_false hidx;have hidx'':decide (idxL [61,40,41,44,58,59] c≥0)=false:=hidx;have hgetD:s.getD i 0=c:=by simp[hget]
    by_cases hrun:isRun c=true
    ·have hdrop:s.drop i=c::s.drop (i+1):=by rw[←hc];exact List.drop_eq_getElem_cons hlt
     have hn0:0<cutN isRun (s.drop i):=by unfold cutN;rw[hdrop,List.takeWhile_cons,hrun];simp
     have hn1:cutN isRun (s.drop i)≤s.length - i:=by have:=tw_le isRun (s.drop i);unfold cutN;simpa using this
     have h143:=fun M=>h.h143 (s.drop i) M (by simp;omega);have w5:wrapF .i64 ((i:Int)+(cutN isRun (s.drop i):Int))=((i+cutN isRun (s.drop i):Nat):Int):=by rw[wrap_id (by omega) (by omega)];omega
     have hp2:(0:Int)≤((i+cutN isRun (s.drop i):Nat):Int):=by omega
     have ht0:(s.take (i+cutN isRun (s.drop i))).drop i≠[]:=by
      intro hh;have:=congrArg List.length hh;simp at this;omega
     have ht1:((s.take (i+cutN isRun (s.drop i))).drop i).length≤65536:=by simp;omega
     have h144:=fun M=>h.h144 ((s.take (i+cutN isRun (s.drop i))).drop i) M ht0 ht1;have hend':EndT s i l=EndT s i l:=rfl;have hnx: ∀i' l',i'=i+cutN isRun (s.drop i)→(runF ((s.take i').drop i)).2=0→(∃ln col,l'=l++[{(runF ((s.take i').drop i)).1 with ln:=ln,col:=col}])→NextT s i l i' l':=fun i' l' e1 e2 ⟨ln,co,e3⟩=>.inr ⟨ln,co,hn0,e1,e2,e3⟩;have her: ∀er,er=(runF ((s.take (i+cutN isRun (s.drop i))).drop i)).2→(isRun (s.getD i 0)=true→er=(runF ((s.take (i+cutN isRun (s.drop i))).drop i)).2):=fun _ h _=>h;have hle1:i+cutN isRun (s.drop i)≤s.length:=by omega
     have hle2:i≤i+cutN isRun (s.drop i):=by omega
     obtain⟨n,hnn⟩: ∃n,n=cutN isRun (s.drop i):=⟨_,rfl⟩
     rw[←hnn]at hn0 hn1 w5 hp2 ht0 ht1 h144 hle1 hle2;simp only[←hnn]at h143 hnx her;obtain⟨t,htt⟩: ∃t,t=(s.take (i+n)).drop i:=⟨_,rfl⟩
     rw[←htt]at ht0 ht1 her;simp only[←htt]at h144;have htt':=htt.symm;have hp3:(0:Int)≤(i:Int)+(n:Int):=by omega
     have htn:((i:Int)+(n:Int)).toNat=i+n:=by omega
     by_cases he:(runF t).2=0
     ·have he':((runF t).2 !=0)=false:=by simp[he]
      simp -implicitDefEqProofs [ST,c54b0,w1,hcol,w2,w3,w4,w5,hne,hp,hp2,hlt,hc,h.h140,hblk',h141,hidx',hidx'',h.h142,hrun,h143,htt',h144,he,hp3,htn,anT,scr_kw,scr_row,hi,hle1,hle2,optV,b1,b2,hr,rowA,tkC];exact⟨i+n,by omega,by omega,ls,by omega,a,by omega,by omega,col,l++[{(runF t).1 with ln:=a,col:=col}],by simp;omega,by simp[tkv,tkC],hnx (i+n) _ rfl (by rw[←htt];exact he) ⟨a,col,by rw[←htt]⟩⟩
     ·have he':((runF t).2 !=0)=true:=by simp[he]
      simp -implicitDefEqProofs [ST,c54b0,w1,hcol,w2,w3,w4,w5,hne,hp,hp2,hlt,hc,h.h140,hblk',h141,hidx',hidx'',h.h142,hrun,h143,htt',h144,he,he',hp3,htn,anT,scr_kw,scr_row,hi,hle1,hle2,optV,b1,b2,hr,rowA,tkC];exact .inr ⟨rfl,hlt,rfl,rfl,rfl,(runF t).2,a,col,he,rfl,⟨_,by rw[rowA_l]⟩,fun _=>by rw[←hnn,←htt]⟩
    ·have hrun':isRun c=false:=by simpa using hrun
     simp -implicitDefEqProofs [ST,c54b0,w1,hcol,w2,w3,w4,hne,hp,hlt,hc,h.h140,hblk',h141,hidx',hidx'',h.h142,hrun',anT,scr_kw,scr_row,hi,optV,b1,b2,hr,rowA,tkC];exact .inr ⟨rfl,hlt,rfl,rfl,rfl,3,a,col,by simp,rfl,⟨_,by rw[rowA_l]⟩,fun hh=>by rw[hgetD,hrun']at hh;cases hh⟩
end
theorem runF_one {t:Str} (h:(runF t).1.k=1):(runF t).1.tx=t∧t.length≤16∧(runF t).2=0:=by
 unfold runF at h⊢;split at h
 ·simp at h
 ·split at h
  ·simp at h
  ·split at h
   ·simp at h
   ·split at h
    ·simp at h
    ·simp only[*,if_false,Bool.false_eq_true];simp_all
def isId (s:Str):Bool:=!s.isEmpty&&s.all isRun&&decide ((runF s).2=0)&&decide ((runF s).1.k=1)
def idOf (s:Str) (l:List Tk) (e:Int):Bool:=decide (e=0)&&decide (l.length=2)&&(match l with
 |x::_=>decide (x.tx=s)&&decide (x.k=1)
 |[]=>false)
theorem tw_take {g:UInt8→Bool}: ∀s:Str,s.take (s.takeWhile g).length=s.takeWhile g
 |[]=>rfl
 |c::s=>by
  rw[List.takeWhile_cons];split
  ·simp[tw_take s]
  ·simp
theorem tw_allg {g:UInt8→Bool} (s:Str):(s.takeWhile g).all g=true:=by
 induction s with
 |nil=>rfl
 |cons c s ih=>
  rw[List.takeWhile_cons];split
  ·simp[*]
  ·rfl
theorem cut_text (s:Str) (i:Nat):(s.take (i+cutN isRun (s.drop i))).drop i=(s.drop i).takeWhile isRun:=by
 rw[List.drop_take,Nat.add_sub_cancel_left];exact tw_take _
def PrT (s:Str) (i:Nat) (l:List Tk):Prop:=
 (s.all isRun=true∧s≠[]∧((i=0∧l=[])∨(i=s.length∧(runF s).2=0∧ ∃ln col,l=[{(runF s).1 with ln:=ln,col:=col}])))∨
 ((s.all isRun=false∨s=[])∧ ∀t∈l,t.k≠1∨t.tx≠s)
theorem cut_all {s:Str} (h:s.all isRun=true):cutN isRun s=s.length:=(tw_all s).2 h
theorem prT_next {s:Str} {i i':Nat} {l l':List Tk} (h:PrT s i l) (hi:i<i') (hi':i'≤s.length) (hn:NextT s i l i' l'):PrT s i' l':=by
 rcases h with⟨ha,hne,h⟩|⟨ha,h⟩
 ·rcases h with⟨rfl,rfl⟩|⟨rfl,_⟩
  ·rcases hn with⟨c,hc,hr,_⟩|⟨ln,col,hn0,h1,h2,h3⟩
   ·have:=List.all_eq_true.1 ha c (List.mem_of_getElem? hc);rw[this]at hr;cases hr
   ·rw[List.drop_zero,cut_all ha,Nat.zero_add]at h1;subst h1;rw[List.take_length,List.drop_zero]at h2 h3;exact .inl ⟨ha,hne,.inr ⟨rfl,h2,ln,col,by simpa using h3⟩⟩
  ·omega
 ·refine .inr ⟨ha,?_⟩;rcases hn with⟨c,hc,hr,_,hl⟩|⟨ln,col,hn0,h1,h2,h3⟩
  ·rcases hl with rfl|⟨ln,col,rfl⟩
   ·exact h
   ·intro t ht;rcases List.mem_append.1 ht with ht|ht
    ·exact h t ht
    ·simp at ht;subst ht;exact .inl (by simp)
  ·intro t ht;rw[h3]at ht;rcases List.mem_append.1 ht with ht|ht
   ·exact h t ht
   ·simp at ht;rw[ht];by_cases hk:(runF ((s.take i').drop i)).1.k=1
    ·refine .inr ?_;simp only;rw[(runF_one hk).1,h1,cut_text];intro heq;have h4:=tw_allg (g:=isRun) (s.drop i);rw[heq]at h4;rcases ha with ha|ha
     ·rw[ha]at h4;cases h4
     ·subst ha;simp[cutN]at hn0
    ·exact .inl hk
theorem isId_def {s:Str} (ha:s.all isRun=true) (hne:s≠[]):isId s=(decide ((runF s).2=0)&&decide ((runF s).1.k=1)):=by
 unfold isId;cases s with
 |nil=>exact absurd rfl hne
 |cons c s=>rw[ha];rfl
theorem isId_not {s:Str} (h:s.all isRun=false∨s=[]):isId s=false:=by
 unfold isId;rcases h with h|h
 ·rw[h];simp
 ·subst h;rfl
theorem prT_end {s:Str} {l:List Tk} (h:PrT s s.length l) (ln col:Int):idOf s (l++[⟨0,[],0,ln,col⟩]) 0=isId s:=by
 rcases h with⟨ha,hne,h⟩|⟨ha,h⟩
 ·rw[isId_def ha hne];rcases h with⟨h0,rfl⟩|⟨_,h1,ln',col',rfl⟩
  ·exact absurd (List.eq_nil_of_length_eq_zero h0) hne
  ·by_cases hk:(runF s).1.k=1
   ·have:=(runF_one hk).1;simp[idOf,h1,hk,this]
   ·simp[idOf,h1,hk]
 ·rw[isId_not ha];unfold idOf;cases l with
  |nil=>simp
  |cons x l=>
   cases l with
   |nil=>
    have:=h x List.mem_cons_self;simp;intro hx;rcases this with h1|h1
    ·exact h1
    ·exact absurd hx h1
   |cons y l=>simp
theorem prT_err {s:Str} {i:Nat} {l:List Tk} (h:PrT s i l) (hi:i<s.length) {er:Int} (he:er≠0) (hr:isRun (s.getD i 0)=true→er=(runF ((s.take (i+cutN isRun (s.drop i))).drop i)).2):isId s=false:=by
 rcases h with⟨ha,hne,h⟩|⟨ha,h⟩
 ·rw[isId_def ha hne];rcases h with⟨rfl,rfl⟩|⟨h0,_⟩
  ·have h1:isRun (s.getD 0 0)=true:=by
    cases s with
    |nil=>exact absurd rfl hne
    |cons c s=>simp at ha;exact ha.1
   have:=hr h1;simp only[List.drop_zero]at this;rw[cut_all ha,Nat.zero_add,List.take_length]at this;rw[this]at he;simp[he]
  ·omega
 ·exact isId_not ha
section
variable {G:Nat→Option AV} {cl:Caller} {yl:Nat→List AV→Mem→Option (AV×Mem)} {N:Nat}
theorem ev54 (h:LexC cl) (s:Str) (hN:s.length<N):
  ∃(l:List Tk) (p1 p2 e:Int),pureA G false cl yl N c54 [.str s]=some (.tup [.slc .shared (l.map tkv),.agg [.int .i64 p1,.int .i64 p2],.int .i64 e],none)∧idOf s l e=isId s∧l.length≤65537:=by
 by_cases hs:s.length≤65536
 ·obtain⟨e,⟨ts,M,mks⟩,h1,h2,i,l,hi,hll,hpr,hend⟩:=iter_while (mu:=false) (step:=evalC G false cl yl N c54b0) (an:=anT) (kk:=3) (m:=1)
   (fun k st=> ∃(i ls:Nat) (a b:Int) (l:List Tk),i≤s.length∧k=s.length - i∧ls≤i∧1≤a∧a≤i+1∧l.length≤i∧PrT s i l∧st=ST s i ls a b l)
   (fun e s'=> ∃(i:Nat) (l:List Tk),i≤s.length∧l.length≤i∧PrT s i l∧EndT s i l e s')
   (by
    rintro k _ ⟨i,ls,a,b,l,hi,rfl,hls,ha,ha2,hl,hpr,rfl⟩;obtain⟨e,s',g1,g2⟩:=(roundT (G:=G) (yl:=yl) (N:=N) h s hs i ls a b l hi hls ha ha2 hl).out;rw[g1];rcases g2 with⟨he,i',ls',a',b',l',k1,k2,k3,k4,k5,k6,k7,k8⟩|⟨he,hE⟩
    ·exact .inl ⟨he,s.length - i',by omega,i',ls',a',b',l',k2,rfl,k3,k4,k5,k6,prT_next hpr k1 k2 k8,k7⟩
    ·exact .inr ⟨he,i,l,hi,hl,hpr,hE⟩)
   N _ (ST s 0 0 1 1 []) ⟨0,0,1,1,[],Nat.zero_le _,rfl,Nat.le_refl _,by omega,by omega,by simp,by
    by_cases ha:s.all isRun=true
    ·by_cases hne:s=[]
     ·exact .inr ⟨.inr hne,by simp⟩
     ·exact .inl ⟨ha,hne,.inl ⟨rfl,rfl⟩⟩
    ·exact .inr ⟨.inl (by simpa using ha),by simp⟩,rfl⟩ (by omega)
  have hlen: ¬(65536:Int)<(s.length:Int):=by omega
  simp[ST,anT,rowA]at h1;rcases hend with⟨rfl,rfl,rfl,h5,ln,col,h6,X,h7⟩|⟨rfl,hlt,rfl,h5,h6,er,ln,col,hne,h7,⟨X,h8⟩,h9⟩
  ·refine⟨l++[⟨0,[],0,ln,col⟩],0,0,0,?_,prT_end hpr ln col,by simp;omega⟩;simp only[]at h5 h6 h7;subst h7;simp -implicitDefEqProofs [c54,hlen,h.h139,scr_kw,h1,h5,h6,rowA]
  ·refine⟨[],ln,col,er,?_,?_,by simp⟩
   ·simp only[]at h5 h6 h7 h8;subst h8;simp -implicitDefEqProofs [c54,hlen,h.h139,scr_kw,h1,h5,h6,h7,rowA]
   ·rw[prT_err hpr hlt hne h9];simp[idOf]
 ·refine⟨[],0,0,2,?_,?_,by simp⟩
  ·have hlen:(65536:Int)<(s.length:Int):=by omega
   simp -implicitDefEqProofs [c54,hlen]
  ·have:isId s=false:=by
    unfold isId;by_cases hk:(runF s).1.k=1
    ·have:=(runF_one hk).2.1;omega
    ·simp[hk]
   rw[this];simp[idOf]
def oneF (s:Str) (l:List Tk) (e:Int):Tk×Bool:=match l with
 |[x,_]=>if e=0∧x.tx=s then(x,true)else(⟨0,[],0,0,0⟩,false)
 |_=>(⟨0,[],0,0,0⟩,false)
theorem oneF_id (s:Str) (l:List Tk) (e:Int):((oneF s l e).2&&decide ((oneF s l e).1.k=1))=idOf s l e:=by
 match l with
 |[]=>simp[oneF,idOf]
 |[x]=>simp[oneF,idOf]
 |[x,y]=>
  by_cases h:e=0∧x.tx=s
  ·simp[oneF,idOf,h]
  ·simp only[oneF,idOf,if_neg h];by_cases h1:e=0
   ·have h2: ¬x.tx=s:=fun h2=>h ⟨h1,h2⟩;simp[h2]
   ·simp[h1]
 |x::y::z::l=>simp[oneF,idOf]
theorem ev90 (s:Str) (l:List Tk) (p1 p2 e:Int) (hl:l.length<big) (h: ∀M,cl 54 [.str s] M=some (.tup [.slc .shared (l.map tkv),.agg [.int .i64 p1,.int .i64 p2],.int .i64 e],M)):
  pureA G false cl yl N c90 [.str s]=some (.tup [.agg (tkC (oneF s l e).1),.bool (oneF s l e).2],none):=by
 unfold big at hl;by_cases he:e=0
 ·subst he
  match l,h with
  |[],h=>simp -implicitDefEqProofs [c90,h,oneF,tkC]
  |[x],h=>simp -implicitDefEqProofs [c90,h,oneF,tkC]
  |[x,y],h=>
   by_cases hx:x.tx=s
   ·have hx':strA .neq s s=some (.bool false):=by simp[strA]
    simp -implicitDefEqProofs [c90,h,oneF,tkC,hx,hx',tkv]
   ·have hx':strA .neq x.tx s=some (.bool true):=by simp[strA,hx]
    simp -implicitDefEqProofs [c90,h,oneF,tkC,hx,hx',tkv]
  |x::y::z::l,h=>
   have hne: ¬((l.length:Int)+1+1+1=2):=by omega
   have hne':(((l.length:Int)+1+1+1) !=2)=true:=by simp;omega
   simp -implicitDefEqProofs [c90,h,oneF,tkC,hne,hne']
 ·have he':(e !=0)=true:=by simp[he]
  have ho:oneF s l e=(⟨0,[],0,0,0⟩,false):=by
   unfold oneF;split
   ·simp[he]
   ·rfl
  rw[ho];simp -implicitDefEqProofs [c90,h,he,he',tkC]
theorem ev36 (s:Str) (t:Tk) (b:Bool) (h: ∀M,cl 90 [.str s] M=some (.tup [.agg (tkC t),.bool b],M)):
  pureA G false cl yl N c36 [.str s]=some (.bool (b&&decide (t.k=1)),none):=by
 simp only[tkC]at h;cases b with
 |false=>simp -implicitDefEqProofs [c36,h]
 |true=>
  by_cases hk:t.k=1
  ·simp -implicitDefEqProofs [c36,h,hk]
  ·have hk':(t.k==1)=false:=by simp[hk]
   simp -implicitDefEqProofs [c36,h,hk,hk']
end
theorem u8_inj {a b:UInt8} (h:[AV.int IntKind.u8 (a.toNat:Int)]=[AV.int IntKind.u8 (b.toNat:Int)]):a=b:=by
 simp only[List.cons.injEq,AV.int.injEq,true_and,and_true]at h;exact UInt8.toNat_inj.1 (by omega)
noncomputable abbrev spB (g:UInt8→Bool):List AV→Ores:=spR (fun c:UInt8=>[.int .u8 c.toNat]) (fun c=>(.bool (g c),none)) (fun _=>True)
theorem spB_at (g:UInt8→Bool) (c:UInt8):spB g [.int .u8 c.toNat]=some (.bool (g c),none):=spR_at (enc:=fun c:UInt8=>[.int .u8 c.toNat]) (F:=fun c=>(.bool (g c),none)) (ok:=fun _=>True) (fun _ _ h=>u8_inj h) (x:=c) trivial
noncomputable abbrev sp107:List AV→Ores:=spR (fun c:UInt8=>[.str mrkS,.int .u8 c.toNat]) (fun c=>(.int .i64 (idxL mrkS c),none)) (fun _=>True)
theorem sp141_at (c:UInt8):sp107 [.str mrkS,.int .u8 c.toNat]=some (.int .i64 (idxL mrkS c),none):=spR_at (enc:=fun c:UInt8=>[.str mrkS,.int .u8 c.toNat]) (F:=fun c=>(.int .i64 (idxL mrkS c),none)) (ok:=fun _=>True)
 (fun a b h=>u8_inj (by simpa using h)) (x:=c) trivial
section
variable {t:Nat}
noncomputable abbrev X0:List (Nat×(List AV→Ores)):=[(107,sp107),(106,spB isBlk),(108,spB isRun),(169,spB isLet),(170,spB isDig)]
theorem x0:OrcOK Tryz.prog (GG t) (orcOf X0):=by
 have hB: ∀{f:Nat} {g:UInt8→Bool},okB f g=true→ ∀ags r,spB g ags=some r→OrcAt Tryz.prog (GG t) f ags r:=by
  intro f g h ags r hr;obtain⟨c,rfl,-,rfl⟩:=spR_inv hr;exact orc_up (okB_at h c)
 refine orc_cons (orc_cons (orc_cons (orc_cons (orc_cons orc_nil (hB b170)) (hB b169)) (hB b108)) (hB b106)) ?_;intro ags r hr;obtain⟨c,rfl,-,rfl⟩:=spR_inv hr;exact orc_up (orc107 c)
def cutE (p:Str×Bool):List AV:=[.str p.1,.fn (if p.2 then 170 else 108) [] []]
def cutF (p:Str×Bool):AV×Option Arr:=(.int .i64 (cutN (if p.2 then isDig else isRun) p.1),none)
theorem cutE_inj (a b:Str×Bool) (h:cutE a=cutE b):a=b:=by
 obtain⟨a1,a2⟩:=a;obtain⟨b1,b2⟩:=b;simp only[cutE,List.cons.injEq,AV.str.injEq,AV.fn.injEq,and_true]at h;obtain⟨rfl,h2⟩:=h;cases a2<;>cases b2<;>simp_all
noncomputable abbrev X1:List (Nat×(List AV→Ores)):=(109,spR cutE cutF (fun p=>p.1.length<big))::X0
theorem x1:OrcOK Tryz.prog (GG t) (orcOf X1):=by
 refine orc_con _ _ _ ok109 (fun p hb=>?_) x0;obtain⟨s,b⟩:=p;refine⟨s.length+1,ev109 _ _ s hb (Nat.lt_succ_self _) fun c M=>?_⟩;cases b with
 |false=>
  have:orcOf X0 108 [.int .u8 c.toNat]=some (.bool (isRun c),none):=by
   rw[orcOf_other (by decide),orcOf_other (by decide),orcOf_self];exact spB_at _ c
  simp[spC,this]
 |true=>
  have:orcOf X0 170 [.int .u8 c.toNat]=some (.bool (isDig c),none):=by
   rw[orcOf_other (by decide),orcOf_other (by decide),orcOf_other (by decide),orcOf_other (by decide),orcOf_self];exact spB_at _ c
  simp[spC,this]
def puE (s:Str):List AV:=[.str s,.int .i64 10,.int .i64 31]
theorem puE_inj (a b:Str) (h:puE a=puE b):a=b:=by simpa[puE] using h
def digs (s:Str):Prop:=s≠[]∧s.all isDig=true∧s.length<big
def teE (s:Str):List AV:=[.str puS,.str s,.int .i64 10,.int .i64 31,.iface 296 (.int .i64 1)]
theorem teE_inj (a b:Str) (h:teE a=teE b):a=b:=by simpa[teE] using h
noncomputable abbrev X2:List (Nat×(List AV→Ores)):=(224,spR teE (fun _=>(errV,none)) (fun s=>s.length<big))::(223,spR puE (fun s=>(puV (puN 0 s),none)) digs)::X1
theorem x2:OrcOK Tryz.prog (GG t) (orcOf X2):=by
 refine orc_cons ?_ fun ags r hr=>?_
 ·exact orc_con _ _ _ ok223 (fun s hb=>⟨s.length+1,ev223 s hb.1 (fun c hc=>List.all_eq_true.1 hb.2.1 c hc) hb.2.2 (Nat.lt_succ_self _)⟩) x1
 ·obtain⟨s,rfl,hb,rfl⟩:=spR_inv hr;exact orc224 s hb
noncomputable abbrev X3:List (Nat×(List AV→Ores)):=(202,spR puE (fun s=>(puR (puN 0 s),none)) digs)::X2
theorem x3:OrcOK Tryz.prog (GG t) (orcOf X3):=by
 refine orc_con _ _ _ ok202 (fun s hb=>⟨1,ev202 s hb.2.2 (fun M=>?_) (fun M=>?_)⟩) x2
 ·have:orcOf X2 223 (puE s)=some (puV (puN 0 s),none):=by
   rw[orcOf_other (by decide),orcOf_self];exact spR_at (enc:=puE) (F:=fun s=>(puV (puN 0 s),none)) puE_inj hb
  unfold puE at this;cases hp:puN 0 s<;>simp[spC,this,puV,hp]
 ·have:orcOf X2 224 (teE s)=some (errV,none):=by
   rw[orcOf_self];exact spR_at (enc:=teE) (F:=fun _=>(errV,none)) teE_inj hb.2.2
  unfold teE at this;have e1:argL [.str puS,.str s,.int .i64 10,.int .i64 31,.iface 296 (.int .i64 1)]=some [.str puS,.str s,.int .i64 10,.int .i64 31,.iface 296 (.int .i64 1)]:=rfl;simp only[spC,e1,this];rfl
noncomputable abbrev X4:List (Nat×(List AV→Ores)):=(171,spR (fun s:Str=>[.str s]) (fun s=>(.tup [.int .i64 (numF s).1,.int .i64 (numF s).2],none)) (fun s=>s≠[]∧s.length<big))::X3
theorem str1_inj (a b:Str) (h:[AV.str a]=[AV.str b]):a=b:=by simpa using h
theorem x4:OrcOK Tryz.prog (GG t) (orcOf X4):=by
 refine orc_con _ _ _ ok171 (fun s hb=>⟨1,ev171 s hb.1 hb.2 (fun M=>?_) (fun hd M=>?_)⟩) x3
 ·have:orcOf X3 109 (cutE (s,true))=some (cutF (s,true)):=by
   rw[orcOf_other (by decide),orcOf_other (by decide),orcOf_other (by decide),orcOf_self];exact spR_at (enc:=cutE) (F:=cutF) (ok:=fun p=>p.1.length<big) cutE_inj (x:=(s,true)) hb.2
  simp only[cutE,cutF,if_true]at this;have e1:argL [.str s,.fn 170 [] []]=some [.str s,.fn 170 [] []]:=rfl;simp only[spC,e1,this];rfl
 ·have:orcOf X3 202 (puE s)=some (puR (puN 0 s),none):=by
   rw[orcOf_self];exact spR_at (enc:=puE) (F:=fun s=>(puR (puN 0 s),none)) puE_inj (ok:=digs) ⟨hb.1,hd,hb.2⟩
  unfold puE at this;cases hp:puN 0 s<;>simp[spC,this,puR,hp,errV,anyP]
end
end Go.Proofs.Ae
namespace Go.Proofs.Ae
open Go Go.RowKit
set_option maxRecDepth 100000
section
variable {t:Nat}
noncomputable def orcT (f:Nat) (ags:List AV):Ores:=match Nat.beq f 167,ags with
 |true,[]=>some (kws,none)
 |_,_=>orcOf X4 f ags
theorem oT:OrcOK Tryz.prog (GG t) orcT:=by
 intro f ags r h;unfold orcT at h;split at h
 ·rename_i hb
  have:=Nat.eq_of_beq_eq_true hb;subst this;cases h;exact orc167
 ·exact x4 _ _ _ h
noncomputable def TT:Table:=⟨fns,orcT,mutv⟩
theorem orcT_of {f:Nat} (h:f≠167) (ags:List AV):orcT f ags=orcOf X4 f ags:=by
 unfold orcT;have:Nat.beq f 167=false:=by
  cases hb:Nat.beq f 167 with
  |false=>rfl
  |true=>exact absurd (Nat.eq_of_beq_eq_true hb) h
 rw[this]
noncomputable abbrev BT (t N k:Nat):Caller:=(both (GG t) TT N false (k+1)).1
theorem bt_orc {N k f:Nat} (h:f≠167) {ags:List AV} {r:AV×Option Arr} (hr:orcOf X4 f ags=some r) (M:Mem):BT t N k f ags M=takeV false r M:=by
 have:orcT f ags=some r:=by rw[orcT_of h,hr]
 simp only[BT,both,TT,this]
theorem run139 (N k:Nat):BT t (N+100) (k+1) 105 [] ⟨[.cells [.int .i64 0,.int .i64 0]],[]⟩=some (.map 1,⟨[.cells [.int .i64 0,.int .i64 0],.map kwM],[]⟩):=by kernel_rfl
theorem bt_fns (k:Nat) {N f:Nat} (h:f≠167) {ags:List AV} (hr:orcOf X4 f ags=none) {cf:CFn} (hf:fns f=some cf) (hm:mutv f=false) (M:Mem):
  BT t N (k+1) f ags M=if cf.pure&&(argL ags).isSome then(match pureA (GG t) false (BT t N k) (both (GG t) TT N false (k+1)).2 N cf ags with
   |some r=>takeP false r M
   |none=>none)else callA (GG t) false (BT t N k) (both (GG t) TT N false (k+1)).2 N cf ags M:=by
 have h1:TT.orc f ags=none:=by show orcT f ags=none;rw[orcT_of h,hr]
 have h2:TT.fns f=some cf:=hf;have h3:TT.mutf f=false:=hm;unfold BT;rw[both];simp only[h1,h2,h3,Bool.false_and,Bool.not_false,Bool.and_true];rfl
theorem q140 (c:UInt8):orcOf X4 106 [.int .u8 c.toNat]=some (.bool (isBlk c),none):=by
 repeat rw[orcOf_other (by decide)]
 rw[orcOf_self];exact spB_at _ c
theorem q142 (c:UInt8):orcOf X4 108 [.int .u8 c.toNat]=some (.bool (isRun c),none):=by
 repeat rw[orcOf_other (by decide)]
 rw[orcOf_self];exact spB_at _ c
theorem q158 (c:UInt8):orcOf X4 169 [.int .u8 c.toNat]=some (.bool (isLet c),none):=by
 repeat rw[orcOf_other (by decide)]
 rw[orcOf_self];exact spB_at _ c
theorem q159 (c:UInt8):orcOf X4 170 [.int .u8 c.toNat]=some (.bool (isDig c),none):=by
 repeat rw[orcOf_other (by decide)]
 rw[orcOf_self];exact spB_at _ c
theorem q141 (c:UInt8):orcOf X4 107 [.str mrkS,.int .u8 c.toNat]=some (.int .i64 (idxL mrkS c),none):=by
 repeat rw[orcOf_other (by decide)]
 rw[orcOf_self];exact sp141_at c
theorem q143 (s:Str) (hs:s.length<big):orcOf X4 109 [.str s,.fn 108 [] []]=some (.int .i64 (cutN isRun s),none):=by
 repeat rw[orcOf_other (by decide)]
 rw[orcOf_self];exact spR_at (enc:=cutE) (F:=cutF) (ok:=fun p=>p.1.length<big) cutE_inj (x:=(s,false)) hs
theorem q160 (s:Str) (h0:s≠[]) (hs:s.length<big):orcOf X4 171 [.str s]=some (.tup [.int .i64 (numF s).1,.int .i64 (numF s).2],none):=by
 rw[orcOf_self];exact spR_at (enc:=fun s:Str=>[.str s]) (F:=fun s=>(.tup [.int .i64 (numF s).1,.int .i64 (numF s).2],none)) (ok:=fun s=>s≠[]∧s.length<big) str1_inj (x:=s) ⟨h0,hs⟩
theorem lexC (N k:Nat):LexC (BT t (N+100) (k+1)) where
 h139:=run139 N k
 h140:=fun c M=>bt_orc (f:=106) (by decide) (q140 c) M
 h141:=fun c M=>bt_orc (f:=107) (by decide) (q141 c) M
 h142:=fun c M=>bt_orc (f:=108) (by decide) (q142 c) M
 h143:=fun s M hs=>bt_orc (f:=109) (by decide) (q143 s (by unfold big;omega)) M
 h144:=fun s M h0 hs hM hM2=>by
  rw[bt_fns (f:=110) k (by decide) (cf:=c110) (by simp[orcOf]) rfl rfl];have:(c110.pure&&(argL [AV.str s,AV.map 1]).isSome)=false:=rfl;rw[this];simp only[Bool.false_eq_true,if_false];exact ev110 s M h0 hM hM2 (fun c M=>bt_orc (f:=170) (by decide) (q159 c) M) (fun c M=>bt_orc (f:=169) (by decide) (q158 c) M) (fun M=>bt_orc (f:=171) (by decide) (q160 s h0 (by unfold big;omega)) M)
theorem orc36 (s:Str):OrcAt Tryz.prog (GG t) 36 [.str s] (.bool (isId s),none):=by
 refine orc_both (T:=TT) hmix kis tabOK ok36 oT ⟨s.length+100,4,false,?_⟩;obtain⟨l,p1,p2,e,h1,h2,hl⟩:=ev54 (G:=GG t) (yl:=(both (GG t) TT (s.length+100) false 2).2) (N:=s.length+100) (lexC (t:=t) s.length 0) s (by omega);have h109: ∀M,BT t (s.length+100) 2 54 [.str s] M=some (.tup [.slc .shared (l.map tkv),.agg [.int .i64 p1,.int .i64 p2],.int .i64 e],M):=by
  intro M;rw[bt_fns (f:=54) 1 (by decide) (cf:=c54) (by simp[orcOf]) rfl rfl,h1];rfl
 have h151: ∀M,BT t (s.length+100) 3 90 [.str s] M=some (.tup [.agg (tkC (oneF s l e).1),.bool (oneF s l e).2],M):=by
  intro M;have:=ev90 (G:=GG t) (cl:=BT t (s.length+100) 2) (yl:=(both (GG t) TT (s.length+100) false 3).2) (N:=s.length+100) s l p1 p2 e (by unfold big;omega) h109;rw[bt_fns (f:=90) 2 (by decide) (cf:=c90) (by simp[orcOf]) rfl rfl,this];rfl
 rw[←h2,←oneF_id];exact ev36 (G:=GG t) (cl:=BT t (s.length+100) 3) s _ _ h151
end
end Go.Proofs.Ae
namespace Go.Proofs.Ae
open Go Go.RowKit
theorem twa_get {α:Type} {g:α→Bool}: ∀{s:List α} {i:Nat} {x:α},(s.takeWhile g)[i]? =some x→s[i]? =some x∧g x=true
 |[],i,x,h=>by simp at h
 |c::s,i,x,h=>by
  rw[List.takeWhile_cons]at h;split at h
  ·cases i with
   |zero=>simp at h;subst h;exact⟨rfl,by assumption⟩
   |succ i=>simp at h;simpa using twa_get h
  ·simp at h
theorem twa_end {α:Type} {g:α→Bool}: ∀(s:List α),(s.takeWhile g).length=s.length∨ ∃y,s[(s.takeWhile g).length]? =some y∧g y=false
 |[]=>.inl rfl
 |c::s=>by
  rw[List.takeWhile_cons];cases h:g c with
  |true=>
   rcases twa_end (g:=g) s with k|⟨y,k1,k2⟩
   ·exact .inl (by simp[k])
   ·exact .inr ⟨y,by simpa using k1,k2⟩
  |false=>exact .inr ⟨c,by simp,h⟩
theorem twa_le {α:Type} (g:α→Bool): ∀s:List α,(s.takeWhile g).length≤s.length
 |[]=>Nat.le_refl _
 |c::s=>by
  rw[List.takeWhile_cons];have:=twa_le g s;split<;>simp<;>omega
theorem twa_all {α:Type} {g:α→Bool}: ∀(s:List α),(s.takeWhile g).length=s.length↔s.all g=true
 |[]=>by simp
 |c::s=>by
  rw[List.takeWhile_cons];cases h:g c with
  |true=>simpa[h] using twa_all (g:=g) s
  |false=>simp[h]
def firstN {α:Type} (g:α→Bool) (l:List α):Int:=if(l.takeWhile g).length=l.length then -1 else((l.takeWhile g).length:Int)
section
variable {G:Nat→Option AV} {cl:Caller} {yl:Nat→List AV→Mem→Option (AV×Mem)} {N:Nat}
theorem ev196 (s:Str) (h: ∀M,cl 36 [.str s] M=some (.bool (isId s),M)):pureA G false cl yl N c196 [.str s]=some (.bool (!isId s),none):=by
 simp -implicitDefEqProofs [c196,h]
theorem ev220 (l:List Str) (hl:l.length<big) (hN:l.length<N) (h: ∀s M,cl 196 [.str s] M=some (.bool (!isId s),M)):
  pureA G false cl yl N c220 [.slc .shared (l.map .str),.fn 196 [] []]=some (.int .i64 (firstN isId l),none):=by
 unfold big at hl;have hle:=twa_le isId l;obtain⟨e,⟨ts,M,mks⟩,h1,h2,rfl,rfl,h5⟩:=iter_while (mu:=false) (step:=evalC G false cl yl N c220b0) (an:=⟨[0,1,7,8],[(8,none)],false⟩) (kk:=0) (m:=0)
  (fun k st=> ∃i,i≤(l.takeWhile isId).length∧k=(l.takeWhile isId).length - i∧st=⟨[(0,.slc .shared (l.map .str)),(1,.fn 196 [] []),(7,.int .i64 l.length),(8,.int .i64 (i:Nat))],⟨[],[]⟩,[]⟩)
  (fun e s'=>s'.m=⟨[],[]⟩∧s'.mks=[]∧((e=.exit 0∧(l.takeWhile isId).length=l.length)∨(e=.ret∧ ¬(l.takeWhile isId).length=l.length∧look 4 s'.ts=.int .i64 (l.takeWhile isId).length)))
  (by
   rintro k _ ⟨i,hi,rfl,rfl⟩;by_cases hlt:i<(l.takeWhile isId).length
   ·obtain⟨hx,hg⟩:=twa_get (List.getElem?_eq_getElem hlt);generalize(l.takeWhile isId)[i]=x at hx hg;obtain⟨hil,hx'⟩:=List.getElem?_eq_some_iff.1 hx;have w1:wrapF .i64 ((i:Int)+1)=((i+1:Nat):Int):=wrap_succ (by omega);have hp:(0:Int)≤(i:Int):=by omega
    simp -implicitDefEqProofs [c220b0,hil,hx',h,hg,w1,hp];exact⟨_,by omega,i+1,by omega,rfl,by simp⟩
   ·have hi':i=(l.takeWhile isId).length:=by omega
    rcases twa_end (g:=isId) l with k|⟨y,k1,k2⟩
    ·have hil: ¬i<l.length:=by omega
     simp -implicitDefEqProofs [c220b0,hil,hi',k]
    ·obtain⟨hil,hx'⟩:=List.getElem?_eq_some_iff.1 k1;have hp:(0:Int)≤((l.takeWhile isId).length:Int):=by omega
     have hne: ¬(l.takeWhile isId).length=l.length:=by omega
     subst hi';generalize(l.takeWhile isId).length=i at*;simp -implicitDefEqProofs [c220b0,hil,hx',hp,h,k2,hne])
  N _ _ ⟨0,by omega,rfl,rfl⟩ (by omega)
 rw[show((0:Nat):Int)=0 from rfl]at h1;rcases h5 with⟨rfl,h5⟩|⟨rfl,h5,h6⟩
 ·have:firstN isId l= -1:=by unfold firstN;rw[if_pos h5]
  rw[this];simp -implicitDefEqProofs [c220,h1]
 ·have:firstN isId l=(l.takeWhile isId).length:=by unfold firstN;rw[if_neg h5]
  rw[this];simp only[]at h6;simp -implicitDefEqProofs [c220,h1,h6]
theorem ev195 (l:List Str) (h: ∀M,cl 220 [.slc .shared (l.map .str),.fn 196 [] []] M=some (.int .i64 (firstN isId l),M)):
  pureA G false cl yl N c195 [.slc .shared (l.map .str),.fn 196 [] []]=some (.bool (!l.all isId),none):=by
 by_cases hall:l.all isId=true
 ·have:firstN isId l= -1:=by unfold firstN;rw[if_pos ((twa_all l).2 hall)]
  rw[this]at h;simp -implicitDefEqProofs [c195,h,hall]
 ·have hne: ¬(l.takeWhile isId).length=l.length:=fun hh=>hall ((twa_all l).1 hh);have:firstN isId l=(l.takeWhile isId).length:=by unfold firstN;rw[if_neg hne]
  rw[this]at h;have hall':l.all isId=false:=by simpa using hall
  have hp:(0:Int)≤((l.takeWhile isId).length:Int):=by omega
  simp only[hall'];simp -implicitDefEqProofs [c195,h,hp]
def fA (op:Int):Int:=match op with
 |2|3|4|5|6=>2
 |7|8|9|10|16|17=>1
 |_=>0
def fB (op:Int):Int:=match op with
 |2|3|4|5|6=>2
 |7|8|9|16|17=>1
 |10=>17
 |_=>0
def fC (op:Int):Int:=match op with
 |11|16|17=>1
 |12|13|14|15=>2
 |_=>0
def fD (op:Int):Bool:=match op with
 |16|17=>true
 |_=>false
def frmC (op:Int):List AV:=[.int .i64 (fA op),.int .i64 (fB op),.int .i64 (fC op),.bool (fD op)]
theorem frm_at (t:Nat) (op:Int) (h0:0≤op) (h1:op<18): ∃L,GG t 3=some (.agg L)∧L.length=72∧(L.drop (op.toNat*4)).take 4=frmC op:=by
 refine⟨_,rfl,rfl,?_⟩;have:op=0∨op=1∨op=2∨op=3∨op=4∨op=5∨op=6∨op=7∨op=8∨op=9∨op=10∨op=11∨op=12∨op=13∨op=14∨op=15∨op=16∨op=17:=by omega
 rcases this with rfl|rfl|rfl|rfl|rfl|rfl|rfl|rfl|rfl|rfl|rfl|rfl|rfl|rfl|rfl|rfl|rfl|rfl<;>rfl
end
section
variable {G:Nat→Option AV} {cl:Caller} {yl:Nat→List AV→Mem→Option (AV×Mem)} {N:Nat} {t:Nat}
def hasF (n:Nd):Bool:=!decide ((n.ns.length:Int)<fA n.op)&&!decide ((n.ns.length:Int)>fB n.op)&&decide ((n.l.length:Int)=fC n.op)&&n.ns.all isId&&
 (fD n.op||n.so==0)&&(n.op==7||n.op==8||n.nn==0)&&(n.op==8||n.mm==0)
theorem ev154 (n:Nd) (h0:0≤n.op) (h1:n.op<18) (h: ∀M,cl 195 [.slc .shared (n.ns.map .str),.fn 196 [] []] M=some (.bool (!n.ns.all isId),M)):
  pureA (GG t) false cl yl N c154 [av n]=some (.bool (hasF n),none):=by
 obtain⟨L,hL,hL2,hL3⟩:=frm_at t n.op h0 h1;have hlen:n.op.toNat*4+4≤L.length:=by omega
 unfold frmC at hL3;unfold hasF;generalize fA n.op=a at*;generalize fB n.op=b at*;generalize fC n.op=c at*;generalize fD n.op=d at*;by_cases c1:(n.ns.length:Int)<a
 ·simp -implicitDefEqProofs [c154,hL,h0,h1,hlen,hL3,c1]
 ·by_cases c2:(n.ns.length:Int)>b
  ·have c2':b<(n.ns.length:Int):=c2;simp -implicitDefEqProofs [c154,hL,h0,h1,hlen,hL3,c1,c2']
  ·have c2': ¬b<(n.ns.length:Int):=c2;by_cases c3:(n.l.length:Int)=c
   ·cases c4:n.ns.all isId with
    |false=>
     rw[c4]at h;simp -implicitDefEqProofs [c154,hL,h0,h1,hlen,hL3,c1,c2',c3,h]
    |true=>
     rw[c4]at h;have big: ∀(b7 b8 bs bn bm:Bool),(n.op==7)=b7→(n.op==8)=b8→(n.so==0)=bs→(n.nn==0)=bn→(n.mm==0)=bm→
       pureA (GG t) false cl yl N c154 [av n]=some (.bool ((d||bs)&&(b7||b8||bn)&&(b8||bm)),none):=by
      intro b7 b8 bs bn bm h7 h8 hs hn hm;cases d with
      |true=>
       cases b7 with
       |true=>
        cases b8 with
        |true=>simp -implicitDefEqProofs [c154,hL,h0,h1,hlen,hL3,c1,c2',c3,h,h7,h8,hs,hn,hm]
        |false=>cases bm<;>simp -implicitDefEqProofs [c154,hL,h0,h1,hlen,hL3,c1,c2',c3,h,h7,h8,hs,hn,hm]
       |false=>
        cases b8 with
        |true=>simp -implicitDefEqProofs [c154,hL,h0,h1,hlen,hL3,c1,c2',c3,h,h7,h8,hs,hn,hm]
        |false=>
         cases bn with
         |false=>simp -implicitDefEqProofs [c154,hL,h0,h1,hlen,hL3,c1,c2',c3,h,h7,h8,hs,hn,hm]
         |true=>cases bm<;>simp -implicitDefEqProofs [c154,hL,h0,h1,hlen,hL3,c1,c2',c3,h,h7,h8,hs,hn,hm]
      |false=>
       cases bs with
       |false=>simp -implicitDefEqProofs [c154,hL,h0,h1,hlen,hL3,c1,c2',c3,h,h7,h8,hs,hn,hm]
       |true=>
        cases b7 with
        |true=>
         cases b8 with
         |true=>simp -implicitDefEqProofs [c154,hL,h0,h1,hlen,hL3,c1,c2',c3,h,h7,h8,hs,hn,hm]
         |false=>cases bm<;>simp -implicitDefEqProofs [c154,hL,h0,h1,hlen,hL3,c1,c2',c3,h,h7,h8,hs,hn,hm]
        |false=>
         cases b8 with
         |true=>simp -implicitDefEqProofs [c154,hL,h0,h1,hlen,hL3,c1,c2',c3,h,h7,h8,hs,hn,hm]
         |false=>
          cases bn with
          |false=>simp -implicitDefEqProofs [c154,hL,h0,h1,hlen,hL3,c1,c2',c3,h,h7,h8,hs,hn,hm]
          |true=>cases bm<;>simp -implicitDefEqProofs [c154,hL,h0,h1,hlen,hL3,c1,c2',c3,h,h7,h8,hs,hn,hm]
     rw[big _ _ _ _ _ rfl rfl rfl rfl rfl];simp[c1,c2',c3]
   ·have c3':((n.l.length:Int) !=c)=true:=by simp[c3]
    simp -implicitDefEqProofs [c154,hL,h0,h1,hlen,hL3,c1,c2',c3,c3']
end
end Go.Proofs.Ae
