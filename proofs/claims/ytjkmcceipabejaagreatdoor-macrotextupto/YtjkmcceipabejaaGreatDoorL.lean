/- The lexer: what single functions answer for every input. -/
import Derived.Test.YtjkmcceipabejaaGreatDoorG
import Derived.Shelf.Pu.ToErrorRange
import Derived.Test.YtjkmcceipabejaaGreatDoorProg
set_option linter.unusedSimpArgs false
set_option linter.unusedVariables false
set_option linter.unusedSectionVars false
namespace Go.Proofs.Ae
open Go Go.RowKit
set_option maxRecDepth 1000000
def gm (c:UInt8):Bool:=(97<=c&&c<=122)||(65<=c&&c<=90)
def ed (c:UInt8):Bool:=48<=c&&c<=57
def de (c:UInt8):Bool:=gm c||ed c||c==39
def fq (c:UInt8):Bool:=c==9||c==10||c==13||c==32
def ft (c:UInt8):Bool:=c==61||c==40||c==41||c==44||c==58||c==59
def gJ:Str:=[61,40,41,44,58,59]
def TZ:lK:=⟨fns,fun _ _=>none,lp⟩
theorem oZ {G:Gls}:dP Tryz.prog G TZ.orc:=fun f ags r h=>by cases h
def okB (f:Nat) (g:UInt8->Bool):Bool:=(List.range 256).all fun i=>oQ (eY Gv TZ 1000 false 50).1 f [.int .u8 (i:Nat)] (.bool (g (UInt8.ofNat i)))
theorem KL:okB 169 gm=true:=by kernel_rfl
theorem KM:okB 170 ed=true:=by kernel_rfl
theorem KN:okB 108 de=true:=by kernel_rfl
theorem KO:okB 106 fq=true:=by kernel_rfl
theorem KP:okB 117 de=true:=by kernel_rfl
theorem KQ:okB 148 ed=true:=by kernel_rfl
theorem KR:okB 150 gm=true:=by kernel_rfl
def iQ (l:Str) (c:UInt8):Int:=match l.idxOf? c with
 |some i=>(i:Int)
 |none=> -1
theorem KS:((List.range 256).all fun i=>oQ (eY Gv TZ 1000 false 50).1 107 [.str gJ,.int .u8 (i:Nat)] (.int .i64 (iQ gJ (UInt8.ofNat i))))=true:=by kernel_rfl
theorem xi {f:Nat} {g:UInt8->Bool} (h:okB f g=true) (c:UInt8):eX Tryz.prog Gv f [.int .u8 c.toNat] (.bool (g c),none):=by
 have:=List.all_eq_true.1 h c.toNat (List.mem_range.2 c.toNat_lt);rw[UInt8.ofNat_toNat]at this;exact fun U bs es w args hG hV hfr=>sU (je (T:=TZ) (N:=1000) fp kis dz oZ 50 false).1 (sT this) rfl hG hV hfr
theorem KU (c:UInt8):eX Tryz.prog Gv 107 [.str gJ,.int .u8 c.toNat] (.int .i64 (iQ gJ c),none):=by
 have:=List.all_eq_true.1 KS c.toNat (List.mem_range.2 c.toNat_lt);rw[UInt8.ofNat_toNat]at this;exact fun U bs es w args hG hV hfr=>sU (je (T:=TZ) (N:=1000) fp kis dz oZ 50 false).1 (sT this) rfl hG hV hfr
section
variable {G:Gls} {cl:a7} {N:Nat}
def dE (g:UInt8->Bool) (s:Str):Nat:=(s.takeWhile g).length
theorem um {g:UInt8->Bool}: ∀{s:Str} {i:Nat} {x:UInt8},(s.takeWhile g)[i]? =some x->s[i]? =some x/\g x=true
 |[],i,x,h=>by simp at h
 |c::s,i,x,h=>by
  rw[List.takeWhile_cons]at h;split at h
  ·cases i with
   |zero=>simp at h;subst h;exact⟨rfl,by assumption⟩
   |succ i=>simp at h;simpa using um h
  ·simp at h
theorem uo {g:UInt8->Bool}: ∀(s:Str),(s.takeWhile g).length=s.length\/ ∃y,s[(s.takeWhile g).length]? =some y/\g y=false
 |[]=>.inl rfl
 |c::s=>by
  rw[List.takeWhile_cons];cases h:g c with
  |true=>
   rcases uo (g:=g) s with k|⟨y,k1,k2⟩
   ·exact .inl (by simp[k])
   ·exact .inr ⟨y,by simpa using k1,k2⟩
  |false=>exact .inr ⟨c,by simp,h⟩
theorem lr (g:UInt8->Bool): ∀s:Str,(s.takeWhile g).length<=s.length
 |[]=>Nat.le_refl _
 |c::s=>by
  rw[List.takeWhile_cons];have:=lr g s;split<;>simp<;>omega
end
end Go.Proofs.Ae
namespace Go.Proofs.Ae
open Go Go.RowKit
theorem jp {mu:Bool} {step:St->Option (Ex×St)} {an:Ann} {kk m:Nat} (I:Nat->St->Prop) (Q:Ex->St->Prop)
  (h: ∀k s,I k s->fk (fun e s'=>(e=.normal/\ ∃k',k'<k/\I k' (eI mu an kk m s'))\/(e≠ .normal/\Q e s')) (step s)):
  ∀(N k:Nat) (s:St),I k s->k<N-> ∃e s',dh mu step an kk m N s=some (e,s')/\e≠ .normal/\Q e s':=by
 intro N
 induction N with
 |zero=>intro k s _ h;omega
 |succ N ih=>
  intro k s hI hk;obtain⟨e,s',h1,h2⟩:=(h k s hI).out;simp only[dh,h1];rcases h2 with⟨rfl,k',hk',hI'⟩|⟨he,hQ⟩
  ·obtain⟨e2,s2,k1,k2,k3⟩:=ih k' _ hI' (by omega);exact⟨e2,s2,k1,k2,k3⟩
  ·refine⟨e,s',?_,he,hQ⟩;cases e<;>first|exact absurd rfl he|rfl
section
variable {G:Gls} {cl:a7} {N:Nat}
theorem KV (g:UInt8->Bool) (f:Nat) (s:Str) (hs:s.length<big) (hN:s.length<N) (hc: ∀(c:UInt8) M,cl f [.int .u8 c.toNat] M=some (.bool (g c),M)):
  dn G false cl eW N wB [.str s,.fn f [] []]=some (.int .i64 (dE g s),none):=by
 unfold big at hs;have hle:=lr g s;obtain⟨e,⟨ts,M,mks⟩,h1,h2,rfl,rfl,rfl,h5⟩:=jp (mu:=false) (step:=a8 G false cl eW N qN) (an:=⟨[0,1,5],[(5,none)],false⟩) (kk:=0) (m:=0)
  (fun k st=> ∃i,i<=(s.takeWhile g).length/\k=(s.takeWhile g).length - i/\st=⟨[(0,.str s),(1,.fn f [] []),(5,.int .i64 (i:Nat))],⟨[],[]⟩,[]⟩)
  (fun e s'=>e=.exit 0/\s'.m=⟨[],[]⟩/\s'.mks=[]/\look 5 s'.ts=.int .i64 (dE g s))
  (by
   rintro k _ ⟨i,hi,rfl,rfl⟩;by_cases hlt:i<(s.takeWhile g).length
   ·obtain⟨hx,hg⟩:=um (List.getElem?_eq_getElem hlt);generalize(s.takeWhile g)[i]=x at hx hg;obtain⟨hil,hx'⟩:=List.getElem?_eq_some_iff.1 hx;have w1:dj .i64 ((i:Int)+1)=((i+1:Nat):Int):=dF (by omega);have hp:(0:Int)<=(i:Int):=by omega
    simp -implicitDefEqProofs [qN,hil,hx',hc,hg,w1,hp];exact⟨_,by omega,i+1,by omega,rfl,by simp⟩
   ·have hi':i=(s.takeWhile g).length:=by omega
    rcases uo (g:=g) s with k|⟨y,k1,k2⟩
    ·have hil: ¬i<s.length:=by omega
     simp -implicitDefEqProofs [qN,hil,dE,hi',k]
    ·obtain⟨hil,hx'⟩:=List.getElem?_eq_some_iff.1 k1;have hp:(0:Int)<=((s.takeWhile g).length:Int):=by omega
     simp -implicitDefEqProofs [qN,hil,hx',hi',hp,hc,k2,dE])
  N _ _ ⟨0,by omega,rfl,rfl⟩ (by omega)
 rw[show((0:Nat):Int)=0 from rfl]at h1;simp only[]at h5;simp -implicitDefEqProofs [wB,h1,h5]
end
theorem nN {n:Int} (h1:0<=n) (h2:n<=18446744073709551615):dj .u64 n=n:=by
 have:n%18446744073709551616=n:=Int.emod_eq_of_lt h1 (by omega);simp only[dj,IntKind.wrap,IntKind.bits,IntKind.signed,Bool.false_and,Bool.false_eq_true,if_false];exact this
theorem xj {n:Int} (h1:0<=n) (h2:n<=255):dj .u8 n=n:=by
 have:n%256=n:=Int.emod_eq_of_lt h1 (by omega);simp only[dj,IntKind.wrap,IntKind.bits,IntKind.signed,Bool.false_and,Bool.false_eq_true,if_false];exact this
def puN:Nat->Str->Option Nat
 |n,[]=>some n
 |n,c::s=>if n*10+(c.toNat - 48)<=2147483647 then puN (n*10+(c.toNat - 48)) s else none
def puV:Option Nat->AV
 |some n=>.tup [.int .u64 n,.nili]
 |none=>.tup [.int .u64 2147483647,.iface 296 (.int .i64 1)]
section
variable {G:Gls} {cl:a7} {N:Nat}
def pP (s:Str) (n i:Nat):dx:=[(1,.int .i64 10),(8,.bool false),(9,.str s),(10,.int .u64 1844674407370955162),(11,.int .u64 2147483647),(12,.bool false),(13,.int .u64 n),(99,.slc .shared (s.map fun b=>.int .u8 b.toNat)),(100,.int .i64 s.length),(101,.int .i64 i)]
theorem KW (s:Str) (h0:s≠[]) (hd: ∀c∈s,ed c=true) (hs:s.length<big) (hN:s.length<N):
  dn G false cl eW N tS [.str s,.int .i64 10,.int .i64 31]=some (puV (puN 0 s),none):=by
 unfold big at hs;obtain⟨e,⟨ts,M,mks⟩,h1,h2,rfl,rfl,h5⟩:=jp (mu:=false) (step:=a8 G false cl eW N ra) (an:=⟨[1,8,9,10,11,12,13,99,100,101],[(12,none),(13,none),(101,none)],true⟩) (kk:=0) (m:=0)
  (fun k st=> ∃i n,i<=s.length/\k=s.length - i/\n<=2147483647/\puN n (s.drop i)=puN 0 s/\st=⟨pP s n i,⟨[],[]⟩,[]⟩)
  (fun e s'=>s'.m=⟨[],[]⟩/\s'.mks=[]/\match puN 0 s with
   |some n=>e=.exit 3/\look 12 s'.ts=.bool false/\look 13 s'.ts=.int .u64 n
   |none=>e=.ret/\look 6 s'.ts=.int .u64 2147483647/\look 7 s'.ts=.iface 296 (.int .i64 1))
  (by
   rintro k _ ⟨i,n,hi,rfl,hn,hp,rfl⟩;by_cases hlt:i<s.length
   ·have hx':s[i]=s[i]:=rfl;generalize hxx:s[i]=x at hx';clear hx';have hdx:=hd x (hxx▸List.getElem_mem hlt);simp only[ed,Bool.and_eq_true,decide_eq_true_eq,UInt8.le_iff_toNat_le]at hdx;have hb1:48<=x.toNat:=hdx.1;have hb2:x.toNat<=57:=hdx.2;have hdrop:s.drop i=x::s.drop (i+1):=by rw[<-hxx];exact List.drop_eq_getElem_cons hlt
    rw[hdrop,puN]at hp;have hp0:(0:Int)<=(i:Int):=by omega
    have w1:dj .i64 ((i:Int)+1)=((i+1:Nat):Int):=dF (by omega);have w2:dj .u8 ((x.toNat:Int) - 48)=((x.toNat - 48:Nat):Int):=by rw[xj (by omega) (by omega)];omega
    have w3:dj .u8 10=10:=xj (by omega) (by omega);have w4:dj .u64 10=10:=nN (by omega) (by omega);have w5:dj .u64 ((n:Int)*10)=((n*10:Nat):Int):=by rw[nN (by omega) (by omega)];omega
    have w6:dj .u64 ((x.toNat - 48:Nat):Int)=((x.toNat - 48:Nat):Int):=by rw[nN (by omega) (by omega)]
    have w7:dj .u64 (((n*10:Nat):Int)+((x.toNat - 48:Nat):Int))=((n*10+(x.toNat - 48):Nat):Int):=by rw[nN (by omega) (by omega)];omega
    have c1:decide ((i:Int)<(s.length:Int))=true:=by simpa using hlt
    have c2:(((x.toNat:Nat):Int)==95)=false:=by simp;omega
    have c3:decide ((48:Int)<=(x.toNat:Int))=true:=by simp;omega
    have c4:decide ((x.toNat:Int)<=57)=true:=by simp;omega
    have c5:decide (((x.toNat - 48:Nat):Int)>=10)=false:=by simp;omega
    have c6:decide ((n:Int)>=1844674407370955162)=false:=by simp;omega
    have c7:decide (((n*10+(x.toNat - 48):Nat):Int)<((n*10:Nat):Int))=false:=by simp only[decide_eq_false_iff_not];omega
    have d1: ¬n*10+(x.toNat - 48)<n*10:=by omega
    have d2: ¬(10:Int)<=((x.toNat - 48:Nat):Int):=by omega
    have d3: ¬10<=x.toNat - 48:=by omega
    have d4: ¬(1844674407370955162:Int)<=(n:Int):=by omega
    have d5: ¬1844674407370955162<=n:=by omega
    have d6: ¬(((x.toNat:Nat):Int)=95):=by omega
    have d7:(48:Int)<=(x.toNat:Int):=by omega
    have d8:(x.toNat:Int)<=57:=by omega
    by_cases hov:n*10+(x.toNat - 48)<=2147483647
    ·have d9: ¬2147483647<n*10+(x.toNat - 48):=by omega
     have d10: ¬(2147483647:Int)<((n*10+(x.toNat - 48):Nat):Int):=by omega
     rw[if_pos hov]at hp;generalize n*10+(x.toNat - 48)=n2 at*;generalize n*10=n1 at*;generalize x.toNat - 48=d at*;simp -implicitDefEqProofs [ra,pP,hlt,hxx,hp0,w1,w2,w3,w4,w5,w6,w7,c2,d1,d2,d3,d4,d5,d6,d7,d8,d9,d10,hb1,hb2];exact⟨s.length - (i+1),by omega,i+1,by omega,rfl,n2,by omega,hp,by simp⟩
    ·have d9:2147483647<n*10+(x.toNat - 48):=by omega
     have d10:(2147483647:Int)<((n*10+(x.toNat - 48):Nat):Int):=by omega
     rw[if_neg hov]at hp;rw[<-hp];generalize n*10+(x.toNat - 48)=n2 at*;generalize n*10=n1 at*;generalize x.toNat - 48=d at*;simp -implicitDefEqProofs [ra,pP,hlt,hxx,hp0,w1,w2,w3,w4,w5,w6,w7,c2,d1,d2,d3,d4,d5,d6,d7,d8,d9,d10,hb1,hb2]
   ·have hi':i=s.length:=by omega
    subst hi';rw[List.drop_length,puN]at hp;rw[<-hp];simp -implicitDefEqProofs [ra,pP])
  N _ _ ⟨0,0,by omega,rfl,by omega,rfl,rfl⟩ (by omega)
 have z1:dj .u64 31=31:=nN (by omega) (by omega);have z2:dj .u64 2147483648=2147483648:=nN (by omega) (by omega);have z3:dj .u64 2147483647=2147483647:=nN (by omega) (by omega);have hse:dB .eql s []=some (.bool false):=by
  cases s with
  |nil=>exact absurd rfl h0
  |cons c s=>rfl
 have hsh:qg .shl .u64 1 31=some (.int .u64 2147483648):=rfl;cases hpu:puN 0 s with
 |none=>
  rw[hpu]at h5;obtain⟨rfl,h6,h7⟩:=h5;simp only[]at h6 h7;simp[pP]at h1;simp -implicitDefEqProofs [tS,hse,hsh,h1,h6,h7,z1,z2,z3,puV];rfl
 |some n=>
  rw[hpu]at h5;obtain⟨rfl,h6,h7⟩:=h5;simp only[]at h6 h7;simp[pP]at h1;simp -implicitDefEqProofs [tS,hse,hsh,h1,h6,h7,z1,z2,z3,puV];rfl
end
end Go.Proofs.Ae
namespace Go.Proofs
open Go.Shelf
def Tryz.laysPu17_ren:Go.Shelf.Ren:=⟨fun|17=>224|21=>233|22=>234|23=>235|24=>236|25=>258|27=>179|26=>259|28=>210|29=>226|30=>238|31=>239|32=>240|33=>241|35=>190|34=>261|36=>262|37=>263|38=>264|39=>268|40=>269|n=>n,fun|9=>9|3=>3|24=>107|34=>296|4=>4|39=>298|44=>322|37=>101|0=>0|47=>182|50=>332|48=>330|2=>2|52=>301|22=>253|5=>5|55=>303|59=>326|60=>251|20=>20|61=>327|36=>207|65=>334|66=>335|67=>112|n=>n,fun|0=>8|1=>9|2=>10|3=>11|4=>12|n=>n⟩
theorem Tryz.laysPu17:Go.Proofs.LaysPu.n17 Tryz.prog Tryz.laysPu17_ren:={
 mixed:=by kernel_rfl
 f17:=Tryz.func224.trans (congrArg some (by kernel_rfl))
 f21:=Tryz.func233.trans (congrArg some (by kernel_rfl))
 f22:=Tryz.func234.trans (congrArg some (by kernel_rfl))
 f23:=Tryz.func235.trans (congrArg some (by kernel_rfl))
 f24:=Tryz.func236.trans (congrArg some (by kernel_rfl))
 f25:=Tryz.func258.trans (congrArg some (by kernel_rfl))
 f26:=Tryz.func259.trans (congrArg some (by kernel_rfl))
 f27:=Tryz.func179.trans (congrArg some (by kernel_rfl))
 f28:=Tryz.func210.trans (congrArg some (by kernel_rfl))
 f29:=Tryz.func226.trans (congrArg some (by kernel_rfl))
 f30:=Tryz.func238.trans (congrArg some (by kernel_rfl))
 f31:=Tryz.func239.trans (congrArg some (by kernel_rfl))
 f32:=Tryz.func240.trans (congrArg some (by kernel_rfl))
 f33:=Tryz.func241.trans (congrArg some (by kernel_rfl))
 f34:=Tryz.func261.trans (congrArg some (by kernel_rfl))
 f35:=Tryz.func190.trans (congrArg some (by kernel_rfl))
 f36:=Tryz.func262.trans (congrArg some (by kernel_rfl))
 f37:=Tryz.func263.trans (congrArg some (by kernel_rfl))
 f38:=Tryz.func264.trans (congrArg some (by kernel_rfl))
 f39:=Tryz.func268.trans (congrArg some (by kernel_rfl))
 f40:=Tryz.func269.trans (congrArg some (by kernel_rfl))
 t0:=Tryz.underlying0
 a0:=Tryz.isAgg0
 z0:=Tryz.sizeOf0
 v0:=Tryz.zeroValue0
 i0:=by kernel_rfl
 t2:=Tryz.underlying2
 a2:=Tryz.isAgg2
 z2:=Tryz.sizeOf2
 v2:=Tryz.zeroValue2
 i2:=by kernel_rfl
 t3:=Tryz.underlying3
 a3:=Tryz.isAgg3
 z3:=Tryz.sizeOf3
 v3:=Tryz.zeroValue3
 i3:=by kernel_rfl
 t4:=Tryz.underlying4
 a4:=Tryz.isAgg4
 z4:=Tryz.sizeOf4
 v4:=Tryz.zeroValue4
 i4:=by kernel_rfl
 t5:=Tryz.underlying5
 a5:=Tryz.isAgg5
 z5:=Tryz.sizeOf5
 v5:=Tryz.zeroValue5
 i5:=by kernel_rfl
 t9:=Tryz.underlying9
 a9:=Tryz.isAgg9
 z9:=Tryz.sizeOf9
 v9:=Tryz.zeroValue9
 i9:=by kernel_rfl
 t20:=Tryz.underlying20
 a20:=Tryz.isAgg20
 z20:=Tryz.sizeOf20
 v20:=Tryz.zeroValue20
 i20:=by kernel_rfl
 t22:=Tryz.underlying253
 a22:=Tryz.isAgg253
 z22:=Tryz.sizeOf253
 v22:=Tryz.zeroValue253
 i22:=by kernel_rfl
 t24:=Tryz.underlying107
 a24:=Tryz.isAgg107
 z24:=Tryz.sizeOf107
 v24:=Tryz.zeroValue107
 i24:=by kernel_rfl
 t34:=Tryz.underlying296
 a34:=Tryz.isAgg296
 z34:=Tryz.sizeOf296
 v34:=Tryz.zeroValue296
 i34:=by kernel_rfl
 c34:=by kernel_rfl
 t36:=Tryz.underlying207
 a36:=Tryz.isAgg207
 z36:=Tryz.sizeOf207
 v36:=Tryz.zeroValue207
 i36:=by kernel_rfl
 t37:=Tryz.underlying101
 a37:=Tryz.isAgg101
 z37:=Tryz.sizeOf101
 v37:=Tryz.zeroValue101
 i37:=by kernel_rfl
 t39:=Tryz.underlying298
 a39:=Tryz.isAgg298
 z39:=Tryz.sizeOf298
 v39:=Tryz.zeroValue298
 i39:=by kernel_rfl
 t44:=Tryz.underlying322
 a44:=Tryz.isAgg322
 z44:=Tryz.sizeOf322
 v44:=Tryz.zeroValue322
 i44:=by kernel_rfl
 t47:=Tryz.underlying182
 a47:=Tryz.isAgg182
 z47:=Tryz.sizeOf182
 v47:=Tryz.zeroValue182
 i47:=by kernel_rfl
 t48:=Tryz.underlying330
 a48:=Tryz.isAgg330
 z48:=Tryz.sizeOf330
 v48:=Tryz.zeroValue330
 i48:=by kernel_rfl
 t50:=Tryz.underlying332
 a50:=Tryz.isAgg332
 z50:=Tryz.sizeOf332
 v50:=Tryz.zeroValue332
 i50:=by kernel_rfl
 t52:=Tryz.underlying301
 a52:=Tryz.isAgg301
 z52:=Tryz.sizeOf301
 v52:=Tryz.zeroValue301
 i52:=by kernel_rfl
 t55:=Tryz.underlying303
 a55:=Tryz.isAgg303
 z55:=Tryz.sizeOf303
 v55:=Tryz.zeroValue303
 i55:=by kernel_rfl
 t59:=Tryz.underlying326
 a59:=Tryz.isAgg326
 z59:=Tryz.sizeOf326
 v59:=Tryz.zeroValue326
 i59:=by kernel_rfl
 t60:=Tryz.underlying251
 a60:=Tryz.isAgg251
 z60:=Tryz.sizeOf251
 v60:=Tryz.zeroValue251
 i60:=by kernel_rfl
 t61:=Tryz.underlying327
 a61:=Tryz.isAgg327
 z61:=Tryz.sizeOf327
 t65:=Tryz.underlying334
 a65:=Tryz.isAgg334
 z65:=Tryz.sizeOf334
 v65:=Tryz.zeroValue334
 i65:=by kernel_rfl
 t66:=Tryz.underlying335
 a66:=Tryz.isAgg335
 z66:=Tryz.sizeOf335
 v66:=Tryz.zeroValue335
 i66:=by kernel_rfl
 t67:=Tryz.underlying112
 a67:=Tryz.isAgg112
 z67:=Tryz.sizeOf112
 v67:=Tryz.zeroValue112
 i67:=by kernel_rfl
 g0:=by kernel_rfl
 m0:=by kernel_rfl
 g1:=by kernel_rfl
 m1:=by kernel_rfl
 g2:=by kernel_rfl
 m2:=by kernel_rfl
 g3:=by kernel_rfl
 m3:=by kernel_rfl
 g4:=by kernel_rfl
 m4:=by kernel_rfl}
end Go.Proofs
namespace Go.Proofs.Ae
open Go Go.RowKit
def rm:AV:=.eptr (.agg [])
def kC:AV:=.iface 298 rm
def puS:Str:=[80,97,114,115,101,85,105,110,116]
theorem KX {t:Nat} (s:Str) (hs:s.length<big):eX Tryz.prog (GG t) 224 [.str puS,.str s,.int .i64 10,.int .i64 31,.iface 296 (.int .i64 1)] (kC,none):=by
 intro U bs es w args hG hV hfr;cases hV with
 |cons h1 hV=>cases hV with
  |cons h2 hV=>cases hV with
   |cons h3 hV=>cases hV with
    |cons h4 hV=>cases hV with
     |cons h5 hV=>
      cases hV;cases h1;cases h2;cases h3;cases h4;cases h5 with
      |iface h5=>
       cases h5;refine⟨Go.Proofs.enters_of Tryz.func224 (by kernel_rfl) rfl _ _,?_⟩;obtain⟨cs,vs,k1,k2,k3,-⟩:=hG 9 (.iface t .undef) rfl;cases k1;cases k2 with
       |cons k4 k5 k6=>
        cases k6;cases k4 with
        |iface k4=>
         rename_i ev
         have hc:=(k3 0 _ rfl).1;have h:=AnyPu.strconv_toError_range Tryz.laysPu17 ⟨puS.toArray⟩ ⟨s.toArray⟩ 10 31 (.iface t ev) w (by unfold big at hs;show s.toArray.size<=_;simp;omega) hc (.inr ⟨_,_,rfl⟩);refine Calls.mono h ?_;rintro e w' ⟨N,rfl,hN,hw,hb⟩;refine⟨_,U,rfl,⟨hb,fun _ _=>rfl,fun b hbb=>hfr b (Nat.le_trans hb.size hbb),?_,fun _ _ _ _ _ hx=>by cases hx⟩⟩;exact Rep.iface (Rep.eptr (cs:=[]) (vs:=[]) rfl .nil (fun i v hv=>by simp at hv))
def puR:Option Nat->AV
 |some n=>.tup [.int .u64 n,.nili]
 |none=>.tup [.int .u64 2147483647,kC]
theorem xk: ∀{s:Str} {n m:Nat},n<=2147483647->puN n s=some m->m<=2147483647
 |[],n,m,h,k=>by simp[puN]at k;omega
 |c::s,n,m,h,k=>by
  simp only[puN]at k;split at k
  ·exact xk (by assumption) k
  ·cases k
def fc (s:Str):Int×Int:=
 if s.all ed=false then(0,3)else
 match s with
 |[]=>(0,3)
 |c::r=>if r≠[]/\c=48 then(0,3)else match puN 0 (c::r)with
  |some n=>(n,0)
  |none=>(0,2)
section
variable {G:Gls} {cl:a7} {N:Nat}
theorem KY (s:Str) (hs:s.length<big) (h1: ∀M,cl 223 [.str s,.int .i64 10,.int .i64 31] M=some (puV (puN 0 s),M)) (h2: ∀M,cl 224 [.str puS,.str s,.int .i64 10,.int .i64 31,.iface 296 (.int .i64 1)] M=some (kC,M)):
  dn G false cl eW N tM [.str s,.int .i64 10,.int .i64 31]=some (puR (puN 0 s),none):=by
 simp only[puS]at h2;cases hp:puN 0 s with
 |none=>
  rw[hp]at h1;simp only[puV]at h1;simp -implicitDefEqProofs [tM,h1,h2,puR,kC,rm];rfl
 |some n=>
  rw[hp]at h1;simp only[puV]at h1;simp -implicitDefEqProofs [tM,h1,h2,puR];rfl
theorem pQ {g:UInt8->Bool}: ∀(s:Str),(s.takeWhile g).length=s.length↔s.all g=true
 |[]=>by simp
 |c::s=>by
  rw[List.takeWhile_cons];cases h:g c with
  |true=>simpa[h] using pQ (g:=g) s
  |false=>simp[h]
theorem KZ (s:Str) (h0:s≠[]) (hs:s.length<big) (h1: ∀M,cl 109 [.str s,.fn 170 [] []] M=some (.int .i64 (dE ed s),M))
  (h2:s.all ed=true-> ∀M,cl 202 [.str s,.int .i64 10,.int .i64 31] M=some (puR (puN 0 s),M)):
  dn G false cl eW N lY [.str s]=some (.tup [.int .i64 (fc s).1,.int .i64 (fc s).2],none):=by
 cases hall:s.all ed with
 |false=>
  have hlt:dE ed s<s.length:=by
   have:=lr ed s;have h3: ¬(s.takeWhile ed).length=s.length:=fun h=>by rw[pQ]at h;rw[h]at hall;cases hall
   unfold dE;omega
  simp -implicitDefEqProofs [lY,h1,hlt,fc,hall]
 |true=>
  have hcut:dE ed s=s.length:=(pQ s).2 hall;rw[hcut]at h1;have h2':=h2 hall;cases s with
  |nil=>exact absurd rfl h0
  |cons c r=>
   have hne: ¬((c::r).all ed=false):=by rw[hall];simp
   have hc8:(((c.toNat:Nat):Int)=48)=(c=48):=by
    apply propext;constructor
    ·intro h;have:c.toNat=(48:UInt8).toNat:=by show c.toNat=48;omega
     exact UInt8.toNat_inj.1 this
    ·rintro rfl;rfl
   simp only[List.length_cons]at h1 hs;unfold big at hs;cases r with
   |nil=>
    have e1:fc [c]=match puN 0 [c]with
     |some n=>((n:Int),0)
     |none=>(0,2):=by unfold fc;rw[if_neg hne];simp
    rw[e1];cases hp:puN 0 [c]with
    |none=>
     rw[hp]at h2';simp only[puR,kC,rm]at h2';simp -implicitDefEqProofs [lY,h1,h2']
    |some n=>
     rw[hp]at h2';simp only[puR]at h2';have:=xk (by omega) hp;have w:dj .i64 (n:Int)=n:=dJ (by omega) (by omega);simp -implicitDefEqProofs [lY,h1,h2',w]
   |cons d r=>
    have hgt:(1:Int)<(r.length:Int)+1+1:=by omega
    by_cases h48:c=48
    ·have e1:fc (c::d::r)=(0,3):=by unfold fc;rw[if_neg hne];simp[h48]
     rw[e1];subst h48;simp -implicitDefEqProofs [lY,h1,hgt]
    ·have hb:(((c.toNat:Nat):Int)==48)=false:=by rw[beq_eq_false_iff_ne];intro h;exact h48 (hc8▸h)
     have e1:fc (c::d::r)=match puN 0 (c::d::r)with
      |some n=>((n:Int),0)
      |none=>(0,2):=by unfold fc;rw[if_neg hne];simp[h48]
     rw[e1];cases hp:puN 0 (c::d::r)with
     |none=>
      rw[hp]at h2';simp only[puR,kC,rm]at h2';simp -implicitDefEqProofs [lY,h1,h2',hgt,hb,hc8,h48]
     |some n=>
      rw[hp]at h2';simp only[puR]at h2';have:=xk (by omega) hp;have w:dj .i64 (n:Int)=n:=dJ (by omega) (by omega);simp -implicitDefEqProofs [lY,h1,h2',hgt,hb,hc8,h48,w]
def kwL:List Str:=[[102,105,110,100],[115,111,109,101],[101,118,101,114,121],[118,101,114,116,101,120],[101,100,103,101],[115,101,116],[101,100,103,101,115],[116,114,117,101],[102,97,108,115,101],[110,111,116],[97,110,100],[111,114],[105,109,112,108,105,101,115],[105,102,102],[105,110],[115,117,98],[97,100,106],[111,110],[105,115],[111,110,101],[115,105,122,101],[109,111,100],[108,101,97,115,116],[103,114,101,97,116,101,115,116],[97,115,107],[108,101,116]]
def kwM:List (AV×AV):=kwL.map fun k=>(.str k,.bool true)
theorem BE (s:Str): ∀l:List Str,find (.str s) (l.map fun k=>(.str k,.bool true))=some (if s∈l then some (.bool true)else none)
 |[]=>by simp[find]
 |k::l=>by
  have ih:=BE s l;by_cases h:s=k
  ·subst h;simp[find,eqK]
  ·have:(s==k)=false:=by simp[h]
   simp[find,eqK,this,ih,h]
structure Tk where
 k:Int
 tx:Str
 v:Int
 ln:Int
 col:Int
def tkC (t:Tk):List AV:=[.int .i64 t.k,.str t.tx,.int .i64 t.v,.int .i64 t.ln,.int .i64 t.col]
def dw (t:Str):Tk×Int:=
 if t∈kwL then(⟨3,t,0,0,0⟩,0)else if ed (t.headD 0)then(⟨2,t,(fc t).1,0,0⟩,(fc t).2)else if gm (t.headD 0)=false then(⟨0,[],0,0,0⟩,3)else if t.length>16 then(⟨0,[],0,0,0⟩,2)else(⟨1,t,0,0,0⟩,0)
theorem K0 {yl:a7} (t:Str) (M:Mem) (h0:t≠[]) (hM:M.objs[1]? =some (.map kwM)) (hM2:2<=M.objs.length) (h1: ∀(c:UInt8) M,cl 170 [.int .u8 c.toNat] M=some (.bool (ed c),M)) (h2: ∀(c:UInt8) M,cl 169 [.int .u8 c.toNat] M=some (.bool (gm c),M))
  (h3: ∀M,cl 171 [.str t] M=some (.tup [.int .i64 (fc t).1,.int .i64 (fc t).2],M)):
  dr G false cl yl N lg [.str t,.map 1] M=some (.tup [.agg (tkC (dw t).1),.int .i64 (dw t).2],⟨M.objs++[.cells (tkC (dw t).1)],M.arrs⟩):=by
 have hf:find (.str t) kwM=some (if t∈kwL then some (.bool true)else none):=BE t kwL;obtain⟨objs,arrs⟩:=M;simp only at hM hM2⊢;have hM': ∀x:Obj,(objs++[x])[1]? =some (.map kwM):=fun x=>by rw[List.getElem?_append_left (by omega)];exact hM
 have hkey:i8 true (.str t)=true:=rfl;cases t with
 |nil=>exact absurd rfl h0
 |cons c r=>
  by_cases hk:(c::r)∈kwL
  ·rw[if_pos hk]at hf;have hr:dw (c::r)=(⟨3,c::r,0,0,0⟩,0):=by unfold dw;rw[if_pos hk]
   rw[hr];simp -implicitDefEqProofs [lg,gY,hM',hf,tkC,hkey]
  ·rw[if_neg hk]at hf;by_cases hd:ed c=true
   ·have hr:dw (c::r)=(⟨2,c::r,(fc (c::r)).1,0,0⟩,(fc (c::r)).2):=by unfold dw;rw[if_neg hk];simp[hd]
    rw[hr];simp -implicitDefEqProofs [lg,gY,hM',hf,tkC,hkey,h1,h3,hd]
   ·have hd':ed c=false:=by simpa using hd
    by_cases hl:gm c=true
    ·by_cases hlen:16<(c::r).length
     ·have hr:dw (c::r)=(⟨0,[],0,0,0⟩,2):=by unfold dw;rw[if_neg hk];simp at hlen;simp[hd',hl,hlen]
      rw[hr];simp only[List.length_cons]at hlen;have hlen':(16:Int)<(r.length:Int)+1:=by omega
      simp -implicitDefEqProofs [lg,gY,hM',hf,tkC,hkey,h1,h2,hd',hl,hlen']
     ·have hr:dw (c::r)=(⟨1,c::r,0,0,0⟩,0):=by unfold dw;rw[if_neg hk];simp at hlen;simp[hd',hl];omega
      rw[hr];simp only[List.length_cons]at hlen;have hlen': ¬(16:Int)<(r.length:Int)+1:=by omega
      simp -implicitDefEqProofs [lg,gY,hM',hf,tkC,hkey,h1,h2,hd',hl,hlen']
    ·have hl':gm c=false:=by simpa using hl
     have hr:dw (c::r)=(⟨0,[],0,0,0⟩,3):=by unfold dw;rw[if_neg hk];simp[hd',hl']
     rw[hr];simp -implicitDefEqProofs [lg,gY,hM',hf,tkC,hkey,h1,h2,hd',hl']
end
def tkv (t:Tk):AV:=.agg (tkC t)
@[simp] theorem T6 (k:Nat) (cs l:List AV):dV k (.agg cs::l)=decide (cs.length=k):=rfl
@[simp] theorem T7 (t:Tk) (l:List AV):dV 5 (tkv t::l)=true:=rfl
@[simp] theorem T8 (l:List Tk):dV 5 (l.map tkv)=true:=by cases l<;>rfl
@[simp] theorem T9 (t:Tk):dY (tkv t)=some (tkv t):=rfl
@[simp] theorem Ua (t:Tk):cells (tkv t)=some (tkC t):=rfl
def ltR (f g:UInt8->Bool):Bool:=(List.range 256).all fun i=>!(f (UInt8.ofNat i))||!(g (UInt8.ofNat i))
theorem lu {f g:UInt8->Bool} (h:ltR f g=true) {c:UInt8} (hf:f c=true):g c=false:=by
 have:=List.all_eq_true.1 h c.toNat (List.mem_range.2 c.toNat_lt);rw[UInt8.ofNat_toNat,hf]at this;simpa using this
theorem uq:ltR fq de=true:=by kernel_rfl
theorem ur:ltR ft de=true:=by kernel_rfl
theorem K1:((List.range 256).all fun i=>decide (iQ gJ (UInt8.ofNat i)>=0)==ft (UInt8.ofNat i))=true:=by kernel_rfl
theorem BF (c:UInt8):decide (0<=iQ gJ c)=ft c:=by
 have:=List.all_eq_true.1 K1 c.toNat (List.mem_range.2 c.toNat_lt);rw[UInt8.ofNat_toNat]at this;simpa using this
theorem gS (k m:Nat):List.map (fun e:AV×AV=>(e.fst,scr k m e.snd)) kwM=kwM:=by rfl
theorem jq (k m n ty sz:Nat):(match dA n ty sz with
  |Arr.app n ty sz=>Arr.app n ty sz
  |Arr.wr g ty l cs=>Arr.wr g ty l (gj k m cs))=dA n ty sz:=by cases n<;>rfl
structure rn (cl:a7):Prop where
 h139:cl 105 [] ⟨[.cells [.int .i64 0,.int .i64 0]],[]⟩=some (.map 1,⟨[.cells [.int .i64 0,.int .i64 0],.map kwM],[]⟩)
 h140: ∀(c:UInt8) M,cl 106 [.int .u8 c.toNat] M=some (.bool (fq c),M)
 h141: ∀(c:UInt8) M,cl 107 [.str gJ,.int .u8 c.toNat] M=some (.int .i64 (iQ gJ c),M)
 h142: ∀(c:UInt8) M,cl 108 [.int .u8 c.toNat] M=some (.bool (de c),M)
 h143: ∀(t:Str) M,t.length<=65536->cl 109 [.str t,.fn 108 [] []] M=some (.int .i64 (dE de t),M)
 h144: ∀(t:Str) (M:Mem),t≠[]->t.length<=65536->M.objs[1]? =some (.map kwM)->2<=M.objs.length->cl 110 [.str t,.map 1] M=some (.tup [.agg (tkC (dw t).1),.int .i64 (dw t).2],⟨M.objs++[.cells (tkC (dw t).1)],M.arrs⟩)
theorem ut (l:List Tk):dA l.length 121 5=Arr.app l.length (if l=[]then 0 else 121) (if l=[]then 0 else 5):=by simp[dA]
def anT:Ann:=⟨[0,3,5,6,7,8,9],[(5,none),(8,none),(9,none)],false⟩
def ST (s:Str) (i ls:Nat) (a b:Int) (l:List Tk):St:=⟨[(0,.str s),(3,.ptr 0 0),(5,.slc (.own 0) (l.map tkv)),(6,.map 1),(7,.ptr 2 0),(8,.int .i64 ls),(9,.int .i64 i)],
 ⟨[.cells [.int .i64 0,.int .i64 0],.map kwM,.cells [.int .i64 a,.int .i64 b]],[dA l.length 121 5]⟩,[]⟩
def xl (s:Str) (i:Nat) (l:List Tk) (i':Nat) (l':List Tk):Prop:=
 (∃c,s[i]? =some c/\de c=false/\i'=i+1/\(l'=l\/ ∃ln col,l'=l++[⟨4,[c],0,ln,col⟩]))\/
 (∃ln col,0<dE de (s.drop i)/\i'=i+dE de (s.drop i)/\(dw ((s.take i').drop i)).2=0/\l'=l++[{(dw ((s.take i').drop i)).1 with ln:=ln,col:=col}])
def uu (s:Str) (i:Nat) (l:List Tk) (e:Ex) (s':St):Prop:=
 (e=.exit 0/\i=s.length/\s'.mks=[]/\look 3 s'.ts=.ptr 0 0/\ ∃ln col,look 5 s'.ts=.slc (.own 0) ((l++([⟨0,[],0,ln,col⟩]:List Tk)).map tkv)/\ ∃X,s'.m=⟨.cells [.int .i64 0,.int .i64 0]::X,[dA (l.length+1) 121 5]⟩)\/
 (e=.ret/\i<s.length/\s'.mks=[]/\look 2 s'.ts=.slc .full []/\look 3 s'.ts=.ptr 0 0/\ ∃er ln col,er≠0/\look 4 s'.ts=.int .i64 er/\(∃X,s'.m=⟨.cells [.int .i64 ln,.int .i64 col]::X,[dA l.length 121 5]⟩)/\
  (de (s.getD i 0)=true->er=(dw ((s.take (i+dE de (s.drop i))).drop i)).2))
section
variable {G:Gls} {cl:a7} {yl:a7} {N:Nat}
theorem K2 (h:rn cl) (s:Str) (hs:s.length<=65536) (i ls:Nat) (a b:Int) (l:List Tk) (hi:i<=s.length) (hls:ls<=i) (ha:1<=a) (ha2:a<=i+1) (hl:l.length<=i):
  fk (fun e s'=>(e=.normal/\ ∃(i' ls':Nat) (a' b':Int) (l':List Tk),i<i'/\i'<=s.length/\ls'<=i'/\1<=a'/\a'<=i'+1/\l'.length<=i'/\eI false anT 3 1 s'=ST s i' ls' a' b' l'/\xl s i l i' l')\/(e≠ .normal/\uu s i l e s'))
   (a8 G false cl yl N gx (ST s i ls a b l)):=by
 have w1:dj .i64 ((i:Int) - (ls:Int))=(i:Int) - (ls:Int):=dJ (by omega) (by omega);have w2:dj .i64 ((i:Int) - (ls:Int)+1)=(i:Int) - (ls:Int)+1:=dJ (by omega) (by omega);have w3:dj .i64 ((i:Int)+1)=((i+1:Nat):Int):=dF (by omega);have w4:dj .i64 (a+1)=a+1:=dJ (by omega) (by omega);have b1:(l.length+1)*48<=140737488355328:=by omega
 have b2:l.length+1<=140737488355328:=by omega
 have hr:l=[]\/ ¬l=[]:=by cases l<;>simp
 have hp:(0:Int)<=(i:Int):=by omega
 generalize hcol:(i:Int) - (ls:Int)+1=col at w2;by_cases hend:i=s.length
 ·subst hend;simp -implicitDefEqProofs [ST,gx,w1,hcol,w2,dA,b1,b2,hr,tkC];exact .inl ⟨rfl,rfl,rfl,rfl,a,col,by simp[tkv,tkC],[.map kwM,.cells [.int .i64 a,.int .i64 col]],by simp[dA]⟩
 ·have hlt:i<s.length:=by omega
  have hne:((i:Int)==(s.length:Int))=false:=by rw[beq_eq_false_iff_ne];omega
  have hx:s[i]=s[i]:=rfl;generalize hc:s[i]=c at hx;clear hx;have hget:s[i]? =some c:=by rw[List.getElem?_eq_getElem hlt,hc]
  by_cases hblk:fq c=true
  ·have hnr:=lu uq hblk;by_cases h10:c=10
   ·have e10:(((c.toNat:Nat):Int)==10)=true:=by rw[h10];rfl
    simp -implicitDefEqProofs [ST,gx,w1,hcol,w2,w3,w4,hne,hp,hlt,hc,h.h140,hblk,e10,anT,gS,jq];exact⟨i+1,by omega,by omega,i+1,by omega,a+1,by omega,by omega,col,l,by omega,by simp[dA],.inl ⟨c,hget,hnr,rfl,.inl rfl⟩⟩
   ·have e10: ¬(((c.toNat:Nat):Int)=10):=by
     intro hh;have:c.toNat=(10:UInt8).toNat:=by show c.toNat=10;omega
     exact h10 (UInt8.toNat_inj.1 this)
    have e10':(((c.toNat:Nat):Int)==10)=false:=by rw[beq_eq_false_iff_ne];exact e10
    simp -implicitDefEqProofs [ST,gx,w1,hcol,w2,w3,w4,hne,hp,hlt,hc,h.h140,hblk,e10',anT,gS,jq];exact⟨i+1,by omega,by omega,ls,by omega,a,by omega,by omega,col,l,by omega,by simp[dA],.inl ⟨c,hget,hnr,rfl,.inl rfl⟩⟩
  ·have hblk':fq c=false:=by simpa using hblk
   have hidx:=BF c;have h141:=h.h141 c;simp only[gJ]at h141 hidx;by_cases hmrk:ft c=true
   ·have hnr:=lu ur hmrk;rw[hmrk]at hidx;have hidx':=of_decide_eq_true hidx;have htk:(s.take (i+1)).drop i=[c]:=by
     have:s.take (i+1)=s.take i++[c]:=by rw[List.take_add_one,hget];rfl
     rw[this,List.drop_append_of_le_length (by simp;omega),List.drop_of_length_le (by simp;omega)];rfl
    have hi1:i+1<=s.length:=by omega
    have hi0:i<=i+1:=by omega
    have hp1:(0:Int)<=(i:Int)+1:=by omega
    simp -implicitDefEqProofs [ST,gx,w1,hcol,w2,w3,w4,hne,hp,hlt,hc,h.h140,hblk',h141,hidx',anT,gS,jq,htk,hi1,hi0,hp1,eR,b1,b2,hr,dA,tkC];exact⟨i+1,by omega,by omega,ls,by omega,a,by omega,by omega,col,l++[⟨4,[c],0,a,col⟩],by simp;omega,by simp[tkv,tkC],.inl ⟨c,hget,hnr,rfl,.inr ⟨a,col,rfl⟩⟩⟩
   ·have hmrk':ft c=false:=by simpa using hmrk
    rw[hmrk']at hidx;have hidx': ¬0<=iQ [61,40,41,44,58,59] c:=of_decide_eq_false hidx;have hidx'':decide (iQ [61,40,41,44,58,59] c>=0)=false:=hidx;have hgetD:s.getD i 0=c:=by simp[hget]
    by_cases hrun:de c=true
    ·have hdrop:s.drop i=c::s.drop (i+1):=by rw[<-hc];exact List.drop_eq_getElem_cons hlt
     have hn0:0<dE de (s.drop i):=by unfold dE;rw[hdrop,List.takeWhile_cons,hrun];simp
     have hn1:dE de (s.drop i)<=s.length - i:=by have:=lr de (s.drop i);unfold dE;simpa using this
     have h143:=fun M=>h.h143 (s.drop i) M (by simp;omega);have w5:dj .i64 ((i:Int)+(dE de (s.drop i):Int))=((i+dE de (s.drop i):Nat):Int):=by rw[dJ (by omega) (by omega)];omega
     have hp2:(0:Int)<=((i+dE de (s.drop i):Nat):Int):=by omega
     have ht0:(s.take (i+dE de (s.drop i))).drop i≠[]:=by
      intro hh;have:=congrArg List.length hh;simp at this;omega
     have ht1:((s.take (i+dE de (s.drop i))).drop i).length<=65536:=by simp;omega
     have h144:=fun M=>h.h144 ((s.take (i+dE de (s.drop i))).drop i) M ht0 ht1;have hend':uu s i l=uu s i l:=rfl;have hnx: ∀i' l',i'=i+dE de (s.drop i)->(dw ((s.take i').drop i)).2=0->(∃ln col,l'=l++[{(dw ((s.take i').drop i)).1 with ln:=ln,col:=col}])->xl s i l i' l':=fun i' l' e1 e2 ⟨ln,co,e3⟩=>.inr ⟨ln,co,hn0,e1,e2,e3⟩;have her: ∀er,er=(dw ((s.take (i+dE de (s.drop i))).drop i)).2->(de (s.getD i 0)=true->er=(dw ((s.take (i+dE de (s.drop i))).drop i)).2):=fun _ h _=>h;have hle1:i+dE de (s.drop i)<=s.length:=by omega
     have hle2:i<=i+dE de (s.drop i):=by omega
     obtain⟨n,hnn⟩: ∃n,n=dE de (s.drop i):=⟨_,rfl⟩
     rw[<-hnn]at hn0 hn1 w5 hp2 ht0 ht1 h144 hle1 hle2;simp only[<-hnn]at h143 hnx her;obtain⟨t,htt⟩: ∃t,t=(s.take (i+n)).drop i:=⟨_,rfl⟩
     rw[<-htt]at ht0 ht1 her;simp only[<-htt]at h144;have htt':=htt.symm;have hp3:(0:Int)<=(i:Int)+(n:Int):=by omega
     have htn:((i:Int)+(n:Int)).toNat=i+n:=by omega
     by_cases he:(dw t).2=0
     ·have he':((dw t).2 !=0)=false:=by simp[he]
      simp -implicitDefEqProofs [ST,gx,w1,hcol,w2,w3,w4,w5,hne,hp,hp2,hlt,hc,h.h140,hblk',h141,hidx',hidx'',h.h142,hrun,h143,htt',h144,he,hp3,htn,anT,gS,jq,hi,hle1,hle2,eR,b1,b2,hr,dA,tkC];exact⟨i+n,by omega,by omega,ls,by omega,a,by omega,by omega,col,l++[{(dw t).1 with ln:=a,col:=col}],by simp;omega,by simp[tkv,tkC],hnx (i+n) _ rfl (by rw[<-htt];exact he) ⟨a,col,by rw[<-htt]⟩⟩
     ·have he':((dw t).2 !=0)=true:=by simp[he]
      simp -implicitDefEqProofs [ST,gx,w1,hcol,w2,w3,w4,w5,hne,hp,hp2,hlt,hc,h.h140,hblk',h141,hidx',hidx'',h.h142,hrun,h143,htt',h144,he,he',hp3,htn,anT,gS,jq,hi,hle1,hle2,eR,b1,b2,hr,dA,tkC];exact .inr ⟨rfl,hlt,rfl,rfl,rfl,(dw t).2,a,col,he,rfl,⟨_,by rw[ut]⟩,fun _=>by rw[<-hnn,<-htt]⟩
    ·have hrun':de c=false:=by simpa using hrun
     simp -implicitDefEqProofs [ST,gx,w1,hcol,w2,w3,w4,hne,hp,hlt,hc,h.h140,hblk',h141,hidx',hidx'',h.h142,hrun',anT,gS,jq,hi,eR,b1,b2,hr,dA,tkC];exact .inr ⟨rfl,hlt,rfl,rfl,rfl,3,a,col,by simp,rfl,⟨_,by rw[ut]⟩,fun hh=>by rw[hgetD,hrun']at hh;cases hh⟩
end
theorem uv {t:Str} (h:(dw t).1.k=1):(dw t).1.tx=t/\t.length<=16/\(dw t).2=0:=by
 unfold dw at h⊢;split at h
 ·simp at h
 ·split at h
  ·simp at h
  ·split at h
   ·simp at h
   ·split at h
    ·simp at h
    ·simp only[*,if_false,Bool.false_eq_true];simp_all
def dy (s:Str):Bool:=!s.isEmpty&&s.all de&&decide ((dw s).2=0)&&decide ((dw s).1.k=1)
def iR (s:Str) (l:List Tk) (e:Int):Bool:=decide (e=0)&&decide (l.length=2)&&(match l with
 |x::_=>decide (x.tx=s)&&decide (x.k=1)
 |[]=>false)
theorem BG {g:UInt8->Bool}: ∀s:Str,s.take (s.takeWhile g).length=s.takeWhile g
 |[]=>rfl
 |c::s=>by
  rw[List.takeWhile_cons];split
  ·simp[BG s]
  ·simp
theorem BH {g:UInt8->Bool} (s:Str):(s.takeWhile g).all g=true:=by
 induction s with
 |nil=>rfl
 |cons c s ih=>
  rw[List.takeWhile_cons];split
  ·simp[*]
  ·rfl
theorem rp (s:Str) (i:Nat):(s.take (i+dE de (s.drop i))).drop i=(s.drop i).takeWhile de:=by
 rw[List.drop_take,Nat.add_sub_cancel_left];exact BG _
def PrT (s:Str) (i:Nat) (l:List Tk):Prop:=
 (s.all de=true/\s≠[]/\((i=0/\l=[])\/(i=s.length/\(dw s).2=0/\ ∃ln col,l=[{(dw s).1 with ln:=ln,col:=col}])))\/
 ((s.all de=false\/s=[])/\ ∀t∈l,t.k≠1\/t.tx≠s)
theorem xm {s:Str} (h:s.all de=true):dE de s=s.length:=(pQ s).2 h
theorem K3 {s:Str} {i i':Nat} {l l':List Tk} (h:PrT s i l) (hi:i<i') (hi':i'<=s.length) (hn:xl s i l i' l'):PrT s i' l':=by
 rcases h with⟨ha,hne,h⟩|⟨ha,h⟩
 ·rcases h with⟨rfl,rfl⟩|⟨rfl,_⟩
  ·rcases hn with⟨c,hc,hr,_⟩|⟨ln,col,hn0,h1,h2,h3⟩
   ·have:=List.all_eq_true.1 ha c (List.mem_of_getElem? hc);rw[this]at hr;cases hr
   ·rw[List.drop_zero,xm ha,Nat.zero_add]at h1;subst h1;rw[List.take_length,List.drop_zero]at h2 h3;exact .inl ⟨ha,hne,.inr ⟨rfl,h2,ln,col,by simpa using h3⟩⟩
  ·omega
 ·refine .inr ⟨ha,?_⟩;rcases hn with⟨c,hc,hr,_,hl⟩|⟨ln,col,hn0,h1,h2,h3⟩
  ·rcases hl with rfl|⟨ln,col,rfl⟩
   ·exact h
   ·intro t ht;rcases List.mem_append.1 ht with ht|ht
    ·exact h t ht
    ·simp at ht;subst ht;exact .inl (by simp)
  ·intro t ht;rw[h3]at ht;rcases List.mem_append.1 ht with ht|ht
   ·exact h t ht
   ·simp at ht;rw[ht];by_cases hk:(dw ((s.take i').drop i)).1.k=1
    ·refine .inr ?_;simp only;rw[(uv hk).1,h1,rp];intro heq;have h4:=BH (g:=de) (s.drop i);rw[heq]at h4;rcases ha with ha|ha
     ·rw[ha]at h4;cases h4
     ·subst ha;simp[dE]at hn0
    ·exact .inl hk
theorem xn {s:Str} (ha:s.all de=true) (hne:s≠[]):dy s=(decide ((dw s).2=0)&&decide ((dw s).1.k=1)):=by
 unfold dy;cases s with
 |nil=>exact absurd rfl hne
 |cons c s=>rw[ha];rfl
theorem uw {s:Str} (h:s.all de=false\/s=[]):dy s=false:=by
 unfold dy;rcases h with h|h
 ·rw[h];simp
 ·subst h;rfl
theorem K5 {s:Str} {l:List Tk} (h:PrT s s.length l) (ln col:Int):iR s (l++[⟨0,[],0,ln,col⟩]) 0=dy s:=by
 rcases h with⟨ha,hne,h⟩|⟨ha,h⟩
 ·rw[xn ha hne];rcases h with⟨h0,rfl⟩|⟨_,h1,ln',col',rfl⟩
  ·exact absurd (List.eq_nil_of_length_eq_zero h0) hne
  ·by_cases hk:(dw s).1.k=1
   ·have:=(uv hk).1;simp[iR,h1,hk,this]
   ·simp[iR,h1,hk]
 ·rw[uw ha];unfold iR;cases l with
  |nil=>simp
  |cons x l=>
   cases l with
   |nil=>
    have:=h x List.mem_cons_self;simp;intro hx;rcases this with h1|h1
    ·exact h1
    ·exact absurd hx h1
   |cons y l=>simp
theorem K6 {s:Str} {i:Nat} {l:List Tk} (h:PrT s i l) (hi:i<s.length) {er:Int} (he:er≠0) (hr:de (s.getD i 0)=true->er=(dw ((s.take (i+dE de (s.drop i))).drop i)).2):dy s=false:=by
 rcases h with⟨ha,hne,h⟩|⟨ha,h⟩
 ·rw[xn ha hne];rcases h with⟨rfl,rfl⟩|⟨h0,_⟩
  ·have h1:de (s.getD 0 0)=true:=by
    cases s with
    |nil=>exact absurd rfl hne
    |cons c s=>simp at ha;exact ha.1
   have:=hr h1;simp only[List.drop_zero]at this;rw[xm ha,Nat.zero_add,List.take_length]at this;rw[this]at he;simp[he]
  ·omega
 ·exact uw ha
section
variable {G:Gls} {cl:a7} {yl:a7} {N:Nat}
theorem K7 (h:rn cl) (s:Str) (hN:s.length<N):
  ∃(l:List Tk) (p1 p2 e:Int),dn G false cl yl N c54 [.str s]=some (.tup [.slc .shared (l.map tkv),.agg [.int .i64 p1,.int .i64 p2],.int .i64 e],none)/\iR s l e=dy s/\l.length<=65537:=by
 by_cases hs:s.length<=65536
 ·obtain⟨e,⟨ts,M,mks⟩,h1,h2,i,l,hi,hll,hpr,hend⟩:=jp (mu:=false) (step:=a8 G false cl yl N gx) (an:=anT) (kk:=3) (m:=1)
   (fun k st=> ∃(i ls:Nat) (a b:Int) (l:List Tk),i<=s.length/\k=s.length - i/\ls<=i/\1<=a/\a<=i+1/\l.length<=i/\PrT s i l/\st=ST s i ls a b l)
   (fun e s'=> ∃(i:Nat) (l:List Tk),i<=s.length/\l.length<=i/\PrT s i l/\uu s i l e s')
   (by
    rintro k _ ⟨i,ls,a,b,l,hi,rfl,hls,ha,ha2,hl,hpr,rfl⟩;obtain⟨e,s',g1,g2⟩:=(K2 (G:=G) (yl:=yl) (N:=N) h s hs i ls a b l hi hls ha ha2 hl).out;rw[g1];rcases g2 with⟨he,i',ls',a',b',l',k1,k2,k3,k4,k5,k6,k7,k8⟩|⟨he,hE⟩
    ·exact .inl ⟨he,s.length - i',by omega,i',ls',a',b',l',k2,rfl,k3,k4,k5,k6,K3 hpr k1 k2 k8,k7⟩
    ·exact .inr ⟨he,i,l,hi,hl,hpr,hE⟩)
   N _ (ST s 0 0 1 1 []) ⟨0,0,1,1,[],Nat.zero_le _,rfl,Nat.le_refl _,by omega,by omega,by simp,by
    by_cases ha:s.all de=true
    ·by_cases hne:s=[]
     ·exact .inr ⟨.inr hne,by simp⟩
     ·exact .inl ⟨ha,hne,.inl ⟨rfl,rfl⟩⟩
    ·exact .inr ⟨.inl (by simpa using ha),by simp⟩,rfl⟩ (by omega)
  have hlen: ¬(65536:Int)<(s.length:Int):=by omega
  simp[ST,anT,dA]at h1;rcases hend with⟨rfl,rfl,rfl,h5,ln,col,h6,X,h7⟩|⟨rfl,hlt,rfl,h5,h6,er,ln,col,hne,h7,⟨X,h8⟩,h9⟩
  ·refine⟨l++[⟨0,[],0,ln,col⟩],0,0,0,?_,K5 hpr ln col,by simp;omega⟩;simp only[]at h5 h6 h7;subst h7;simp -implicitDefEqProofs [c54,hlen,h.h139,gS,h1,h5,h6,dA]
  ·refine⟨[],ln,col,er,?_,?_,by simp⟩
   ·simp only[]at h5 h6 h7 h8;subst h8;simp -implicitDefEqProofs [c54,hlen,h.h139,gS,h1,h5,h6,h7,dA]
   ·rw[K6 hpr hlt hne h9];simp[iR]
 ·refine⟨[],0,0,2,?_,?_,by simp⟩
  ·have hlen:(65536:Int)<(s.length:Int):=by omega
   simp -implicitDefEqProofs [c54,hlen]
  ·have:dy s=false:=by
    unfold dy;by_cases hk:(dw s).1.k=1
    ·have:=(uv hk).2.1;omega
    ·simp[hk]
   rw[this];simp[iR]
def fY (s:Str) (l:List Tk) (e:Int):Tk×Bool:=match l with
 |[x,_]=>if e=0/\x.tx=s then(x,true)else(⟨0,[],0,0,0⟩,false)
 |_=>(⟨0,[],0,0,0⟩,false)
theorem K8 (s:Str) (l:List Tk) (e:Int):((fY s l e).2&&decide ((fY s l e).1.k=1))=iR s l e:=by
 match l with
 |[]=>simp[fY,iR]
 |[x]=>simp[fY,iR]
 |[x,y]=>
  by_cases h:e=0/\x.tx=s
  ·simp[fY,iR,h]
  ·simp only[fY,iR,if_neg h];by_cases h1:e=0
   ·have h2: ¬x.tx=s:=fun h2=>h ⟨h1,h2⟩;simp[h2]
   ·simp[h1]
 |x::y::z::l=>simp[fY,iR]
theorem BI (s:Str) (l:List Tk) (p1 p2 e:Int) (hl:l.length<big) (h: ∀M,cl 54 [.str s] M=some (.tup [.slc .shared (l.map tkv),.agg [.int .i64 p1,.int .i64 p2],.int .i64 e],M)):
  dn G false cl yl N c90 [.str s]=some (.tup [.agg (tkC (fY s l e).1),.bool (fY s l e).2],none):=by
 unfold big at hl;by_cases he:e=0
 ·subst he
  match l,h with
  |[],h=>simp -implicitDefEqProofs [c90,h,fY,tkC]
  |[x],h=>simp -implicitDefEqProofs [c90,h,fY,tkC]
  |[x,y],h=>
   by_cases hx:x.tx=s
   ·have hx':dB .neq s s=some (.bool false):=by simp[dB]
    simp -implicitDefEqProofs [c90,h,fY,tkC,hx,hx',tkv]
   ·have hx':dB .neq x.tx s=some (.bool true):=by simp[dB,hx]
    simp -implicitDefEqProofs [c90,h,fY,tkC,hx,hx',tkv]
  |x::y::z::l,h=>
   have hne: ¬((l.length:Int)+1+1+1=2):=by omega
   have hne':(((l.length:Int)+1+1+1) !=2)=true:=by simp;omega
   simp -implicitDefEqProofs [c90,h,fY,tkC,hne,hne']
 ·have he':(e !=0)=true:=by simp[he]
  have ho:fY s l e=(⟨0,[],0,0,0⟩,false):=by
   unfold fY;split
   ·simp[he]
   ·rfl
  rw[ho];simp -implicitDefEqProofs [c90,h,he,he',tkC]
theorem K9 (s:Str) (t:Tk) (b:Bool) (h: ∀M,cl 90 [.str s] M=some (.tup [.agg (tkC t),.bool b],M)):
  dn G false cl yl N c36 [.str s]=some (.bool (b&&decide (t.k=1)),none):=by
 simp only[tkC]at h;cases b with
 |false=>simp -implicitDefEqProofs [c36,h]
 |true=>
  by_cases hk:t.k=1
  ·simp -implicitDefEqProofs [c36,h,hk]
  ·have hk':(t.k==1)=false:=by simp[hk]
   simp -implicitDefEqProofs [c36,h,hk,hk']
end
theorem iT {a b:UInt8} (h:[AV.int IntKind.u8 (a.toNat:Int)]=[AV.int IntKind.u8 (b.toNat:Int)]):a=b:=by
 simp only[List.cons.injEq,AV.int.injEq,true_and,and_true]at h;exact UInt8.toNat_inj.1 (by omega)
noncomputable abbrev spB (g:UInt8->Bool):List AV->dC:=spR (fun c:UInt8=>[.int .u8 c.toNat]) (fun c=>(.bool (g c),none)) (fun _=>True)
theorem pR (g:UInt8->Bool) (c:UInt8):spB g [.int .u8 c.toNat]=some (.bool (g c),none):=jL (enc:=fun c:UInt8=>[.int .u8 c.toNat]) (F:=fun c=>(.bool (g c),none)) (ok:=fun _=>True) (fun _ _ h=>iT h) (x:=c) trivial
noncomputable abbrev BJ:List AV->dC:=spR (fun c:UInt8=>[.str gJ,.int .u8 c.toNat]) (fun c=>(.int .i64 (iQ gJ c),none)) (fun _=>True)
theorem La (c:UInt8):BJ [.str gJ,.int .u8 c.toNat]=some (.int .i64 (iQ gJ c),none):=jL (enc:=fun c:UInt8=>[.str gJ,.int .u8 c.toNat]) (F:=fun c=>(.int .i64 (iQ gJ c),none)) (ok:=fun _=>True)
 (fun a b h=>iT (by simpa using h)) (x:=c) trivial
section
variable {t:Nat}
noncomputable abbrev X0:List (Nat×(List AV->dC)):=[(107,BJ),(106,spB fq),(108,spB de),(169,spB gm),(170,spB ed)]
theorem x0:dP Tryz.prog (GG t) (dg X0):=by
 have hB: ∀{f:Nat} {g:UInt8->Bool},okB f g=true-> ∀ags r,spB g ags=some r->eX Tryz.prog (GG t) f ags r:=by
  intro f g h ags r hr;obtain⟨c,rfl,-,rfl⟩:=gy hr;exact uh (xi h c)
 refine fl (fl (fl (fl (fl AW (hB KM)) (hB KL)) (hB KN)) (hB KO)) ?_;intro ags r hr;obtain⟨c,rfl,-,rfl⟩:=gy hr;exact uh (KU c)
def md (p:Str×Bool):List AV:=[.str p.1,.fn (if p.2 then 170 else 108) [] []]
def rq (p:Str×Bool):AV×Option Arr:=(.int .i64 (dE (if p.2 then ed else de) p.1),none)
theorem BK (a b:Str×Bool) (h:md a=md b):a=b:=by
 obtain⟨a1,a2⟩:=a;obtain⟨b1,b2⟩:=b;simp only[md,List.cons.injEq,AV.str.injEq,AV.fn.injEq,and_true]at h;obtain⟨rfl,h2⟩:=h;cases a2<;>cases b2<;>simp_all
noncomputable abbrev X1:List (Nat×(List AV->dC)):=(109,spR md rq (fun p=>p.1.length<big))::X0
theorem x1:dP Tryz.prog (GG t) (dg X1):=by
 refine ek _ _ _ Jq (fun p hb=>?_) x0;obtain⟨s,b⟩:=p;refine⟨s.length+1,KV _ _ s hb (Nat.lt_succ_self _) fun c M=>?_⟩;cases b with
 |false=>
  have:dg X0 108 [.int .u8 c.toNat]=some (.bool (de c),none):=by
   rw[gM (by decide),gM (by decide),ik];exact pR _ c
  simp[spC,this]
 |true=>
  have:dg X0 170 [.int .u8 c.toNat]=some (.bool (ed c),none):=by
   rw[gM (by decide),gM (by decide),gM (by decide),gM (by decide),ik];exact pR _ c
  simp[spC,this]
def puE (s:Str):List AV:=[.str s,.int .i64 10,.int .i64 31]
theorem BL (a b:Str) (h:puE a=puE b):a=b:=by simpa[puE] using h
def xp (s:Str):Prop:=s≠[]/\s.all ed=true/\s.length<big
def teE (s:Str):List AV:=[.str puS,.str s,.int .i64 10,.int .i64 31,.iface 296 (.int .i64 1)]
theorem Lb (a b:Str) (h:teE a=teE b):a=b:=by simpa[teE] using h
noncomputable abbrev X2:List (Nat×(List AV->dC)):=(224,spR teE (fun _=>(kC,none)) (fun s=>s.length<big))::(223,spR puE (fun s=>(puV (puN 0 s),none)) xp)::X1
theorem x2:dP Tryz.prog (GG t) (dg X2):=by
 refine fl ?_ fun ags r hr=>?_
 ·exact ek _ _ _ JQ (fun s hb=>⟨s.length+1,KW s hb.1 (fun c hc=>List.all_eq_true.1 hb.2.1 c hc) hb.2.2 (Nat.lt_succ_self _)⟩) x1
 ·obtain⟨s,rfl,hb,rfl⟩:=gy hr;exact KX s hb
noncomputable abbrev X3:List (Nat×(List AV->dC)):=(202,spR puE (fun s=>(puR (puN 0 s),none)) xp)::X2
theorem x3:dP Tryz.prog (GG t) (dg X3):=by
 refine ek _ _ _ JO (fun s hb=>⟨1,KY s hb.2.2 (fun M=>?_) (fun M=>?_)⟩) x2
 ·have:dg X2 223 (puE s)=some (puV (puN 0 s),none):=by
   rw[gM (by decide),ik];exact jL (enc:=puE) (F:=fun s=>(puV (puN 0 s),none)) BL hb
  unfold puE at this;cases hp:puN 0 s<;>simp[spC,this,puV,hp]
 ·have:dg X2 224 (teE s)=some (kC,none):=by
   rw[ik];exact jL (enc:=teE) (F:=fun _=>(kC,none)) Lb hb.2.2
  unfold teE at this;have e1:eh [.str puS,.str s,.int .i64 10,.int .i64 31,.iface 296 (.int .i64 1)]=some [.str puS,.str s,.int .i64 10,.int .i64 31,.iface 296 (.int .i64 1)]:=rfl;simp only[spC,e1,this];rfl
noncomputable abbrev X4:List (Nat×(List AV->dC)):=(171,spR (fun s:Str=>[.str s]) (fun s=>(.tup [.int .i64 (fc s).1,.int .i64 (fc s).2],none)) (fun s=>s≠[]/\s.length<big))::X3
theorem fS (a b:Str) (h:[AV.str a]=[AV.str b]):a=b:=by simpa using h
theorem x4:dP Tryz.prog (GG t) (dg X4):=by
 refine ek _ _ _ JJ (fun s hb=>⟨1,KZ s hb.1 hb.2 (fun M=>?_) (fun hd M=>?_)⟩) x3
 ·have:dg X3 109 (md (s,true))=some (rq (s,true)):=by
   rw[gM (by decide),gM (by decide),gM (by decide),ik];exact jL (enc:=md) (F:=rq) (ok:=fun p=>p.1.length<big) BK (x:=(s,true)) hb.2
  simp only[md,rq,if_true]at this;have e1:eh [.str s,.fn 170 [] []]=some [.str s,.fn 170 [] []]:=rfl;simp only[spC,e1,this];rfl
 ·have:dg X3 202 (puE s)=some (puR (puN 0 s),none):=by
   rw[ik];exact jL (enc:=puE) (F:=fun s=>(puR (puN 0 s),none)) BL (ok:=xp) ⟨hb.1,hd,hb.2⟩
  unfold puE at this;cases hp:puN 0 s<;>simp[spC,this,puR,hp,kC,rm]
end
end Go.Proofs.Ae
namespace Go.Proofs.Ae
open Go Go.RowKit
set_option maxRecDepth 100000
section
variable {t:Nat}
noncomputable def nO (f:Nat) (ags:List AV):dC:=match Nat.beq f 167,ags with
 |true,[]=>some (kws,none)
 |_,_=>dg X4 f ags
theorem oT:dP Tryz.prog (GG t) nO:=by
 intro f ags r h;unfold nO at h;split at h
 ·rename_i hb
  have:=Nat.eq_of_beq_eq_true hb;subst this;cases h;exact Bs
 ·exact x4 _ _ _ h
noncomputable def TT:lK:=⟨fns,nO,lp⟩
theorem BM {f:Nat} (h:f≠167) (ags:List AV):nO f ags=dg X4 f ags:=by
 unfold nO;have:Nat.beq f 167=false:=by
  cases hb:Nat.beq f 167 with
  |false=>rfl
  |true=>exact absurd (Nat.eq_of_beq_eq_true hb) h
 rw[this]
noncomputable abbrev BT (t N k:Nat):a7:=(eY (GG t) TT N false (k+1)).1
theorem nP {N k f:Nat} (h:f≠167) {ags:List AV} {r:AV×Option Arr} (hr:dg X4 f ags=some r) (M:Mem):BT t N k f ags M=iJ false r M:=by
 have:nO f ags=some r:=by rw[BM h,hr]
 simp only[BT,eY,TT,this]
theorem Lc (N k:Nat):BT t (N+100) (k+1) 105 [] ⟨[.cells [.int .i64 0,.int .i64 0]],[]⟩=some (.map 1,⟨[.cells [.int .i64 0,.int .i64 0],.map kwM],[]⟩):=by kernel_rfl
theorem xq (k:Nat) {N f:Nat} (h:f≠167) {ags:List AV} (hr:dg X4 f ags=none) {cf:CFn} (hf:fns f=some cf) (hm:lp f=false) (M:Mem):
  BT t N (k+1) f ags M=if cf.pure&&(eh ags).isSome then(match dn (GG t) false (BT t N k) (eY (GG t) TT N false (k+1)).2 N cf ags with
   |some r=>rZ false r M
   |none=>none)else dr (GG t) false (BT t N k) (eY (GG t) TT N false (k+1)).2 N cf ags M:=by
 have h1:TT.orc f ags=none:=by show nO f ags=none;rw[BM h,hr]
 have h2:TT.fns f=some cf:=hf;have h3:TT.mutf f=false:=hm;unfold BT;rw[eY];simp only[h1,h2,h3,Bool.false_and,Bool.not_false,Bool.and_true];rfl
theorem Lf (c:UInt8):dg X4 106 [.int .u8 c.toNat]=some (.bool (fq c),none):=by
 repeat rw[gM (by decide)]
 rw[ik];exact pR _ c
theorem Lg (c:UInt8):dg X4 108 [.int .u8 c.toNat]=some (.bool (de c),none):=by
 repeat rw[gM (by decide)]
 rw[ik];exact pR _ c
theorem Lh (c:UInt8):dg X4 169 [.int .u8 c.toNat]=some (.bool (gm c),none):=by
 repeat rw[gM (by decide)]
 rw[ik];exact pR _ c
theorem Li (c:UInt8):dg X4 170 [.int .u8 c.toNat]=some (.bool (ed c),none):=by
 repeat rw[gM (by decide)]
 rw[ik];exact pR _ c
theorem Lj (c:UInt8):dg X4 107 [.str gJ,.int .u8 c.toNat]=some (.int .i64 (iQ gJ c),none):=by
 repeat rw[gM (by decide)]
 rw[ik];exact La c
theorem Lk (s:Str) (hs:s.length<big):dg X4 109 [.str s,.fn 108 [] []]=some (.int .i64 (dE de s),none):=by
 repeat rw[gM (by decide)]
 rw[ik];exact jL (enc:=md) (F:=rq) (ok:=fun p=>p.1.length<big) BK (x:=(s,false)) hs
theorem Ll (s:Str) (h0:s≠[]) (hs:s.length<big):dg X4 171 [.str s]=some (.tup [.int .i64 (fc s).1,.int .i64 (fc s).2],none):=by
 rw[ik];exact jL (enc:=fun s:Str=>[.str s]) (F:=fun s=>(.tup [.int .i64 (fc s).1,.int .i64 (fc s).2],none)) (ok:=fun s=>s≠[]/\s.length<big) fS (x:=s) ⟨h0,hs⟩
theorem BO (N k:Nat):rn (BT t (N+100) (k+1)) where
 h139:=Lc N k
 h140:=fun c M=>nP (f:=106) (by decide) (Lf c) M
 h141:=fun c M=>nP (f:=107) (by decide) (Lj c) M
 h142:=fun c M=>nP (f:=108) (by decide) (Lg c) M
 h143:=fun s M hs=>nP (f:=109) (by decide) (Lk s (by unfold big;omega)) M
 h144:=fun s M h0 hs hM hM2=>by
  rw[xq (f:=110) k (by decide) (cf:=lg) (by simp[dg]) rfl rfl];have:(lg.pure&&(eh [AV.str s,AV.map 1]).isSome)=false:=rfl;rw[this];simp only[Bool.false_eq_true,if_false];exact K0 s M h0 hM hM2 (fun c M=>nP (f:=170) (by decide) (Li c) M) (fun c M=>nP (f:=169) (by decide) (Lh c) M) (fun M=>nP (f:=171) (by decide) (Ll s h0 (by unfold big;omega)) M)
theorem Lm (s:Str):eX Tryz.prog (GG t) 36 [.str s] (.bool (dy s),none):=by
 refine mZ (T:=TT) fp kis dz IV oT ⟨s.length+100,4,false,?_⟩;obtain⟨l,p1,p2,e,h1,h2,hl⟩:=K7 (G:=GG t) (yl:=(eY (GG t) TT (s.length+100) false 2).2) (N:=s.length+100) (BO (t:=t) s.length 0) s (by omega);have h109: ∀M,BT t (s.length+100) 2 54 [.str s] M=some (.tup [.slc .shared (l.map tkv),.agg [.int .i64 p1,.int .i64 p2],.int .i64 e],M):=by
  intro M;rw[xq (f:=54) 1 (by decide) (cf:=c54) (by simp[dg]) rfl rfl,h1];rfl
 have h151: ∀M,BT t (s.length+100) 3 90 [.str s] M=some (.tup [.agg (tkC (fY s l e).1),.bool (fY s l e).2],M):=by
  intro M;have:=BI (G:=GG t) (cl:=BT t (s.length+100) 2) (yl:=(eY (GG t) TT (s.length+100) false 3).2) (N:=s.length+100) s l p1 p2 e (by unfold big;omega) h109;rw[xq (f:=90) 2 (by decide) (cf:=c90) (by simp[dg]) rfl rfl,this];rfl
 rw[<-h2,<-K8];exact K9 (G:=GG t) (cl:=BT t (s.length+100) 3) s _ _ h151
end
end Go.Proofs.Ae
namespace Go.Proofs.Ae
open Go Go.RowKit
theorem BQ {α:Type} {g:α->Bool}: ∀{s:List α} {i:Nat} {x:α},(s.takeWhile g)[i]? =some x->s[i]? =some x/\g x=true
 |[],i,x,h=>by simp at h
 |c::s,i,x,h=>by
  rw[List.takeWhile_cons]at h;split at h
  ·cases i with
   |zero=>simp at h;subst h;exact⟨rfl,by assumption⟩
   |succ i=>simp at h;simpa using BQ h
  ·simp at h
theorem BR {α:Type} {g:α->Bool}: ∀(s:List α),(s.takeWhile g).length=s.length\/ ∃y,s[(s.takeWhile g).length]? =some y/\g y=false
 |[]=>.inl rfl
 |c::s=>by
  rw[List.takeWhile_cons];cases h:g c with
  |true=>
   rcases BR (g:=g) s with k|⟨y,k1,k2⟩
   ·exact .inl (by simp[k])
   ·exact .inr ⟨y,by simpa using k1,k2⟩
  |false=>exact .inr ⟨c,by simp,h⟩
theorem BS {α:Type} (g:α->Bool): ∀s:List α,(s.takeWhile g).length<=s.length
 |[]=>Nat.le_refl _
 |c::s=>by
  rw[List.takeWhile_cons];have:=BS g s;split<;>simp<;>omega
theorem xu {α:Type} {g:α->Bool}: ∀(s:List α),(s.takeWhile g).length=s.length↔s.all g=true
 |[]=>by simp
 |c::s=>by
  rw[List.takeWhile_cons];cases h:g c with
  |true=>simpa[h] using xu (g:=g) s
  |false=>simp[h]
def jN {α:Type} (g:α->Bool) (l:List α):Int:=if(l.takeWhile g).length=l.length then -1 else((l.takeWhile g).length:Int)
section
variable {G:Gls} {cl:a7} {yl:a7} {N:Nat}
theorem Ln (s:Str) (h: ∀M,cl 36 [.str s] M=some (.bool (dy s),M)):dn G false cl yl N wN [.str s]=some (.bool (!dy s),none):=by
 simp -implicitDefEqProofs [wN,h]
theorem Lo (l:List Str) (hl:l.length<big) (hN:l.length<N) (h: ∀s M,cl 196 [.str s] M=some (.bool (!dy s),M)):
  dn G false cl yl N tR [.slc .shared (l.map .str),.fn 196 [] []]=some (.int .i64 (jN dy l),none):=by
 unfold big at hl;have hle:=BS dy l;obtain⟨e,⟨ts,M,mks⟩,h1,h2,rfl,rfl,h5⟩:=jp (mu:=false) (step:=a8 G false cl yl N qZ) (an:=⟨[0,1,7,8],[(8,none)],false⟩) (kk:=0) (m:=0)
  (fun k st=> ∃i,i<=(l.takeWhile dy).length/\k=(l.takeWhile dy).length - i/\st=⟨[(0,.slc .shared (l.map .str)),(1,.fn 196 [] []),(7,.int .i64 l.length),(8,.int .i64 (i:Nat))],⟨[],[]⟩,[]⟩)
  (fun e s'=>s'.m=⟨[],[]⟩/\s'.mks=[]/\((e=.exit 0/\(l.takeWhile dy).length=l.length)\/(e=.ret/\ ¬(l.takeWhile dy).length=l.length/\look 4 s'.ts=.int .i64 (l.takeWhile dy).length)))
  (by
   rintro k _ ⟨i,hi,rfl,rfl⟩;by_cases hlt:i<(l.takeWhile dy).length
   ·obtain⟨hx,hg⟩:=BQ (List.getElem?_eq_getElem hlt);generalize(l.takeWhile dy)[i]=x at hx hg;obtain⟨hil,hx'⟩:=List.getElem?_eq_some_iff.1 hx;have w1:dj .i64 ((i:Int)+1)=((i+1:Nat):Int):=dF (by omega);have hp:(0:Int)<=(i:Int):=by omega
    simp -implicitDefEqProofs [qZ,hil,hx',h,hg,w1,hp];exact⟨_,by omega,i+1,by omega,rfl,by simp⟩
   ·have hi':i=(l.takeWhile dy).length:=by omega
    rcases BR (g:=dy) l with k|⟨y,k1,k2⟩
    ·have hil: ¬i<l.length:=by omega
     simp -implicitDefEqProofs [qZ,hil,hi',k]
    ·obtain⟨hil,hx'⟩:=List.getElem?_eq_some_iff.1 k1;have hp:(0:Int)<=((l.takeWhile dy).length:Int):=by omega
     have hne: ¬(l.takeWhile dy).length=l.length:=by omega
     subst hi';generalize(l.takeWhile dy).length=i at*;simp -implicitDefEqProofs [qZ,hil,hx',hp,h,k2,hne])
  N _ _ ⟨0,by omega,rfl,rfl⟩ (by omega)
 rw[show((0:Nat):Int)=0 from rfl]at h1;rcases h5 with⟨rfl,h5⟩|⟨rfl,h5,h6⟩
 ·have:jN dy l= -1:=by unfold jN;rw[if_pos h5]
  rw[this];simp -implicitDefEqProofs [tR,h1]
 ·have:jN dy l=(l.takeWhile dy).length:=by unfold jN;rw[if_neg h5]
  rw[this];simp only[]at h6;simp -implicitDefEqProofs [tR,h1,h6]
theorem Lp (l:List Str) (h: ∀M,cl 220 [.slc .shared (l.map .str),.fn 196 [] []] M=some (.int .i64 (jN dy l),M)):
  dn G false cl yl N tK [.slc .shared (l.map .str),.fn 196 [] []]=some (.bool (!l.all dy),none):=by
 by_cases hall:l.all dy=true
 ·have:jN dy l= -1:=by unfold jN;rw[if_pos ((xu l).2 hall)]
  rw[this]at h;simp -implicitDefEqProofs [tK,h,hall]
 ·have hne: ¬(l.takeWhile dy).length=l.length:=fun hh=>hall ((xu l).1 hh);have:jN dy l=(l.takeWhile dy).length:=by unfold jN;rw[if_neg hne]
  rw[this]at h;have hall':l.all dy=false:=by simpa using hall
  have hp:(0:Int)<=((l.takeWhile dy).length:Int):=by omega
  simp only[hall'];simp -implicitDefEqProofs [tK,h,hp]
def fA (op:Int):Int:=match op with
 |2|3|4|5|6=>2
 |7|8|9|10|16|17=>1
 |_=>0
def fB (op:Int):Int:=match op with
 |2|3|4|5|6=>2
 |7|8|9|16|17=>1
 |10=>17
 |_=>0
def fC (op:Int):Int:=match op with
 |11|16|17=>1
 |12|13|14|15=>2
 |_=>0
def fD (op:Int):Bool:=match op with
 |16|17=>true
 |_=>false
def BU (op:Int):List AV:=[.int .i64 (fA op),.int .i64 (fB op),.int .i64 (fC op),.bool (fD op)]
theorem Lq (t:Nat) (op:Int) (h0:0<=op) (h1:op<18): ∃L,GG t 3=some (.agg L)/\L.length=72/\(L.drop (op.toNat*4)).take 4=BU op:=by
 refine⟨_,rfl,rfl,?_⟩;have:op=0\/op=1\/op=2\/op=3\/op=4\/op=5\/op=6\/op=7\/op=8\/op=9\/op=10\/op=11\/op=12\/op=13\/op=14\/op=15\/op=16\/op=17:=by omega
 rcases this with rfl|rfl|rfl|rfl|rfl|rfl|rfl|rfl|rfl|rfl|rfl|rfl|rfl|rfl|rfl|rfl|rfl|rfl<;>rfl
end
section
variable {G:Gls} {cl:a7} {yl:a7} {N:Nat} {t:Nat}
def jO (n:Nd):Bool:=!decide ((n.ns.length:Int)<fA n.op)&&!decide ((n.ns.length:Int)>fB n.op)&&decide ((n.l.length:Int)=fC n.op)&&n.ns.all dy&&
 (fD n.op||n.so==0)&&(n.op==7||n.op==8||n.nn==0)&&(n.op==8||n.mm==0)
theorem Lr (n:Nd) (h0:0<=n.op) (h1:n.op<18) (h: ∀M,cl 195 [.slc .shared (n.ns.map .str),.fn 196 [] []] M=some (.bool (!n.ns.all dy),M)):
  dn (GG t) false cl yl N gI [av n]=some (.bool (jO n),none):=by
 obtain⟨L,hL,hL2,hL3⟩:=Lq t n.op h0 h1;have hlen:n.op.toNat*4+4<=L.length:=by omega
 unfold BU at hL3;unfold jO;generalize fA n.op=a at*;generalize fB n.op=b at*;generalize fC n.op=c at*;generalize fD n.op=d at*;by_cases c1:(n.ns.length:Int)<a
 ·simp -implicitDefEqProofs [gI,hL,h0,h1,hlen,hL3,c1]
 ·by_cases c2:(n.ns.length:Int)>b
  ·have c2':b<(n.ns.length:Int):=c2;simp -implicitDefEqProofs [gI,hL,h0,h1,hlen,hL3,c1,c2']
  ·have c2': ¬b<(n.ns.length:Int):=c2;by_cases c3:(n.l.length:Int)=c
   ·cases c4:n.ns.all dy with
    |false=>
     rw[c4]at h;simp -implicitDefEqProofs [gI,hL,h0,h1,hlen,hL3,c1,c2',c3,h]
    |true=>
     rw[c4]at h;have big: ∀(b7 b8 bs bn bm:Bool),(n.op==7)=b7->(n.op==8)=b8->(n.so==0)=bs->(n.nn==0)=bn->(n.mm==0)=bm->
       dn (GG t) false cl yl N gI [av n]=some (.bool ((d||bs)&&(b7||b8||bn)&&(b8||bm)),none):=by
      intro b7 b8 bs bn bm h7 h8 hs hn hm;cases d with
      |true=>
       cases b7 with
       |true=>
        cases b8 with
        |true=>simp -implicitDefEqProofs [gI,hL,h0,h1,hlen,hL3,c1,c2',c3,h,h7,h8,hs,hn,hm]
        |false=>cases bm<;>simp -implicitDefEqProofs [gI,hL,h0,h1,hlen,hL3,c1,c2',c3,h,h7,h8,hs,hn,hm]
       |false=>
        cases b8 with
        |true=>simp -implicitDefEqProofs [gI,hL,h0,h1,hlen,hL3,c1,c2',c3,h,h7,h8,hs,hn,hm]
        |false=>
         cases bn with
         |false=>simp -implicitDefEqProofs [gI,hL,h0,h1,hlen,hL3,c1,c2',c3,h,h7,h8,hs,hn,hm]
         |true=>cases bm<;>simp -implicitDefEqProofs [gI,hL,h0,h1,hlen,hL3,c1,c2',c3,h,h7,h8,hs,hn,hm]
      |false=>
       cases bs with
       |false=>simp -implicitDefEqProofs [gI,hL,h0,h1,hlen,hL3,c1,c2',c3,h,h7,h8,hs,hn,hm]
       |true=>
        cases b7 with
        |true=>
         cases b8 with
         |true=>simp -implicitDefEqProofs [gI,hL,h0,h1,hlen,hL3,c1,c2',c3,h,h7,h8,hs,hn,hm]
         |false=>cases bm<;>simp -implicitDefEqProofs [gI,hL,h0,h1,hlen,hL3,c1,c2',c3,h,h7,h8,hs,hn,hm]
        |false=>
         cases b8 with
         |true=>simp -implicitDefEqProofs [gI,hL,h0,h1,hlen,hL3,c1,c2',c3,h,h7,h8,hs,hn,hm]
         |false=>
          cases bn with
          |false=>simp -implicitDefEqProofs [gI,hL,h0,h1,hlen,hL3,c1,c2',c3,h,h7,h8,hs,hn,hm]
          |true=>cases bm<;>simp -implicitDefEqProofs [gI,hL,h0,h1,hlen,hL3,c1,c2',c3,h,h7,h8,hs,hn,hm]
     rw[big _ _ _ _ _ rfl rfl rfl rfl rfl];simp[c1,c2',c3]
   ·have c3':((n.l.length:Int) !=c)=true:=by simp[c3]
    simp -implicitDefEqProofs [gI,hL,h0,h1,hlen,hL3,c1,c2',c3,c3']
end
end Go.Proofs.Ae
