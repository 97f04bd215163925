/- The package variables; contracts of the library; closed runs. -/
import Derived.Test.YtjkmcceipabejaaGreatDoorF
import Derived.Shelf.Strings.OnBuilder
import Derived.Test.YtjkmcceipabejaaGreatDoorProg
import Derived.Shelf.LaysM
import Derived.Shelf.Strconv.Itoa3
import Derived.Below
set_option linter.unusedSimpArgs false
set_option linter.unusedVariables false
set_option linter.unusedSectionVars false
namespace Go.Proofs.Ae
open Go Go.RowKit
def eb (s:List Nat):AV:=.str (s.map UInt8.ofNat)
def Gv (g:Nat):Option AV:=match g with
 |0=>some (.agg [eb [118,101,114,116,101,120],eb [101,100,103,101],eb [115,101,116],eb [101,100,103,101,115]])
 |1=>some (.agg [eb [],eb [],eb [61],eb [105,110],eb [115,117,98],eb [97,100,106],eb [111,110],eb [],eb [],eb [],eb [],eb [110,111,116],eb [97,110,100],eb [111,114],eb [105,109,112,108,105,101,115],eb [105,102,102],eb [115,111,109,101],eb [101,118,101,114,121]])
 |2=>some (.agg ([0,0,0,0,0,0,0,0,0,0,0,5,4,3,2,1,5,5].map fun(i:Int)=>.int .i64 i))
 |3=>some (.agg ([(0,0,0,false),(0,0,0,false),(2,2,0,false),(2,2,0,false),(2,2,0,false),(2,2,0,false),(2,2,0,false),(1,1,0,false),(1,1,0,false),(1,1,0,false),(1,17,0,false),(0,0,1,false),(0,0,2,false),(0,0,2,false),(0,0,2,false),(0,0,2,false),(1,1,1,true),(1,1,1,true)].flatMap fun(x:Int×Int×Int×Bool)=>[.int .i64 x.1,.int .i64 x.2.1,.int .i64 x.2.2.1,.bool x.2.2.2]))
 |4=>some (.slc .shared ([0,1,2,3].map fun(i:Int)=>.int .i64 i))
 |6=>some (.agg ((List.range 256).map fun i=>.int .u8 (if i==9||i==10||i==11||i==12||i==13||i==32 then 1 else 0)))
 |_=>none
def pN:AV:=.agg ((List.range 20).map fun i=>.int .u64 ((10^i:Nat):Int))
def kws:AV:=.slc .shared [eb [102,105,110,100],eb [115,111,109,101],eb [101,118,101,114,121],eb [118,101,114,116,101,120],eb [101,100,103,101],eb [115,101,116],eb [101,100,103,101,115],eb [116,114,117,101],eb [102,97,108,115,101],eb [110,111,116],eb [97,110,100],eb [111,114],eb [105,109,112,108,105,101,115],eb [105,102,102],eb [105,110],eb [115,117,98],eb [97,100,106],eb [111,110],eb [105,115],eb [111,110,101],eb [115,105,122,101],eb [109,111,100],eb [108,101,97,115,116],eb [103,114,101,97,116,101,115,116],eb [97,115,107],eb [108,101,116]]
def lp (f:Nat):Bool:=match f with
 |71=>true
 |_=>false
def pO (p:List Str×Str):List AV:=[.slc .shared (p.1.map .str),.str p.2]
theorem w9 (a b:List Str×Str) (h:pO a=pO b):a=b:=by
 simp only[pO,List.cons.injEq,AV.slc.injEq,AV.str.injEq,true_and,and_true]at h;have:=congrArg kY h.1;rw[sX,sX]at this;exact Prod.ext (Option.some.inj this) h.2
end Go.Proofs.Ae
namespace Go.Proofs
open Go.Shelf
def Tryz.lays156_ren:Go.Shelf.Ren:=⟨fun|156=>49|165=>103|166=>48|169=>51|240=>102|241=>162|276=>161|277=>197|n=>n,fun|31=>29|9=>9|3=>3|4=>4|0=>0|20=>20|72=>103|76=>108|70=>100|37=>101|75=>107|127=>182|164=>228|5=>5|80=>112|n=>n,fun|n=>n⟩
theorem Tryz.lays156:Go.Proofs.Lays.n156 Tryz.prog Tryz.lays156_ren:={
 mixed:=by kernel_rfl
 f156:=Tryz.func49.trans (congrArg some (by kernel_rfl))
 f165:=Tryz.func103.trans (congrArg some (by kernel_rfl))
 f166:=Tryz.func48.trans (congrArg some (by kernel_rfl))
 f169:=Tryz.func51.trans (congrArg some (by kernel_rfl))
 f240:=Tryz.func102.trans (congrArg some (by kernel_rfl))
 f241:=Tryz.func162.trans (congrArg some (by kernel_rfl))
 f276:=Tryz.func161.trans (congrArg some (by kernel_rfl))
 f277:=Tryz.func197.trans (congrArg some (by kernel_rfl))
 t0:=Tryz.underlying0
 a0:=Tryz.isAgg0
 z0:=Tryz.sizeOf0
 v0:=Tryz.zeroValue0
 t3:=Tryz.underlying3
 a3:=Tryz.isAgg3
 z3:=Tryz.sizeOf3
 v3:=Tryz.zeroValue3
 t4:=Tryz.underlying4
 a4:=Tryz.isAgg4
 z4:=Tryz.sizeOf4
 v4:=Tryz.zeroValue4
 t9:=Tryz.underlying9
 a9:=Tryz.isAgg9
 z9:=Tryz.sizeOf9
 v9:=Tryz.zeroValue9
 t20:=Tryz.underlying20
 a20:=Tryz.isAgg20
 z20:=Tryz.sizeOf20
 v20:=Tryz.zeroValue20
 t31:=Tryz.underlying29
 a31:=Tryz.isAgg29
 z31:=Tryz.sizeOf29
 v31:=Tryz.zeroValue29
 t37:=Tryz.underlying101
 a37:=Tryz.isAgg101
 z37:=Tryz.sizeOf101
 v37:=Tryz.zeroValue101
 t70:=Tryz.underlying100
 a70:=Tryz.isAgg100
 z70:=Tryz.sizeOf100
 v70:=Tryz.zeroValue100
 t72:=Tryz.underlying103
 a72:=Tryz.isAgg103
 z72:=Tryz.sizeOf103
 v72:=Tryz.zeroValue103
 t75:=Tryz.underlying107
 a75:=Tryz.isAgg107
 z75:=Tryz.sizeOf107
 v75:=Tryz.zeroValue107
 t76:=Tryz.underlying108
 a76:=Tryz.isAgg108
 z76:=Tryz.sizeOf108
 v76:=Tryz.zeroValue108
 t127:=Tryz.underlying182
 a127:=Tryz.isAgg182
 z127:=Tryz.sizeOf182
 v127:=Tryz.zeroValue182
 t164:=Tryz.underlying228
 a164:=Tryz.isAgg228
 z164:=Tryz.sizeOf228
 v164:=Tryz.zeroValue228}
theorem Tryz.Builder_Extra_156:Builder.Extra Tryz.prog Tryz.lays156_ren:={
 sizeBuilder:=by kernel_rfl
 liesBuilder:=by kernel_rfl
 t5:=Tryz.underlying5
 a5:=Tryz.isAgg5
 z5:=Tryz.sizeOf5
 v5:=Tryz.zeroValue5
 infoByte:=by kernel_rfl
 cellsByte:=by kernel_rfl
 sizeByte:=by kernel_rfl
 neB5:=by decide}
end Go.Proofs
namespace Go.Proofs.Ae
open Go Go.RowKit
theorem Bl {U:Nat->Nat} {w:World} {bs:List (Option Nat)} {es:List BA}: ∀{l:List Str} {vs:List Value},dt U w bs es (l.map .str) vs->vs=l.map fun s=>Value.string ⟨s.toArray⟩
 |[],_,.nil=>rfl
 |x::l,_,.cons h _ t=>by
  cases h;rw[Bl t];rfl
theorem Bm: ∀l:List Str,dM (l.map AV.str)=some (l.map .str)
 |[]=>rfl
 |s::l=>by simp[dM,Bm l]
def il:Nat:=140737488355328
theorem Bn {G:Gls} (sp:Sp) (l:List Str) (sep:Str) (hl:(Lib.join l sep).length<=il) (hn:l.length<=il):eX Tryz.prog G 49 [.slc sp (l.map .str),.str sep] (.str (Lib.join l sep),none):=by
 intro U bs es w args hG hV hfr;cases hV with
 |cons hx t=>cases t with
  |cons hy t=>
   cases t;cases hy;refine⟨Go.Proofs.enters_of Tryz.func49 (by kernel_rfl) rfl _ _,?_⟩;have fin: ∀{w':World},Below w.heap.size w w'->kW U w (.str (Lib.join l sep),none) (.string ⟨(Lib.join l sep).toArray⟩) U w':=by
    intro w' bl;exact⟨bl,fun _ _=>rfl,fun b hb'=>hfr b (Nat.le_trans bl.size hb'),.str,fun _ _ _ _ _ _ h=>by cases h⟩
   generalize hm:l.map AV.str=m at hx;cases hx with
   |slcN hs=>
    have:l=[]:=by simpa using hm
    subst this;refine(Any.strings_Join_none Tryz.lays156 Tryz.Builder_Extra_156 none 0 ⟨sep.toArray⟩ w).mono ?_;rintro e w' ⟨rfl,rfl⟩;exact⟨_,U,rfl,fin (Below.refl _ _)⟩
   |slc hf hr ha hz hs hc=>
    rename_i cs vs p sz cap
    subst hm;rw[Bm]at hf;cases hf;have hv:=Bl hr;subst hv;rw[List.length_map]at hc⊢;cases hl0:l with
    |nil=>
     subst hl0;refine(Any.strings_Join_none Tryz.lays156 Tryz.Builder_Extra_156 (some p) cap ⟨sep.toArray⟩ w).mono ?_;rintro e w' ⟨rfl,rfl⟩;exact⟨_,U,rfl,fin (Below.refl _ _)⟩
    |cons x0 l0=>
     have hat: ∀(i:Nat) (s:Str),l[i]? =some s->w.cell? (p.add i)=some (.string ⟨s.toArray⟩):=by
      intro i s hi;exact(ha i _ (by rw[List.getElem?_map,hi];rfl)).1
     have h0:=hat 0 x0 (by rw[hl0];rfl);obtain⟨bk,o,sp⟩:=p;have hsp:sp=none:=by
      unfold World.cell? at h0;simp only[Addr.add,if_true]at h0;split at h0
      ·cases sp with
       |none=>rfl
       |some k=>simp at h0
      ·cases h0
     subst hsp;have hbk:bk<w.heap.size:=by
      unfold World.cell? at h0;simp only[Addr.add,if_true]at h0;split at h0
      ·rename_i h
       exact(Array.getElem?_eq_some_iff.1 h).1
      ·cases h0
     have e1:((l.map fun s=>(⟨s.toArray⟩:ByteArray)).map (·.data.toList))=l:=by
      rw[List.map_map]
      conv=>rhs;rw[<-List.map_id l]
      exact List.map_congr_left fun s _=>by simp
     have e2:(⟨sep.toArray⟩:ByteArray).data.toList=sep:=by simp
     have h:=Any.strings_Join Tryz.lays156 Tryz.Builder_Extra_156 bk o cap (l.map fun s=>(⟨s.toArray⟩:ByteArray)) ⟨sep.toArray⟩ w (fun j x hj=>by
      rw[List.getElem?_map]at hj;cases hs':l[j]? with
      |none=>rw[hs']at hj;cases hj
      |some s=>
       rw[hs']at hj;cases hj;have:=hat j s hs'
       rwa [show(⟨bk,o,none⟩:Addr).add j=⟨bk,o+j,none⟩ from by unfold Addr.add;split<;>simp_all]at this) hbk (by rw[List.length_map];exact hn) (by simpa using hc) (by rw[e1,e2];exact hl)
     rw[e1,e2,List.length_map]at h;rw[hl0]at h;refine h.mono ?_;rintro e w' ⟨rfl,bl⟩;rw[<-hl0];exact⟨_,U,rfl,fin bl⟩
end Go.Proofs.Ae
namespace Go.Proofs
open Go.Shelf
def Tryz.laysM171_ren:Go.Shelf.Ren:=⟨fun|171=>179|243=>210|246=>226|283=>238|284=>239|285=>240|286=>241|129=>190|317=>261|318=>262|319=>263|320=>264|337=>268|338=>269|n=>n,fun|3=>3|9=>9|2=>2|4=>4|171=>301|0=>0|53=>253|37=>101|5=>5|173=>303|212=>326|51=>251|20=>20|213=>327|46=>207|232=>334|233=>335|n=>n,fun|17=>10|18=>11|19=>12|n=>n⟩
theorem Tryz.laysM171:Go.Proofs.LaysM.n171 Tryz.prog Tryz.laysM171_ren:={
 mixed:=by kernel_rfl
 f129:=Tryz.func190.trans (congrArg some (by kernel_rfl))
 f171:=Tryz.func179.trans (congrArg some (by kernel_rfl))
 f243:=Tryz.func210.trans (congrArg some (by kernel_rfl))
 f246:=Tryz.func226.trans (congrArg some (by kernel_rfl))
 f283:=Tryz.func238.trans (congrArg some (by kernel_rfl))
 f284:=Tryz.func239.trans (congrArg some (by kernel_rfl))
 f285:=Tryz.func240.trans (congrArg some (by kernel_rfl))
 f286:=Tryz.func241.trans (congrArg some (by kernel_rfl))
 f317:=Tryz.func261.trans (congrArg some (by kernel_rfl))
 f318:=Tryz.func262.trans (congrArg some (by kernel_rfl))
 f319:=Tryz.func263.trans (congrArg some (by kernel_rfl))
 f320:=Tryz.func264.trans (congrArg some (by kernel_rfl))
 f337:=Tryz.func268.trans (congrArg some (by kernel_rfl))
 f338:=Tryz.func269.trans (congrArg some (by kernel_rfl))
 t0:=Tryz.underlying0
 a0:=Tryz.isAgg0
 z0:=Tryz.sizeOf0
 v0:=Tryz.zeroValue0
 t2:=Tryz.underlying2
 a2:=Tryz.isAgg2
 z2:=Tryz.sizeOf2
 v2:=Tryz.zeroValue2
 t3:=Tryz.underlying3
 a3:=Tryz.isAgg3
 z3:=Tryz.sizeOf3
 v3:=Tryz.zeroValue3
 t4:=Tryz.underlying4
 a4:=Tryz.isAgg4
 z4:=Tryz.sizeOf4
 v4:=Tryz.zeroValue4
 t5:=Tryz.underlying5
 a5:=Tryz.isAgg5
 z5:=Tryz.sizeOf5
 v5:=Tryz.zeroValue5
 t9:=Tryz.underlying9
 a9:=Tryz.isAgg9
 z9:=Tryz.sizeOf9
 v9:=Tryz.zeroValue9
 t20:=Tryz.underlying20
 a20:=Tryz.isAgg20
 z20:=Tryz.sizeOf20
 v20:=Tryz.zeroValue20
 t37:=Tryz.underlying101
 a37:=Tryz.isAgg101
 z37:=Tryz.sizeOf101
 v37:=Tryz.zeroValue101
 t46:=Tryz.underlying207
 a46:=Tryz.isAgg207
 z46:=Tryz.sizeOf207
 v46:=Tryz.zeroValue207
 t51:=Tryz.underlying251
 a51:=Tryz.isAgg251
 z51:=Tryz.sizeOf251
 v51:=Tryz.zeroValue251
 t53:=Tryz.underlying253
 a53:=Tryz.isAgg253
 z53:=Tryz.sizeOf253
 v53:=Tryz.zeroValue253
 t171:=Tryz.underlying301
 a171:=Tryz.isAgg301
 z171:=Tryz.sizeOf301
 v171:=Tryz.zeroValue301
 t173:=Tryz.underlying303
 a173:=Tryz.isAgg303
 z173:=Tryz.sizeOf303
 v173:=Tryz.zeroValue303
 t212:=Tryz.underlying326
 a212:=Tryz.isAgg326
 z212:=Tryz.sizeOf326
 v212:=Tryz.zeroValue326
 t213:=Tryz.underlying327
 a213:=Tryz.isAgg327
 z213:=Tryz.sizeOf327
 t232:=Tryz.underlying334
 a232:=Tryz.isAgg334
 z232:=Tryz.sizeOf334
 v232:=Tryz.zeroValue334
 t233:=Tryz.underlying335
 a233:=Tryz.isAgg335
 z233:=Tryz.sizeOf335
 v233:=Tryz.zeroValue335
 g17:=by kernel_rfl
 g18:=by kernel_rfl
 g19:=by kernel_rfl
 i0:=by kernel_rfl
 i2:=by kernel_rfl
 i3:=by kernel_rfl
 i4:=by kernel_rfl
 i5:=by kernel_rfl
 i9:=by kernel_rfl
 i20:=by kernel_rfl
 i37:=by kernel_rfl
 i46:=by kernel_rfl
 i51:=by kernel_rfl
 i53:=by kernel_rfl
 i171:=by kernel_rfl
 i173:=by kernel_rfl
 i212:=by kernel_rfl
 i232:=by kernel_rfl
 i233:=by kernel_rfl
 m17:=by kernel_rfl
 m18:=by kernel_rfl
 m19:=by kernel_rfl}
end Go.Proofs
namespace Go.Proofs.Ae
open Go Go.RowKit
def GG (t g:Nat):Option AV:=match Nat.beq g 9 with
 |true=>some (.iface t .undef)
 |false=>match Nat.beq g 10 with
  |true=>some pN
  |false=>Gv g
theorem JX {t:Nat} {U:Nat->Nat} {w:World} (h:fQ U w (GG t)):fQ U w Gv:=by
 intro g v hg;refine h g v ?_;unfold GG;cases hb:Nat.beq g 9 with
 |false=>cases hc:Nat.beq g 10 with
  |false=>exact hg
  |true=>
   have:=Nat.eq_of_beq_eq_true hc;subst this;simp[Gv]at hg
 |true=>
  have:=Nat.eq_of_beq_eq_true hb;subst this;simp[Gv]at hg
theorem uh {t f:Nat} {ags:List AV} {r:AV×Option Arr} (h:eX Tryz.prog Gv f ags r):eX Tryz.prog (GG t) f ags r:=
 fun U bs es w args hG hV hfr=>h U bs es w args (JX hG) hV hfr
theorem JY (n:Int) (h0: -9223372036854775808≤n) (h1:n≤9223372036854775807) (w:World) (htab:Lib.TabIs Tryz.prog w "internal/strconv.uint64pow10" .u64 Lib.pow10Tab):
  Calls Tryz.prog 179 #[.int .i64 n] w fun e w'=>e=.returned (.string ⟨(Lib.itoa n).toArray⟩)/\ ∃k os,w'=Go.Sort.grow (w.drewN k) os:=Any.strconv_Itoa Tryz.laysM171 n h0 h1 w htab
theorem Bo {U:Nat->Nat} {w:World} {k:IntKind}: ∀{l:List Int} {vs:List Value},dt U w [] [] (l.map (.int k)) vs->vs=l.map (Value.int k)
 |[],_,.nil=>rfl
 |x::l,_,.cons h _ t=>by
  cases h;rw[Bo t];rfl
theorem JZ:cells pN=some (Lib.pow10Tab.map (AV.int .u64)):=by
 simp only[pN,cells,Lib.pow10Tab,List.map_map];rfl
theorem J0 {U:Nat→Nat} {w:World} {t:Nat} (hG:fQ U w (GG t)):Lib.TabIs Tryz.prog w "internal/strconv.uint64pow10" .u64 Lib.pow10Tab:=by
 obtain⟨cs,vs,h1,h2,h3,h4⟩:=hG 10 pN rfl;rw[JZ]at h1;cases h1;have hv:=Bo h2;have hl:vs.length=20:=by rw[hv,List.length_map,Lib.pow10Tab_length]
 have h5:=h4 (by omega);have hg:Tryz.prog.globalNamed "internal/strconv.uint64pow10" =some 10:=by kernel_rfl
 unfold Lib.TabIs World.var?;rw[hg];simp only[Option.bind_some];unfold csz at h5;split at h5
 ·rename_i c ty z hc
  simp only[Option.some.injEq]at h5;rw[hc];simp only[Option.some.injEq];have e:vs=Lib.pow10Tab.map fun z=>Value.int .u64 z:=hv;rw[<-e];apply Array.ext';apply List.ext_getElem?;intro i;by_cases hi:i<vs.length
  ·obtain⟨k1,-⟩:=h3 i vs[i] (List.getElem?_eq_getElem hi);have ea:(⟨10,0,none⟩:Addr).add i=⟨10,i,none⟩:=by unfold Addr.add;split<;>simp_all
   rw[ea]at k1;simp only[World.cell?,hc]at k1;rw[List.getElem?_eq_getElem hi];simpa using k1
  ·rw[List.getElem?_eq_none (by simp;omega),List.getElem?_eq_none (by simp;omega)]
 ·cases h5
theorem xa {u:Nat} (h:u<10):Lib.decDigits u=[UInt8.ofNat (48+u)]:=by rw[Lib.decDigits,dif_pos h]
theorem Bp {u:Nat} (h: ¬u<10):Lib.decDigits u=Lib.decDigits (u / 10)++[UInt8.ofNat (48+u%10)]:=by rw[Lib.decDigits,dif_neg h]
theorem Bq: ∀(k u:Nat),u<10^(k+1)->(Lib.decDigits u).length<=k+1
 |k,u,h=>by
  by_cases hu:u<10
  ·rw[xa hu];simp
  ·cases k with
   |zero=>simp at h;omega
   |succ k=>
    rw[Bp hu,List.length_append];have:=Bq k (u / 10) (by rw[Nat.pow_succ]at h;omega);simp;omega
theorem Br {t:Nat} (i:Nat) (hi:i<big):eX Tryz.prog (GG t) 179 [.int .i64 (i:Int)] (.str (Lib.decDigits i),none):=by
 intro U bs es w args hG hV hfr;cases hV with
 |cons hx t=>
  cases t;cases hx;refine⟨Go.Proofs.enters_of Tryz.func179 (by kernel_rfl) rfl _ _,?_⟩;have hb:i<4294967296:=hi;refine(JY (i:Int) (by omega) (by omega) w (J0 hG)).mono ?_;rintro e w' ⟨rfl,k,os,rfl⟩;have e1:Lib.itoa (i:Int)=Lib.decDigits i:=by
   unfold Lib.itoa;rw[if_neg (by omega)];rfl
  have bl:Below w.heap.size w (Go.Sort.grow (w.drewN k) os):=by
   refine⟨rfl,rfl,rfl,by simp,fun j hj=>?_⟩;rw[Go.Sort.heap_grow_old _ _ (by simpa using hj)];rfl
  rw[e1];exact⟨_,U,rfl,bl,fun _ _=>rfl,fun b hb'=>hfr b (Nat.le_trans bl.size hb'),.str,fun _ _ _ _ _ _ h=>by cases h⟩
end Go.Proofs.Ae
namespace Go.Proofs.Ae
open Go Go.RowKit
set_option maxRecDepth 1000000
def jn (sep:Str):List Str->Str
 |[]=>[]
 |[x]=>x
 |x::xs=>x++(sep++jn sep xs)
theorem xb (sep:Str): ∀l:List Str,Lib.join l sep=jn sep l
 |[]=>rfl
 |[x]=>by rw[Lib.join_one];rfl
 |x::y::l=>by
  have:=xb sep (y::l);rw[Lib.join_cons]at this⊢;simp only[jn]at this⊢;rw[<-this];simp[Lib.joinTail]
def ui (f:Nat) (ags:List AV):dC:=match f with
 |49=>match ags with
  |[.slc _ l,.str sep]=>match kY l with
   |some ss=>if(jn sep ss).length<=100000/\ss.length<=100000 then some (.str (jn sep ss),none)else none
   |none=>none
  |_=>none
 |70=>it 74 2 ags
 |125=>it 9 1 ags
 |179=>match ags with
  |[.int .i64 n]=>if n=1 then some (.str [49],none)else none
  |_=>none
 |_=>none
theorem oA {t:Nat}:dP Tryz.prog (GG t) ui:=by
 intro f ags r h;unfold ui at h;split at h
 ·split at h
  ·split at h
   ·rename_i sp l sep ss hs
    split at h
    ·rename_i hl
     cases h;rw[AQ hs,<-xb];rw[<-xb]at hl;exact Bn _ _ _ (Nat.le_trans hl.1 (by decide)) (Nat.le_trans hl.2 (by decide))
    ·cases h
   ·cases h
  ·cases h
 ·exact Bj h
 ·exact Bi h
 ·split at h
  ·split at h
   ·rename_i hn
    cases h;subst hn;have:=Br (t:=t) 1 (by decide);rw[xa (by decide)]at this;exact this
   ·cases h
  ·cases h
 ·cases h
def TA:lK:=⟨fns,ui,lp⟩
theorem J8 {t:Nat}:oQ (eY (GG t) TA 100000 false 200).1 167 [] kws=true:=by kernel_rfl
theorem Bs {t:Nat}:eX Tryz.prog (GG t) 167 [] (kws,none):=fun U bs es w args hG hV hfr=>sU (je (T:=TA) (N:=100000) fp kis dz oA 200 false).1 (sT J8) rfl hG hV hfr
def xc (f:Nat) (ags:List AV):dC:=match Nat.beq f 167,ags with
 |true,[]=>some (kws,none)
 |_,_=>ui f ags
theorem oB {t:Nat}:dP Tryz.prog (GG t) xc:=by
 intro f ags r h;unfold xc at h;split at h
 ·rename_i hb
  have:=Nat.eq_of_beq_eq_true hb;subst this;cases h;exact Bs
 ·exact oA _ _ _ h
def TB:lK:=⟨fns,xc,lp⟩
theorem J9 {t:Nat}:oQ (eY (GG t) TB 100000 false 200).1 9 [] (.bool true)=true:=by kernel_rfl
theorem Ka {t:Nat}:eX Tryz.prog (GG t) 9 [] (.bool true,none):=fun U bs es w args hG hV hfr=>sU (je (T:=TB) (N:=100000) fp kis dz oB 200 false).1 (sT J9) rfl hG hV hfr
end Go.Proofs.Ae
