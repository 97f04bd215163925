/- The functions in their compiled form, printed by program. -/
import Derived.Test.YtjkmcceipabejaaGreatDoorC
set_option linter.unusedSimpArgs false
set_option linter.unusedVariables false
set_option linter.unusedSectionVars false
namespace Go.Proofs.Ae.Q
open Go
structure KT (n:Nat)
abbrev Y (n:Nat) (A:Type):=CoeFun (KT n) fun _=>A
def X:KT 0:=⟨⟩
instance:Y 0 (List CO->dH->dH):=⟨fun _ l c=>.seq (.reg l) c⟩
def R:KT 1:=⟨⟩
instance:Y 1 (List CO->dH):=⟨fun _ l=>.seq (.reg l) .ret⟩
def W:KT 2:=⟨⟩
instance:Y 2 (List CO->Nat->dH->dH):=⟨fun _ l n c=>.seq (.seq (.reg l) (.cond (.tmp n) .skip (.exit 0))) c⟩
def I:KT 3:=⟨⟩
instance:Y 3 (List CO->Nat->dH->dH->dH):=⟨fun _ l n a c=>.seq (.seq (.reg l) (.cond (.tmp n) a .skip)) c⟩
def J:KT 4:=⟨⟩
instance:Y 4 (List CO->Nat->dH->dH->dH->dH):=⟨fun _ l n a b c=>.seq (.seq (.reg l) (.cond (.tmp n) a b)) c⟩
def x:KT 5:=⟨⟩
instance:Y 5 (dH->dH->dH):=⟨fun _ a b=>.seq a b⟩
def r:KT 6:=⟨⟩
instance:Y 6 (List CO->dH):=⟨fun _ l=>.reg l⟩
def k:KT 7:=⟨⟩
instance:Y 7 (Nat->dH->dH):=⟨fun _ n a=>.cond (.tmp n) a .skip⟩
def K:KT 8:=⟨⟩
instance:Y 8 (Nat->dH->dH->dH):=⟨fun _ n a b=>.cond (.tmp n) a b⟩
def h:KT 9:=⟨⟩
instance:Y 9 (Nat->dH->dH):=⟨fun _ n c=>.block n c⟩
def D:KT 10:=⟨⟩
instance:Y 10 (List DOp->dH):=⟨fun _ l=>.drg l⟩
def t:KT 11:=⟨⟩
instance:Y 11 (Nat->Opd):=⟨fun _ n=>.tmp n⟩
def i:KT 12:=⟨⟩
instance:Y 12 (Int->Opd):=⟨fun _ k=>.const (.int .i64 k)⟩
def a:KT 13:=⟨⟩
instance:Y 13 (Nat->COp->CO):=⟨fun _ d x=>⟨some d,x,none⟩⟩
def n:KT 14:=⟨⟩
instance:Y 14 (COp->CO):=⟨fun _ x=>⟨none,x,none⟩⟩
def b:KT 15:=⟨⟩
instance:Y 15 (Nat->COp->Nat->CO):=⟨fun _ d x k=>⟨some d,x,some (k,true)⟩⟩
def c:KT 16:=⟨⟩
instance:Y 16 (Nat->COp->Nat->CO):=⟨fun _ d x k=>⟨some d,x,some (k,false)⟩⟩
def d:KT 17:=⟨⟩
instance:Y 17 (CO->List (Nat×Option Nat)->DOp):=⟨fun _ c l=>⟨c,.light 0 0,l⟩⟩
def q:KT 18:=⟨⟩
instance:Y 18 (Nat->Nat×Option Nat):=⟨fun _ k=>(k,none)⟩
def s:KT 19:=⟨⟩
instance:Y 19 (Nat->Nat->Nat×Option Nat):=⟨fun _ k j=>(k,some j)⟩
def F:KT 20:=⟨⟩
instance:Y 20 (Nat->dH->Nat->CFn):=⟨fun _ n b r=>⟨n,true,b,[.tmp r]⟩⟩
def G:KT 21:=⟨⟩
instance:Y 21 (Nat->dH->Nat->CFn):=⟨fun _ n b r=>⟨n,false,b,[.tmp r]⟩⟩
def L:KT 22:=⟨⟩
instance:Y 22 (Nat->dH->Nat->Nat->CFn):=⟨fun _ n b r s=>⟨n,true,b,[.tmp r,.tmp s]⟩⟩
def M:KT 23:=⟨⟩
instance:Y 23 (Nat->dH->Nat->Nat->CFn):=⟨fun _ n b r s=>⟨n,false,b,[.tmp r,.tmp s]⟩⟩
def e:KT 24:=⟨⟩
instance:Y 24 (Nat->Nat->CO):=⟨fun _ a b=>⟨some a,.mov (.tmp b),none⟩⟩
def f:KT 25:=⟨⟩
instance:Y 25 (Nat->CO):=⟨fun _ a=>⟨some a,.mov (.tmp 0),none⟩⟩
def g:KT 26:=⟨⟩
instance:Y 26 (Nat->Nat->CO):=⟨fun _ a b=>⟨some a,.load .sc (.tmp b),none⟩⟩
def j:KT 27:=⟨⟩
instance:Y 27 (Nat->CO):=⟨fun _ a=>⟨some a,.mov (.const (.int .i64 0)),none⟩⟩
def l:KT 28:=⟨⟩
instance:Y 28 (Nat->Nat->Nat->CO):=⟨fun _ a b c=>⟨some a,.call (.fn b) [.tmp c],none⟩⟩
def m:KT 29:=⟨⟩
instance:Y 29 (Nat->Nat->Nat->CO):=⟨fun _ a b c=>⟨none,.store a (.tmp b) (.tmp c),none⟩⟩
def o:KT 30:=⟨⟩
instance:Y 30 (Nat->Nat->CO):=⟨fun _ a b=>⟨some a,.faddr 1 .sc (.tmp b),none⟩⟩
def p:KT 31:=⟨⟩
instance:Y 31 (Nat->Nat->CO):=⟨fun _ a b=>⟨some a,.bin .add (.tmp b) (.const (.int .i64 1)),none⟩⟩
def u:KT 32:=⟨⟩
instance:Y 32 (Nat->Nat->CO):=⟨fun _ a b=>⟨some a,.nilck (.tmp b),none⟩⟩
def v:KT 33:=⟨⟩
instance:Y 33 (Nat->Nat->Nat->CO):=⟨fun _ a b c=>⟨some a,.extr (.tmp b) c,none⟩⟩
def w:KT 34:=⟨⟩
instance:Y 34 (Nat->CO):=⟨fun _ a=>⟨some a,.mov (.tmp 5),none⟩⟩
def y:KT 35:=⟨⟩
instance:Y 35 (Nat->Nat->Nat->Nat->DOp):=⟨fun _ a b c d=>⟨⟨some a,.load .sc (.tmp b),none⟩,.light 0 0,[(c,some d)]⟩⟩
def z:KT 36:=⟨⟩
instance:Y 36 (Nat->Int->CO):=⟨fun _ a b=>⟨some a,.mov (.const (.int .i64 b)),none⟩⟩
def A:KT 37:=⟨⟩
instance:Y 37 (Nat->Nat->CO):=⟨fun _ a b=>⟨some a,.load (.ag 6) (.tmp b),none⟩⟩
def B:KT 38:=⟨⟩
instance:Y 38 (Nat->Nat->CO):=⟨fun _ a b=>⟨some a,.faddr 0 .sc (.tmp b),none⟩⟩
def C:KT 39:=⟨⟩
instance:Y 39 (Nat->Nat->CO):=⟨fun _ a b=>⟨some a,.len 1 (.tmp b),none⟩⟩
def E:KT 40:=⟨⟩
instance:Y 40 (Nat->Nat->Nat->CO):=⟨fun _ a b c=>⟨some a,.faddr b .sc (.tmp c),none⟩⟩
def H:KT 41:=⟨⟩
instance:Y 41 (Nat->Nat->Nat->Nat->Nat->DOp):=⟨fun _ a b c d e=>⟨⟨some a,.faddr b .sc (.tmp c),none⟩,.light 0 d,[(e,none)]⟩⟩
def N:KT 42:=⟨⟩
instance:Y 42 (Nat->Nat->Nat->DOp):=⟨fun _ a b c=>⟨⟨some a,.mov (.tmp b),none⟩,.light 0 0,[(c,none)]⟩⟩
def O:KT 43:=⟨⟩
instance:Y 43 (Nat->CO):=⟨fun _ a=>⟨some a,.mov (.const (.bool false)),none⟩⟩
def P:KT 44:=⟨⟩
instance:Y 44 (Nat->Nat->Nat->CO):=⟨fun _ a b c=>⟨some a,.bin .lss (.tmp b) (.tmp c),none⟩⟩
def S:KT 45:=⟨⟩
instance:Y 45 (Nat->Nat->CO):=⟨fun _ a b=>⟨none,.store 6 (.tmp a) (.tmp b),none⟩⟩
def T:KT 46:=⟨⟩
instance:Y 46 (Nat->CO):=⟨fun _ a=>⟨some a,.mov (.tmp 3),none⟩⟩
def U:KT 47:=⟨⟩
instance:Y 47 (Nat->CO):=⟨fun _ a=>⟨some a,.mov (.tmp 4),none⟩⟩
def V:KT 48:=⟨⟩
instance:Y 48 (Nat->Nat->Nat->CO):=⟨fun _ a b c=>⟨some a,.mov (.tmp b),some (c,false)⟩⟩
def Z:KT 49:=⟨⟩
instance:Y 49 (Nat->Nat->Int->CO):=⟨fun _ a b c=>⟨some a,.bin .eql (.tmp b) (.const (.int .i64 c)),none⟩⟩
def aa:KT 50:=⟨⟩
instance:Y 50 (Nat->CO):=⟨fun _ a=>⟨some 4,.mov (.tmp a),none⟩⟩
def ab:KT 51:=⟨⟩
instance:Y 51 (Nat->Nat->Nat->CO):=⟨fun _ a b c=>⟨some a,.pick (.tmp b) (.const (.bool true)) (.tmp c),none⟩⟩
def ac:KT 52:=⟨⟩
instance:Y 52 (Nat->CO):=⟨fun _ a=>⟨some 2,.mov (.tmp a),none⟩⟩
def ad:KT 53:=⟨⟩
instance:Y 53 (Nat->CO):=⟨fun _ a=>⟨some a,.mov (.tmp 1),none⟩⟩
def ae:KT 54:=⟨⟩
instance:Y 54 (Nat->CO):=⟨fun _ a=>⟨some a,.mov (.tmp 10),none⟩⟩
def af:KT 55:=⟨⟩
instance:Y 55 (Nat->CO):=⟨fun _ a=>⟨some a,.mov (.tmp 9),none⟩⟩
def ag:KT 56:=⟨⟩
instance:Y 56 (Nat->Nat->Nat->Nat->Nat->DOp):=⟨fun _ a b c d e=>⟨⟨some a,.load .sc (.tmp b),none⟩,.light 0 c,[(d,some e)]⟩⟩
def ah:KT 57:=⟨⟩
instance:Y 57 (Nat->Nat->Nat->CO):=⟨fun _ a b c=>⟨some a,.mov (.tmp b),some (c,true)⟩⟩
def ai:KT 58:=⟨⟩
instance:Y 58 (Nat->Nat->Nat->Nat->Nat->Nat->Nat->DOp):=⟨fun _ a b c d e f g=>⟨⟨some a,.faddr b .sc (.tmp c),none⟩,.light d e,[(f,some g)]⟩⟩
def aj:KT 59:=⟨⟩
instance:Y 59 (Nat->CO):=⟨fun _ a=>⟨some a,.alloc [.int .i64 0,.slc .full [],.int .i64 0,.int .i64 0,.int .i64 0,.slc .full []],none⟩⟩
def ak:KT 60:=⟨⟩
instance:Y 60 (Nat->Nat->Nat->CO):=⟨fun _ a b c=>⟨some a,.pick (.tmp b) (.tmp c) (.const (.bool false)),none⟩⟩
def al:KT 61:=⟨⟩
instance:Y 61 (Nat->CO):=⟨fun _ a=>⟨some a,.mov (.tmp 8),none⟩⟩
def am:KT 62:=⟨⟩
instance:Y 62 (Nat->Nat->Nat->Nat->CO):=⟨fun _ a b c d=>⟨some a,.iaddrS (.ag b) (.tmp c) (.tmp d),none⟩⟩
def an:KT 63:=⟨⟩
instance:Y 63 (Nat->Nat->Nat->Nat->CO):=⟨fun _ a b c d=>⟨some a,.call (.fn b) [.tmp c,.tmp d],none⟩⟩
def ao:KT 64:=⟨⟩
instance:Y 64 (Nat->Nat->Nat->Nat->CO):=⟨fun _ a b c d=>⟨some a,.faddr b .sc (.tmp c),some (d,false)⟩⟩
def ap:KT 65:=⟨⟩
instance:Y 65 (Nat->Nat->Nat->CO):=⟨fun _ a b c=>⟨some a,.load .sc (.tmp b),some (c,false)⟩⟩
def aq:KT 66:=⟨⟩
instance:Y 66 (Nat->Nat->Nat->Nat->Nat->Nat->DOp):=⟨fun _ a b c d e f=>⟨⟨some a,.mov (.tmp b),none⟩,.light c d,[(e,some f)]⟩⟩
def ar:KT 67:=⟨⟩
instance:Y 67 (Nat->CO):=⟨fun _ a=>⟨some a,.box (.tmp 0),none⟩⟩
def au:KT 68:=⟨⟩
instance:Y 68 (Nat->CO):=⟨fun _ a=>⟨some a,.mov (.tmp 7),none⟩⟩
def aw:KT 69:=⟨⟩
instance:Y 69 (Nat->CO):=⟨fun _ a=>⟨some a,.mov (.tmp 6),none⟩⟩
def ax:KT 70:=⟨⟩
instance:Y 70 (Nat->CO):=⟨fun _ a=>⟨some a,.mov (.tmp 12),none⟩⟩
def ay:KT 71:=⟨⟩
instance:Y 71 (Nat->Nat->Nat->CO):=⟨fun _ a b c=>⟨some a,.load (.ag b) (.tmp c),none⟩⟩
def az:KT 72:=⟨⟩
instance:Y 72 (Nat->Nat->Int->CO):=⟨fun _ a b c=>⟨some a,.bin .neq (.tmp b) (.const (.int .i64 c)),none⟩⟩
def aA:KT 73:=⟨⟩
instance:Y 73 (Nat->Nat->Nat->CO):=⟨fun _ a b c=>⟨some a,.load .sc (.tmp b),some (c,true)⟩⟩
def aB:KT 74:=⟨⟩
instance:Y 74 (Nat->Nat->CO):=⟨fun _ a b=>⟨some a,.un .not (.tmp b),none⟩⟩
def aC:KT 75:=⟨⟩
instance:Y 75 (Nat->Nat->Nat->List UInt8->CO):=⟨fun _ a b c d=>⟨some a,.call (.fn b) [.tmp c,.const (.str d)],none⟩⟩
def aD:KT 76:=⟨⟩
instance:Y 76 (Nat->CO):=⟨fun _ a=>⟨some a,.mov (.const (.str [])),none⟩⟩
def aE:KT 77:=⟨⟩
instance:Y 77 (Nat->Nat->Nat->Nat->CO):=⟨fun _ a b c d=>⟨some a,.faddr b .sc (.tmp c),some (d,true)⟩⟩
def aG:KT 78:=⟨⟩
instance:Y 78 (Nat->Nat->Nat->Nat->Nat->DOp):=⟨fun _ a b c d e=>⟨⟨some a,.call (.fn b) [.tmp c],none⟩,.heavy,[(d,some e)]⟩⟩
def aH:KT 79:=⟨⟩
instance:Y 79 (Nat->Nat->Nat->Nat->Nat->Nat->DOp):=⟨fun _ a b c d e f=>⟨⟨some a,.nilck (.tmp b),none⟩,.light c d,[(e,some f)]⟩⟩
def aI:KT 80:=⟨⟩
instance:Y 80 (Nat->CO):=⟨fun _ a=>⟨some a,.mov (.const (.slc .full [])),none⟩⟩
def aJ:KT 81:=⟨⟩
instance:Y 81 (Nat->Nat->Int->CO):=⟨fun _ a b c=>⟨some a,.bin .gtr (.tmp b) (.const (.int .i64 c)),none⟩⟩
def aK:KT 82:=⟨⟩
instance:Y 82 (Nat->Nat->Nat->Nat->Nat->Nat->Nat->Nat->Nat->DOp):=⟨fun _ a b c d e f g h i=>⟨⟨some a,.iaddrS (.ag b) (.tmp c) (.tmp d),none⟩,.light 0 e,[(f,some g),(h,some i)]⟩⟩
def aL:KT 83:=⟨⟩
instance:Y 83 (List Nat->Nat->dH->dH):=⟨fun _ a b c=>.loop ⟨a,[(b,none)],true⟩ c⟩
def aN:KT 84:=⟨⟩
instance:Y 84 (Nat->Nat->Nat->Nat->CO):=⟨fun _ a b c d=>⟨some a,.faddr b (.ag c) (.tmp d),none⟩⟩
def aO:KT 85:=⟨⟩
instance:Y 85 (Nat->Nat->CO):=⟨fun _ a b=>⟨some a,.box (.tmp b),none⟩⟩
def aP:KT 86:=⟨⟩
instance:Y 86 (Nat->Nat->CO):=⟨fun _ a b=>⟨some a,.len 0 (.tmp b),none⟩⟩
def aR:KT 87:=⟨⟩
instance:Y 87 (Nat->Nat->Nat->Nat->DOp):=⟨fun _ a b c d=>⟨⟨some a,.mov (.tmp b),none⟩,.light 0 c,[(d,none)]⟩⟩
def aU:KT 88:=⟨⟩
instance:Y 88 (List Nat->Nat->dH->dH):=⟨fun _ a b c=>.loop ⟨a,[(b,none)],false⟩ c⟩
def aV:KT 89:=⟨⟩
instance:Y 89 (Nat->Nat->Nat->Nat->Nat->Nat->Nat->DOp):=⟨fun _ a b c d e f g=>⟨⟨none,.store a (.tmp b) (.tmp c),none⟩,.heavy,[(d,some e),(f,some g)]⟩⟩
def aW:KT 90:=⟨⟩
instance:Y 90 (Nat->Nat->Nat->Nat->Nat->Nat->DOp):=⟨fun _ a b c d e f=>⟨⟨some a,.load (.ag b) (.tmp c),none⟩,.light 0 d,[(e,some f)]⟩⟩
def aX:KT 91:=⟨⟩
instance:Y 91 (Nat->Nat->Int->CO):=⟨fun _ a b c=>⟨some a,.bin .lss (.tmp b) (.const (.int .i64 c)),none⟩⟩
def aY:KT 92:=⟨⟩
instance:Y 92 (Nat->Nat->Nat->CO):=⟨fun _ a b c=>⟨some a,.iaddrS .sc (.tmp b) (.tmp c),none⟩⟩
def aZ:KT 93:=⟨⟩
instance:Y 93 (Nat->CO):=⟨fun _ a=>⟨some a,.alloc [.str [],.slc .full [],.int .i64 0,.slc .full [],.int .i64 0,.int .i64 0,.int .i64 0,.slc .full []],none⟩⟩
def ba:KT 94:=⟨⟩
instance:Y 94 (Nat->Nat->Nat->Nat->DOp):=⟨fun _ a b c d=>⟨⟨some a,.load .sc (.tmp b),none⟩,.light 0 c,[(d,none)]⟩⟩
def bb:KT 95:=⟨⟩
instance:Y 95 (Nat->CO):=⟨fun _ a=>⟨some a,.alloc [.slc .full [],.int .i64 0,.slc .full [],.int .i64 0,.int .i64 0,.int .i64 0,.slc .full []],none⟩⟩
def bc:KT 96:=⟨⟩
instance:Y 96 (Nat->Nat->Int->Nat->CO):=⟨fun _ a b c d=>⟨some a,.bin .eql (.tmp b) (.const (.int .i64 c)),some (d,true)⟩⟩
def bd:KT 97:=⟨⟩
instance:Y 97 (Nat->Nat->Int->CO):=⟨fun _ a b c=>⟨some a,.bin .sub (.tmp b) (.const (.int .i64 c)),none⟩⟩
def be:KT 98:=⟨⟩
instance:Y 98 (Nat->Nat->Int->CO):=⟨fun _ a b c=>⟨some a,.bin .geq (.tmp b) (.const (.int .i64 c)),none⟩⟩
def bf:KT 99:=⟨⟩
instance:Y 99 (Nat->Nat->Nat->Nat->Nat->DOp):=⟨fun _ a b c d e=>⟨⟨some a,.load (.ag b) (.tmp c),none⟩,.light 0 d,[(e,none)]⟩⟩
def bg:KT 100:=⟨⟩
instance:Y 100 (Nat->Nat->Nat->Nat->Nat->Nat->DOp):=⟨fun _ a b c d e f=>⟨⟨none,.store a (.tmp b) (.tmp c),none⟩,.heavy,[(d,none),(e,some f)]⟩⟩
def bh:KT 101:=⟨⟩
instance:Y 101 (Nat->Nat->Nat->CO):=⟨fun _ a b c=>⟨some a,.bin .add (.tmp b) (.tmp c),none⟩⟩
def bi:KT 102:=⟨⟩
instance:Y 102 (Nat->CO):=⟨fun _ a=>⟨some a,.alloc [.int .i64 0,.str [],.int .i64 0,.int .i64 0,.int .i64 0],none⟩⟩
def bj:KT 103:=⟨⟩
instance:Y 103 (Nat->Nat->Nat->Nat->CO):=⟨fun _ a b c d=>⟨some a,.bin .neq (.tmp b) (.tmp c),some (d,false)⟩⟩
def bl:KT 104:=⟨⟩
instance:Y 104 (Nat->Nat->Int->Nat->CO):=⟨fun _ a b c d=>⟨some a,.bin .eql (.tmp b) (.const (.int .i64 c)),some (d,false)⟩⟩
def bm:KT 105:=⟨⟩
instance:Y 105 (Nat->Nat->Nat->CO):=⟨fun _ a b c=>⟨some a,.call (.tmp b) [.tmp c],none⟩⟩
def bn:KT 106:=⟨⟩
instance:Y 106 (Nat->Nat->Int->Nat->Nat->Nat->DOp):=⟨fun _ a b c d e f=>⟨⟨some a,.iaddrS .sc (.tmp b) (.const (.int .i64 c)),none⟩,.light 0 d,[(e,some f)]⟩⟩
def bo:KT 107:=⟨⟩
instance:Y 107 (Nat->Nat->Nat->Nat->CO):=⟨fun _ a b c d=>⟨some a,.len b (.tmp c),some (d,false)⟩⟩
def bp:KT 108:=⟨⟩
instance:Y 108 (Nat->Nat->Int->Nat->CO):=⟨fun _ a b c d=>⟨some a,.bin .gtr (.tmp b) (.const (.int .i64 c)),some (d,false)⟩⟩
def bq:KT 109:=⟨⟩
instance:Y 109 (Nat->Nat->Nat->Nat->Nat->Nat->Nat->Nat->Nat->Nat->DOp):=⟨fun _ a b c d e f g h i j=>⟨⟨some a,.app b (.ag c) d (.tmp e) (.tmp f),none⟩,.heavy,[(g,some h),(i,some j)]⟩⟩
def br:KT 110:=⟨⟩
instance:Y 110 (Nat->Nat->List UInt8->Nat->Nat->Nat->Nat->DOp):=⟨fun _ a b c d e f g=>⟨⟨some a,.bin .add (.tmp b) (.const (.str c)),none⟩,.light d e,[(f,some g)]⟩⟩
def bs:KT 111:=⟨⟩
instance:Y 111 (Nat->Nat->Nat->Nat->Nat->Nat->Nat->Nat->Nat->DOp):=⟨fun _ a b c d e f g h i=>⟨⟨some a,.bin .add (.tmp b) (.tmp c),none⟩,.light d e,[(f,some g),(h,some i)]⟩⟩
def bt:KT 112:=⟨⟩
instance:Y 112 (Nat->Nat->CO):=⟨fun _ a b=>⟨some a,.bslice 1 9 .sc (.str []) [(0,.tmp b)],none⟩⟩
def bu:KT 113:=⟨⟩
instance:Y 113 (Nat->Nat->Nat->Int->CO):=⟨fun _ a b c d=>⟨some a,.call (.fn b) [.tmp c,.const (.int .i64 d)],none⟩⟩
def bv:KT 114:=⟨⟩
instance:Y 114 (Nat->Nat->Nat->Nat->Nat->Nat->CO):=⟨fun _ a b c d e f=>⟨some a,.app b (.ag c) d (.tmp e) (.tmp f),none⟩⟩
def bw:KT 115:=⟨⟩
instance:Y 115 (Nat->Nat->Nat->Nat->Nat->Nat->DOp):=⟨fun _ a b c d e f=>⟨⟨some a,.faddr b .sc (.tmp c),none⟩,.light d e,[(f,none)]⟩⟩
def bx:KT 116:=⟨⟩
instance:Y 116 (Nat->Int->CO):=⟨fun _ a b=>⟨some a,.mov (.const (.int .u64 b)),none⟩⟩
def bz:KT 117:=⟨⟩
instance:Y 117 (Nat->Nat->Nat->CO):=⟨fun _ a b c=>⟨some a,.isnil b false (.tmp c),none⟩⟩
def bA:KT 118:=⟨⟩
instance:Y 118 (Nat->CO):=⟨fun _ a=>⟨some a,.mov (.const (.bool true)),none⟩⟩
def bC:KT 119:=⟨⟩
instance:Y 119 (Nat->Nat->List UInt8->CO):=⟨fun _ a b c=>⟨some a,.bin .add (.tmp b) (.const (.str c)),none⟩⟩
def bD:KT 120:=⟨⟩
instance:Y 120 (Nat->Nat->Nat->Nat->Nat->Nat->DOp):=⟨fun _ a b c d e f=>⟨⟨some a,.mov (.tmp b),some (c,false)⟩,.light 0 0,[(d,none),(e,some f)]⟩⟩
def bE:KT 121:=⟨⟩
instance:Y 121 (Nat->Nat->Nat->Nat->CO):=⟨fun _ a b c d=>⟨some a,.pick (.tmp b) (.tmp c) (.const (.bool false)),some (d,false)⟩⟩
def bF:KT 122:=⟨⟩
instance:Y 122 (Nat->CO):=⟨fun _ a=>⟨some a,.alloc [.int .i64 0,.int .i64 0],none⟩⟩
def bG:KT 123:=⟨⟩
instance:Y 123 (Nat->Nat->Nat->CO):=⟨fun _ a b c=>⟨some a,.mkfn b [] [.tmp c],none⟩⟩
def bH:KT 124:=⟨⟩
instance:Y 124 (Nat->List UInt8->CO):=⟨fun _ a b=>⟨some a,.bslice 1 9 .sc (.str []) [(0,.const (.str b))],none⟩⟩
def bI:KT 125:=⟨⟩
instance:Y 125 (Nat->Nat->Nat->Nat->Nat->CO):=⟨fun _ a b c d e=>⟨some a,.app b .sc c (.tmp d) (.tmp e),none⟩⟩
def bJ:KT 126:=⟨⟩
instance:Y 126 (List Nat->Nat->Nat->dH->dH):=⟨fun _ a b c d=>.loop ⟨a,[(b,none),(c,none)],false⟩ d⟩
def bK:KT 127:=⟨⟩
instance:Y 127 (Nat->Nat->Nat->Nat->CO):=⟨fun _ a b c d=>⟨some a,.pick (.tmp b) (.const (.bool true)) (.tmp c),some (d,true)⟩⟩
def bL:KT 128:=⟨⟩
instance:Y 128 (Nat->Nat->Int->Nat->CO):=⟨fun _ a b c d=>⟨some a,.bin .eql (.tmp b) (.const (.int .u8 c)),some (d,false)⟩⟩
def bM:KT 129:=⟨⟩
instance:Y 129 (Nat->Nat->Nat->Nat->Nat->Nat->Nat->DOp):=⟨fun _ a b c d e f g=>⟨⟨some a,.load .sc (.tmp b),some (c,true)⟩,.light 0 0,[(d,some e),(f,some g)]⟩⟩
def bN:KT 130:=⟨⟩
instance:Y 130 (Nat->Nat->Nat->Nat->Nat->Nat->Nat->Nat->DOp):=⟨fun _ a b c d e f g h=>⟨⟨some a,.call (.fn b) [.tmp c,.tmp d],none⟩,.heavy,[(e,some f),(g,some h)]⟩⟩
def bO:KT 131:=⟨⟩
instance:Y 131 (Nat->CO):=⟨fun _ a=>⟨some a,.alloc [.str [],.int .i64 0],none⟩⟩
def bP:KT 132:=⟨⟩
instance:Y 132 (Nat->Nat->Nat->CO):=⟨fun _ a b c=>⟨some a,.idxS (.tmp b) (.tmp c),none⟩⟩
def bQ:KT 133:=⟨⟩
instance:Y 133 (Nat->Nat->Nat->Nat->Nat->Nat->Nat->Nat->DOp):=⟨fun _ a b c d e f g h=>⟨⟨some a,.faddr b .sc (.tmp c),some (d,true)⟩,.light 0 0,[(e,some f),(g,some h)]⟩⟩
def bR:KT 134:=⟨⟩
instance:Y 134 (Nat->Int->CO):=⟨fun _ a b=>⟨none,.store 1 (.tmp a) (.const (.int .i64 b)),none⟩⟩
def bS:KT 135:=⟨⟩
instance:Y 135 (Nat->Nat->CO):=⟨fun _ a b=>⟨some a,.call (.fn b) [],none⟩⟩
def bT:KT 136:=⟨⟩
instance:Y 136 (List Nat->Nat->Nat->dH->dH):=⟨fun _ a b c d=>.loop ⟨a,[(b,none),(c,none)],true⟩ d⟩
def bU:KT 137:=⟨⟩
instance:Y 137 (Nat->Nat->Nat->CO):=⟨fun _ a b c=>⟨some a,.bin .neq (.tmp b) (.tmp c),none⟩⟩
def bV:KT 138:=⟨⟩
instance:Y 138 (Nat->CO):=⟨fun _ a=>⟨some a,.build [.str [],.slc .full [],.int .i64 0,.slc .full [],.int .i64 0,.int .i64 0,.int .i64 0,.slc .full []] [],none⟩⟩
def bW:KT 139:=⟨⟩
instance:Y 139 (Nat->Nat->Nat->CO):=⟨fun _ a b c=>⟨some a,.bin .eql (.tmp b) (.tmp c),none⟩⟩
def bX:KT 140:=⟨⟩
instance:Y 140 (Nat->CO):=⟨fun _ a=>⟨some a,.build [.slc .full [],.int .i64 0,.slc .full [],.int .i64 0,.int .i64 0,.int .i64 0,.slc .full []] [],none⟩⟩
def bZ:KT 141:=⟨⟩
instance:Y 141 (Nat->Nat->Nat->Nat->Nat->Nat->Nat->DOp):=⟨fun _ a b c d e f g=>⟨⟨some a,.extr (.tmp b) c,none⟩,.light d e,[(f,some g)]⟩⟩
def ca:KT 142:=⟨⟩
instance:Y 142 (Nat->CO):=⟨fun _ a=>⟨some a,.mov (.const .nili),none⟩⟩
def cb:KT 143:=⟨⟩
instance:Y 143 (Nat->Nat->Nat->CO):=⟨fun _ a b c=>⟨some a,.bslice 1 b (.ag 6) (.agg [.int .i64 0,.slc .full [],.int .i64 0,.int .i64 0,.int .i64 0,.slc .full []]) [(0,.tmp c)],none⟩⟩
def cc:KT 144:=⟨⟩
instance:Y 144 (Nat->Int->Nat->Nat->CO):=⟨fun _ a b c d=>⟨some a,.build [.int .i64 0,.slc .full [],.int .i64 0,.int .i64 0,.int .i64 0,.slc .full []] [(0,1,.const (.int .i64 b)),(c,1,.tmp d)],none⟩⟩
def cd:KT 145:=⟨⟩
instance:Y 145 (Nat->Nat->Int->Nat->CO):=⟨fun _ a b c d=>⟨some a,.bin .leq (.tmp b) (.const (.int .u8 c)),some (d,true)⟩⟩
def ce:KT 146:=⟨⟩
instance:Y 146 (Nat->Int->CO):=⟨fun _ a b=>⟨some a,.mkif 296 (.const (.int .i64 b)),none⟩⟩
def cf:KT 147:=⟨⟩
instance:Y 147 (Nat->Nat->CO):=⟨fun _ a b=>⟨some a,.build [.undef] [(0,1,.fn b)],none⟩⟩
def cg:KT 148:=⟨⟩
instance:Y 148 (List UInt8->Nat->CO):=⟨fun _ a b=>⟨none,.ins true (.tmp 1) (.const (.str a)) (.tmp b),none⟩⟩
def ch:KT 149:=⟨⟩
instance:Y 149 (Nat->Nat->Nat->Nat->Nat->Nat->DOp):=⟨fun _ a b c d e f=>⟨⟨some a,.faddr b (.ag 6) (.tmp c),none⟩,.light d e,[(f,none)]⟩⟩
def ci:KT 150:=⟨⟩
instance:Y 150 (Nat->Nat->Nat->Nat->Nat->CO):=⟨fun _ a b c d e=>⟨some a,.call (.fn b) [.tmp c,.tmp d,.tmp e],none⟩⟩
def cj:KT 151:=⟨⟩
instance:Y 151 (Nat->Nat->Int->CO):=⟨fun _ a b c=>⟨some a,.bin .eql (.tmp b) (.const (.int .u8 c)),none⟩⟩
def ck:KT 152:=⟨⟩
instance:Y 152 (Nat->Nat->Int->Nat->Nat->Nat->DOp):=⟨fun _ a b c d e f=>⟨⟨some a,.iaddrS (.ag 6) (.tmp b) (.const (.int .i64 c)),none⟩,.light 0 d,[(e,some f)]⟩⟩
def cl:KT 153:=⟨⟩
instance:Y 153 (Nat->Nat->Nat->Nat->CO):=⟨fun _ a b c d=>⟨some a,.call (.fn b) [.tmp c,.fn d],none⟩⟩
def cm:KT 154:=⟨⟩
instance:Y 154 (Nat->Nat->Nat->Int->List UInt8->CO):=⟨fun _ a b c d e=>⟨some a,.call (.fn b) [.tmp c,.const (.int .i64 d),.const (.str e)],none⟩⟩
def cn:KT 155:=⟨⟩
instance:Y 155 (List Nat->dH->dH):=⟨fun _ a b=>.loop ⟨a,[],true⟩ b⟩
def co:KT 156:=⟨⟩
instance:Y 156 (Nat->CO):=⟨fun _ a=>⟨some a,.build [.int .i64 0,.str [],.int .i64 0,.int .i64 0,.int .i64 0] [],none⟩⟩
def cp:KT 157:=⟨⟩
instance:Y 157 (Nat->Nat->CO):=⟨fun _ a b=>⟨some a,.iaddrS .sc (.tmp b) (.const (.int .i64 0)),none⟩⟩
def cq:KT 158:=⟨⟩
instance:Y 158 (Nat->CO):=⟨fun _ a=>⟨some a,.mov (.const .nilp),none⟩⟩
def cr:KT 159:=⟨⟩
instance:Y 159 (Nat->Nat->Nat->Nat->Nat->Nat->Nat->DOp):=⟨fun _ a b c d e f g=>⟨⟨some a,.app 9 .sc 16 (.tmp b) (.tmp c),none⟩,.heavy,[(d,some e),(f,some g)]⟩⟩
def cs:KT 160:=⟨⟩
instance:Y 160 (Nat->Nat->Nat->Nat->Nat->Nat->Nat->DOp):=⟨fun _ a b c d e f g=>⟨⟨some a,.call (.tmp b) [.tmp c],none⟩,.heavy,[(d,some e),(f,some g)]⟩⟩
def ct:KT 161:=⟨⟩
instance:Y 161 (Nat->Nat->Nat->Nat->Nat->Nat->Nat->Nat->DOp):=⟨fun _ a b c d e f g h=>⟨⟨some a,.build [.str [],.int .i64 0] [(0,1,.tmp b),(1,1,.tmp c)],none⟩,.light 0 d,[(e,some f),(g,some h)]⟩⟩
def cu:KT 162:=⟨⟩
instance:Y 162 (List Nat->Nat->Nat->Nat->dH->dH):=⟨fun _ a b c d e=>.loop ⟨a,[(b,some c),(d,none)],false⟩ e⟩
def cv:KT 163:=⟨⟩
instance:Y 163 (Nat->Nat->Nat->Nat->Nat->Nat->Nat->DOp):=⟨fun _ a b c d e f g=>⟨⟨some a,.bslice 1 b (.ag 2) (.agg [.str [],.int .i64 0]) [(0,.tmp c)],none⟩,.light d e,[(f,some g)]⟩⟩
def cw:KT 164:=⟨⟩
instance:Y 164 (Nat->Int->Nat->CO):=⟨fun _ a b c=>⟨some a,.build [.int .i64 0,.str [],.int .i64 0,.int .i64 0,.int .i64 0] [(0,1,.const (.int .i64 b)),(1,1,.tmp c)],none⟩⟩
def cx:KT 165:=⟨⟩
instance:Y 165 (Nat->Nat->Nat->Nat->Nat->Nat->Nat->Nat->Nat->Nat->DOp):=⟨fun _ a b c d e f g h i j=>⟨⟨some a,.bslice 2 b (.ag 6) (.agg [.int .i64 0,.slc .full [],.int .i64 0,.int .i64 0,.int .i64 0,.slc .full []]) [(0,.tmp c),(1,.tmp d)],none⟩,.light e f,[(g,some h),(i,some j)]⟩⟩
def cy:KT 166:=⟨⟩
instance:Y 166 (Nat->Nat->Int->CO):=⟨fun _ a b c=>⟨some a,.bin .geq (.tmp b) (.const (.int .u8 c)),none⟩⟩
def cz:KT 167:=⟨⟩
instance:Y 167 (Nat->Nat->Int->Nat->CO):=⟨fun _ a b c d=>⟨some a,.bin .eql (.tmp b) (.const (.int .u8 c)),some (d,true)⟩⟩
def cA:KT 168:=⟨⟩
instance:Y 168 (Nat->CO):=⟨fun _ a=>⟨some a,.build [.int .i64 0,.slc .full [],.int .i64 0,.int .i64 0,.int .i64 0,.slc .full []] [],none⟩⟩
def cB:KT 169:=⟨⟩
instance:Y 169 (Nat->Nat->CO):=⟨fun _ a b=>⟨some a,.bslice 1 34 (.ag 8) (.agg [.str [],.slc .full [],.int .i64 0,.slc .full [],.int .i64 0,.int .i64 0,.int .i64 0,.slc .full []]) [(0,.tmp b)],none⟩⟩
def cC:KT 170:=⟨⟩
instance:Y 170 (List UInt8->CO):=⟨fun _ a=>⟨some 2,.mov (.const (.str a)),none⟩⟩
def cD:KT 171:=⟨⟩
instance:Y 171 (Nat->Nat->Nat->CO):=⟨fun _ a b c=>⟨some a,.bslice 1 b (.ag 5) (.agg [.int .i64 0,.str [],.int .i64 0,.int .i64 0,.int .i64 0]) [(0,.tmp c)],none⟩⟩
def cE:KT 172:=⟨⟩
instance:Y 172 (Nat->CO):=⟨fun _ a=>⟨some a,.build [.int .i64 0,.int .i64 0] [],none⟩⟩
def cF:KT 173:=⟨⟩
instance:Y 173 (Nat->Nat->Nat->Nat->Nat->DOp):=⟨fun _ a b c d e=>⟨⟨some a,.iaddrA 18 .sc (.glob 1) (.tmp b),none⟩,.light 0 c,[(d,some e)]⟩⟩
def cG:KT 174:=⟨⟩
instance:Y 174 (Nat->Nat->Nat->Nat->Nat->Nat->DOp):=⟨fun _ a b c d e f=>⟨⟨some a,.bslice 1 9 .sc (.str []) [(0,.tmp b)],none⟩,.light c d,[(e,some f)]⟩⟩
def cH:KT 175:=⟨⟩
instance:Y 175 (Nat->List UInt8->Nat->CO):=⟨fun _ a b c=>⟨some a,.bin .add (.const (.str b)) (.tmp c),none⟩⟩
def cI:KT 176:=⟨⟩
instance:Y 176 (Nat->Nat->Nat->Nat->Nat->Nat->Nat->DOp):=⟨fun _ a b c d e f g=>⟨⟨some a,.pick (.tmp b) (.tmp c) (.const (.bool false)),none⟩,.light 0 0,[(d,some e),(f,some g)]⟩⟩
def cJ:KT 177:=⟨⟩
instance:Y 177 (Nat->Int->Nat->Nat->Nat->Nat->Nat->DOp):=⟨fun _ a b c d e f g=>⟨⟨some a,.build [.int .i64 0,.slc .full [],.int .i64 0,.int .i64 0,.int .i64 0,.slc .full []] [(0,1,.const (.int .i64 b)),(5,1,.tmp c)],none⟩,.light d e,[(f,some g)]⟩⟩
def cK:KT 178:=⟨⟩
instance:Y 178 (Nat->Nat->Nat->CO):=⟨fun _ a b c=>⟨some a,.build [.slc .full [],.int .i64 0,.slc .full [],.int .i64 0,.int .i64 0,.int .i64 0,.slc .full []] [(0,1,.tmp b),(1,6,.tmp c)],none⟩⟩
def cL:KT 179:=⟨⟩
instance:Y 179 (Nat->Nat->CO):=⟨fun _ a b=>⟨some a,.build [.slc .full [],.int .i64 0,.slc .full [],.int .i64 0,.int .i64 0,.int .i64 0,.slc .full []] [(1,6,.tmp b)],none⟩⟩
def cM:KT 180:=⟨⟩
instance:Y 180 (Nat->Nat->Nat->Nat->Nat->DOp):=⟨fun _ a b c d e=>⟨⟨some a,.bslice 1 b (.ag 6) (.agg [.int .i64 0,.slc .full [],.int .i64 0,.int .i64 0,.int .i64 0,.slc .full []]) [(0,.tmp c)],none⟩,.light 1 1,[(d,some e)]⟩⟩
abbrev cN:DOp:=⟨⟨some 3,.alloc [.int .i64 0,.slc .full [],.int .i64 0,.int .i64 0,.int .i64 0,.slc .full []],none⟩,.alloc [.int .i64 0,.slc .full [],.int .i64 0,.int .i64 0,.int .i64 0,.slc .full []] 0 1,[]⟩
def cO:KT 182:=⟨⟩
instance:Y 182 (Nat->Nat->DOp):=⟨fun _ a b=>⟨⟨some a,.build [.slc .full [],.int .i64 0,.slc .full [],.int .i64 0,.int .i64 0,.int .i64 0,.slc .full []] [],none⟩,.light 0 b,[]⟩⟩
def cP:KT 183:=⟨⟩
instance:Y 183 (Nat->Int->CO):=⟨fun _ a b=>⟨some a,.build [.int .i64 0,.slc .full [],.int .i64 0,.int .i64 0,.int .i64 0,.slc .full []] [(0,1,.const (.int .i64 b))],none⟩⟩
abbrev cQ:CO:=⟨some 16,.build [.str [],.slc .full [],.int .i64 0,.slc .full [],.int .i64 0,.int .i64 0,.int .i64 0,.slc .full []] [(0,1,.tmp 11),(1,1,.tmp 13),(2,6,.tmp 15)],none⟩
def cR:KT 185:=⟨⟩
instance:Y 185 (Nat->Nat->CO):=⟨fun _ a b=>⟨some a,.build [.str [],.slc .full [],.int .i64 0,.slc .full [],.int .i64 0,.int .i64 0,.int .i64 0,.slc .full []] [(0,1,.tmp b)],none⟩⟩
abbrev cS:DOp:=⟨⟨some 17,.build [.int .i64 0,.slc .full [],.int .i64 0,.int .i64 0,.int .i64 0,.slc .full []] [(0,1,.tmp 6),(1,1,.tmp 10),(2,1,.tmp 12),(3,1,.tmp 14),(4,1,.tmp 16)],none⟩,.light 1 1,[(6,some 1),(10,some 5),(12,some 7),(14,some 9),(16,some 11)]⟩
def cT:KT 187:=⟨⟩
instance:Y 187 (Nat->Nat->Nat->Nat->Nat->Nat->Nat->DOp):=⟨fun _ a b c d e f g=>⟨⟨some a,.build [.int .i64 0,.slc .full [],.int .i64 0,.int .i64 0,.int .i64 0,.slc .full []] [(0,1,.tmp b),(c,1,.tmp d)],none⟩,.light 1 1,[(e,some 0),(f,some g)]⟩⟩
def cU:KT 188:=⟨⟩
instance:Y 188 (Nat->DOp):=⟨fun _ a=>⟨⟨some a,.alloc [.int .i64 0,.str [],.int .i64 0,.int .i64 0,.int .i64 0],none⟩,.alloc [.int .i64 0,.str [],.int .i64 0,.int .i64 0,.int .i64 0] 0 0,[]⟩⟩
def cV:KT 189:=⟨⟩
instance:Y 189 (Nat->Nat->Nat->CO):=⟨fun _ a b c=>⟨some a,.build [.int .i64 0,.slc .full [],.int .i64 0,.int .i64 0,.int .i64 0,.slc .full []] [(0,1,.tmp b),(1,1,.tmp c)],none⟩⟩
def cW:KT 190:=⟨⟩
instance:Y 190 (Nat->Nat->Nat->CO):=⟨fun _ a b c=>⟨some a,.build [.int .i64 0,.slc .full [],.int .i64 0,.int .i64 0,.int .i64 0,.slc .full []] [(0,1,.const (.int .i64 7)),(1,1,.tmp b),(3,1,.tmp c)],none⟩⟩
abbrev cX:CO:=⟨some 17,.call (.fn 30) [.const (.str [102,105,110,100,32,118,101,114,116,101,120,32,118,44,32,115,101,116,32,89,58,32,102,40,89,41,32,97,110,100,32,118,32,105,110,32,89])],none⟩
abbrev cY:CO:=⟨some 12,.call (.fn 20) [.const (.str [108,101,116,32,102,32,40,32,115,101,116,32,88,32,41,32,58,32,115,111,109,101,32,118,101,114,116,101,120,32,118,32,58,32,118,32,105,110,32,88,32,59])],none⟩
abbrev cZ:CO:=⟨some 1,.call (.fn 200) [.const (.str [102,105,110,100,32,115,111,109,101,32,101,118,101,114,121,32,118,101,114,116,101,120,32,101,100,103,101,32,115,101,116,32,101,100,103,101,115,32,116,114,117,101,32,102,97,108,115,101,32,110,111,116,32,97,110,100,32,111,114,32,105,109,112,108,105,101,115,32,105,102,102,32,105,110,32,115,117,98,32,97,100,106,32,111,110,32,105,115,32,111,110,101,32,115,105,122,101,32,109,111,100,32,108,101,97,115,116,32,103,114,101,97,116,101,115,116,32,97,115,107,32,108,101,116])],none⟩
abbrev da:CO:=⟨some 50,.bin .eql (.tmp 49) (.const (.str [102,105,110,100,32,118,101,114,116,101,120,32,118,32,44,32,115,101,116,32,89,32,58,32,40,32,115,111,109,101,32,118,101,114,116,101,120,32,122,49,32,58,32,122,49,32,105,110,32,89,32,41,32,97,110,100,32,118,32,105,110,32,89])),some (48,true)⟩
abbrev db:CO:=⟨some 3,.bslice 18 9 .sc (.str []) [(0,.const (.str [116,114,117,101])),(1,.const (.str [102,97,108,115,101])),(2,.const (.str [61])),(3,.const (.str [105,110])),(4,.const (.str [115,117,98])),(5,.const (.str [97,100,106])),(6,.const (.str [111,110])),(7,.const (.str [105,115])),(8,.const (.str [115,105,122,101])),(9,.const (.str [111,110,101])),(10,.const (.str [])),(11,.const (.str [110,111,116])),(12,.const (.str [97,110,100])),(13,.const (.str [111,114])),(14,.const (.str [105,109,112,108,105,101,115])),(15,.const (.str [105,102,102])),(16,.const (.str [115,111,109,101])),(17,.const (.str [101,118,101,114,121]))],none⟩
abbrev dc:CO:=⟨some 1,.bslice 26 9 .sc (.str []) [(0,.const (.str [102,105,110,100])),(1,.const (.str [115,111,109,101])),(2,.const (.str [101,118,101,114,121])),(3,.const (.str [118,101,114,116,101,120])),(4,.const (.str [101,100,103,101])),(5,.const (.str [115,101,116])),(6,.const (.str [101,100,103,101,115])),(7,.const (.str [116,114,117,101])),(8,.const (.str [102,97,108,115,101])),(9,.const (.str [110,111,116])),(10,.const (.str [97,110,100])),(11,.const (.str [111,114])),(12,.const (.str [105,109,112,108,105,101,115])),(13,.const (.str [105,102,102])),(14,.const (.str [105,110])),(15,.const (.str [115,117,98])),(16,.const (.str [97,100,106])),(17,.const (.str [111,110])),(18,.const (.str [105,115])),(19,.const (.str [111,110,101])),(20,.const (.str [115,105,122,101])),(21,.const (.str [109,111,100])),(22,.const (.str [108,101,97,115,116])),(23,.const (.str [103,114,101,97,116,101,115,116])),(24,.const (.str [97,115,107])),(25,.const (.str [108,101,116]))],none⟩
end Go.Proofs.Ae.Q
namespace Go.Proofs.Ae
open Go Q
set_option maxRecDepth 100000
def oY:=W [w 14,f 15,C 16 15,P 17 14 16] 17 (x (h 1 (X [U 20,f 21,w 22,am 23 8 21 22,ay 24 8 23,an 25 11 20 24,e 6 25] (I [T 26,bz 27 4 26,e 28 27,V 29 3 28,V 30 0 28,V 31 5 28,c 32 (.iaddrS (.ag 8) (t 30) (t 31)) 28,c 33 (.load (.ag 8) (t 32)) 28,c 34 (.call (.fn 13) [t 33]) 28,c 35 (.call (.fn 12) [t 29,t 34]) 28,V 36 6 28,bj 37 35 36 28,ab 38 28 37] 38 (R [O 2]) (I [aw 39,Z 40 39 0] 40 (r [U 41,f 42,w 43,am 44 8 42 43,ay 45 8 44,cB 46 45,bv 47 34 8 120 41 46,aa 47]) (X [T 48,U 49,an 50 14 48 49,aB 51 50] (k 51 (R [O 2]))))))) (r [w 18,p 19 18,e 5 19]))
def c3:=F 65 (X [O 2] (I [f 9,l 10 8 9,aB 11 10] 11 (R [bS 12 9,ac 12]) (X [bS 13 10,e 3 13] (X [aI 4] (x (X [j 5] (h 0 (bT [0,3,4,5] 4 5 oY))) (X [T 53,aC 54 15 53 [110,111,98,111,100,121],e 52 54,v 55 52 0,v 56 52 1,aZ 7,m 8 7 55,e 8 56] (R [al 57,U 58,aC 59 16 58 [110,111,98,111,100,121],be 60 59 0,a 61 (.eqb false (t 57) (t 60)),e 62 61,b 63 (.call (.fn 9) []) 62,ak 64 62 63,ac 64]))))))) 2
def c4:=F 88 (X [O 4] (I [f 17,l 18 8 17,aB 19 18,e 20 19,V 21 1 20,bo 22 0 21 20,bp 23 22 2000 20,ab 24 20 23] 24 (R [bS 25 9,aa 25]) (X [f 27,l 28 17 27,e 26 28,v 29 26 0,v 30 26 1,e 5 29,e 6 30] (X [w 32,l 33 18 32,e 31 33,v 34 31 0,v 35 31 1,e 7 34,e 8 35] (X [aw 37,l 38 19 37,e 36 38,v 39 36 0,v 40 36 1,e 9 39,e 10 40] (X [ad 42,l 43 20 42,e 41 43,v 44 41 0,v 45 41 1,v 46 41 2,e 11 44,e 12 45,e 13 46] (X [ad 48,l 49 21 48,e 47 49,v 50 47 0,v 51 47 1,v 52 47 2,e 14 50,e 15 51,e 16 52] (I [au 53,af 54,bU 55 53 54,e 56 55,V 57 8 56,V 58 10 56,bj 59 57 58 56,ab 60 56 59,e 61 60,V 62 12 61,V 63 15 61,bj 64 62 63 61,ab 65 61 64,e 66 65,V 67 13 66,V 68 16 66,bj 69 67 68 66,ab 70 66 69,e 71 70,V 72 11 71,c 73 (.isnil 4 true (t 72)) 71,V 74 16 71,bl 75 74 0 71,c 76 (.eqb true (t 73) (t 75)) 71,ab 77 71 76] 77 (R [O 4]) (R [e 78 16,az 79 78 0,e 80 79,V 81 11 80,V 82 14 80,c 83 (.call (.fn 14) [t 81,t 82]) 80,ab 84 80 83,e 85 84,b 86 (.call (.fn 9) []) 85,ak 87 85 86,aa 87]))))))))) 4
def o4:=W [T 7,f 8,C 9 8,P 10 7 9] 10 (x (h 1 (X [f 13,T 14,am 15 8 13 14,aN 16 2 6 15,A 17 16,l 18 23 17,aB 19 18,e 20 19,V 21 0 20,V 22 3 20,c 23 (.iaddrS (.ag 8) (t 21) (t 22)) 20,ao 24 1 23 20,ap 25 24 20,bo 26 1 25 20,bp 27 26 10 20,ab 28 20 27] (k 28 (R [O 2])))) (r [T 11,p 12 11,ax 3]))
def c8:=F 29 (X [O 2] (I [f 4,C 5 4,aJ 6 5 5] 6 (R [O 2]) (x (X [j 3] (h 0 (aU [0,3] 3 o4))) (R [bA 2])))) 2
def c9:=F 52 (X [O 0] (X [cY,ax 11,v 13 11 0,v 14 11 1,v 15 11 2,e 1 13,ac 14,e 3 15] (X [cX,e 16 17,v 18 16 0,v 19 16 1,v 20 16 2,bb 4,bF 5,m 7 4 18,m 2 5 19,e 6 20] (I [ad 21,bz 22 4 21,e 23 22,V 24 3 23,c 25 (.bin .neq (t 24) (i 0)) 23,ab 26 23 25,e 27 26,V 28 6 27,c 29 (.bin .neq (t 28) (i 0)) 27,ab 30 27 29] 30 (R [O 0]) (X [ad 32,ay 33 7 4,an 34 24 32 33,e 31 34,v 35 31 0,v 36 31 1,bb 7,m 7 7 35,e 8 36] (X [ay 38 7 7,l 39 31 38,e 37 39,v 40 37 0,v 41 37 1,e 9 40,e 10 41] (R [al 42,Z 43 42 0,e 44 43,ah 45 10 44,bc 46 45 0 44,ak 47 44 46,e 48 47,ah 49 9 48,da,ak 51 48 50,e 0 51]))))))) 0
def c10:=G 3 (X [cq 0] (R [a 1 (.build [.slc .full []] []),aO 2 1,e 0 2])) 0
def kZ:=W [w 23,o 24 3,g 25 24,C 26 25,P 27 23 26] 27 (x (h 1 (I [o 30 3,g 31 30,w 32,am 33 2 31 32,B 34 33,g 35 34,l 36 32 35,aB 37 36] 37 (R [z 4 3]) (I [o 38 3,g 39 38,w 40,am 41 2 39 40,o 42 41,g 43 42,aX 44 43 0,e 45 44,ao 46 1 3 45,ap 47 46 45,V 48 5 45,c 49 (.iaddrS (.ag 2) (t 47) (t 48)) 45,ao 50 1 49 45,ap 51 50 45,bp 52 51 3 45,ab 53 45 52] 53 (R [z 4 2]) (x (D [H 54 1 3 0 3,y 55 54 54 0,N 56 5 5,d (a 57 (.slcV (.ag 2) (t 55) none (some (t 56)) none)) [s 55 1,s 56 2],H 58 1 3 0 3,y 59 58 58 4,N 60 5 5,aK 61 2 59 60 0 59 5 60 6,ai 62 0 61 0 0 61 7,y 63 62 62 8,bN 64 33 57 63 57 3 63 9,⟨a 65 (.bin .geq (t 64) (i 0)),.light 1 1,[s 64 10]⟩]) (k 65 (R [z 4 7])))))) (r [w 28,p 29 28,e 5 29]))
def c11:=F 78 (X [aO 3 1,j 4] (I [f 7,C 8 7,be 9 8 64] 9 (R [z 4 8]) (I [B 10 3,g 11 10,l 12 32 11,aB 13 12] 13 (R [z 4 3]) (I [f 14,B 15 3,g 16 15,an 17 16 14 16,be 18 17 0] 18 (R [z 4 7]) (I [o 19 3,g 20 19,C 21 20,aJ 22 21 6] 22 (R [z 4 2]) (x (X [j 5] (h 0 (aU [0,3,5] 5 kZ))) (x (X [aN 66 2 6 3,A 67 66,l 68 34 67,e 6 68] (X [aw 69,az 70 69 0] (k 70 (R [aw 71,aa 71])))) (R [f 72,aN 73 2 6 3,A 74 73,o 75 3,g 76 75,a 77 (.call (.fn 35) [t 72,t 74,t 76,.const (.bool true)]),aa 77])))))))) 4
def c12:=G 62 (X [aO 3 1,j 4] (I [f 8,bz 9 4 8] 9 (R [z 4 1]) (X [f 11,B 12 3,g 13 12,an 14 15 11 13,e 10 14,v 15 10 0,v 16 10 1,aZ 5,m 8 5 15,e 6 16] (x (h 0 (X [f 18,u 19 18,B 20 19,g 21 20,C 22 21,be 23 22 64,e 17 23] (K 17 (R [z 4 8]) (X [B 25 3,g 26 25,l 27 36 26,aB 28 27,e 24 28] (K 24 (R [z 4 3]) (X [aw 30,e 29 30] (k 29 (R [z 4 7])))))))) (X [o 31 3,g 32 31,l 33 37 32,e 7 33] (I [au 34,Z 35 34 0] 35 (r [aN 36 2 6 3,A 37 36,l 38 38 37,e 7 38]) (I [au 39,Z 40 39 0] 40 (D [aR 41 0 1 0,ch 42 2 3 0 1 3,aW 43 6 42 1 42 1,H 44 1 3 0 3,y 45 44 44 3,aG 46 40 45 45 4,⟨a 47 (.call (.fn 39) [t 41,t 43,t 46,.const (.bool true)]),.heavy,[s 41 0,s 43 2,s 46 5]⟩,aq 7 47 2 2 47 6]) (I [au 48,Z 49 48 0] 49 (D [aR 50 0 2 0,aR 51 0 1 0,aH 52 51 0 1 51 1,ai 53 0 52 0 1 52 2,ag 54 53 1 53 3,bf 55 8 3 0 3,aG 56 41 55 55 5,⟨a 57 (.bslice 1 42 (.ag 8) (.agg [.str [],.slc .full [],.int .i64 0,.slc .full [],.int .i64 0,.int .i64 0,.int .i64 0,.slc .full []]) [(0,t 56)]),.light 1 1,[s 56 6]⟩,bq 58 42 8 120 54 57 54 4 57 7,aH 59 50 2 2 50 0,ai 60 0 59 2 2 59 9,aV 1 60 58 60 10 58 8]) (R [au 61,aa 61]))))))))) 4
def c13:CFn:=⟨17,true,X [ar 1,aZ 2] (X [o 4 1,g 5 4,aN 6 2 6 1,A 7 6,cK 8 5 7,l 9 25 8,bb 3,m 7 3 9] (R [B 10 1,g 11 10,B 12 3,g 13 12,aN 14 1 6 3,A 15 14,cQ,m 8 2 16])),[.cell 2 (.ag 8)]⟩
def qI:=W [au 19,w 20,C 21 20,P 22 19 21] 22 (x (h 1 (X [f 26,w 27,au 28,aY 29 27 28,g 30 29,an 31 15 26 30,e 25 31,v 32 25 0,v 33 25 1,aZ 8,m 8 8 32,e 9 33] (I [af 34,aB 35 34] 35 (R [O 4]) (r [aw 36,ay 37 8 8,l 38 42 37,cB 39 38,bv 40 34 8 120 36 39,e 6 40])))) (r [au 23,p 24 23,e 7 24]))
def c14:=G 44 (X [O 4] (I [f 10,bz 11 4 10] 11 (R [O 4]) (X [f 12,l 13 28 12,e 5 13] (I [w 14,C 15 14,ad 16,C 17 16,bU 18 15 17] 18 (R [O 4]) (X [aI 6] (x (X [j 7] (h 0 (bT [0,1,5,6,7] 6 7 qI))) (R [aw 41,ad 42,an 43 43 41 42,aa 43]))))))) 4
def c15:CFn:=⟨27,false,X [aO 3 1,aZ 4,O 5] (I [f 7,bz 8 4 7] 8 (R [bV 9,m 8 4 9,O 5]) (X [f 10,u 11 10,B 12 11,g 13 12,bG 14 45 3,an 15 44 13 14,e 6 15] (I [aw 16,aX 17 16 0] 17 (R [bV 18,m 8 4 18,O 5]) (R [f 19,u 20 19,B 21 20,g 22 21,aw 23,am 24 8 22 23,ay 25 8 24,l 26 41 25,m 8 4 26,bA 5])))),[.cell 4 (.ag 8),.tmp 5]⟩
def o5:=W [w 6,f 7,C 8 7,P 9 6 8] 9 (x (h 1 (X [f 12,w 13,am 14 8 12 13,B 15 14,g 16 15,ad 17,bW 18 16 17] (k 18 (R [w 19,aa 19])))) (r [w 10,p 11 10,e 5 11]))
def c16:=F 20 (X [j 4] (x (X [j 5] (h 0 (aU [0,1,5] 5 o5))) (R [z 4 (-1)]))) 4
def o6:=W [aw 8,f 9,C 10 9,P 11 8 10,e 12 11,ah 13 4 12,b 14 (.isnil 4 true (t 13)) 12,ak 15 12 14] 15 (x (h 1 (X [w 18,f 19,aw 20,am 21 8 19 20,ay 22 8 21,an 23 11 18 22,Z 24 23 0] (k 24 (X [U 25,f 26,aw 27,am 28 8 26 27,ay 29 8 28,l 30 13 29,an 31 12 25 30] (r [w 32,f 33,aw 34,am 35 8 33 34,ay 36 8 35,cB 37 36,bv 38 34 8 120 32 37,e 5 38]))))) (r [aw 16,p 17 16,e 6 17]))
def c17:=M 41 (X [cq 2,aI 3] (X [bS 7 10,aa 7] (X [aI 5] (x (X [j 6] (h 0 (bT [0,4,5,6] 5 6 o6))) (R [U 39,w 40,ac 39,e 3 40]))))) 2 3
def o7:=X [P 39 38 37] (x (K 39 .skip (.exit 2)) (x (h 3 (X [e 40 38,am 41 2 36 38,ay 42 2 41,bO 11,e 10 40,m 2 11 42] (I [ae 43,aJ 44 43 0] 44 (r [af 45,bH 46 [44],bI 47 9 16 45 46,e 9 47]) (D [aR 48 9 1 9,H 49 1 11 0 11,y 50 49 49 1,aG 51 47 50 50 2,H 52 0 11 1 11,ag 53 52 1 52 4,⟨a 54 (.bslice 2 9 .sc (.str []) [(0,t 51),(1,t 53)]),.light 1 1,[s 51 3,s 53 5]⟩,cr 55 48 54 48 0 54 6,aq 9 55 2 2 55 7])))) (r [p 56 38,e 38 56])))
def lc:=X [P 20 19 18] (x (K 20 .skip (.exit 0)) (x (h 1 (X [am 21 8 17 19,ay 22 8 21,aZ 6,m 8 6 22] (X [aN 24 2 6 6,A 25 24,l 26 46 25,e 23 26,v 27 23 0,v 28 23 1,e 7 27,e 8 28] (I [al 29,az 30 29 0] 30 (R [al 31,aD 2,e 3 31]) (X [B 32 6,g 33 32,a 34 (.bslice 3 9 .sc (.str []) [(0,.const (.str [108,101,116])),(1,t 33),(2,.const (.str [40]))]),e 9 34] (x (X [o 35 6,g 36 35,C 37 36,j 38] (h 2 (bT [4,7,9,17,18,19,36,37,38] 9 38 o7))) (X [af 57,au 58,a 59 (.bslice 4 9 .sc (.str []) [(0,.const (.str [41])),(1,.const (.str [58])),(2,t 58),(3,.const (.str [59]))]),bI 60 9 16 57 59,aC 61 49 60 [32],an 62 48 4 61] (r [a 63 (.call (.fn 50) [t 4,.const (.int .u8 10)])])))))))) (r [p 64 19,e 19 64])))
def c18:=M 66 (X [aD 2,j 3] (I [f 12,bz 13 4 12] 13 (R [aD 2,z 3 1]) (X [a 4 (.allocT 103 [.nilp,.slc .full []])] (x (X [f 14,u 15 14,B 16 15,g 17 16,C 18 17,j 19] (h 0 (aL [4,17,18,19] 19 lc))) (R [l 65 51 4,ac 65,j 3]))))) 2 3
def o8:=J [al 36,f 37,w 38,am 39 8 37 38,o 40 39,g 41 40,C 42 41,P 43 36 42] 43 .skip (.exit 2) (x (h 3 (I [al 46,aJ 47 46 0] 47 (r [U 48,bC 49 48 [32,44],aa 49]) (D [aR 50 4 1 4,br 51 50 [32] 0 1 50 0,N 52 0 0,N 53 5 5,aK 54 8 52 53 0 52 2 53 3,ai 55 1 54 0 0 54 4,y 56 55 55 5,N 57 8 8,aK 58 2 56 57 0 56 6 57 7,ai 59 1 58 0 0 58 8,y 60 59 59 9,aG 61 53 60 60 10,bs 62 51 61 1 1 51 1 61 11,br 63 62 [32] 1 1 62 12,aR 64 0 1 0,aR 65 5 1 5,aK 66 8 64 65 1 64 14 65 15,ai 67 1 66 0 1 66 16,ag 68 67 1 67 17,aR 69 8 1 8,aK 70 2 68 69 1 68 18 69 19,ai 71 0 70 0 1 70 20,ag 72 71 1 71 21,bs 73 63 72 1 1 63 13 72 22,aq 4 73 1 1 73 23]))) (r [al 44,p 45 44,e 8 45]))
def o9:=W [w 9,f 10,C 11 10,P 12 9 11] 12 (x (h 1 (X [f 16,w 17,am 18 8 16 17,aN 19 2 6 18,A 20 19,l 21 52 20,e 15 21,v 22 15 0,v 23 15 1,e 6 22,e 7 23] (I [au 24,az 25 24 0] 25 (R [au 26,aD 2,e 3 26]) (X [U 27,bC 28 27 [108,101,116,32],f 29,w 30,am 31 8 29 30,B 32 31,g 33 32,bh 34 28 33,bC 35 34 [32,40],aa 35] (x (X [j 8] (h 2 (bJ [0,4,5,6,8] 4 8 o8))) (r [U 74,bC 75 74 [32,41,32,58,32],aw 76,bh 77 75 76,bC 78 77 [32,59,10],aa 78])))))) (r [w 13,p 14 13,e 5 14]))
def c19:=L 80 (X [aD 2,j 3] (X [aD 4] (x (X [j 5] (h 0 (bJ [0,4,5] 4 5 o9))) (R [U 79,ac 79,j 3])))) 2 3
def kq:=W [w 26,af 27,u 28 27,o 29 28,g 30 29,am 31 5 26 30,B 32 31,g 33 32,az 34 33 0] 34 (x (h 1 (X [af 38,l 39 55 38,e 37 39,v 40 37 0,v 41 37 1,aZ 11,m 8 11 40,e 12 41] (I [ax 42,Z 43 42 0] 43 (r [al 44,ay 45 8 11,an 46 12 44 45,e 12 46]) (X [ax 47,az 48 47 0] (k 48 (R [ae 49,ax 50,cq 2,e 3 49,aa 50])))))) (r [ae 35,p 36 35,e 10 36]))
def c20:CFn:=⟨52,false,X [cq 2,j 3,j 4] (X [f 14,l 15 54 14,e 13 15,v 16 13 0,v 17 13 1,v 18 13 2,bF 6,e 5 16,m 2 6 17,e 7 18] (I [au 19,az 20 19 0] 20 (R [au 21,cq 2,j 3,aa 21]) (X [bS 22 10,w 23,a 24 (.build [.slc .full [],.int .i64 0,.bool false] [(0,1,t 23)]),aO 25 24,e 8 22,e 9 25] (x (X [j 10] (h 0 (aL [5,8,9,10] 10 kq))) (R [al 51,ac 51,j 3,j 4]))))),[.tmp 2,.tmp 3,.tmp 4]⟩
def pa:=J [e 50 14,w 51,C 52 51,P 53 50 52,e 54 53,ah 55 5 54,ah 56 14 54,b 57 (.call (.fn 58) [t 55,t 56,.const (.str [59])]) 54,b 58 (.un .not (t 57)) 54,ak 59 54 58] 59 .skip (.exit 2) (h 3 (r [e 60 14,p 61 60,e 14 61]))
def iz:=W [w 32,ae 33,am 34 5 32 33,B 35 34,g 36 35,az 37 36 0] 37 (h 1 (X [w 39,ae 40,an 41 57 39 40,e 38 41,v 42 38 0,v 43 38 1,v 44 38 2,aZ 11,m 8 11 42,e 12 43,e 13 44] (I [e 45 13,aB 46 45] 46 (R [af 47,C 48 47,aI 2,e 3 48,z 4 3]) (X [ax 49,e 14 49] (x (h 2 (aL [5,9,11,12,14] 14 pa)) (I [e 62 14,w 63,C 64 63,a 65 (.bin .geq (t 62) (t 64))] 65 (R [af 66,C 67 66,aI 2,e 3 67,z 4 3]) (X [w 69,ax 70,e 71 14,a 72 (.slcV (.ag 5) (t 69) (some (t 70)) (some (t 71)) none),l 73 59 72,e 68 73,v 74 68 0,v 75 68 1,e 15 74,e 16 75] (X [e 77 15,l 78 60 77,e 76 78,v 79 76 0,v 80 76 1,v 81 76 2,v 82 76 3,aj 17,S 17 79,e 18 80,e 19 81,e 20 82] (I [e 83 20,az 84 83 0] 84 (R [af 85,C 86 85,e 87 20,aI 2,e 3 86,aa 87]) (X [A 88 17,aN 89 2 6 11,S 89 88] (x (X [af 90,ay 91 8 11,an 92 11 90 91,e 21 92] (X [e 93 21,az 94 93 0] (k 94 (R [af 95,C 96 95,e 97 21,aI 2,e 3 96,aa 97])))) (X [af 98,ay 99 8 11,cB 100 99,bv 101 34 8 120 98 100,e 9 101] (r [e 102 14,p 103 102,e 10 103])))))))))))))
def c21:CFn:=⟨105,true,X [aI 2,j 3,j 4] (X [f 23,l 24 56 23,e 22 24,v 25 22 0,v 26 22 1,v 27 22 2,v 28 22 3,e 5 25,e 6 26,e 7 27,e 8 28] (I [al 29,az 30 29 0] 30 (R [al 31,aI 2,j 3,aa 31]) (X [aI 9] (x (X [j 10] (h 0 (bT [5,9,10] 9 10 iz))) (R [af 104,ac 104,j 3,j 4]))))),[.tmp 2,.tmp 3,.tmp 4]⟩
def c23:=F 13 (X [ar 1,O 2] (I [A 3 1,l 4 63 3,aJ 5 4 30,w 6,c 7 (.load (.ag 6) (t 1)) 6,c 8 (.call (.fn 64) [t 7]) 6,bp 9 8 20 6,ab 10 6 9] 10 (R [O 2]) (R [A 11 1,l 12 65 11,ac 12]))) 2
def Hp:=X [P 60 59 58] (x (K 60 .skip (.exit 1)) (x (h 2 (X [am 61 2 57 59,ay 62 2 61,bO 12,m 2 12 62] (r [ae 63,B 64 12,g 65 64,bm 66 63 65]))) (r [p 67 59,e 59 67])))
def Hq:=X [P 89 88 87] (x (K 89 .skip (.exit 5)) (x (h 6 (X [am 90 2 86 88,ay 91 2 90,bO 16,m 2 16 91] (r [ae 92,B 93 16,g 94 93,bm 95 92 94]))) (r [p 96 88,e 88 96])))
def Hr:=X [P 78 77 76] (x (K 78 .skip (.exit 3)) (x (h 4 (X [am 79 8 75 77,ay 80 8 79,aZ 14,m 8 14 80] (X [ae 81,B 82 14,g 83 82,bm 84 81 83] (x (X [o 85 14,g 86 85,C 87 86,j 88] (h 5 (aL [3,4,9,10,14,75,76,77,86,87,88] 88 Hq))) (r [aN 97 2 6 14,A 98 97,ae 99,an 100 69 98 99]))))) (r [p 101 77,e 77 101])))
def c24:CFn:=⟨110,false,X [aO 3 1,bb 4,j 5] (I [f 17,bz 18 4 17] 18 (R [bX 19,m 7 4 19,z 5 1]) (X [ay 20 7 3,l 21 66 20,e 6 21] (I [aw 22,Z 23 22 0] 23 (D [aR 24 0 1 0,ch 25 1 3 0 1 3,aW 26 6 25 1 25 1,H 27 0 3 0 3,y 28 27 27 3,aG 29 40 28 28 4,⟨a 30 (.call (.fn 39) [t 24,t 26,t 29,.const (.bool false)]),.heavy,[s 24 0,s 26 2,s 29 5]⟩,aq 6 30 2 2 30 6]) (I [aw 31,az 32 31 0] 32 (R [bX 33,aw 34,m 7 4 33,e 5 34]) (x (x (D [N 36 0 0,aG 37 67 36 36 0,ch 38 1 3 0 1 3,aW 39 6 38 1 38 2,cs 40 37 39 37 1 39 3,aq 35 40 2 2 40 4,bZ 41 35 0 2 2 35 5,bZ 42 35 1 2 2 35 5,aq 7 41 2 2 41 6,aq 8 42 2 2 42 7]) (h 0 (X [au 44,aJ 45 44 4096,e 43 45] (K 43 (R [bX 46,m 7 4 46,z 5 8]) (X [al 48,aJ 49 48 256,e 47 49] (k 47 (R [bX 50,m 7 4 50,z 5 16]))))))) (X [f 51,a 52 .mkmap,a 53 (.build [.nilp,.nilm,.int .i64 0] [(0,1,t 51),(1,1,t 52)]),aO 54 53,a 9 (.alloc [.nilp]),m 1 9 54] (X [bG 55 68 9,e 10 55] (x (X [B 56 3,g 57 56,C 58 57,j 59] (h 1 (aL [0,3,4,9,10,57,58,59] 59 Hp))) (X [aN 68 1 6 3,A 69 68,ae 70,an 71 69 69 70] (x (X [f 72,u 73 72,B 74 73,g 75 74,C 76 75,j 77] (h 3 (aL [3,4,9,10,75,76,77] 77 Hr))) (x (D [H 102 0 3 0 3,y 103 102 102 0,aG 104 70 103 103 1,ba 105 9 1 9,ch 106 1 3 0 1 3,aW 107 6 106 1 106 4,⟨a 108 (.call (.fn 71) [t 105,t 107,.const .nilm]),.heavy,[s 105 3,s 107 5]⟩,⟨a 109 (.build [.slc .full [],.int .i64 0,.slc .full [],.int .i64 0,.int .i64 0,.int .i64 0,.slc .full []] [(0,1,t 104),(1,6,t 108)]),.light 2 2,[s 104 2,s 108 6]⟩,bg 7 4 109 4 109 7,⟨a 5 (.mov (i 0)),.light 3 3,[]⟩]) .ret))))))))))),[.cell 4 (.ag 7),.tmp 5]⟩
def s8:=W [U 9,B 10 1,g 11 10,C 12 11,P 13 9 12] 13 (x (h 1 (D [H 16 0 3 1 3,ag 17 16 1 16 0,H 18 0 1 0 1,y 19 18 18 2,N 20 4 4,aK 21 2 19 20 0 19 3 20 4,ai 22 0 21 0 0 21 5,y 23 22 22 6,H 24 0 1 0 1,y 25 24 24 8,N 26 4 4,aK 27 2 25 26 0 25 9 26 10,ai 28 1 27 0 0 27 11,y 29 28 28 12,ct 30 23 29 0 23 7 29 13,⟨a 31 (.bslice 1 74 (.ag 2) (.agg [.str [],.int .i64 0]) [(0,t 30)]),.heavy,[s 30 14]⟩,bq 32 74 2 24 17 31 17 1 31 15,bw 33 0 3 2 2 3,aV 1 33 32 33 17 32 16])) (r [U 14,p 15 14,aa 15]))
def c25:CFn:=⟨35,true,X [ar 1,bb 2] (X [aN 5 1 6 1,A 6 5,l 7 72 6,cL 8 7,bb 3,m 7 3 8] (x (X [j 4] (h 0 (cu [1,2,3,4] 3 0 4 s8))) (R [ay 34 7 3,m 7 2 34]))),[.cell 2 (.ag 7)]⟩
def qJ:=X [P 14 13 12] (x (K 14 .skip (.exit 0)) (x (h 1 (X [am 15 8 11 13,ay 16 8 15,aZ 5,m 8 5 16] (r [T 17,B 18 5,g 19 18,bt 20 19,bI 21 9 16 17 20,e 3 21]))) (r [p 22 13,e 13 22])))
def c28:=G 24 (X [aI 2] (I [f 6,bz 7 4 6] 7 (R [aI 2]) (X [aI 3] (x (X [f 8,u 9 8,B 10 9,g 11 10,C 12 11,j 13] (h 0 (bT [3,11,12,13] 3 13 qJ))) (R [T 23,ac 23]))))) 2
def c30:CFn:=⟨10,true,X [bb 2,bF 3,j 4] (R [f 5,cl 6 78 5 79,v 7 6 0,v 8 6 1,v 9 6 2,m 7 2 7,m 2 3 8,aa 9]),[.cell 2 (.ag 7),.cell 3 (.ag 2),.tmp 4]⟩
def c31:=L 24 (X [ar 1,aD 2,j 3] (x (X [ay 6 7 1,l 7 66 6,aa 7] (X [U 8,az 9 8 0] (k 9 (R [U 10,aD 2,ae 3])))) (X [a 11 (.build [.slc .full []] []),aO 12 11,ax 5] (X [w 13,ay 14 7 1,an 15 82 13 14] (X [w 16,aN 17 1 6 1,A 18 17,a 19 (.call (.fn 83) [t 16,t 18,.const (.bool true)])] (R [w 20,l 21 84 20,v 22 21 0,v 23 21 1,ac 22,e 3 23])))))) 2 3
def c32:=F 27 (X [O 2] (I [f 5,aP 6 5,Z 7 6 0,au 8,V 9 0 8,c 10 (.call (.fn 85) [t 9,i 0]) 8,V 11 0 8,bo 12 0 11 8,bj 13 10 12 8,ab 14 8 13] 14 (R [O 2]) (X [f 16,l 17 86 16,e 15 17,v 18 15 0,v 19 15 1,bi 3,m 5 3 18,aa 19] (R [U 20,Z 21 20 0,e 22 21,aE 23 0 3 22,aA 24 23 22,bc 25 24 1 22,ak 26 22 25,ac 26])))) 2
def pb:=W [w 9,be 10 9 0] 10 (x (h 1 (X [f 13,w 14,am 15 2 13 14,B 16 15,g 17 16,ad 18,bW 19 17 18] (k 19 (R [f 20,w 21,am 22 2 20 21,o 23 22,g 24 23,aa 24])))) (r [w 11,bd 12 11 1,ax 5]))
def c33:=F 25 (X [j 4] (x (X [f 6,C 7 6,bd 8 7 1,al 5] (h 0 (aU [0,1,5] 5 pb))) (R [z 4 (-1)]))) 4
def c34:=F 11 (X [ar 1,j 2] (x (X [A 4 1,l 5 87 4,w 3] (X [T 6,az 7 6 0] (k 7 (R [T 8,ac 8])))) (R [A 9 1,l 10 88 9,ae 2]))) 2
def pc:=J [ae 42,o 43 5,g 44 43,C 45 44,P 46 42 45] 46 .skip (.exit 1) (x (h 2 (X [e 49 2,o 50 5,g 51 50,ae 52,aY 53 51 52,g 54 53,an 55 33 49 54,aX 56 55 0] (k 56 (R [z 8 21])))) (r [ae 47,p 48 47,e 10 48]))
def nh:=J [e 57 11,E 58 5 5,g 59 58,C 60 59,P 61 57 60] 61 .skip (.exit 3) (x (h 4 (X [f 64,E 65 5 5,g 66 65,e 67 11,am 68 6 66 67,A 69 68,e 70 2,T 71,a 72 (.call (.fn 35) [t 64,t 69,t 70,t 71]),e 12 72] (X [ax 73,az 74 73 0] (k 74 (R [ax 75,e 8 75]))))) (r [e 62 11,p 63 62,e 11 63]))
def c35:=F 76 (X [aO 5 1,j 8] (x (h 0 (X [B 14 5,g 15 14,Z 16 15 10,e 13 16] (K 13 (X [f 17,A 18 5,e 19 2,ci 20 89 17 18 19,e 9 20] (X [af 21,az 22 21 0] (k 22 (R [af 23,e 8 23])))) (X [B 25 5,g 26 25,aJ 27 26 15,e 24 27] (K 24 (D [d (a 28 (.bslice 0 85 (.ag 2) (.agg [.str [],.int .i64 0]) [])) [],N 29 2 2,bq 30 85 2 24 28 29 28 0 29 1,H 31 1 5 1 5,ag 32 31 1 31 3,bn 33 32 0 1 32 4,ag 34 33 1 33 5,H 35 2 5 1 5,ag 36 35 1 35 7,ct 37 34 36 1 34 6 36 8,cv 38 85 37 0 1 37 9,bq 39 85 2 24 30 38 30 2 38 10,aq 2 39 2 2 39 11]) (X [T 41,e 40 41] (k 40 (X [j 10] (h 1 (aU [0,2,3,5,10] 10 pc)))))))))) (x (X [j 11] (h 3 (aU [0,2,3,5,11] 11 nh))) (R [j 8])))) 8
def c36:=F 16 (X [O 2] (X [f 6,l 7 90 6,au 5,v 8 5 0,v 9 5 1,bi 3,m 5 3 8,aa 9] (R [U 10,ae 11,aE 12 0 3 11,aA 13 12 11,bc 14 13 1 11,ak 15 11 14,ac 15]))) 2
def kr:=X [P 11 10 9] (x (K 11 .skip (.exit 0)) (x (h 1 (X [ae 12,am 13 2 8 10,ay 14 2 13,bO 4,ax 3,m 2 4 14] (h 2 (X [B 16 4,g 17 16,l 18 36 17,aB 19 18,e 15 19] (K 15 (R [z 2 3]) (X [o 21 4,g 22 21,aX 23 22 0,e 24 23,ao 25 1 4 24,ap 26 25 24,bp 27 26 3 24,ab 28 24 27,e 20 28] (K 20 (R [z 2 2]) (X [f 30,T 31,a 32 (.slcV (.ag 2) (t 30) none (some (t 31)) none),bG 33 92 4,an 34 91 32 33,e 29 34] (k 29 (R [z 2 7])))))))))) (r [p 35 10,e 10 35])))
def c37:=F 36 (X [j 2] (I [f 5,C 6 5,aJ 7 6 6] 7 (R [z 2 2]) (x (X [f 8,C 9 8,j 10] (h 0 (aL [0,8,9,10] 10 kr))) (R [j 2])))) 2
def c38:=F 11 (X [ar 1,j 2] (x (X [A 4 1,l 5 93 4,w 3] (X [T 6,az 7 6 0] (k 7 (R [T 8,ac 8])))) (R [A 9 1,l 10 94 9,ae 2]))) 2
def pd:=X [P 42 41 40] (x (K 42 .skip (.exit 1)) (x (h 2 (X [aY 43 39 41,g 44 43,e 10 44] (X [e 46 2,ae 47,bm 48 46 47,e 45 48,v 49 45 0,v 50 45 1,e 11 49,e 12 50] (X [ax 51,aB 52 51] (k 52 (R [z 8 21])))))) (r [p 53 41,e 41 53])))
def nj:=X [P 58 57 56] (x (K 58 .skip (.exit 3)) (x (h 4 (X [am 59 6 55 57,A 60 59,aj 14,S 14 60] (X [f 61,A 62 14,e 63 2,T 64,a 65 (.call (.fn 39) [t 61,t 62,t 63,t 64]),e 15 65] (X [e 66 15,az 67 66 0] (k 67 (R [e 68 15,e 8 68])))))) (r [p 69 57,e 57 69])))
def c39:=G 70 (X [aO 5 1,j 8] (x (h 0 (X [B 17 5,g 18 17,Z 19 18 10,e 16 19] (K 16 (R [f 20,A 21 5,e 22 2,ci 23 95 20 21 22,e 8 23]) (X [A 25 5,l 26 96 25,e 24 26] (K 24 (D [N 27 2 2,H 28 1 5 0 5,y 29 28 28 1,bn 30 29 0 0 29 2,y 31 30 30 3,H 32 2 5 0 5,y 33 32 32 5,ct 34 31 33 0 31 4 33 6,bN 35 97 27 34 27 0 34 7,aq 2 35 1 1 35 8]) (X [T 37,e 36 37] (k 36 (X [o 38 5,g 39 38,C 40 39,j 41] (h 1 (aL [0,2,3,5,39,40,41] 41 pd)))))))))) (x (X [E 54 5 5,g 55 54,C 56 55,j 57] (h 3 (aL [0,2,3,55,56,57] 57 nj))) (R [j 8])))) 8
def qK:=X [P 9 8 7] (x (K 9 .skip (.exit 0)) (x (h 1 (X [am 10 2 6 8,ay 11 2 10,bO 5,m 2 5 11] (r [T 12,ay 13 2 5,an 14 97 12 13,e 3 14]))) (r [p 15 8,e 8 15])))
def c40:=G 17 (X [a 2 (.mov (.const .undef))] (X [a 3 (.mov (.fn 98))] (x (X [f 6,C 7 6,j 8] (h 0 (bT [3,6,7,8] 3 8 qK))) (R [T 16,ac 16])))) 2
def c41:CFn:=⟨12,true,X [ar 1,aZ 2] (x (D [H 3 1 1 0 1,y 4 3 3 0,aG 5 70 4 4 1,ch 6 2 1 0 1 1,aW 7 6 6 1 6 3,aG 8 99 7 7 4,bw 9 1 1 1 2 1,aV 1 9 5 9 6 5 2,ch 10 2 1 3 3 1,aV 6 10 8 10 8 8 5]) (R [ay 11 8 1,m 8 2 11])),[.cell 2 (.ag 8)]⟩
def c42:CFn:=⟨17,true,X [ar 1,aZ 2] (X [o 4 1,g 5 4,aN 6 2 6 1,A 7 6,cK 8 5 7,l 9 100 8,bb 3,m 7 3 9] (R [B 10 1,g 11 10,B 12 3,g 13 12,aN 14 1 6 3,A 15 14,cQ,m 8 2 16])),[.cell 2 (.ag 8)]⟩
def s9:=W [w 11,f 12,C 13 12,P 14 11 13] 14 (x (h 1 (x (D [N 17 0 0,N 18 5 5,aK 19 8 17 18 0 17 0 18 1,ai 20 0 19 0 0 19 2,y 21 20 20 3,N 22 1 1,N 23 5 5,aK 24 8 22 23 0 22 5 23 6,ai 25 0 24 0 0 24 7,y 26 25 25 8,d (a 27 (.bin .neq (t 21) (t 26))) [s 21 4,s 26 9],aq 28 27 0 0 27 10,bD 29 0 28 0 28 11,bD 30 5 28 5 28 11,d (c 31 (.iaddrS (.ag 8) (t 29) (t 30)) 28) [s 29 12,s 30 13,s 28 11],d (c 32 (.faddr 1 .sc (t 31)) 28) [s 31 14,s 28 11],d (c 33 (.load .sc (t 32)) 28) [s 32 15,s 28 11],bD 34 0 28 0 28 11,bD 35 5 28 5 28 11,d (c 36 (.iaddrS (.ag 8) (t 34) (t 35)) 28) [s 34 17,s 35 18,s 28 11],d (c 37 (.faddr 2 (.ag 6) (t 36)) 28) [s 36 19,s 28 11],d (c 38 (.load (.ag 6) (t 37)) 28) [s 37 20,s 28 11],d (c 39 (.build [.slc .full [],.int .i64 0,.slc .full [],.int .i64 0,.int .i64 0,.int .i64 0,.slc .full []] [(0,1,t 33),(1,6,t 38)]) 28) [s 33 16,s 38 21,s 28 11],bD 40 1 28 1 28 11,bD 41 5 28 5 28 11,d (c 42 (.iaddrS (.ag 8) (t 40) (t 41)) 28) [s 40 23,s 41 24,s 28 11],d (c 43 (.faddr 1 .sc (t 42)) 28) [s 42 25,s 28 11],d (c 44 (.load .sc (t 43)) 28) [s 43 26,s 28 11],bD 45 1 28 1 28 11,bD 46 5 28 5 28 11,d (c 47 (.iaddrS (.ag 8) (t 45) (t 46)) 28) [s 45 28,s 46 29,s 28 11],d (c 48 (.faddr 2 (.ag 6) (t 47)) 28) [s 47 30,s 28 11],d (c 49 (.load (.ag 6) (t 48)) 28) [s 48 31,s 28 11],d (c 50 (.build [.slc .full [],.int .i64 0,.slc .full [],.int .i64 0,.int .i64 0,.int .i64 0,.slc .full []] [(0,1,t 44),(1,6,t 49)]) 28) [s 44 27,s 49 32,s 28 11],⟨c 51 (.call (.fn 101) [t 39,t 50]) 28,.heavy,[s 39 22,s 50 33,s 28 11]⟩,⟨c 52 (.un .not (t 51)) 28,.light 1 1,[s 51 34,s 28 11]⟩,⟨a 53 (.pick (t 28) (.const (.bool true)) (t 52)),.light 1 1,[s 28 11,s 52 35]⟩]) (k 53 (R [O 4])))) (r [w 15,p 16 15,e 5 16]))
def c43:=F 54 (X [O 4] (I [f 6,C 7 6,ad 8,C 9 8,bU 10 7 9] 10 (R [O 4]) (x (X [j 5] (h 0 (aU [0,1,5] 5 s9))) (R [bA 4])))) 4
def pe:=X [P 9 8 7] (x (K 9 .skip (.exit 0)) (x (h 1 (X [al 10,ae 5] (X [ad 11,f 12,w 13,am 14 8 12 13,ay 15 8 14,bm 16 11 15] (k 16 (R [w 17,aa 17]))))) (r [p 18 8,e 8 18])))
def c44:=F 19 (X [j 4] (x (X [f 6,C 7 6,j 8] (h 0 (aL [0,1,7,8] 8 pe))) (R [z 4 (-1)]))) 4
def c45:=G 8 (X [ar 2,O 3] (R [B 4 2,g 5 4,g 6 1,bW 7 5 6,au 3])) 3
def c46:=L 20 (X [ar 1,aD 2,j 3] (x (X [A 6 1,l 7 38 6,aa 7] (X [U 8,az 9 8 0] (k 9 (R [U 10,aD 2,ae 3])))) (X [a 11 (.build [.slc .full []] []),aO 12 11,ax 5] (X [w 13,A 14 1,a 15 (.call (.fn 83) [t 13,t 14,.const (.bool true)])] (R [w 16,l 17 84 16,v 18 17 0,v 19 17 1,ac 18,e 3 19]))))) 2 3
def c47:=F 12 (X [aD 2] (I [f 3,aX 4 3 0,U 5,V 6 0 5,c 7 (.bin .geq (t 6) (i 4)) 5,ab 8 5 7] 8 (R [aD 2]) (R [f 9,a 10 (.iaddrA 4 .sc (.glob 0) (t 9)),g 11 10,ac 11]))) 2
def c48:=M 19 (X [j 4,ca 5] (X [f 6,l 7 102 6] (X [f 8,f 9,u 10 9,o 11 10,g 12 11,ad 13,a 14 (.call (.const .undef) []),u 15 8,o 16 15,m 1 16 14] (R [ad 17,aP 18 17,aa 18,ca 5])))) 4 5
def c50:=G 17 (X [ca 4] (X [f 5,l 6 102 5] (X [f 7,f 8,u 9 8,o 10 9,g 11 10,ad 12,a 13 (.bslice 1 5 .sc (.int .u8 0) [(0,t 12)]),bI 14 5 1 11 13,u 15 7,o 16 15,m 1 16 14] (R [ca 4])))) 4
def c51:=G 14 (X [aD 2] (x (D [N 3 0 0,aH 4 3 0 0 3 0,ai 5 1 4 0 0 4 1,y 6 5 5 2,d (a 7 (.call (.const .undef) [])) [s 6 3],N 8 0 0,aH 9 8 0 0 8 5,ai 10 1 9 0 0 9 6,y 11 10 10 7,d (a 12 (.len 1 (t 11))) [s 11 8],d (a 13 (.call (.const .undef) [])) [s 7 4,s 12 9],aq 2 13 0 0 13 10]) .ret)) 2
def c52:=L 17 (X [ar 1,aD 2,j 3] (x (X [A 6 1,l 7 34 6,aa 7] (X [U 8,az 9 8 0] (k 9 (R [U 10,aD 2,ae 3])))) (X [A 11 1,a 12 (.call (.fn 104) [t 11,.const (.bool true)]),ax 5] (I [w 13,aP 14 13,aJ 15 14 65536] 15 (R [aD 2,z 3 2]) (R [w 16,ac 16,j 3]))))) 2 3
def c53:=F 12 (X [aD 2] (x (X [f 3] (h 0 (X [Z 5 3 0,w 4] (K 4 (R [cC [118,101,114,116,101,120]]) (X [Z 7 3 1,au 6] (K 6 (R [cC [101,100,103,101]]) (X [Z 9 3 2,af 8] (K 8 (R [cC [115,101,116]]) (X [Z 11 3 3,e 10 11] (k 10 (R [cC [101,100,103,101,115]]))))))))))) (R [aD 2]))) 2
def gx:=h 1 (X [B 19 7,g 20 19,af 21,al 22,a 23 (.bin .sub (t 21) (t 22)),p 24 23,a 25 (.build [.int .i64 0,.int .i64 0] [(0,1,t 20),(1,1,t 24)]),m 2 7 25] (h 2 (X [af 28,f 29,aP 30 29,bW 31 28 30,e 27 31] (K 27 (X [w 32,ay 33 2 7,a 34 (.build [.int .i64 0,.str [],.int .i64 0,.int .i64 0,.int .i64 0] [(3,2,t 33)]),cD 35 121 34,bv 36 121 5 48 32 35,e 5 36] (.exit 0)) (X [f 38,af 39,bP 40 38 39,l 41 106 40,e 37 41] (K 37 (I [f 42,af 43,bP 44 42 43,cj 45 44 10] 45 (r [B 46 7,g 47 46,p 48 47,af 49,p 50 49,B 51 7,m 1 51 48,e 8 50]) (r [af 52,p 53 52,e 9 53])) (X [f 55,af 56,bP 57 55 56,a 58 (.call (.fn 107) [.const (.str [61,40,41,44,58,59]),t 57]),be 59 58 0,e 54 59] (K 54 (x (D [N 60 5 5,N 61 0 0,N 62 9 9,N 63 9 9,d (a 64 (.bin .add (t 63) (i 1))) [s 63 3],d (a 65 (.slcS (t 61) (some (t 62)) (some (t 64)))) [s 61 1,s 62 2,s 64 4],bf 66 2 7 0 7,d (a 67 (.build [.int .i64 0,.str [],.int .i64 0,.int .i64 0,.int .i64 0] [(0,1,i 4),(1,1,t 65),(3,2,t 66)])) [s 65 5,s 66 6],d (a 68 (.bslice 1 121 (.ag 5) (.agg [.int .i64 0,.str [],.int .i64 0,.int .i64 0,.int .i64 0]) [(0,t 67)])) [s 67 7],bq 69 121 5 48 60 68 60 0 68 8,aq 5 69 1 1 69 9]) (r [af 70,p 71 70,e 9 71])) (X [f 73,af 74,bP 75 73 74,l 76 108 75,e 72 76] (K 72 (X [f 77,af 78,a 79 (.slcS (t 77) (some (t 78)) none),cl 80 109 79 108,e 10 80] (X [f 82,af 83,af 84,ae 85,bh 86 84 85,a 87 (.slcS (t 82) (some (t 83)) (some (t 86))),aw 88,an 89 110 87 88,e 81 89,v 90 81 0,v 91 81 1,bi 11,m 5 11 90,e 12 91] (I [ax 92,az 93 92 0] 93 (x (D [bf 94 2 7 0 7,aR 95 12 1 12,d (a 2 (.mov (.const (.slc .full [])))) [],bg 2 3 94 3 94 0,aq 4 95 1 1 95 1]) .ret) (X [ay 96 2 7,aN 97 3 2 11,m 2 97 96] (r [w 98,ay 99 5 11,cD 100 121 99,bv 101 121 5 48 98 100,af 102,ae 103,bh 104 102 103,e 5 101,e 9 104]))))) (x (D [bf 26 2 7 0 7,d (a 2 (.mov (.const (.slc .full [])))) [],bg 2 3 26 3 26 0,⟨a 4 (.mov (i 3)),.light 1 1,[]⟩]) .ret)))))))))))
def c54:CFn:=⟨107,true,X [aI 2,bF 3,j 4] (I [f 13,aP 14 13,aJ 15 14 65536] 15 (R [cE 16,aI 2,m 2 3 16,z 4 2]) (X [aI 5] (X [bS 17 105,a 18 (.build [.int .i64 0,.int .i64 0] [(0,1,i 1),(1,1,i 1)]),bF 7,e 6 17,m 2 7 18,j 8] (x .skip (x (X [j 9] (h 0 (.loop ⟨[0,3,5,6,7,8,9],[(5,none),(8,none),(9,none)],false⟩ gx))) (R [w 105,cE 106,ac 105,m 2 3 106,j 4])))))),[.tmp 2,.cell 3 (.ag 2),.tmp 4]⟩
def lW:=W [f 19,cm 20 112 19 4 [59],aB 21 20] 21 (h 1 (x (x (D [N 22 0 0,aH 23 22 0 0 22 0,ai 24 0 23 0 0 23 1,y 25 24 24 2,N 26 0 0,aH 27 26 0 0 26 4,ai 28 1 27 0 0 27 5,y 29 28 28 6,aK 30 5 25 29 0 25 3 29 7,ai 31 0 30 0 0 30 8,y 32 31 31 9,d (a 33 (.bin .eql (t 32) (i 0))) [s 32 10]]) (k 33 (R [bV 34,m 8 2 34,z 3 3]))) (r [f 35,l 36 113 35])))
def c55:CFn:=⟨66,false,X [aZ 2,j 3] (X [f 8,l 9 111 8,aZ 4,m 8 4 9] (I [f 10,u 11 10,E 12 2 11,g 13 12] 13 (R [bV 14,m 8 2 14,z 3 3]) (X [f 15,u 16 15,o 17 16,g 18 17,e 5 18] (x (h 0 (cn [0,2,4,5] lW)) (x (D [N 38 0 0,aH 39 38 0 0 38 0,ai 40 0 39 0 0 39 1,y 41 40 40 2,N 42 5 5,N 43 0 0,aH 44 43 0 0 43 5,ai 45 1 44 0 0 44 6,y 46 45 45 7,d (a 47 (.slcV (.ag 5) (t 41) (some (t 42)) (some (t 46)) none)) [s 41 3,s 42 4,s 46 8],aG 48 114 47 47 9,aq 37 48 1 1 48 10,bZ 49 37 0 1 1 37 11,bZ 50 37 1 1 1 37 11,aq 6 49 1 1 49 12,aq 7 50 1 1 50 13]) (I [au 51,az 52 51 0] 52 (R [bV 53,au 54,m 8 2 53,e 3 54]) (X [f 55,l 56 113 55] (X [aw 58,l 59 115 58,e 57 59,v 60 57 0,v 61 57 1,v 62 57 2,aN 63 2 6 4,S 63 60,e 7 62] (R [ay 64 8 4,au 65,m 8 2 64,e 3 65]))))))))),[.cell 2 (.ag 8),.tmp 3]⟩
def ku:=W [af 18,f 19,aP 20 19,P 21 18 20] 21 (h 1 (X [f 22,af 23,bP 24 22 23,e 10 24] (I [ae 25,l 26 116 25] 26 (X [af 27,p 28 27,al 29,p 30 29,e 9 28,e 8 30] (I [ae 31,cj 32 31 10] 32 (r [au 33,p 34 33,e 7 34,z 8 1]) (.exit 1))) (X [co 35,bi 11,m 5 11 35,j 12,z 13 1] (J [ae 36,l 37 117 36] 37 (X [f 38,af 39,an 40 85 38 39,e 13 40] (r [f 42,af 43,af 44,e 45 13,bh 46 44 45,a 47 (.slcS (t 42) (some (t 43)) (some (t 46))),l 48 86 47,e 41 48,v 49 41 0,v 50 41 1,m 5 11 49,e 12 50])) (X [ae 51,l 52 118 51] (K 52 (r [f 53,af 54,af 55,p 56 55,a 57 (.slcS (t 53) (some (t 54)) (some (t 56))),cw 58 4 57,m 5 11 58]) (r [z 12 3]))) (I [ax 59,az 60 59 0] 60 (R [au 61,al 62,ax 63,aI 2,e 3 61,aa 62,e 5 63]) (X [au 64,al 65,E 66 3 11,m 1 66 64,E 67 4 11,m 1 67 65] (X [aw 68,ay 69 5 11,cD 70 128 69,bv 71 128 5 48 68 70,e 6 71] (r [af 72,e 73 13,bh 74 72 73,al 75,e 76 13,bh 77 75 76,e 9 74,e 8 77])))))))))
def c56:CFn:=⟨84,true,X [aI 2,j 3,j 4,j 5] (I [f 14,aP 15 14,aJ 16 15 65536] 16 (R [aI 2,j 3,j 4,z 5 2]) (X [a 17 (.bslice 0 128 (.ag 5) (.agg [.int .i64 0,.str [],.int .i64 0,.int .i64 0,.int .i64 0]) []),e 6 17] (X [z 7 1,z 8 1] (x (X [j 9] (h 0 (.loop ⟨[0,6,7,8,9],[(6,none),(7,none),(8,none),(9,none)],true⟩ ku))) (R [aw 78,au 79,al 80,a 81 (.build [.int .i64 0,.str [],.int .i64 0,.int .i64 0,.int .i64 0] [(3,1,t 79),(4,1,t 80)]),cD 82 128 81,bv 83 128 5 48 78 82,ac 83,j 3,j 4,j 5]))))),[.tmp 2,.tmp 3,.tmp 4,.tmp 5]⟩
def ii:=W [f 38,ad 39,a 40 (.call (.fn 58) [t 38,t 39,.const (.str [41])]),aB 41 40] 41 (x (h 1 (I [al 42,aB 43 42] 43 (I [f 44,ad 45,a 46 (.call (.fn 58) [t 44,t 45,.const (.str [44])]),aB 47 46] 47 (R [bV 48,m 8 4 48,j 5,O 6]) (r [ad 49,p 50 49,e 1 50])) (X [f 51,ad 52,an 53 120 51 52,e 9 53] (I [af 54,aX 55 54 0,e 56 55,V 57 0 56,V 58 1 56,c 59 (.bin .add (t 58) (i 1)) 56,c 60 (.call (.fn 119) [t 57,t 59]) 56,c 61 (.un .not (t 60)) 56,ab 62 56 61] 62 (R [bV 63,m 8 4 63,j 5,O 6]) (x (D [H 64 1 7 0 7,y 65 64 64 0,N 66 0 0,N 67 1 1,d (a 68 (.bin .add (t 67) (i 1))) [s 67 3],aK 69 5 66 68 0 66 2 68 4,ai 70 1 69 0 0 69 5,y 71 70 70 6,N 72 9 9,ct 73 71 72 0 71 7 72 8,cv 74 85 73 0 0 73 9,bq 75 85 2 24 65 74 65 1 74 10,bw 76 1 7 1 1 7,aV 1 76 75 76 12 75 11]) (r [ad 77,a 78 (.bin .add (t 77) (i 2)),e 1 78])))))) (r [O 8]))
def c57:CFn:=⟨86,true,X [aZ 4,j 5,O 6] (I [f 10,ad 11,a 12 (.call (.fn 58) [t 10,t 11,.const (.str [108,101,116])]),aB 13 12,e 14 13,V 15 0 14,V 16 1 14,c 17 (.bin .add (t 16) (i 1)) 14,c 18 (.call (.fn 119) [t 15,t 17]) 14,c 19 (.un .not (t 18)) 14,ab 20 14 19,e 21 20,V 22 0 21,V 23 1 21,c 24 (.bin .add (t 23) (i 2)) 21,c 25 (.call (.fn 58) [t 22,t 24,.const (.str [40])]) 21,c 26 (.un .not (t 25)) 21,ab 27 21 26] 27 (R [bV 28,m 8 4 28,j 5,O 6]) (X [f 29,ad 30,p 31 30,am 32 5 29 31,o 33 32,g 34 33,cR 35 34,aZ 7,m 8 7 35] (X [ad 36,a 37 (.bin .add (t 36) (i 3)),e 1 37] (x (X [bA 8] (h 0 (.loop ⟨[0,1,4,7,8],[(7,some 1),(1,none),(8,none)],true⟩ ii))) (x (D [bf 79 8 7 1 7,aR 80 1 2 1,⟨a 81 (.bin .add (t 80) (i 2)),.light 0 2,[s 80 1]⟩,N 82 0 0,N 83 1 1,d (a 84 (.bin .add (t 83) (i 1))) [s 83 4],⟨a 85 (.call (.fn 58) [t 82,t 84,.const (.str [58])]),.heavy,[s 82 3,s 84 5]⟩,bg 8 4 79 4 79 0,aq 5 81 2 2 81 2,aq 6 85 2 2 85 6]) .ret))))),[.cell 4 (.ag 8),.tmp 5,.tmp 6]⟩
def c58:=F 36 (X [O 6] (R [ad 7,f 8,C 9 8,P 10 7 9,ae 11,ah 12 0 11,ah 13 1 11,b 14 (.iaddrS (.ag 5) (t 12) (t 13)) 11,aE 15 0 14 11,aA 16 15 11,bc 17 16 3 11,ah 18 17 11,V 19 0 18,V 20 1 18,c 21 (.iaddrS (.ag 5) (t 19) (t 20)) 18,ao 22 0 21 18,ap 23 22 18,bl 24 23 4 18,bK 25 18 24 11,ak 26 11 25,e 27 26,ah 28 0 27,ah 29 1 27,b 30 (.iaddrS (.ag 5) (t 28) (t 29)) 27,aE 31 1 30 27,aA 32 31 27,ah 33 2 27,b 34 (.bin .eql (t 32) (t 33)) 27,ak 35 27 34,e 6 35])) 6
def pg:=W [w 6,f 7,C 8 7,P 9 6 8] 9 (x (h 1 (I [f 12,w 13,am 14 5 12 13,ay 15 5 14,l 16 121 15,aB 17 16,e 18 17,V 19 0 18,V 20 5 18,c 21 (.iaddrS (.ag 5) (t 19) (t 20)) 18,ao 22 0 21 18,ap 23 22 18,bl 24 23 0 18,V 25 24 18,ah 26 5 25,ah 27 0 25,b 28 (.len 1 (t 27)) 25,b 29 (.bin .sub (t 28) (i 1)) 25,b 30 (.bin .lss (t 26) (t 29)) 25,bE 31 25 30 18,ab 32 18 31] 32 (R [aD 2,z 3 3]) (I [f 33,w 34,am 35 5 33 34,B 36 35,g 37 36,Z 38 37 0] 38 (.exit 1) (I [w 39,aJ 40 39 0] 40 (r [U 41,bC 42 41 [32],aa 42]) (r [U 43,f 44,w 45,am 46 5 44 45,o 47 46,g 48 47,bh 49 43 48,aa 49]))))) (r [w 10,p 11 10,e 5 11]))
def c59:=L 51 (X [aD 2,j 3] (X [aD 4] (x (X [j 5] (h 0 (bJ [0,4,5] 4 5 pg))) (R [U 50,ac 50,j 3])))) 2 3
def c60:CFn:=⟨22,true,X [aj 2,j 3,j 4,j 5] (X [f 11,a 12 (.call (.fn 122) [t 11,.const (.bool true)]),ax 10,v 13 10 0,v 14 10 1,v 15 10 2,v 16 10 3,bb 6,m 7 6 13,e 7 14,e 8 15,e 9 16] (R [aN 17 1 6 6,A 18 17,au 19,al 20,af 21,S 2 18,e 3 19,aa 20,e 5 21])),[.cell 2 (.ag 6),.tmp 3,.tmp 4,.tmp 5]⟩
def ta:=W [U 5,E 6 5 1,g 7 6,C 8 7,P 9 5 8] 9 (x (h 1 (r [T 12,E 13 5 1,g 14 13,U 15,am 16 6 14 15,A 17 16,l 18 63 17,bh 19 12 18,e 3 19])) (r [U 10,p 11 10,aa 11]))
def c63:=F 21 (X [ar 1,j 2] (X [z 3 1] (x (X [j 4] (h 0 (bJ [1,3,4] 3 4 ta))) (R [T 20,ac 20])))) 2
def tb:=W [U 5,E 6 5 1,g 7 6,C 8 7,P 9 5 8] 9 (x (h 1 (r [T 12,E 13 5 1,g 14 13,U 15,am 16 6 14 15,A 17 16,l 18 64 17,a 19 (.maxs [t 12,t 18]),e 3 19])) (r [U 10,p 11 10,aa 11]))
def c64:=F 22 (X [ar 1,j 2] (X [j 3] (x (X [j 4] (h 0 (bJ [1,3,4] 3 4 tb))) (R [T 20,a 21 (.bin .add (i 1) (t 20)),ac 21])))) 2
def qL:=W [T 9,o 10 1,g 11 10,C 12 11,P 13 9 12] 13 (x (h 1 (X [o 16 1,g 17 16,T 18,aY 19 17 18,g 20 19,aP 21 20,aJ 22 21 20] (k 22 (R [O 2])))) (r [T 14,p 15 14,e 3 15]))
def tc:=J [U 23,E 24 5 1,g 25 24,C 26 25,P 27 23 26] 27 .skip (.exit 2) (x (h 3 (X [E 30 5 1,g 31 30,U 32,am 33 6 31 32,A 34 33,l 35 65 34,aB 36 35] (k 36 (R [O 2])))) (r [U 28,p 29 28,aa 29]))
def c65:=F 37 (X [ar 1,O 2] (I [o 5 1,g 6 5,C 7 6,aJ 8 7 20] 8 (R [O 2]) (x (X [j 3] (h 0 (aU [1,3] 3 qL))) (x (X [j 4] (h 2 (aU [1,4] 4 tc))) (R [bA 2]))))) 2
def Hs:=X [P 15 14 13] (x (K 15 .skip (.exit 0)) (x (h 1 (X [am 16 2 12 14,ay 17 2 16,bO 5,m 2 5 17] (x (h 2 (X [B 19 5,g 20 19,l 21 36 20,aB 22 21,e 18 22] (K 18 (R [z 2 3]) (X [o 24 5,g 25 24,l 26 47 25,a 27 (.bin .eql (t 26) (.const (.str []))),e 23 27] (K 23 (R [z 2 2]) (X [T 29,B 30 5,g 31 30,a 32 (.lkp true (.bool false) false (t 29) (t 31)),e 28 32] (k 28 (R [z 2 7])))))))) (r [T 33,B 34 5,g 35 34,n (.ins true (t 33) (t 35) (.const (.bool true)))])))) (r [p 36 14,e 14 36])))
def c66:=F 40 (X [ar 1,j 2] (I [B 6 1,g 7 6,C 8 7,aJ 9 8 8] 9 (R [z 2 8]) (X [a 10 .mkmap,ae 3] (x (X [B 11 1,g 12 11,C 13 12,j 14] (h 0 (aU [1,3,12,13,14] 14 Hs))) (R [aN 37 1 6 1,A 38 37,l 39 38 38,ac 39]))))) 2
def Ht:=X [P 17 16 15] (x (K 17 .skip (.exit 0)) (x (h 1 (X [am 18 8 14 16,ay 19 8 18,aZ 6,m 8 6 19] (X [g 21 4,aN 22 2 6 6,A 23 22,bm 24 21 23,e 20 24,v 25 20 0,v 26 20 1,e 7 25,e 8 26] (r [g 27 3,B 28 6,g 29 28,au 30,al 31,a 32 (.build [.int .i64 0,.int .i64 0] [(0,1,t 30),(1,1,t 31)]),n (.ins true (t 27) (t 29) (t 32))])))) (r [p 33 16,e 16 33])))
def c67:=G 35 (X [a 2 (.mov (.const .undef))] (X [a 9 .mkmap,a 3 (.alloc [.nilm]),m 1 3 9] (X [a 4 (.alloc [.undef])] (X [a 10 (.mkfn 123 [] [t 3,t 4]),m 1 4 10] (x (X [f 11,u 12 11,B 13 12,g 14 13,C 15 14,j 16] (h 0 (aL [3,4,14,15,16] 16 Ht))) (R [g 34 4,ac 34])))))) 2
def c68:CFn:=⟨8,false,r [g 3 1,u 4 3,o 5 4,g 6 5,f 7,n (.ins true (t 6) (t 7) (.const (.bool true)))],[]⟩
def Hu:=X [P 12 11 10] (x (K 12 .skip (.exit 0)) (x (h 1 (X [aY 13 9 11,g 14 13,e 5 14] (r [ad 15,w 16,bm 17 15 16]))) (r [p 18 11,e 11 18])))
def Hv:=X [P 23 22 21] (x (K 23 .skip (.exit 2)) (x (h 3 (X [am 24 6 20 22,A 25 24,aj 7,S 7 25] (r [A 26 7,ad 27,an 28 69 26 27]))) (r [p 29 22,e 22 29])))
def c69:CFn:=⟨30,true,X [ar 2] (x (X [o 8 2,g 9 8,C 10 9,j 11] (h 0 (aL [1,2,9,10,11] 11 Hu))) (X [E 19 5 2,g 20 19,C 21 20,j 22] (h 2 (aL [1,20,21,22] 22 Hv)))),[]⟩
def c70:=F 8 (X [aI 2] (I [f 3,bz 4 1 3] 4 (R [aI 2]) (R [a 5 (.bslice 0 74 (.ag 2) (.agg [.str [],.int .i64 0]) []),f 6,bv 7 74 2 24 5 6,ac 7]))) 2
def Hw:=X [P 42 41 40] (x (K 42 .skip (.exit 0)) (x (h 1 (X [e 43 41,aY 44 39 41,g 45 44,e 11 43,e 12 45] (D [aR 46 10 1 10,H 47 1 8 1 8,ag 48 47 1 47 1,aR 49 11 1 11,aK 50 2 48 49 1 48 2 49 3,ai 51 0 50 0 1 50 4,ag 52 51 1 51 5,N 53 7 7,N 54 12 12,cs 55 53 54 53 7 54 8,⟨n (.ins true (t 46) (t 52) (t 55)),.heavy,[s 46 0,s 52 6,s 55 9]⟩]))) (r [p 56 41,e 41 56])))
def Hx:=X [P 87 86 85] (x (K 87 .skip (.exit 2)) (x (h 3 (X [e 88 86,aY 89 84 86,g 90 89,e 14 88,e 15 90] (X [g 92 5,e 93 15,a 94 (.lkp true (.str []) true (t 92) (t 93)),e 91 94,v 95 91 0,v 96 91 1,e 16 95,e 17 96] (X [e 97 17] (k 97 (r [o 98 13,g 99 98,e 100 14,e 101 16,aY 102 99 100,m 1 102 101])))))) (r [p 103 86,e 86 103])))
def Hy:=X [P 108 107 106] (x (K 108 .skip (.exit 4)) (x (h 5 (X [am 109 6 105 107,A 110 109,aj 19,S 19 110] (D [H 111 5 13 2 13,ag 112 111 2 111 0,N 113 0 0,bf 114 6 19 0 19,ba 115 5 0 5,⟨a 116 (.call (.fn 71) [t 113,t 114,t 115]),.heavy,[s 113 2,s 114 3,s 115 4]⟩,⟨a 117 (.bslice 1 40 (.ag 6) (.agg [.int .i64 0,.slc .full [],.int .i64 0,.int .i64 0,.int .i64 0,.slc .full []]) [(0,t 116)]),.heavy,[s 116 5]⟩,bq 118 40 6 80 112 117 112 1 117 6,bw 119 5 13 3 3 13,aV 1 119 118 119 8 118 7]))) (r [p 120 107,e 107 120])))
def c71:CFn:=⟨122,false,X [aO 4 1,aO 5 2,aj 6] (X [bG 20 124 5,e 7 20] (I [B 21 4,g 22 21,Z 23 22 10] 23 (x (D [N 25 0 0,aH 26 25 0 0 25 0,ai 27 0 26 0 0 26 1,y 28 27 27 2,H 29 1 4 0 4,y 30 29 29 4,bn 31 30 0 0 30 5,y 32 31 31 6,bN 33 15 28 32 28 3 32 7,aq 24 33 1 1 33 8,bZ 34 24 0 1 1 24 9,bZ 35 24 1 1 2 24 9,⟨a 8 (.alloc [.str [],.slc .full [],.int .i64 0,.slc .full [],.int .i64 0,.int .i64 0,.int .i64 0,.slc .full []]),.alloc [.str [],.slc .full [],.int .i64 0,.slc .full [],.int .i64 0,.int .i64 0,.int .i64 0,.slc .full []] 0 1,[]⟩,aV 8 8 34 8 12 34 10,aq 9 35 2 2 35 11]) (X [a 36 .mkmap,e 10 36] (x (X [o 37 4,g 38 37,a 39 (.slcV .sc (t 38) (some (i 1)) none none),C 40 39,j 41] (h 0 (aL [0,6,7,8,10,39,40,41] 41 Hw))) (R [f 57,aN 58 2 6 8,A 59 58,ae 60,ci 61 71 57 59 60,S 6 61])))) (X [A 62 4,aj 13,S 13 62] (X [o 63 4,g 64 63,l 65 125 64,o 66 13,m 1 66 65,E 67 5 13,n (.store 1 (t 67) (.const (.slc .full [])))] (I [A 68 4,l 69 96 68,e 70 69,aA 71 5 70,b 72 (.isnil 2 true (t 71)) 70,ak 73 70 72] 73 (X [g 74 5,l 75 126 74,m 1 5 75] (D [ba 76 5 1 5,H 77 1 4 1 4,ag 78 77 1 77 1,bn 79 78 0 1 78 2,ag 80 79 1 79 3,N 81 0 0,aG 82 127 81 81 5,⟨n (.ins true (t 76) (t 80) (t 82)),.heavy,[s 76 0,s 80 4,s 82 6]⟩])) (x (X [o 83 4,g 84 83,C 85 84,j 86] (h 2 (aL [0,4,5,6,13,84,85,86] 86 Hx))) (x (X [E 104 5 4,g 105 104,C 106 105,j 107] (h 4 (.loop ⟨[0,5,6,13,105,106,107],[(13,some 5),(107,none)],true⟩ Hy))) (R [A 121 13,S 6 121])))))))),[.cell 6 (.ag 6)]⟩
def td:=W [U 18,E 19 5 1,g 20 19,C 21 20,P 22 18 21] 22 (x (h 1 (D [H 25 5 3 1 3,ag 26 25 1 25 0,H 27 5 1 0 1,y 28 27 27 2,N 29 4 4,aK 30 6 28 29 0 28 3 29 4,aW 31 6 30 0 30 5,aG 32 72 31 31 6,cM 33 40 32 32 7,bq 34 40 6 80 26 33 26 1 33 8,bw 35 5 3 2 2 3,aV 1 35 34 35 10 34 9])) (r [U 23,p 24 23,aa 24]))
def c72:CFn:=⟨37,true,X [ar 1,aj 2] (x (D [H 5 0 1 1 1,ag 6 5 1 5 0,d (a 7 (.bslice 0 9 .sc (.str []) [])) [],H 8 1 1 0 1,y 9 8 8 3,cr 10 7 9 7 2 9 4,H 11 2 1 1 1,ag 12 11 1 11 6,H 13 3 1 1 1,ag 14 13 1 13 8,H 15 4 1 1 1,ag 16 15 1 15 10,cS,cN,aV 6 3 17 3 13 17 12]) (x (X [j 4] (h 0 (cu [1,2,3,4] 3 5 4 td))) (R [A 36 3,S 2 36]))),[.cell 2 (.ag 6)]⟩
def c78:CFn:=⟨59,true,X [bb 4,bF 5,j 6] (X [f 14,l 15 54 14,e 13 15,v 16 13 0,v 17 13 1,v 18 13 2,bF 8,e 7 16,m 2 8 17,e 9 18] (I [af 19,az 20 19 0] 20 (x (D [cO 21 0,bf 22 2 8 1 8,aR 23 9 2 9,bg 7 4 21 4 21 0,bg 2 5 22 5 22 1,aq 6 23 2 2 23 2]) .ret) (X [au 24,a 25 (.build [.slc .full [],.int .i64 0,.int .i64 0,.int .i64 0] [(0,1,t 24)]),aO 26 25,e 10 26] (X [ad 27,ae 28,bm 29 27 28,bb 11,m 7 11 29] (I [ae 30,l 31 132 30,a 32 (.fieldv 0 .sc (t 31)),az 33 32 0] 33 (r [ae 34,bu 35 133 34 3]) (I [ae 36,u 37 36,E 38 2 37,g 39 38,az 40 39 0] 40 (x (D [cO 41 1,N 42 10 10,aG 43 132 42 42 1,⟨a 44 (.fieldv 3 (.ag 2) (t 43)),.light 1 2,[s 43 2]⟩,aR 45 10 3 10,aH 46 45 0 3 45 4,ai 47 2 46 0 3 46 5,ag 48 47 3 47 6,bg 7 4 41 4 41 0,bg 2 5 44 5 44 3,aq 6 48 3 3 48 7]) .ret) (x (X [aN 49 1 6 11,A 50 49,l 51 94 50,e 12 51] (X [ax 52,az 53 52 0] (k 53 (R [bX 54,cE 55,ax 56,m 7 4 54,m 2 5 55,e 6 56])))) (R [ay 57 7 11,cE 58,m 7 4 57,m 2 5 58,j 6])))))))),[.cell 4 (.ag 7),.cell 5 (.ag 2),.tmp 6]⟩
def c79:CFn:=⟨10,false,X [bb 2] (X [f 4,l 5 80 4,w 3] (R [T 6,f 7,l 8 81 7,cK 9 6 8,m 7 2 9])),[.cell 2 (.ag 7)]⟩
def Hz:=W [f 9,u 10 9,E 11 2 10,g 12 11,Z 13 12 0] 13 (h 1 (X [f 14,l 15 135 14,a 16 (.build [.str [],.int .i64 0] [(1,1,t 15)]),bO 4,m 2 4 16] (x (X [f 17,l 18 132 17,bi 5,m 5 5 18] (X [B 19 5,g 20 19,Z 21 20 1] (k 21 (h 2 (X [T 23,C 24 23,Z 25 24 8,e 22 25] (K 22 (r [f 26,bu 27 133 26 8]) (X [T 29,bG 30 136 5,an 31 91 29 30,e 28 31] (k 28 (r [f 32,bu 33 133 32 7]))))))))) (X [f 34,l 35 137 34,B 36 4,m 1 36 35] (X [T 37,ay 38 2 4,a 39 (.bslice 1 74 (.ag 2) (.agg [.str [],.int .i64 0]) [(0,t 38)]),bv 40 74 2 24 37 39,e 3 40] (X [f 41,aC 42 134 41 [44],aB 43 42] (k 43 (X [f 44,aC 45 138 44 [58]] (.exit 0)))))))))
def c80:=G 47 (X [aI 2] (I [f 6,aC 7 134 6 [102,105,110,100],aB 8 7] 8 (R [aI 2]) (X [aI 3] (x (h 0 (aL [0,3] 3 Hz)) (R [T 46,ac 46]))))) 2
def c81:CFn:=⟨7,false,X [aj 2] (R [f 3,f 4,a 5 (.mkfn 140 [t 4] []),a 6 (.call (.fn 139) [t 3,.const (.str [105,102,102]),i 15,t 5]),S 2 6]),[.cell 2 (.ag 6)]⟩
def HA:=X [P 10 9 8] (x (K 10 .skip (.exit 0)) (x (h 1 (X [af 11,am 12 2 7 9,ay 13 2 12,bO 5,aa 11,m 2 5 13] (J [U 14,Z 15 14 0] 15 (r [f 16,bH 17 [102,105,110,100],an 18 141 16 17]) (r [f 19,bH 20 [44],an 21 141 19 20]) (D [aR 22 0 1 0,H 23 1 5 0 5,y 24 23 23 1,aG 25 47 24 24 2,H 26 0 5 1 5,ag 27 26 1 26 4,⟨a 28 (.bslice 2 9 .sc (.str []) [(0,t 25),(1,t 27)]),.light 1 1,[s 25 3,s 27 5]⟩,bN 29 141 22 28 22 0 28 6])))) (r [p 30 9,e 9 30])))
def c82:CFn:=⟨38,false,X [aO 3 1] (x (X [B 6 3,g 7 6,C 8 7,j 9] (h 0 (aL [0,3,7,8,9] 9 HA))) (X [B 31 3,g 32 31,C 33 32,aJ 34 33 0] (k 34 (r [f 35,bH 36 [58],an 37 141 35 36])))),[]⟩
def c83:CFn:=⟨64,false,X [ar 3,aO 4 1,aO 5 2] (X [A 8 4,l 9 142 8,af 6] (X [a 10 (.mkfn 143 [] [t 3,t 4,t 5]),ae 7] (h 0 (X [aw 17,Z 18 17 6,e 16 18] (K 16 (D [ba 19 3 1 3,bf 20 6 4 0 4,aG 21 145 20 20 1,bN 22 141 19 21 19 0 21 2]) (X [B 24 4,g 25 24,Z 26 25 11,e 23 26] (K 23 (x (D [ba 27 3 0 3,H 28 0 4 0 4,y 29 28 28 1,cF 30 29 0 29 2,y 31 30 30 3,cG 32 31 0 0 31 4,bN 33 141 27 32 27 0 32 5]) (D [ba 34 3 0 3,H 35 5 4 0 4,y 36 35 35 1,ck 37 36 0 0 36 2,aW 38 6 37 0 37 3,N 39 6 6,ba 40 5 0 5,⟨a 41 (.call (.fn 144) [t 34,t 38,t 39,t 40]),.heavy,[s 34 0,s 38 4,s 39 5,s 40 6]⟩])) (X [A 43 4,l 44 146 43,e 42 44] (K 42 (x (D [ba 45 3 1 3,bf 46 6 4 0 4,aG 47 147 46 46 1,bN 48 141 45 47 45 0 47 2]) (D [ba 49 3 0 3,H 50 5 4 0 4,y 51 50 50 1,ck 52 51 0 0 51 2,aW 53 6 52 0 52 3,⟨a 54 (.call (.fn 83) [t 49,t 53,.const (.bool true)]),.heavy,[s 49 0,s 53 4]⟩])) (X [B 56 4,g 57 56,Z 58 57 14,e 55 58] (K 55 (r [au 59,aw 60,p 61 60,aw 62,a 63 (.call (t 59) [t 61,t 62])]) (r [au 11,aw 12,aw 13,p 14 13,a 15 (.call (t 11) [t 12,t 14])])))))))))))),[]⟩
def c84:=M 14 (X [aD 2,j 3] (X [f 5,u 6 5,B 7 6,g 8 7,aC 9 49 8 [32],aa 9] (I [U 10,aP 11 10,aJ 12 11 65536] 12 (R [aD 2,z 3 2]) (R [U 13,ac 13,j 3])))) 2 3
def ld:=W [ad 6,w 7,bh 8 6 7,f 9,aP 10 9,P 11 8 10,e 12 11,ah 13 0 12,ah 14 1 12,ah 15 5 12,b 16 (.bin .add (t 14) (t 15)) 12,b 17 (.idxS (t 13) (t 16)) 12,b 18 (.call (.fn 117) [t 17]) 12,ak 19 12 18] 19 (h 1 (r [w 20,p 21 20,e 5 21]))
def c85:=F 23 (X [j 4] (X [j 5] (x (h 0 (aU [0,1,5] 5 ld)) (R [w 22,aa 22])))) 4
def c86:CFn:=⟨33,true,X [bi 2,j 3] (I [f 6,a 7 (.idxS (t 6) (i 0)),l 8 148 7] 8 (X [f 10,l 11 149 10,e 9 11,v 12 9 0,v 13 9 1,aa 12,e 5 13] (R [f 14,U 15,a 16 (.build [.int .i64 0,.str [],.int .i64 0,.int .i64 0,.int .i64 0] [(0,1,i 2),(1,1,t 14),(2,1,t 15)]),w 17,m 5 2 16,e 3 17])) (I [f 18,a 19 (.idxS (t 18) (i 0)),l 20 150 19,aB 21 20] 21 (R [co 22,m 5 2 22,z 3 3]) (I [f 23,l 24 151 23] 24 (R [f 25,cw 26 3 25,m 5 2 26,j 3]) (I [f 27,aP 28 27,aJ 29 28 16] 29 (R [co 30,m 5 2 30,z 3 2]) (R [f 31,cw 32 1 31,m 5 2 32,j 3]))))),[.cell 2 (.ag 5),.tmp 3]⟩
def nk:=W [aw 43,o 44 1,g 45 44,C 46 45,P 47 43 46] 47 (x (h 1 (X [o 50 1,g 51 50,aw 52,aY 53 51 52,g 54 53,l 55 32 54,aB 56 55] (k 56 (R [z 2 3])))) (r [aw 48,p 49 48,e 6 49]))
def nl:=J [au 140,E 141 5 1,g 142 141,C 143 142,P 144 140 143] 144 .skip (.exit 2) (x (h 3 (X [E 147 5 1,g 148 147,au 149,am 150 6 148 149,A 151 150,l 152 87 151,e 8 152] (X [al 153,az 154 153 0] (k 154 (R [al 155,ac 155]))))) (r [au 145,p 146 145,e 7 146]))
def c87:=F 156 (X [ar 1,j 2] (I [B 9 1,g 10 9,aX 11 10 0,e 12 11,ao 13 0 1 12,ap 14 13 12,bp 15 14 17 12,ab 16 12 15] 16 (R [z 2 11]) (X [B 18 1,g 19 18,l 20 152 19,e 17 20,v 21 17 0,v 22 17 1,v 23 17 2,e 3 21,aa 22,e 5 23] (I [o 24 1,g 25 24,C 26 25,T 27,P 28 26 27,e 29 28,ao 30 1 1 29,ap 31 30 29,bo 32 1 31 29,V 33 4 29,c 34 (.bin .gtr (t 32) (t 33)) 29,ab 35 29 34,e 36 35,ao 37 5 1 36,ap 38 37 36,bo 39 1 38 36,V 40 5 36,bj 41 39 40 36,ab 42 36 41] 42 (R [z 2 3]) (x (X [j 6] (h 0 (aU [1,6] 6 nk))) (I [B 57 1,g 58 57,az 59 58 7,e 60 59,aE 61 0 1 60,aA 62 61 60,b 63 (.bin .neq (t 62) (i 8)) 60,ak 64 60 63,e 65 64,aE 66 3 1 65,aA 67 66 65,b 68 (.bin .neq (t 67) (i 0)) 65,ak 69 65 68,e 70 69,ao 71 0 1 70,ap 72 71 70,c 73 (.bin .neq (t 72) (i 8)) 70,V 74 73 70,aE 75 4 1 74,aA 76 75 74,b 77 (.bin .neq (t 76) (i 0)) 74,bE 78 74 77 70,ab 79 70 78,e 80 79,ao 81 0 1 80,ap 82 81 80,c 83 (.bin .lss (t 82) (i 16)) 80,V 84 83 80,aE 85 2 1 84,aA 86 85 84,b 87 (.bin .neq (t 86) (i 0)) 84,bE 88 84 87 80,ab 89 80 88] 89 (R [z 2 3]) (I [B 90 1,g 91 90,Z 92 91 7,e 93 92,aE 94 3 1 93,aA 95 94 93,b 96 (.bin .lss (t 95) (i 0)) 93,ah 97 96 93,ao 98 3 1 97,ap 99 98 97,bp 100 99 7 97,bK 101 97 100 93,ak 102 93 101,e 103 102,ao 104 0 1 103,ap 105 104 103,bl 106 105 8 103,V 107 106 103,aE 108 4 1 107,aA 109 108 107,b 110 (.bin .lss (t 109) (i 1)) 107,ah 111 110 107,ao 112 4 1 111,ap 113 112 111,bp 114 113 64 111,bK 115 111 114 107,ah 116 115 107,ao 117 3 1 116,ap 118 117 116,c 119 (.bin .lss (t 118) (i 0)) 116,bK 120 116 119 107,ah 121 120 107,ao 122 3 1 121,ap 123 122 121,ao 124 4 1 121,ap 125 124 121,c 126 (.bin .geq (t 123) (t 125)) 121,bK 127 121 126 107,bE 128 107 127 103,ab 129 103 128,e 130 129,ao 131 2 1 130,ap 132 131 130,c 133 (.bin .lss (t 132) (i 0)) 130,ab 134 130 133,e 135 134,ao 136 2 1 135,ap 137 136 135,bp 138 137 3 135,ab 139 135 138] 139 (R [z 2 2]) (x (X [j 7] (h 2 (aU [1,7] 7 nl))) (R [j 2]))))))))) 2
def c88:=F 9 (X [ar 1,j 2] (I [A 3 1,l 4 63 3,aJ 5 4 4096] 5 (R [z 2 8]) (I [A 6 1,l 7 64 6,aJ 8 7 256] 8 (R [z 2 16]) (R [j 2])))) 2
def no:=W [al 29,o 30 4,g 31 30,C 32 31,P 33 29 32] 33 (x (h 1 (X [e 36 2,o 37 4,g 38 37,al 39,aY 40 38 39,g 41 40,an 42 33 36 41,e 9 42] (I [af 43,aX 44 43 0] 44 (R [z 6 21]) (X [af 45,f 46,au 47,am 48 8 46 47,o 49 48,g 50 49,al 51,bd 52 51 1,am 53 2 50 52,o 54 53,g 55 54,bU 56 45 55] (k 56 (R [z 6 11])))))) (r [al 34,p 35 34,e 8 35]))
def c89:=F 57 (X [aO 4 1,j 6] (X [f 10,o 11 4,g 12 11,cp 13 12,g 14 13,an 15 16 10 14,e 7 15] (I [au 16,aX 17 16 0] 17 (R [z 6 6]) (x (x (D [H 18 1 4 0 4,y 19 18 18 0,d (a 20 (.len 1 (t 19))) [s 19 1],d (a 21 (.bin .sub (t 20) (i 1))) [s 20 2],N 22 0 0,N 23 7 7,aK 24 8 22 23 0 22 4 23 5,ai 25 1 24 0 0 24 6,y 26 25 25 7,d (a 27 (.len 1 (t 26))) [s 26 8],d (a 28 (.bin .neq (t 21) (t 27))) [s 21 3,s 27 9]]) (k 28 (R [z 6 3]))) (x (X [z 8 1] (h 0 (aU [0,2,4,7,8] 8 no))) (R [j 6])))))) 6
def c90:CFn:=⟨32,true,X [bi 2,O 3] (X [f 8,l 9 54 8,af 7,v 10 7 0,v 11 7 1,v 12 7 2,bF 5,ae 4,m 2 5 11,ax 6] (I [aw 13,az 14 13 0,e 15 14,V 16 4 15,bo 17 1 16 15,c 18 (.bin .neq (t 17) (i 2)) 15,ab 19 15 18,e 20 19,V 21 4 20,c 22 (.iaddrS (.ag 5) (t 21) (i 0)) 20,ao 23 1 22 20,ap 24 23 20,V 25 0 20,bj 26 24 25 20,ab 27 20 26] 27 (R [co 28,m 5 2 28,O 3]) (R [U 29,a 30 (.iaddrS (.ag 5) (t 29) (i 0)),ay 31 5 30,m 5 2 31,bA 3]))),[.cell 2 (.ag 5),.tmp 3]⟩
def c91:=F 9 (X [O 4] (R [f 5,ad 6,an 7 153 5 6,be 8 7 0,aa 8])) 4
def c92:=G 9 (X [ar 2,O 3] (R [B 4 2,g 5 4,B 6 1,g 7 6,bW 8 5 7,al 3])) 3
def qM:=X [P 27 26 25] (x (K 27 .skip (.exit 1)) (x (h 2 (X [am 28 6 24 26,A 29 28,aj 4,S 4 29] (X [A 30 4,l 31 93 30,e 5 31] (X [w 32,az 33 32 0] (k 33 (R [w 34,ac 34])))))) (r [p 35 26,e 26 35])))
def c93:=F 36 (X [ar 1,j 2] (x (h 0 (X [B 7 1,g 8 7,aX 9 8 0,af 10,ao 11 0 1 10,ap 12 11 10,c 13 (.bin .geq (t 12) (i 18)) 10,ab 14 10 13,e 6 14] (K 6 (R [z 2 11]) (X [A 16 1,l 17 154 16,aB 18 17,e 15 18] (K 15 (R [z 2 3]) (X [A 20 1,l 21 155 20,aB 22 21,e 19 22] (k 19 (R [z 2 2])))))))) (x (X [E 23 5 1,g 24 23,C 25 24,j 26] (h 1 (aU [24,25,26] 26 qM))) (R [j 2])))) 2
def c94:=F 11 (X [ar 1,j 2] (x (h 0 (X [A 4 1,l 5 156 4,aJ 6 5 4096,aw 3] (K 3 (R [z 2 8]) (X [A 8 1,l 9 157 8,aJ 10 9 256,ae 7] (k 7 (R [z 2 16])))))) (R [j 2]))) 2
def np:=X [P 39 38 37] (x (K 39 .skip (.exit 1)) (x (h 2 (X [e 40 38,aY 41 36 38,g 42 41,e 9 40,e 10 42] (X [e 44 2,ae 45,bm 46 44 45,e 43 46,v 47 43 0,v 48 43 1,e 11 47,e 12 48] (h 3 (X [ax 50,aB 51 50,e 49 51] (K 49 (R [z 6 21]) (X [e 53 11,o 54 7,g 55 54,af 56,am 57 2 55 56,o 58 57,g 59 58,bU 60 53 59,e 52 60] (k 52 (R [z 6 11]))))))))) (r [p 61 38,e 38 61])))
def c95:=G 62 (X [aO 4 1,j 6] (X [f 14,o 15 4,g 16 15,cp 17 16,g 18 17,an 19 15 14 18,e 13 19,v 20 13 0,v 21 13 1,aZ 7,m 8 7 20,e 8 21] (x (h 0 (X [al 23,aB 24 23,e 22 24] (K 22 (R [z 6 6]) (X [o 26 4,g 27 26,C 28 27,bd 29 28 1,o 30 7,g 31 30,C 32 31,bU 33 29 32,e 25 33] (k 25 (R [z 6 3])))))) (x (X [o 34 4,g 35 34,a 36 (.slcV .sc (t 35) (some (i 1)) none none),C 37 36,j 38] (h 1 (aL [2,7,36,37,38] 38 np))) (R [j 6]))))) 6
def c96:=F 11 (X [ar 1,O 2] (R [B 3 1,g 4 3,Z 5 4 16,w 6,ao 7 0 1 6,ap 8 7 6,bl 9 8 17 6,ab 10 6 9,ae 2])) 2
def c97:=G 6 (X [ar 2,aO 3 1,a 4 (.mov (.const .undef))] (R [a 5 (.mkfn 158 [] [t 3,t 2]),w 4])) 4
def c98:=L 4 (X [j 2,O 3] (R [j 2,O 3])) 2 3
def te:=X [P 16 15 14] (x (K 16 .skip (.exit 0)) (x (h 1 (X [am 17 6 13 15,A 18 17,aj 5,S 5 18] (D [H 19 5 1 1 1,ag 20 19 1 19 0,bf 21 6 5 0 5,aG 22 99 21 21 2,cM 23 40 22 22 3,bq 24 40 6 80 20 23 20 1 23 4,bw 25 5 1 2 2 1,aV 1 25 24 25 6 24 5]))) (r [p 26 15,e 15 26])))
def c99:CFn:=⟨28,true,X [ar 1,aj 2] (X [o 6 1,g 7 6,l 8 125 7,o 9 1,m 1 9 8] (X [E 10 5 1,g 11 10,e 3 11] (X [E 12 5 1,n (.store 1 (t 12) (.const (.slc .full [])))] (x (X [T 13,C 14 13,j 15] (h 0 (cu [1,2,13,14,15] 1 5 15 te))) (R [A 27 1,S 2 27]))))),[.cell 2 (.ag 6)]⟩
def tf:=W [U 9,B 10 1,g 11 10,C 12 11,P 13 9 12] 13 (x (h 1 (D [H 16 0 3 0 3,y 17 16 16 0,H 18 0 1 0 1,y 19 18 18 2,N 20 4 4,aK 21 2 19 20 0 19 3 20 4,ai 22 0 21 0 0 21 5,y 23 22 22 6,H 24 0 1 0 1,y 25 24 24 8,N 26 4 4,aK 27 2 25 26 0 25 9 26 10,ai 28 1 27 0 0 27 11,y 29 28 28 12,ct 30 23 29 0 23 7 29 13,cv 31 85 30 0 0 30 14,bq 32 85 2 24 17 31 17 1 31 15,bw 33 0 3 1 1 3,aV 1 33 32 33 17 32 16])) (r [U 14,p 15 14,aa 15]))
def wz:CFn:=⟨35,true,X [ar 1,bb 2] (X [aN 5 1 6 1,A 6 5,l 7 159 6,cL 8 7,bb 3,m 7 3 8] (x (X [j 4] (h 0 (cu [1,2,3,4] 3 0 4 tf))) (R [ay 34 7 3,m 7 2 34]))),[.cell 2 (.ag 7)]⟩
def tg:=W [w 13,B 14 2,g 15 14,C 16 15,P 17 13 16] 17 (x (h 1 (x (D [H 20 0 2 0 2,y 21 20 20 0,N 22 5 5,aK 23 2 21 22 0 21 1 22 2,aW 24 2 23 0 23 3,H 25 0 3 0 3,y 26 25 25 5,N 27 5 5,aK 28 2 26 27 0 26 6 27 7,aW 29 2 28 0 28 8,d (a 30 (.eqs [2,1] true (t 24) (t 29))) [s 24 4,s 29 9]]) (k 30 (R [O 4])))) (r [w 18,p 19 18,e 5 19]))
def wA:=F 36 (X [ar 2,aO 3 1,O 4] (I [B 6 2,g 7 6,C 8 7,B 9 3,g 10 9,C 11 10,bU 12 8 11] 12 (R [O 4]) (x (X [j 5] (h 0 (aU [2,3,5] 5 tg))) (R [aN 31 1 6 2,A 32 31,aN 33 1 6 3,A 34 33,an 35 160 32 34,aa 35])))) 4
def nq:=F 57 (X [ar 2,aD 4] (x (h 0 (X [B 6 2,g 7 6,aX 8 7 11,al 5] (K 5 (R [A 9 2,l 10 163 9,ae 4]) (X [B 12 2,g 13 12,Z 14 13 11,e 11 14] (K 11 (R [E 15 5 2,g 16 15,a 17 (.iaddrS (.ag 6) (t 16) (i 0)),A 18 17,ad 19,a 20 (.call (.fn 164) [i 11,i 0,t 18,t 19]),cH 21 [110,111,116,32] 20,aa 21]) (X [B 23 2,g 24 23,aJ 25 24 15,e 22 25] (k 22 (x (D [bf 26 6 2 0 2,aG 27 165 26 26 0,br 28 27 [32] 1 2 27 1,H 29 5 2 1 2,ag 30 29 1 29 3,ck 31 30 0 1 30 4,aW 32 6 31 1 31 5,⟨a 33 (.call (.fn 104) [t 32,.const (.bool true)]),.heavy,[s 32 6]⟩,bs 34 28 33 2 2 28 2 33 7,aq 4 34 2 2 34 8]) .ret)))))))) (x (D [H 35 0 2 0 2,y 36 35 35 0,H 37 5 2 0 2,y 38 37 37 2,ck 39 38 0 0 38 3,aW 40 6 39 0 39 4,⟨a 41 (.call (.fn 164) [t 36,i 0,t 40,.const (.bool false)]),.heavy,[s 36 1,s 40 5]⟩,br 42 41 [32] 1 3 41 6,H 43 0 2 1 2,ag 44 43 1 43 8,aG 45 166 44 44 9,bs 46 42 45 2 3 42 7 45 10,br 47 46 [32] 2 3 46 11,H 48 0 2 2 2,ag 49 48 2 48 13,H 50 5 2 2 2,ag 51 50 2 50 15,ck 52 51 1 2 51 16,aW 53 6 52 2 52 17,aR 54 1 2 1,⟨a 55 (.call (.fn 164) [t 49,i 1,t 53,t 54]),.heavy,[s 49 14,s 53 18,s 54 19]⟩,bs 56 47 55 3 3 47 12 55 20,aq 4 56 3 3 56 21]) .ret))) 4
def HB:=X [P 8 7 6] (x (K 8 .skip (.exit 0)) (x (h 1 (X [aY 9 5 7,g 10 9,ae 3] (r [ad 11,T 12,n (.ins true (t 11) (t 12) (.const (.bool true)))]))) (r [p 13 7,e 7 13])))
def HC:=G 15 (X [a 0 (.mov (.const .nilm))] (X [a 4 .mkmap,U 1] (x (X [bS 5 167,C 6 5,j 7] (h 0 (aL [1,5,6,7] 7 HB))) (R [ad 14,e 0 14])))) 0
def HD:=F 6 (X [O 2] (R [f 3,a 4 (.call (.fn 107) [.const (.str [9,10,13,32]),t 3]),be 5 4 0,w 2])) 2
def HE:=F 8 (X [j 4] (R [f 5,ad 6,an 7 168 5 6,aa 7])) 4
def HF:=F 13 (X [O 2] (R [f 3,l 4 169 3,U 5,V 6 0 5,c 7 (.call (.fn 170) [t 6]) 5,ab 8 5 7,al 9,V 10 0 9,bL 11 10 39 9,ab 12 9 11,ac 12])) 2
def qN:=W [w 6,f 7,aP 8 7,P 9 6 8,af 10,ah 11 1 10,ah 12 0 10,ah 13 5 10,b 14 (.idxS (t 12) (t 13)) 10,b 15 (.call (t 11) [t 14]) 10,ak 16 10 15] 16 (h 1 (r [w 17,p 18 17,e 5 18]))
def wB:=F 20 (X [j 4] (X [j 5] (x (h 0 (aU [0,1,5] 5 qN)) (R [w 19,aa 19])))) 4
def lg:CFn:=⟨40,false,X [bi 4,j 5] (x (h 0 (X [ad 9,f 10,a 11 (.lkp true (.bool false) false (t 9) (t 10)),e 8 11] (K 8 (R [f 12,cw 13 3 12,m 5 4 13,j 5]) (X [f 15,a 16 (.idxS (t 15) (i 0)),l 17 170 16,e 14 17] (K 14 (X [f 19,l 20 171 19,e 18 20,v 21 18 0,v 22 18 1,e 6 21,e 7 22] (R [f 23,aw 24,a 25 (.build [.int .i64 0,.str [],.int .i64 0,.int .i64 0,.int .i64 0] [(0,1,i 2),(1,1,t 23),(2,1,t 24)]),au 26,m 5 4 25,e 5 26])) (X [f 28,a 29 (.idxS (t 28) (i 0)),l 30 169 29,aB 31 30,e 27 31] (K 27 (R [co 32,m 5 4 32,z 5 3]) (X [f 34,aP 35 34,aJ 36 35 16,e 33 36] (k 33 (R [co 37,m 5 4 37,z 5 2])))))))))) (R [f 38,cw 39 1 38,m 5 4 39,j 5])),[.cell 4 (.ag 5),.tmp 5]⟩
def nr:=W [f 21,u 22 21,E 23 2 22,g 24 23,aB 25 24,e 26 25,ah 27 0 26,b 28 (.call (.fn 112) [t 27,i 4,.const (.str [44])]) 26,ak 29 26 28] 29 (h 1 (X [f 30,l 31 113 30] (D [H 32 1 3 1 3,ag 33 32 1 32 0,N 34 0 0,aG 35 174 34 34 2,cv 36 74 35 1 1 35 3,bq 37 74 2 24 33 36 33 1 36 4,bw 38 1 3 2 2 3,aV 1 38 37 38 6 37 5])))
def qO:CFn:=⟨44,false,X [aZ 2] (X [f 4,cm 5 172 4 3 [108,101,116]] (X [f 6,l 7 173 6,cR 8 7,aZ 3,m 8 3 8] (X [f 9,cm 10 172 9 4 [40]] (I [f 11,cm 12 112 11 4 [41],aB 13 12] 13 (x (D [H 14 1 3 1 3,ag 15 14 1 14 0,N 16 0 0,aG 17 174 16 16 2,cv 18 74 17 1 1 17 3,bq 19 74 2 24 15 18 15 1 18 4,bw 20 1 3 2 2 3,aV 1 20 19 20 6 19 5]) (h 0 (.loop ⟨[0,2,3],[(3,some 1)],true⟩ nr))) (X [f 39,cm 40 172 39 4 [41]] (X [f 41,cm 42 172 41 4 [58]] (R [ay 43 8 3,m 8 2 43]))))))),[.cell 2 (.ag 8)]⟩
def qP:=G 35 (X [O 6] (x (D [N 7 0 0,aH 8 7 0 0 7 0,ai 9 0 8 0 0 8 1,y 10 9 9 2,N 11 0 0,aH 12 11 0 0 11 4,ai 13 1 12 0 0 12 5,y 14 13 13 6,aK 15 5 10 14 0 10 3 14 7,ai 16 0 15 0 0 15 8,y 17 16 16 9,N 18 1 1,d (a 19 (.bin .eql (t 17) (t 18))) [s 17 10,s 18 11],aq 20 19 0 0 19 12,d (b 21 (.mov (t 0)) 20) [q 0,s 20 13],d (b 22 (.nilck (t 21)) 20) [s 21 14,s 20 13],bQ 23 0 22 20 22 15 20 13,bM 24 23 20 23 16 20 13,d (b 25 (.mov (t 0)) 20) [q 0,s 20 13],d (b 26 (.nilck (t 25)) 20) [s 25 18,s 20 13],bQ 27 1 26 20 26 19 20 13,bM 28 27 20 27 20 20 13,d (b 29 (.iaddrS (.ag 5) (t 24) (t 28)) 20) [s 24 17,s 28 21,s 20 13],bQ 30 1 29 20 29 22 20 13,bM 31 30 20 30 23 20 13,d (b 32 (.mov (t 2)) 20) [q 2,s 20 13],d (b 33 (.bin .eql (t 31) (t 32)) 20) [s 31 24,s 32 25,s 20 13],cI 34 20 33 20 13 33 26,aq 6 34 0 0 34 27]) .ret)) 6
def qQ:CFn:=⟨17,false,D [N 2 0 0,N 3 0 0,aH 4 3 0 0 3 1,ai 5 1 4 0 0 4 2,y 6 5 5 3,d (a 7 (.bin .add (t 6) (i 1))) [s 6 4],N 8 0 0,aH 9 8 0 0 8 6,ai 10 0 9 0 0 9 7,y 11 10 10 8,d (a 12 (.len 1 (t 11))) [s 11 9],d (a 13 (.bin .sub (t 12) (i 1))) [s 12 10],d (a 14 (.mins [t 7,t 13])) [s 7 5,s 13 11],aH 15 2 0 0 2 0,ai 16 1 15 0 0 15 13,aV 1 16 14 16 14 14 12],[]⟩
def th:=X [P 12 11 10] (x (K 12 .skip (.exit 0)) (x (h 1 (X [e 13 11,am 14 5 9 11,ay 15 5 14,bi 6,e 5 13,m 5 6 15] (I [B 16 6,g 17 16,Z 18 17 0,e 19 18,aE 20 1 6 19,aA 21 20 19,b 22 (.bin .eql (t 21) (.const (.str []))) 19,ak 23 19 22,e 24 23,aE 25 2 6 24,aA 26 25 24,bc 27 26 0 24,ak 28 24 27,e 29 28,ah 30 5 29,ah 31 0 29,b 32 (.len 1 (t 31)) 29,b 33 (.bin .sub (t 32) (i 1)) 29,b 34 (.bin .eql (t 30) (t 33)) 29,ak 35 29 34] 35 (.exit 0) (x (X [o 37 6,g 38 37,l 39 90 38,e 36 39,v 40 36 0,v 41 36 1,bi 7,m 5 7 40,e 8 41] (X [al 42,aB 43 42,e 44 43,ao 45 0 7 44,ap 46 45 44,ao 47 0 6 44,ap 48 47 44,bj 49 46 48 44,ab 50 44 49,e 51 50,ao 52 2 7 51,ap 53 52 51,ao 54 2 6 51,ap 55 54 51,bj 56 53 55 51,ab 57 51 56] (k 57 (R [aD 2,z 3 3])))) (r [U 58,o 59 6,g 60 59,bt 61 60,bI 62 9 16 58 61,aa 62]))))) (r [p 63 11,e 11 63])))
def wC:=L 66 (X [aD 2,j 3] (X [aI 4] (x (X [f 9,C 10 9,j 11] (h 0 (bJ [0,4,9,10,11] 4 11 th))) (R [U 64,aC 65 49 64 [32],ac 65,j 3])))) 2 3
def wD:CFn:=⟨18,true,X [aj 2,bF 3,j 4] (X [f 9,cl 10 78 9 175,ae 8,v 11 8 0,v 12 8 1,v 13 8 2,bb 5,bF 6,m 7 5 11,m 2 6 12,e 7 13] (x (D [ch 14 1 5 0 0 5,aW 15 6 14 0 14 0,bf 16 2 6 1 6,aR 17 7 2 7,bg 6 2 15 2 15 1,bg 2 3 16 3 16 2,aq 4 17 2 2 17 3]) .ret)),[.cell 2 (.ag 6),.cell 3 (.ag 2),.tmp 4]⟩
def HG:=F 17 (X [O 2] (R [f 3,cj 4 3 9,U 5,V 6 0 5,bL 7 6 10 5,ab 8 5 7,al 9,V 10 0 9,bL 11 10 13 9,ab 12 9 11,ax 13,V 14 0 13,bL 15 14 32 13,ab 16 13 15,ac 16])) 2
def HH:=F 13 (X [O 2] (R [f 3,l 4 150 3,U 5,V 6 0 5,c 7 (.call (.fn 148) [t 6]) 5,ab 8 5 7,al 9,V 10 0 9,bL 11 10 39 9,ab 12 9 11,ac 12])) 2
def HI:=F 25 (X [O 2] (R [f 3,cj 4 3 61,U 5,V 6 0 5,bL 7 6 40 5,ab 8 5 7,al 9,V 10 0 9,bL 11 10 41 9,ab 12 9 11,ax 13,V 14 0 13,bL 15 14 44 13,ab 16 13 15,e 17 16,V 18 0 17,bL 19 18 58 17,ab 20 17 19,e 21 20,V 22 0 21,bL 23 22 59 21,ab 24 21 23,ac 24])) 2
def ph:=F 17 (X [O 4] (R [ad 5,f 6,C 7 6,P 8 5 7,al 9,ah 10 0 9,ah 11 1 9,b 12 (.iaddrS (.ag 5) (t 10) (t 11)) 9,aE 13 0 12 9,aA 14 13 9,bc 15 14 1 9,ak 16 9 15,aa 16])) 4
def qR:=W [w 6,aX 7 6 4] 7 (x (h 1 (X [f 10,ad 11,w 12,l 13 53 12,ci 14 58 10 11 13] (k 14 (R [w 15,aa 15])))) (r [w 8,p 9 8,af 5]))
def qS:=F 16 (X [j 4] (x (X [j 5] (h 0 (aU [0,1,5] 5 qR))) (R [z 4 (-1)]))) 4
def ti:=F 69 (X [ar 1,O 2] (I [B 5 1,g 6 5,Z 7 6 0] 7 (R [o 8 1,g 9 8,a 10 (.bin .eql (t 9) (.const (.str []))),ae 11,aE 12 2 1 11,aA 13 12 11,bc 14 13 0 11,ak 15 11 14,ac 15]) (I [B 16 1,g 17 16,Z 18 17 4] 18 (R [o 19 1,g 20 19,aP 21 20,Z 22 21 1,e 23 22,aE 24 1 1 23,aA 25 24 23,b 26 (.idxS (t 25) (i 0)) 23,b 27 (.call (.fn 118) [t 26]) 23,ak 28 23 27,e 29 28,aE 30 2 1 29,aA 31 30 29,bc 32 31 0 29,ak 33 29 32,ac 33]) (x (x (D [H 34 1 1 0 1,y 35 34 34 0,d (a 36 (.len 0 (t 35))) [s 35 1],d (a 37 (.bin .eql (t 36) (i 0))) [s 36 2],aq 38 37 0 0 37 3,d (c 39 (.faddr 1 .sc (t 1)) 38) [q 1,s 38 4],d (c 40 (.load .sc (t 39)) 38) [s 39 5,s 38 4],⟨c 41 (.call (.fn 85) [t 40,i 0]) 38,.heavy,[s 40 6,s 38 4]⟩,⟨c 42 (.faddr 1 .sc (t 1)) 38,.light 0 1,[q 1,s 38 4]⟩,⟨c 43 (.load .sc (t 42)) 38,.light 0 1,[s 42 8,s 38 4]⟩,⟨c 44 (.len 0 (t 43)) 38,.light 0 1,[s 43 9,s 38 4]⟩,⟨c 45 (.bin .neq (t 41) (t 44)) 38,.light 1 1,[s 41 7,s 44 10,s 38 4]⟩,⟨a 46 (.pick (t 38) (.const (.bool true)) (t 45)),.light 1 1,[s 38 4,s 45 11]⟩]) (k 46 (R [O 2]))) (X [o 48 1,g 49 48,l 50 86 49,e 47 50,v 51 47 0,v 52 47 1,bi 3,m 5 3 51,aa 52] (R [U 53,Z 54 53 0,e 55 54,aE 56 0 3 55,aA 57 56 55,aE 58 0 1 55,aA 59 58 55,b 60 (.bin .eql (t 57) (t 59)) 55,ak 61 55 60,e 62 61,aE 63 2 3 62,aA 64 63 62,aE 65 2 1 62,aA 66 65 62,b 67 (.bin .eql (t 64) (t 66)) 62,ak 68 62 67,ac 68])))))) 2
def kw:CFn:=⟨93,true,X [bb 4,j 5,j 6,j 7] (X [f 16,l 17 56 16,e 15 17,v 18 15 0,v 19 15 1,v 20 15 2,v 21 15 3,e 8 18,e 9 19,e 10 20,e 11 21] (I [e 22 11,az 23 22 0] 23 (R [bX 24,af 25,ae 26,e 27 11,m 7 4 24,e 5 25,e 6 26,e 7 27]) (X [al 28,a 29 (.build [.slc .full [],.int .i64 0,.int .i64 0,.int .i64 0] [(0,1,t 28)]),aO 30 29,e 12 30] (X [bX 31,bb 13,m 7 13 31] (I [ad 32,aB 33 32] 33 (r [ax 34,l 35 176 34,B 36 13,m 1 36 35]) (X [ax 37,l 38 177 37,aN 39 1 6 13,S 39 38] (I [ax 40,u 41 40,E 42 2 41,g 43 42,Z 44 43 0,e 45 44,ah 46 8 45,ah 47 12 45,b 48 (.nilck (t 47)) 45,aE 49 1 48 45,aA 50 49 45,b 51 (.iaddrS (.ag 5) (t 46) (t 50)) 45,aE 52 0 51 45,aA 53 52 45,b 54 (.bin .neq (t 53) (i 0)) 45,ak 55 45 54] 55 (r [ax 56,u 57 56,E 58 2 57,bR 58 3]) (I [ax 59,u 60 59,E 61 2 60,g 62 61,az 63 62 0] 63 (x (D [cO 64 0,aR 65 8 1 8,aR 66 12 1 12,aH 67 66 0 1 66 2,ai 68 1 67 0 1 67 3,ag 69 68 1 68 4,aK 70 5 65 69 1 65 1 69 5,ai 71 3 70 0 1 70 6,ag 72 71 1 71 7,aR 73 8 1 8,aR 74 12 1 12,aH 75 74 0 1 74 10,ai 76 1 75 0 1 75 11,ag 77 76 1 76 12,aK 78 5 73 77 1 73 9 77 13,ai 79 4 78 0 1 78 14,ag 80 79 1 79 15,aR 81 12 1 12,aH 82 81 0 1 81 17,ai 83 2 82 0 1 82 18,ag 84 83 1 83 19,bg 7 4 64 4 64 0,aq 5 72 1 1 72 8,aq 6 80 1 1 80 16,aq 7 84 1 1 84 20]) .ret) (x (X [aN 85 1 6 13,A 86 85,l 87 88 86,e 14 87] (X [e 88 14,az 89 88 0] (k 89 (R [bX 90,e 91 14,m 7 4 90,j 5,j 6,e 7 91])))) (R [ay 92 7 13,m 7 4 92,j 5,j 6,j 7])))))))))),[.cell 4 (.ag 7),.tmp 5,.tmp 6,.tmp 7]⟩
def HJ:=X [P 30 29 28] (x (K 30 .skip (.exit 0)) (x (h 1 (X [am 31 6 27 29,A 32 31,aj 10,S 10 32] (X [g 34 2,A 35 10,bm 36 34 35,e 33 36,v 37 33 0,v 38 33 1,e 11 37,e 12 38] (r [au 39,e 40 11,bh 41 39 40,a 42 (.mins [t 41,i 1073741824]),al 43,ax 44,a 45 (.maxs [t 43,t 44]),e 7 42,e 8 45])))) (r [p 46 29,e 29 46])))
def HK:=M 51 (X [ar 3,j 4,j 5] (I [B 13 3,g 14 13,Z 15 14 10] 15 (x (D [ba 16 1 0 1,H 17 1 3 0 3,y 18 17 17 1,bn 19 18 0 0 18 2,y 20 19 19 3,d (a 21 (.lkp true (.agg [.int .i64 0,.int .i64 0]) false (t 16) (t 20))) [s 16 0,s 20 4],⟨a 6 (.alloc [.int .i64 0,.int .i64 0]),.alloc [.int .i64 0,.int .i64 0] 0 0,[]⟩,aV 2 6 21 6 6 21 5]) (x (D [d (a 22 (.iaddrA 2 .sc (t 6) (i 0))) [q 6],y 23 22 22 0,d (a 24 (.iaddrA 2 .sc (t 6) (i 1))) [q 6],y 25 24 24 2,aq 4 23 0 0 23 1,aq 5 25 0 0 25 3]) .ret)) (X [z 7 1,j 8] (x (X [E 26 5 3,g 27 26,C 28 27,j 29] (h 0 (.loop ⟨[2,7,8,27,28,29],[(7,none),(8,none),(29,none)],true⟩ HJ))) (R [au 47,al 48,p 49 48,a 50 (.mins [t 49,i 1073741824]),aa 47,e 5 50]))))) 4 5
def HL:=G 15 (X [aD 3] (x (X [g 7 1,f 8,a 9 (.lkp true (.str []) true (t 7) (t 8)),af 6,v 10 6 0,v 11 6 1,ae 4,e 5 11] (X [w 12] (k 12 (R [U 13,e 3 13])))) (R [f 14,e 3 14]))) 3
def wE:=F 8 (X [aI 2] (I [f 3,bz 4 1 3] 4 (R [aI 2]) (R [a 5 (.bslice 0 9 .sc (.str []) []),f 6,bI 7 9 16 5 6,ac 7]))) 2
def HM:=G 9 (X [a 2 (.mov (.const .nilm))] (I [f 3,bz 4 2 3] 4 (R [a 2 (.mov (.const .nilm))]) (R [f 5,a 6 (.mkif 201 (t 5)),a 7 (.mclone (t 6)),a 8 (.tass 201 (t 7)),ac 8]))) 2
def HN:=h 1 (X [f 4,u 5 4,E 6 2 5,g 7 6,p 8 7,u 9 4,E 10 2 9,m 1 10 8] (X [f 11,u 12 11,E 13 2 12,g 14 13,l 15 179 14,cH 16 [122] 15,e 3 16] (X [f 17,u 18 17,o 19 18,g 20 19,T 21,a 22 (.lkp true (.bool false) false (t 20) (t 21)),aB 23 22] (k 23 (R [T 24,ac 24])))))
def HO:=G 25 (X [aD 2] (h 0 (cn [0] HN))) 2
def tj:CFn:=⟨13,false,X [bi 2] (x (D [N 3 0 0,aH 4 3 0 0 3 0,ai 5 0 4 0 0 4 1,y 6 5 5 2,N 7 0 0,aH 8 7 0 0 7 4,ai 9 1 8 0 0 8 5,y 10 9 9 6,aK 11 5 6 10 0 6 3 10 7,aW 12 5 11 0 11 8,bg 5 2 12 2 12 9]) .ret),[.cell 2 (.ag 5)]⟩
def qT:CFn:=⟨13,false,X [f 4,u 5 4,E 6 2 5,g 7 6,Z 8 7 0] (k 8 (r [f 9,ad 10,u 11 9,E 12 2 11,m 1 12 10])),[]⟩
def qU:=G 18 (X [O 4] (X [f 6,ad 7,an 8 191 6 7,al 5] (I [w 9] 9 (r [f 10,u 11 10,o 12 11,g 13 12,p 14 13,u 15 10,o 16 15,m 1 16 14]) (R [w 17,aa 17])))) 4
def pj:=X [aX 7 6 4] (x (K 7 .skip (.exit 0)) (x (h 1 (X [aw 8,a 9 (.idxA 4 .sc (t 5) (t 6)),al 3,aa 9] (X [f 10,U 11,an 12 134 10 11] (k 12 (R [T 13,ac 13]))))) (r [p 14 6,e 6 14])))
def qV:=G 17 (X [j 2] (x (X [a 5 (.load (.ag 4) (.glob 0)),j 6] (h 0 (aL [0,5,6] 6 pj))) (X [f 15,bu 16 133 15 3] (R [j 2])))) 2
def HP:=G 9 (X [ar 2,O 3] (R [B 4 2,g 5 4,o 6 1,g 7 6,bW 8 5 7,al 3])) 3
def pk:=G 25 (X [aD 2] (X [f 4,l 5 132 4,bi 3,m 5 3 5] (I [B 6 3,g 7 6,az 8 7 1] 8 (r [f 9,bu 10 133 9 3]) (I [f 11,u 12 11,E 13 2 12,g 14 13,az 15 14 0] 15 (R [aD 2]) (X [f 16,u 17 16,o 18 17,g 19 18,p 20 19,u 21 16,o 22 21,m 1 22 20] (R [o 23 3,g 24 23,ac 24])))))) 2
def qW:CFn:=⟨10,false,X [f 4,ad 5,an 6 134 4 5,aB 7 6] (k 7 (r [f 8,bu 9 133 8 3])),[]⟩
def pn:=W [f 12,ad 13,an 14 134 12 13] 14 (h 1 (D [aR 15 2 1 2,bf 16 6 9 1 9,N 17 3 3,⟨a 18 (.call (t 17) []),.heavy,[s 17 2]⟩,cx 19 40 16 18 1 1 16 1 18 3,cT 20 15 5 19 15 19 4,bg 6 9 20 9 20 5]))
def po:CFn:=⟨22,false,X [aj 8] (X [T 10,a 11 (.call (t 10) []),aj 9,S 9 11] (x (h 0 (cn [0,1,2,3,8,9] pn)) (R [A 21 9,S 8 21]))),[.cell 8 (.ag 6)]⟩
def pq:=W [f 10,aC 11 134 10 [105,109,112,108,105,101,115]] 11 (h 1 (r [T 12,f 13,l 14 192 13,cb 15 40 14,bv 16 40 6 80 12 15,e 3 16]))
def fE:=r [aj 6,S 6 30]
def fF:=h 3 (r [A 31 6,A 32 4,a 33 (.bslice 2 40 (.ag 6) (.agg [.int .i64 0,.slc .full [],.int .i64 0,.int .i64 0,.int .i64 0,.slc .full []]) [(0,t 31),(1,t 32)]),cc 34 14 5 33,S 4 34])
def kx:CFn:=⟨36,false,X [aj 2] (X [f 7,l 8 192 7,cb 9 40 8,af 3] (x (h 0 (aL [0,2,3] 3 pq)) (X [T 17,T 18,C 19 18,bd 20 19 1,am 21 6 17 20,A 22 21,aj 4,S 4 22] (x (X [T 23,T 24,C 25 24,bd 26 25 1,a 27 (.slcV (.ag 6) (t 23) none (some (t 26)) none),l 28 193 27] (h 2 (.rng (.tmp 28) [29,30] fE fF))) (R [A 35 4,S 2 35]))))),[.cell 2 (.ag 6)]⟩
def pr:CFn:=⟨13,false,r [f 4,f 5,u 6 5,B 7 6,g 8 7,ad 9,bI 10 9 16 8 9,u 11 4,B 12 11,m 1 12 10],[]⟩
def wF:=F 11 (X [ar 1,j 2] (x (X [B 4 1,g 5 4,a 6 (.iaddrA 18 .sc (.glob 2) (t 5)),g 7 6,au 3] (X [T 8,aJ 9 8 0] (k 9 (R [T 10,ae 2])))) (R [z 2 6]))) 2
def tn:CFn:=⟨29,false,x (D [ba 7 2 0 2,H 8 5 3 0 3,y 9 8 8 1,ck 10 9 0 0 9 2,aW 11 6 10 0 10 3,N 12 0 0,⟨a 13 (.call (.fn 144) [t 7,t 11,t 12,.const (.bool false)]),.heavy,[s 7 0,s 11 4,s 12 5]⟩]) (x (D [ba 14 2 0 2,H 15 0 3 0 3,y 16 15 15 1,cF 17 16 0 16 2,y 18 17 17 3,cG 19 18 0 0 18 4,bN 20 141 14 19 14 0 19 5]) (D [ba 21 2 0 2,H 22 5 3 0 3,y 23 22 22 1,ck 24 23 1 0 23 2,aW 25 6 24 0 24 3,N 26 1 1,ba 27 4 0 4,⟨a 28 (.call (.fn 144) [t 21,t 25,t 26,t 27]),.heavy,[s 21 0,s 25 4,s 26 5,s 27 6]⟩])),[]⟩
def nu:CFn:=⟨33,false,X [aO 5 1] (I [A 8 5,l 9 142 8,e 10 2,a 11 (.bin .geq (t 9) (t 10)),e 12 11,ah 13 3 12,ah 14 13 12,c 15 (.load (.ag 6) (t 5)) 14,c 16 (.call (.fn 146) [t 15]) 14,c 17 (.un .not (t 16)) 14,bK 18 14 17 12,ak 19 12 18] 19 (R [f 20,A 21 5,T 22,ci 23 83 20 21 22]) (X [f 24,bH 25 [40],an 26 141 24 25] (X [f 27,A 28 5,a 29 (.call (.fn 83) [t 27,t 28,.const (.bool true)])] (r [f 30,bH 31 [41],an 32 141 30 31])))),[]⟩
def pt:=X [P 60 59 58] (x (K 60 .skip (.exit 1)) (x (h 2 (X [e 61 59,aY 62 57 59,g 63 62,e 5 61,e 6 63] (I [w 64,aJ 65 64 0] 65 (r [U 66,bH 67 [44],bI 68 9 16 66 67,aa 68]) (r [U 69,aw 70,bt 71 70,bI 72 9 16 69 71,aa 72])))) (r [p 73 59,e 59 73])))
def lX:=F 90 (X [ar 1,aI 2] (X [a 3 (.mov (.fn 179))] (x (X [B 7 1,g 8 7] (h 0 (X [Z 10 8 0,ae 9] (K 9 (R [bH 11 [116,114,117,101],ac 11]) (X [Z 13 8 1,e 12 13] (K 12 (R [bH 14 [102,97,108,115,101],ac 14]) (X [Z 16 8 7,e 15 16] (K 15 (x (D [H 17 1 1 1 1,ag 18 17 1 17 0,bn 19 18 0 1 18 1,ag 20 19 1 19 2,N 21 3 3,H 22 3 1 0 1,y 23 22 22 5,cs 24 21 23 21 4 23 6,⟨a 25 (.bslice 3 9 .sc (.str []) [(0,t 20),(1,.const (.str [105,115])),(2,t 24)]),.light 1 1,[s 20 3,s 24 7]⟩,aq 2 25 1 1 25 8]) .ret) (X [Z 27 8 8,e 26 27] (K 26 (x (D [H 28 1 1 2 1,ag 29 28 2 28 0,bn 30 29 0 2 29 1,ag 31 30 2 30 2,N 32 3 3,H 33 4 1 0 1,y 34 33 33 5,cs 35 32 34 32 4 34 6,aR 36 3 1 3,H 37 3 1 1 1,ag 38 37 1 37 9,cs 39 36 38 36 8 38 10,⟨a 40 (.bslice 6 9 .sc (.str []) [(0,.const (.str [115,105,122,101])),(1,t 31),(2,.const (.str [109,111,100])),(3,t 35),(4,.const (.str [105,115])),(5,t 39)]),.light 2 2,[s 31 3,s 35 7,s 39 11]⟩,aq 2 40 2 2 40 12]) .ret) (X [Z 42 8 9,e 41 42] (K 41 (R [o 43 1,g 44 43,cp 45 44,g 46 45,a 47 (.bslice 2 9 .sc (.str []) [(0,.const (.str [111,110,101])),(1,t 46)]),ac 47]) (X [Z 49 8 10,e 48 49] (k 48 (X [o 50 1,g 51 50,cp 52 51,g 53 52,a 54 (.bslice 2 9 .sc (.str []) [(0,t 53),(1,.const (.str [40]))]),aa 54] (x (X [o 55 1,g 56 55,a 57 (.slcV .sc (t 56) (some (i 1)) none none),C 58 57,j 59] (h 1 (bT [4,57,58,59] 4 59 pt))) (R [U 74,bH 75 [41],bI 76 9 16 74 75,ac 76]))))))))))))))))) (x (D [H 77 1 1 0 1,y 78 77 77 0,bn 79 78 0 0 78 1,y 80 79 79 2,H 81 0 1 0 1,y 82 81 81 4,cF 83 82 0 82 5,y 84 83 83 6,H 85 1 1 0 1,y 86 85 85 8,bn 87 86 1 0 86 9,y 88 87 87 10,d (a 89 (.bslice 3 9 .sc (.str []) [(0,t 80),(1,t 84),(2,t 88)])) [s 80 3,s 84 7,s 88 11],aq 2 89 0 0 89 12]) .ret)))) 2
def tp:=F 11 (X [ar 1,O 2] (R [B 3 1,g 4 3,Z 5 4 16,w 6,ao 7 0 1 6,ap 8 7 6,bl 9 8 17 6,ab 10 6 9,ae 2])) 2
def tu:=F 15 (X [ar 1,aI 2] (x (D [H 3 0 1 1 1,ag 4 3 1 3 0,cF 5 4 1 4 1,ag 6 5 1 5 2,H 7 2 1 0 1,y 8 7 7 4,aG 9 47 8 8 5,H 10 1 1 1 1,ag 11 10 1 10 7,bn 12 11 0 1 11 8,ag 13 12 1 12 9,⟨a 14 (.bslice 4 9 .sc (.str []) [(0,t 6),(1,t 9),(2,t 13),(3,.const (.str [58]))]),.light 1 1,[s 6 3,s 9 6,s 13 10]⟩,aq 2 14 1 1 14 11]) .ret)) 2
def HQ:=F 9 (X [O 2] (R [f 3,cy 4 3 48,U 5,ah 6 0 5,cd 7 6 57 5,ak 8 5 7,ac 8])) 2
def lh:=W [U 7,f 8,aP 9 8,P 10 7 9] 10 (x (h 1 (X [f 13,U 14,bP 15 13 14,l 16 148 15,aB 17 16] (k 17 (R [j 2,z 3 3])))) (r [U 11,p 12 11,aa 12]))
def li:=J [aw 26,f 27,aP 28 27,P 29 26 28] 29 .skip (.exit 2) (x (h 3 (X [w 32,a 33 (.bin .mul (i 10) (t 32)),f 34,aw 35,bP 36 34 35,a 37 (.convI .i64 (t 36)),bh 38 33 37,bd 39 38 48,e 5 39] (X [w 40,aJ 41 40 2147483647] (k 41 (R [j 2,z 3 2]))))) (r [aw 30,p 31 30,e 6 31]))
def gR:=L 43 (X [j 2,j 3] (x (X [j 4] (h 0 (aU [0,4] 4 lh))) (I [f 18,aP 19 18,aJ 20 19 1,e 21 20,ah 22 0 21,b 23 (.idxS (t 22) (i 0)) 21,cz 24 23 48 21,ak 25 21 24] 25 (R [j 2,z 3 3]) (X [j 5] (x (X [j 6] (h 2 (bJ [0,5,6] 5 6 li))) (R [w 42,ac 42,j 3])))))) 2 3
def HR:=F 17 (X [O 2] (R [f 3,cy 4 3 65,U 5,ah 6 0 5,cd 7 6 90 5,ak 8 5 7,al 9,V 10 0 9,c 11 (.bin .geq (t 10) (.const (.int .u8 97))) 9,V 12 11 9,ah 13 0 12,cd 14 13 122 12,bE 15 12 14 9,ab 16 9 15,ac 16])) 2
def tw:=W [U 6,T 7,C 8 7,P 9 6 8] 9 (x (h 1 (X [T 12,U 13,aY 14 12 13,g 15 14,f 16,bW 17 15 16] (k 17 (R [bA 2])))) (r [U 10,p 11 10,aa 11]))
def tz:=F 18 (X [O 2] (X [bS 5 194,w 3] (x (X [j 4] (h 0 (aU [0,3,4] 4 tw))) (R [O 2])))) 2
def wG:CFn:=⟨23,true,X [j 2,j 3,j 4] (x (h 0 (X [f 6,aX 7 6 2,au 5] (K 5 (R [j 2,j 3,j 4]) (X [f 9,aX 10 9 7,ae 8] (K 8 (R [z 2 2,z 3 2,j 4]) (X [f 12,aX 13 12 10,e 11 13] (K 11 (R [z 2 1,z 3 1,j 4]) (X [f 15,Z 16 15 10,e 14 16] (K 14 (R [z 2 1,z 3 17,j 4]) (X [f 18,Z 19 18 11,e 17 19] (K 17 (R [j 2,j 3,z 4 1]) (X [f 21,aX 22 21 16,e 20 22] (k 20 (R [j 2,j 3,z 4 2])))))))))))))) (R [z 2 1,z 3 1,z 4 1])),[.tmp 2,.tmp 3,.tmp 4]⟩
def pu:=X [P 9 8 7] (x (K 9 .skip (.exit 0)) (x (h 1 (X [al 10,ae 5] (X [ad 11,f 12,w 13,am 14 2 12 13,ay 15 2 14,bm 16 11 15] (k 16 (R [w 17,aa 17]))))) (r [p 18 8,e 8 18])))
def qX:=F 19 (X [j 4] (x (X [f 6,C 7 6,j 8] (h 0 (aL [0,1,7,8] 8 pu))) (R [z 4 (-1)]))) 4
def gI:=F 65 (X [ar 1,O 2] (X [B 4 1,g 5 4,a 6 (.iaddrA 18 (.ag 4) (.glob 3) (t 5)),ay 7 4 6,a 3 (.alloc [.int .i64 0,.int .i64 0,.int .i64 0,.bool false]),m 4 3 7] (I [o 8 1,g 9 8,C 10 9,B 11 3,g 12 11,P 13 10 12,e 14 13,ao 15 1 1 14,ap 16 15 14,bo 17 1 16 14,ao 18 1 3 14,ap 19 18 14,c 20 (.bin .gtr (t 17) (t 19)) 14,ab 21 14 20,e 22 21,ao 23 5 1 22,ap 24 23 22,bo 25 1 24 22,ao 26 2 3 22,ap 27 26 22,bj 28 25 27 22,ab 29 22 28] 29 (R [O 2]) (I [o 30 1,g 31 30,cl 32 195 31 196] 32 (R [O 2]) (R [E 33 3 3,g 34 33,e 35 34,ao 36 2 1 35,ap 37 36 35,bl 38 37 0 35,ab 39 35 38,e 40 39,aE 41 0 1 40,aA 42 41 40,bc 43 42 7 40,ah 44 43 40,ao 45 0 1 44,ap 46 45 44,bl 47 46 8 44,bK 48 44 47 40,ah 49 48 40,ao 50 3 1 49,ap 51 50 49,bl 52 51 0 49,bK 53 49 52 40,ak 54 40 53,e 55 54,aE 56 0 1 55,aA 57 56 55,bc 58 57 8 55,ah 59 58 55,ao 60 4 1 59,ap 61 60 59,bl 62 61 0 59,bK 63 59 62 55,ak 64 55 63,ac 64]))))) 2
def ky:=F 45 (X [ar 1,O 2] (x (X [B 3 1,g 4 3] (h 0 (X [Z 6 4 7,aw 5] (K 5 (R [E 7 3 1,g 8 7,be 9 8 0,af 10,aE 11 3 1 10,aA 12 11 10,b 13 (.bin .leq (t 12) (i 7)) 10,ak 14 10 13,ac 14]) (X [Z 16 4 8,e 15 16] (k 15 (R [E 17 4 1,g 18 17,be 19 18 1,e 20 19,aE 21 4 1 20,aA 22 21 20,b 23 (.bin .leq (t 22) (i 64)) 20,ak 24 20 23,e 25 24,aE 26 3 1 25,aA 27 26 25,b 28 (.bin .geq (t 27) (i 0)) 25,ak 29 25 28,e 30 29,aE 31 3 1 30,aA 32 31 30,aE 33 4 1 30,aA 34 33 30,b 35 (.bin .lss (t 32) (t 34)) 30,ak 36 30 35,ac 36]))))))) (R [E 37 2 1,g 38 37,be 39 38 0,e 40 39,aE 41 2 1 40,aA 42 41 40,b 43 (.bin .lss (t 42) (i 4)) 40,ak 44 40 43,ac 44]))) 2
def tA:=X [P 10 9 8] (x (K 10 .skip (.exit 0)) (x (h 1 (X [am 11 6 7 9,A 12 11,aj 5,S 5 12] (r [T 13,A 14 5,l 15 156 14,bh 16 13 15,e 3 16]))) (r [p 17 9,e 9 17])))
def wH:=F 19 (X [ar 1,j 2] (X [z 3 1] (x (X [E 6 5 1,g 7 6,C 8 7,j 9] (h 0 (bJ [3,7,8,9] 3 9 tA))) (R [T 18,ac 18])))) 2
def tB:=X [P 10 9 8] (x (K 10 .skip (.exit 0)) (x (h 1 (X [am 11 6 7 9,A 12 11,aj 5,S 5 12] (r [T 13,A 14 5,l 15 157 14,a 16 (.maxs [t 13,t 15]),e 3 16]))) (r [p 17 9,e 9 17])))
def wI:=F 20 (X [ar 1,j 2] (X [j 3] (x (X [E 6 5 1,g 7 6,C 8 7,j 9] (h 0 (bJ [3,7,8,9] 3 9 tB))) (R [T 18,p 19 18,ac 19])))) 2
def nw:=M 17 (X [j 4,O 5] (I [f 6,B 7 1,g 8 7,bW 9 6 8] 9 (R [o 10 1,g 11 10,aa 11,bA 5]) (R [g 12 2,f 13,bm 14 12 13,v 15 14 0,v 16 14 1,aa 15,e 5 16]))) 4 5
def tC:=W [U 18,E 19 5 1,g 20 19,C 21 20,P 22 18 21] 22 (x (h 1 (D [H 25 5 3 1 3,ag 26 25 1 25 0,H 27 5 1 0 1,y 28 27 27 2,N 29 4 4,aK 30 6 28 29 0 28 3 29 4,aW 31 6 30 0 30 5,aG 32 159 31 31 6,cM 33 32 32 32 7,bq 34 32 6 80 26 33 26 1 33 8,bw 35 5 3 2 2 3,aV 1 35 34 35 10 34 9])) (r [U 23,p 24 23,aa 24]))
def tD:CFn:=⟨37,true,X [ar 1,aj 2] (x (D [H 5 0 1 1 1,ag 6 5 1 5 0,d (a 7 (.bslice 0 9 .sc (.str []) [])) [],H 8 1 1 0 1,y 9 8 8 3,cr 10 7 9 7 2 9 4,H 11 2 1 1 1,ag 12 11 1 11 6,H 13 3 1 1 1,ag 14 13 1 13 8,H 15 4 1 1 1,ag 16 15 1 15 10,cS,cN,aV 6 3 17 3 13 17 12]) (x (X [j 4] (h 0 (cu [1,2,3,4] 3 5 4 tC))) (R [A 36 3,S 2 36]))),[.cell 2 (.ag 6)]⟩
def tE:=W [w 51,o 52 2,g 53 52,C 54 53,P 55 51 54] 55 (x (h 1 (x (D [H 58 1 2 0 2,y 59 58 58 0,N 60 5 5,d (a 61 (.iaddrS .sc (t 59) (t 60))) [s 59 1,s 60 2],y 62 61 61 3,H 63 1 3 0 3,y 64 63 63 5,N 65 5 5,d (a 66 (.iaddrS .sc (t 64) (t 65))) [s 64 6,s 65 7],y 67 66 66 8,d (a 68 (.bin .neq (t 62) (t 67))) [s 62 4,s 67 9]]) (k 68 (R [O 4])))) (r [w 56,p 57 56,e 5 57]))
def tF:=J [aw 69,E 70 5 2,g 71 70,C 72 71,P 73 69 72] 73 .skip (.exit 2) (x (h 3 (x (D [H 76 5 2 0 2,y 77 76 76 0,N 78 6 6,aK 79 6 77 78 0 77 1 78 2,aW 80 6 79 0 79 3,H 81 5 3 0 3,y 82 81 81 5,N 83 6 6,aK 84 6 82 83 0 82 6 83 7,aW 85 6 84 0 84 8,bN 86 160 80 85 80 4 85 9,⟨a 87 (.un .not (t 86)),.light 1 1,[s 86 10]⟩]) (k 87 (R [O 4])))) (r [aw 74,p 75 74,e 6 75]))
def jJ:=F 88 (X [ar 2,aO 3 1,O 4] (I [B 7 2,g 8 7,B 9 3,g 10 9,bU 11 8 10,e 12 11,ao 13 2 2 12,ap 14 13 12,ao 15 2 3 12,ap 16 15 12,bj 17 14 16 12,ab 18 12 17,e 19 18,ao 20 3 2 19,ap 21 20 19,ao 22 3 3 19,ap 23 22 19,bj 24 21 23 19,ab 25 19 24,e 26 25,ao 27 4 2 26,ap 28 27 26,ao 29 4 3 26,ap 30 29 26,bj 31 28 30 26,ab 32 26 31,e 33 32,ao 34 1 2 33,ap 35 34 33,bo 36 1 35 33,ao 37 1 3 33,ap 38 37 33,bo 39 1 38 33,bj 40 36 39 33,ab 41 33 40,e 42 41,ao 43 5 2 42,ap 44 43 42,bo 45 1 44 42,ao 46 5 3 42,ap 47 46 42,bo 48 1 47 42,bj 49 45 48 42,ab 50 42 49] 50 (R [O 4]) (x (X [j 5] (h 0 (aU [2,3,5] 5 tE))) (x (X [j 6] (h 2 (aU [2,3,6] 6 tF))) (R [bA 4]))))) 4
def pv:=J [U 55,o 56 1,g 57 56,C 58 57,P 59 55 58] 59 .skip (.exit 1) (x (h 2 (I [U 62,aJ 63 62 1] 63 (r [T 64,bC 65 64 [32,44],e 3 65]) (r [T 66,bC 67 66 [32],o 68 1,g 69 68,U 70,aY 71 69 70,g 72 71,bh 73 67 72,e 3 73]))) (r [U 60,p 61 60,aa 61]))
def lj:=F 91 (X [ar 1,aD 2] (x (X [B 5 1,g 6 5] (h 0 (J [Z 8 6 0,al 7] 7 .skip (r [Z 9 6 1,af 7]) (K 7 (R [B 10 1,g 11 10,l 12 166 11,ac 12]) (X [Z 14 6 7,e 13 14] (K 13 (x (D [H 15 1 1 1 1,ag 16 15 1 15 0,bn 17 16 0 1 16 1,ag 18 17 1 17 2,br 19 18 [32,105,115,32] 0 1 18 3,H 20 3 1 0 1,y 21 20 20 5,aG 22 198 21 21 6,bs 23 19 22 1 1 19 4 22 7,aq 2 23 1 1 23 8]) .ret) (X [Z 25 6 8,e 24 25] (K 24 (x (D [H 26 1 1 2 1,ag 27 26 2 26 0,bn 28 27 0 2 27 1,ag 29 28 2 28 2,⟨a 30 (.bin .add (.const (.str [115,105,122,101,32])) (t 29)),.light 0 2,[s 29 3]⟩,br 31 30 [32,109,111,100,32] 0 2 30 4,H 32 4 1 0 1,y 33 32 32 6,aG 34 198 33 33 7,bs 35 31 34 1 2 31 5 34 8,br 36 35 [32,105,115,32] 1 2 35 9,H 37 3 1 1 1,ag 38 37 1 37 11,aG 39 198 38 38 12,bs 40 36 39 2 2 36 10 39 13,aq 2 40 2 2 40 14]) .ret) (X [Z 42 6 9,e 41 42] (K 41 (R [o 43 1,g 44 43,cp 45 44,g 46 45,cH 47 [111,110,101,32] 46,ac 47]) (X [Z 49 6 10,e 48 49] (k 48 (X [o 50 1,g 51 50,cp 52 51,g 53 52,bC 54 53 [32,40],e 3 54] (x (X [z 4 1] (h 1 (bJ [1,3,4] 3 4 pv))) (R [T 74,bC 75 74 [32,41],ac 75]))))))))))))))) (x (D [H 76 1 1 1 1,ag 77 76 1 76 0,bn 78 77 0 1 77 1,ag 79 78 1 78 2,br 80 79 [32] 0 1 79 3,H 81 0 1 0 1,y 82 81 81 5,aG 83 166 82 82 6,bs 84 80 83 1 1 80 4 83 7,br 85 84 [32] 1 1 84 8,H 86 1 1 1 1,ag 87 86 1 86 10,bn 88 87 1 1 87 11,ag 89 88 1 88 12,bs 90 85 89 1 1 85 9 89 13,aq 2 90 1 1 90 14]) .ret))) 2
def nA:=F 29 (X [aO 6 2,aD 8] (I [f 9,ad 10,A 11 6,ci 12 199 9 10 11,ax 13,ao 14 0 6 13,ap 15 14 13,bp 16 15 15 13,V 17 16 13,ah 18 3 17,b 19 (.un .not (t 18)) 17,bE 20 17 19 13,ab 21 13 20] 21 (R [A 22 6,a 23 (.call (.fn 104) [t 22,.const (.bool true)]),cH 24 [40,32] 23,bC 25 24 [32,41],e 8 25]) (R [A 26 6,T 27,an 28 104 26 27,e 8 28]))) 8
def tG:=F 18 (X [ar 1,aD 2] (x (D [H 3 0 1 0 1,y 4 3 3 0,aG 5 166 4 4 1,br 6 5 [32] 1 2 5 2,H 7 2 1 1 1,ag 8 7 1 7 4,aG 9 53 8 8 5,bs 10 6 9 2 2 6 3 9 6,br 11 10 [32] 2 2 10 7,H 12 1 1 2 1,ag 13 12 2 12 9,bn 14 13 0 2 13 10,ag 15 14 2 14 11,bs 16 11 15 2 2 11 8 15 12,br 17 16 [32,58] 2 2 16 13,aq 2 17 2 2 17 14]) .ret)) 2
def wJ:=F 7 (X [aD 2] (R [db,f 4,aY 5 3 4,g 6 5,ac 6])) 2
def HS:=F 2 (X [aI 0] (R [cZ,ad 0])) 0
def HT:=F 8 (X [j 4] (R [f 5,ad 6,a 7 (.idxb (t 5) (t 6)),aa 7])) 4
def HU:=F 17 (X [O 2] (R [f 3,cy 4 3 97,U 5,ah 6 0 5,cd 7 6 122 5,ak 8 5 7,al 9,V 10 0 9,c 11 (.bin .geq (t 10) (.const (.int .u8 65))) 9,V 12 11 9,ah 13 0 12,cd 14 13 90 12,bE 15 12 14 9,ab 16 9 15,ac 16])) 2
def HV:=F 9 (X [O 2] (R [f 3,cy 4 3 48,U 5,ah 6 0 5,cd 7 6 57 5,ak 8 5 7,ac 8])) 2
def lY:=L 30 (X [j 2,j 3] (I [f 6,cl 7 109 6 170,f 8,aP 9 8,P 10 7 9,ae 11,V 12 0 11,bo 13 0 12 11,bp 14 13 1 11,V 15 14 11,ah 16 0 15,b 17 (.idxS (t 16) (i 0)) 15,cz 18 17 48 15,bE 19 15 18 11,ab 20 11 19] 20 (R [j 2,z 3 3]) (X [f 22,a 23 (.call (.fn 202) [t 22,i 10,i 31]),e 21 23,v 24 21 0,v 25 21 1,aa 24,e 5 25] (I [w 26,a 27 (.isnil 3 true (t 26))] 27 (R [j 2,z 3 2]) (R [U 28,a 29 (.convI .i64 (t 28)),ac 29,j 3]))))) 2 3
def pw:CFn:=⟨22,false,X [f 6,f 7,u 8 7,E 9 2 8,g 10 9,ae 11,V 12 0 11,V 13 1 11,V 14 2 11,c 15 (.call (.fn 112) [t 12,t 13,t 14]) 11,c 16 (.un .not (t 15)) 11,ab 17 11 16,u 18 6,E 19 2 18,m 1 19 17] (r [f 20,l 21 113 20]),[]⟩
def pz:=G 30 (X [aD 2] (x (D [N 4 0 0,aH 5 4 0 0 4 0,ai 6 0 5 0 0 5 1,y 7 6 6 2,N 8 0 0,aH 9 8 0 0 8 4,ai 10 1 9 0 0 9 5,y 11 10 10 6,aK 12 5 7 11 0 7 3 11 7,aW 13 5 12 0 12 8,cU 3,aV 5 3 13 3 10 13 9]) (X [f 14,f 15,u 16 15,E 17 2 16,g 18 17,e 19 18,ao 20 0 3 19,ap 21 20 19,c 22 (.bin .neq (t 21) (i 1)) 19,ab 23 19 22,u 24 14,E 25 2 24,m 1 25 23] (X [f 26,l 27 113 26] (R [o 28 3,g 29 28,ac 29]))))) 2
def nB:CFn:=⟨25,false,X [ar 1,bO 2] (X [a 4 (.load .sc (.glob 4)),bG 5 204 1,an 6 203 4 5,aw 3] (x (D [ba 7 1 0 1,ba 8 1 0 1,aH 9 8 0 0 8 1,ai 10 2 9 0 0 9 2,y 11 10 10 3,aq 12 11 0 0 11 4,bD 13 3 12 3 12 5,d (c 14 (.bin .lss (t 13) (i 0)) 12) [s 13 6,s 12 5],d (a 15 (.pick (t 12) (.const (.bool true)) (t 14))) [s 12 5,s 14 7],aH 16 7 0 0 7 0,ai 17 2 16 0 0 16 9,aV 1 17 15 17 10 15 8]) (X [g 18 1,l 19 113 18] (R [T 20,a 21 (.maxs [t 20,i 0]),g 22 1,l 23 173 22,a 24 (.build [.str [],.int .i64 0] [(1,1,t 21),(0,1,t 23)]),m 2 2 24])))),[.cell 2 (.ag 2)]⟩
def tH:CFn:=⟨6,false,X [bb 2] (R [f 3,l 4 81 3,cL 5 4,m 7 2 5]),[.cell 2 (.ag 7)]⟩
def HW:=W [f 6,aC 7 205 6 [105,102,102]] 7 (h 1 (X [f 8,u 9 8,o 10 9,g 11 10,p 12 11,u 13 8,o 14 13,m 1 14 12] (D [bf 15 6 3 1 3,N 16 0 0,aG 17 209 16 16 1,cx 18 32 15 17 1 1 15 0 17 2,cJ 19 15 18 1 1 18 3,bg 6 3 19 3 19 4])))
def wK:CFn:=⟨21,false,X [aj 2] (X [f 4,l 5 209 4,aj 3,S 3 5] (x (h 0 (cn [0,2,3] HW)) (R [A 20 3,S 2 20]))),[.cell 2 (.ag 6)]⟩
def nC:=G 29 (X [O 4] (X [f 6,l 7 132 6,bi 5,m 5 5 7] (R [f 8,u 9 8,E 10 2 9,g 11 10,Z 12 11 0,ax 13,aE 14 0 5 13,aA 15 14 13,bc 16 15 3 13,ah 17 16 13,ao 18 0 5 17,ap 19 18 17,bl 20 19 4 17,bK 21 17 20 13,ak 22 13 21,e 23 22,aE 24 1 5 23,aA 25 24 23,ah 26 1 23,b 27 (.bin .eql (t 25) (t 26)) 23,ak 28 23 27,aa 28]))) 4
def tI:CFn:=⟨6,false,X [ar 1,aj 2] (R [g 3 1,bG 4 217 1,a 5 (.call (.fn 139) [t 3,.const (.str [111,114]),i 13,t 4]),S 2 5]),[.cell 2 (.ag 6)]⟩
def tJ:=G 4 (X [ar 1,a 2 (.mov (.const .undef))] (R [bG 3 219 1,T 2])) 2
def wM:=F 2 (X [aI 0] (R [dc,ad 0])) 0
def tK:=F 9 (X [O 4] (R [f 5,ad 6,an 7 220 5 6,be 8 7 0,aa 8])) 4
def wN:=F 6 (X [O 2] (R [f 3,l 4 36 3,aB 5 4,w 2])) 2
def tL:=F 20 (X [aD 2] (I [f 3,aX 4 3 10] 4 (R [f 5,a 6 (.bin .add (i 48) (t 5)),a 7 (.convI .u8 (t 6)),a 8 (.bslice 1 5 .sc (.int .u8 0) [(0,t 7)]),a 9 (.convB (t 8)),ac 9]) (x (D [N 10 0 0,d (a 11 (.bin .quo (t 10) (i 10))) [s 10 0],aG 12 198 11 11 1,aR 13 0 1 0,⟨a 14 (.bin .rem (t 13) (i 10)),.light 0 1,[s 13 3]⟩,⟨a 15 (.bin .add (i 48) (t 14)),.light 0 1,[s 14 4]⟩,⟨a 16 (.convI .u8 (t 15)),.light 0 1,[s 15 5]⟩,⟨a 17 (.bslice 1 5 .sc (.int .u8 0) [(0,t 16)]),.light 0 1,[s 16 6]⟩,⟨a 18 (.convB (t 17)),.light 0 1,[s 17 7]⟩,bs 19 12 18 1 1 12 2 18 8,aq 2 19 1 1 19 9]) .ret))) 2
def pA:=F 72 (X [aO 5 2,O 6] (I [B 7 5,g 8 7,aX 9 8 11,af 10,ao 11 0 5 10,ap 12 11 10,bp 13 12 15 10,ab 14 10 13] 14 (R [O 6]) (x (X [f 15] (h 0 (X [Z 17 15 11,e 16 17] (K 16 (R [B 18 5,g 19 18,aJ 20 19 11,e 6 20]) (X [Z 22 15 12,e 21 22] (K 21 (R [B 23 5,g 24 23,aJ 25 24 12,e 26 25,V 27 1 26,bl 28 27 1 26,V 29 28 26,aE 30 0 5 29,aA 31 30 29,bc 32 31 12 29,bE 33 29 32 26,ab 34 26 33,e 6 34]) (X [Z 36 15 13,e 35 36] (K 35 (R [B 37 5,g 38 37,aJ 39 38 13,e 40 39,V 41 1 40,bl 42 41 1 40,V 43 42 40,aE 44 0 5 43,aA 45 44 43,bc 46 45 13 43,bE 47 43 46 40,ab 48 40 47,e 6 48]) (X [Z 50 15 14,e 49 50] (K 49 (R [B 51 5,g 52 51,Z 53 52 15,e 54 53,V 55 1 54,bl 56 55 0 54,V 57 56 54,aE 58 0 5 57,aA 59 58 57,bc 60 59 14 57,bE 61 57 60 54,ab 62 54 61,e 6 62]) (X [Z 64 15 15,e 63 64] (k 63 (R [ad 65,Z 66 65 1,e 67 66,aE 68 0 5 67,aA 69 68 67,bc 70 69 15 67,ak 71 67 70,e 6 71]))))))))))))) (R [O 6])))) 6
def HX:=W [aw 13,f 14,aP 15 14,P 16 13 15] 16 (x (h 1 (X [f 19,aw 20,bP 21 19 20,e 7 21] (X [w 22,au 23,a 24 (.bin .or (t 22) (t 23)),e 5 24] (X [au 25,a 26 (.iaddrA 256 .sc (.glob 6) (t 25)),g 27 26,a 28 (.convI .i64 (t 27)),e 8 28] (X [T 29,U 30,al 31,a 32 (.un .xor (t 31)),a 33 (.bin .and (t 30) (t 32)),bh 34 29 33,e 3 34] (r [al 35,aa 35])))))) (r [aw 17,p 18 17,e 6 18]))
def HY:=J [ax 42,f 43,aP 44 43,P 45 42 44,e 46 45,ah 47 0 46,ah 48 12 46,b 49 (.idxS (t 47) (t 48)) 46,b 50 (.iaddrA 256 .sc (.glob 6) (t 49)) 46,aA 51 50 46,b 52 (.bin .neq (t 51) (.const (.int .u8 0))) 46,ak 53 46 52] 53 .skip (.exit 2) (h 3 (r [ax 54,p 55 54,e 12 55]))
def HZ:=J [ax 80,f 81,aP 82 81,P 83 80 82,e 84 83,ah 85 0 84,ah 86 12 84,b 87 (.idxS (t 85) (t 86)) 84,b 88 (.iaddrA 256 .sc (.glob 6) (t 87)) 84,aA 89 88 84,b 90 (.bin .neq (t 89) (.const (.int .u8 0))) 84,ak 91 84 90] 91 .skip (.exit 6) (h 7 (r [ax 92,p 93 92,e 12 93]))
def H0:=J [ax 57,f 58,aP 59 58,P 60 57 59] 60 .skip (.exit 4) (h 5 (I [f 61,ax 62,bP 63 61 62,a 64 (.iaddrA 256 .sc (.glob 6) (t 63)),g 65 64,cj 66 65 0] 66 (X [ax 67,p 68 67,e 12 68] (.exit 5)) (X [af 69,ae 70,f 71,e 72 11,ax 73,a 74 (.slcS (t 71) (some (t 72)) (some (t 73))),aY 75 69 70,m 1 75 74] (X [ae 76,p 77 76,e 10 77] (X [ax 78,p 79 78,e 12 79] (x (h 6 (aU [0,9,10,12] 12 HZ)) (r [ax 94,e 11 94])))))))
def H5:=F 106 (X [aI 2] (X [j 3] (X [z 4 1] (X [a 5 (.mov (.const (.int .u8 0)))] (x (X [j 6] (h 0 (.loop ⟨[0,3,4,5,6],[(3,none),(4,none),(5,none),(6,none)],false⟩ HX))) (I [w 36,cy 37 36 128] 37 (R [f 38,cl 39 221 38 222,ac 39]) (X [T 40,a 41 (.mksl 9 .sc (.str []) (t 40) (t 40)),e 9 41] (X [j 10] (X [j 11] (X [j 12] (x (h 2 (aU [0,9,10,12] 12 HY)) (X [ax 56,e 11 56] (x (h 4 (.loop ⟨[0,9,10,11,12],[(10,none),(11,none),(12,none)],false⟩ H0)) (I [e 95 11,f 96,aP 97 96,P 98 95 97] 98 (r [af 99,ae 100,f 101,e 102 11,a 103 (.slcS (t 101) (some (t 102)) none),aY 104 99 100,m 1 104 103]) (R [af 105,ac 105]))))))))))))))) 2
def tM:=M 26 (X [bx 6 0,ca 7] (X [f 11,ad 12,e 13 2,ci 14 223 11 12 13,e 10 14,v 15 10 0,v 16 10 1,e 8 15,e 9 16] (I [af 17,a 18 (.isnil 3 true (t 17))] 18 (R [al 19,f 20,ad 21,e 22 2,af 23,a 24 (.call (.fn 224) [.const (.str [80,97,114,115,101,85,105,110,116]),t 20,t 21,t 22,t 23]),e 6 19,e 7 24]) (R [al 25,e 6 25,ca 7])))) 6 7
def pB:=X [P 9 8 7] (x (K 9 .skip (.exit 0)) (x (h 1 (X [al 10,ae 5] (X [ad 11,f 12,w 13,aY 14 12 13,g 15 14,bm 16 11 15] (k 16 (R [w 17,aa 17]))))) (r [p 18 8,e 8 18])))
def qY:=F 19 (X [j 4] (x (X [f 6,C 7 6,j 8] (h 0 (aL [0,1,7,8] 8 pB))) (R [z 4 (-1)]))) 4
def tN:=G 8 (X [O 3] (x (D [ba 4 1 1 1,N 5 0 0,aG 6 47 5 5 1,⟨a 7 (.call (.fn 112) [t 4,i 3,t 6]),.heavy,[s 4 0,s 6 2]⟩,aq 3 7 2 2 7 3]) .ret)) 3
def nD:=G 53 (X [O 4] (x (D [N 5 0 0,aH 6 5 0 0 5 0,ai 7 2 6 0 0 6 1,y 8 7 7 2,d (a 9 (.bin .eql (t 8) (i 0))) [s 8 3],aq 10 9 0 0 9 4,d (b 11 (.mov (t 0)) 10) [q 0,s 10 5],d (b 12 (.nilck (t 11)) 10) [s 11 6,s 10 5],bQ 13 0 12 10 12 7 10 5,bM 14 13 10 13 8 10 5,d (b 15 (.mov (t 0)) 10) [q 0,s 10 5],d (b 16 (.nilck (t 15)) 10) [s 15 10,s 10 5],bQ 17 1 16 10 16 11 10 5,bM 18 17 10 17 12 10 5,d (b 19 (.iaddrS (.ag 5) (t 14) (t 18)) 10) [s 14 9,s 18 13,s 10 5],bQ 20 0 19 10 19 14 10 5,bM 21 20 10 20 15 10 5,d (b 22 (.bin .eql (t 21) (i 3)) 10) [s 21 16,s 10 5],d (b 23 (.mov (t 22)) 10) [s 22 17,s 10 5],bD 24 0 23 0 23 18,d (c 25 (.nilck (t 24)) 23) [s 24 19,s 23 18],d (c 26 (.faddr 0 .sc (t 25)) 23) [s 25 20,s 23 18],d (c 27 (.load .sc (t 26)) 23) [s 26 21,s 23 18],bD 28 0 23 0 23 18,d (c 29 (.nilck (t 28)) 23) [s 28 23,s 23 18],d (c 30 (.faddr 1 .sc (t 29)) 23) [s 29 24,s 23 18],d (c 31 (.load .sc (t 30)) 23) [s 30 25,s 23 18],d (c 32 (.iaddrS (.ag 5) (t 27) (t 31)) 23) [s 27 22,s 31 26,s 23 18],d (c 33 (.faddr 0 .sc (t 32)) 23) [s 32 27,s 23 18],d (c 34 (.load .sc (t 33)) 23) [s 33 28,s 23 18],d (c 35 (.bin .eql (t 34) (i 4)) 23) [s 34 29,s 23 18],d (b 36 (.pick (t 23) (.const (.bool true)) (t 35)) 10) [s 23 18,s 35 30,s 10 5],cI 37 10 36 10 5 36 31,aq 38 37 0 0 37 32,d (b 39 (.mov (t 0)) 38) [q 0,s 38 33],d (b 40 (.nilck (t 39)) 38) [s 39 34,s 38 33],bQ 41 0 40 38 40 35 38 33,bM 42 41 38 41 36 38 33,d (b 43 (.mov (t 0)) 38) [q 0,s 38 33],d (b 44 (.nilck (t 43)) 38) [s 43 38,s 38 33],bQ 45 1 44 38 44 39 38 33,bM 46 45 38 45 40 38 33,d (b 47 (.iaddrS (.ag 5) (t 42) (t 46)) 38) [s 42 37,s 46 41,s 38 33],bQ 48 1 47 38 47 42 38 33,bM 49 48 38 48 43 38 33,d (b 50 (.mov (t 1)) 38) [q 1,s 38 33],d (b 51 (.bin .eql (t 49) (t 50)) 38) [s 49 44,s 50 45,s 38 33],cI 52 38 51 38 33 51 46,aq 4 52 0 0 52 47]) .ret)) 4
def pC:=W [T 4,aX 5 4 4] 5 (x (h 1 (X [f 8,T 9,l 10 53 9,an 11 205 8 10] (k 11 (X [f 12,u 13 12,o 14 13,g 15 14,p 16 15,u 17 12,o 18 17,m 1 18 16] (R [T 19,ac 19]))))) (r [T 6,p 7 6,au 3]))
def pD:=G 28 (X [j 2] (x (X [j 3] (h 0 (aL [0,3] 3 pC))) (I [f 20,u 21 20,E 22 2 21,g 23 22,Z 24 23 0] 24 (r [f 25,u 26 25,E 27 2 26,bR 27 3]) (R [j 2])))) 2
def pE:=G 42 (X [aD 2] (I [f 3,u 4 3,E 5 2 4,g 6 5,az 7 6 0] 7 (R [aD 2]) (x (x (D [N 8 0 0,aH 9 8 0 0 8 0,ai 10 0 9 0 0 9 1,y 11 10 10 2,N 12 0 0,aH 13 12 0 0 12 4,ai 14 1 13 0 0 13 5,y 15 14 14 6,aK 16 5 11 15 0 11 3 15 7,ai 17 0 16 0 0 16 8,y 18 17 17 9,d (a 19 (.bin .neq (t 18) (i 1))) [s 18 10]]) (k 19 (X [f 20,u 21 20,E 22 2 21,bR 22 3] (R [aD 2])))) (X [f 23,u 24 23,o 25 24,g 26 25,p 27 26,u 28 23,o 29 28,m 1 29 27] (x (D [N 30 0 0,aH 31 30 0 0 30 0,ai 32 0 31 0 0 31 1,y 33 32 32 2,N 34 0 0,aH 35 34 0 0 34 4,ai 36 1 35 0 0 35 5,y 37 36 36 6,d (a 38 (.bin .sub (t 37) (i 1))) [s 37 7],aK 39 5 33 38 0 33 3 38 8,ai 40 1 39 0 0 39 9,y 41 40 40 10,aq 2 41 0 0 41 11]) .ret))))) 2
def pF:CFn:=⟨23,false,I [f 4,u 5 4,E 6 2 5,g 7 6,az 8 7 0] 8 .ret (I [f 9,ad 10,an 11 205 9 10,aB 12 11] 12 (R [f 13,u 14 13,E 15 2 14,bR 15 3]) (r [f 16,u 17 16,o 18 17,g 19 18,p 20 19,u 21 16,o 22 21,m 1 22 20])),[]⟩
def pG:=W [f 9,aC 10 205 9 [105,109,112,108,105,101,115]] 10 (h 1 (X [f 11,u 12 11,o 13 12,g 14 13,p 15 14,u 16 11,o 17 16,m 1 17 15] (r [T 18,f 19,l 20 225 19,cb 21 32 20,bv 22 32 6 80 18 21,e 3 22])))
def lZ:=J [w 32,be 33 32 0] 33 .skip (.exit 2) (x (h 3 (D [N 36 3 3,N 37 5 5,aK 38 6 36 37 0 36 0 37 1,aW 39 6 38 0 38 2,bf 40 6 4 0 4,cx 41 32 39 40 0 0 39 3 40 4,cJ 42 14 41 0 0 41 5,bg 6 4 42 4 42 6])) (r [w 34,bd 35 34 1,e 5 35]))
def pH:CFn:=⟨44,false,X [aj 2] (X [f 6,l 7 225 6,cb 8 32 7,al 3] (x (h 0 (aL [0,2,3] 3 pG)) (X [T 23,T 24,C 25 24,bd 26 25 1,am 27 6 23 26,A 28 27,aj 4,S 4 28] (x (X [T 29,C 30 29,bd 31 30 2,e 5 31] (h 2 (aL [2,3,4,5] 5 lZ))) (R [A 43 4,S 2 43]))))),[.cell 2 (.ag 6)]⟩
def tP:CFn:=⟨6,false,X [aj 1] (R [g 2 0,g 3 0,a 4 (.mkfn 218 [t 3] []),a 5 (.call (.fn 139) [t 2,.const (.str [97,110,100]),i 12,t 4]),S 1 5]),[.cell 1 (.ag 6)]⟩
def kz:CFn:=⟨37,false,X [aj 2] (X [f 6,l 7 132 6,bi 3,m 5 3 7] (I [B 8 3,g 9 8,Z 10 9 3,ae 11,ao 12 0 3 11,ap 13 12 11,bl 14 13 4 11,ab 15 11 14] 15 (x (D [⟨a 17 (.call (.fn 228) []),.heavy,[]⟩,H 18 1 3 1 3,ag 19 18 1 18 1,⟨a 20 (.lkp true (.agg [.undef]) true (t 17) (t 19)),.light 1 1,[s 17 0,s 19 2]⟩,aq 16 20 1 1 20 3,bZ 21 16 0 1 1 16 4,bZ 22 16 1 1 2 16 4,⟨a 4 (.alloc [.undef]),.alloc [.undef] 0 1,[]⟩,aV 1 4 21 4 7 21 5,aq 5 22 2 2 22 6]) (X [w 23,e 24 23,ah 25 0 24,b 26 (.nilck (t 25)) 24,aE 27 2 26 24,aA 28 27 24,bc 29 28 0 24,ak 30 24 29] (k 30 (R [B 31 4,g 32 31,f 33,bm 34 32 33,S 2 34])))) (R [f 35,l 36 229 35,S 2 36]))),[.cell 2 (.ag 6)]⟩
def nG:=W [T 7,be 8 7 0] 8 (x (h 1 (X [f 11,T 12,g 13 1,T 14,am 15 6 13 14,A 16 15,a 17 (.call (t 11) [t 12,t 16]),aB 18 17] (k 18 .ret))) (r [T 9,bd 10 9 1,ae 3]))
def tQ:CFn:=⟨19,false,X [g 4 1,C 5 4,bd 6 5 1,aw 3] (h 0 (aL [0,1,3] 3 nG)),[]⟩
def qZ:=X [P 9 8 7] (x (K 9 .skip (.exit 0)) (x (h 1 (X [al 10,ae 5] (X [ad 11,f 12,w 13,aY 14 12 13,g 15 14,bm 16 11 15] (k 16 (R [w 17,aa 17]))))) (r [p 18 8,e 8 18])))
def tR:=F 19 (X [j 4] (x (X [f 6,C 7 6,j 8] (h 0 (aU [0,1,7,8] 8 qZ))) (R [z 4 (-1)]))) 4
def ra:=X [P 102 101 100] (x (K 102 .skip (.exit 3)) (x (h 4 (X [aY 103 99 101,g 104 103,e 15 104] (X [a 16 (.mov (.const (.int .u8 0)))] (x (h 5 (X [e 107 15,cj 108 107 95,e 109 108,ah 110 8 109,ak 111 109 110,e 106 111] (K 106 (X [bA 12] (.exit 4)) (X [e 113 15,a 114 (.bin .leq (.const (.int .u8 48)) (t 113)),e 115 114,ah 116 15 115,cd 117 116 57 115,ak 118 115 117,e 112 118] (K 112 (r [e 119 15,a 120 (.bin .sub (t 119) (.const (.int .u8 48))),e 16 120]) (X [e 122 15,l 123 231 122,a 124 (.bin .leq (.const (.int .u8 97)) (t 123)),e 125 124,ah 126 15 125,b 127 (.call (.fn 231) [t 126]) 125,cd 128 127 122 125,ak 129 125 128,e 121 129] (K 121 (r [e 130 15,l 131 231 130,a 132 (.bin .sub (t 131) (.const (.int .u8 97))),a 133 (.bin .add (t 132) (.const (.int .u8 10))),e 16 133]) (R [ce 105 2,bx 6 0,e 7 105])))))))) (I [e 134 16,ad 135,a 136 (.convI .u8 (t 135)),a 137 (.bin .geq (t 134) (t 136))] 137 (R [ce 138 2,bx 6 0,e 7 138]) (I [e 139 13,ae 140,a 141 (.bin .geq (t 139) (t 140))] 141 (R [e 142 11,ce 143 1,e 6 142,e 7 143]) (X [e 144 13,ad 145,a 146 (.convI .u64 (t 145)),a 147 (.bin .mul (t 144) (t 146)),e 13 147] (X [e 148 13,e 149 16,a 150 (.convI .u64 (t 149)),bh 151 148 150,e 17 151] (I [e 152 17,e 153 13,P 154 152 153,e 155 154,V 156 17 155,V 157 11 155,c 158 (.bin .gtr (t 156) (t 157)) 155,ab 159 155 158] 159 (R [e 160 11,ce 161 1,e 6 160,e 7 161]) (r [e 162 17,e 13 162])))))))))) (r [p 163 101,e 101 163])))
def tS:=M 172 (X [bx 6 0,ca 7] (I [f 18,a 19 (.bin .eql (t 18) (.const (.str [])))] 19 (R [ce 20 2,bx 6 0,e 7 20]) (X [ad 21,Z 22 21 0,e 8 22] (X [f 23,e 9 23] (x (h 0 (X [ad 26,a 27 (.bin .leq (i 2) (t 26)),e 28 27,ah 29 1 28,b 30 (.bin .leq (t 29) (i 36)) 28,ak 31 28 30,e 25 31] (K 25 .skip (X [ad 33,Z 34 33 0,e 32 34] (K 32 (X [z 1 10] (X [f 35,a 36 (.idxS (t 35) (i 0)),cj 37 36 48] (k 37 (h 1 (X [f 41,aP 42 41,be 43 42 3,e 44 43,ah 45 0 44,b 46 (.idxS (t 45) (i 1)) 44,b 47 (.call (.fn 231) [t 46]) 44,cz 48 47 98 44,ak 49 44 48,e 40 49] (K 40 (X [z 1 2] (r [f 50,a 51 (.slcS (t 50) (some (i 2)) none),e 0 51])) (X [f 53,aP 54 53,be 55 54 3,e 56 55,ah 57 0 56,b 58 (.idxS (t 57) (i 1)) 56,b 59 (.call (.fn 231) [t 58]) 56,cz 60 59 111 56,ak 61 56 60,e 52 61] (K 52 (X [z 1 8] (r [f 62,a 63 (.slcS (t 62) (some (i 2)) none),e 0 63])) (X [f 65,aP 66 65,be 67 66 3,e 68 67,ah 69 0 68,b 70 (.idxS (t 69) (i 1)) 68,b 71 (.call (.fn 231) [t 70]) 68,cz 72 71 120 68,ak 73 68 72,e 64 73] (K 64 (X [z 1 16] (r [f 74,a 75 (.slcS (t 74) (some (i 2)) none),e 0 75])) (X [z 1 8] (r [f 38,a 39 (.slcS (t 38) (some (i 1)) none),e 0 39])))))))))))) (R [ce 24 3,bx 6 0,e 7 24])))))) (J [e 76 2,Z 77 76 0] 77 (r [z 2 64]) (X [e 78 2,aX 79 78 0,e 80 79,V 81 2 80,bp 82 81 64 80,ab 83 80 82] (k 83 (R [ce 84 4,bx 6 0,e 7 84]))) (X [bx 10 0] (x (X [ad 85] (h 2 (X [Z 91 85 10,e 90 91] (K 90 (r [bx 10 1844674407370955162]) (X [Z 93 85 16,e 92 93] (K 92 (r [bx 10 1152921504606846976]) (r [ad 86,a 87 (.convI .u64 (t 86)),a 88 (.bin .quo (.const (.int .u64 18446744073709551615)) (t 87)),a 89 (.bin .add (t 88) (.const (.int .u64 1))),e 10 89]))))))) (X [e 94 2,a 95 (.convI .u64 (t 94)),a 96 (.bin .shl (.const (.int .u64 1)) (t 95)),a 97 (.bin .sub (t 96) (.const (.int .u64 1))),e 11 97] (X [O 12] (X [bx 13 0] (x (X [f 98,a 99 (.convS (t 98)),C 100 99,j 101] (h 3 (.loop ⟨[1,8,9,10,11,12,13,99,100,101],[(12,none),(13,none),(101,none)],true⟩ ra))) (I [ax 164,e 165 164,ah 166 9 165,b 167 (.call (.fn 232) [t 166]) 165,b 168 (.un .not (t 167)) 165,ak 169 165 168] 169 (R [ce 170 2,bx 6 0,e 7 170]) (R [e 171 13,e 6 171,ca 7])))))))))))))) 6 7
def H6:=W [f 6,aC 7 205 6 [111,114]] 7 (h 1 (X [f 8,u 9 8,o 10 9,g 11 10,p 12 11,u 13 8,o 14 13,m 1 14 12] (D [bf 15 6 3 1 3,N 16 0 0,aG 17 237 16 16 1,cx 18 32 15 17 1 1 15 0 17 2,cJ 19 13 18 1 1 18 3,bg 6 3 19 3 19 4])))
def wO:CFn:=⟨21,false,X [aj 2] (X [f 4,l 5 237 4,aj 3,S 3 5] (x (h 0 (cn [0,2,3] H6)) (R [A 20 3,S 2 20]))),[.cell 2 (.ag 6)]⟩
def tT:=G 11 (X [a 0 (.mov (.const .nilm))] (R [a 1 .mkmap,cf 2 242,cg [116,114,117,101] 2,cf 3 243,cg [102,97,108,115,101] 3,cf 4 244,cg [115,105,122,101] 4,cf 5 246,cg [111,110,101] 5,cf 6 247,cg [110,111,116] 6,cf 7 250,cg [115,111,109,101] 7,cf 8 252,cg [101,118,101,114,121] 8,cf 9 253,cg [40] 9,ad 10,ae 0])) 0
def pJ:=X [aX 24 23 5] (x (K 24 .skip (.exit 1)) (x (h 2 (X [e 25 23,a 26 (.idxA 5 .sc (t 22) (t 23)),aa 25,e 5 26] (X [f 27,w 28,an 29 134 27 28] (k 29 (R [U 30,a 31 (.bin .add (i 2) (t 30)),T 32,f 33,l 34 137 33,a 35 (.bslice 2 9 .sc (.str []) [(0,t 32),(1,t 34)]),cV 36 31 35,S 2 36]))))) (r [p 37 23,e 23 37])))
def nH:CFn:=⟨41,false,X [aj 2] (X [f 6,l 7 137 6,au 3] (x (h 0 (X [f 9,aC 10 191 9 [40],ae 8] (K 8 (R [f 11,T 12,an 13 255 11 12,S 2 13]) (X [f 15,aC 16 134 15 [105,115],e 14 16] (k 14 (R [T 17,bt 18 17,f 19,a 20 (.call (.fn 245) [t 19,i 0,i 7]),cW 21 18 20,S 2 21])))))) (x (X [a 22 (.build [.str [],.str [],.str [],.str [],.str []] [(0,1,.const (.str [61])),(1,1,.const (.str [105,110])),(2,1,.const (.str [115,117,98])),(3,1,.const (.str [97,100,106])),(4,1,.const (.str [111,110]))]),j 23] (h 1 (aL [0,2,3,22,23] 23 pJ))) (X [f 38,bu 39 133 38 3] (R [cA 40,S 2 40]))))),[.cell 2 (.ag 6)]⟩
def H7:=W [f 6,aC 7 205 6 [97,110,100]] 7 (h 1 (X [f 8,u 9 8,o 10 9,g 11 10,p 12 11,u 13 8,o 14 13,m 1 14 12] (D [bf 15 6 3 1 3,N 16 0 0,aG 17 260 16 16 1,cx 18 32 15 17 1 1 15 0 17 2,cJ 19 12 18 1 1 18 3,bg 6 3 19 3 19 4])))
def wP:CFn:=⟨21,false,X [aj 2] (X [f 4,l 5 260 4,aj 3,S 3 5] (x (h 0 (cn [0,2,3] H7)) (R [A 20 3,S 2 20]))),[.cell 2 (.ag 6)]⟩
def tU:CFn:=⟨11,false,X [aj 2] (X [f 3,u 4 3,o 5 4,g 6 5,p 7 6,u 8 3,o 9 8,m 1 9 7] (R [cP 10 0,S 2 10])),[.cell 2 (.ag 6)]⟩
def tV:CFn:=⟨11,false,X [aj 2] (X [f 3,u 4 3,o 5 4,g 6 5,p 7 6,u 8 3,o 9 8,m 1 9 7] (R [cP 10 1,S 2 10])),[.cell 2 (.ag 6)]⟩
def tW:CFn:=⟨29,false,X [aj 2] (X [f 4,u 5 4,o 6 5,g 7 6,p 8 7,u 9 4,o 10 9,m 1 10 8] (X [f 11,l 12 137 11,bt 13 12,cc 14 8 1 13,aj 3,S 3 14] (X [f 15,aC 16 138 15 [109,111,100]] (X [f 17,a 18 (.call (.fn 245) [t 17,i 1,i 64]),E 19 4 3,m 1 19 18] (X [f 20,aC 21 138 20 [105,115]] (X [f 22,E 23 4 3,g 24 23,bd 25 24 1,a 26 (.call (.fn 245) [t 22,i 0,t 25]),E 27 3 3,m 1 27 26] (R [A 28 3,S 2 28]))))))),[.cell 2 (.ag 6)]⟩
def ma:=G 43 (X [j 6] (X [f 8,l 9 132 8,bi 7,m 5 7 9] (x (h 0 (X [B 11 7,g 12 11,az 13 12 2,e 10 13] (K 10 (r [f 14,bu 15 133 14 3]) (X [E 17 2 7,g 18 17,ad 19,P 20 18 19,e 21 20,ao 22 2 7 21,ap 23 22 21,V 24 2 21,c 25 (.bin .gtr (t 23) (t 24)) 21,ab 26 21 25,e 16 26] (k 16 (r [f 27,bu 28 133 27 2])))))) (I [f 29,u 30 29,E 31 2 30,g 32 31,az 33 32 0] 33 (R [j 6]) (X [f 34,u 35 34,o 36 35,g 37 36,p 38 37,u 39 34,o 40 39,m 1 40 38] (R [E 41 2 7,g 42 41,e 6 42])))))) 6
def tX:CFn:=⟨14,false,X [aj 2] (X [f 3,u 4 3,o 5 4,g 6 5,p 7 6,u 8 3,o 9 8,m 1 9 7] (R [f 10,l 11 137 10,bt 12 11,cc 13 9 1 12,S 2 13])),[.cell 2 (.ag 6)]⟩
def tY:CFn:=⟨6,false,X [ar 1,aj 2] (R [g 3 1,bG 4 249 1,an 5 248 3 4,S 2 5]),[.cell 2 (.ag 6)]⟩
def nI:CFn:=⟨43,false,X [aj 4] (I [f 6,u 7 6,E 8 3 7,g 9 8,Z 10 9 256] 10 (r [f 11,bu 12 133 11 16]) (I [f 13,u 14 13,E 15 2 14,g 16 15,az 17 16 0] 17 (R [cA 18,S 4 18]) (X [f 19,u 20 19,o 21 20,g 22 21,p 23 22,u 24 19,o 25 24,m 1 25 23] (X [f 26,u 27 26,E 28 3 27,g 29 28,p 30 29,u 31 26,E 32 3 31,m 1 32 30] (X [ad 33,a 34 (.call (t 33) []),aj 5,S 5 34] (X [f 35,u 36 35,E 37 3 36,g 38 37,bd 39 38 1,u 40 35,E 41 3 40,m 1 41 39] (R [A 42 5,S 4 42]))))))),[.cell 4 (.ag 6)]⟩
def tZ:CFn:=⟨6,false,X [aj 1] (R [g 2 0,l 3 218 2,cb 4 40 3,cc 5 11 5 4,S 1 5]),[.cell 1 (.ag 6)]⟩
def t6:CFn:=⟨5,false,X [aj 2] (R [f 3,bu 4 251 3 16,S 2 4]),[.cell 2 (.ag 6)]⟩
def t7:CFn:=⟨8,false,X [ar 2,aO 3 1,aj 4] (R [g 5 2,a 6 (.mkfn 265 [] [t 3,t 2]),an 7 248 5 6,S 4 7]),[.cell 4 (.ag 6)]⟩
def ua:CFn:=⟨5,false,X [aj 2] (R [f 3,bu 4 251 3 17,S 2 4]),[.cell 2 (.ag 6)]⟩
def ub:CFn:=⟨6,false,X [ar 1,aj 2] (R [g 3 1,bG 4 254 1,an 5 248 3 4,S 2 5]),[.cell 2 (.ag 6)]⟩
def uc:CFn:=⟨8,false,X [aj 1] (X [g 3 0,l 4 81 3,aj 2,S 2 4] (X [g 5 0,aC 6 138 5 [41]] (R [A 7 2,S 1 7]))),[.cell 1 (.ag 6)]⟩
def jh:=W [f 19,u 20 19,E 21 2 20,g 22 21,Z 23 22 0] 23 (h 1 (I [f 24,l 25 132 24,a 26 (.fieldv 0 .sc (t 25)),Z 27 26 1,e 28 27,aE 29 1 5 28,aA 30 29 28,b 31 (.len 1 (t 30)) 28,bc 32 31 17 28,ak 33 28 32] 33 (X [f 34,bu 35 133 34 8] (.exit 0)) (x (D [H 36 1 5 1 5,ag 37 36 1 36 0,N 38 0 0,aG 39 137 38 38 2,cG 40 39 1 1 39 3,cr 41 37 40 37 1 40 4,bw 42 1 5 2 2 5,aV 1 42 41 42 6 41 5]) (X [f 43,aC 44 134 43 [44],aB 45 44] (k 45 (X [f 46,aC 47 138 46 [41]] (.exit 0)))))))
def rc:CFn:=⟨49,false,X [aj 4] (X [ad 6,bt 7 6,cc 8 10 1 7,aj 5,S 5 8] (X [f 9,u 10 9,o 11 10,g 12 11,p 13 12,u 14 9,o 15 14,m 1 15 13] (I [f 16,aC 17 134 16 [41]] 17 (R [A 18 5,S 4 18]) (x (h 0 (.loop ⟨[0,4,5],[(5,some 1)],true⟩ jh)) (R [A 48 5,S 4 48]))))),[.cell 4 (.ag 6)]⟩
def ji:CFn:=⟨75,false,X [aj 2] (X [cA 7,aj 3,S 3 7] (x (h 0 (X [f 11,aC 12 205 11 [110,111,116],ax 10] (K 10 (X [f 13,l 14 266 13] (k 14 (X [f 15,l 16 260 15,cb 17 32 16,cc 18 11 5 17,S 3 18] (r [f 19,u 20 19,E 21 3 20,g 22 21,bd 23 22 1,u 24 19,E 25 3 24,m 1 25 23])))) (X [f 27,aC 28 205 27 [115,111,109,101],e 29 28,V 30 0 29,c 31 (.call (.fn 205) [t 30,.const (.str [101,118,101,114,121])]) 29,ab 32 29 31,e 26 32] (K 26 (X [z 4 16] (I [f 33,aC 34 205 33 [101,118,101,114,121]] 34 (r [z 4 17]) (X [f 35,l 36 266 35] (k 36 (X [f 37,l 38 206 37,e 5 38] (X [f 39,l 40 207 39,e 6 40] (X [f 41,aC 42 208 41 [58]] (X [U 43,aw 44,bt 45 44,w 46,f 47,l 48 177 47,cb 49 32 48,a 50 (.build [.int .i64 0,.slc .full [],.int .i64 0,.int .i64 0,.int .i64 0,.slc .full []] [(0,1,t 43),(1,1,t 45),(2,1,t 46),(5,1,t 49)]),S 3 50] (r [f 51,u 52 51,E 53 3 52,g 54 53,bd 55 54 1,u 56 51,E 57 3 56,m 1 57 55]))))))))) (X [f 59,aC 60 205 59 [40],e 58 60] (K 58 (X [f 61,l 62 266 61] (k 62 (X [f 63,l 64 177 63,S 3 64] (X [f 65,aC 66 208 65 [41]] (r [f 67,u 68 67,E 69 3 68,g 70 69,bd 71 70 1,u 72 67,E 73 3 72,m 1 73 71]))))) (r [f 8,l 9 267 8,S 3 9])))))))) (R [A 74 3,S 2 74]))),[.cell 2 (.ag 6)]⟩
def ud:CFn:=⟨19,false,X [aj 2] (x (D [ba 4 0 1 0,ba 5 1 0 1,aG 6 135 5 5 1,cT 7 4 2 6 4 6 2,cN,aV 6 3 7 3 4 7 3]) (X [g 8 1,l 9 137 8,bt 10 9,o 11 3,m 1 11 10] (X [g 12 1,aC 13 138 12 [58]] (X [g 14 1,l 15 81 14,cb 16 40 15,E 17 5 3,m 1 17 16] (R [A 18 3,S 2 18]))))),[.cell 2 (.ag 6)]⟩
def nJ:=G 37 (X [O 2] (I [f 3,u 4 3,E 5 2 4,g 6 5,Z 7 6 0,au 8,ah 9 0 8,b 10 (.nilck (t 9)) 8,aE 11 3 10 8,aA 12 11 8,bc 13 12 256 8,ak 14 8 13] 14 (r [f 15,u 16 15,E 17 2 16,bR 17 16]) (I [f 18,u 19 18,E 20 2 19,g 21 20,az 22 21 0] 22 (R [O 2]) (X [f 23,u 24 23,E 25 3 24,g 26 25,p 27 26,u 28 23,E 29 3 28,m 1 29 27] (X [f 30,u 31 30,o 32 31,g 33 32,p 34 33,u 35 30,o 36 35,m 1 36 34] (R [bA 2])))))) 2
def pK:=W [au 96,aw 97,C 98 97,P 99 96 98] 99 (x (h 1 (X [f 102,aw 103,au 104,aY 105 103 104,g 106 105,an 107 205 102 106] (k 107 (X [f 108,u 109 108,o 110 109,g 111 110,p 112 111,u 113 108,o 114 113,m 1 114 112] (R [au 115,a 116 (.bin .add (i 2) (t 115)),w 117,f 118,l 119 207 118,a 120 (.bslice 2 9 .sc (.str []) [(0,t 117),(1,t 119)]),cV 121 116 120,S 2 121]))))) (r [au 100,p 101 100,e 7 101]))
def jj:CFn:=⟨131,false,X [aj 2] (I [f 8,aC 9 205 8 [116,114,117,101],af 10,V 11 0 10,c 12 (.call (.fn 205) [t 11,.const (.str [102,97,108,115,101])]) 10,ab 13 10 12] 13 (X [f 14,u 15 14,o 16 15,g 17 16,p 18 17,u 19 14,o 20 19,m 1 20 18] (x (x (D [N 21 0 0,aH 22 21 0 0 21 0,ai 23 0 22 0 0 22 1,y 24 23 23 2,N 25 0 0,aH 26 25 0 0 25 4,ai 27 1 26 0 0 26 5,y 28 27 27 6,d (a 29 (.bin .sub (t 28) (i 1))) [s 28 7],aK 30 5 24 29 0 24 3 29 8,ai 31 1 30 0 0 30 9,y 32 31 31 10,d (a 33 (.bin .eql (t 32) (.const (.str [116,114,117,101])))) [s 32 11]]) (k 33 (R [cA 34,S 2 34]))) (R [cP 35 1,S 2 35]))) (I [f 36,aC 37 205 36 [115,105,122,101]] 37 (X [f 38,u 39 38,o 40 39,g 41 40,p 42 41,u 43 38,o 44 43,m 1 44 42] (X [f 45,l 46 207 45,e 3 46] (X [f 47,aC 48 208 47 [109,111,100]] (X [f 49,a 50 (.call (.fn 270) [t 49,i 1,i 64]),aa 50] (X [f 51,aC 52 208 51 [105,115]] (R [T 53,bt 54 53,U 55,f 56,U 57,bd 58 57 1,a 59 (.call (.fn 270) [t 56,i 0,t 58]),a 60 (.build [.int .i64 0,.slc .full [],.int .i64 0,.int .i64 0,.int .i64 0,.slc .full []] [(0,1,i 8),(1,1,t 54),(4,1,t 55),(3,1,t 59)]),S 2 60])))))) (I [f 61,aC 62 205 61 [111,110,101]] 62 (X [f 63,u 64 63,o 65 64,g 66 65,p 67 66,u 68 63,o 69 68,m 1 69 67] (R [f 70,l 71 207 70,bt 72 71,cc 73 9 1 72,S 2 73])) (X [f 74,l 75 207 74,e 5 75] (I [f 76,aC 77 205 76 [40]] 77 (R [f 78,w 79,an 80 271 78 79,S 2 80]) (I [f 81,aC 82 205 81 [105,115]] 82 (X [f 83,u 84 83,o 85 84,g 86 85,p 87 86,u 88 83,o 89 88,m 1 89 87] (R [w 90,bt 91 90,f 92,a 93 (.call (.fn 270) [t 92,i 0,i 7]),cW 94 91 93,S 2 94])) (X [a 95 (.bslice 5 9 .sc (.str []) [(0,.const (.str [61])),(1,.const (.str [105,110])),(2,.const (.str [115,117,98])),(3,.const (.str [97,100,106])),(4,.const (.str [111,110]))]),e 6 95] (x (X [j 7] (h 0 (aL [0,2,5,6,7] 7 pK))) (I [f 122,u 123 122,E 124 2 123,g 125 124,Z 126 125 0] 126 (r [f 127,u 128 127,E 129 2 128,bR 129 3]) (R [cA 130,S 2 130])))))))))),[.cell 2 (.ag 6)]⟩
def mb:=G 51 (X [j 6] (I [f 8,u 9 8,E 10 2 9,g 11 10,az 12 11 0] 12 (R [j 6]) (x (D [N 13 0 0,aH 14 13 0 0 13 0,ai 15 0 14 0 0 14 1,y 16 15 15 2,N 17 0 0,aH 18 17 0 0 17 4,ai 19 1 18 0 0 18 5,y 20 19 19 6,aK 21 5 16 20 0 16 3 20 7,aW 22 5 21 0 21 8,cU 7,aV 5 7 22 7 10 22 9]) (I [B 23 7,g 24 23,az 25 24 2] 25 (X [f 26,u 27 26,E 28 2 27,bR 28 3] (R [j 6])) (I [E 29 2 7,g 30 29,ad 31,P 32 30 31,e 33 32,ao 34 2 7 33,ap 35 34 33,V 36 2 33,c 37 (.bin .gtr (t 35) (t 36)) 33,ab 38 33 37] 38 (X [f 39,u 40 39,E 41 2 40,bR 41 2] (R [j 6])) (X [f 42,u 43 42,o 44 43,g 45 44,p 46 45,u 47 42,o 48 47,m 1 48 46] (R [E 49 2 7,g 50 49,e 6 50]))))))) 6
def jk:=W [f 21,u 22 21,E 23 2 22,g 24 23,Z 25 24 0] 25 (h 1 (x (x (D [N 26 0 0,aH 27 26 0 0 26 0,ai 28 0 27 0 0 27 1,y 29 28 28 2,N 30 0 0,aH 31 30 0 0 30 4,ai 32 1 31 0 0 31 5,y 33 32 32 6,aK 34 5 29 33 0 29 3 33 7,ai 35 0 34 0 0 34 8,y 36 35 35 9,d (a 37 (.bin .eql (t 36) (i 1))) [s 36 10],aq 38 37 0 0 37 11,d (b 39 (.faddr 1 .sc (t 5)) 38) [q 5,s 38 12],bM 40 39 38 39 13 38 12,d (b 41 (.len 1 (t 40)) 38) [s 40 14,s 38 12],d (b 42 (.bin .eql (t 41) (i 17)) 38) [s 41 15,s 38 12],cI 43 38 42 38 12 42 16]) (k 43 (X [f 44,u 45 44,E 46 2 45,bR 46 8] (R [A 47 5,S 4 47])))) (x (D [H 48 1 5 1 5,ag 49 48 1 48 0,N 50 0 0,aG 51 207 50 50 2,cG 52 51 1 1 51 3,cr 53 49 52 49 1 52 4,bw 54 1 5 2 2 5,aV 1 54 53 54 6 53 5]) (I [f 55,aC 56 205 55 [44],aB 57 56] 57 (.exit 0) (r [f 58,u 59 58,o 60 59,g 61 60,p 62 61,u 63 58,o 64 63,m 1 64 62])))))
def pL:CFn:=⟨68,false,X [aj 4] (X [ad 6,bt 7 6,cc 8 10 1 7,aj 5,S 5 8] (X [f 9,aC 10 208 9 [40]] (I [f 11,aC 12 205 11 [41]] 12 (X [f 13,u 14 13,o 15 14,g 16 15,p 17 16,u 18 13,o 19 18,m 1 19 17] (R [A 20 5,S 4 20])) (x (h 0 (.loop ⟨[0,4,5],[(5,some 1)],true⟩ jk)) (X [f 65,aC 66 208 65 [41]] (R [A 67 5,S 4 67])))))),[.cell 4 (.ag 6)]⟩
inductive Tr
 |l (k:Nat) (c:CFn)
 |n (k:Nat) (a b:Tr)
def Tr.get (f:Nat):Tr->Option CFn
 |.l k c=>match Nat.beq f k with|true=>some c|false=>none
 |.n k a b=>match Nat.ble f k with|true=>a.get f|false=>b.get f
def fnT:Tr:=.n 117 (.n 59 (.n 33 (.n 17 (.n 11 (.n 8 (.n 3 (.l 3 c3) (.n 4 (.l 4 c4) (.l 8 c8))) (.n 9 (.l 9 c9) (.n 10 (.l 10 c10) (.l 11 c11)))) (.n 14 (.n 12 (.l 12 c12) (.n 13 (.l 13 c13) (.l 14 c14))) (.n 15 (.l 15 c15) (.n 16 (.l 16 c16) (.l 17 c17))))) (.n 24 (.n 20 (.n 18 (.l 18 c18) (.n 19 (.l 19 c19) (.l 20 c20))) (.n 21 (.l 21 c21) (.n 23 (.l 23 c23) (.l 24 c24)))) (.n 30 (.n 25 (.l 25 c25) (.n 28 (.l 28 c28) (.l 30 c30))) (.n 31 (.l 31 c31) (.n 32 (.l 32 c32) (.l 33 c33)))))) (.n 45 (.n 39 (.n 36 (.n 34 (.l 34 c34) (.n 35 (.l 35 c35) (.l 36 c36))) (.n 37 (.l 37 c37) (.n 38 (.l 38 c38) (.l 39 c39)))) (.n 42 (.n 40 (.l 40 c40) (.n 41 (.l 41 c41) (.l 42 c42))) (.n 43 (.l 43 c43) (.n 44 (.l 44 c44) (.l 45 c45))))) (.n 52 (.n 48 (.n 46 (.l 46 c46) (.n 47 (.l 47 c47) (.l 48 c48))) (.n 50 (.l 50 c50) (.n 51 (.l 51 c51) (.l 52 c52)))) (.n 55 (.n 53 (.l 53 c53) (.n 54 (.l 54 c54) (.l 55 c55))) (.n 57 (.n 56 (.l 56 c56) (.l 57 c57)) (.n 58 (.l 58 c58) (.l 59 c59))))))) (.n 90 (.n 78 (.n 67 (.n 64 (.n 60 (.l 60 c60) (.n 63 (.l 63 c63) (.l 64 c64))) (.n 65 (.l 65 c65) (.n 66 (.l 66 c66) (.l 67 c67)))) (.n 70 (.n 68 (.l 68 c68) (.n 69 (.l 69 c69) (.l 70 c70))) (.n 71 (.l 71 c71) (.n 72 (.l 72 c72) (.l 78 c78))))) (.n 84 (.n 81 (.n 79 (.l 79 c79) (.n 80 (.l 80 c80) (.l 81 c81))) (.n 82 (.l 82 c82) (.n 83 (.l 83 c83) (.l 84 c84)))) (.n 87 (.n 85 (.l 85 c85) (.n 86 (.l 86 c86) (.l 87 c87))) (.n 88 (.l 88 c88) (.n 89 (.l 89 c89) (.l 90 c90)))))) (.n 104 (.n 96 (.n 93 (.n 91 (.l 91 c91) (.n 92 (.l 92 c92) (.l 93 c93))) (.n 94 (.l 94 c94) (.n 95 (.l 95 c95) (.l 96 c96)))) (.n 99 (.n 97 (.l 97 c97) (.n 98 (.l 98 c98) (.l 99 c99))) (.n 100 (.l 100 wz) (.n 101 (.l 101 wA) (.l 104 nq))))) (.n 110 (.n 107 (.n 105 (.l 105 HC) (.n 106 (.l 106 HD) (.l 107 HE))) (.n 108 (.l 108 HF) (.n 109 (.l 109 wB) (.l 110 lg)))) (.n 113 (.n 111 (.l 111 qO) (.n 112 (.l 112 qP) (.l 113 qQ))) (.n 115 (.n 114 (.l 114 wC) (.l 115 wD)) (.n 116 (.l 116 HG) (.l 117 HH)))))))) (.n 172 (.n 145 (.n 133 (.n 123 (.n 120 (.n 118 (.l 118 HI) (.n 119 (.l 119 ph) (.l 120 qS))) (.n 121 (.l 121 ti) (.n 122 (.l 122 kw) (.l 123 HK)))) (.n 126 (.n 124 (.l 124 HL) (.n 125 (.l 125 wE) (.l 126 HM))) (.n 127 (.l 127 HO) (.n 132 (.l 132 tj) (.l 133 qT))))) (.n 139 (.n 136 (.n 134 (.l 134 qU) (.n 135 (.l 135 qV) (.l 136 HP))) (.n 137 (.l 137 pk) (.n 138 (.l 138 qW) (.l 139 po)))) (.n 142 (.n 140 (.l 140 kx) (.n 141 (.l 141 pr) (.l 142 wF))) (.n 143 (.l 143 tn) (.n 144 (.l 144 nu) (.l 145 lX)))))) (.n 157 (.n 151 (.n 148 (.n 146 (.l 146 tp) (.n 147 (.l 147 tu) (.l 148 HQ))) (.n 149 (.l 149 gR) (.n 150 (.l 150 HR) (.l 151 tz)))) (.n 154 (.n 152 (.l 152 wG) (.n 153 (.l 153 qX) (.l 154 gI))) (.n 155 (.l 155 ky) (.n 156 (.l 156 wH) (.l 157 wI))))) (.n 165 (.n 160 (.n 158 (.l 158 nw) (.n 159 (.l 159 tD) (.l 160 jJ))) (.n 163 (.l 163 lj) (.n 164 (.l 164 nA) (.l 165 tG)))) (.n 168 (.n 166 (.l 166 wJ) (.n 167 (.l 167 HS) (.l 168 HT))) (.n 170 (.n 169 (.l 169 HU) (.l 170 HV)) (.n 171 (.l 171 lY) (.l 172 pw))))))) (.n 220 (.n 199 (.n 192 (.n 175 (.n 173 (.l 173 pz) (.n 174 (.l 174 nB) (.l 175 tH))) (.n 177 (.l 177 wK) (.n 191 (.l 191 nC) (.l 192 tI)))) (.n 195 (.n 193 (.l 193 tJ) (.n 194 (.l 194 wM) (.l 195 tK))) (.n 196 (.l 196 wN) (.n 198 (.l 198 tL) (.l 199 pA))))) (.n 206 (.n 203 (.n 200 (.l 200 H5) (.n 202 (.l 202 tM) (.l 203 qY))) (.n 204 (.l 204 tN) (.n 205 (.l 205 nD) (.l 206 pD)))) (.n 209 (.n 207 (.l 207 pE) (.n 208 (.l 208 pF) (.l 209 pH))) (.n 218 (.n 217 (.l 217 tP) (.l 218 kz)) (.n 219 (.l 219 tQ) (.l 220 tR)))))) (.n 248 (.n 242 (.n 228 (.n 223 (.l 223 tS) (.n 225 (.l 225 wO) (.l 228 tT))) (.n 229 (.l 229 nH) (.n 237 (.l 237 wP) (.l 242 tU)))) (.n 245 (.n 243 (.l 243 tV) (.n 244 (.l 244 tW) (.l 245 ma))) (.n 246 (.l 246 tX) (.n 247 (.l 247 tY) (.l 248 nI))))) (.n 254 (.n 251 (.n 249 (.l 249 tZ) (.n 250 (.l 250 t6) (.l 251 t7))) (.n 252 (.l 252 ua) (.n 253 (.l 253 ub) (.l 254 uc)))) (.n 265 (.n 255 (.l 255 rc) (.n 260 (.l 260 ji) (.l 265 ud))) (.n 267 (.n 266 (.l 266 nJ) (.l 267 jj)) (.n 270 (.l 270 mb) (.l 271 pL))))))))
def fns (f:Nat):Option CFn:=fnT.get f
def TD:Nat->List AV->Option (AV×Option Arr)
  |70=>it 74 2
  |125=>it 9 1
  |_=>fun _=>none
end Go.Proofs.Ae
