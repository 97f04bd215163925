/- The compiled form is that of the program. -/
import Derived.Test.YtjkmcceipabejaaGreatDoorE
import Derived.Test.YtjkmcceipabejaaGreatDoorChecked
import Derived.KernelRfl
import Derived.WalkKit
import Derived.WalkSpells
import Derived.ProofKit
set_option linter.unusedSimpArgs false
set_option linter.unusedVariables false
set_option linter.unusedSectionVars false
namespace Go.Proofs.Ae
open Go
set_option maxRecDepth 1000000
theorem ok3:FnOK Tryz.prog 3 c3:=⟨Tryz.f3,_,c3.body,Tryz.func3,by kernel_rfl,rfl,by kernel_rfl,by kernel_rfl⟩
theorem ok10:FnOK Tryz.prog 10 c10:=⟨Tryz.f10,_,c10.body,Tryz.func10,by kernel_rfl,rfl,by kernel_rfl,by kernel_rfl⟩
theorem ok14:FnOK Tryz.prog 14 c14:=⟨Tryz.f14,_,c14.body,Tryz.func14,by kernel_rfl,rfl,by kernel_rfl,by kernel_rfl⟩
theorem ok18:FnOK Tryz.prog 18 c18:=⟨Tryz.f18,_,c18.body,Tryz.func18,by kernel_rfl,rfl,by kernel_rfl,by kernel_rfl⟩
theorem ok24:FnOK Tryz.prog 24 c24:=⟨Tryz.f24,_,c24.body,Tryz.func24,by kernel_rfl,rfl,by kernel_rfl,by kernel_rfl⟩
theorem ok31:FnOK Tryz.prog 31 c31:=⟨Tryz.f31,_,c31.body,Tryz.func31,by kernel_rfl,rfl,by kernel_rfl,by kernel_rfl⟩
theorem ok35:FnOK Tryz.prog 35 c35:=⟨Tryz.f35,_,c35.body,Tryz.func35,by kernel_rfl,rfl,by kernel_rfl,by kernel_rfl⟩
theorem ok39:FnOK Tryz.prog 39 c39:=⟨Tryz.f39,_,c39.body,Tryz.func39,by kernel_rfl,rfl,by kernel_rfl,by kernel_rfl⟩
theorem ok43:FnOK Tryz.prog 43 c43:=⟨Tryz.f43,_,c43.body,Tryz.func43,by kernel_rfl,rfl,by kernel_rfl,by kernel_rfl⟩
theorem ok47:FnOK Tryz.prog 47 c47:=⟨Tryz.f47,_,c47.body,Tryz.func47,by kernel_rfl,rfl,by kernel_rfl,by kernel_rfl⟩
theorem ok54:FnOK Tryz.prog 54 c54:=⟨Tryz.f54,_,c54.body,Tryz.func54,by kernel_rfl,rfl,by kernel_rfl,by kernel_rfl⟩
theorem ok63:FnOK Tryz.prog 63 c63:=⟨Tryz.f63,_,c63.body,Tryz.func63,by kernel_rfl,rfl,by kernel_rfl,by kernel_rfl⟩
theorem ok67:FnOK Tryz.prog 67 c67:=⟨Tryz.f67,_,c67.body,Tryz.func67,by kernel_rfl,rfl,by kernel_rfl,by kernel_rfl⟩
theorem ok71:FnOK Tryz.prog 71 c71:=⟨Tryz.f71,_,c71.body,Tryz.func71,by kernel_rfl,rfl,by kernel_rfl,by kernel_rfl⟩
theorem ok78:FnOK Tryz.prog 78 c78:=⟨Tryz.f78,_,c78.body,Tryz.func78,by kernel_rfl,rfl,by kernel_rfl,by kernel_rfl⟩
theorem ok82:FnOK Tryz.prog 82 c82:=⟨Tryz.f82,_,c82.body,Tryz.func82,by kernel_rfl,rfl,by kernel_rfl,by kernel_rfl⟩
theorem ok86:FnOK Tryz.prog 86 c86:=⟨Tryz.f86,_,c86.body,Tryz.func86,by kernel_rfl,rfl,by kernel_rfl,by kernel_rfl⟩
theorem ok90:FnOK Tryz.prog 90 c90:=⟨Tryz.f90,_,c90.body,Tryz.func90,by kernel_rfl,rfl,by kernel_rfl,by kernel_rfl⟩
theorem ok94:FnOK Tryz.prog 94 c94:=⟨Tryz.f94,_,c94.body,Tryz.func94,by kernel_rfl,rfl,by kernel_rfl,by kernel_rfl⟩
theorem ok98:FnOK Tryz.prog 98 c98:=⟨Tryz.f98,_,c98.body,Tryz.func98,by kernel_rfl,rfl,by kernel_rfl,by kernel_rfl⟩
theorem ok105:FnOK Tryz.prog 105 c105:=⟨Tryz.f105,_,c105.body,Tryz.func105,by kernel_rfl,rfl,by kernel_rfl,by kernel_rfl⟩
theorem ok109:FnOK Tryz.prog 109 c109:=⟨Tryz.f109,_,c109.body,Tryz.func109,by kernel_rfl,rfl,by kernel_rfl,by kernel_rfl⟩
theorem ok113:FnOK Tryz.prog 113 c113:=⟨Tryz.f113,_,c113.body,Tryz.func113,by kernel_rfl,rfl,by kernel_rfl,by kernel_rfl⟩
theorem ok123:FnOK Tryz.prog 123 c123:=⟨Tryz.f123,_,c123.body,Tryz.func123,by kernel_rfl,rfl,by kernel_rfl,by kernel_rfl⟩
theorem ok127:FnOK Tryz.prog 127 c127:=⟨Tryz.f127,_,c127.body,Tryz.func127,by kernel_rfl,rfl,by kernel_rfl,by kernel_rfl⟩
theorem ok133:FnOK Tryz.prog 133 c133:=⟨Tryz.f133,_,c133.body,Tryz.func133,by kernel_rfl,rfl,by kernel_rfl,by kernel_rfl⟩
theorem ok137:FnOK Tryz.prog 137 c137:=⟨Tryz.f137,_,c137.body,Tryz.func137,by kernel_rfl,rfl,by kernel_rfl,by kernel_rfl⟩
theorem ok141:FnOK Tryz.prog 141 c141:=⟨Tryz.f141,_,c141.body,Tryz.func141,by kernel_rfl,rfl,by kernel_rfl,by kernel_rfl⟩
theorem ok145:FnOK Tryz.prog 145 c145:=⟨Tryz.f145,_,c145.body,Tryz.func145,by kernel_rfl,rfl,by kernel_rfl,by kernel_rfl⟩
theorem ok149:FnOK Tryz.prog 149 c149:=⟨Tryz.f149,_,c149.body,Tryz.func149,by kernel_rfl,rfl,by kernel_rfl,by kernel_rfl⟩
theorem ok153:FnOK Tryz.prog 153 c153:=⟨Tryz.f153,_,c153.body,Tryz.func153,by kernel_rfl,rfl,by kernel_rfl,by kernel_rfl⟩
theorem ok157:FnOK Tryz.prog 157 c157:=⟨Tryz.f157,_,c157.body,Tryz.func157,by kernel_rfl,rfl,by kernel_rfl,by kernel_rfl⟩
theorem ok167:FnOK Tryz.prog 167 c167:=⟨Tryz.f167,_,c167.body,Tryz.func167,by kernel_rfl,rfl,by kernel_rfl,by kernel_rfl⟩
theorem ok171:FnOK Tryz.prog 171 c171:=⟨Tryz.f171,_,c171.body,Tryz.func171,by kernel_rfl,rfl,by kernel_rfl,by kernel_rfl⟩
theorem ok175:FnOK Tryz.prog 175 c175:=⟨Tryz.f175,_,c175.body,Tryz.func175,by kernel_rfl,rfl,by kernel_rfl,by kernel_rfl⟩
theorem ok194:FnOK Tryz.prog 194 c194:=⟨Tryz.f194,_,c194.body,Tryz.func194,by kernel_rfl,rfl,by kernel_rfl,by kernel_rfl⟩
theorem ok202:FnOK Tryz.prog 202 c202:=⟨Tryz.f202,_,c202.body,Tryz.func202,by kernel_rfl,rfl,by kernel_rfl,by kernel_rfl⟩
theorem ok218:FnOK Tryz.prog 218 c218:=⟨Tryz.f218,_,c218.body,Tryz.func218,by kernel_rfl,rfl,by kernel_rfl,by kernel_rfl⟩
theorem ok228:FnOK Tryz.prog 228 c228:=⟨Tryz.f228,_,c228.body,Tryz.func228,by kernel_rfl,rfl,by kernel_rfl,by kernel_rfl⟩
theorem ok244:FnOK Tryz.prog 244 c244:=⟨Tryz.f244,_,c244.body,Tryz.func244,by kernel_rfl,rfl,by kernel_rfl,by kernel_rfl⟩
theorem ok248:FnOK Tryz.prog 248 c248:=⟨Tryz.f248,_,c248.body,Tryz.func248,by kernel_rfl,rfl,by kernel_rfl,by kernel_rfl⟩
theorem ok252:FnOK Tryz.prog 252 c252:=⟨Tryz.f252,_,c252.body,Tryz.func252,by kernel_rfl,rfl,by kernel_rfl,by kernel_rfl⟩
theorem ok265:FnOK Tryz.prog 265 c265:=⟨Tryz.f265,_,c265.body,Tryz.func265,by kernel_rfl,rfl,by kernel_rfl,by kernel_rfl⟩
theorem ok5:FnOK Tryz.prog 5 c5:=⟨Tryz.f5,_,c5.body,Tryz.func5,by kernel_rfl,rfl,by kernel_rfl,by kernel_rfl⟩
theorem ok11:FnOK Tryz.prog 11 c11:=⟨Tryz.f11,_,c11.body,Tryz.func11,by kernel_rfl,rfl,by kernel_rfl,by kernel_rfl⟩
theorem ok15:FnOK Tryz.prog 15 c15:=⟨Tryz.f15,_,c15.body,Tryz.func15,by kernel_rfl,rfl,by kernel_rfl,by kernel_rfl⟩
theorem ok20:FnOK Tryz.prog 20 c20:=⟨Tryz.f20,_,c20.body,Tryz.func20,by kernel_rfl,rfl,by kernel_rfl,by kernel_rfl⟩
theorem ok25:FnOK Tryz.prog 25 c25:=⟨Tryz.f25,_,c25.body,Tryz.func25,by kernel_rfl,rfl,by kernel_rfl,by kernel_rfl⟩
theorem ok32:FnOK Tryz.prog 32 c32:=⟨Tryz.f32,_,c32.body,Tryz.func32,by kernel_rfl,rfl,by kernel_rfl,by kernel_rfl⟩
theorem ok36:FnOK Tryz.prog 36 c36:=⟨Tryz.f36,_,c36.body,Tryz.func36,by kernel_rfl,rfl,by kernel_rfl,by kernel_rfl⟩
theorem ok40:FnOK Tryz.prog 40 c40:=⟨Tryz.f40,_,c40.body,Tryz.func40,by kernel_rfl,rfl,by kernel_rfl,by kernel_rfl⟩
theorem ok44:FnOK Tryz.prog 44 c44:=⟨Tryz.f44,_,c44.body,Tryz.func44,by kernel_rfl,rfl,by kernel_rfl,by kernel_rfl⟩
theorem ok48:FnOK Tryz.prog 48 c48:=⟨Tryz.f48,_,c48.body,Tryz.func48,by kernel_rfl,rfl,by kernel_rfl,by kernel_rfl⟩
theorem ok55:FnOK Tryz.prog 55 c55:=⟨Tryz.f55,_,c55.body,Tryz.func55,by kernel_rfl,rfl,by kernel_rfl,by kernel_rfl⟩
theorem ok64:FnOK Tryz.prog 64 c64:=⟨Tryz.f64,_,c64.body,Tryz.func64,by kernel_rfl,rfl,by kernel_rfl,by kernel_rfl⟩
theorem ok68:FnOK Tryz.prog 68 c68:=⟨Tryz.f68,_,c68.body,Tryz.func68,by kernel_rfl,rfl,by kernel_rfl,by kernel_rfl⟩
theorem ok72:FnOK Tryz.prog 72 c72:=⟨Tryz.f72,_,c72.body,Tryz.func72,by kernel_rfl,rfl,by kernel_rfl,by kernel_rfl⟩
theorem ok79:FnOK Tryz.prog 79 c79:=⟨Tryz.f79,_,c79.body,Tryz.func79,by kernel_rfl,rfl,by kernel_rfl,by kernel_rfl⟩
theorem ok83:FnOK Tryz.prog 83 c83:=⟨Tryz.f83,_,c83.body,Tryz.func83,by kernel_rfl,rfl,by kernel_rfl,by kernel_rfl⟩
theorem ok87:FnOK Tryz.prog 87 c87:=⟨Tryz.f87,_,c87.body,Tryz.func87,by kernel_rfl,rfl,by kernel_rfl,by kernel_rfl⟩
theorem ok91:FnOK Tryz.prog 91 c91:=⟨Tryz.f91,_,c91.body,Tryz.func91,by kernel_rfl,rfl,by kernel_rfl,by kernel_rfl⟩
theorem ok95:FnOK Tryz.prog 95 c95:=⟨Tryz.f95,_,c95.body,Tryz.func95,by kernel_rfl,rfl,by kernel_rfl,by kernel_rfl⟩
theorem ok99:FnOK Tryz.prog 99 c99:=⟨Tryz.f99,_,c99.body,Tryz.func99,by kernel_rfl,rfl,by kernel_rfl,by kernel_rfl⟩
theorem ok106:FnOK Tryz.prog 106 c106:=⟨Tryz.f106,_,c106.body,Tryz.func106,by kernel_rfl,rfl,by kernel_rfl,by kernel_rfl⟩
theorem ok110:FnOK Tryz.prog 110 c110:=⟨Tryz.f110,_,c110.body,Tryz.func110,by kernel_rfl,rfl,by kernel_rfl,by kernel_rfl⟩
theorem ok114:FnOK Tryz.prog 114 c114:=⟨Tryz.f114,_,c114.body,Tryz.func114,by kernel_rfl,rfl,by kernel_rfl,by kernel_rfl⟩
theorem ok124:FnOK Tryz.prog 124 c124:=⟨Tryz.f124,_,c124.body,Tryz.func124,by kernel_rfl,rfl,by kernel_rfl,by kernel_rfl⟩
theorem ok130:FnOK Tryz.prog 130 c130:=⟨Tryz.f130,_,c130.body,Tryz.func130,by kernel_rfl,rfl,by kernel_rfl,by kernel_rfl⟩
theorem ok134:FnOK Tryz.prog 134 c134:=⟨Tryz.f134,_,c134.body,Tryz.func134,by kernel_rfl,rfl,by kernel_rfl,by kernel_rfl⟩
theorem ok138:FnOK Tryz.prog 138 c138:=⟨Tryz.f138,_,c138.body,Tryz.func138,by kernel_rfl,rfl,by kernel_rfl,by kernel_rfl⟩
theorem ok142:FnOK Tryz.prog 142 c142:=⟨Tryz.f142,_,c142.body,Tryz.func142,by kernel_rfl,rfl,by kernel_rfl,by kernel_rfl⟩
theorem ok146:FnOK Tryz.prog 146 c146:=⟨Tryz.f146,_,c146.body,Tryz.func146,by kernel_rfl,rfl,by kernel_rfl,by kernel_rfl⟩
theorem ok150:FnOK Tryz.prog 150 c150:=⟨Tryz.f150,_,c150.body,Tryz.func150,by kernel_rfl,rfl,by kernel_rfl,by kernel_rfl⟩
theorem ok154:FnOK Tryz.prog 154 c154:=⟨Tryz.f154,_,c154.body,Tryz.func154,by kernel_rfl,rfl,by kernel_rfl,by kernel_rfl⟩
theorem ok158:FnOK Tryz.prog 158 c158:=⟨Tryz.f158,_,c158.body,Tryz.func158,by kernel_rfl,rfl,by kernel_rfl,by kernel_rfl⟩
theorem ok168:FnOK Tryz.prog 168 c168:=⟨Tryz.f168,_,c168.body,Tryz.func168,by kernel_rfl,rfl,by kernel_rfl,by kernel_rfl⟩
theorem ok172:FnOK Tryz.prog 172 c172:=⟨Tryz.f172,_,c172.body,Tryz.func172,by kernel_rfl,rfl,by kernel_rfl,by kernel_rfl⟩
theorem ok191:FnOK Tryz.prog 191 c191:=⟨Tryz.f191,_,c191.body,Tryz.func191,by kernel_rfl,rfl,by kernel_rfl,by kernel_rfl⟩
theorem ok195:FnOK Tryz.prog 195 c195:=⟨Tryz.f195,_,c195.body,Tryz.func195,by kernel_rfl,rfl,by kernel_rfl,by kernel_rfl⟩
theorem ok203:FnOK Tryz.prog 203 c203:=⟨Tryz.f203,_,c203.body,Tryz.func203,by kernel_rfl,rfl,by kernel_rfl,by kernel_rfl⟩
theorem ok219:FnOK Tryz.prog 219 c219:=⟨Tryz.f219,_,c219.body,Tryz.func219,by kernel_rfl,rfl,by kernel_rfl,by kernel_rfl⟩
theorem ok229:FnOK Tryz.prog 229 c229:=⟨Tryz.f229,_,c229.body,Tryz.func229,by kernel_rfl,rfl,by kernel_rfl,by kernel_rfl⟩
theorem ok245:FnOK Tryz.prog 245 c245:=⟨Tryz.f245,_,c245.body,Tryz.func245,by kernel_rfl,rfl,by kernel_rfl,by kernel_rfl⟩
theorem ok249:FnOK Tryz.prog 249 c249:=⟨Tryz.f249,_,c249.body,Tryz.func249,by kernel_rfl,rfl,by kernel_rfl,by kernel_rfl⟩
theorem ok253:FnOK Tryz.prog 253 c253:=⟨Tryz.f253,_,c253.body,Tryz.func253,by kernel_rfl,rfl,by kernel_rfl,by kernel_rfl⟩
theorem ok8:FnOK Tryz.prog 8 c8:=⟨Tryz.f8,_,c8.body,Tryz.func8,by kernel_rfl,rfl,by kernel_rfl,by kernel_rfl⟩
theorem ok12:FnOK Tryz.prog 12 c12:=⟨Tryz.f12,_,c12.body,Tryz.func12,by kernel_rfl,rfl,by kernel_rfl,by kernel_rfl⟩
theorem ok16:FnOK Tryz.prog 16 c16:=⟨Tryz.f16,_,c16.body,Tryz.func16,by kernel_rfl,rfl,by kernel_rfl,by kernel_rfl⟩
theorem ok22:FnOK Tryz.prog 22 c22:=⟨Tryz.f22,_,c22.body,Tryz.func22,by kernel_rfl,rfl,by kernel_rfl,by kernel_rfl⟩
theorem ok28:FnOK Tryz.prog 28 c28:=⟨Tryz.f28,_,c28.body,Tryz.func28,by kernel_rfl,rfl,by kernel_rfl,by kernel_rfl⟩
theorem ok33:FnOK Tryz.prog 33 c33:=⟨Tryz.f33,_,c33.body,Tryz.func33,by kernel_rfl,rfl,by kernel_rfl,by kernel_rfl⟩
theorem ok37:FnOK Tryz.prog 37 c37:=⟨Tryz.f37,_,c37.body,Tryz.func37,by kernel_rfl,rfl,by kernel_rfl,by kernel_rfl⟩
theorem ok41:FnOK Tryz.prog 41 c41:=⟨Tryz.f41,_,c41.body,Tryz.func41,by kernel_rfl,rfl,by kernel_rfl,by kernel_rfl⟩
theorem ok45:FnOK Tryz.prog 45 c45:=⟨Tryz.f45,_,c45.body,Tryz.func45,by kernel_rfl,rfl,by kernel_rfl,by kernel_rfl⟩
theorem ok50:FnOK Tryz.prog 50 c50:=⟨Tryz.f50,_,c50.body,Tryz.func50,by kernel_rfl,rfl,by kernel_rfl,by kernel_rfl⟩
theorem ok61:FnOK Tryz.prog 61 c61:=⟨Tryz.f61,_,c61.body,Tryz.func61,by kernel_rfl,rfl,by kernel_rfl,by kernel_rfl⟩
theorem ok65:FnOK Tryz.prog 65 c65:=⟨Tryz.f65,_,c65.body,Tryz.func65,by kernel_rfl,rfl,by kernel_rfl,by kernel_rfl⟩
theorem ok69:FnOK Tryz.prog 69 c69:=⟨Tryz.f69,_,c69.body,Tryz.func69,by kernel_rfl,rfl,by kernel_rfl,by kernel_rfl⟩
theorem ok76:FnOK Tryz.prog 76 c76:=⟨Tryz.f76,_,c76.body,Tryz.func76,by kernel_rfl,rfl,by kernel_rfl,by kernel_rfl⟩
theorem ok80:FnOK Tryz.prog 80 c80:=⟨Tryz.f80,_,c80.body,Tryz.func80,by kernel_rfl,rfl,by kernel_rfl,by kernel_rfl⟩
theorem ok84:FnOK Tryz.prog 84 c84:=⟨Tryz.f84,_,c84.body,Tryz.func84,by kernel_rfl,rfl,by kernel_rfl,by kernel_rfl⟩
theorem ok88:FnOK Tryz.prog 88 c88:=⟨Tryz.f88,_,c88.body,Tryz.func88,by kernel_rfl,rfl,by kernel_rfl,by kernel_rfl⟩
theorem ok92:FnOK Tryz.prog 92 c92:=⟨Tryz.f92,_,c92.body,Tryz.func92,by kernel_rfl,rfl,by kernel_rfl,by kernel_rfl⟩
theorem ok96:FnOK Tryz.prog 96 c96:=⟨Tryz.f96,_,c96.body,Tryz.func96,by kernel_rfl,rfl,by kernel_rfl,by kernel_rfl⟩
theorem ok100:FnOK Tryz.prog 100 c100:=⟨Tryz.f100,_,c100.body,Tryz.func100,by kernel_rfl,rfl,by kernel_rfl,by kernel_rfl⟩
theorem ok107:FnOK Tryz.prog 107 c107:=⟨Tryz.f107,_,c107.body,Tryz.func107,by kernel_rfl,rfl,by kernel_rfl,by kernel_rfl⟩
theorem ok111:FnOK Tryz.prog 111 c111:=⟨Tryz.f111,_,c111.body,Tryz.func111,by kernel_rfl,rfl,by kernel_rfl,by kernel_rfl⟩
theorem ok115:FnOK Tryz.prog 115 c115:=⟨Tryz.f115,_,c115.body,Tryz.func115,by kernel_rfl,rfl,by kernel_rfl,by kernel_rfl⟩
theorem ok125:FnOK Tryz.prog 125 c125:=⟨Tryz.f125,_,c125.body,Tryz.func125,by kernel_rfl,rfl,by kernel_rfl,by kernel_rfl⟩
theorem ok131:FnOK Tryz.prog 131 c131:=⟨Tryz.f131,_,c131.body,Tryz.func131,by kernel_rfl,rfl,by kernel_rfl,by kernel_rfl⟩
theorem ok135:FnOK Tryz.prog 135 c135:=⟨Tryz.f135,_,c135.body,Tryz.func135,by kernel_rfl,rfl,by kernel_rfl,by kernel_rfl⟩
theorem ok139:FnOK Tryz.prog 139 c139:=⟨Tryz.f139,_,c139.body,Tryz.func139,by kernel_rfl,rfl,by kernel_rfl,by kernel_rfl⟩
theorem ok143:FnOK Tryz.prog 143 c143:=⟨Tryz.f143,_,c143.body,Tryz.func143,by kernel_rfl,rfl,by kernel_rfl,by kernel_rfl⟩
theorem ok147:FnOK Tryz.prog 147 c147:=⟨Tryz.f147,_,c147.body,Tryz.func147,by kernel_rfl,rfl,by kernel_rfl,by kernel_rfl⟩
theorem ok151:FnOK Tryz.prog 151 c151:=⟨Tryz.f151,_,c151.body,Tryz.func151,by kernel_rfl,rfl,by kernel_rfl,by kernel_rfl⟩
theorem ok155:FnOK Tryz.prog 155 c155:=⟨Tryz.f155,_,c155.body,Tryz.func155,by kernel_rfl,rfl,by kernel_rfl,by kernel_rfl⟩
theorem ok159:FnOK Tryz.prog 159 c159:=⟨Tryz.f159,_,c159.body,Tryz.func159,by kernel_rfl,rfl,by kernel_rfl,by kernel_rfl⟩
theorem ok169:FnOK Tryz.prog 169 c169:=⟨Tryz.f169,_,c169.body,Tryz.func169,by kernel_rfl,rfl,by kernel_rfl,by kernel_rfl⟩
theorem ok173:FnOK Tryz.prog 173 c173:=⟨Tryz.f173,_,c173.body,Tryz.func173,by kernel_rfl,rfl,by kernel_rfl,by kernel_rfl⟩
theorem ok192:FnOK Tryz.prog 192 c192:=⟨Tryz.f192,_,c192.body,Tryz.func192,by kernel_rfl,rfl,by kernel_rfl,by kernel_rfl⟩
theorem ok196:FnOK Tryz.prog 196 c196:=⟨Tryz.f196,_,c196.body,Tryz.func196,by kernel_rfl,rfl,by kernel_rfl,by kernel_rfl⟩
theorem ok204:FnOK Tryz.prog 204 c204:=⟨Tryz.f204,_,c204.body,Tryz.func204,by kernel_rfl,rfl,by kernel_rfl,by kernel_rfl⟩
theorem ok220:FnOK Tryz.prog 220 c220:=⟨Tryz.f220,_,c220.body,Tryz.func220,by kernel_rfl,rfl,by kernel_rfl,by kernel_rfl⟩
theorem ok242:FnOK Tryz.prog 242 c242:=⟨Tryz.f242,_,c242.body,Tryz.func242,by kernel_rfl,rfl,by kernel_rfl,by kernel_rfl⟩
theorem ok246:FnOK Tryz.prog 246 c246:=⟨Tryz.f246,_,c246.body,Tryz.func246,by kernel_rfl,rfl,by kernel_rfl,by kernel_rfl⟩
theorem ok250:FnOK Tryz.prog 250 c250:=⟨Tryz.f250,_,c250.body,Tryz.func250,by kernel_rfl,rfl,by kernel_rfl,by kernel_rfl⟩
theorem ok254:FnOK Tryz.prog 254 c254:=⟨Tryz.f254,_,c254.body,Tryz.func254,by kernel_rfl,rfl,by kernel_rfl,by kernel_rfl⟩
theorem ok9:FnOK Tryz.prog 9 c9:=⟨Tryz.f9,_,c9.body,Tryz.func9,by kernel_rfl,rfl,by kernel_rfl,by kernel_rfl⟩
theorem ok13:FnOK Tryz.prog 13 c13:=⟨Tryz.f13,_,c13.body,Tryz.func13,by kernel_rfl,rfl,by kernel_rfl,by kernel_rfl⟩
theorem ok17:FnOK Tryz.prog 17 c17:=⟨Tryz.f17,_,c17.body,Tryz.func17,by kernel_rfl,rfl,by kernel_rfl,by kernel_rfl⟩
theorem ok23:FnOK Tryz.prog 23 c23:=⟨Tryz.f23,_,c23.body,Tryz.func23,by kernel_rfl,rfl,by kernel_rfl,by kernel_rfl⟩
theorem ok30:FnOK Tryz.prog 30 c30:=⟨Tryz.f30,_,c30.body,Tryz.func30,by kernel_rfl,rfl,by kernel_rfl,by kernel_rfl⟩
theorem ok34:FnOK Tryz.prog 34 c34:=⟨Tryz.f34,_,c34.body,Tryz.func34,by kernel_rfl,rfl,by kernel_rfl,by kernel_rfl⟩
theorem ok38:FnOK Tryz.prog 38 c38:=⟨Tryz.f38,_,c38.body,Tryz.func38,by kernel_rfl,rfl,by kernel_rfl,by kernel_rfl⟩
theorem ok42:FnOK Tryz.prog 42 c42:=⟨Tryz.f42,_,c42.body,Tryz.func42,by kernel_rfl,rfl,by kernel_rfl,by kernel_rfl⟩
theorem ok46:FnOK Tryz.prog 46 c46:=⟨Tryz.f46,_,c46.body,Tryz.func46,by kernel_rfl,rfl,by kernel_rfl,by kernel_rfl⟩
theorem ok51:FnOK Tryz.prog 51 c51:=⟨Tryz.f51,_,c51.body,Tryz.func51,by kernel_rfl,rfl,by kernel_rfl,by kernel_rfl⟩
theorem ok62:FnOK Tryz.prog 62 c62:=⟨Tryz.f62,_,c62.body,Tryz.func62,by kernel_rfl,rfl,by kernel_rfl,by kernel_rfl⟩
theorem ok66:FnOK Tryz.prog 66 c66:=⟨Tryz.f66,_,c66.body,Tryz.func66,by kernel_rfl,rfl,by kernel_rfl,by kernel_rfl⟩
theorem ok70:FnOK Tryz.prog 70 c70:=⟨Tryz.f70,_,c70.body,Tryz.func70,by kernel_rfl,rfl,by kernel_rfl,by kernel_rfl⟩
theorem ok77:FnOK Tryz.prog 77 c77:=⟨Tryz.f77,_,c77.body,Tryz.func77,by kernel_rfl,rfl,by kernel_rfl,by kernel_rfl⟩
theorem ok81:FnOK Tryz.prog 81 c81:=⟨Tryz.f81,_,c81.body,Tryz.func81,by kernel_rfl,rfl,by kernel_rfl,by kernel_rfl⟩
theorem ok85:FnOK Tryz.prog 85 c85:=⟨Tryz.f85,_,c85.body,Tryz.func85,by kernel_rfl,rfl,by kernel_rfl,by kernel_rfl⟩
theorem ok89:FnOK Tryz.prog 89 c89:=⟨Tryz.f89,_,c89.body,Tryz.func89,by kernel_rfl,rfl,by kernel_rfl,by kernel_rfl⟩
theorem ok93:FnOK Tryz.prog 93 c93:=⟨Tryz.f93,_,c93.body,Tryz.func93,by kernel_rfl,rfl,by kernel_rfl,by kernel_rfl⟩
theorem ok97:FnOK Tryz.prog 97 c97:=⟨Tryz.f97,_,c97.body,Tryz.func97,by kernel_rfl,rfl,by kernel_rfl,by kernel_rfl⟩
theorem ok101:FnOK Tryz.prog 101 c101:=⟨Tryz.f101,_,c101.body,Tryz.func101,by kernel_rfl,rfl,by kernel_rfl,by kernel_rfl⟩
theorem ok108:FnOK Tryz.prog 108 c108:=⟨Tryz.f108,_,c108.body,Tryz.func108,by kernel_rfl,rfl,by kernel_rfl,by kernel_rfl⟩
theorem ok112:FnOK Tryz.prog 112 c112:=⟨Tryz.f112,_,c112.body,Tryz.func112,by kernel_rfl,rfl,by kernel_rfl,by kernel_rfl⟩
theorem ok117:FnOK Tryz.prog 117 c117:=⟨Tryz.f117,_,c117.body,Tryz.func117,by kernel_rfl,rfl,by kernel_rfl,by kernel_rfl⟩
theorem ok126:FnOK Tryz.prog 126 c126:=⟨Tryz.f126,_,c126.body,Tryz.func126,by kernel_rfl,rfl,by kernel_rfl,by kernel_rfl⟩
theorem ok132:FnOK Tryz.prog 132 c132:=⟨Tryz.f132,_,c132.body,Tryz.func132,by kernel_rfl,rfl,by kernel_rfl,by kernel_rfl⟩
theorem ok136:FnOK Tryz.prog 136 c136:=⟨Tryz.f136,_,c136.body,Tryz.func136,by kernel_rfl,rfl,by kernel_rfl,by kernel_rfl⟩
theorem ok140:FnOK Tryz.prog 140 c140:=⟨Tryz.f140,_,c140.body,Tryz.func140,by kernel_rfl,rfl,by kernel_rfl,by kernel_rfl⟩
theorem ok144:FnOK Tryz.prog 144 c144:=⟨Tryz.f144,_,c144.body,Tryz.func144,by kernel_rfl,rfl,by kernel_rfl,by kernel_rfl⟩
theorem ok148:FnOK Tryz.prog 148 c148:=⟨Tryz.f148,_,c148.body,Tryz.func148,by kernel_rfl,rfl,by kernel_rfl,by kernel_rfl⟩
theorem ok152:FnOK Tryz.prog 152 c152:=⟨Tryz.f152,_,c152.body,Tryz.func152,by kernel_rfl,rfl,by kernel_rfl,by kernel_rfl⟩
theorem ok156:FnOK Tryz.prog 156 c156:=⟨Tryz.f156,_,c156.body,Tryz.func156,by kernel_rfl,rfl,by kernel_rfl,by kernel_rfl⟩
theorem ok160:FnOK Tryz.prog 160 c160:=⟨Tryz.f160,_,c160.body,Tryz.func160,by kernel_rfl,rfl,by kernel_rfl,by kernel_rfl⟩
theorem ok170:FnOK Tryz.prog 170 c170:=⟨Tryz.f170,_,c170.body,Tryz.func170,by kernel_rfl,rfl,by kernel_rfl,by kernel_rfl⟩
theorem ok174:FnOK Tryz.prog 174 c174:=⟨Tryz.f174,_,c174.body,Tryz.func174,by kernel_rfl,rfl,by kernel_rfl,by kernel_rfl⟩
theorem ok193:FnOK Tryz.prog 193 c193:=⟨Tryz.f193,_,c193.body,Tryz.func193,by kernel_rfl,rfl,by kernel_rfl,by kernel_rfl⟩
theorem ok200:FnOK Tryz.prog 200 c200:=⟨Tryz.f200,_,c200.body,Tryz.func200,by kernel_rfl,rfl,by kernel_rfl,by kernel_rfl⟩
theorem ok217:FnOK Tryz.prog 217 c217:=⟨Tryz.f217,_,c217.body,Tryz.func217,by kernel_rfl,rfl,by kernel_rfl,by kernel_rfl⟩
theorem ok223:FnOK Tryz.prog 223 c223:=⟨Tryz.f223,_,c223.body,Tryz.func223,by kernel_rfl,rfl,by kernel_rfl,by kernel_rfl⟩
theorem ok243:FnOK Tryz.prog 243 c243:=⟨Tryz.f243,_,c243.body,Tryz.func243,by kernel_rfl,rfl,by kernel_rfl,by kernel_rfl⟩
theorem ok247:FnOK Tryz.prog 247 c247:=⟨Tryz.f247,_,c247.body,Tryz.func247,by kernel_rfl,rfl,by kernel_rfl,by kernel_rfl⟩
theorem ok251:FnOK Tryz.prog 251 c251:=⟨Tryz.f251,_,c251.body,Tryz.func251,by kernel_rfl,rfl,by kernel_rfl,by kernel_rfl⟩
theorem ok255:FnOK Tryz.prog 255 c255:=⟨Tryz.f255,_,c255.body,Tryz.func255,by kernel_rfl,rfl,by kernel_rfl,by kernel_rfl⟩
end Go.Proofs.Ae
namespace Go.Proofs.Ae
open Go Go.RowKit
instance theK:KRel:=⟨fun nt c cc=> ∃k,compWith Tryz.prog nt true c k=some cc∧noRng cc=true⟩
theorem kis:KIs Tryz.prog:=fun _ _ _=>Iff.rfl
theorem hmix:Tryz.prog.follows .mixedOrders=true:=by kernel_rfl
theorem clone125_nil (w:World):Calls Tryz.prog 125 #[.slice none 0 0] w fun e w'=>e=.returned (.slice none 0 0)∧w=w':=by
 have k1:=fun(w:World) (a:Option Addr) (n c n' c':Nat)=>Lib.run_eql_slice_nil (P:=Tryz.prog) w 29 9 a n c n' c' Tryz.underlying29
 go_enter Tryz.func125,Tryz.ntmps125
 go_wp2
 go_ret
 exact⟨rfl,rfl⟩
theorem clone125_empty (w:World) (p:Addr) (c:Nat):Calls Tryz.prog 125 #[.slice (some p) 0 c] w fun e w'=>e=.returned (.slice (some ⟨w.heap.size,0,none⟩) 0 0)∧w.alloc (.cells #[] 9)=w':=by
 have k1:=fun(w:World) (a:Option Addr) (n c n' c':Nat)=>Lib.run_eql_slice_nil (P:=Tryz.prog) w 29 9 a n c n' c' Tryz.underlying29
 go_enter Tryz.func125,Tryz.ntmps125
 go_wp2
 go_ret
 exact⟨rfl,rfl⟩
theorem clone125_ev (G:Nat→Option AV) (e:AV) (es:List AV) (sp:Sp) (h1:szOk 1 (e::es)=true) (h2:(es.length+1)*4096≤140737488355328):
  pureA G false noCl noYl 1 c125 [.slc sp (e::es)]=some (.slc .shared (e::es),some (.app (e::es).length 9 1)):=by
 have h3:(es.length+1)*16≤140737488355328:=by omega
 have h4:es.length+1≤140737488355328:=by omega
 cases sp<;>simp -implicitDefEqProofs [c125,kdOk,h1,h3,h4]
theorem orc125 {G:Nat→Option AV} {ags:List AV} {r:AV×Option Arr} (h:cloneA 9 1 ags=some r):OrcAt Tryz.prog G 125 ags r:=
 clone_orc hmix kis ok125 clone125_nil (fun w p c=>(clone125_empty w p c).mono fun e w' ⟨he,hw⟩=>⟨⟨_,he⟩,hw▸(Below.refl _ _).alloc (Nat.le_refl _) _⟩) (fun e es sp h1 h2=>clone125_ev G e es sp h1 h2) h
theorem clone70_nil (w:World):Calls Tryz.prog 70 #[.slice none 0 0] w fun e w'=>e=.returned (.slice none 0 0)∧w=w':=by
 have k1:=fun(w:World) (a:Option Addr) (n c n' c':Nat)=>Lib.run_eql_slice_nil (P:=Tryz.prog) w 37 74 a n c n' c' Tryz.underlying37
 go_enter Tryz.func70,Tryz.ntmps70
 go_wp2
 go_ret
 exact⟨rfl,rfl⟩
theorem clone70_empty (w:World) (p:Addr) (c:Nat):Calls Tryz.prog 70 #[.slice (some p) 0 c] w fun e w'=>e=.returned (.slice (some ⟨w.heap.size,0,none⟩) 0 0)∧w.alloc (.cells #[] 74)=w':=by
 have k1:=fun(w:World) (a:Option Addr) (n c n' c':Nat)=>Lib.run_eql_slice_nil (P:=Tryz.prog) w 37 74 a n c n' c' Tryz.underlying37
 go_enter Tryz.func70,Tryz.ntmps70
 go_wp2
 go_ret
 exact⟨rfl,rfl⟩
theorem clone70_ev (G:Nat→Option AV) (e:AV) (es:List AV) (sp:Sp) (h1:szOk 2 (e::es)=true) (h2:(es.length+1)*4096≤140737488355328):
  pureA G false noCl noYl 1 c70 [.slc sp (e::es)]=some (.slc .shared (e::es),some (.app (e::es).length 74 2)):=by
 have h3:(es.length+1)*24≤140737488355328:=by omega
 have h4:es.length+1≤140737488355328:=by omega
 cases sp<;>simp -implicitDefEqProofs [c70,kdOk,h1,h3,h4]
theorem orc70 {G:Nat→Option AV} {ags:List AV} {r:AV×Option Arr} (h:cloneA 74 2 ags=some r):OrcAt Tryz.prog G 70 ags r:=
 clone_orc hmix kis ok70 clone70_nil (fun w p c=>(clone70_empty w p c).mono fun e w' ⟨he,hw⟩=>⟨⟨_,he⟩,hw▸(Below.refl _ _).alloc (Nat.le_refl _) _⟩) (fun e es sp h1 h2=>clone70_ev G e es sp h1 h2) h
end Go.Proofs.Ae
namespace Go.Proofs.Ae
open Go Go.RowKit
open Classical in
noncomputable def spR {X:Type} (enc:X→List AV) (F:X→AV×Option Arr) (ok:X→Prop) (ags:List AV):Ores:=if h: ∃x,ags=enc x∧ok x then some (F h.choose)else none
theorem spR_inv {X:Type} {enc:X→List AV} {F:X→AV×Option Arr} {ok:X→Prop} {ags:List AV} {r:AV×Option Arr} (h:spR enc F ok ags=some r): ∃x,ags=enc x∧ok x∧r=F x:=by
 unfold spR at h;split at h
 ·rename_i hx
  cases h;exact⟨_,hx.choose_spec.1,hx.choose_spec.2,rfl⟩
 ·cases h
theorem spR_at {X:Type} {enc:X→List AV} {F:X→AV×Option Arr} {ok:X→Prop} (inj: ∀x y,enc x=enc y→x=y) {x:X} (h:ok x):spR enc F ok (enc x)=some (F x):=by
 unfold spR;have hx: ∃y,enc x=enc y∧ok y:=⟨x,rfl,h⟩
 rw[dif_pos hx];rw[←inj _ _ hx.choose_spec.1]
theorem orcOf_self (f:Nat) (s:List AV→Ores) (l:List (Nat×(List AV→Ores))) (ags:List AV):orcOf ((f,s)::l) f ags=s ags:=by
 simp[orcOf]
theorem orcOf_other {f g:Nat} (h:g≠f) (s:List AV→Ores) (l:List (Nat×(List AV→Ores))) (ags:List AV):orcOf ((f,s)::l) g ags=orcOf l g ags:=by
 have:Nat.beq g f=false:=by
  cases hb:Nat.beq g f with
  |false=>rfl
  |true=>exact absurd (Nat.eq_of_beq_eq_true hb) h
 simp[orcOf,this]
section
variable {G:Nat→Option AV} {l:List (Nat×(List AV→Ores))}
theorem orc_con {X:Type} {f:Nat} {cf:CFn} (enc:X→List AV) (F:X→AV×Option Arr) (ok:X→Prop) (hf:FnOK Tryz.prog f cf)
  (h: ∀x,ok x→ ∃N,pureA G false (spC (orcOf l)) noYl N cf (enc x)=some (F x)) (hl:OrcOK Tryz.prog G (orcOf l)):OrcOK Tryz.prog G (orcOf ((f,spR enc F ok)::l)):=
 orc_cons hl fun ags r hr=>by
  obtain⟨x,rfl,hx,rfl⟩:=spR_inv hr;exact orc_step hmix kis hf hl (h x hx)
theorem orc_self {X:Type} {f:Nat} {cf:CFn} (enc:X→List AV) (F:X→AV×Option Arr) (ok:X→Prop) (μ:X→Nat) (inj: ∀x y,enc x=enc y→x=y) (hf:FnOK Tryz.prog f cf)
  (h: ∀x,ok x→ ∀orc:Nat→List AV→Ores,(∀y,ok y→μ y<μ x→orc f (enc y)=some (F y))→(∀g,g≠f→ ∀ags,orc g ags=orcOf l g ags)→ ∃N,pureA G false (spC orc) noYl N cf (enc x)=some (F x))
  (hl:OrcOK Tryz.prog G (orcOf l)):OrcOK Tryz.prog G (orcOf ((f,spR enc F ok)::l)):=by
 refine orc_rec (fun b=>spR enc F (fun x=>ok x∧μ x<b)) (spR enc F ok) ?_ ?_ ?_ hl
 ·intro ags r hr;obtain⟨x,rfl,hx,rfl⟩:=spR_inv hr;exact⟨μ x+1,spR_at (ok:=fun x=>ok x∧μ x<_) inj ⟨hx,Nat.lt_succ_self _⟩⟩
 ·intro ags;cases hs:spR enc F (fun x=>ok x∧μ x<0) ags with
  |none=>rfl
  |some r=>
   obtain⟨x,_,hx,_⟩:=spR_inv hs;omega
 ·intro b ags r ho hs;obtain⟨x,rfl,hx,rfl⟩:=spR_inv hs;refine orc_step hmix kis hf ho (h x hx.1 _ (fun y hy hlt=>?_) (fun g hg ags=>orcOf_other hg _ _ _));rw[orcOf_self];exact spR_at (ok:=fun x=>ok x∧μ x<b) inj ⟨hy,by omega⟩
end
theorem av_inj {a b:Nd} (h:av a=av b):a=b:=by
 have:=deN_av a;rw[h,deN_av]at this;exact(Option.some.inj this).symm
theorem av1_inj (a b:Nd) (h:[av a]=[av b]):a=b:=av_inj (by simpa using h)
@[simp] theorem takeV_av (n:Nd) (M:Mem):takeV false (av n,none) M=some (av n,M):=by cases n;rfl
abbrev L0:List (Nat×(List AV→Ores)):=[(125,cloneA 9 1),(70,cloneA 74 2)]
theorem o0 {G:Nat→Option AV}:OrcOK Tryz.prog G (orcOf L0):=orc_cons (orc_cons orc_nil fun ags r hr=>orc70 hr) fun ags r hr=>orc125 hr
noncomputable abbrev L1:List (Nat×(List AV→Ores)):=(99,spR (fun n:Nd=>[av n]) (fun n=>(av n,none)) (fun n=>bk n≤big))::L0
theorem o1 {G:Nat→Option AV}:OrcOK Tryz.prog G (orcOf L1):=by
 refine orc_self _ _ _ sz av1_inj ok99 ?_ o0;intro n hb orc hself hother;refine⟨n.l.length+1,ev99 n hb (Nat.lt_succ_self _) (fun x hx M=>?_) (fun M=>?_)⟩
 ·have:=hself x (by have:=bk_child hx;omega) (sz_child hx);simp[spC,this]
 ·have h:=hother 125 (by decide) [.slc .shared (n.ns.map .str)];have hlen:=names_bk n;unfold big at hb;cases hns:n.ns with
  |nil=>rw[hns]at h;simp[orcOf,cloneA]at h;simp[spC,h,cl125]
  |cons s ns=>
   rw[hns]at h hlen;simp at hlen;have b1:(ns.length+1)*4096≤140737488355328:=by omega
   simp[orcOf,cloneA,b1]at h;simp[spC,h,cl125]
end Go.Proofs.Ae
namespace Go.Proofs.Ae
open Go
def OkT (f:Nat) (r:Option CFn):Prop:= ∀cf,r=some cf→FnOK Tryz.prog f cf
theorem okT_br {f:Nat} {b:Bool} {x y:Option CFn} (hx:OkT f x) (hy:OkT f y):OkT f (match b with|true=>x|false=>y):=by cases b<;>assumption
theorem okT_leaf {f k:Nat} {c:CFn} (h:FnOK Tryz.prog k c):OkT f (match Nat.beq f k with|true=>some c|false=>none):=by
 intro cf hc;cases hb:Nat.beq f k with
 |true=>
  rw[hb]at hc;cases hc;have:=Nat.eq_of_beq_eq_true hb;subst this;exact h
 |false=>rw[hb]at hc;cases hc
theorem tabOK:TabOK Tryz.prog fns:=fun f=>show OkT f (fns f) from by
 unfold fns;exact(okT_br (okT_br (okT_br (okT_br (okT_br (okT_br (okT_br (okT_leaf ok3) (okT_leaf ok5)) (okT_br (okT_leaf ok8) (okT_br (okT_leaf ok9) (okT_leaf ok10)))) (okT_br (okT_br (okT_leaf ok11) (okT_leaf ok12)) (okT_br (okT_leaf ok13) (okT_br (okT_leaf ok14) (okT_leaf ok15))))) (okT_br (okT_br (okT_br (okT_leaf ok16) (okT_leaf ok17)) (okT_br (okT_leaf ok18) (okT_br (okT_leaf ok20) (okT_leaf ok22)))) (okT_br (okT_br (okT_leaf ok23) (okT_br (okT_leaf ok24) (okT_leaf ok25))) (okT_br (okT_leaf ok28) (okT_br (okT_leaf ok30) (okT_leaf ok31)))))) (okT_br (okT_br (okT_br (okT_br (okT_leaf ok32) (okT_leaf ok33)) (okT_br (okT_leaf ok34) (okT_br (okT_leaf ok35) (okT_leaf ok36)))) (okT_br (okT_br (okT_leaf ok37) (okT_leaf ok38)) (okT_br (okT_leaf ok39) (okT_br (okT_leaf ok40) (okT_leaf ok41))))) (okT_br (okT_br (okT_br (okT_leaf ok42) (okT_leaf ok43)) (okT_br (okT_leaf ok44) (okT_br (okT_leaf ok45) (okT_leaf ok46)))) (okT_br (okT_br (okT_leaf ok47) (okT_br (okT_leaf ok48) (okT_leaf ok50))) (okT_br (okT_leaf ok51) (okT_br (okT_leaf ok54) (okT_leaf ok55))))))) (okT_br (okT_br (okT_br (okT_br (okT_br (okT_leaf ok61) (okT_leaf ok62)) (okT_br (okT_leaf ok63) (okT_br (okT_leaf ok64) (okT_leaf ok65)))) (okT_br (okT_br (okT_leaf ok66) (okT_leaf ok67)) (okT_br (okT_leaf ok68) (okT_br (okT_leaf ok69) (okT_leaf ok70))))) (okT_br (okT_br (okT_br (okT_leaf ok71) (okT_leaf ok72)) (okT_br (okT_leaf ok76) (okT_br (okT_leaf ok77) (okT_leaf ok78)))) (okT_br (okT_br (okT_leaf ok79) (okT_br (okT_leaf ok80) (okT_leaf ok81))) (okT_br (okT_leaf ok82) (okT_br (okT_leaf ok83) (okT_leaf ok84)))))) (okT_br (okT_br (okT_br (okT_br (okT_leaf ok85) (okT_leaf ok86)) (okT_br (okT_leaf ok87) (okT_br (okT_leaf ok88) (okT_leaf ok89)))) (okT_br (okT_br (okT_leaf ok90) (okT_leaf ok91)) (okT_br (okT_leaf ok92) (okT_br (okT_leaf ok93) (okT_leaf ok94))))) (okT_br (okT_br (okT_br (okT_leaf ok95) (okT_leaf ok96)) (okT_br (okT_leaf ok97) (okT_br (okT_leaf ok98) (okT_leaf ok99)))) (okT_br (okT_br (okT_leaf ok100) (okT_br (okT_leaf ok101) (okT_leaf ok105))) (okT_br (okT_leaf ok106) (okT_br (okT_leaf ok107) (okT_leaf ok108)))))))) (okT_br (okT_br (okT_br (okT_br (okT_br (okT_br (okT_leaf ok109) (okT_leaf ok110)) (okT_br (okT_leaf ok111) (okT_br (okT_leaf ok112) (okT_leaf ok113)))) (okT_br (okT_br (okT_leaf ok114) (okT_leaf ok115)) (okT_br (okT_leaf ok117) (okT_br (okT_leaf ok123) (okT_leaf ok124))))) (okT_br (okT_br (okT_br (okT_leaf ok125) (okT_leaf ok126)) (okT_br (okT_leaf ok127) (okT_br (okT_leaf ok130) (okT_leaf ok131)))) (okT_br (okT_br (okT_leaf ok132) (okT_br (okT_leaf ok133) (okT_leaf ok134))) (okT_br (okT_leaf ok135) (okT_br (okT_leaf ok136) (okT_leaf ok137)))))) (okT_br (okT_br (okT_br (okT_br (okT_leaf ok138) (okT_leaf ok139)) (okT_br (okT_leaf ok140) (okT_br (okT_leaf ok141) (okT_leaf ok142)))) (okT_br (okT_br (okT_leaf ok143) (okT_leaf ok144)) (okT_br (okT_leaf ok145) (okT_br (okT_leaf ok146) (okT_leaf ok147))))) (okT_br (okT_br (okT_br (okT_leaf ok148) (okT_leaf ok149)) (okT_br (okT_leaf ok150) (okT_br (okT_leaf ok151) (okT_leaf ok152)))) (okT_br (okT_br (okT_leaf ok153) (okT_br (okT_leaf ok154) (okT_leaf ok155))) (okT_br (okT_leaf ok156) (okT_br (okT_leaf ok157) (okT_leaf ok158))))))) (okT_br (okT_br (okT_br (okT_br (okT_br (okT_leaf ok159) (okT_leaf ok160)) (okT_br (okT_leaf ok167) (okT_br (okT_leaf ok168) (okT_leaf ok169)))) (okT_br (okT_br (okT_leaf ok170) (okT_leaf ok171)) (okT_br (okT_leaf ok172) (okT_br (okT_leaf ok173) (okT_leaf ok174))))) (okT_br (okT_br (okT_br (okT_leaf ok175) (okT_leaf ok191)) (okT_br (okT_leaf ok192) (okT_br (okT_leaf ok193) (okT_leaf ok194)))) (okT_br (okT_br (okT_leaf ok195) (okT_br (okT_leaf ok196) (okT_leaf ok200))) (okT_br (okT_leaf ok202) (okT_br (okT_leaf ok203) (okT_leaf ok204)))))) (okT_br (okT_br (okT_br (okT_br (okT_leaf ok217) (okT_leaf ok218)) (okT_br (okT_leaf ok219) (okT_br (okT_leaf ok220) (okT_leaf ok223)))) (okT_br (okT_br (okT_leaf ok228) (okT_br (okT_leaf ok229) (okT_leaf ok242))) (okT_br (okT_leaf ok243) (okT_br (okT_leaf ok244) (okT_leaf ok245))))) (okT_br (okT_br (okT_br (okT_leaf ok246) (okT_leaf ok247)) (okT_br (okT_leaf ok248) (okT_br (okT_leaf ok249) (okT_leaf ok250)))) (okT_br (okT_br (okT_leaf ok251) (okT_br (okT_leaf ok252) (okT_leaf ok253))) (okT_br (okT_leaf ok254) (okT_br (okT_leaf ok255) (okT_leaf ok265)))))))))
end Go.Proofs.Ae
