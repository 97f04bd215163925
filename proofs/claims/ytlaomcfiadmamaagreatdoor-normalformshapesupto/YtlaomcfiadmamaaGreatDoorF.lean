/- The compiled form is that of the program. -/
import Derived.Test.YtlaomcfiadmamaaGreatDoorE
import Derived.Test.YtlaomcfiadmamaaGreatDoorChecked
import Derived.KernelRfl
import Derived.WalkKit
import Derived.WalkSpells
import Derived.ProofKit
namespace Go.Proofs.Ae
open Go
set_option maxRecDepth 1000000
theorem ok3 : FnOK Tryz.prog 3 c3 := ⟨Tryz.f3, _, c3.body, Tryz.func3, by kernel_rfl, rfl, by kernel_rfl, by kernel_rfl⟩
theorem ok7 : FnOK Tryz.prog 7 c7 := ⟨Tryz.f7, _, c7.body, Tryz.func7, by kernel_rfl, rfl, by kernel_rfl, by kernel_rfl⟩
theorem ok12 : FnOK Tryz.prog 12 c12 := ⟨Tryz.f12, _, c12.body, Tryz.func12, by kernel_rfl, rfl, by kernel_rfl, by kernel_rfl⟩
theorem ok19 : FnOK Tryz.prog 19 c19 := ⟨Tryz.f19, _, c19.body, Tryz.func19, by kernel_rfl, rfl, by kernel_rfl, by kernel_rfl⟩
theorem ok23 : FnOK Tryz.prog 23 c23 := ⟨Tryz.f23, _, c23.body, Tryz.func23, by kernel_rfl, rfl, by kernel_rfl, by kernel_rfl⟩
theorem ok27 : FnOK Tryz.prog 27 c27 := ⟨Tryz.f27, _, c27.body, Tryz.func27, by kernel_rfl, rfl, by kernel_rfl, by kernel_rfl⟩
theorem ok32 : FnOK Tryz.prog 32 c32 := ⟨Tryz.f32, _, c32.body, Tryz.func32, by kernel_rfl, rfl, by kernel_rfl, by kernel_rfl⟩
theorem ok36 : FnOK Tryz.prog 36 c36 := ⟨Tryz.f36, _, c36.body, Tryz.func36, by kernel_rfl, rfl, by kernel_rfl, by kernel_rfl⟩
theorem ok40 : FnOK Tryz.prog 40 c40 := ⟨Tryz.f40, _, c40.body, Tryz.func40, by kernel_rfl, rfl, by kernel_rfl, by kernel_rfl⟩
theorem ok50 : FnOK Tryz.prog 50 c50 := ⟨Tryz.f50, _, c50.body, Tryz.func50, by kernel_rfl, rfl, by kernel_rfl, by kernel_rfl⟩
theorem ok54 : FnOK Tryz.prog 54 c54 := ⟨Tryz.f54, _, c54.body, Tryz.func54, by kernel_rfl, rfl, by kernel_rfl, by kernel_rfl⟩
theorem ok58 : FnOK Tryz.prog 58 c58 := ⟨Tryz.f58, _, c58.body, Tryz.func58, by kernel_rfl, rfl, by kernel_rfl, by kernel_rfl⟩
theorem ok62 : FnOK Tryz.prog 62 c62 := ⟨Tryz.f62, _, c62.body, Tryz.func62, by kernel_rfl, rfl, by kernel_rfl, by kernel_rfl⟩
theorem ok67 : FnOK Tryz.prog 67 c67 := ⟨Tryz.f67, _, c67.body, Tryz.func67, by kernel_rfl, rfl, by kernel_rfl, by kernel_rfl⟩
theorem ok71 : FnOK Tryz.prog 71 c71 := ⟨Tryz.f71, _, c71.body, Tryz.func71, by kernel_rfl, rfl, by kernel_rfl, by kernel_rfl⟩
theorem ok75 : FnOK Tryz.prog 75 c75 := ⟨Tryz.f75, _, c75.body, Tryz.func75, by kernel_rfl, rfl, by kernel_rfl, by kernel_rfl⟩
theorem ok89 : FnOK Tryz.prog 89 c89 := ⟨Tryz.f89, _, c89.body, Tryz.func89, by kernel_rfl, rfl, by kernel_rfl, by kernel_rfl⟩
theorem ok93 : FnOK Tryz.prog 93 c93 := ⟨Tryz.f93, _, c93.body, Tryz.func93, by kernel_rfl, rfl, by kernel_rfl, by kernel_rfl⟩
theorem ok97 : FnOK Tryz.prog 97 c97 := ⟨Tryz.f97, _, c97.body, Tryz.func97, by kernel_rfl, rfl, by kernel_rfl, by kernel_rfl⟩
theorem ok101 : FnOK Tryz.prog 101 c101 := ⟨Tryz.f101, _, c101.body, Tryz.func101, by kernel_rfl, rfl, by kernel_rfl, by kernel_rfl⟩
theorem ok108 : FnOK Tryz.prog 108 c108 := ⟨Tryz.f108, _, c108.body, Tryz.func108, by kernel_rfl, rfl, by kernel_rfl, by kernel_rfl⟩
theorem ok112 : FnOK Tryz.prog 112 c112 := ⟨Tryz.f112, _, c112.body, Tryz.func112, by kernel_rfl, rfl, by kernel_rfl, by kernel_rfl⟩
theorem ok118 : FnOK Tryz.prog 118 c118 := ⟨Tryz.f118, _, c118.body, Tryz.func118, by kernel_rfl, rfl, by kernel_rfl, by kernel_rfl⟩
theorem ok131 : FnOK Tryz.prog 131 c131 := ⟨Tryz.f131, _, c131.body, Tryz.func131, by kernel_rfl, rfl, by kernel_rfl, by kernel_rfl⟩
theorem ok135 : FnOK Tryz.prog 135 c135 := ⟨Tryz.f135, _, c135.body, Tryz.func135, by kernel_rfl, rfl, by kernel_rfl, by kernel_rfl⟩
theorem ok140 : FnOK Tryz.prog 140 c140 := ⟨Tryz.f140, _, c140.body, Tryz.func140, by kernel_rfl, rfl, by kernel_rfl, by kernel_rfl⟩
theorem ok144 : FnOK Tryz.prog 144 c144 := ⟨Tryz.f144, _, c144.body, Tryz.func144, by kernel_rfl, rfl, by kernel_rfl, by kernel_rfl⟩
theorem ok148 : FnOK Tryz.prog 148 c148 := ⟨Tryz.f148, _, c148.body, Tryz.func148, by kernel_rfl, rfl, by kernel_rfl, by kernel_rfl⟩
theorem ok156 : FnOK Tryz.prog 156 c156 := ⟨Tryz.f156, _, c156.body, Tryz.func156, by kernel_rfl, rfl, by kernel_rfl, by kernel_rfl⟩
theorem ok160 : FnOK Tryz.prog 160 c160 := ⟨Tryz.f160, _, c160.body, Tryz.func160, by kernel_rfl, rfl, by kernel_rfl, by kernel_rfl⟩
theorem ok164 : FnOK Tryz.prog 164 c164 := ⟨Tryz.f164, _, c164.body, Tryz.func164, by kernel_rfl, rfl, by kernel_rfl, by kernel_rfl⟩
theorem ok169 : FnOK Tryz.prog 169 c169 := ⟨Tryz.f169, _, c169.body, Tryz.func169, by kernel_rfl, rfl, by kernel_rfl, by kernel_rfl⟩
theorem ok175 : FnOK Tryz.prog 175 c175 := ⟨Tryz.f175, _, c175.body, Tryz.func175, by kernel_rfl, rfl, by kernel_rfl, by kernel_rfl⟩
theorem ok180 : FnOK Tryz.prog 180 c180 := ⟨Tryz.f180, _, c180.body, Tryz.func180, by kernel_rfl, rfl, by kernel_rfl, by kernel_rfl⟩
theorem ok184 : FnOK Tryz.prog 184 c184 := ⟨Tryz.f184, _, c184.body, Tryz.func184, by kernel_rfl, rfl, by kernel_rfl, by kernel_rfl⟩
theorem ok188 : FnOK Tryz.prog 188 c188 := ⟨Tryz.f188, _, c188.body, Tryz.func188, by kernel_rfl, rfl, by kernel_rfl, by kernel_rfl⟩
theorem ok192 : FnOK Tryz.prog 192 c192 := ⟨Tryz.f192, _, c192.body, Tryz.func192, by kernel_rfl, rfl, by kernel_rfl, by kernel_rfl⟩
theorem ok196 : FnOK Tryz.prog 196 c196 := ⟨Tryz.f196, _, c196.body, Tryz.func196, by kernel_rfl, rfl, by kernel_rfl, by kernel_rfl⟩
theorem ok200 : FnOK Tryz.prog 200 c200 := ⟨Tryz.f200, _, c200.body, Tryz.func200, by kernel_rfl, rfl, by kernel_rfl, by kernel_rfl⟩
theorem ok204 : FnOK Tryz.prog 204 c204 := ⟨Tryz.f204, _, c204.body, Tryz.func204, by kernel_rfl, rfl, by kernel_rfl, by kernel_rfl⟩
theorem ok208 : FnOK Tryz.prog 208 c208 := ⟨Tryz.f208, _, c208.body, Tryz.func208, by kernel_rfl, rfl, by kernel_rfl, by kernel_rfl⟩
theorem ok212 : FnOK Tryz.prog 212 c212 := ⟨Tryz.f212, _, c212.body, Tryz.func212, by kernel_rfl, rfl, by kernel_rfl, by kernel_rfl⟩
theorem ok216 : FnOK Tryz.prog 216 c216 := ⟨Tryz.f216, _, c216.body, Tryz.func216, by kernel_rfl, rfl, by kernel_rfl, by kernel_rfl⟩
theorem ok220 : FnOK Tryz.prog 220 c220 := ⟨Tryz.f220, _, c220.body, Tryz.func220, by kernel_rfl, rfl, by kernel_rfl, by kernel_rfl⟩
end Go.Proofs.Ae
namespace Go.Proofs.Ae
open Go
set_option maxRecDepth 1000000
theorem ok4 : FnOK Tryz.prog 4 c4 := ⟨Tryz.f4, _, c4.body, Tryz.func4, by kernel_rfl, rfl, by kernel_rfl, by kernel_rfl⟩
theorem ok9 : FnOK Tryz.prog 9 c9 := ⟨Tryz.f9, _, c9.body, Tryz.func9, by kernel_rfl, rfl, by kernel_rfl, by kernel_rfl⟩
theorem ok14 : FnOK Tryz.prog 14 c14 := ⟨Tryz.f14, _, c14.body, Tryz.func14, by kernel_rfl, rfl, by kernel_rfl, by kernel_rfl⟩
theorem ok20 : FnOK Tryz.prog 20 c20 := ⟨Tryz.f20, _, c20.body, Tryz.func20, by kernel_rfl, rfl, by kernel_rfl, by kernel_rfl⟩
theorem ok24 : FnOK Tryz.prog 24 c24 := ⟨Tryz.f24, _, c24.body, Tryz.func24, by kernel_rfl, rfl, by kernel_rfl, by kernel_rfl⟩
theorem ok28 : FnOK Tryz.prog 28 c28 := ⟨Tryz.f28, _, c28.body, Tryz.func28, by kernel_rfl, rfl, by kernel_rfl, by kernel_rfl⟩
theorem ok33 : FnOK Tryz.prog 33 c33 := ⟨Tryz.f33, _, c33.body, Tryz.func33, by kernel_rfl, rfl, by kernel_rfl, by kernel_rfl⟩
theorem ok37 : FnOK Tryz.prog 37 c37 := ⟨Tryz.f37, _, c37.body, Tryz.func37, by kernel_rfl, rfl, by kernel_rfl, by kernel_rfl⟩
theorem ok41 : FnOK Tryz.prog 41 c41 := ⟨Tryz.f41, _, c41.body, Tryz.func41, by kernel_rfl, rfl, by kernel_rfl, by kernel_rfl⟩
theorem ok51 : FnOK Tryz.prog 51 c51 := ⟨Tryz.f51, _, c51.body, Tryz.func51, by kernel_rfl, rfl, by kernel_rfl, by kernel_rfl⟩
theorem ok55 : FnOK Tryz.prog 55 c55 := ⟨Tryz.f55, _, c55.body, Tryz.func55, by kernel_rfl, rfl, by kernel_rfl, by kernel_rfl⟩
theorem ok59 : FnOK Tryz.prog 59 c59 := ⟨Tryz.f59, _, c59.body, Tryz.func59, by kernel_rfl, rfl, by kernel_rfl, by kernel_rfl⟩
theorem ok63 : FnOK Tryz.prog 63 c63 := ⟨Tryz.f63, _, c63.body, Tryz.func63, by kernel_rfl, rfl, by kernel_rfl, by kernel_rfl⟩
theorem ok68 : FnOK Tryz.prog 68 c68 := ⟨Tryz.f68, _, c68.body, Tryz.func68, by kernel_rfl, rfl, by kernel_rfl, by kernel_rfl⟩
theorem ok72 : FnOK Tryz.prog 72 c72 := ⟨Tryz.f72, _, c72.body, Tryz.func72, by kernel_rfl, rfl, by kernel_rfl, by kernel_rfl⟩
theorem ok81 : FnOK Tryz.prog 81 c81 := ⟨Tryz.f81, _, c81.body, Tryz.func81, by kernel_rfl, rfl, by kernel_rfl, by kernel_rfl⟩
theorem ok90 : FnOK Tryz.prog 90 c90 := ⟨Tryz.f90, _, c90.body, Tryz.func90, by kernel_rfl, rfl, by kernel_rfl, by kernel_rfl⟩
theorem ok94 : FnOK Tryz.prog 94 c94 := ⟨Tryz.f94, _, c94.body, Tryz.func94, by kernel_rfl, rfl, by kernel_rfl, by kernel_rfl⟩
theorem ok98 : FnOK Tryz.prog 98 c98 := ⟨Tryz.f98, _, c98.body, Tryz.func98, by kernel_rfl, rfl, by kernel_rfl, by kernel_rfl⟩
theorem ok102 : FnOK Tryz.prog 102 c102 := ⟨Tryz.f102, _, c102.body, Tryz.func102, by kernel_rfl, rfl, by kernel_rfl, by kernel_rfl⟩
theorem ok109 : FnOK Tryz.prog 109 c109 := ⟨Tryz.f109, _, c109.body, Tryz.func109, by kernel_rfl, rfl, by kernel_rfl, by kernel_rfl⟩
theorem ok113 : FnOK Tryz.prog 113 c113 := ⟨Tryz.f113, _, c113.body, Tryz.func113, by kernel_rfl, rfl, by kernel_rfl, by kernel_rfl⟩
theorem ok119 : FnOK Tryz.prog 119 c119 := ⟨Tryz.f119, _, c119.body, Tryz.func119, by kernel_rfl, rfl, by kernel_rfl, by kernel_rfl⟩
theorem ok132 : FnOK Tryz.prog 132 c132 := ⟨Tryz.f132, _, c132.body, Tryz.func132, by kernel_rfl, rfl, by kernel_rfl, by kernel_rfl⟩
theorem ok136 : FnOK Tryz.prog 136 c136 := ⟨Tryz.f136, _, c136.body, Tryz.func136, by kernel_rfl, rfl, by kernel_rfl, by kernel_rfl⟩
theorem ok141 : FnOK Tryz.prog 141 c141 := ⟨Tryz.f141, _, c141.body, Tryz.func141, by kernel_rfl, rfl, by kernel_rfl, by kernel_rfl⟩
theorem ok145 : FnOK Tryz.prog 145 c145 := ⟨Tryz.f145, _, c145.body, Tryz.func145, by kernel_rfl, rfl, by kernel_rfl, by kernel_rfl⟩
theorem ok151 : FnOK Tryz.prog 151 c151 := ⟨Tryz.f151, _, c151.body, Tryz.func151, by kernel_rfl, rfl, by kernel_rfl, by kernel_rfl⟩
theorem ok157 : FnOK Tryz.prog 157 c157 := ⟨Tryz.f157, _, c157.body, Tryz.func157, by kernel_rfl, rfl, by kernel_rfl, by kernel_rfl⟩
theorem ok161 : FnOK Tryz.prog 161 c161 := ⟨Tryz.f161, _, c161.body, Tryz.func161, by kernel_rfl, rfl, by kernel_rfl, by kernel_rfl⟩
theorem ok165 : FnOK Tryz.prog 165 c165 := ⟨Tryz.f165, _, c165.body, Tryz.func165, by kernel_rfl, rfl, by kernel_rfl, by kernel_rfl⟩
theorem ok171 : FnOK Tryz.prog 171 c171 := ⟨Tryz.f171, _, c171.body, Tryz.func171, by kernel_rfl, rfl, by kernel_rfl, by kernel_rfl⟩
theorem ok176 : FnOK Tryz.prog 176 c176 := ⟨Tryz.f176, _, c176.body, Tryz.func176, by kernel_rfl, rfl, by kernel_rfl, by kernel_rfl⟩
theorem ok181 : FnOK Tryz.prog 181 c181 := ⟨Tryz.f181, _, c181.body, Tryz.func181, by kernel_rfl, rfl, by kernel_rfl, by kernel_rfl⟩
theorem ok185 : FnOK Tryz.prog 185 c185 := ⟨Tryz.f185, _, c185.body, Tryz.func185, by kernel_rfl, rfl, by kernel_rfl, by kernel_rfl⟩
theorem ok189 : FnOK Tryz.prog 189 c189 := ⟨Tryz.f189, _, c189.body, Tryz.func189, by kernel_rfl, rfl, by kernel_rfl, by kernel_rfl⟩
theorem ok193 : FnOK Tryz.prog 193 c193 := ⟨Tryz.f193, _, c193.body, Tryz.func193, by kernel_rfl, rfl, by kernel_rfl, by kernel_rfl⟩
theorem ok197 : FnOK Tryz.prog 197 c197 := ⟨Tryz.f197, _, c197.body, Tryz.func197, by kernel_rfl, rfl, by kernel_rfl, by kernel_rfl⟩
theorem ok201 : FnOK Tryz.prog 201 c201 := ⟨Tryz.f201, _, c201.body, Tryz.func201, by kernel_rfl, rfl, by kernel_rfl, by kernel_rfl⟩
theorem ok205 : FnOK Tryz.prog 205 c205 := ⟨Tryz.f205, _, c205.body, Tryz.func205, by kernel_rfl, rfl, by kernel_rfl, by kernel_rfl⟩
theorem ok209 : FnOK Tryz.prog 209 c209 := ⟨Tryz.f209, _, c209.body, Tryz.func209, by kernel_rfl, rfl, by kernel_rfl, by kernel_rfl⟩
theorem ok213 : FnOK Tryz.prog 213 c213 := ⟨Tryz.f213, _, c213.body, Tryz.func213, by kernel_rfl, rfl, by kernel_rfl, by kernel_rfl⟩
theorem ok217 : FnOK Tryz.prog 217 c217 := ⟨Tryz.f217, _, c217.body, Tryz.func217, by kernel_rfl, rfl, by kernel_rfl, by kernel_rfl⟩
theorem ok221 : FnOK Tryz.prog 221 c221 := ⟨Tryz.f221, _, c221.body, Tryz.func221, by kernel_rfl, rfl, by kernel_rfl, by kernel_rfl⟩
end Go.Proofs.Ae
namespace Go.Proofs.Ae
open Go
set_option maxRecDepth 1000000
theorem ok5 : FnOK Tryz.prog 5 c5 := ⟨Tryz.f5, _, c5.body, Tryz.func5, by kernel_rfl, rfl, by kernel_rfl, by kernel_rfl⟩
theorem ok10 : FnOK Tryz.prog 10 c10 := ⟨Tryz.f10, _, c10.body, Tryz.func10, by kernel_rfl, rfl, by kernel_rfl, by kernel_rfl⟩
theorem ok17 : FnOK Tryz.prog 17 c17 := ⟨Tryz.f17, _, c17.body, Tryz.func17, by kernel_rfl, rfl, by kernel_rfl, by kernel_rfl⟩
theorem ok21 : FnOK Tryz.prog 21 c21 := ⟨Tryz.f21, _, c21.body, Tryz.func21, by kernel_rfl, rfl, by kernel_rfl, by kernel_rfl⟩
theorem ok25 : FnOK Tryz.prog 25 c25 := ⟨Tryz.f25, _, c25.body, Tryz.func25, by kernel_rfl, rfl, by kernel_rfl, by kernel_rfl⟩
theorem ok29 : FnOK Tryz.prog 29 c29 := ⟨Tryz.f29, _, c29.body, Tryz.func29, by kernel_rfl, rfl, by kernel_rfl, by kernel_rfl⟩
theorem ok34 : FnOK Tryz.prog 34 c34 := ⟨Tryz.f34, _, c34.body, Tryz.func34, by kernel_rfl, rfl, by kernel_rfl, by kernel_rfl⟩
theorem ok38 : FnOK Tryz.prog 38 c38 := ⟨Tryz.f38, _, c38.body, Tryz.func38, by kernel_rfl, rfl, by kernel_rfl, by kernel_rfl⟩
theorem ok45 : FnOK Tryz.prog 45 c45 := ⟨Tryz.f45, _, c45.body, Tryz.func45, by kernel_rfl, rfl, by kernel_rfl, by kernel_rfl⟩
theorem ok52 : FnOK Tryz.prog 52 c52 := ⟨Tryz.f52, _, c52.body, Tryz.func52, by kernel_rfl, rfl, by kernel_rfl, by kernel_rfl⟩
theorem ok56 : FnOK Tryz.prog 56 c56 := ⟨Tryz.f56, _, c56.body, Tryz.func56, by kernel_rfl, rfl, by kernel_rfl, by kernel_rfl⟩
theorem ok60 : FnOK Tryz.prog 60 c60 := ⟨Tryz.f60, _, c60.body, Tryz.func60, by kernel_rfl, rfl, by kernel_rfl, by kernel_rfl⟩
theorem ok65 : FnOK Tryz.prog 65 c65 := ⟨Tryz.f65, _, c65.body, Tryz.func65, by kernel_rfl, rfl, by kernel_rfl, by kernel_rfl⟩
theorem ok69 : FnOK Tryz.prog 69 c69 := ⟨Tryz.f69, _, c69.body, Tryz.func69, by kernel_rfl, rfl, by kernel_rfl, by kernel_rfl⟩
theorem ok73 : FnOK Tryz.prog 73 c73 := ⟨Tryz.f73, _, c73.body, Tryz.func73, by kernel_rfl, rfl, by kernel_rfl, by kernel_rfl⟩
theorem ok82 : FnOK Tryz.prog 82 c82 := ⟨Tryz.f82, _, c82.body, Tryz.func82, by kernel_rfl, rfl, by kernel_rfl, by kernel_rfl⟩
theorem ok91 : FnOK Tryz.prog 91 c91 := ⟨Tryz.f91, _, c91.body, Tryz.func91, by kernel_rfl, rfl, by kernel_rfl, by kernel_rfl⟩
theorem ok95 : FnOK Tryz.prog 95 c95 := ⟨Tryz.f95, _, c95.body, Tryz.func95, by kernel_rfl, rfl, by kernel_rfl, by kernel_rfl⟩
theorem ok99 : FnOK Tryz.prog 99 c99 := ⟨Tryz.f99, _, c99.body, Tryz.func99, by kernel_rfl, rfl, by kernel_rfl, by kernel_rfl⟩
theorem ok106 : FnOK Tryz.prog 106 c106 := ⟨Tryz.f106, _, c106.body, Tryz.func106, by kernel_rfl, rfl, by kernel_rfl, by kernel_rfl⟩
theorem ok110 : FnOK Tryz.prog 110 c110 := ⟨Tryz.f110, _, c110.body, Tryz.func110, by kernel_rfl, rfl, by kernel_rfl, by kernel_rfl⟩
theorem ok114 : FnOK Tryz.prog 114 c114 := ⟨Tryz.f114, _, c114.body, Tryz.func114, by kernel_rfl, rfl, by kernel_rfl, by kernel_rfl⟩
theorem ok120 : FnOK Tryz.prog 120 c120 := ⟨Tryz.f120, _, c120.body, Tryz.func120, by kernel_rfl, rfl, by kernel_rfl, by kernel_rfl⟩
theorem ok133 : FnOK Tryz.prog 133 c133 := ⟨Tryz.f133, _, c133.body, Tryz.func133, by kernel_rfl, rfl, by kernel_rfl, by kernel_rfl⟩
theorem ok138 : FnOK Tryz.prog 138 c138 := ⟨Tryz.f138, _, c138.body, Tryz.func138, by kernel_rfl, rfl, by kernel_rfl, by kernel_rfl⟩
theorem ok142 : FnOK Tryz.prog 142 c142 := ⟨Tryz.f142, _, c142.body, Tryz.func142, by kernel_rfl, rfl, by kernel_rfl, by kernel_rfl⟩
theorem ok146 : FnOK Tryz.prog 146 c146 := ⟨Tryz.f146, _, c146.body, Tryz.func146, by kernel_rfl, rfl, by kernel_rfl, by kernel_rfl⟩
theorem ok152 : FnOK Tryz.prog 152 c152 := ⟨Tryz.f152, _, c152.body, Tryz.func152, by kernel_rfl, rfl, by kernel_rfl, by kernel_rfl⟩
theorem ok158 : FnOK Tryz.prog 158 c158 := ⟨Tryz.f158, _, c158.body, Tryz.func158, by kernel_rfl, rfl, by kernel_rfl, by kernel_rfl⟩
theorem ok162 : FnOK Tryz.prog 162 c162 := ⟨Tryz.f162, _, c162.body, Tryz.func162, by kernel_rfl, rfl, by kernel_rfl, by kernel_rfl⟩
theorem ok166 : FnOK Tryz.prog 166 c166 := ⟨Tryz.f166, _, c166.body, Tryz.func166, by kernel_rfl, rfl, by kernel_rfl, by kernel_rfl⟩
theorem ok172 : FnOK Tryz.prog 172 c172 := ⟨Tryz.f172, _, c172.body, Tryz.func172, by kernel_rfl, rfl, by kernel_rfl, by kernel_rfl⟩
theorem ok178 : FnOK Tryz.prog 178 c178 := ⟨Tryz.f178, _, c178.body, Tryz.func178, by kernel_rfl, rfl, by kernel_rfl, by kernel_rfl⟩
theorem ok182 : FnOK Tryz.prog 182 c182 := ⟨Tryz.f182, _, c182.body, Tryz.func182, by kernel_rfl, rfl, by kernel_rfl, by kernel_rfl⟩
theorem ok186 : FnOK Tryz.prog 186 c186 := ⟨Tryz.f186, _, c186.body, Tryz.func186, by kernel_rfl, rfl, by kernel_rfl, by kernel_rfl⟩
theorem ok190 : FnOK Tryz.prog 190 c190 := ⟨Tryz.f190, _, c190.body, Tryz.func190, by kernel_rfl, rfl, by kernel_rfl, by kernel_rfl⟩
theorem ok194 : FnOK Tryz.prog 194 c194 := ⟨Tryz.f194, _, c194.body, Tryz.func194, by kernel_rfl, rfl, by kernel_rfl, by kernel_rfl⟩
theorem ok198 : FnOK Tryz.prog 198 c198 := ⟨Tryz.f198, _, c198.body, Tryz.func198, by kernel_rfl, rfl, by kernel_rfl, by kernel_rfl⟩
theorem ok202 : FnOK Tryz.prog 202 c202 := ⟨Tryz.f202, _, c202.body, Tryz.func202, by kernel_rfl, rfl, by kernel_rfl, by kernel_rfl⟩
theorem ok206 : FnOK Tryz.prog 206 c206 := ⟨Tryz.f206, _, c206.body, Tryz.func206, by kernel_rfl, rfl, by kernel_rfl, by kernel_rfl⟩
theorem ok210 : FnOK Tryz.prog 210 c210 := ⟨Tryz.f210, _, c210.body, Tryz.func210, by kernel_rfl, rfl, by kernel_rfl, by kernel_rfl⟩
theorem ok214 : FnOK Tryz.prog 214 c214 := ⟨Tryz.f214, _, c214.body, Tryz.func214, by kernel_rfl, rfl, by kernel_rfl, by kernel_rfl⟩
theorem ok218 : FnOK Tryz.prog 218 c218 := ⟨Tryz.f218, _, c218.body, Tryz.func218, by kernel_rfl, rfl, by kernel_rfl, by kernel_rfl⟩
theorem ok222 : FnOK Tryz.prog 222 c222 := ⟨Tryz.f222, _, c222.body, Tryz.func222, by kernel_rfl, rfl, by kernel_rfl, by kernel_rfl⟩
end Go.Proofs.Ae
namespace Go.Proofs.Ae
open Go
set_option maxRecDepth 1000000
theorem ok6 : FnOK Tryz.prog 6 c6 := ⟨Tryz.f6, _, c6.body, Tryz.func6, by kernel_rfl, rfl, by kernel_rfl, by kernel_rfl⟩
theorem ok11 : FnOK Tryz.prog 11 c11 := ⟨Tryz.f11, _, c11.body, Tryz.func11, by kernel_rfl, rfl, by kernel_rfl, by kernel_rfl⟩
theorem ok18 : FnOK Tryz.prog 18 c18 := ⟨Tryz.f18, _, c18.body, Tryz.func18, by kernel_rfl, rfl, by kernel_rfl, by kernel_rfl⟩
theorem ok22 : FnOK Tryz.prog 22 c22 := ⟨Tryz.f22, _, c22.body, Tryz.func22, by kernel_rfl, rfl, by kernel_rfl, by kernel_rfl⟩
theorem ok26 : FnOK Tryz.prog 26 c26 := ⟨Tryz.f26, _, c26.body, Tryz.func26, by kernel_rfl, rfl, by kernel_rfl, by kernel_rfl⟩
theorem ok30 : FnOK Tryz.prog 30 c30 := ⟨Tryz.f30, _, c30.body, Tryz.func30, by kernel_rfl, rfl, by kernel_rfl, by kernel_rfl⟩
theorem ok35 : FnOK Tryz.prog 35 c35 := ⟨Tryz.f35, _, c35.body, Tryz.func35, by kernel_rfl, rfl, by kernel_rfl, by kernel_rfl⟩
theorem ok39 : FnOK Tryz.prog 39 c39 := ⟨Tryz.f39, _, c39.body, Tryz.func39, by kernel_rfl, rfl, by kernel_rfl, by kernel_rfl⟩
theorem ok46 : FnOK Tryz.prog 46 c46 := ⟨Tryz.f46, _, c46.body, Tryz.func46, by kernel_rfl, rfl, by kernel_rfl, by kernel_rfl⟩
theorem ok53 : FnOK Tryz.prog 53 c53 := ⟨Tryz.f53, _, c53.body, Tryz.func53, by kernel_rfl, rfl, by kernel_rfl, by kernel_rfl⟩
theorem ok57 : FnOK Tryz.prog 57 c57 := ⟨Tryz.f57, _, c57.body, Tryz.func57, by kernel_rfl, rfl, by kernel_rfl, by kernel_rfl⟩
theorem ok61 : FnOK Tryz.prog 61 c61 := ⟨Tryz.f61, _, c61.body, Tryz.func61, by kernel_rfl, rfl, by kernel_rfl, by kernel_rfl⟩
theorem ok66 : FnOK Tryz.prog 66 c66 := ⟨Tryz.f66, _, c66.body, Tryz.func66, by kernel_rfl, rfl, by kernel_rfl, by kernel_rfl⟩
theorem ok70 : FnOK Tryz.prog 70 c70 := ⟨Tryz.f70, _, c70.body, Tryz.func70, by kernel_rfl, rfl, by kernel_rfl, by kernel_rfl⟩
theorem ok74 : FnOK Tryz.prog 74 c74 := ⟨Tryz.f74, _, c74.body, Tryz.func74, by kernel_rfl, rfl, by kernel_rfl, by kernel_rfl⟩
theorem ok83 : FnOK Tryz.prog 83 c83 := ⟨Tryz.f83, _, c83.body, Tryz.func83, by kernel_rfl, rfl, by kernel_rfl, by kernel_rfl⟩
theorem ok92 : FnOK Tryz.prog 92 c92 := ⟨Tryz.f92, _, c92.body, Tryz.func92, by kernel_rfl, rfl, by kernel_rfl, by kernel_rfl⟩
theorem ok96 : FnOK Tryz.prog 96 c96 := ⟨Tryz.f96, _, c96.body, Tryz.func96, by kernel_rfl, rfl, by kernel_rfl, by kernel_rfl⟩
theorem ok100 : FnOK Tryz.prog 100 c100 := ⟨Tryz.f100, _, c100.body, Tryz.func100, by kernel_rfl, rfl, by kernel_rfl, by kernel_rfl⟩
theorem ok107 : FnOK Tryz.prog 107 c107 := ⟨Tryz.f107, _, c107.body, Tryz.func107, by kernel_rfl, rfl, by kernel_rfl, by kernel_rfl⟩
theorem ok111 : FnOK Tryz.prog 111 c111 := ⟨Tryz.f111, _, c111.body, Tryz.func111, by kernel_rfl, rfl, by kernel_rfl, by kernel_rfl⟩
theorem ok115 : FnOK Tryz.prog 115 c115 := ⟨Tryz.f115, _, c115.body, Tryz.func115, by kernel_rfl, rfl, by kernel_rfl, by kernel_rfl⟩
theorem ok121 : FnOK Tryz.prog 121 c121 := ⟨Tryz.f121, _, c121.body, Tryz.func121, by kernel_rfl, rfl, by kernel_rfl, by kernel_rfl⟩
theorem ok134 : FnOK Tryz.prog 134 c134 := ⟨Tryz.f134, _, c134.body, Tryz.func134, by kernel_rfl, rfl, by kernel_rfl, by kernel_rfl⟩
theorem ok139 : FnOK Tryz.prog 139 c139 := ⟨Tryz.f139, _, c139.body, Tryz.func139, by kernel_rfl, rfl, by kernel_rfl, by kernel_rfl⟩
theorem ok143 : FnOK Tryz.prog 143 c143 := ⟨Tryz.f143, _, c143.body, Tryz.func143, by kernel_rfl, rfl, by kernel_rfl, by kernel_rfl⟩
theorem ok147 : FnOK Tryz.prog 147 c147 := ⟨Tryz.f147, _, c147.body, Tryz.func147, by kernel_rfl, rfl, by kernel_rfl, by kernel_rfl⟩
theorem ok155 : FnOK Tryz.prog 155 c155 := ⟨Tryz.f155, _, c155.body, Tryz.func155, by kernel_rfl, rfl, by kernel_rfl, by kernel_rfl⟩
theorem ok159 : FnOK Tryz.prog 159 c159 := ⟨Tryz.f159, _, c159.body, Tryz.func159, by kernel_rfl, rfl, by kernel_rfl, by kernel_rfl⟩
theorem ok163 : FnOK Tryz.prog 163 c163 := ⟨Tryz.f163, _, c163.body, Tryz.func163, by kernel_rfl, rfl, by kernel_rfl, by kernel_rfl⟩
theorem ok167 : FnOK Tryz.prog 167 c167 := ⟨Tryz.f167, _, c167.body, Tryz.func167, by kernel_rfl, rfl, by kernel_rfl, by kernel_rfl⟩
theorem ok174 : FnOK Tryz.prog 174 c174 := ⟨Tryz.f174, _, c174.body, Tryz.func174, by kernel_rfl, rfl, by kernel_rfl, by kernel_rfl⟩
theorem ok179 : FnOK Tryz.prog 179 c179 := ⟨Tryz.f179, _, c179.body, Tryz.func179, by kernel_rfl, rfl, by kernel_rfl, by kernel_rfl⟩
theorem ok183 : FnOK Tryz.prog 183 c183 := ⟨Tryz.f183, _, c183.body, Tryz.func183, by kernel_rfl, rfl, by kernel_rfl, by kernel_rfl⟩
theorem ok187 : FnOK Tryz.prog 187 c187 := ⟨Tryz.f187, _, c187.body, Tryz.func187, by kernel_rfl, rfl, by kernel_rfl, by kernel_rfl⟩
theorem ok191 : FnOK Tryz.prog 191 c191 := ⟨Tryz.f191, _, c191.body, Tryz.func191, by kernel_rfl, rfl, by kernel_rfl, by kernel_rfl⟩
theorem ok195 : FnOK Tryz.prog 195 c195 := ⟨Tryz.f195, _, c195.body, Tryz.func195, by kernel_rfl, rfl, by kernel_rfl, by kernel_rfl⟩
theorem ok199 : FnOK Tryz.prog 199 c199 := ⟨Tryz.f199, _, c199.body, Tryz.func199, by kernel_rfl, rfl, by kernel_rfl, by kernel_rfl⟩
theorem ok203 : FnOK Tryz.prog 203 c203 := ⟨Tryz.f203, _, c203.body, Tryz.func203, by kernel_rfl, rfl, by kernel_rfl, by kernel_rfl⟩
theorem ok207 : FnOK Tryz.prog 207 c207 := ⟨Tryz.f207, _, c207.body, Tryz.func207, by kernel_rfl, rfl, by kernel_rfl, by kernel_rfl⟩
theorem ok211 : FnOK Tryz.prog 211 c211 := ⟨Tryz.f211, _, c211.body, Tryz.func211, by kernel_rfl, rfl, by kernel_rfl, by kernel_rfl⟩
theorem ok215 : FnOK Tryz.prog 215 c215 := ⟨Tryz.f215, _, c215.body, Tryz.func215, by kernel_rfl, rfl, by kernel_rfl, by kernel_rfl⟩
theorem ok219 : FnOK Tryz.prog 219 c219 := ⟨Tryz.f219, _, c219.body, Tryz.func219, by kernel_rfl, rfl, by kernel_rfl, by kernel_rfl⟩
end Go.Proofs.Ae
/- The seat's program: what ties code to its compiled form; slices.Clone; the functions' table. -/
namespace Go.Proofs.Ae
open Go Go.RowKit
set_option linter.unusedSimpArgs false
set_option linter.unusedVariables false

instance theK : KRel := ⟨fun nt c cc => ∃ k, compWith Tryz.prog nt true c k = some cc ∧ noRng cc = true⟩
theorem kis : KIs Tryz.prog := fun _ _ _ => Iff.rfl
theorem hmix : Tryz.prog.follows .mixedOrders = true := by kernel_rfl

/-! slices.Clone on a slice without elements. -/
theorem clone74_nil (w : World) : Calls Tryz.prog 74 #[.slice none 0 0] w fun e w' => e = .returned (.slice none 0 0) ∧ w = w' := by
  have k1 := fun (w : World) (a : Option Addr) (n c n' c' : Nat) => Lib.run_eql_slice_nil (P := Tryz.prog) w 22 9 a n c n' c' Tryz.underlying22
  go_enter Tryz.func74, Tryz.ntmps74
  go_wp2
  go_ret
  exact ⟨rfl, rfl⟩
theorem clone74_empty (w : World) (p : Addr) (c : Nat) : Calls Tryz.prog 74 #[.slice (some p) 0 c] w fun e w' => e = .returned (.slice (some ⟨w.heap.size, 0, none⟩) 0 0) ∧ w.alloc (.cells #[] 9) = w' := by
  have k1 := fun (w : World) (a : Option Addr) (n c n' c' : Nat) => Lib.run_eql_slice_nil (P := Tryz.prog) w 22 9 a n c n' c' Tryz.underlying22
  go_enter Tryz.func74, Tryz.ntmps74
  go_wp2
  go_ret
  exact ⟨rfl, rfl⟩
theorem clone74_ev (G : Nat → Option AV) (e : AV) (es : List AV) (sp : Sp) (h1 : szOk 1 (e :: es) = true) (h2 : (es.length + 1) * 4096 ≤ 140737488355328) :
    pureA G false noCl noYl 1 c74 [.slc sp (e :: es)] = some (.slc .shared (e :: es), some (.app (e :: es).length 9 1)) := by
  have h3 : (es.length + 1) * 16 ≤ 140737488355328 := by omega
  have h4 : es.length + 1 ≤ 140737488355328 := by omega
  cases sp <;> simp -implicitDefEqProofs [c74, kdOk, h1, h3, h4]
theorem orc74 {G : Nat → Option AV} {ags : List AV} {r : AV × Option Arr} (h : cloneA 9 1 ags = some r) : OrcAt Tryz.prog G 74 ags r :=
  clone_orc hmix kis ok74 clone74_nil (fun w p c => (clone74_empty w p c).mono fun e w' ⟨he, hw⟩ => ⟨⟨_, he⟩, hw ▸ (Below.refl _ _).alloc (Nat.le_refl _) _⟩) (fun e es sp h1 h2 => clone74_ev G e es sp h1 h2) h
end Go.Proofs.Ae
/- The contracts as one list over the seat's program. -/
namespace Go.Proofs.Ae
open Go Go.RowKit
set_option linter.unusedSimpArgs false
set_option linter.unusedVariables false

open Classical in
/-- A contract: at what arguments, and what it hands back. -/
noncomputable def spR {X : Type} (enc : X → List AV) (F : X → AV × Option Arr) (ok : X → Prop) (ags : List AV) : Ores := if h : ∃ x, ags = enc x ∧ ok x then some (F h.choose) else none
theorem spR_inv {X : Type} {enc : X → List AV} {F : X → AV × Option Arr} {ok : X → Prop} {ags : List AV} {r : AV × Option Arr} (h : spR enc F ok ags = some r) : ∃ x, ags = enc x ∧ ok x ∧ r = F x := by
  unfold spR at h
  split at h
  · rename_i hx
    cases h
    exact ⟨_, hx.choose_spec.1, hx.choose_spec.2, rfl⟩
  · cases h
theorem spR_at {X : Type} {enc : X → List AV} {F : X → AV × Option Arr} {ok : X → Prop} (inj : ∀ x y, enc x = enc y → x = y) {x : X} (h : ok x) : spR enc F ok (enc x) = some (F x) := by
  unfold spR
  have hx : ∃ y, enc x = enc y ∧ ok y := ⟨x, rfl, h⟩
  rw [dif_pos hx]
  rw [← inj _ _ hx.choose_spec.1]

theorem orcOf_self (f : Nat) (s : List AV → Ores) (l : List (Nat × (List AV → Ores))) (ags : List AV) : orcOf ((f, s) :: l) f ags = s ags := by
  simp [orcOf]
theorem orcOf_other {f g : Nat} (h : g ≠ f) (s : List AV → Ores) (l : List (Nat × (List AV → Ores))) (ags : List AV) : orcOf ((f, s) :: l) g ags = orcOf l g ags := by
  have : Nat.beq g f = false := by
    cases hb : Nat.beq g f with
    | false => rfl
    | true => exact absurd (Nat.eq_of_beq_eq_true hb) h
  simp [orcOf, this]

section
variable {G : Nat → Option AV} {l : List (Nat × (List AV → Ores))}

theorem orc_con {X : Type} {f : Nat} {cf : CFn} (enc : X → List AV) (F : X → AV × Option Arr) (ok : X → Prop) (hf : FnOK Tryz.prog f cf)
    (h : ∀ x, ok x → ∃ N, pureA G false (spC (orcOf l)) noYl N cf (enc x) = some (F x)) (hl : OrcOK Tryz.prog G (orcOf l)) : OrcOK Tryz.prog G (orcOf ((f, spR enc F ok) :: l)) :=
  orc_cons hl fun ags r hr => by
    obtain ⟨x, rfl, hx, rfl⟩ := spR_inv hr
    exact orc_step hmix kis hf hl (h x hx)

theorem orc_self {X : Type} {f : Nat} {cf : CFn} (enc : X → List AV) (F : X → AV × Option Arr) (ok : X → Prop) (μ : X → Nat) (inj : ∀ x y, enc x = enc y → x = y) (hf : FnOK Tryz.prog f cf)
    (h : ∀ x, ok x → ∀ orc : Nat → List AV → Ores, (∀ y, ok y → μ y < μ x → orc f (enc y) = some (F y)) → (∀ g, g ≠ f → ∀ ags, orc g ags = orcOf l g ags) → ∃ N, pureA G false (spC orc) noYl N cf (enc x) = some (F x))
    (hl : OrcOK Tryz.prog G (orcOf l)) : OrcOK Tryz.prog G (orcOf ((f, spR enc F ok) :: l)) := by
  refine orc_rec (fun b => spR enc F (fun x => ok x ∧ μ x < b)) (spR enc F ok) ?_ ?_ ?_ hl
  · intro ags r hr
    obtain ⟨x, rfl, hx, rfl⟩ := spR_inv hr
    exact ⟨μ x + 1, spR_at (ok := fun x => ok x ∧ μ x < _) inj ⟨hx, Nat.lt_succ_self _⟩⟩
  · intro ags
    cases hs : spR enc F (fun x => ok x ∧ μ x < 0) ags with
    | none => rfl
    | some r =>
      obtain ⟨x, _, hx, _⟩ := spR_inv hs
      omega
  · intro b ags r ho hs
    obtain ⟨x, rfl, hx, rfl⟩ := spR_inv hs
    refine orc_step hmix kis hf ho (h x hx.1 _ (fun y hy hlt => ?_) (fun g hg ags => orcOf_other hg _ _ _))
    rw [orcOf_self]
    exact spR_at (ok := fun x => ok x ∧ μ x < b) inj ⟨hy, by omega⟩
end

theorem av_inj {a b : Nd} (h : av a = av b) : a = b := by
  have := deN_av a
  rw [h, deN_av] at this
  exact (Option.some.inj this).symm
theorem av1_inj (a b : Nd) (h : [av a] = [av b]) : a = b := av_inj (by simpa using h)

@[simp] theorem takeV_av (n : Nd) (M : Mem) : takeV false (av n, none) M = some (av n, M) := by cases n; rfl

abbrev L0 : List (Nat × (List AV → Ores)) := [(74, cloneA 9 1)]
theorem o0 {G : Nat → Option AV} : OrcOK Tryz.prog G (orcOf L0) := orc_cons orc_nil fun ags r hr => orc74 hr

noncomputable abbrev L1 : List (Nat × (List AV → Ores)) := (51, spR (fun n : Nd => [av n]) (fun n => (av n, none)) (fun n => bk n ≤ big)) :: L0
theorem o1 {G : Nat → Option AV} : OrcOK Tryz.prog G (orcOf L1) := by
  refine orc_self _ _ _ sz av1_inj ok51 ?_ o0
  intro n hb orc hself hother
  refine ⟨n.l.length + 1, ev51 n hb (Nat.lt_succ_self _) (fun x hx M => ?_) (fun M => ?_)⟩
  · have := hself x (by have := bk_child hx; omega) (sz_child hx)
    simp [spC, this]
  · have h := hother 74 (by decide) [.slc .shared (n.ns.map .str)]
    have hlen := names_bk n
    unfold big at hb
    cases hns : n.ns with
    | nil => rw [hns] at h; simp [orcOf, cloneA] at h; simp [spC, h, cl74]
    | cons s ns =>
      rw [hns] at h hlen
      simp at hlen
      have b1 : (ns.length + 1) * 4096 ≤ 140737488355328 := by omega
      simp [orcOf, cloneA, b1] at h
      simp [spC, h, cl74]
end Go.Proofs.Ae
/- The contracts for NormalFormPrefix, one after the other. -/
namespace Go.Proofs.Ae
open Go Go.RowKit
set_option linter.unusedSimpArgs false
set_option linter.unusedVariables false

theorem l1_at {orc : Nat → List AV → Ores} {n : Nd} (h : ∀ ags, orc 51 ags = orcOf L1 51 ags) (hb : bk n ≤ big) (M : Mem) : spC orc 51 [av n] M = some (av n, M) := by
  have := h [av n]
  rw [orcOf_self] at this
  have k := spR_at (enc := fun n : Nd => [av n]) (F := fun n => (av n, none)) (ok := fun n => bk n ≤ big) av1_inj (x := n) hb
  rw [k] at this
  simp [spC, this]

/-- A contract of one formula that hands back something plain. -/
theorem self_node {G : Nat → Option AV} {l : List (Nat × (List AV → Ores))} {f : Nat} {cf : CFn} (F : Nd → AV) (hF : ∀ n M, takeV false (F n, none) M = some (F n, M)) (hf : FnOK Tryz.prog f cf)
    (h : ∀ n (cl : Caller), bk n ≤ big → (∀ x ∈ n.l, ∀ M, cl f [av x] M = some (F x, M)) → pureA G false cl noYl (n.l.length + 1) cf [av n] = some (F n, none))
    (hl : OrcOK Tryz.prog G (orcOf l)) : OrcOK Tryz.prog G (orcOf ((f, spR (fun n : Nd => [av n]) (fun n => (F n, none)) (fun n => bk n ≤ big)) :: l)) := by
  refine orc_self _ _ _ sz av1_inj hf ?_ hl
  intro n hb orc hself hother
  refine ⟨n.l.length + 1, h n _ hb fun x hx M => ?_⟩
  have := hself x (by have := bk_child hx; omega) (sz_child hx)
  simp only [spC, argL, argV_av, argV_int, argV_shared, this, hF]

noncomputable abbrev ndS (F : Nd → AV) : List AV → Ores := spR (fun n : Nd => [av n]) (fun n => (F n, none)) (fun n => bk n ≤ big)
theorem ndS_at {F : Nd → AV} {n : Nd} (hb : bk n ≤ big) : ndS F [av n] = some (F n, none) := spR_at (enc := fun n : Nd => [av n]) (F := fun n => (F n, none)) (ok := fun n => bk n ≤ big) av1_inj (x := n) hb

noncomputable abbrev L2 : List (Nat × (List AV → Ores)) := (39, ndS fun n => .bool (nmd n)) :: (38, ndS fun n => .int .i64 (dp n)) :: (37, ndS fun n => .int .i64 (sz n)) :: (20, ndS av) :: (12, ndS av) :: L1
theorem o2 {G : Nat → Option AV} : OrcOK Tryz.prog G (orcOf L2) :=
  self_node _ (fun n M => rfl) ok39 (fun n cl hb hc => ev39 n hb (Nat.lt_succ_self _) hc)
    (self_node _ (fun n M => rfl) ok38 (fun n cl hb hc => ev38 n hb (Nat.lt_succ_self _) hc)
      (self_node _ (fun n M => rfl) ok37 (fun n cl hb hc => ev37 n hb (Nat.lt_succ_self _) hc)
        (self_node _ takeV_av ok20 (fun n cl hb hc => ev20 n hb (Nat.lt_succ_self _) hc)
          (self_node _ takeV_av ok12 (fun n cl hb hc => ev12 n hb (Nat.lt_succ_self _) hc) o1))))

/-- Contracts of L2 at a formula. -/
theorem l2_37 {n : Nd} (hb : bk n ≤ big) (M : Mem) : spC (orcOf L2) 37 [av n] M = some (.int .i64 (sz n), M) := by
  have : orcOf L2 37 [av n] = some (.int .i64 (sz n), none) := by
    rw [orcOf_other (by decide), orcOf_other (by decide), orcOf_self]; exact ndS_at hb
  simp [spC, this]
theorem l2_38 {n : Nd} (hb : bk n ≤ big) (M : Mem) : spC (orcOf L2) 38 [av n] M = some (.int .i64 (dp n), M) := by
  have : orcOf L2 38 [av n] = some (.int .i64 (dp n), none) := by
    rw [orcOf_other (by decide), orcOf_self]; exact ndS_at hb
  simp [spC, this]
theorem l2_39 {n : Nd} (hb : bk n ≤ big) (M : Mem) : spC (orcOf L2) 39 [av n] M = some (.bool (nmd n), M) := by
  have : orcOf L2 39 [av n] = some (.bool (nmd n), none) := by
    rw [orcOf_self]; exact ndS_at hb
  simp [spC, this]

noncomputable abbrev sp50 : List AV → Ores := spR (fun n : Nd => [av n]) (fun n => (.bool (isQ n), none)) (fun _ => True)
noncomputable abbrev L3 : List (Nat × (List AV → Ores)) := (50, sp50) :: (10, ndS fun n => .bool (small n)) :: L2
theorem o3 {G : Nat → Option AV} : OrcOK Tryz.prog G (orcOf L3) := by
  refine orc_con _ _ _ ok50 (fun n hb => ⟨1, ev50 n⟩) ?_
  exact orc_con _ _ _ ok10 (fun n hb => ⟨1, ev10 n (l2_37 hb) (l2_38 hb) (l2_39 hb)⟩) o2
theorem l3_50 (n : Nd) (M : Mem) : spC (orcOf L3) 50 [av n] M = some (.bool (isQ n), M) := by
  have : orcOf L3 50 [av n] = some (.bool (isQ n), none) := by
    rw [orcOf_self]; exact spR_at (enc := fun n : Nd => [av n]) (F := fun n => (.bool (isQ n), none)) (ok := fun _ => True) av1_inj (x := n) trivial
  simp [spC, this]
theorem l3_51 {n : Nd} (hb : bk n ≤ big) : orcOf L3 51 [av n] = some (av n, none) := by
  rw [orcOf_other (by decide), orcOf_other (by decide), orcOf_other (by decide), orcOf_other (by decide), orcOf_other (by decide), orcOf_other (by decide), orcOf_other (by decide), orcOf_self]
  exact spR_at (enc := fun n : Nd => [av n]) (F := fun n => (av n, none)) (ok := fun n => bk n ≤ big) av1_inj (x := n) hb

/-! Same. -/
theorem av2_inj (a b : Nd × Nd) (h : [av a.1, av a.2] = [av b.1, av b.2]) : a = b := by
  simp only [List.cons.injEq, and_true] at h
  exact Prod.ext (av_inj h.1) (av_inj h.2)
noncomputable abbrev sp19 : List AV → Ores := spR (fun p : Nd × Nd => [av p.1, av p.2]) (fun p => (.bool (sameN p.1 p.2), none)) (fun p => bk p.1 ≤ big ∧ bk p.2 ≤ big)
noncomputable abbrev L4 : List (Nat × (List AV → Ores)) := (19, sp19) :: L3
theorem o4 {G : Nat → Option AV} : OrcOK Tryz.prog G (orcOf L4) := by
  refine orc_self _ _ _ (fun p => sz p.1) av2_inj ok19 ?_ o3
  intro p hb orc hself hother
  refine ⟨bk p.1 + 1, ev19 p.1 p.2 hb.1 hb.2 (Nat.lt_succ_self _) fun x hx y hy M => ?_⟩
  have := hself (x, y) ⟨by have := bk_child hx; show bk x ≤ big; omega, by have := bk_child hy; show bk y ≤ big; omega⟩ (sz_child hx)
  simp only at this
  simp [spC, this]

/-! quantified, SplitPrefix, Prefix, With. -/
theorem qf_ext {a b : Qf} (h1 : a.op = b.op) (h2 : a.nm = b.nm) (h3 : a.so = b.so) : a = b := by
  cases a; cases b; simp at h1 h2 h3; simp [h1, h2, h3]
theorem qv_inj {a b : Qf} (h : qv a = qv b) : a = b := by
  simp only [qv, AV.agg.injEq, List.cons.injEq, AV.int.injEq, AV.str.injEq, true_and, and_true] at h
  exact qf_ext h.1 h.2.1 h.2.2
theorem qvs_inj : ∀ {a b : List Qf}, a.map qv = b.map qv → a = b
  | [], [], _ => rfl
  | [], _ :: _, h => by simp at h
  | _ :: _, [], h => by simp at h
  | x :: a, y :: b, h => by simp at h; rw [qv_inj h.1, qvs_inj h.2]
noncomputable abbrev sp53 : List AV → Ores := spR (fun p : Qf × Nd => [.int .i64 p.1.op, .str p.1.nm, .int .i64 p.1.so, av p.2]) (fun p => (av (.mk p.1.op [p.1.nm] p.1.so 0 0 [p.2]), none)) (fun _ => True)
noncomputable abbrev sp17 : List AV → Ores := spR (fun n : Nd => [av n]) (fun n => (.tup [.slc .shared ((spl (sz n) n).1.map qv), av (spl (sz n) n).2], none)) (fun n => bk n < big)
noncomputable abbrev sp22 : List AV → Ores := spR (fun p : List Qf × Nd => [.slc .shared (p.1.map qv), av p.2]) (fun p => (av (wth p.1 p.2), none)) (fun p => p.1.length < big)
theorem spl_bk : ∀ (k : Nat) (n : Nd), bk (spl k n).2 ≤ bk n
  | 0, n => Nat.le_refl _
  | k + 1, n => by
    simp only [spl]
    split
    · rename_i hq
      have := spl_bk k (child n)
      have := bk_child (isQ_child hq).1
      simp only
      omega
    · exact Nat.le_refl _
noncomputable abbrev L5 : List (Nat × (List AV → Ores)) := (22, sp22) :: (18, sp17) :: (53, sp53) :: L4
theorem o5 {G : Nat → Option AV} : OrcOK Tryz.prog G (orcOf L5) := by
  refine orc_con _ _ _ ok22 (fun p hb => ⟨p.1.length + 1, ev22 p.1 p.2 hb (Nat.lt_succ_self _)⟩) ?_
  refine orc_con _ _ _ ok18 (fun n hb => ⟨sz n + 1, ev18 n (Nat.lt_succ_self _) (by have := sz_bk n; omega)⟩) ?_
  exact orc_con _ _ _ ok53 (fun p _ => ⟨1, ev53 p.1.op p.1.nm p.1.so p.2⟩) o4
theorem o5a {G : Nat → Option AV} : OrcOK Tryz.prog G (orcOf ((17, sp17) :: L3)) := by
  refine orc_con _ _ _ ok17 (fun n hb => ⟨sz n + 1, ev17 n (by omega) (Nat.lt_succ_self _) (by have := sz_bk n; omega) l3_50 (fun M => ?_)⟩) o3
  have := l3_51 (n := (spl (sz n) n).2) (by have := spl_bk (sz n) n; omega)
  simp [spC, this]
end Go.Proofs.Ae
/- Every compiled function is the function. -/
namespace Go.Proofs.Ae
open Go
def OkT (f : Nat) (r : Option CFn) : Prop := ∀ cf, r = some cf → FnOK Tryz.prog f cf
theorem okT_br {f : Nat} {b : Bool} {x y : Option CFn} (hx : OkT f x) (hy : OkT f y) : OkT f (match b with | true => x | false => y) := by cases b <;> assumption
theorem okT_leaf {f k : Nat} {c : CFn} (h : FnOK Tryz.prog k c) : OkT f (match Nat.beq f k with | true => some c | false => none) := by
  intro cf hc
  cases hb : Nat.beq f k with
  | true =>
    rw [hb] at hc
    cases hc
    have := Nat.eq_of_beq_eq_true hb
    subst this
    exact h
  | false => rw [hb] at hc; cases hc
theorem tabOK : TabOK Tryz.prog fns := fun f => show OkT f (fns f) from by
  unfold fns
  exact (okT_br (okT_br (okT_br (okT_br (okT_br (okT_br (okT_br (okT_leaf ok3) (okT_leaf ok4)) (okT_br (okT_leaf ok5) (okT_br (okT_leaf ok6) (okT_leaf ok7)))) (okT_br (okT_br (okT_leaf ok9) (okT_leaf ok10)) (okT_br (okT_leaf ok11) (okT_br (okT_leaf ok12) (okT_leaf ok14))))) (okT_br (okT_br (okT_br (okT_leaf ok17) (okT_leaf ok18)) (okT_br (okT_leaf ok19) (okT_br (okT_leaf ok20) (okT_leaf ok21)))) (okT_br (okT_br (okT_leaf ok22) (okT_br (okT_leaf ok23) (okT_leaf ok24))) (okT_br (okT_leaf ok25) (okT_br (okT_leaf ok26) (okT_leaf ok27)))))) (okT_br (okT_br (okT_br (okT_br (okT_leaf ok28) (okT_leaf ok29)) (okT_br (okT_leaf ok30) (okT_br (okT_leaf ok32) (okT_leaf ok33)))) (okT_br (okT_br (okT_leaf ok34) (okT_br (okT_leaf ok35) (okT_leaf ok36))) (okT_br (okT_leaf ok37) (okT_br (okT_leaf ok38) (okT_leaf ok39))))) (okT_br (okT_br (okT_br (okT_leaf ok40) (okT_leaf ok41)) (okT_br (okT_leaf ok45) (okT_br (okT_leaf ok46) (okT_leaf ok50)))) (okT_br (okT_br (okT_leaf ok51) (okT_br (okT_leaf ok52) (okT_leaf ok53))) (okT_br (okT_leaf ok54) (okT_br (okT_leaf ok55) (okT_leaf ok56))))))) (okT_br (okT_br (okT_br (okT_br (okT_br (okT_leaf ok57) (okT_leaf ok58)) (okT_br (okT_leaf ok59) (okT_br (okT_leaf ok60) (okT_leaf ok61)))) (okT_br (okT_br (okT_leaf ok62) (okT_br (okT_leaf ok63) (okT_leaf ok65))) (okT_br (okT_leaf ok66) (okT_br (okT_leaf ok67) (okT_leaf ok68))))) (okT_br (okT_br (okT_br (okT_leaf ok69) (okT_leaf ok70)) (okT_br (okT_leaf ok71) (okT_br (okT_leaf ok72) (okT_leaf ok73)))) (okT_br (okT_br (okT_leaf ok74) (okT_br (okT_leaf ok75) (okT_leaf ok81))) (okT_br (okT_leaf ok82) (okT_br (okT_leaf ok83) (okT_leaf ok89)))))) (okT_br (okT_br (okT_br (okT_br (okT_leaf ok90) (okT_leaf ok91)) (okT_br (okT_leaf ok92) (okT_br (okT_leaf ok93) (okT_leaf ok94)))) (okT_br (okT_br (okT_leaf ok95) (okT_br (okT_leaf ok96) (okT_leaf ok97))) (okT_br (okT_leaf ok98) (okT_br (okT_leaf ok99) (okT_leaf ok100))))) (okT_br (okT_br (okT_br (okT_leaf ok101) (okT_leaf ok102)) (okT_br (okT_leaf ok106) (okT_br (okT_leaf ok107) (okT_leaf ok108)))) (okT_br (okT_br (okT_leaf ok109) (okT_br (okT_leaf ok110) (okT_leaf ok111))) (okT_br (okT_leaf ok112) (okT_br (okT_leaf ok113) (okT_leaf ok114)))))))) (okT_br (okT_br (okT_br (okT_br (okT_br (okT_br (okT_leaf ok115) (okT_leaf ok118)) (okT_br (okT_leaf ok119) (okT_br (okT_leaf ok120) (okT_leaf ok121)))) (okT_br (okT_br (okT_leaf ok131) (okT_br (okT_leaf ok132) (okT_leaf ok133))) (okT_br (okT_leaf ok134) (okT_br (okT_leaf ok135) (okT_leaf ok136))))) (okT_br (okT_br (okT_br (okT_leaf ok138) (okT_leaf ok139)) (okT_br (okT_leaf ok140) (okT_br (okT_leaf ok141) (okT_leaf ok142)))) (okT_br (okT_br (okT_leaf ok143) (okT_br (okT_leaf ok144) (okT_leaf ok145))) (okT_br (okT_leaf ok146) (okT_br (okT_leaf ok147) (okT_leaf ok148)))))) (okT_br (okT_br (okT_br (okT_br (okT_leaf ok151) (okT_leaf ok152)) (okT_br (okT_leaf ok155) (okT_br (okT_leaf ok156) (okT_leaf ok157)))) (okT_br (okT_br (okT_leaf ok158) (okT_br (okT_leaf ok159) (okT_leaf ok160))) (okT_br (okT_leaf ok161) (okT_br (okT_leaf ok162) (okT_leaf ok163))))) (okT_br (okT_br (okT_br (okT_leaf ok164) (okT_leaf ok165)) (okT_br (okT_leaf ok166) (okT_br (okT_leaf ok167) (okT_leaf ok169)))) (okT_br (okT_br (okT_leaf ok171) (okT_br (okT_leaf ok172) (okT_leaf ok174))) (okT_br (okT_leaf ok175) (okT_br (okT_leaf ok176) (okT_leaf ok178))))))) (okT_br (okT_br (okT_br (okT_br (okT_br (okT_leaf ok179) (okT_leaf ok180)) (okT_br (okT_leaf ok181) (okT_br (okT_leaf ok182) (okT_leaf ok183)))) (okT_br (okT_br (okT_leaf ok184) (okT_br (okT_leaf ok185) (okT_leaf ok186))) (okT_br (okT_leaf ok187) (okT_br (okT_leaf ok188) (okT_leaf ok189))))) (okT_br (okT_br (okT_br (okT_leaf ok190) (okT_leaf ok191)) (okT_br (okT_leaf ok192) (okT_br (okT_leaf ok193) (okT_leaf ok194)))) (okT_br (okT_br (okT_leaf ok195) (okT_br (okT_leaf ok196) (okT_leaf ok197))) (okT_br (okT_leaf ok198) (okT_br (okT_leaf ok199) (okT_leaf ok200)))))) (okT_br (okT_br (okT_br (okT_br (okT_leaf ok201) (okT_leaf ok202)) (okT_br (okT_leaf ok203) (okT_br (okT_leaf ok204) (okT_leaf ok205)))) (okT_br (okT_br (okT_leaf ok206) (okT_br (okT_leaf ok207) (okT_leaf ok208))) (okT_br (okT_leaf ok209) (okT_br (okT_leaf ok210) (okT_leaf ok211))))) (okT_br (okT_br (okT_br (okT_leaf ok212) (okT_leaf ok213)) (okT_br (okT_leaf ok214) (okT_br (okT_leaf ok215) (okT_leaf ok216)))) (okT_br (okT_br (okT_leaf ok217) (okT_br (okT_leaf ok218) (okT_leaf ok219))) (okT_br (okT_leaf ok220) (okT_br (okT_leaf ok221) (okT_leaf ok222)))))))))
end Go.Proofs.Ae
/- The contracts of Quantify, Flatten, Flat. -/
namespace Go.Proofs.Ae
open Go Go.RowKit
set_option linter.unusedSimpArgs false
set_option linter.unusedVariables false

theorem fns52 : fns 52 = some c52 := by kernel_rfl
theorem fns89 : fns 89 = some c89 := by kernel_rfl
noncomputable abbrev sp21 : List AV → Ores := spR (fun p : List Qf × Nd => [.slc .shared (p.1.map qv), av p.2]) (fun p => (av (wth p.1 p.2), none)) (fun p => p.1.length < big ∧ bk p.2 ≤ big)
noncomputable abbrev sp23 (f ty : Nat) : List AV → Ores := spR (fun p : Int × Nd => [.int .i64 p.1, av p.2]) (fun p => flR ty p.1 p.2) (fun p => bk p.2 ≤ big)
theorem iv_inj (a b : Int × Nd) (h : [AV.int .i64 a.1, av a.2] = [AV.int .i64 b.1, av b.2]) : a = b := by
  simp only [List.cons.injEq, and_true, AV.int.injEq, true_and] at h
  exact Prod.ext h.1 (av_inj h.2)
theorem q53_inj (a b : Qf × Nd) (h : [AV.int .i64 a.1.op, .str a.1.nm, .int .i64 a.1.so, av a.2] = [AV.int .i64 b.1.op, .str b.1.nm, .int .i64 b.1.so, av b.2]) : a = b := by
  simp only [List.cons.injEq, and_true, AV.int.injEq, AV.str.injEq, true_and] at h
  exact Prod.ext (qf_ext h.1 h.2.1 h.2.2.1) (av_inj h.2.2.2)

noncomputable abbrev L6 : List (Nat × (List AV → Ores)) := (17, sp17) :: L3
noncomputable abbrev L7 : List (Nat × (List AV → Ores)) := (53, sp53) :: L6
theorem o7 {G : Nat → Option AV} : OrcOK Tryz.prog G (orcOf L7) := orc_con _ _ _ ok53 (fun p _ => ⟨1, ev53 p.1.op p.1.nm p.1.so p.2⟩) o5a
noncomputable abbrev L8 : List (Nat × (List AV → Ores)) := (24, sp23 24 25) :: (23, sp23 23 30) :: (21, sp21) :: L7
theorem o8a {G : Nat → Option AV} : OrcOK Tryz.prog G (orcOf ((21, sp21) :: L7)) := by
  refine orc_cons o7 fun ags r hr => ?_
  obtain ⟨p, rfl, hp, rfl⟩ := spR_inv hr
  refine orc_both (T := ⟨fns, orcOf L7, fun _ => false⟩) hmix kis tabOK ok21 o7 ⟨p.1.length + 1, 3, false, ev21 p.1 p.2 hp.1 (Nat.lt_succ_self _) fns52 fns89 (fun ags => ?_) (fun ags => ?_) (fun _ => rfl) ?_ (fun q m => ?_)⟩
  · simp [orcOf]
  · simp [orcOf]
  · show orcOf L7 51 _ = _
    rw [orcOf_other (by decide), orcOf_other (by decide)]
    exact l3_51 hp.2
  · show orcOf L7 53 _ = _
    rw [orcOf_self]
    exact spR_at (enc := fun p : Qf × Nd => [AV.int .i64 p.1.op, .str p.1.nm, .int .i64 p.1.so, av p.2]) (F := fun p => (av (.mk p.1.op [p.1.nm] p.1.so 0 0 [p.2]), none)) (ok := fun _ => True) q53_inj (x := (q, m)) trivial
theorem o8b {G : Nat → Option AV} : OrcOK Tryz.prog G (orcOf ((23, sp23 23 30) :: (21, sp21) :: L7)) := by
  refine orc_self _ _ _ (fun p => sz p.2) iv_inj ok23 ?_ o8a
  intro p hb orc hself hother
  refine ⟨1, ev23 p.1 p.2 (Nat.le_trans (sz_bk _) hb) (fun M => ?_) (fun x hx M => ?_)⟩
  · have h := hother 51 (by decide) [av p.2]
    rw [orcOf_other (by decide), orcOf_other (by decide), orcOf_other (by decide), l3_51 hb] at h
    simp [spC, h]
  · have h := hself (p.1, x) (by have := bk_child hx; show bk x ≤ big; omega) (sz_child hx)
    simp only at h
    simp only [spC, argL, argV_av, argV_int, argV_shared, h]
theorem o8 {G : Nat → Option AV} : OrcOK Tryz.prog G (orcOf L8) := by
  refine orc_self _ _ _ (fun p => sz p.2) iv_inj ok24 ?_ o8b
  intro p hb orc hself hother
  refine ⟨1, ev24 p.1 p.2 (Nat.le_trans (sz_bk _) hb) (fun x hx M => ?_)⟩
  have h := hself (p.1, x) (by have := bk_child hx; show bk x ≤ big; omega) (sz_child hx)
  simp only at h
  simp only [spC, argL, argV_av, argV_int, argV_shared, h]
end Go.Proofs.Ae
