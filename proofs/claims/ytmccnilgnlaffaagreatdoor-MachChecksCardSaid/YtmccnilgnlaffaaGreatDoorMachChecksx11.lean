/- What the law leans on, part 11 of 22. Conditions: those that each theorem states. -/
import Derived.Test.YtmccnilgnlaffaaGreatDoorMachChecksx9
import Derived.Test.YtmccnilgnlaffaaGreatDoorMachChecksx10
import Derived.Test.YtmccnilgnlaffaaGreatDoorProg
import Derived.KernelRfl

set_option linter.unusedVariables false
set_option linter.unusedSimpArgs false
namespace Go.Proofs.YtmccnilgnlaffaaGreatDoor
open Go.Ex
set_option maxRecDepth 100000
set_option maxHeartbeats 80000000
section
noncomputable abbrev P:=Tryz.prog
theorem prog_ok:yG 8 P=true:=by decide +kernel
theorem mixed:P.follows .mixedOrders=true:=by decide +kernel
instance:Fit P 8:=⟨prog_ok,mixed⟩
end
section
set_option maxRecDepth 1000000
instance i1:BoC P 2 Tryz.f2:=⟨λc h=>by cases h;kernel_rfl⟩
instance i2:BoC P 3 Tryz.f3:=⟨λc h=>by cases h;kernel_rfl⟩
instance i3:BoC P 4 Tryz.f4:=⟨λc h=>by cases h;kernel_rfl⟩
instance i4:BoC P 5 Tryz.f5:=⟨λc h=>by cases h;kernel_rfl⟩
instance i5:BoC P 6 Tryz.f6:=⟨λc h=>by cases h;kernel_rfl⟩
instance i6:BoC P 7 Tryz.f7:=⟨λc h=>by cases h;kernel_rfl⟩
instance i7:BoC P 8 Tryz.f8:=⟨λc h=>by cases h;kernel_rfl⟩
instance i8:BoC P 9 Tryz.f9:=⟨λc h=>by cases h;kernel_rfl⟩
instance i9:BoC P 10 Tryz.f10:=⟨λc h=>by cases h;kernel_rfl⟩
instance i10:BoC P 11 Tryz.f11:=⟨λc h=>by cases h;kernel_rfl⟩
instance i12:BoC P 13 Tryz.f13:=⟨λc h=>by cases h;kernel_rfl⟩
instance i15:BoC P 16 Tryz.f16:=⟨λc h=>by cases h;kernel_rfl⟩
instance i16:BoC P 17 Tryz.f17:=⟨λc h=>by cases h;kernel_rfl⟩
instance i17:BoC P 18 Tryz.f18:=⟨λc h=>by cases h;kernel_rfl⟩
instance i18:BoC P 19 Tryz.f19:=⟨λc h=>by cases h;kernel_rfl⟩
instance i19:BoC P 20 Tryz.f20:=⟨λc h=>by cases h;kernel_rfl⟩
instance i20:BoC P 21 Tryz.f21:=⟨λc h=>by cases h;kernel_rfl⟩
instance i21:BoC P 22 Tryz.f22:=⟨λc h=>by cases h;kernel_rfl⟩
instance i22:BoC P 23 Tryz.f23:=⟨λc h=>by cases h;kernel_rfl⟩
instance i23:BoC P 24 Tryz.f24:=⟨λc h=>by cases h;kernel_rfl⟩
instance i24:BoC P 25 Tryz.f25:=⟨λc h=>by cases h;kernel_rfl⟩
instance i25:BoC P 26 Tryz.f26:=⟨λc h=>by cases h;kernel_rfl⟩
instance i26:BoC P 27 Tryz.f27:=⟨λc h=>by cases h;kernel_rfl⟩
instance i27:BoC P 28 Tryz.f28:=⟨λc h=>by cases h;kernel_rfl⟩
instance i28:BoC P 29 Tryz.f29:=⟨λc h=>by cases h;kernel_rfl⟩
instance i29:BoC P 30 Tryz.f30:=⟨λc h=>by cases h;kernel_rfl⟩
instance i30:BoC P 31 Tryz.f31:=⟨λc h=>by cases h;kernel_rfl⟩
instance i31:BoC P 32 Tryz.f32:=⟨λc h=>by cases h;kernel_rfl⟩
instance i32:BoC P 33 Tryz.f33:=⟨λc h=>by cases h;kernel_rfl⟩
instance i33:BoC P 34 Tryz.f34:=⟨λc h=>by cases h;kernel_rfl⟩
instance i34:BoC P 35 Tryz.f35:=⟨λc h=>by cases h;kernel_rfl⟩
instance i37:BoC P 38 Tryz.f38:=⟨λc h=>by cases h;kernel_rfl⟩
instance i46:BoC P 47 Tryz.f47:=⟨λc h=>by cases h;kernel_rfl⟩
instance i47:BoC P 48 Tryz.f48:=⟨λc h=>by cases h;kernel_rfl⟩
instance i48:BoC P 49 Tryz.f49:=⟨λc h=>by cases h;kernel_rfl⟩
instance i49:BoC P 50 Tryz.f50:=⟨λc h=>by cases h;kernel_rfl⟩
instance i50:BoC P 51 Tryz.f51:=⟨λc h=>by cases h;kernel_rfl⟩
instance i51:BoC P 52 Tryz.f52:=⟨λc h=>by cases h;kernel_rfl⟩
instance i52:BoC P 53 Tryz.f53:=⟨λc h=>by cases h;kernel_rfl⟩
instance i53:BoC P 54 Tryz.f54:=⟨λc h=>by cases h;kernel_rfl⟩
instance i54:BoC P 55 Tryz.f55:=⟨λc h=>by cases h;kernel_rfl⟩
instance i55:BoC P 56 Tryz.f56:=⟨λc h=>by cases h;kernel_rfl⟩
instance i56:BoC P 57 Tryz.f57:=⟨λc h=>by cases h;kernel_rfl⟩
instance i57:BoC P 58 Tryz.f58:=⟨λc h=>by cases h;kernel_rfl⟩
instance i58:BoC P 59 Tryz.f59:=⟨λc h=>by cases h;kernel_rfl⟩
instance i59:BoC P 60 Tryz.f60:=⟨λc h=>by cases h;kernel_rfl⟩
instance i60:BoC P 61 Tryz.f61:=⟨λc h=>by cases h;kernel_rfl⟩
instance i61:BoC P 62 Tryz.f62:=⟨λc h=>by cases h;kernel_rfl⟩
instance i62:BoC P 63 Tryz.f63:=⟨λc h=>by cases h;kernel_rfl⟩
instance i63:BoC P 64 Tryz.f64:=⟨λc h=>by cases h;kernel_rfl⟩
instance i64:BoC P 65 Tryz.f65:=⟨λc h=>by cases h;kernel_rfl⟩
instance i65:BoC P 66 Tryz.f66:=⟨λc h=>by cases h;kernel_rfl⟩
instance i66:BoC P 67 Tryz.f67:=⟨λc h=>by cases h;kernel_rfl⟩
instance i67:BoC P 68 Tryz.f68:=⟨λc h=>by cases h;kernel_rfl⟩
instance i68:BoC P 69 Tryz.f69:=⟨λc h=>by cases h;kernel_rfl⟩
instance i69:BoC P 70 Tryz.f70:=⟨λc h=>by cases h;kernel_rfl⟩
instance i70:BoC P 71 Tryz.f71:=⟨λc h=>by cases h;kernel_rfl⟩
instance i71:BoC P 72 Tryz.f72:=⟨λc h=>by cases h;kernel_rfl⟩
instance i72:BoC P 73 Tryz.f73:=⟨λc h=>by cases h;kernel_rfl⟩
instance i73:BoC P 74 Tryz.f74:=⟨λc h=>by cases h;kernel_rfl⟩
instance i74:BoC P 75 Tryz.f75:=⟨λc h=>by cases h;kernel_rfl⟩
instance i75:BoC P 76 Tryz.f76:=⟨λc h=>by cases h;kernel_rfl⟩
instance i76:BoC P 77 Tryz.f77:=⟨λc h=>by cases h;kernel_rfl⟩
instance i77:BoC P 78 Tryz.f78:=⟨λc h=>by cases h;kernel_rfl⟩
instance i78:BoC P 79 Tryz.f79:=⟨λc h=>by cases h;kernel_rfl⟩
instance i79:BoC P 80 Tryz.f80:=⟨λc h=>by cases h;kernel_rfl⟩
instance i80:BoC P 81 Tryz.f81:=⟨λc h=>by cases h;kernel_rfl⟩
instance i81:BoC P 82 Tryz.f82:=⟨λc h=>by cases h;kernel_rfl⟩
instance i82:BoC P 83 Tryz.f83:=⟨λc h=>by cases h;kernel_rfl⟩
instance i83:BoC P 84 Tryz.f84:=⟨λc h=>by cases h;kernel_rfl⟩
instance i84:BoC P 85 Tryz.f85:=⟨λc h=>by cases h;kernel_rfl⟩
instance i85:BoC P 86 Tryz.f86:=⟨λc h=>by cases h;kernel_rfl⟩
instance i86:BoC P 87 Tryz.f87:=⟨λc h=>by cases h;kernel_rfl⟩
instance i87:BoC P 88 Tryz.f88:=⟨λc h=>by cases h;kernel_rfl⟩
instance i88:BoC P 89 Tryz.f89:=⟨λc h=>by cases h;kernel_rfl⟩
instance i89:BoC P 90 Tryz.f90:=⟨λc h=>by cases h;kernel_rfl⟩
instance i90:BoC P 91 Tryz.f91:=⟨λc h=>by cases h;kernel_rfl⟩
instance i105:BoC P 106 Tryz.f106:=⟨λc h=>by cases h;kernel_rfl⟩
instance i106:BoC P 107 Tryz.f107:=⟨λc h=>by cases h;kernel_rfl⟩
instance i107:BoC P 108 Tryz.f108:=⟨λc h=>by cases h;kernel_rfl⟩
instance i108:BoC P 109 Tryz.f109:=⟨λc h=>by cases h;kernel_rfl⟩
instance i109:BoC P 110 Tryz.f110:=⟨λc h=>by cases h;kernel_rfl⟩
instance i110:BoC P 111 Tryz.f111:=⟨λc h=>by cases h;kernel_rfl⟩
instance i111:BoC P 112 Tryz.f112:=⟨λc h=>by cases h;kernel_rfl⟩
instance i112:BoC P 113 Tryz.f113:=⟨λc h=>by cases h;kernel_rfl⟩
instance i113:BoC P 114 Tryz.f114:=⟨λc h=>by cases h;kernel_rfl⟩
instance i114:BoC P 115 Tryz.f115:=⟨λc h=>by cases h;kernel_rfl⟩
instance i115:BoC P 116 Tryz.f116:=⟨λc h=>by cases h;kernel_rfl⟩
instance i116:BoC P 117 Tryz.f117:=⟨λc h=>by cases h;kernel_rfl⟩
instance i117:BoC P 118 Tryz.f118:=⟨λc h=>by cases h;kernel_rfl⟩
instance i118:BoC P 119 Tryz.f119:=⟨λc h=>by cases h;kernel_rfl⟩
instance i119:BoC P 120 Tryz.f120:=⟨λc h=>by cases h;kernel_rfl⟩
instance i120:BoC P 121 Tryz.f121:=⟨λc h=>by cases h;kernel_rfl⟩
instance i121:BoC P 122 Tryz.f122:=⟨λc h=>by cases h;kernel_rfl⟩
instance i122:BoC P 123 Tryz.f123:=⟨λc h=>by cases h;kernel_rfl⟩
instance i123:BoC P 124 Tryz.f124:=⟨λc h=>by cases h;kernel_rfl⟩
instance i124:BoC P 125 Tryz.f125:=⟨λc h=>by cases h;kernel_rfl⟩
instance i125:BoC P 126 Tryz.f126:=⟨λc h=>by cases h;kernel_rfl⟩
instance i126:BoC P 127 Tryz.f127:=⟨λc h=>by cases h;kernel_rfl⟩
instance i127:BoC P 128 Tryz.f128:=⟨λc h=>by cases h;kernel_rfl⟩
instance i128:BoC P 129 Tryz.f129:=⟨λc h=>by cases h;kernel_rfl⟩
instance i129:BoC P 130 Tryz.f130:=⟨λc h=>by cases h;kernel_rfl⟩
instance i130:BoC P 131 Tryz.f131:=⟨λc h=>by cases h;kernel_rfl⟩
instance i131:BoC P 132 Tryz.f132:=⟨λc h=>by cases h;kernel_rfl⟩
instance i132:BoC P 133 Tryz.f133:=⟨λc h=>by cases h;kernel_rfl⟩
instance i133:BoC P 134 Tryz.f134:=⟨λc h=>by cases h;kernel_rfl⟩
instance i134:BoC P 135 Tryz.f135:=⟨λc h=>by cases h;kernel_rfl⟩
instance i135:BoC P 136 Tryz.f136:=⟨λc h=>by cases h;kernel_rfl⟩
instance i136:BoC P 137 Tryz.f137:=⟨λc h=>by cases h;kernel_rfl⟩
instance i137:BoC P 138 Tryz.f138:=⟨λc h=>by cases h;kernel_rfl⟩
instance i138:BoC P 139 Tryz.f139:=⟨λc h=>by cases h;kernel_rfl⟩
instance i139:BoC P 140 Tryz.f140:=⟨λc h=>by cases h;kernel_rfl⟩
instance i140:BoC P 141 Tryz.f141:=⟨λc h=>by cases h;kernel_rfl⟩
instance i141:BoC P 142 Tryz.f142:=⟨λc h=>by cases h;kernel_rfl⟩
instance i142:BoC P 143 Tryz.f143:=⟨λc h=>by cases h;kernel_rfl⟩
instance i143:BoC P 144 Tryz.f144:=⟨λc h=>by cases h;kernel_rfl⟩
instance i157:BoC P 159 Tryz.f159:=⟨λc h=>by cases h;kernel_rfl⟩
instance i158:BoC P 160 Tryz.f160:=⟨λc h=>by cases h;kernel_rfl⟩
instance i159:BoC P 161 Tryz.f161:=⟨λc h=>by cases h;kernel_rfl⟩
instance i160:BoC P 162 Tryz.f162:=⟨λc h=>by cases h;kernel_rfl⟩
instance i161:BoC P 163 Tryz.f163:=⟨λc h=>by cases h;kernel_rfl⟩
instance i162:BoC P 164 Tryz.f164:=⟨λc h=>by cases h;kernel_rfl⟩
instance i163:BoC P 165 Tryz.f165:=⟨λc h=>by cases h;kernel_rfl⟩
instance i164:BoC P 166 Tryz.f166:=⟨λc h=>by cases h;kernel_rfl⟩
instance i165:BoC P 167 Tryz.f167:=⟨λc h=>by cases h;kernel_rfl⟩
instance i166:BoC P 168 Tryz.f168:=⟨λc h=>by cases h;kernel_rfl⟩
instance i167:BoC P 169 Tryz.f169:=⟨λc h=>by cases h;kernel_rfl⟩
instance i168:BoC P 170 Tryz.f170:=⟨λc h=>by cases h;kernel_rfl⟩
instance i169:BoC P 171 Tryz.f171:=⟨λc h=>by cases h;kernel_rfl⟩
instance i170:BoC P 172 Tryz.f172:=⟨λc h=>by cases h;kernel_rfl⟩
instance i171:BoC P 173 Tryz.f173:=⟨λc h=>by cases h;kernel_rfl⟩
instance i172:BoC P 174 Tryz.f174:=⟨λc h=>by cases h;kernel_rfl⟩
instance i173:BoC P 175 Tryz.f175:=⟨λc h=>by cases h;kernel_rfl⟩
instance i174:BoC P 176 Tryz.f176:=⟨λc h=>by cases h;kernel_rfl⟩
instance i175:BoC P 177 Tryz.f177:=⟨λc h=>by cases h;kernel_rfl⟩
instance i176:BoC P 178 Tryz.f178:=⟨λc h=>by cases h;kernel_rfl⟩
instance i177:BoC P 179 Tryz.f179:=⟨λc h=>by cases h;kernel_rfl⟩
instance i178:BoC P 180 Tryz.f180:=⟨λc h=>by cases h;kernel_rfl⟩
instance i179:BoC P 181 Tryz.f181:=⟨λc h=>by cases h;kernel_rfl⟩
instance i180:BoC P 182 Tryz.f182:=⟨λc h=>by cases h;kernel_rfl⟩
instance i181:BoC P 183 Tryz.f183:=⟨λc h=>by cases h;kernel_rfl⟩
instance i192:BoC P 195 Tryz.f195:=⟨λc h=>by cases h;kernel_rfl⟩
instance i193:BoC P 196 Tryz.f196:=⟨λc h=>by cases h;kernel_rfl⟩
instance i194:BoC P 197 Tryz.f197:=⟨λc h=>by cases h;kernel_rfl⟩
instance i195:BoC P 198 Tryz.f198:=⟨λc h=>by cases h;kernel_rfl⟩
instance i196:BoC P 199 Tryz.f199:=⟨λc h=>by cases h;kernel_rfl⟩
instance i197:BoC P 200 Tryz.f200:=⟨λc h=>by cases h;kernel_rfl⟩
instance i212:BoC P 215 Tryz.f215:=⟨λc h=>by cases h;kernel_rfl⟩
instance i232:BoC P 268 Tryz.f268:=⟨λc h=>by cases h;kernel_rfl⟩
instance i233:DrC P 4 6 [(0,0,0,false,[]),(1,0,0,false,[]),(2,0,0,false,[]),(3,0,0,false,[]),(4,0,0,false,[]),(5,0,0,false,[]),(6,0,0,false,[]),(7,0,0,false,[]),(8,0,0,false,[]),(9,0,0,false,[]),(10,0,0,false,[]),(11,0,0,true,[]),(12,0,0,true,[]),(13,0,0,true,[])]:=⟨by kernel_rfl⟩
instance i234:DrC P 6 1 [(0,0,0,false,[]),(1,0,0,false,[]),(2,0,0,false,[3,4,7,8,11,12,13,14,16,17,18,19]),(3,0,1,false,[]),(4,0,1,false,[]),(5,1,1,false,[7,8,11,12,13,14,16,17,18,19]),(7,0,2,false,[]),(8,0,2,false,[]),(9,2,2,false,[6,11,12,13,14,16,17,18,19]),(6,2,3,false,[]),(10,3,3,false,[]),(11,0,3,false,[]),(12,0,3,false,[]),(13,0,3,false,[]),(14,0,3,false,[]),(15,3,3,false,[]),(16,0,3,false,[]),(17,0,3,false,[]),(18,0,3,false,[]),(19,0,3,false,[]),(20,3,3,true,[]),(21,3,3,true,[])]:=⟨by kernel_rfl⟩
instance i235:DrC P 6 5 [(2,0,0,false,[]),(3,0,0,false,[]),(4,0,0,false,[]),(5,0,0,false,[]),(6,0,0,false,[]),(7,0,0,false,[]),(8,0,0,false,[0,1,10,11,12,13,14,15,16,17]),(0,0,1,false,[]),(1,0,1,false,[]),(9,1,1,false,[]),(10,0,1,false,[]),(11,0,1,false,[]),(12,0,1,false,[]),(13,0,1,false,[]),(14,0,1,false,[]),(15,0,1,false,[]),(16,0,1,false,[]),(17,0,1,false,[]),(18,1,1,true,[]),(19,1,1,true,[])]:=⟨by kernel_rfl⟩
instance i236:DrC P 6 10 [(2,0,0,false,[]),(3,0,0,false,[]),(4,0,0,false,[0,1,6,7,8,9,11,12,13,14,15,16,17,18,19,20,22,23,24]),(0,0,1,false,[]),(1,0,1,false,[]),(5,1,1,false,[]),(6,0,1,false,[]),(7,0,1,false,[]),(8,0,1,false,[]),(9,0,1,false,[]),(10,1,1,false,[]),(11,0,1,false,[]),(12,0,1,false,[]),(13,0,1,false,[]),(14,0,1,false,[]),(15,0,1,false,[]),(16,0,1,false,[]),(17,0,1,false,[]),(18,0,1,false,[]),(19,0,1,false,[]),(20,0,1,false,[]),(21,1,1,false,[]),(22,0,1,false,[]),(23,0,1,false,[]),(24,0,1,false,[]),(25,1,1,true,[]),(26,1,1,true,[])]:=⟨by kernel_rfl⟩
instance i237:DrC P 6 14 [(0,0,0,false,[]),(1,0,0,false,[]),(2,0,0,false,[]),(3,0,0,false,[]),(4,0,0,false,[]),(5,0,0,false,[]),(6,0,0,false,[]),(7,0,0,false,[]),(8,0,0,false,[]),(9,0,0,false,[]),(10,0,0,false,[]),(11,0,0,false,[]),(12,0,0,false,[]),(13,0,0,false,[]),(14,0,0,false,[]),(15,0,0,false,[]),(16,0,0,false,[]),(17,0,0,true,[]),(18,0,0,true,[])]:=⟨by kernel_rfl⟩
instance i238:DrC P 7 9 [(0,0,0,false,[]),(1,0,0,false,[]),(2,0,0,false,[]),(3,0,0,false,[]),(4,0,0,false,[]),(5,0,0,false,[]),(6,0,0,false,[]),(7,0,0,false,[]),(8,0,0,false,[]),(9,0,0,false,[]),(10,0,0,false,[]),(11,0,0,false,[]),(12,0,0,false,[]),(13,0,0,false,[]),(14,0,0,false,[]),(15,0,0,false,[]),(16,0,0,false,[]),(17,0,0,false,[]),(18,0,0,false,[]),(19,0,0,false,[]),(20,0,0,false,[]),(21,0,0,false,[]),(22,0,0,false,[]),(23,0,0,true,[]),(24,0,0,true,[])]:=⟨by kernel_rfl⟩
instance i239:DrC P 9 7 [(1,0,0,false,[]),(2,0,0,false,[]),(3,0,0,false,[]),(4,0,0,false,[]),(7,0,0,false,[]),(8,0,0,false,[0,5,6]),(0,0,1,false,[]),(5,0,1,false,[]),(6,0,1,false,[]),(9,1,1,false,[]),(10,1,1,false,[]),(11,1,1,true,[])]:=⟨by kernel_rfl⟩
instance i240:DrC P 10 8 [(0,0,0,true,[]),(1,0,0,true,[]),(2,0,0,true,[]),(3,0,0,true,[]),(4,0,0,false,[]),(5,0,0,false,[]),(6,0,0,false,[]),(7,0,0,false,[]),(8,0,0,false,[]),(9,0,0,false,[]),(10,0,0,false,[]),(11,0,0,true,[]),(12,0,0,true,[])]:=⟨by kernel_rfl⟩
instance i241:DrC P 10 21 [(0,0,0,false,[]),(1,0,0,false,[]),(2,0,0,false,[]),(3,0,0,false,[]),(4,0,0,false,[]),(5,0,0,false,[]),(6,0,0,false,[]),(7,0,0,false,[]),(8,0,0,false,[]),(9,0,0,false,[]),(10,0,0,false,[]),(11,0,0,false,[]),(12,0,0,false,[]),(13,0,0,false,[]),(14,0,0,true,[]),(15,1,1,true,[])]:=⟨by kernel_rfl⟩
instance i243:DrC P 13 12 [(5,0,0,false,[]),(6,0,0,false,[]),(7,0,0,false,[]),(8,0,0,false,[0,1,2,3,4]),(1,0,1,false,[]),(2,0,1,false,[]),(3,0,1,false,[]),(4,0,1,false,[]),(9,1,1,false,[]),(10,1,1,false,[0]),(0,0,2,false,[]),(11,2,2,true,[]),(12,2,2,true,[]),(13,2,2,true,[])]:=⟨by kernel_rfl⟩
instance i244:DrC P 13 13 [(5,0,0,false,[]),(6,0,0,false,[]),(7,0,0,false,[]),(8,0,0,false,[0,1,2,3,4]),(9,1,1,false,[0,1,2,3,4]),(1,0,2,false,[]),(2,0,2,false,[]),(3,0,2,false,[]),(4,0,2,false,[]),(10,2,2,false,[]),(11,2,2,false,[0]),(0,0,3,false,[]),(12,3,3,true,[]),(13,3,3,true,[]),(14,3,3,true,[])]:=⟨by kernel_rfl⟩
instance i245:DrC P 13 22 [(2,0,0,false,[]),(3,0,0,false,[]),(4,0,0,false,[]),(5,0,0,false,[0,1,6,7,8]),(6,0,1,false,[]),(7,0,1,false,[]),(8,0,1,false,[]),(9,1,1,false,[0,1]),(0,0,2,false,[]),(10,2,2,false,[]),(11,2,2,false,[]),(12,2,2,false,[1]),(1,0,3,false,[]),(13,3,3,true,[]),(14,3,3,true,[]),(15,3,3,true,[])]:=⟨by kernel_rfl⟩
instance i246:DrC P 16 7 [(9,0,0,false,[]),(10,0,0,false,[]),(11,0,0,false,[]),(12,0,0,false,[]),(13,0,0,false,[]),(14,0,0,false,[]),(15,0,0,false,[]),(16,0,0,false,[0,1,2,3,4,5,6,7,8]),(0,0,1,false,[]),(1,0,1,false,[]),(2,0,1,false,[]),(3,0,1,false,[]),(4,0,1,false,[]),(5,0,1,false,[]),(6,0,1,false,[]),(7,0,1,false,[]),(8,0,1,false,[]),(17,1,1,true,[]),(18,1,1,true,[])]:=⟨by kernel_rfl⟩
instance i247:DrC P 18 11 [(1,0,0,false,[]),(2,0,0,false,[0,3,4,5,6,7,8]),(3,0,1,false,[]),(4,0,1,false,[]),(5,0,1,false,[]),(6,0,1,false,[]),(7,0,1,false,[]),(8,0,1,false,[]),(9,1,1,false,[0]),(0,0,2,false,[]),(10,2,2,true,[]),(11,3,3,true,[])]:=⟨by kernel_rfl⟩
instance i248:DrC P 20 5 [(0,0,0,false,[]),(1,0,0,false,[]),(6,0,0,false,[2,3,4,5]),(2,0,1,false,[]),(3,0,1,false,[]),(7,1,1,false,[4,5]),(4,0,2,false,[]),(5,0,2,false,[]),(8,2,2,true,[])]:=⟨by kernel_rfl⟩
instance i249:DrC P 21 1 [(0,0,0,false,[]),(1,0,0,false,[]),(2,0,0,false,[]),(3,0,0,false,[]),(4,0,0,false,[]),(5,0,0,false,[]),(6,0,0,false,[]),(7,0,0,false,[]),(8,0,0,false,[]),(9,0,0,true,[]),(10,0,0,true,[]),(11,0,0,true,[])]:=⟨by kernel_rfl⟩
instance i250:DrC P 24 6 [(1,0,0,false,[]),(2,0,0,false,[]),(3,0,0,false,[]),(5,0,0,false,[]),(6,0,0,false,[]),(7,0,0,false,[]),(8,0,0,false,[]),(9,0,0,false,[0,4]),(0,0,1,false,[]),(4,0,1,false,[]),(10,1,1,false,[]),(11,1,1,false,[]),(12,1,1,true,[])]:=⟨by kernel_rfl⟩
instance i251:DrC P 24 11 [(1,0,0,false,[]),(2,0,0,false,[]),(3,0,0,false,[]),(4,0,0,false,[]),(5,0,0,false,[]),(6,0,0,false,[]),(7,0,0,false,[0,9,10,11,12,13,14]),(9,0,1,false,[]),(10,0,1,false,[]),(11,0,1,false,[]),(12,0,1,false,[]),(13,0,1,false,[]),(14,0,1,false,[]),(15,1,1,false,[0,8]),(0,0,2,false,[]),(8,1,2,false,[]),(16,2,2,false,[]),(17,2,2,false,[]),(18,2,2,true,[])]:=⟨by kernel_rfl⟩
instance i252:DrC P 24 16 [(0,0,0,false,[]),(1,0,0,false,[]),(2,0,0,false,[]),(3,0,0,false,[]),(4,0,0,false,[]),(5,0,0,false,[]),(6,0,0,false,[]),(7,0,0,false,[]),(8,0,0,false,[]),(9,0,0,false,[]),(10,0,0,false,[]),(11,0,0,false,[]),(12,0,0,false,[]),(13,0,0,false,[]),(14,0,0,true,[])]:=⟨by kernel_rfl⟩
instance i253:DrC P 24 18 [(1,0,0,false,[]),(2,0,0,false,[]),(3,0,0,false,[]),(4,0,0,false,[0]),(5,1,1,false,[]),(6,1,1,false,[]),(7,1,1,false,[]),(8,1,1,false,[]),(9,1,1,false,[0]),(0,0,2,false,[]),(10,2,2,false,[]),(11,2,2,true,[])]:=⟨by kernel_rfl⟩
instance i254:DrC P 24 20 [(1,0,0,false,[]),(2,0,0,false,[]),(3,0,0,false,[]),(4,0,0,false,[0]),(0,0,1,false,[]),(5,1,1,true,[])]:=⟨by kernel_rfl⟩
instance i255:DrC P 26 6 [(0,0,0,true,[]),(1,0,0,true,[]),(2,0,0,true,[]),(3,0,0,false,[]),(4,0,0,false,[]),(5,0,0,false,[]),(6,0,0,false,[]),(7,0,0,false,[]),(8,0,0,false,[]),(9,0,0,false,[]),(10,0,0,false,[]),(11,0,0,false,[]),(12,0,0,false,[]),(13,0,0,false,[]),(14,0,0,false,[]),(15,0,0,false,[]),(16,0,0,true,[]),(17,0,0,true,[])]:=⟨by kernel_rfl⟩
instance i256:DrC P 26 10 [(0,0,0,true,[]),(1,0,0,true,[]),(2,0,0,true,[]),(3,0,0,true,[]),(4,0,0,true,[]),(5,0,0,true,[]),(6,0,0,true,[]),(7,0,0,true,[]),(10,0,0,false,[]),(11,0,0,false,[8,9]),(8,0,1,false,[]),(9,0,1,false,[]),(12,1,1,false,[]),(13,1,1,true,[]),(14,1,1,true,[]),(15,1,1,true,[]),(16,1,1,true,[]),(17,1,1,true,[]),(18,1,1,true,[]),(19,1,1,true,[]),(20,1,1,true,[]),(21,1,1,true,[]),(22,1,1,true,[]),(23,1,1,true,[]),(24,1,1,true,[])]:=⟨by kernel_rfl⟩
instance i257:DrC P 26 19 [(0,0,0,false,[]),(1,0,0,false,[]),(2,0,0,true,[]),(3,0,0,true,[]),(4,0,0,true,[]),(5,0,0,true,[]),(6,0,0,false,[]),(7,0,0,false,[]),(8,0,0,false,[]),(9,0,0,false,[]),(10,0,0,false,[]),(11,0,0,false,[]),(12,0,0,false,[]),(13,0,0,false,[]),(14,0,0,false,[]),(15,0,0,true,[]),(16,0,0,true,[])]:=⟨by kernel_rfl⟩
instance i258:DrC P 26 23 [(0,0,0,false,[]),(1,0,0,false,[]),(2,0,0,false,[]),(3,0,0,false,[]),(4,0,0,false,[]),(5,0,0,false,[]),(6,0,0,false,[]),(7,0,0,false,[]),(8,0,0,false,[]),(9,0,0,false,[]),(10,0,0,false,[]),(11,0,0,false,[]),(12,0,0,false,[]),(13,0,0,false,[]),(14,0,0,false,[]),(15,0,0,false,[]),(16,0,0,false,[]),(17,0,0,false,[]),(18,0,0,true,[])]:=⟨by kernel_rfl⟩
instance i259:DrC P 26 32 [(0,0,0,true,[]),(1,0,0,true,[]),(2,0,0,true,[]),(3,0,0,true,[]),(4,0,0,true,[]),(5,0,0,true,[]),(6,0,0,false,[]),(7,0,0,false,[]),(8,0,0,false,[]),(9,0,0,false,[]),(10,0,0,false,[]),(11,0,0,false,[]),(12,0,0,false,[]),(13,0,0,true,[]),(14,0,0,true,[]),(15,0,0,true,[])]:=⟨by kernel_rfl⟩
instance i260:DrC P 28 2 [(0,0,0,false,[]),(1,0,0,false,[]),(2,0,0,false,[3,4]),(3,0,1,false,[]),(4,0,1,false,[]),(5,1,1,false,[6]),(6,1,2,false,[]),(7,2,2,true,[]),(8,3,3,true,[]),(9,3,3,true,[])]:=⟨by kernel_rfl⟩
instance i261:DrC P 28 6 [(3,0,0,false,[]),(4,0,0,false,[]),(5,0,0,false,[]),(6,0,0,false,[]),(7,0,0,false,[]),(8,0,0,false,[]),(9,0,0,false,[0,1,2]),(0,0,1,false,[]),(1,0,1,false,[]),(2,0,1,false,[]),(10,1,1,true,[]),(11,1,1,true,[]),(12,1,1,true,[])]:=⟨by kernel_rfl⟩
instance i262:DrC P 28 11 [(6,0,0,false,[]),(7,0,0,false,[]),(8,0,0,false,[]),(9,0,0,false,[]),(10,0,0,false,[]),(11,0,0,false,[]),(12,0,0,false,[0,1,2,3,4,5,13,14,15,16,17,18]),(13,0,1,false,[]),(14,0,1,false,[]),(15,0,1,false,[]),(16,0,1,false,[]),(17,0,1,false,[]),(18,0,1,false,[]),(19,1,1,false,[0,1,2,3,4,5]),(0,0,2,false,[]),(1,0,2,false,[]),(2,0,2,false,[]),(20,2,2,false,[]),(21,2,2,false,[]),(22,2,2,false,[3,4,5]),(3,0,3,false,[]),(4,0,3,false,[]),(5,0,3,false,[]),(23,3,3,true,[]),(24,3,3,true,[]),(25,3,3,true,[])]:=⟨by kernel_rfl⟩
instance i263:DrC P 28 13 [(0,0,0,false,[]),(1,0,0,false,[]),(2,0,0,false,[3,4]),(3,0,1,false,[]),(4,0,1,false,[]),(5,1,1,false,[6]),(6,1,2,false,[]),(7,2,2,true,[]),(8,3,3,true,[]),(9,3,3,true,[])]:=⟨by kernel_rfl⟩
instance i264:DrC P 29 6 [(0,0,0,false,[]),(1,0,0,false,[]),(2,0,0,false,[]),(3,0,0,false,[]),(8,0,0,false,[4,5,6,7]),(4,0,1,false,[]),(5,0,1,false,[]),(6,0,1,false,[]),(7,0,1,false,[]),(9,1,1,true,[]),(10,2,2,true,[])]:=⟨by kernel_rfl⟩
instance i265:DrC P 32 8 [(0,0,0,false,[]),(1,0,0,false,[]),(2,0,0,false,[]),(3,0,0,false,[]),(4,0,0,false,[]),(5,0,0,false,[]),(6,0,0,false,[]),(7,0,0,false,[]),(8,0,0,true,[]),(9,0,0,true,[]),(10,0,0,true,[])]:=⟨by kernel_rfl⟩
instance i266:DrC P 33 10 [(5,0,0,false,[]),(6,0,0,false,[0,1,2,3,4]),(1,0,1,false,[]),(2,0,1,false,[]),(3,0,1,false,[]),(4,0,1,false,[]),(7,1,1,false,[]),(8,1,1,false,[0]),(0,0,2,false,[]),(9,2,2,true,[]),(10,2,2,true,[]),(11,2,2,true,[])]:=⟨by kernel_rfl⟩
instance i267:DrC P 34 3 [(5,0,0,false,[]),(6,0,0,false,[]),(7,0,0,false,[]),(8,0,0,false,[0,1,2,3,4]),(1,0,1,false,[]),(2,0,1,false,[]),(3,0,1,false,[]),(4,0,1,false,[]),(9,1,1,false,[]),(10,1,1,false,[0]),(0,0,2,false,[]),(11,2,2,true,[]),(12,2,2,true,[]),(13,2,2,true,[])]:=⟨by kernel_rfl⟩
instance i268:DrC P 34 8 [(0,0,0,false,[]),(1,0,0,false,[]),(2,0,0,false,[]),(3,0,0,false,[]),(4,0,0,false,[]),(5,0,0,false,[]),(6,0,0,false,[]),(7,0,0,false,[]),(8,0,0,false,[]),(9,0,0,false,[]),(10,0,0,false,[]),(11,0,0,false,[]),(12,0,0,false,[]),(13,0,0,false,[]),(14,0,0,true,[])]:=⟨by kernel_rfl⟩
instance i269:DrC P 34 10 [(0,0,0,false,[]),(1,0,0,false,[]),(2,0,0,false,[]),(3,0,0,false,[]),(4,0,0,false,[]),(5,0,0,false,[]),(6,0,0,true,[]),(7,0,0,true,[]),(8,0,0,true,[]),(9,1,1,true,[])]:=⟨by kernel_rfl⟩
instance i270:DrC P 34 15 [(0,0,0,false,[]),(1,0,0,false,[]),(2,0,0,false,[]),(3,0,0,false,[]),(4,0,0,false,[]),(5,0,0,false,[]),(6,0,0,false,[]),(7,0,0,false,[]),(8,0,0,true,[]),(9,1,1,true,[])]:=⟨by kernel_rfl⟩
instance i271:DrC P 35 9 [(1,0,0,false,[]),(2,0,0,false,[0]),(0,0,1,false,[]),(3,1,1,true,[]),(4,1,1,true,[]),(5,1,1,true,[])]:=⟨by kernel_rfl⟩
instance i279:DrC P 50 1 [(0,0,0,true,[]),(1,0,0,true,[]),(2,0,0,true,[]),(3,0,0,true,[]),(4,0,0,true,[]),(5,0,0,true,[]),(6,0,0,true,[]),(7,0,0,false,[]),(8,0,0,false,[]),(9,0,0,false,[]),(10,0,0,false,[]),(11,0,0,false,[]),(12,0,0,false,[]),(13,0,0,true,[]),(14,0,0,true,[]),(15,0,0,true,[]),(16,0,0,false,[]),(17,0,0,false,[]),(18,0,0,false,[]),(19,0,0,false,[]),(20,0,0,false,[]),(21,0,0,false,[]),(22,0,0,true,[]),(23,0,0,true,[]),(24,0,0,true,[]),(25,0,0,false,[]),(26,0,0,false,[]),(27,0,0,false,[]),(28,0,0,false,[]),(29,0,0,false,[]),(30,0,0,false,[]),(31,0,0,false,[]),(32,0,0,false,[]),(33,0,0,false,[]),(34,0,0,false,[]),(35,0,0,false,[]),(36,0,0,false,[]),(37,0,0,false,[]),(38,0,0,false,[]),(39,0,0,true,[]),(40,1,1,true,[]),(41,1,1,true,[])]:=⟨by kernel_rfl⟩
instance i280:DrC P 54 14 [(0,0,0,false,[]),(1,0,0,false,[]),(2,0,0,false,[]),(3,0,0,false,[]),(4,0,0,false,[]),(5,0,0,false,[]),(6,0,0,false,[]),(7,0,0,false,[]),(8,0,0,false,[]),(9,0,0,true,[]),(10,1,1,true,[])]:=⟨by kernel_rfl⟩
instance i281:DrC P 54 17 [(0,0,0,false,[]),(1,0,0,false,[]),(2,0,0,false,[]),(3,0,0,false,[]),(4,0,0,false,[]),(5,0,0,false,[]),(6,0,0,false,[]),(7,0,0,false,[]),(8,0,0,false,[]),(9,0,0,false,[]),(10,0,0,false,[]),(11,0,0,true,[]),(12,0,0,true,[]),(13,0,0,true,[])]:=⟨by kernel_rfl⟩
instance i282:DrC P 55 9 [(0,0,0,false,[]),(1,0,0,false,[]),(2,0,0,false,[]),(3,0,0,false,[]),(4,0,0,false,[]),(5,0,0,false,[]),(6,0,0,false,[]),(7,0,0,false,[]),(8,0,0,false,[]),(9,0,0,false,[]),(10,0,0,false,[]),(11,0,0,false,[]),(12,0,0,false,[]),(13,0,0,false,[]),(14,0,0,false,[]),(15,0,0,false,[]),(16,0,0,false,[]),(17,0,0,false,[]),(18,0,0,false,[]),(19,0,0,false,[]),(20,0,0,false,[]),(21,0,0,true,[]),(22,1,1,true,[])]:=⟨by kernel_rfl⟩
instance i283:DrC P 58 4 [(0,0,0,false,[]),(1,0,0,false,[]),(2,0,0,false,[]),(3,0,0,false,[]),(4,0,0,false,[]),(5,0,0,false,[]),(6,0,0,true,[]),(7,1,1,true,[]),(8,1,1,false,[]),(9,1,1,false,[]),(10,1,1,false,[]),(11,1,1,true,[])]:=⟨by kernel_rfl⟩
instance i284:DrC P 58 5 [(1,0,0,false,[]),(2,0,0,false,[]),(6,0,0,false,[]),(7,0,0,false,[]),(8,0,0,false,[]),(9,0,0,false,[]),(10,0,0,false,[]),(11,0,0,false,[0,3,4,5]),(0,0,1,false,[]),(3,0,1,false,[]),(4,0,1,false,[]),(5,0,1,false,[]),(12,1,1,false,[]),(13,1,1,false,[]),(14,1,1,true,[])]:=⟨by kernel_rfl⟩
instance i285:DrC P 58 7 [(1,0,0,false,[]),(2,0,0,false,[]),(3,0,0,false,[0]),(4,1,1,false,[]),(5,1,1,false,[]),(6,1,1,false,[]),(7,1,1,false,[]),(8,1,1,false,[]),(9,1,1,false,[]),(12,1,1,false,[]),(13,1,1,false,[]),(14,1,1,false,[]),(15,1,1,false,[]),(16,1,1,false,[0,10,11]),(0,0,2,false,[]),(10,1,2,false,[]),(11,1,2,false,[]),(17,2,2,false,[]),(18,2,2,false,[]),(19,2,2,false,[]),(20,2,2,false,[]),(21,2,2,false,[]),(22,2,2,false,[]),(23,2,2,false,[]),(24,2,2,false,[]),(25,2,2,false,[]),(26,2,2,false,[]),(27,2,2,false,[]),(28,2,2,false,[]),(29,2,2,false,[]),(30,2,2,true,[])]:=⟨by kernel_rfl⟩
instance i286:DrC P 59 7 [(0,0,0,false,[]),(1,0,0,false,[]),(2,0,0,false,[]),(3,0,0,false,[]),(4,0,0,false,[]),(5,0,0,false,[]),(6,0,0,false,[]),(7,0,0,true,[])]:=⟨by kernel_rfl⟩
instance i287:DrC P 59 9 [(0,0,0,false,[]),(1,0,0,false,[]),(2,0,0,false,[]),(3,0,0,false,[]),(4,0,0,false,[]),(5,0,0,false,[]),(6,0,0,true,[])]:=⟨by kernel_rfl⟩
instance i288:DrC P 59 11 [(0,0,0,false,[]),(1,0,0,false,[]),(2,0,0,false,[]),(3,0,0,false,[]),(4,0,0,false,[]),(5,0,0,false,[]),(6,0,0,true,[])]:=⟨by kernel_rfl⟩
instance i289:DrC P 59 14 [(0,0,0,false,[]),(1,0,0,false,[]),(2,0,0,false,[]),(3,0,0,false,[]),(4,0,0,true,[])]:=⟨by kernel_rfl⟩
instance i290:DrC P 64 1 [(0,0,0,false,[]),(1,0,0,false,[]),(2,0,0,false,[]),(3,0,0,false,[]),(4,0,0,false,[]),(5,0,0,false,[]),(6,0,0,true,[]),(7,1,1,true,[]),(8,1,1,false,[]),(9,1,1,false,[]),(10,1,1,false,[]),(11,1,1,true,[])]:=⟨by kernel_rfl⟩
instance i291:DrC P 64 2 [(1,0,0,false,[]),(2,0,0,false,[]),(3,0,0,false,[]),(4,0,0,false,[]),(5,0,0,false,[]),(6,0,0,false,[]),(7,0,0,false,[]),(8,0,0,false,[0]),(0,0,1,false,[]),(9,1,1,true,[])]:=⟨by kernel_rfl⟩
instance i292:DrC P 64 9 [(0,0,0,false,[]),(1,0,0,false,[]),(2,0,0,false,[]),(3,0,0,false,[]),(4,0,0,false,[]),(5,0,0,false,[]),(6,0,0,false,[]),(7,0,0,false,[]),(8,0,0,false,[]),(9,0,0,false,[]),(10,0,0,false,[]),(11,0,0,false,[]),(12,0,0,false,[]),(13,0,0,true,[])]:=⟨by kernel_rfl⟩
instance i293:DrC P 69 4 [(0,0,0,false,[]),(1,0,0,false,[]),(2,0,0,false,[]),(3,0,0,true,[])]:=⟨by kernel_rfl⟩
instance i294:DrC P 69 7 [(0,0,0,false,[]),(1,0,0,false,[]),(2,0,0,false,[]),(3,0,0,false,[]),(4,0,0,false,[]),(5,0,0,false,[]),(6,0,0,true,[])]:=⟨by kernel_rfl⟩
instance i295:DrC P 69 9 [(0,0,0,false,[]),(1,0,0,false,[]),(2,0,0,false,[3,4]),(3,0,1,false,[]),(4,0,1,false,[]),(5,1,1,false,[]),(6,1,1,true,[])]:=⟨by kernel_rfl⟩
instance i296:DrC P 74 4 [(0,0,0,true,[]),(1,0,0,true,[]),(2,0,0,true,[]),(3,1,1,true,[]),(4,1,1,false,[]),(5,1,1,false,[]),(6,1,1,false,[]),(7,1,1,false,[8]),(8,1,2,false,[]),(9,2,2,true,[]),(10,2,2,true,[]),(11,2,2,true,[]),(12,2,2,false,[]),(13,2,2,false,[]),(14,2,2,false,[]),(15,2,2,false,[]),(16,2,2,false,[]),(17,2,2,false,[]),(18,2,2,true,[]),(19,3,3,true,[]),(20,3,3,true,[]),(21,3,3,true,[])]:=⟨by kernel_rfl⟩
instance i297:DrC P 74 10 [(0,0,0,false,[]),(1,0,0,false,[]),(2,0,0,false,[]),(3,0,0,false,[4]),(4,0,1,false,[]),(5,1,1,true,[]),(6,1,1,true,[]),(15,1,1,false,[]),(16,1,1,false,[]),(17,1,1,false,[7,8,9,10,11,12,13,14]),(7,1,2,false,[]),(8,1,2,false,[]),(9,1,2,false,[]),(10,1,2,false,[]),(11,1,2,false,[]),(12,1,2,false,[]),(13,1,2,false,[]),(14,1,2,false,[]),(18,2,2,true,[]),(19,2,2,true,[]),(20,2,2,true,[])]:=⟨by kernel_rfl⟩
instance i298:DrC P 76 1 [(4,0,0,false,[]),(5,0,0,false,[]),(6,0,0,false,[]),(7,0,0,false,[]),(8,0,0,false,[]),(9,0,0,false,[]),(10,0,0,false,[0,1,2,3,13]),(0,0,1,false,[]),(1,0,1,false,[]),(2,0,1,false,[]),(3,0,1,false,[]),(11,1,1,false,[]),(12,1,1,false,[]),(13,0,1,false,[]),(14,1,1,true,[])]:=⟨by kernel_rfl⟩
instance i299:DrC P 76 8 [(0,0,0,false,[]),(1,0,0,false,[]),(2,0,0,false,[]),(3,0,0,false,[]),(4,0,0,false,[]),(5,0,0,false,[6,7,8,9,10,11,14]),(6,0,1,false,[]),(7,0,1,false,[]),(8,0,1,false,[]),(9,0,1,false,[]),(10,0,1,false,[]),(11,0,1,false,[]),(12,1,1,false,[14]),(13,2,2,false,[]),(14,0,2,false,[])]:=⟨by kernel_rfl⟩
instance i300:DrC P 83 5 [(2,0,0,false,[0,1]),(3,1,1,false,[0,1]),(0,0,2,false,[]),(1,0,2,false,[]),(4,2,2,true,[])]:=⟨by kernel_rfl⟩
instance i301:DrC P 85 3 [(0,0,0,false,[]),(1,0,0,false,[]),(2,0,0,false,[]),(3,0,0,false,[]),(4,0,0,false,[]),(5,0,0,false,[]),(6,0,0,false,[]),(7,0,0,true,[]),(8,0,0,true,[]),(9,0,0,false,[]),(10,0,0,false,[]),(11,0,0,false,[]),(12,0,0,true,[])]:=⟨by kernel_rfl⟩
instance i302:DrC P 85 5 [(0,0,0,false,[]),(1,0,0,false,[]),(2,0,0,false,[]),(3,0,0,false,[]),(4,0,0,false,[]),(5,0,0,false,[]),(6,0,0,false,[]),(7,0,0,false,[]),(8,0,0,true,[]),(9,0,0,true,[]),(10,0,0,true,[])]:=⟨by kernel_rfl⟩
instance i303:DrC P 85 6 [(0,0,0,false,[]),(1,0,0,false,[]),(2,0,0,false,[]),(3,0,0,false,[]),(4,0,0,false,[]),(5,0,0,false,[]),(6,0,0,false,[]),(7,0,0,true,[]),(8,0,0,true,[])]:=⟨by kernel_rfl⟩
instance i304:DrC P 85 7 [(0,0,0,false,[]),(1,0,0,false,[]),(2,0,0,false,[]),(3,0,0,false,[]),(4,0,0,false,[]),(5,0,0,false,[]),(6,0,0,false,[]),(7,0,0,false,[]),(8,0,0,false,[]),(9,0,0,false,[]),(10,0,0,false,[]),(11,0,0,false,[]),(12,0,0,true,[])]:=⟨by kernel_rfl⟩
instance i305:DrC P 85 12 [(0,0,0,false,[]),(1,0,0,false,[]),(2,0,0,false,[]),(3,0,0,false,[]),(4,0,0,false,[]),(5,0,0,false,[]),(6,0,0,false,[]),(7,0,0,false,[]),(8,0,0,false,[]),(9,0,0,false,[]),(10,0,0,false,[]),(11,0,0,false,[]),(12,0,0,true,[]),(13,0,0,true,[])]:=⟨by kernel_rfl⟩
instance i306:DrC P 85 13 [(0,0,0,false,[]),(1,0,0,false,[]),(2,0,0,false,[]),(3,0,0,false,[]),(4,0,0,false,[]),(14,0,0,false,[]),(15,0,0,false,[5,6,7,8,9,10,11,12,13]),(5,0,1,false,[]),(6,0,1,false,[]),(7,0,1,false,[]),(8,0,1,false,[]),(9,0,1,false,[]),(10,0,1,false,[]),(11,0,1,false,[]),(12,0,1,false,[]),(13,0,1,false,[]),(16,1,1,true,[]),(17,1,1,true,[])]:=⟨by kernel_rfl⟩
instance i307:DrC P 85 19 [(1,0,0,false,[]),(2,0,0,false,[]),(3,0,0,false,[]),(4,0,0,false,[]),(5,0,0,false,[]),(6,0,0,false,[]),(7,0,0,false,[0]),(0,0,1,false,[]),(8,1,1,true,[]),(9,1,1,true,[]),(10,1,1,true,[])]:=⟨by kernel_rfl⟩
instance i308:DrC P 85 20 [(0,0,0,false,[]),(1,0,0,false,[]),(2,0,0,false,[]),(3,0,0,false,[]),(4,0,0,false,[]),(5,0,0,false,[]),(6,0,0,false,[]),(7,0,0,false,[]),(8,0,0,false,[]),(9,0,0,false,[]),(10,0,0,false,[]),(11,0,0,false,[]),(12,0,0,true,[])]:=⟨by kernel_rfl⟩
instance i309:DrC P 85 21 [(2,0,0,false,[]),(3,0,0,false,[]),(4,0,0,false,[]),(5,0,0,false,[]),(6,0,0,false,[]),(7,0,0,false,[]),(8,0,0,false,[]),(9,0,0,false,[]),(10,0,0,false,[0,1,11,12,13,14,15,16]),(11,0,1,false,[]),(12,0,1,false,[]),(13,0,1,false,[]),(14,0,1,false,[]),(15,0,1,false,[]),(16,0,1,false,[]),(17,1,1,false,[0,1]),(0,0,2,false,[]),(18,2,2,false,[]),(19,2,2,false,[]),(20,2,2,false,[1]),(1,0,3,false,[]),(21,3,3,true,[]),(22,3,3,true,[]),(23,3,3,true,[])]:=⟨by kernel_rfl⟩
instance i310:DrC P 85 22 [(1,0,0,false,[]),(2,0,0,false,[]),(3,0,0,false,[]),(4,0,0,false,[]),(5,0,0,false,[]),(6,0,0,false,[]),(7,0,0,false,[]),(8,0,0,false,[0]),(0,0,1,false,[]),(9,1,1,true,[]),(10,1,1,true,[]),(11,1,1,true,[])]:=⟨by kernel_rfl⟩
instance i311:DrC P 89 1 [(0,0,0,false,[]),(1,0,0,false,[]),(2,0,0,false,[]),(3,0,0,false,[]),(4,0,0,false,[]),(5,0,0,false,[]),(6,0,0,false,[]),(7,0,0,false,[]),(8,0,0,true,[]),(9,1,1,true,[])]:=⟨by kernel_rfl⟩
instance i317:DrC P 107 4 [(0,0,0,false,[]),(1,0,0,false,[]),(2,0,0,false,[]),(3,0,0,false,[]),(4,0,0,false,[]),(5,0,0,false,[]),(6,0,0,true,[])]:=⟨by kernel_rfl⟩
instance i318:DrC P 107 5 [(0,0,0,false,[]),(1,0,0,false,[]),(2,0,0,false,[]),(3,0,0,false,[]),(4,0,0,false,[]),(5,0,0,false,[]),(6,0,0,false,[]),(7,0,0,false,[]),(8,0,0,false,[]),(9,0,0,true,[]),(10,0,0,true,[])]:=⟨by kernel_rfl⟩
instance i319:DrC P 108 17 [(0,0,0,true,[]),(1,0,0,true,[]),(2,0,0,true,[]),(3,0,0,false,[]),(4,0,0,false,[]),(5,0,0,true,[]),(6,1,1,true,[]),(7,1,1,true,[]),(8,1,1,true,[]),(9,1,1,true,[]),(10,1,1,true,[]),(11,1,1,false,[]),(12,1,1,false,[]),(13,1,1,false,[]),(14,1,1,false,[]),(15,1,1,false,[]),(16,1,1,false,[]),(17,1,1,false,[]),(18,1,1,false,[]),(19,1,1,false,[]),(20,1,1,false,[]),(21,1,1,false,[]),(22,1,1,false,[]),(23,1,1,false,[]),(24,1,1,false,[]),(25,1,1,false,[]),(26,1,1,false,[]),(27,1,1,false,[]),(28,1,1,false,[]),(29,1,1,true,[]),(30,1,1,true,[]),(31,1,1,true,[])]:=⟨by kernel_rfl⟩
instance i320:DrC P 109 22 [(1,0,0,false,[]),(2,0,0,false,[]),(3,0,0,false,[]),(4,0,0,false,[]),(5,0,0,false,[]),(6,0,0,false,[]),(7,0,0,false,[]),(8,0,0,false,[0,10,11,12,13,14]),(0,0,1,false,[]),(9,1,1,false,[10,11,12,13,14]),(11,0,2,false,[]),(12,0,2,false,[]),(13,0,2,false,[]),(14,0,2,false,[]),(15,2,2,false,[10]),(10,0,3,false,[]),(16,3,3,true,[]),(17,4,4,true,[])]:=⟨by kernel_rfl⟩
instance i321:DrC P 109 25 [(0,0,0,true,[]),(1,0,0,true,[]),(2,0,0,true,[]),(3,0,0,true,[]),(4,0,0,false,[]),(5,0,0,false,[]),(6,0,0,false,[]),(7,0,0,true,[]),(8,0,0,true,[]),(9,0,0,true,[]),(10,0,0,true,[]),(11,0,0,true,[]),(12,0,0,true,[]),(13,0,0,true,[]),(14,0,0,false,[]),(15,0,0,false,[]),(16,0,0,false,[]),(17,0,0,false,[]),(18,0,0,false,[]),(19,0,0,false,[]),(20,0,0,false,[]),(21,0,0,false,[]),(22,0,0,true,[]),(23,0,0,true,[]),(24,0,0,true,[]),(25,0,0,true,[]),(26,0,0,true,[]),(27,0,0,true,[]),(28,0,0,true,[])]:=⟨by kernel_rfl⟩
instance i322:DrC P 131 1 [(4,0,0,false,[]),(5,0,0,false,[]),(6,0,0,false,[]),(7,0,0,false,[]),(8,0,0,false,[]),(9,0,0,false,[]),(10,0,0,false,[]),(11,0,0,false,[]),(12,0,0,false,[]),(13,0,0,false,[]),(14,0,0,false,[]),(15,0,0,false,[]),(16,0,0,false,[0,1,2,3]),(0,0,1,false,[]),(1,0,1,false,[]),(2,0,1,false,[]),(3,0,1,false,[]),(17,1,1,true,[]),(18,1,1,true,[]),(19,1,1,true,[]),(20,1,1,true,[])]:=⟨by kernel_rfl⟩
instance i323:DrC P 132 1 [(0,0,0,true,[]),(1,0,0,true,[]),(2,0,0,true,[]),(3,1,1,true,[]),(4,1,1,true,[]),(5,1,1,false,[]),(6,1,1,false,[]),(7,1,1,false,[]),(8,1,1,false,[]),(9,1,1,false,[]),(10,1,1,false,[]),(11,1,1,false,[]),(12,1,1,false,[13]),(13,1,2,false,[]),(14,2,2,true,[]),(15,2,2,true,[]),(16,2,2,true,[])]:=⟨by kernel_rfl⟩
instance i324:DrC P 132 2 [(3,0,0,false,[]),(4,0,0,false,[]),(5,0,0,false,[0,1,2]),(0,0,1,false,[]),(1,0,1,false,[]),(2,0,1,false,[]),(6,1,1,true,[]),(7,1,1,true,[])]:=⟨by kernel_rfl⟩
instance i325:DrC P 132 10 [(0,0,0,true,[]),(1,0,0,true,[]),(2,0,0,true,[]),(3,0,0,true,[]),(4,0,0,false,[]),(5,0,0,false,[]),(6,0,0,false,[]),(7,0,0,false,[]),(8,0,0,false,[]),(9,0,0,false,[]),(10,0,0,false,[]),(11,0,0,false,[]),(12,0,0,true,[]),(13,0,0,true,[]),(14,0,0,true,[])]:=⟨by kernel_rfl⟩
instance i326:DrC P 133 6 [(4,0,0,false,[]),(5,0,0,false,[]),(6,0,0,false,[0,1,2,3,9]),(0,0,1,false,[]),(1,0,1,false,[]),(2,0,1,false,[]),(3,0,1,false,[]),(7,1,1,false,[]),(8,1,1,false,[]),(9,0,1,false,[]),(10,1,1,true,[])]:=⟨by kernel_rfl⟩
instance i327:DrC P 137 1 [(0,0,0,false,[]),(1,0,0,false,[]),(2,0,0,false,[]),(3,0,0,false,[]),(4,0,0,false,[]),(5,0,0,false,[]),(6,0,0,false,[]),(7,0,0,false,[]),(8,0,0,false,[]),(9,0,0,false,[]),(10,0,0,false,[]),(11,0,0,true,[])]:=⟨by kernel_rfl⟩
instance i328:DrC P 137 3 [(0,0,0,false,[]),(1,0,0,false,[]),(2,0,0,false,[]),(3,0,0,false,[]),(4,0,0,false,[]),(5,0,0,false,[]),(6,0,0,false,[]),(7,0,0,false,[]),(8,0,0,false,[]),(9,0,0,false,[]),(10,0,0,false,[]),(11,0,0,true,[])]:=⟨by kernel_rfl⟩
instance i332:DrC P 160 13 [(0,0,0,true,[]),(1,0,0,true,[]),(2,0,0,true,[]),(3,0,0,false,[]),(4,0,0,false,[]),(5,0,0,false,[]),(6,0,0,false,[]),(7,0,0,false,[]),(8,0,0,false,[]),(9,0,0,true,[]),(10,1,1,true,[]),(11,1,1,true,[]),(12,1,1,true,[])]:=⟨by kernel_rfl⟩
instance i333:DrC P 160 22 [(0,0,0,false,[]),(1,0,0,false,[]),(2,0,0,false,[]),(3,0,0,false,[]),(4,0,0,false,[]),(5,0,0,true,[]),(6,1,1,true,[])]:=⟨by kernel_rfl⟩
instance i334:DrC P 160 26 [(1,0,0,false,[]),(2,0,0,false,[]),(3,0,0,false,[]),(4,0,0,false,[]),(5,0,0,false,[]),(6,0,0,false,[]),(7,0,0,false,[]),(8,0,0,false,[0]),(0,0,1,false,[]),(9,1,1,true,[]),(10,1,1,true,[]),(11,1,1,true,[])]:=⟨by kernel_rfl⟩
instance i335:DrC P 160 27 [(1,0,0,false,[]),(2,0,0,false,[]),(3,0,0,false,[]),(4,0,0,false,[]),(5,0,0,false,[]),(6,0,0,false,[]),(7,0,0,false,[0]),(0,0,1,false,[]),(8,1,1,true,[]),(9,1,1,true,[]),(10,1,1,true,[])]:=⟨by kernel_rfl⟩
instance i336:DrC P 164 3 [(0,0,0,false,[]),(1,0,0,false,[]),(2,0,0,false,[]),(3,0,0,false,[]),(4,0,0,false,[]),(5,0,0,false,[]),(6,0,0,false,[]),(7,0,0,false,[]),(8,0,0,false,[]),(9,0,0,false,[]),(10,0,0,false,[]),(11,0,0,false,[]),(12,0,0,false,[]),(13,0,0,true,[]),(14,0,0,true,[]),(15,0,0,true,[]),(16,0,0,true,[])]:=⟨by kernel_rfl⟩
instance i337:DrC P 178 3 [(0,0,0,true,[]),(1,0,0,true,[]),(2,0,0,true,[]),(3,0,0,true,[]),(4,0,0,false,[]),(5,0,0,false,[]),(6,0,0,false,[]),(7,0,0,false,[]),(8,0,0,false,[]),(9,0,0,false,[]),(10,0,0,false,[]),(11,0,0,false,[]),(12,0,0,false,[]),(13,0,0,false,[]),(14,0,0,false,[]),(15,0,0,true,[]),(16,1,1,true,[]),(17,1,1,true,[])]:=⟨by kernel_rfl⟩
instance i338:DrC P 181 2 [(0,0,0,false,[]),(1,0,0,false,[]),(2,0,0,false,[]),(3,0,0,false,[]),(4,0,0,false,[]),(5,0,0,false,[]),(6,0,0,false,[]),(7,0,0,true,[]),(8,1,1,true,[])]:=⟨by kernel_rfl⟩
instance i347:DrC P 195 1 [(0,0,0,false,[]),(1,0,0,false,[]),(2,0,0,false,[3]),(3,0,1,false,[]),(4,1,1,true,[]),(5,1,1,true,[])]:=⟨by kernel_rfl⟩
instance i348:DrC P 197 1 [(0,0,0,false,[]),(1,0,0,false,[]),(2,0,0,false,[3]),(3,0,1,false,[]),(4,1,1,true,[]),(5,1,1,true,[])]:=⟨by kernel_rfl⟩
instance i349:DrC P 198 1 [(0,0,0,false,[]),(1,0,0,false,[]),(2,0,0,false,[]),(3,0,0,false,[]),(4,0,0,false,[]),(5,0,0,true,[])]:=⟨by kernel_rfl⟩
instance i350:DrC P 198 5 [(0,0,0,false,[]),(1,0,0,false,[]),(2,0,0,false,[]),(3,0,0,false,[]),(4,0,0,false,[]),(5,0,0,true,[])]:=⟨by kernel_rfl⟩
instance i351:DrC P 199 4 [(5,0,0,false,[]),(6,0,0,false,[]),(7,0,0,false,[0,1,2,3,4]),(0,0,1,false,[]),(1,0,1,false,[]),(2,0,1,false,[]),(3,0,1,false,[]),(4,0,1,false,[]),(8,1,1,false,[]),(9,1,1,false,[]),(10,1,1,true,[])]:=⟨by kernel_rfl⟩
instance i352:DrC P 200 0 [(5,0,0,false,[]),(6,0,0,false,[]),(7,0,0,false,[]),(8,0,0,false,[0,1,2,3,4,13]),(0,0,1,false,[]),(1,0,1,false,[]),(2,0,1,false,[]),(3,0,1,false,[]),(4,0,1,false,[]),(9,1,1,false,[]),(10,1,1,false,[]),(11,1,1,false,[]),(12,1,1,false,[]),(13,0,1,false,[])]:=⟨by kernel_rfl⟩
instance i353:DrC P 200 3 [(0,0,0,true,[]),(1,0,0,true,[]),(2,0,0,true,[]),(3,0,0,true,[]),(4,0,0,false,[]),(5,0,0,false,[]),(6,0,0,false,[]),(7,0,0,true,[]),(8,0,0,true,[]),(9,0,0,true,[]),(15,0,0,false,[]),(16,0,0,false,[]),(17,0,0,false,[10,11,12,13,14]),(10,0,1,false,[]),(11,0,1,false,[]),(12,0,1,false,[]),(13,0,1,false,[]),(14,0,1,false,[]),(18,1,1,false,[]),(19,1,1,false,[]),(20,1,1,true,[]),(21,2,2,true,[]),(22,2,2,true,[])]:=⟨by kernel_rfl⟩
instance i356:ShC P 1 .scal:=⟨by kernel_rfl⟩
instance i357:ShC P 3 .scal:=⟨by kernel_rfl⟩
instance i358:ShC P 4 .scal:=⟨by kernel_rfl⟩
instance i360:ShC P 9 .scal:=⟨by kernel_rfl⟩
instance i361:ShC P 22 .scal:=⟨by kernel_rfl⟩
instance i362:ShC P 23 .scal:=⟨by kernel_rfl⟩
instance i363:ShC P 24 .scal:=⟨by kernel_rfl⟩
instance i364:ShC P 25 .scal:=⟨by kernel_rfl⟩
instance i365:ShC P 27 (.agg 8):=⟨by kernel_rfl⟩
instance i366:ShC P 28 .scal:=⟨by kernel_rfl⟩
instance i367:ShC P 30 (.agg 3):=⟨by kernel_rfl⟩
instance i368:ShC P 34 .scal:=⟨by kernel_rfl⟩
instance i369:ShC P 38 .scal:=⟨by kernel_rfl⟩
instance i370:ShC P 47 (.agg 2):=⟨by kernel_rfl⟩
instance i371:ShC P 48 .scal:=⟨by kernel_rfl⟩
instance i372:ShC P 50 (.agg 6):=⟨by kernel_rfl⟩
instance i373:ShC P 52 (.agg 4):=⟨by kernel_rfl⟩
instance i374:ShC P 55 .scal:=⟨by kernel_rfl⟩
instance i375:ShC P 57 (.agg 9):=⟨by kernel_rfl⟩
instance i376:ShC P 58 .scal:=⟨by kernel_rfl⟩
instance i377:ShC P 66 (.agg 2):=⟨by kernel_rfl⟩
instance i378:ShC P 70 (.agg 3):=⟨by kernel_rfl⟩
instance i379:ShC P 72 .scal:=⟨by kernel_rfl⟩
instance i380:ShC P 79 .scal:=⟨by kernel_rfl⟩
instance i381:ShC P 80 .scal:=⟨by kernel_rfl⟩
instance i382:ShC P 86 .scal:=⟨by kernel_rfl⟩
instance i383:ShC P 87 .scal:=⟨by kernel_rfl⟩
instance i384:ShC P 88 .scal:=⟨by kernel_rfl⟩
instance i385:ShC P 89 .scal:=⟨by kernel_rfl⟩
instance i386:ShC P 90 .scal:=⟨by kernel_rfl⟩
instance i387:ShC P 92 (.agg 1):=⟨by kernel_rfl⟩
instance i395:ShC P 135 (.agg 3):=⟨by kernel_rfl⟩
instance i396:ShC P 142 .scal:=⟨by kernel_rfl⟩
instance i397:ShC P 153 (.agg 1):=⟨by kernel_rfl⟩
instance i398:ShC P 155 .scal:=⟨by kernel_rfl⟩
instance i399:ShC P 158 .scal:=⟨by kernel_rfl⟩
instance i400:ShC P 165 (.agg 5):=⟨by kernel_rfl⟩
instance i401:ShC P 167 .scal:=⟨by kernel_rfl⟩
instance i402:ShC P 191 (.agg 1):=⟨by kernel_rfl⟩
instance i404:ShC P 230 .scal:=⟨by kernel_rfl⟩
instance i405:ShC P 232 .scal:=⟨by kernel_rfl⟩
instance i406:ShC P 254 .scal:=⟨by kernel_rfl⟩
instance i412:OfC P 27 0 0:=⟨by kernel_rfl⟩
instance i413:OfC P 27 1 1:=⟨by kernel_rfl⟩
instance i414:OfC P 27 2 2:=⟨by kernel_rfl⟩
instance i415:OfC P 27 3 3:=⟨by kernel_rfl⟩
instance i416:OfC P 27 4 4:=⟨by kernel_rfl⟩
instance i417:OfC P 27 5 5:=⟨by kernel_rfl⟩
instance i418:OfC P 27 6 6:=⟨by kernel_rfl⟩
instance i419:OfC P 27 7 7:=⟨by kernel_rfl⟩
instance i420:OfC P 30 0 0:=⟨by kernel_rfl⟩
instance i421:OfC P 30 1 1:=⟨by kernel_rfl⟩
instance i422:OfC P 30 2 2:=⟨by kernel_rfl⟩
instance i423:OfC P 47 0 0:=⟨by kernel_rfl⟩
instance i424:OfC P 47 1 1:=⟨by kernel_rfl⟩
instance i425:OfC P 50 0 0:=⟨by kernel_rfl⟩
instance i426:OfC P 50 1 1:=⟨by kernel_rfl⟩
instance i427:OfC P 50 2 3:=⟨by kernel_rfl⟩
instance i428:OfC P 50 3 4:=⟨by kernel_rfl⟩
instance i429:OfC P 50 4 5:=⟨by kernel_rfl⟩
instance i430:OfC P 52 0 0:=⟨by kernel_rfl⟩
instance i431:OfC P 52 1 1:=⟨by kernel_rfl⟩
instance i432:OfC P 52 2 2:=⟨by kernel_rfl⟩
instance i433:OfC P 52 3 3:=⟨by kernel_rfl⟩
instance i434:OfC P 57 0 0:=⟨by kernel_rfl⟩
instance i435:OfC P 57 1 1:=⟨by kernel_rfl⟩
instance i436:OfC P 57 2 2:=⟨by kernel_rfl⟩
instance i437:OfC P 57 3 3:=⟨by kernel_rfl⟩
instance i438:OfC P 57 4 4:=⟨by kernel_rfl⟩
instance i439:OfC P 57 5 5:=⟨by kernel_rfl⟩
instance i440:OfC P 57 6 6:=⟨by kernel_rfl⟩
instance i441:OfC P 57 7 7:=⟨by kernel_rfl⟩
instance i442:OfC P 57 8 8:=⟨by kernel_rfl⟩
instance i443:OfC P 66 0 0:=⟨by kernel_rfl⟩
instance i444:OfC P 66 1 1:=⟨by kernel_rfl⟩
instance i445:OfC P 70 0 0:=⟨by kernel_rfl⟩
instance i446:OfC P 70 1 1:=⟨by kernel_rfl⟩
instance i447:OfC P 70 2 2:=⟨by kernel_rfl⟩
instance i448:OfC P 74 0 0:=⟨by kernel_rfl⟩
instance i449:OfC P 74 1 1:=⟨by kernel_rfl⟩
instance i450:OfC P 74 2 4:=⟨by kernel_rfl⟩
instance i451:OfC P 74 3 5:=⟨by kernel_rfl⟩
instance i452:OfC P 82 0 0:=⟨by kernel_rfl⟩
instance i453:OfC P 82 1 8:=⟨by kernel_rfl⟩
instance i454:OfC P 82 2 9:=⟨by kernel_rfl⟩
instance i455:OfC P 82 3 10:=⟨by kernel_rfl⟩
instance i456:OfC P 92 0 0:=⟨by kernel_rfl⟩
instance i457:OfC P 94 0 0:=⟨by kernel_rfl⟩
instance i458:OfC P 94 1 8:=⟨by kernel_rfl⟩
instance i459:OfC P 94 2 9:=⟨by kernel_rfl⟩
instance i460:OfC P 94 3 10:=⟨by kernel_rfl⟩
instance i461:OfC P 94 4 11:=⟨by kernel_rfl⟩
instance i462:OfC P 94 5 12:=⟨by kernel_rfl⟩
instance i463:OfC P 94 6 13:=⟨by kernel_rfl⟩
instance i464:OfC P 94 7 14:=⟨by kernel_rfl⟩
instance i465:OfC P 94 8 15:=⟨by kernel_rfl⟩
instance i466:OfC P 94 9 16:=⟨by kernel_rfl⟩
instance i467:OfC P 94 10 17:=⟨by kernel_rfl⟩
instance i468:OfC P 94 11 18:=⟨by kernel_rfl⟩
instance i469:OfC P 94 12 19:=⟨by kernel_rfl⟩
instance i470:OfC P 94 13 20:=⟨by kernel_rfl⟩
instance i482:OfC P 135 0 0:=⟨by kernel_rfl⟩
instance i483:OfC P 135 1 1:=⟨by kernel_rfl⟩
instance i484:OfC P 135 2 2:=⟨by kernel_rfl⟩
instance i485:OfC P 144 0 0:=⟨by kernel_rfl⟩
instance i486:OfC P 144 1 8:=⟨by kernel_rfl⟩
instance i487:OfC P 144 2 9:=⟨by kernel_rfl⟩
instance i488:OfC P 153 0 0:=⟨by kernel_rfl⟩
instance i489:OfC P 157 0 0:=⟨by kernel_rfl⟩
instance i490:OfC P 157 1 3:=⟨by kernel_rfl⟩
instance i491:OfC P 160 0 0:=⟨by kernel_rfl⟩
instance i492:OfC P 160 1 1:=⟨by kernel_rfl⟩
instance i493:OfC P 160 2 2:=⟨by kernel_rfl⟩
instance i494:OfC P 160 3 3:=⟨by kernel_rfl⟩
instance i495:OfC P 160 4 4:=⟨by kernel_rfl⟩
instance i496:OfC P 165 0 0:=⟨by kernel_rfl⟩
instance i497:OfC P 165 1 4:=⟨by kernel_rfl⟩
instance i498:OfC P 191 0 0:=⟨by kernel_rfl⟩
instance i501:OfC P 221 0 0:=⟨by kernel_rfl⟩
instance i502:OfC P 221 1 1:=⟨by kernel_rfl⟩
instance i503:OfC P 221 2 2:=⟨by kernel_rfl⟩
instance i506:IxC P 22 (.slice 4):=⟨by kernel_rfl⟩
instance i507:IxC P 23 (.slice 2):=⟨by kernel_rfl⟩
instance i508:IxC P 24 (.slice 6):=⟨by kernel_rfl⟩
instance i509:IxC P 25 (.slice 1):=⟨by kernel_rfl⟩
instance i510:IxC P 28 (.slice 1):=⟨by kernel_rfl⟩
instance i511:IxC P 48 (.slice 2):=⟨by kernel_rfl⟩
instance i512:IxC P 55 (.slice 1):=⟨by kernel_rfl⟩
instance i513:IxC P 58 (.slice 9):=⟨by kernel_rfl⟩
instance i514:IxC P 79 (.slice 3):=⟨by kernel_rfl⟩
instance i515:IxC P 80 (.slice 1):=⟨by kernel_rfl⟩
instance i516:IxC P 88 (.slice 1):=⟨by kernel_rfl⟩
instance i517:IxC P 89 (.slice 1):=⟨by kernel_rfl⟩
instance i518:IxC P 90 (.slice 1):=⟨by kernel_rfl⟩
instance i521:IxC P 146 (.slice 1):=⟨by kernel_rfl⟩
instance i522:IxC P 158 (.slice 4):=⟨by kernel_rfl⟩
instance i530:SlC P 23 66 2:=⟨by kernel_rfl⟩
instance i532:SlC P 55 3 1:=⟨by kernel_rfl⟩
instance i533:SlC P 90 167 1:=⟨by kernel_rfl⟩
instance i535:SlC P 158 157 4:=⟨by kernel_rfl⟩
instance i536:UnC P 4 .bool:=⟨by kernel_rfl⟩
instance i537:UnC P 9 .string:=⟨by kernel_rfl⟩
instance i538:UnC P 22 (.slice 52):=⟨by kernel_rfl⟩
instance i539:UnC P 23 (.slice 66):=⟨by kernel_rfl⟩
instance i540:UnC P 24 (.slice 50):=⟨by kernel_rfl⟩
instance i541:UnC P 25 (.slice 9):=⟨by kernel_rfl⟩
instance i542:UnC P 28 (.slice 58):=⟨by kernel_rfl⟩
instance i543:UnC P 34 (.pointer 94):=⟨by kernel_rfl⟩
instance i544:UnC P 35 (.pointer 82):=⟨by kernel_rfl⟩
instance i545:UnC P 48 (.slice 47):=⟨by kernel_rfl⟩
instance i546:UnC P 55 (.slice 3):=⟨by kernel_rfl⟩
instance i547:UnC P 58 (.slice 57):=⟨by kernel_rfl⟩
instance i548:UnC P 79 (.slice 135):=⟨by kernel_rfl⟩
instance i549:UnC P 80 (.slice 55):=⟨by kernel_rfl⟩
instance i550:UnC P 88 (.slice 92):=⟨by kernel_rfl⟩
instance i551:UnC P 89 (.slice 88):=⟨by kernel_rfl⟩
instance i552:UnC P 90 (.slice 167):=⟨by kernel_rfl⟩
instance i556:UnC P 146 (.slice 1):=⟨by kernel_rfl⟩
instance i559:IfC P 20:=⟨by kernel_rfl⟩
instance i562:MsC P 86 (.int .i64 0):=⟨9,3,by kernel_rfl,by kernel_rfl,by kernel_rfl⟩
instance i563:MsC P 87 (.int .i64 0):=⟨9,3,by kernel_rfl,by kernel_rfl,by kernel_rfl⟩
instance i569:IkC P 202 .u64:=⟨by kernel_rfl⟩
instance i571:ApC P 22 22 52 4:=⟨by kernel_rfl⟩
instance i572:ApC P 23 23 66 2:=⟨by kernel_rfl⟩
instance i573:ApC P 24 24 50 6:=⟨by kernel_rfl⟩
instance i574:ApC P 25 25 9 1:=⟨by kernel_rfl⟩
instance i576:ApC P 48 48 47 2:=⟨by kernel_rfl⟩
instance i577:ApC P 55 55 3 1:=⟨by kernel_rfl⟩
instance i579:ApC P 79 79 135 3:=⟨by kernel_rfl⟩
instance i580:ApC P 80 80 55 1:=⟨by kernel_rfl⟩
instance i581:ApC P 88 88 92 1:=⟨by kernel_rfl⟩
instance i582:ApC P 89 89 88 1:=⟨by kernel_rfl⟩
instance i583:ApC P 90 90 167 1:=⟨by kernel_rfl⟩
instance i585:ApC P 158 158 157 4:=⟨by kernel_rfl⟩
instance i587:PlC P 3:=⟨by kernel_rfl⟩
instance i590:PlC P 70:=⟨by kernel_rfl⟩
instance i593:PlC P 153:=⟨by kernel_rfl⟩
instance i595:PlC P 191:=⟨by kernel_rfl⟩
instance i603:ZeC P 3 [.int .i64 0]:=⟨.int .i64 0,by kernel_rfl,rfl⟩
instance i604:ZeC P 4 [.bool false]:=⟨.bool false,by kernel_rfl,rfl⟩
instance i605:ZeC P 9 [str []]:=⟨str [],by kernel_rfl,rfl⟩
instance i606:ZeC P 25 [.slice none 0 0]:=⟨.slice none 0 0,by kernel_rfl,rfl⟩
instance i607:ZeC P 27 [str [],.slice none 0 0,.slice none 0 0,.slice none 0 0,.slice none 0 0,str [],.slice none 0 0,.int .i64 0]:=⟨.agg ⟨[str [],.slice none 0 0,.slice none 0 0,.slice none 0 0,.slice none 0 0,str [],.slice none 0 0,.int .i64 0]⟩,by kernel_rfl,rfl⟩
instance i609:ZeC P 38 [.int .i64 0]:=⟨.int .i64 0,by kernel_rfl,rfl⟩
instance i610:ZeC P 47 [str [],str []]:=⟨.agg ⟨[str [],str []]⟩,by kernel_rfl,rfl⟩
instance i611:ZeC P 50 [str [],str [],str [],.slice none 0 0,.int .i64 0,.slice none 0 0]:=⟨.agg ⟨[str [],str [],str [],.slice none 0 0,.int .i64 0,.slice none 0 0]⟩,by kernel_rfl,rfl⟩
instance i612:ZeC P 52 [str [],.int .i64 0,.int .i64 0,.slice none 0 0]:=⟨.agg ⟨[str [],.int .i64 0,.int .i64 0,.slice none 0 0]⟩,by kernel_rfl,rfl⟩
instance i613:ZeC P 57 [.int .i64 0,.int .i64 0,.int .i64 0,.int .i64 0,.int .i64 0,str [],.slice none 0 0,.int .i64 0,.int .i64 0]:=⟨.agg ⟨[.int .i64 0,.int .i64 0,.int .i64 0,.int .i64 0,.int .i64 0,str [],.slice none 0 0,.int .i64 0,.int .i64 0]⟩,by kernel_rfl,rfl⟩
instance i614:ZeC P 66 [str [],.slice none 0 0]:=⟨.agg ⟨[str [],.slice none 0 0]⟩,by kernel_rfl,rfl⟩
instance i615:ZeC P 70 [.int .i64 0,.int .i64 0,.int .i64 0]:=⟨.agg ⟨[.int .i64 0,.int .i64 0,.int .i64 0]⟩,by kernel_rfl,rfl⟩
instance i616:ZeC P 79 [.slice none 0 0]:=⟨.slice none 0 0,by kernel_rfl,rfl⟩
instance i617:ZeC P 92 [.slice none 0 0]:=⟨.agg ⟨[.slice none 0 0]⟩,by kernel_rfl,rfl⟩
instance i619:ZeC P 135 [.int .i64 0,.int .i64 0,.int .i64 0]:=⟨.agg ⟨[.int .i64 0,.int .i64 0,.int .i64 0]⟩,by kernel_rfl,rfl⟩
instance i620:ZeC P 142 [.pointer none]:=⟨.pointer none,by kernel_rfl,rfl⟩
instance i621:ZeC P 153 [.int .i64 0]:=⟨.agg ⟨[.int .i64 0]⟩,by kernel_rfl,rfl⟩
instance i622:ZeC P 155 [.pointer none]:=⟨.pointer none,by kernel_rfl,rfl⟩
instance i623:ZeC P 165 [str [],.int .i64 0,.int .i64 0,.slice none 0 0,.int .i64 0]:=⟨.agg ⟨[str [],.int .i64 0,.int .i64 0,.slice none 0 0,.int .i64 0]⟩,by kernel_rfl,rfl⟩
instance i624:ZeC P 191 [.int .i64 0]:=⟨.agg ⟨[.int .i64 0]⟩,by kernel_rfl,rfl⟩
instance i632 {x1:ByteArray}:BdC P 47 [(0,.string x1)] [.string x1,str []]:=⟨by kernel_rfl⟩
instance i640 {x1:Int} {x2:Int} {x3:Int}:BdC P 70 [(0,.int .i64 x1),(1,.int .i64 x2),(2,.int .i64 x3)] [.int .i64 x1,.int .i64 x2,.int .i64 x3]:=⟨by kernel_rfl⟩
instance i641 {x1:Option Addr} {x2:Value} {x3:Value} {x4:Value}:BdC P 74 [(0,.pointer x1),(1,.agg ⟨[x2,x3,x4]⟩)] [.pointer x1,x2,x3,x4,.int .i64 0,.int .i64 0]:=⟨by kernel_rfl⟩
instance i642 {x1:Value} {x2:Value} {x3:Value} {x4:Value} {x5:Value} {x6:Value} {x7:Value} {x8:Value} {x9:Option Addr} {x10:Nat} {x11:Nat} {x12:Option Addr} {x13:Nat} {x14:Nat}:BdC P 82 [(0,.agg ⟨[x1,x2,x3,x4,x5,x6,x7,x8]⟩),(1,.slice x9 x10 x11),(2,.slice x12 x13 x14)] [x1,x2,x3,x4,x5,x6,x7,x8,.slice x9 x10 x11,.slice x12 x13 x14,.slice none 0 0]:=⟨by kernel_rfl⟩
instance i643 {x1:Option Addr} {x2:Nat} {x3:Nat}:BdC P 92 [(0,.slice x1 x2 x3)] [.slice x1 x2 x3]:=⟨by kernel_rfl⟩
instance i644 {x1:Value} {x2:Value} {x3:Value} {x4:Value} {x5:Value} {x6:Value} {x7:Value} {x8:Value}:BdC P 94 [(0,.agg ⟨[x1,x2,x3,x4,x5,x6,x7,x8]⟩)] [x1,x2,x3,x4,x5,x6,x7,x8,.slice none 0 0,.slice none 0 0,.map none,.map none,.map none,.slice none 0 0,.slice none 0 0,.slice none 0 0,.slice none 0 0,.slice none 0 0,.slice none 0 0,.slice none 0 0,.slice none 0 0]:=⟨by kernel_rfl⟩
instance i648 {x1:Int} {x2:Int} {x3:Int}:BdC P 135 [(0,.int .i64 x1),(1,.int .i64 x2),(2,.int .i64 x3)] [.int .i64 x1,.int .i64 x2,.int .i64 x3]:=⟨by kernel_rfl⟩
instance i649 {x1:Value} {x2:Value} {x3:Value} {x4:Value} {x5:Value} {x6:Value} {x7:Value} {x8:Value}:BdC P 144 [(0,.agg ⟨[x1,x2,x3,x4,x5,x6,x7,x8]⟩)] [x1,x2,x3,x4,x5,x6,x7,x8,.slice none 0 0,.slice none 0 0]:=⟨by kernel_rfl⟩
instance i650 {x1:Int}:BdC P 153 [(0,.int .i64 x1)] [.int .i64 x1]:=⟨by kernel_rfl⟩
instance i651  : BdC P 157 [] [.int .i64 0,.int .i64 0,.int .i64 0,.slice none 0 0]:=⟨by kernel_rfl⟩
instance i652 {x1:Value} {x2:Value} {x3:Value}:BdC P 157 [(0,.agg ⟨[x1,x2,x3]⟩)] [x1,x2,x3,.slice none 0 0]:=⟨by kernel_rfl⟩
instance i653 {x1:Option Nat} {x2:Option Addr} {x3:Nat} {x4:Nat}:BdC P 160 [(2,.map x1),(3,.slice x2 x3 x4)] [.slice none 0 0,.slice none 0 0,.map x1,.slice x2 x3 x4,.int .i64 0]:=⟨by kernel_rfl⟩
instance i654 {x1:Value} {x2:Value} {x3:Value} {x4:Value} {x5:Int}:BdC P 165 [(0,.agg ⟨[x1,x2,x3,x4]⟩),(1,.int .i64 x5)] [x1,x2,x3,x4,.int .i64 x5]:=⟨by kernel_rfl⟩
instance i655 {x1:Int}:BdC P 191 [(0,.int .i64 x1)] [.int .i64 x1]:=⟨by kernel_rfl⟩
instance i658  : BdC P 221 [] [.slice none 0 0,.slice none 0 0,.int .i64 0]:=⟨by kernel_rfl⟩
instance i661  : BsC P 22 0 [] []:=⟨by kernel_rfl⟩
instance i663  : BsC P 23 0 [] []:=⟨by kernel_rfl⟩
instance i665  : BsC P 24 0 [] []:=⟨by kernel_rfl⟩
instance i667  : BsC P 25 0 [] []:=⟨by kernel_rfl⟩
instance i668 {x1:ByteArray}:BsC P 25 1 [(0,.string x1)] [.string x1]:=⟨by kernel_rfl⟩
instance i672 {x1:ByteArray} {x2:ByteArray} {x3:ByteArray} {x4:ByteArray} {x5:ByteArray} {x6:ByteArray} {x7:ByteArray} {x8:ByteArray} {x9:ByteArray} {x10:ByteArray} {x11:ByteArray}:BsC P 25 11 [(0,.string x1),(1,.string x2),(2,.string x3),(3,.string x4),(4,.string x5),(5,.string x6),(6,.string x7),(7,.string x8),(8,.string x9),(9,.string x10),(10,.string x11)] [.string x1,.string x2,.string x3,.string x4,.string x5,.string x6,.string x7,.string x8,.string x9,.string x10,.string x11]:=⟨by kernel_rfl⟩
instance i674  : BsC P 48 0 [] []:=⟨by kernel_rfl⟩
instance i675 {x1:Value} {x2:Value}:BsC P 48 1 [(0,.agg ⟨[x1,x2]⟩)] [x1,x2]:=⟨by kernel_rfl⟩
instance i677  : BsC P 55 0 [] []:=⟨by kernel_rfl⟩
instance i678 {x1:Int}:BsC P 55 1 [(0,.int .i64 x1)] [.int .i64 x1]:=⟨by kernel_rfl⟩
instance i679 {x1:Int} {x2:Int}:BsC P 55 2 [(0,.int .i64 x1),(1,.int .i64 x2)] [.int .i64 x1,.int .i64 x2]:=⟨by kernel_rfl⟩
instance i682 {x1:Value} {x2:Value} {x3:Value}:BsC P 79 1 [(0,.agg ⟨[x1,x2,x3]⟩)] [x1,x2,x3]:=⟨by kernel_rfl⟩
instance i683 {x1:Value} {x2:Value} {x3:Value} {x4:Value} {x5:Value} {x6:Value}:BsC P 79 2 [(0,.agg ⟨[x1,x2,x3]⟩),(1,.agg ⟨[x4,x5,x6]⟩)] [x1,x2,x3,x4,x5,x6]:=⟨by kernel_rfl⟩
instance i684 {x1:Option Addr} {x2:Nat} {x3:Nat}:BsC P 80 1 [(0,.slice x1 x2 x3)] [.slice x1 x2 x3]:=⟨by kernel_rfl⟩
instance i685 {x1:Option Addr} {x2:Nat} {x3:Nat} {x4:Option Addr} {x5:Nat} {x6:Nat}:BsC P 80 2 [(0,.slice x1 x2 x3),(1,.slice x4 x5 x6)] [.slice x1 x2 x3,.slice x4 x5 x6]:=⟨by kernel_rfl⟩
instance i686 {x1:Value}:BsC P 88 1 [(0,.agg ⟨[x1]⟩)] [x1]:=⟨by kernel_rfl⟩
instance i687 {x1:Option Addr} {x2:Nat} {x3:Nat}:BsC P 89 1 [(0,.slice x1 x2 x3)] [.slice x1 x2 x3]:=⟨by kernel_rfl⟩
instance i688 {x1:Int}:BsC P 90 1 [(0,.int .u64 x1)] [.int .u64 x1]:=⟨by kernel_rfl⟩
instance i690 {x1:Fn} {x2:Array Value} {x3:Array Value} {x4:Fn} {x5:Array Value} {x6:Array Value} {x7:Fn} {x8:Array Value} {x9:Array Value} {x10:Fn} {x11:Array Value} {x12:Array Value} {x13:Fn} {x14:Array Value} {x15:Array Value}:BsC P 146 5 [(0,.func x1 x2 x3),(1,.func x4 x5 x6),(2,.func x7 x8 x9),(3,.func x10 x11 x12),(4,.func x13 x14 x15)] [.func x1 x2 x3,.func x4 x5 x6,.func x7 x8 x9,.func x10 x11 x12,.func x13 x14 x15]:=⟨by kernel_rfl⟩
instance i691 {x1:Value} {x2:Value} {x3:Value} {x4:Value}:BsC P 158 1 [(0,.agg ⟨[x1,x2,x3,x4]⟩)] [x1,x2,x3,x4]:=⟨by kernel_rfl⟩
end
end Go.Proofs.YtmccnilgnlaffaaGreatDoor
namespace Go.Ex.M
section
structure Pl where
  root:Int
  at_:Int
  width:Int
 deriving DecidableEq
abbrev plC(p:Pl):List Value:=[I64 p.root,I64 p.at_,I64 p.width]
abbrev plV(p:Pl):Value:=.agg ⟨plC p⟩
def Go64(x:Int):Prop:= -9223372036854775808≤x∧x<9223372036854775808
def PlOK(p:Pl):Prop:=Go64 p.at_∧Go64 p.width
def lapP(a b:Pl):Prop:=a.root=b.root∧1≤a.width∧1≤b.width∧(if b.at_<a.at_ then a.at_ - b.at_<b.width else b.at_ - a.at_<a.width)
instance (a b:Pl):Decidable (lapP a b):=by unfold lapP;exact inferInstance
def sP(a b:Pl):Bool:=decide (lapP a b)
theorem lap_u{a b c:Int}(ha:Go64 a)(hb:Go64 b)(hc:Go64 c)(h1:1≤c)(h:a≤b):(IntKind.wrap .u64 (IntKind.wrap .u64 b - IntKind.wrap .u64 a)<IntKind.wrap .u64 c)↔b - a<c:=by
 unfold Go64 at *;have e:∀x:Int,IntKind.wrap .u64 x=x % 18446744073709551616:=λx=>rfl;rw [e,e,e,e];omega
def withinP(a b:Pl):Prop:=a.root=b.root∧(a.width<1∨(1≤b.width∧b.at_≤a.at_∧a.at_ - b.at_≤b.width∧a.width≤b.width - (a.at_ - b.at_)))
instance (a b:Pl):Decidable (withinP a b):=by unfold withinP;exact inferInstance
def withinB(a b:Pl):Bool:=decide (withinP a b)
theorem le_u{a b c:Int}(ha:Go64 a)(hb:Go64 b)(hc:Go64 c)(h1:1≤c)(h:a≤b):(IntKind.wrap .u64 (IntKind.wrap .u64 b - IntKind.wrap .u64 a)≤IntKind.wrap .u64 c)↔b - a≤c:=by
 unfold Go64 at *;have e:∀x:Int,IntKind.wrap .u64 x=x % 18446744073709551616:=λx=>rfl;rw [e,e,e,e];omega
theorem within_u{a b c w:Int}(ha:Go64 a)(hb:Go64 b)(hc:Go64 c)(hw:Go64 w)(h1:1≤c)(h2:1≤w)(h:a≤b)(h3:b - a≤c):(IntKind.wrap .u64 w≤IntKind.wrap .u64 (IntKind.wrap .u64 c - IntKind.wrap .u64 (IntKind.wrap .u64 b - IntKind.wrap .u64 a)))↔w≤c - (b - a):=by
 unfold Go64 at *;have e:∀x:Int,IntKind.wrap .u64 x=x % 18446744073709551616:=λx=>rfl;rw [e,e,e,e,e,e];omega
theorem lap_fin{z:Bool}{a b:Pl}{h h':zB}{n n':Nat}(hz:z=true↔lapP a b)(ht:Tch [] h n h' n'):Out.ret (.bool z)=Out.ret (.bool (sP a b))∧Tch [] h n h' n':=⟨by
 unfold sP
 cases z with
 | true=>rw [decide_eq_true (hz.1 rfl)]
 | false=>rw [decide_eq_false λe=>Bool.noConfusion (hz.2 e)],ht⟩
theorem within_fin{z:Bool}{a b:Pl}{h h':zB}{n n':Nat}(hz:z=true↔withinP a b)(ht:Tch [] h n h' n'):Out.ret (.bool z)=Out.ret (.bool (withinB a b))∧Tch [] h n h' n':=⟨by
 unfold withinB
 cases z with
 | true=>rw [decide_eq_true (hz.1 rfl)]
 | false=>rw [decide_eq_false λe=>Bool.noConfusion (hz.2 e)],ht⟩
end
section
abbrev Tx:=List UInt8
def letB(c:Nat):Bool:=decide ((97≤c∧c≤122)∨(65≤c∧c≤90)∨c=95)
def digB(c:Nat):Bool:=decide (48≤c∧c≤57)
def tailB(s:Tx):Bool:=s.all λc=>letB c.toNat || digB c.toNat
def nameB:Tx→Bool
 | []=>false
 | c::r=>decide ((c::r).length≤20) && letB c.toNat && tailB (c::r)
def pos(ss:List Tx)(x:Tx):Int:=if x∈ss then(ss.idxOf x:Nat) else -1
theorem pos_hit{ss:List Tx}{x:Tx}{k:Nat}(hk:ss[k]? = some x)(dY:∀j,j<k→ss[j]?≠some x):pos ss x=(k:Nat):=by
 have hm:x∈ss:=aj.2 ⟨k,hk⟩;unfold pos;rw [if_pos hm];have h1:ss.idxOf x<ss.length:=ba.2 hm;have h2:ss[ss.idxOf x]? = some x:=by rw[aa h1,dw h1]
 rcases bS (ss.idxOf x) k with h|h|h
 · exact absurd h2 (dY _ h)
 · rw[h]
 · have:=bY (p:=(· == x)) h;rw [ab]at hk;obtain⟨hk1,hk2⟩:=hk;simp [hk2]at this
theorem pos_no{ss:List Tx}{x:Tx}(dY:∀j,j<ss.length→ss[j]?≠some x):pos ss x = -1:=by
 unfold pos
 rw[if_neg λhm=>by
  obtain⟨k,hk⟩:=aj.1 hm;exact dY k (ab.1 hk).1 hk]
theorem pos_ge{ss:List Tx}{x:Tx}:0≤pos ss x↔x∈ss:=by
 unfold pos;split <;> rename_i h
 · exact⟨λ_=>h,λ_=>by omega⟩
 · exact⟨λh2=>by omega,λh2=>absurd h2 h⟩
theorem str_at{ss:List Tx}{k:Nat}(h:k<ss.length):(ss.map str)[k]? = some (str ss[k]):=by rw[ap,aa h];rfl
end
section
theorem finB{z:Bool}{p:Prop}{_i:Decidable p}{h:zB}{n:Nat}(hz:z=true↔p):Out.ret (.bool z)=Out.ret (.bool (decide p))∧h=h∧n=n:=⟨by
 cases z with
 | true=>rw [decide_eq_true (hz.1 rfl)]
 | false=>rw [decide_eq_false λe=>Bool.noConfusion (hz.2 e)],rfl,rfl⟩
theorem fin{v w:Value}{h:zB}{n:Nat}(e:v=w):Out.ret v=Out.ret w∧h=h∧n=n:=⟨by rw[e],rfl,rfl⟩
theorem finT{S:List Nat}{v w:Value}{h h':zB}{n n':Nat}(e:v=w)(t:Tch S h n h' n'):Out.ret v=Out.ret w∧Tch S h n h' n':=⟨by rw[e],t⟩
def wordsL:List Tx:=[[109,97,99,104,105,110,101],[114,101,103],[97,116],[99,108,97,115,115],[111,112],[116,105,101],[99,108,111,98],[97,114,103,115],[114,101,115,117,108,116],[115,97,118,101,100],[115,108,111,116,115]]
def wordB(s:Tx):Bool:=decide (s∈wordsL)
def named(s:Tx):Bool:=nameB s && !wordB s
def posF{α : Type}(p: α→Bool)(l:List α):Int:=if l.any p then(l.findIdx p:Nat) else -1
theorem posF_hit{α : Type}{p: α→Bool}{l:List α}{k:Nat}{x: α}(hk:l[k]? = some x)(hx:p x=true)(dY:∀(j:Nat) (y: α),j<k→l[j]? = some y→p y=false):posF p l=(k:Nat):=by
 obtain⟨h1,h2⟩:=ab.1 hk;unfold posF;rw [if_pos (aq.2 ⟨x,h2 ▸ aR h1,hx⟩)];congr 1
 rw[List.findIdx_eq h1];refine⟨by rw[h2];exact hx,λj hj=>?_⟩;exact dY j _ hj (aa _)
theorem posF_no{α : Type}{p: α→Bool}{l:List α}(dY:∀(j:Nat) (y: α),l[j]? = some y→p y=false):posF p l = -1:=by
 unfold posF;rw [if_neg];intro h;obtain⟨x,h1,h2⟩:=aq.1 h;obtain⟨j,hj⟩:=aj.1 h1;rw [dY j x hj]at h2;cases h2
theorem posF_ge{α : Type}{p: α→Bool}{l:List α}:0≤posF p l↔l.any p=true:=by
 unfold posF;split <;> rename_i h
 · exact⟨λ_=>h,λ_=>by omega⟩
 · exact⟨λh2=>by omega,λh2=>absurd h2 h⟩
theorem tK{α : Type}{f: α→List Value}{sz:Nat}(hf:∀x,(f x).length=sz):∀{l:List α} {k j:Nat} {x: α} {v:Value},l[k]? = some x→(f x)[j]? = some v→(l.flatMap f)[k*sz+j]? = some v:=by
 intro l
 induction l with
 | nil=>intro k j x v h;cases h
 | cons y r ih =>
  intro k j x v h1 h2;rw [bu]
  cases k with
  | zero=>
   cases h1
   rw[bB,aG,ax (ab.1 h2).1];exact h2
  | succ k=>
   rw[bL]at h1;rw [au (by rw[hf];have:=Nat.add_one_mul k sz;omega),hf,show(k+1)*sz+j - sz=k*sz+j by have:=Nat.add_one_mul k sz;omega];exact ih h1 h2
theorem flat_len{α : Type}{f: α→List Value}{sz:Nat}(hf:∀x,(f x).length=sz)(l:List α):(l.flatMap f).length=l.length*sz:=by
 induction l with
 | nil=>simp
 | cons y r ih=>rw [bu,ak,hf,ih,a7,cd];omega
theorem rd_of{h:zB}{b:Nat}:∀{sz o:Nat} {vs:List Value},vs.length=sz→(∀j v,vs[j]? = some v→zC h b (o+j)=some v)→Rd h b o sz vs:=by
 intro sz
 induction sz with
 | zero=>intro o vs h1 _;exact aH.1 h1
 | succ k ih=>
  intro o vs h1 h2
  cases vs with
  | nil=>cases h1
  | cons x r=>exact⟨x,r,rfl,h2 0 x rfl,ih (by simpa using h1) λj v hj=>by have:=h2 (j+1) v (by simpa using hj);rwa [show o+(j+1)=o+1+j by omega]at this⟩
theorem zK{α : Type}{f: α→List Value}{sz lo e len:Nat}{h:zB}{v:Value}{l:List α}{k:Nat}{x: α}(r:Row lo h v e sz len (l.flatMap f))(hk:l[k]? = some x)(hf:∀x,(f x).length=sz:=by intro _;rfl):Rd h (sbk v) (sof v+k*sz) sz (f x):=
 rd_of (hf x) λj w hj=>by rw[Nat.add_assoc];exact r.at (tK hf hk hj)
theorem xF{α : Type}{g: α→Value}{lo e len:Nat}{h:zB}{v:Value}{l:List α}{k:Nat}{x: α}(r:Row lo h v e 1 len (l.map g))(hk:l[k]? = some x):zC h (sbk v) (sof v+k*1)=some (g x):=by
 rw[aP];exact r.at (by rw[ap,hk];rfl)
theorem tail_step{s:Tx}{k:Nat}(h:k<s.length):tailB s=true→letB s[k].toNat=true∨digB s[k].toNat=true:=λht=>by
 have:=ay.1 ht s[k] (aR h);simpa using this
theorem tail_all{s:Tx}(dY:∀j (hj:j<s.length),letB s[j].toNat=true∨digB s[j].toNat=true):tailB s=true:=by
 refine ay.2 λc hc=>?_;obtain⟨j,hj,rfl⟩:=List.mem_iff_getElem.1 hc;have:=dY j hj;simpa using this
end
section
structure ClassT where
 name:Tx
 rsv:Value
 regs:List Tx
structure OperT where
  cls:Tx
  fix:Tx
 deriving DecidableEq
structure OpT where
 name:Tx
 d:OperT
 usv:Value
 uses:List OperT
 tie:Int
 csv:Value
 clob:List Tx
inductive RegT where
 | mk (name:Tx) (w a:Int) (sv:Value) (subs:List RegT)
structure MachT where
 name:Tx
 rsv:Value
 regs:List RegT
 csv:Value
 classes:List ClassT
 osv:Value
 ops:List OpT
 asv:Value
 args:List Tx
 result:Tx
 ssv:Value
 saved:List Tx
 slots:Int
def RegT.name:RegT→Tx | .mk n _ _ _ _=>n
def RegT.w:RegT→Int | .mk _ w _ _ _=>w
def RegT.a:RegT→Int | .mk _ _ a _ _=>a
def RegT.sv:RegT→Value | .mk _ _ _ s _=>s
def RegT.subs:RegT→List RegT | .mk _ _ _ _ l=>l
abbrev regC(r:RegT):List Value:=[str r.name,I64 r.w,I64 r.a,r.sv]
abbrev clsC(c:ClassT):List Value:=[str c.name,c.rsv]
abbrev oprC(o:OperT):List Value:=[str o.cls,str o.fix]
abbrev opC(o:OpT):List Value:=[str o.name,str o.d.cls,str o.d.fix,o.usv,I64 o.tie,o.csv]
abbrev yU(m:MachT):List Value:=[str m.name,m.rsv,m.csv,m.osv,m.asv,str m.result,m.ssv,I64 m.slots]
def RowA(lo:Nat)(h:zB)(v:Value)(sz len:Nat)(vs:List Value):Prop:=∀e,Row lo h v e sz len vs
theorem RowA.lt{lo:Nat}{h:zB}{v:Value}{sz len:Nat}{vs:List Value}(r:RowA lo h v sz len vs):len<inf:=by
 rcases r 0 with⟨_,rfl,_⟩|⟨b,off,cap,m,z,kd,_,rfl,_,h1,_,_,h2⟩
 · decide
 · rcases h2 with h2|⟨rfl,rfl,rfl,h3⟩
   · omega
   · rcases r 1 with⟨h4,_⟩|⟨b',off',cap',m',z',kd',_,h4,_,h5,_,_,h6⟩
     · cases h4
     · injection h4 with h7 h8 h9
       injection h7 with h7;injection h7 with h7 _
       subst h7 h9;rw [h1]at h5;injection h5 with h5
       injection h5 with _ h5
       injection h5 with h5 _
       subst h5;rcases h6 with h6|⟨_,_,h6,_⟩
       · omega
       · have:=(zc_inj h6).1;omega
structure RowI (lo:Nat) (h:zB) (v:Value) (sz len:Nat) (vs:List Value):Prop where
 lt:len<inf
 ex:∃e,Row lo h v e sz len vs
instance {lo:Nat} {h:zB} {v:Value} {sz len:Nat} {vs:List Value}:CoeFun (RowI lo h v sz len vs) (λr=>Nat→Row lo h v r.ex.choose sz len vs):=⟨λr _=>r.ex.choose_spec⟩
structure RowT (e lo:Nat) (h:zB) (v:Value) (sz len:Nat) (vs:List Value):Prop where
 lt:len<inf
 r:Row lo h v e sz len vs
instance {e lo:Nat} {h:zB} {v:Value} {sz len:Nat} {vs:List Value}:CoeFun (RowT e lo h v sz len vs) (λ_=>Nat→Row lo h v e sz len vs):=⟨λr _=>r.r⟩
section
variable {e lo:Nat} {h h':zB} {v:Value} {sz len n n':Nat} {vs:List Value}
theorem RowA.toI(r:RowA lo h v sz len vs):RowI lo h v sz len vs:=⟨r.lt,0,r 0⟩
theorem RowA.toT(r:RowA lo h v sz len vs):RowT e lo h v sz len vs:=⟨r.lt,r e⟩
theorem RowT.toI(r:RowT e lo h v sz len vs):RowI lo h v sz len vs:=⟨r.lt,e,r.r⟩
theorem RowA.tch(r:RowA lo h v sz len vs)(t:Tch [] h n h' n')(hl:lo≤n):RowA lo h' v sz len vs:=λe=>(r e).tch t hl λ_ _ hx=>by cases hx
theorem RowA.tchE(r:RowA lo h v sz len vs)(t:Tch [] h n h' n')(hl:lo≤n):Row lo h' v 0 sz len vs:=(r 0).tch t hl λ_ _ hx=>by cases hx
theorem RowI.tch(r:RowI lo h v sz len vs)(t:Tch [] h n h' n')(hl:lo≤n):RowI lo h' v sz len vs:=⟨r.lt,_,(r 0).tch t hl λ_ _ hx=>by cases hx⟩
theorem RowI.tchE(r:RowI lo h v sz len vs)(t:Tch [] h n h' n')(hl:lo≤n):Row lo h' v r.ex.choose sz len vs:=(r 0).tch t hl λ_ _ hx=>by cases hx
theorem RowT.tchE(r:RowT e lo h v sz len vs)(t:Tch [] h n h' n')(hl:lo≤n):Row lo h' v e sz len vs:=r.r.tch t hl λ_ _ hx=>by cases hx
theorem RowT.tch(r:RowT e lo h v sz len vs)(t:Tch [] h n h' n')(hl:lo≤n):RowT e lo h' v sz len vs:=⟨r.lt,r.tchE t hl⟩
end
def RegsM(lo:Nat)(h:zB)(sv:Value)(l:List RegT):Prop:=RowT 52 lo h sv 4 l.length (l.flatMap regC)∧∀r,(_:r∈l)→RegsM lo h r.sv r.subs
 termination_by SizeOf.sizeOf l
 decreasing_by
  rename_i hr;have h1:=cS hr;cases r
  simp only[RegT.subs];simp at h1;omega
theorem RegsM.row{lo:Nat}{h:zB}{sv:Value}{l:List RegT}(r:RegsM lo h sv l):RowT 52 lo h sv 4 l.length (l.flatMap regC):=by unfold RegsM at r;exact r.1
theorem RegsM.sub{lo:Nat}{h:zB}{sv:Value}{l:List RegT}(r:RegsM lo h sv l){x:RegT}(hx:x∈l):RegsM lo h x.sv x.subs:=by unfold RegsM at r;exact r.2 x hx
theorem RegsM.tch{lo n n':Nat}{h h':zB}(t:Tch [] h n h' n')(hl:lo≤n):∀{sv:Value} {l:List RegT},RegsM lo h sv l→RegsM lo h' sv l:=by
  intro sv l r;unfold RegsM at r ⊢;exact⟨r.1.tch t hl,λx hx=>RegsM.tch t hl (r.2 x hx)⟩
 termination_by sv l=>SizeOf.sizeOf l
 decreasing_by
  have h1:=cS hx;cases x
  simp only[RegT.subs];simp at h1;omega
structure MachM (lo:Nat) (h:zB) (m:MachT):Prop where
 regs:RegsM lo h m.rsv m.regs
 cls:RowA lo h m.csv 2 m.classes.length (m.classes.flatMap clsC)
 clsr:∀c∈m.classes,RowT 9 lo h c.rsv 1 c.regs.length (c.regs.map str)
 ops:RowA lo h m.osv 6 m.ops.length (m.ops.flatMap opC)
 opsu:∀o∈m.ops,RowA lo h o.usv 2 o.uses.length (o.uses.flatMap oprC)
 opsc:∀o∈m.ops,RowA lo h o.csv 1 o.clob.length (o.clob.map str)
 args:RowA lo h m.asv 1 m.args.length (m.args.map str)
 saved:RowA lo h m.ssv 1 m.saved.length (m.saved.map str)
 slots:Go64 m.slots
theorem MachM.tch{lo n n':Nat}{h h':zB}{m:MachT}(t:Tch [] h n h' n')(hl:lo≤n)(r:MachM lo h m):MachM lo h' m:=
 ⟨RegsM.tch t hl r.regs,r.cls.tch t hl,λc hc=>(r.clsr c hc).tch t hl,r.ops.tch t hl,λc hc=>(r.opsu c hc).tch t hl,λc hc=>(r.opsc c hc).tch t hl,r.args.tch t hl,r.saved.tch t hl,r.slots⟩
def ar2:List Tx:=[[97,100,100],[115,117,98],[109,117,108],[97,110,100],[111,114],[120,111,114],[115,104,108],[115,104,114],[100,105,118],[114,101,109],[108,116],[101,113]]
def arity(s:Tx):Int:=if s∈ar2 then 2 else if s=[110,111,116] then 1 else 0
end
section
def vD:Nat:=1125899906842624
def TxtR(l:List RegT):Prop:=l.length<vD∧∀r,(_:r∈l)→r.name.length<vD∧TxtR r.subs
 termination_by SizeOf.sizeOf l
 decreasing_by
  rename_i hr;have h1:=cS hr;cases r
  simp only[RegT.subs];simp at h1;omega
theorem TxtR.at{l:List RegT}(k:TxtR l){r:RegT}(hr:r∈l):r.name.length<vD∧TxtR r.subs:=by unfold TxtR at k;exact k.2 r hr
theorem TxtR.len{l:List RegT}(k:TxtR l):l.length<vD:=by unfold TxtR at k;exact k.1
theorem TxtR.mk{l:List RegT}(h:l.length<vD)(k:∀r∈l,r.name.length<vD∧TxtR r.subs):TxtR l:=by unfold TxtR;exact⟨h,k⟩
def TxtL(l:List Tx):Prop:=l.length<vD∧∀x∈l,x.length<vD
structure TxtM (m:MachT):Prop where
 nm:m.name.length<vD
 rg:TxtR m.regs
 cll:m.classes.length<vD
 cl:∀c∈m.classes,c.name.length<vD∧TxtL c.regs
 opl:m.ops.length<vD
 op:∀o∈m.ops,o.name.length<vD∧o.d.cls.length<vD∧o.d.fix.length<vD∧o.uses.length<vD∧(∀x∈o.uses,x.cls.length<vD∧x.fix.length<vD)∧TxtL o.clob
 ar:TxtL m.args
 re:m.result.length<vD
 sv:TxtL m.saved
end
end Go.Ex.M
