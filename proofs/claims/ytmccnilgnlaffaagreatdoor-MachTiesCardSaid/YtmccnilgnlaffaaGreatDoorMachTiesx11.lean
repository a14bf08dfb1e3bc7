/- What the law leans on: an executor of the model that is sound, deduction over it, and the walks through the code (part 11 of 18). Conditions: those that each theorem states. -/
import Derived.Test.YtmccnilgnlaffaaGreatDoorMachTiesx10

set_option linter.unusedVariables false
set_option linter.unusedSimpArgs false
namespace Go.Proofs.YtmccnilgnlaffaaGreatDoor
open Go.Ex
set_option maxRecDepth 1000000
instance i1:BoC P 2 Tryz.f2:=⟨fun c h=>by cases h;kernel_rfl⟩
instance i2:BoC P 3 Tryz.f3:=⟨fun c h=>by cases h;kernel_rfl⟩
instance i3:BoC P 4 Tryz.f4:=⟨fun c h=>by cases h;kernel_rfl⟩
instance i4:BoC P 5 Tryz.f5:=⟨fun c h=>by cases h;kernel_rfl⟩
instance i5:BoC P 6 Tryz.f6:=⟨fun c h=>by cases h;kernel_rfl⟩
instance i6:BoC P 7 Tryz.f7:=⟨fun c h=>by cases h;kernel_rfl⟩
instance i8:BoC P 9 Tryz.f9:=⟨fun c h=>by cases h;kernel_rfl⟩
instance i9:BoC P 10 Tryz.f10:=⟨fun c h=>by cases h;kernel_rfl⟩
instance i10:BoC P 11 Tryz.f11:=⟨fun c h=>by cases h;kernel_rfl⟩
instance i11:BoC P 12 Tryz.f12:=⟨fun c h=>by cases h;kernel_rfl⟩
instance i12:BoC P 13 Tryz.f13:=⟨fun c h=>by cases h;kernel_rfl⟩
instance i16:BoC P 17 Tryz.f17:=⟨fun c h=>by cases h;kernel_rfl⟩
instance i19:BoC P 20 Tryz.f20:=⟨fun c h=>by cases h;kernel_rfl⟩
instance i20:BoC P 21 Tryz.f21:=⟨fun c h=>by cases h;kernel_rfl⟩
instance i21:BoC P 22 Tryz.f22:=⟨fun c h=>by cases h;kernel_rfl⟩
instance i22:BoC P 23 Tryz.f23:=⟨fun c h=>by cases h;kernel_rfl⟩
instance i23:BoC P 24 Tryz.f24:=⟨fun c h=>by cases h;kernel_rfl⟩
instance i26:BoC P 27 Tryz.f27:=⟨fun c h=>by cases h;kernel_rfl⟩
instance i27:BoC P 28 Tryz.f28:=⟨fun c h=>by cases h;kernel_rfl⟩
instance i28:BoC P 29 Tryz.f29:=⟨fun c h=>by cases h;kernel_rfl⟩
instance i29:BoC P 30 Tryz.f30:=⟨fun c h=>by cases h;kernel_rfl⟩
instance i30:BoC P 31 Tryz.f31:=⟨fun c h=>by cases h;kernel_rfl⟩
instance i31:BoC P 32 Tryz.f32:=⟨fun c h=>by cases h;kernel_rfl⟩
instance i32:BoC P 33 Tryz.f33:=⟨fun c h=>by cases h;kernel_rfl⟩
instance i33:BoC P 34 Tryz.f34:=⟨fun c h=>by cases h;kernel_rfl⟩
instance i34:BoC P 35 Tryz.f35:=⟨fun c h=>by cases h;kernel_rfl⟩
instance i37:BoC P 38 Tryz.f38:=⟨fun c h=>by cases h;kernel_rfl⟩
instance i46:BoC P 47 Tryz.f47:=⟨fun c h=>by cases h;kernel_rfl⟩
instance i51:BoC P 52 Tryz.f52:=⟨fun c h=>by cases h;kernel_rfl⟩
instance i53:BoC P 54 Tryz.f54:=⟨fun c h=>by cases h;kernel_rfl⟩
instance i55:BoC P 56 Tryz.f56:=⟨fun c h=>by cases h;kernel_rfl⟩
instance i56:BoC P 57 Tryz.f57:=⟨fun c h=>by cases h;kernel_rfl⟩
instance i57:BoC P 58 Tryz.f58:=⟨fun c h=>by cases h;kernel_rfl⟩
instance i58:BoC P 59 Tryz.f59:=⟨fun c h=>by cases h;kernel_rfl⟩
instance i59:BoC P 60 Tryz.f60:=⟨fun c h=>by cases h;kernel_rfl⟩
instance i60:BoC P 61 Tryz.f61:=⟨fun c h=>by cases h;kernel_rfl⟩
instance i61:BoC P 62 Tryz.f62:=⟨fun c h=>by cases h;kernel_rfl⟩
instance i62:BoC P 63 Tryz.f63:=⟨fun c h=>by cases h;kernel_rfl⟩
instance i63:BoC P 64 Tryz.f64:=⟨fun c h=>by cases h;kernel_rfl⟩
instance i64:BoC P 65 Tryz.f65:=⟨fun c h=>by cases h;kernel_rfl⟩
instance i70:BoC P 71 Tryz.f71:=⟨fun c h=>by cases h;kernel_rfl⟩
instance i71:BoC P 72 Tryz.f72:=⟨fun c h=>by cases h;kernel_rfl⟩
instance i72:BoC P 73 Tryz.f73:=⟨fun c h=>by cases h;kernel_rfl⟩
instance i73:BoC P 74 Tryz.f74:=⟨fun c h=>by cases h;kernel_rfl⟩
instance i74:BoC P 75 Tryz.f75:=⟨fun c h=>by cases h;kernel_rfl⟩
instance i75:BoC P 76 Tryz.f76:=⟨fun c h=>by cases h;kernel_rfl⟩
instance i76:BoC P 77 Tryz.f77:=⟨fun c h=>by cases h;kernel_rfl⟩
instance i77:BoC P 78 Tryz.f78:=⟨fun c h=>by cases h;kernel_rfl⟩
instance i78:BoC P 79 Tryz.f79:=⟨fun c h=>by cases h;kernel_rfl⟩
instance i79:BoC P 80 Tryz.f80:=⟨fun c h=>by cases h;kernel_rfl⟩
instance i80:BoC P 81 Tryz.f81:=⟨fun c h=>by cases h;kernel_rfl⟩
instance i81:BoC P 82 Tryz.f82:=⟨fun c h=>by cases h;kernel_rfl⟩
instance i82:BoC P 83 Tryz.f83:=⟨fun c h=>by cases h;kernel_rfl⟩
instance i83:BoC P 84 Tryz.f84:=⟨fun c h=>by cases h;kernel_rfl⟩
instance i84:BoC P 85 Tryz.f85:=⟨fun c h=>by cases h;kernel_rfl⟩
instance i85:BoC P 86 Tryz.f86:=⟨fun c h=>by cases h;kernel_rfl⟩
instance i86:BoC P 87 Tryz.f87:=⟨fun c h=>by cases h;kernel_rfl⟩
instance i87:BoC P 88 Tryz.f88:=⟨fun c h=>by cases h;kernel_rfl⟩
instance i88:BoC P 89 Tryz.f89:=⟨fun c h=>by cases h;kernel_rfl⟩
instance i89:BoC P 90 Tryz.f90:=⟨fun c h=>by cases h;kernel_rfl⟩
instance i90:BoC P 91 Tryz.f91:=⟨fun c h=>by cases h;kernel_rfl⟩
instance i115:BoC P 116 Tryz.f116:=⟨fun c h=>by cases h;kernel_rfl⟩
instance i116:BoC P 117 Tryz.f117:=⟨fun c h=>by cases h;kernel_rfl⟩
instance i117:BoC P 118 Tryz.f118:=⟨fun c h=>by cases h;kernel_rfl⟩
instance i118:BoC P 119 Tryz.f119:=⟨fun c h=>by cases h;kernel_rfl⟩
instance i119:BoC P 120 Tryz.f120:=⟨fun c h=>by cases h;kernel_rfl⟩
instance i120:BoC P 121 Tryz.f121:=⟨fun c h=>by cases h;kernel_rfl⟩
instance i121:BoC P 122 Tryz.f122:=⟨fun c h=>by cases h;kernel_rfl⟩
instance i122:BoC P 123 Tryz.f123:=⟨fun c h=>by cases h;kernel_rfl⟩
instance i123:BoC P 124 Tryz.f124:=⟨fun c h=>by cases h;kernel_rfl⟩
instance i124:BoC P 125 Tryz.f125:=⟨fun c h=>by cases h;kernel_rfl⟩
instance i125:BoC P 126 Tryz.f126:=⟨fun c h=>by cases h;kernel_rfl⟩
instance i126:BoC P 127 Tryz.f127:=⟨fun c h=>by cases h;kernel_rfl⟩
instance i127:BoC P 128 Tryz.f128:=⟨fun c h=>by cases h;kernel_rfl⟩
instance i128:BoC P 129 Tryz.f129:=⟨fun c h=>by cases h;kernel_rfl⟩
instance i129:BoC P 130 Tryz.f130:=⟨fun c h=>by cases h;kernel_rfl⟩
instance i130:BoC P 131 Tryz.f131:=⟨fun c h=>by cases h;kernel_rfl⟩
instance i131:BoC P 132 Tryz.f132:=⟨fun c h=>by cases h;kernel_rfl⟩
instance i132:BoC P 133 Tryz.f133:=⟨fun c h=>by cases h;kernel_rfl⟩
instance i133:BoC P 134 Tryz.f134:=⟨fun c h=>by cases h;kernel_rfl⟩
instance i134:BoC P 135 Tryz.f135:=⟨fun c h=>by cases h;kernel_rfl⟩
instance i135:BoC P 136 Tryz.f136:=⟨fun c h=>by cases h;kernel_rfl⟩
instance i136:BoC P 137 Tryz.f137:=⟨fun c h=>by cases h;kernel_rfl⟩
instance i137:BoC P 138 Tryz.f138:=⟨fun c h=>by cases h;kernel_rfl⟩
instance i138:BoC P 139 Tryz.f139:=⟨fun c h=>by cases h;kernel_rfl⟩
instance i139:BoC P 140 Tryz.f140:=⟨fun c h=>by cases h;kernel_rfl⟩
instance i140:BoC P 141 Tryz.f141:=⟨fun c h=>by cases h;kernel_rfl⟩
instance i141:BoC P 142 Tryz.f142:=⟨fun c h=>by cases h;kernel_rfl⟩
instance i142:BoC P 143 Tryz.f143:=⟨fun c h=>by cases h;kernel_rfl⟩
instance i143:BoC P 144 Tryz.f144:=⟨fun c h=>by cases h;kernel_rfl⟩
instance i165:BoC P 167 Tryz.f167:=⟨fun c h=>by cases h;kernel_rfl⟩
instance i166:BoC P 168 Tryz.f168:=⟨fun c h=>by cases h;kernel_rfl⟩
instance i167:BoC P 169 Tryz.f169:=⟨fun c h=>by cases h;kernel_rfl⟩
instance i168:BoC P 170 Tryz.f170:=⟨fun c h=>by cases h;kernel_rfl⟩
instance i169:BoC P 171 Tryz.f171:=⟨fun c h=>by cases h;kernel_rfl⟩
instance i170:BoC P 172 Tryz.f172:=⟨fun c h=>by cases h;kernel_rfl⟩
instance i171:BoC P 173 Tryz.f173:=⟨fun c h=>by cases h;kernel_rfl⟩
instance i172:BoC P 174 Tryz.f174:=⟨fun c h=>by cases h;kernel_rfl⟩
instance i173:BoC P 175 Tryz.f175:=⟨fun c h=>by cases h;kernel_rfl⟩
instance i174:BoC P 176 Tryz.f176:=⟨fun c h=>by cases h;kernel_rfl⟩
instance i175:BoC P 177 Tryz.f177:=⟨fun c h=>by cases h;kernel_rfl⟩
instance i176:BoC P 178 Tryz.f178:=⟨fun c h=>by cases h;kernel_rfl⟩
instance i177:BoC P 179 Tryz.f179:=⟨fun c h=>by cases h;kernel_rfl⟩
instance i178:BoC P 180 Tryz.f180:=⟨fun c h=>by cases h;kernel_rfl⟩
instance i179:BoC P 181 Tryz.f181:=⟨fun c h=>by cases h;kernel_rfl⟩
instance i180:BoC P 182 Tryz.f182:=⟨fun c h=>by cases h;kernel_rfl⟩
instance i181:BoC P 183 Tryz.f183:=⟨fun c h=>by cases h;kernel_rfl⟩
instance i192:BoC P 195 Tryz.f195:=⟨fun c h=>by cases h;kernel_rfl⟩
instance i193:BoC P 196 Tryz.f196:=⟨fun c h=>by cases h;kernel_rfl⟩
instance i194:BoC P 197 Tryz.f197:=⟨fun c h=>by cases h;kernel_rfl⟩
instance i195:BoC P 198 Tryz.f198:=⟨fun c h=>by cases h;kernel_rfl⟩
instance i196:BoC P 199 Tryz.f199:=⟨fun c h=>by cases h;kernel_rfl⟩
instance i197:BoC P 200 Tryz.f200:=⟨fun c h=>by cases h;kernel_rfl⟩
instance i212:BoC P 215 Tryz.f215:=⟨fun c h=>by cases h;kernel_rfl⟩
instance i232:BoC P 268 Tryz.f268:=⟨fun c h=>by cases h;kernel_rfl⟩
instance i233:DrC P 4 6 [(0,0,0,false,[]),(1,0,0,false,[]),(2,0,0,false,[]),(3,0,0,false,[]),(4,0,0,false,[]),(5,0,0,false,[]),(6,0,0,false,[]),(7,0,0,false,[]),(8,0,0,false,[]),(9,0,0,false,[]),(10,0,0,false,[]),(11,0,0,true,[]),(12,0,0,true,[]),(13,0,0,true,[])]:=⟨by kernel_rfl⟩
instance i239:DrC P 9 7 [(1,0,0,false,[]),(2,0,0,false,[]),(3,0,0,false,[]),(4,0,0,false,[]),(7,0,0,false,[]),(8,0,0,false,[0,5,6]),(0,0,1,false,[]),(5,0,1,false,[]),(6,0,1,false,[]),(9,1,1,false,[]),(10,1,1,false,[]),(11,1,1,true,[])]:=⟨by kernel_rfl⟩
instance i242:DrC P 12 6 [(0,0,0,false,[]),(1,0,0,false,[]),(2,0,0,false,[]),(3,0,0,false,[]),(4,0,0,false,[]),(5,0,0,false,[]),(6,0,0,false,[]),(7,0,0,false,[]),(8,0,0,false,[]),(9,0,0,false,[]),(10,0,0,false,[]),(11,0,0,false,[]),(12,0,0,false,[]),(13,0,0,true,[]),(14,0,0,true,[])]:=⟨by kernel_rfl⟩
instance i243:DrC P 13 12 [(5,0,0,false,[]),(6,0,0,false,[]),(7,0,0,false,[]),(8,0,0,false,[0,1,2,3,4]),(1,0,1,false,[]),(2,0,1,false,[]),(3,0,1,false,[]),(4,0,1,false,[]),(9,1,1,false,[]),(10,1,1,false,[0]),(0,0,2,false,[]),(11,2,2,true,[]),(12,2,2,true,[]),(13,2,2,true,[])]:=⟨by kernel_rfl⟩
instance i244:DrC P 13 13 [(5,0,0,false,[]),(6,0,0,false,[]),(7,0,0,false,[]),(8,0,0,false,[0,1,2,3,4]),(9,1,1,false,[0,1,2,3,4]),(1,0,2,false,[]),(2,0,2,false,[]),(3,0,2,false,[]),(4,0,2,false,[]),(10,2,2,false,[]),(11,2,2,false,[0]),(0,0,3,false,[]),(12,3,3,true,[]),(13,3,3,true,[]),(14,3,3,true,[])]:=⟨by kernel_rfl⟩
instance i245:DrC P 13 22 [(2,0,0,false,[]),(3,0,0,false,[]),(4,0,0,false,[]),(5,0,0,false,[0,1,6,7,8]),(6,0,1,false,[]),(7,0,1,false,[]),(8,0,1,false,[]),(9,1,1,false,[0,1]),(0,0,2,false,[]),(10,2,2,false,[]),(11,2,2,false,[]),(12,2,2,false,[1]),(1,0,3,false,[]),(13,3,3,true,[]),(14,3,3,true,[]),(15,3,3,true,[])]:=⟨by kernel_rfl⟩
instance i248:DrC P 20 5 [(0,0,0,false,[]),(1,0,0,false,[]),(6,0,0,false,[2,3,4,5]),(2,0,1,false,[]),(3,0,1,false,[]),(7,1,1,false,[4,5]),(4,0,2,false,[]),(5,0,2,false,[]),(8,2,2,true,[])]:=⟨by kernel_rfl⟩
instance i249:DrC P 21 1 [(0,0,0,false,[]),(1,0,0,false,[]),(2,0,0,false,[]),(3,0,0,false,[]),(4,0,0,false,[]),(5,0,0,false,[]),(6,0,0,false,[]),(7,0,0,false,[]),(8,0,0,false,[]),(9,0,0,true,[]),(10,0,0,true,[]),(11,0,0,true,[])]:=⟨by kernel_rfl⟩
instance i250:DrC P 24 6 [(1,0,0,false,[]),(2,0,0,false,[]),(3,0,0,false,[]),(5,0,0,false,[]),(6,0,0,false,[]),(7,0,0,false,[]),(8,0,0,false,[]),(9,0,0,false,[0,4]),(0,0,1,false,[]),(4,0,1,false,[]),(10,1,1,false,[]),(11,1,1,false,[]),(12,1,1,true,[])]:=⟨by kernel_rfl⟩
instance i251:DrC P 24 11 [(1,0,0,false,[]),(2,0,0,false,[]),(3,0,0,false,[]),(4,0,0,false,[]),(5,0,0,false,[]),(6,0,0,false,[]),(7,0,0,false,[0,9,10,11,12,13,14]),(9,0,1,false,[]),(10,0,1,false,[]),(11,0,1,false,[]),(12,0,1,false,[]),(13,0,1,false,[]),(14,0,1,false,[]),(15,1,1,false,[0,8]),(0,0,2,false,[]),(8,1,2,false,[]),(16,2,2,false,[]),(17,2,2,false,[]),(18,2,2,true,[])]:=⟨by kernel_rfl⟩
instance i252:DrC P 24 16 [(0,0,0,false,[]),(1,0,0,false,[]),(2,0,0,false,[]),(3,0,0,false,[]),(4,0,0,false,[]),(5,0,0,false,[]),(6,0,0,false,[]),(7,0,0,false,[]),(8,0,0,false,[]),(9,0,0,false,[]),(10,0,0,false,[]),(11,0,0,false,[]),(12,0,0,false,[]),(13,0,0,false,[]),(14,0,0,true,[])]:=⟨by kernel_rfl⟩
instance i253:DrC P 24 18 [(1,0,0,false,[]),(2,0,0,false,[]),(3,0,0,false,[]),(4,0,0,false,[0]),(5,1,1,false,[]),(6,1,1,false,[]),(7,1,1,false,[]),(8,1,1,false,[]),(9,1,1,false,[0]),(0,0,2,false,[]),(10,2,2,false,[]),(11,2,2,true,[])]:=⟨by kernel_rfl⟩
instance i254:DrC P 24 20 [(1,0,0,false,[]),(2,0,0,false,[]),(3,0,0,false,[]),(4,0,0,false,[0]),(0,0,1,false,[]),(5,1,1,true,[])]:=⟨by kernel_rfl⟩
instance i260:DrC P 28 2 [(0,0,0,false,[]),(1,0,0,false,[]),(2,0,0,false,[3,4]),(3,0,1,false,[]),(4,0,1,false,[]),(5,1,1,false,[6]),(6,1,2,false,[]),(7,2,2,true,[]),(8,3,3,true,[]),(9,3,3,true,[])]:=⟨by kernel_rfl⟩
instance i261:DrC P 28 6 [(3,0,0,false,[]),(4,0,0,false,[]),(5,0,0,false,[]),(6,0,0,false,[]),(7,0,0,false,[]),(8,0,0,false,[]),(9,0,0,false,[0,1,2]),(0,0,1,false,[]),(1,0,1,false,[]),(2,0,1,false,[]),(10,1,1,true,[]),(11,1,1,true,[]),(12,1,1,true,[])]:=⟨by kernel_rfl⟩
instance i262:DrC P 28 11 [(6,0,0,false,[]),(7,0,0,false,[]),(8,0,0,false,[]),(9,0,0,false,[]),(10,0,0,false,[]),(11,0,0,false,[]),(12,0,0,false,[0,1,2,3,4,5,13,14,15,16,17,18]),(13,0,1,false,[]),(14,0,1,false,[]),(15,0,1,false,[]),(16,0,1,false,[]),(17,0,1,false,[]),(18,0,1,false,[]),(19,1,1,false,[0,1,2,3,4,5]),(0,0,2,false,[]),(1,0,2,false,[]),(2,0,2,false,[]),(20,2,2,false,[]),(21,2,2,false,[]),(22,2,2,false,[3,4,5]),(3,0,3,false,[]),(4,0,3,false,[]),(5,0,3,false,[]),(23,3,3,true,[]),(24,3,3,true,[]),(25,3,3,true,[])]:=⟨by kernel_rfl⟩
instance i263:DrC P 28 13 [(0,0,0,false,[]),(1,0,0,false,[]),(2,0,0,false,[3,4]),(3,0,1,false,[]),(4,0,1,false,[]),(5,1,1,false,[6]),(6,1,2,false,[]),(7,2,2,true,[]),(8,3,3,true,[]),(9,3,3,true,[])]:=⟨by kernel_rfl⟩
instance i264:DrC P 29 6 [(0,0,0,false,[]),(1,0,0,false,[]),(2,0,0,false,[]),(3,0,0,false,[]),(8,0,0,false,[4,5,6,7]),(4,0,1,false,[]),(5,0,1,false,[]),(6,0,1,false,[]),(7,0,1,false,[]),(9,1,1,true,[]),(10,2,2,true,[])]:=⟨by kernel_rfl⟩
instance i265:DrC P 32 8 [(0,0,0,false,[]),(1,0,0,false,[]),(2,0,0,false,[]),(3,0,0,false,[]),(4,0,0,false,[]),(5,0,0,false,[]),(6,0,0,false,[]),(7,0,0,false,[]),(8,0,0,true,[]),(9,0,0,true,[]),(10,0,0,true,[])]:=⟨by kernel_rfl⟩
instance i266:DrC P 33 10 [(5,0,0,false,[]),(6,0,0,false,[0,1,2,3,4]),(1,0,1,false,[]),(2,0,1,false,[]),(3,0,1,false,[]),(4,0,1,false,[]),(7,1,1,false,[]),(8,1,1,false,[0]),(0,0,2,false,[]),(9,2,2,true,[]),(10,2,2,true,[]),(11,2,2,true,[])]:=⟨by kernel_rfl⟩
instance i267:DrC P 34 3 [(5,0,0,false,[]),(6,0,0,false,[]),(7,0,0,false,[]),(8,0,0,false,[0,1,2,3,4]),(1,0,1,false,[]),(2,0,1,false,[]),(3,0,1,false,[]),(4,0,1,false,[]),(9,1,1,false,[]),(10,1,1,false,[0]),(0,0,2,false,[]),(11,2,2,true,[]),(12,2,2,true,[]),(13,2,2,true,[])]:=⟨by kernel_rfl⟩
instance i268:DrC P 34 8 [(0,0,0,false,[]),(1,0,0,false,[]),(2,0,0,false,[]),(3,0,0,false,[]),(4,0,0,false,[]),(5,0,0,false,[]),(6,0,0,false,[]),(7,0,0,false,[]),(8,0,0,false,[]),(9,0,0,false,[]),(10,0,0,false,[]),(11,0,0,false,[]),(12,0,0,false,[]),(13,0,0,false,[]),(14,0,0,true,[])]:=⟨by kernel_rfl⟩
instance i269:DrC P 34 10 [(0,0,0,false,[]),(1,0,0,false,[]),(2,0,0,false,[]),(3,0,0,false,[]),(4,0,0,false,[]),(5,0,0,false,[]),(6,0,0,true,[]),(7,0,0,true,[]),(8,0,0,true,[]),(9,1,1,true,[])]:=⟨by kernel_rfl⟩
instance i270:DrC P 34 15 [(0,0,0,false,[]),(1,0,0,false,[]),(2,0,0,false,[]),(3,0,0,false,[]),(4,0,0,false,[]),(5,0,0,false,[]),(6,0,0,false,[]),(7,0,0,false,[]),(8,0,0,true,[]),(9,1,1,true,[])]:=⟨by kernel_rfl⟩
instance i271:DrC P 35 9 [(1,0,0,false,[]),(2,0,0,false,[0]),(0,0,1,false,[]),(3,1,1,true,[]),(4,1,1,true,[]),(5,1,1,true,[])]:=⟨by kernel_rfl⟩
instance i283:DrC P 58 4 [(0,0,0,false,[]),(1,0,0,false,[]),(2,0,0,false,[]),(3,0,0,false,[]),(4,0,0,false,[]),(5,0,0,false,[]),(6,0,0,true,[]),(7,1,1,true,[]),(8,1,1,false,[]),(9,1,1,false,[]),(10,1,1,false,[]),(11,1,1,true,[])]:=⟨by kernel_rfl⟩
instance i284:DrC P 58 5 [(1,0,0,false,[]),(2,0,0,false,[]),(6,0,0,false,[]),(7,0,0,false,[]),(8,0,0,false,[]),(9,0,0,false,[]),(10,0,0,false,[]),(11,0,0,false,[0,3,4,5]),(0,0,1,false,[]),(3,0,1,false,[]),(4,0,1,false,[]),(5,0,1,false,[]),(12,1,1,false,[]),(13,1,1,false,[]),(14,1,1,true,[])]:=⟨by kernel_rfl⟩
instance i285:DrC P 58 7 [(1,0,0,false,[]),(2,0,0,false,[]),(3,0,0,false,[0]),(4,1,1,false,[]),(5,1,1,false,[]),(6,1,1,false,[]),(7,1,1,false,[]),(8,1,1,false,[]),(9,1,1,false,[]),(12,1,1,false,[]),(13,1,1,false,[]),(14,1,1,false,[]),(15,1,1,false,[]),(16,1,1,false,[0,10,11]),(0,0,2,false,[]),(10,1,2,false,[]),(11,1,2,false,[]),(17,2,2,false,[]),(18,2,2,false,[]),(19,2,2,false,[]),(20,2,2,false,[]),(21,2,2,false,[]),(22,2,2,false,[]),(23,2,2,false,[]),(24,2,2,false,[]),(25,2,2,false,[]),(26,2,2,false,[]),(27,2,2,false,[]),(28,2,2,false,[]),(29,2,2,false,[]),(30,2,2,true,[])]:=⟨by kernel_rfl⟩
instance i286:DrC P 59 7 [(0,0,0,false,[]),(1,0,0,false,[]),(2,0,0,false,[]),(3,0,0,false,[]),(4,0,0,false,[]),(5,0,0,false,[]),(6,0,0,false,[]),(7,0,0,true,[])]:=⟨by kernel_rfl⟩
instance i287:DrC P 59 9 [(0,0,0,false,[]),(1,0,0,false,[]),(2,0,0,false,[]),(3,0,0,false,[]),(4,0,0,false,[]),(5,0,0,false,[]),(6,0,0,true,[])]:=⟨by kernel_rfl⟩
instance i288:DrC P 59 11 [(0,0,0,false,[]),(1,0,0,false,[]),(2,0,0,false,[]),(3,0,0,false,[]),(4,0,0,false,[]),(5,0,0,false,[]),(6,0,0,true,[])]:=⟨by kernel_rfl⟩
instance i289:DrC P 59 14 [(0,0,0,false,[]),(1,0,0,false,[]),(2,0,0,false,[]),(3,0,0,false,[]),(4,0,0,true,[])]:=⟨by kernel_rfl⟩
instance i290:DrC P 64 1 [(0,0,0,false,[]),(1,0,0,false,[]),(2,0,0,false,[]),(3,0,0,false,[]),(4,0,0,false,[]),(5,0,0,false,[]),(6,0,0,true,[]),(7,1,1,true,[]),(8,1,1,false,[]),(9,1,1,false,[]),(10,1,1,false,[]),(11,1,1,true,[])]:=⟨by kernel_rfl⟩
instance i291:DrC P 64 2 [(1,0,0,false,[]),(2,0,0,false,[]),(3,0,0,false,[]),(4,0,0,false,[]),(5,0,0,false,[]),(6,0,0,false,[]),(7,0,0,false,[]),(8,0,0,false,[0]),(0,0,1,false,[]),(9,1,1,true,[])]:=⟨by kernel_rfl⟩
instance i292:DrC P 64 9 [(0,0,0,false,[]),(1,0,0,false,[]),(2,0,0,false,[]),(3,0,0,false,[]),(4,0,0,false,[]),(5,0,0,false,[]),(6,0,0,false,[]),(7,0,0,false,[]),(8,0,0,false,[]),(9,0,0,false,[]),(10,0,0,false,[]),(11,0,0,false,[]),(12,0,0,false,[]),(13,0,0,true,[])]:=⟨by kernel_rfl⟩
instance i296:DrC P 74 4 [(0,0,0,true,[]),(1,0,0,true,[]),(2,0,0,true,[]),(3,1,1,true,[]),(4,1,1,false,[]),(5,1,1,false,[]),(6,1,1,false,[]),(7,1,1,false,[8]),(8,1,2,false,[]),(9,2,2,true,[]),(10,2,2,true,[]),(11,2,2,true,[]),(12,2,2,false,[]),(13,2,2,false,[]),(14,2,2,false,[]),(15,2,2,false,[]),(16,2,2,false,[]),(17,2,2,false,[]),(18,2,2,true,[]),(19,3,3,true,[]),(20,3,3,true,[]),(21,3,3,true,[])]:=⟨by kernel_rfl⟩
instance i297:DrC P 74 10 [(0,0,0,false,[]),(1,0,0,false,[]),(2,0,0,false,[]),(3,0,0,false,[4]),(4,0,1,false,[]),(5,1,1,true,[]),(6,1,1,true,[]),(15,1,1,false,[]),(16,1,1,false,[]),(17,1,1,false,[7,8,9,10,11,12,13,14]),(7,1,2,false,[]),(8,1,2,false,[]),(9,1,2,false,[]),(10,1,2,false,[]),(11,1,2,false,[]),(12,1,2,false,[]),(13,1,2,false,[]),(14,1,2,false,[]),(18,2,2,true,[]),(19,2,2,true,[]),(20,2,2,true,[])]:=⟨by kernel_rfl⟩
instance i298:DrC P 76 1 [(4,0,0,false,[]),(5,0,0,false,[]),(6,0,0,false,[]),(7,0,0,false,[]),(8,0,0,false,[]),(9,0,0,false,[]),(10,0,0,false,[0,1,2,3,13]),(0,0,1,false,[]),(1,0,1,false,[]),(2,0,1,false,[]),(3,0,1,false,[]),(11,1,1,false,[]),(12,1,1,false,[]),(13,0,1,false,[]),(14,1,1,true,[])]:=⟨by kernel_rfl⟩
instance i299:DrC P 76 8 [(0,0,0,false,[]),(1,0,0,false,[]),(2,0,0,false,[]),(3,0,0,false,[]),(4,0,0,false,[]),(5,0,0,false,[6,7,8,9,10,11,14]),(6,0,1,false,[]),(7,0,1,false,[]),(8,0,1,false,[]),(9,0,1,false,[]),(10,0,1,false,[]),(11,0,1,false,[]),(12,1,1,false,[14]),(13,2,2,false,[]),(14,0,2,false,[])]:=⟨by kernel_rfl⟩
instance i300:DrC P 83 5 [(2,0,0,false,[0,1]),(3,1,1,false,[0,1]),(0,0,2,false,[]),(1,0,2,false,[]),(4,2,2,true,[])]:=⟨by kernel_rfl⟩
instance i301:DrC P 85 3 [(0,0,0,false,[]),(1,0,0,false,[]),(2,0,0,false,[]),(3,0,0,false,[]),(4,0,0,false,[]),(5,0,0,false,[]),(6,0,0,false,[]),(7,0,0,true,[]),(8,0,0,true,[]),(9,0,0,false,[]),(10,0,0,false,[]),(11,0,0,false,[]),(12,0,0,true,[])]:=⟨by kernel_rfl⟩
instance i302:DrC P 85 5 [(0,0,0,false,[]),(1,0,0,false,[]),(2,0,0,false,[]),(3,0,0,false,[]),(4,0,0,false,[]),(5,0,0,false,[]),(6,0,0,false,[]),(7,0,0,false,[]),(8,0,0,true,[]),(9,0,0,true,[]),(10,0,0,true,[])]:=⟨by kernel_rfl⟩
instance i303:DrC P 85 6 [(0,0,0,false,[]),(1,0,0,false,[]),(2,0,0,false,[]),(3,0,0,false,[]),(4,0,0,false,[]),(5,0,0,false,[]),(6,0,0,false,[]),(7,0,0,true,[]),(8,0,0,true,[])]:=⟨by kernel_rfl⟩
instance i304:DrC P 85 7 [(0,0,0,false,[]),(1,0,0,false,[]),(2,0,0,false,[]),(3,0,0,false,[]),(4,0,0,false,[]),(5,0,0,false,[]),(6,0,0,false,[]),(7,0,0,false,[]),(8,0,0,false,[]),(9,0,0,false,[]),(10,0,0,false,[]),(11,0,0,false,[]),(12,0,0,true,[])]:=⟨by kernel_rfl⟩
instance i305:DrC P 85 12 [(0,0,0,false,[]),(1,0,0,false,[]),(2,0,0,false,[]),(3,0,0,false,[]),(4,0,0,false,[]),(5,0,0,false,[]),(6,0,0,false,[]),(7,0,0,false,[]),(8,0,0,false,[]),(9,0,0,false,[]),(10,0,0,false,[]),(11,0,0,false,[]),(12,0,0,true,[]),(13,0,0,true,[])]:=⟨by kernel_rfl⟩
instance i306:DrC P 85 13 [(0,0,0,false,[]),(1,0,0,false,[]),(2,0,0,false,[]),(3,0,0,false,[]),(4,0,0,false,[]),(14,0,0,false,[]),(15,0,0,false,[5,6,7,8,9,10,11,12,13]),(5,0,1,false,[]),(6,0,1,false,[]),(7,0,1,false,[]),(8,0,1,false,[]),(9,0,1,false,[]),(10,0,1,false,[]),(11,0,1,false,[]),(12,0,1,false,[]),(13,0,1,false,[]),(16,1,1,true,[]),(17,1,1,true,[])]:=⟨by kernel_rfl⟩
instance i307:DrC P 85 19 [(1,0,0,false,[]),(2,0,0,false,[]),(3,0,0,false,[]),(4,0,0,false,[]),(5,0,0,false,[]),(6,0,0,false,[]),(7,0,0,false,[0]),(0,0,1,false,[]),(8,1,1,true,[]),(9,1,1,true,[]),(10,1,1,true,[])]:=⟨by kernel_rfl⟩
instance i308:DrC P 85 20 [(0,0,0,false,[]),(1,0,0,false,[]),(2,0,0,false,[]),(3,0,0,false,[]),(4,0,0,false,[]),(5,0,0,false,[]),(6,0,0,false,[]),(7,0,0,false,[]),(8,0,0,false,[]),(9,0,0,false,[]),(10,0,0,false,[]),(11,0,0,false,[]),(12,0,0,true,[])]:=⟨by kernel_rfl⟩
instance i309:DrC P 85 21 [(2,0,0,false,[]),(3,0,0,false,[]),(4,0,0,false,[]),(5,0,0,false,[]),(6,0,0,false,[]),(7,0,0,false,[]),(8,0,0,false,[]),(9,0,0,false,[]),(10,0,0,false,[0,1,11,12,13,14,15,16]),(11,0,1,false,[]),(12,0,1,false,[]),(13,0,1,false,[]),(14,0,1,false,[]),(15,0,1,false,[]),(16,0,1,false,[]),(17,1,1,false,[0,1]),(0,0,2,false,[]),(18,2,2,false,[]),(19,2,2,false,[]),(20,2,2,false,[1]),(1,0,3,false,[]),(21,3,3,true,[]),(22,3,3,true,[]),(23,3,3,true,[])]:=⟨by kernel_rfl⟩
instance i310:DrC P 85 22 [(1,0,0,false,[]),(2,0,0,false,[]),(3,0,0,false,[]),(4,0,0,false,[]),(5,0,0,false,[]),(6,0,0,false,[]),(7,0,0,false,[]),(8,0,0,false,[0]),(0,0,1,false,[]),(9,1,1,true,[]),(10,1,1,true,[]),(11,1,1,true,[])]:=⟨by kernel_rfl⟩
instance i311:DrC P 89 1 [(0,0,0,false,[]),(1,0,0,false,[]),(2,0,0,false,[]),(3,0,0,false,[]),(4,0,0,false,[]),(5,0,0,false,[]),(6,0,0,false,[]),(7,0,0,false,[]),(8,0,0,true,[]),(9,1,1,true,[])]:=⟨by kernel_rfl⟩
instance i322:DrC P 131 1 [(4,0,0,false,[]),(5,0,0,false,[]),(6,0,0,false,[]),(7,0,0,false,[]),(8,0,0,false,[]),(9,0,0,false,[]),(10,0,0,false,[]),(11,0,0,false,[]),(12,0,0,false,[]),(13,0,0,false,[]),(14,0,0,false,[]),(15,0,0,false,[]),(16,0,0,false,[0,1,2,3]),(0,0,1,false,[]),(1,0,1,false,[]),(2,0,1,false,[]),(3,0,1,false,[]),(17,1,1,true,[]),(18,1,1,true,[]),(19,1,1,true,[]),(20,1,1,true,[])]:=⟨by kernel_rfl⟩
instance i323:DrC P 132 1 [(0,0,0,true,[]),(1,0,0,true,[]),(2,0,0,true,[]),(3,1,1,true,[]),(4,1,1,true,[]),(5,1,1,false,[]),(6,1,1,false,[]),(7,1,1,false,[]),(8,1,1,false,[]),(9,1,1,false,[]),(10,1,1,false,[]),(11,1,1,false,[]),(12,1,1,false,[13]),(13,1,2,false,[]),(14,2,2,true,[]),(15,2,2,true,[]),(16,2,2,true,[])]:=⟨by kernel_rfl⟩
instance i324:DrC P 132 2 [(3,0,0,false,[]),(4,0,0,false,[]),(5,0,0,false,[0,1,2]),(0,0,1,false,[]),(1,0,1,false,[]),(2,0,1,false,[]),(6,1,1,true,[]),(7,1,1,true,[])]:=⟨by kernel_rfl⟩
instance i325:DrC P 132 10 [(0,0,0,true,[]),(1,0,0,true,[]),(2,0,0,true,[]),(3,0,0,true,[]),(4,0,0,false,[]),(5,0,0,false,[]),(6,0,0,false,[]),(7,0,0,false,[]),(8,0,0,false,[]),(9,0,0,false,[]),(10,0,0,false,[]),(11,0,0,false,[]),(12,0,0,true,[]),(13,0,0,true,[]),(14,0,0,true,[])]:=⟨by kernel_rfl⟩
instance i326:DrC P 133 6 [(4,0,0,false,[]),(5,0,0,false,[]),(6,0,0,false,[0,1,2,3,9]),(0,0,1,false,[]),(1,0,1,false,[]),(2,0,1,false,[]),(3,0,1,false,[]),(7,1,1,false,[]),(8,1,1,false,[]),(9,0,1,false,[]),(10,1,1,true,[])]:=⟨by kernel_rfl⟩
instance i327:DrC P 137 1 [(0,0,0,false,[]),(1,0,0,false,[]),(2,0,0,false,[]),(3,0,0,false,[]),(4,0,0,false,[]),(5,0,0,false,[]),(6,0,0,false,[]),(7,0,0,false,[]),(8,0,0,false,[]),(9,0,0,false,[]),(10,0,0,false,[]),(11,0,0,true,[])]:=⟨by kernel_rfl⟩
instance i328:DrC P 137 3 [(0,0,0,false,[]),(1,0,0,false,[]),(2,0,0,false,[]),(3,0,0,false,[]),(4,0,0,false,[]),(5,0,0,false,[]),(6,0,0,false,[]),(7,0,0,false,[]),(8,0,0,false,[]),(9,0,0,false,[]),(10,0,0,false,[]),(11,0,0,true,[])]:=⟨by kernel_rfl⟩
instance i337:DrC P 178 3 [(0,0,0,true,[]),(1,0,0,true,[]),(2,0,0,true,[]),(3,0,0,true,[]),(4,0,0,false,[]),(5,0,0,false,[]),(6,0,0,false,[]),(7,0,0,false,[]),(8,0,0,false,[]),(9,0,0,false,[]),(10,0,0,false,[]),(11,0,0,false,[]),(12,0,0,false,[]),(13,0,0,false,[]),(14,0,0,false,[]),(15,0,0,true,[]),(16,1,1,true,[]),(17,1,1,true,[])]:=⟨by kernel_rfl⟩
instance i338:DrC P 181 2 [(0,0,0,false,[]),(1,0,0,false,[]),(2,0,0,false,[]),(3,0,0,false,[]),(4,0,0,false,[]),(5,0,0,false,[]),(6,0,0,false,[]),(7,0,0,true,[]),(8,1,1,true,[])]:=⟨by kernel_rfl⟩
instance i347:DrC P 195 1 [(0,0,0,false,[]),(1,0,0,false,[]),(2,0,0,false,[3]),(3,0,1,false,[]),(4,1,1,true,[]),(5,1,1,true,[])]:=⟨by kernel_rfl⟩
instance i348:DrC P 197 1 [(0,0,0,false,[]),(1,0,0,false,[]),(2,0,0,false,[3]),(3,0,1,false,[]),(4,1,1,true,[]),(5,1,1,true,[])]:=⟨by kernel_rfl⟩
instance i349:DrC P 198 1 [(0,0,0,false,[]),(1,0,0,false,[]),(2,0,0,false,[]),(3,0,0,false,[]),(4,0,0,false,[]),(5,0,0,true,[])]:=⟨by kernel_rfl⟩
instance i350:DrC P 198 5 [(0,0,0,false,[]),(1,0,0,false,[]),(2,0,0,false,[]),(3,0,0,false,[]),(4,0,0,false,[]),(5,0,0,true,[])]:=⟨by kernel_rfl⟩
instance i351:DrC P 199 4 [(5,0,0,false,[]),(6,0,0,false,[]),(7,0,0,false,[0,1,2,3,4]),(0,0,1,false,[]),(1,0,1,false,[]),(2,0,1,false,[]),(3,0,1,false,[]),(4,0,1,false,[]),(8,1,1,false,[]),(9,1,1,false,[]),(10,1,1,true,[])]:=⟨by kernel_rfl⟩
instance i352:DrC P 200 0 [(5,0,0,false,[]),(6,0,0,false,[]),(7,0,0,false,[]),(8,0,0,false,[0,1,2,3,4,13]),(0,0,1,false,[]),(1,0,1,false,[]),(2,0,1,false,[]),(3,0,1,false,[]),(4,0,1,false,[]),(9,1,1,false,[]),(10,1,1,false,[]),(11,1,1,false,[]),(12,1,1,false,[]),(13,0,1,false,[])]:=⟨by kernel_rfl⟩
instance i353:DrC P 200 3 [(0,0,0,true,[]),(1,0,0,true,[]),(2,0,0,true,[]),(3,0,0,true,[]),(4,0,0,false,[]),(5,0,0,false,[]),(6,0,0,false,[]),(7,0,0,true,[]),(8,0,0,true,[]),(9,0,0,true,[]),(15,0,0,false,[]),(16,0,0,false,[]),(17,0,0,false,[10,11,12,13,14]),(10,0,1,false,[]),(11,0,1,false,[]),(12,0,1,false,[]),(13,0,1,false,[]),(14,0,1,false,[]),(18,1,1,false,[]),(19,1,1,false,[]),(20,1,1,true,[]),(21,2,2,true,[]),(22,2,2,true,[])]:=⟨by kernel_rfl⟩
instance i356:ShC P 1 .scal:=⟨by kernel_rfl⟩
instance i357:ShC P 3 .scal:=⟨by kernel_rfl⟩
instance i358:ShC P 4 .scal:=⟨by kernel_rfl⟩
instance i360:ShC P 9 .scal:=⟨by kernel_rfl⟩
instance i361:ShC P 22 .scal:=⟨by kernel_rfl⟩
instance i362:ShC P 23 .scal:=⟨by kernel_rfl⟩
instance i363:ShC P 24 .scal:=⟨by kernel_rfl⟩
instance i364:ShC P 25 .scal:=⟨by kernel_rfl⟩
instance i365:ShC P 27 (.agg 8):=⟨by kernel_rfl⟩
instance i366:ShC P 28 .scal:=⟨by kernel_rfl⟩
instance i367:ShC P 30 (.agg 3):=⟨by kernel_rfl⟩
instance i368:ShC P 34 .scal:=⟨by kernel_rfl⟩
instance i369:ShC P 38 .scal:=⟨by kernel_rfl⟩
instance i370:ShC P 47 (.agg 2):=⟨by kernel_rfl⟩
instance i371:ShC P 48 .scal:=⟨by kernel_rfl⟩
instance i372:ShC P 50 (.agg 6):=⟨by kernel_rfl⟩
instance i373:ShC P 52 (.agg 4):=⟨by kernel_rfl⟩
instance i374:ShC P 55 .scal:=⟨by kernel_rfl⟩
instance i375:ShC P 57 (.agg 9):=⟨by kernel_rfl⟩
instance i376:ShC P 58 .scal:=⟨by kernel_rfl⟩
instance i377:ShC P 66 (.agg 2):=⟨by kernel_rfl⟩
instance i378:ShC P 70 (.agg 3):=⟨by kernel_rfl⟩
instance i379:ShC P 72 .scal:=⟨by kernel_rfl⟩
instance i380:ShC P 79 .scal:=⟨by kernel_rfl⟩
instance i381:ShC P 80 .scal:=⟨by kernel_rfl⟩
instance i382:ShC P 86 .scal:=⟨by kernel_rfl⟩
instance i383:ShC P 87 .scal:=⟨by kernel_rfl⟩
instance i384:ShC P 88 .scal:=⟨by kernel_rfl⟩
instance i385:ShC P 89 .scal:=⟨by kernel_rfl⟩
instance i386:ShC P 90 .scal:=⟨by kernel_rfl⟩
instance i387:ShC P 92 (.agg 1):=⟨by kernel_rfl⟩
instance i395:ShC P 135 (.agg 3):=⟨by kernel_rfl⟩
instance i396:ShC P 142 .scal:=⟨by kernel_rfl⟩
instance i397:ShC P 153 (.agg 1):=⟨by kernel_rfl⟩
instance i398:ShC P 155 .scal:=⟨by kernel_rfl⟩
instance i399:ShC P 158 .scal:=⟨by kernel_rfl⟩
instance i400:ShC P 165 (.agg 5):=⟨by kernel_rfl⟩
instance i401:ShC P 167 .scal:=⟨by kernel_rfl⟩
instance i402:ShC P 191 (.agg 1):=⟨by kernel_rfl⟩
instance i404:ShC P 230 .scal:=⟨by kernel_rfl⟩
instance i405:ShC P 232 .scal:=⟨by kernel_rfl⟩
instance i406:ShC P 254 .scal:=⟨by kernel_rfl⟩
instance i412:OfC P 27 0 0:=⟨by kernel_rfl⟩
instance i413:OfC P 27 1 1:=⟨by kernel_rfl⟩
instance i414:OfC P 27 2 2:=⟨by kernel_rfl⟩
instance i415:OfC P 27 3 3:=⟨by kernel_rfl⟩
instance i416:OfC P 27 4 4:=⟨by kernel_rfl⟩
instance i417:OfC P 27 5 5:=⟨by kernel_rfl⟩
instance i418:OfC P 27 6 6:=⟨by kernel_rfl⟩
instance i419:OfC P 27 7 7:=⟨by kernel_rfl⟩
instance i420:OfC P 30 0 0:=⟨by kernel_rfl⟩
instance i421:OfC P 30 1 1:=⟨by kernel_rfl⟩
instance i422:OfC P 30 2 2:=⟨by kernel_rfl⟩
instance i423:OfC P 47 0 0:=⟨by kernel_rfl⟩
instance i424:OfC P 47 1 1:=⟨by kernel_rfl⟩
instance i425:OfC P 50 0 0:=⟨by kernel_rfl⟩
instance i426:OfC P 50 1 1:=⟨by kernel_rfl⟩
instance i427:OfC P 50 2 3:=⟨by kernel_rfl⟩
instance i428:OfC P 50 3 4:=⟨by kernel_rfl⟩
instance i429:OfC P 50 4 5:=⟨by kernel_rfl⟩
instance i430:OfC P 52 0 0:=⟨by kernel_rfl⟩
instance i431:OfC P 52 1 1:=⟨by kernel_rfl⟩
instance i432:OfC P 52 2 2:=⟨by kernel_rfl⟩
instance i433:OfC P 52 3 3:=⟨by kernel_rfl⟩
instance i434:OfC P 57 0 0:=⟨by kernel_rfl⟩
instance i435:OfC P 57 1 1:=⟨by kernel_rfl⟩
instance i436:OfC P 57 2 2:=⟨by kernel_rfl⟩
instance i437:OfC P 57 3 3:=⟨by kernel_rfl⟩
instance i438:OfC P 57 4 4:=⟨by kernel_rfl⟩
instance i439:OfC P 57 5 5:=⟨by kernel_rfl⟩
instance i440:OfC P 57 6 6:=⟨by kernel_rfl⟩
instance i441:OfC P 57 7 7:=⟨by kernel_rfl⟩
instance i442:OfC P 57 8 8:=⟨by kernel_rfl⟩
instance i443:OfC P 66 0 0:=⟨by kernel_rfl⟩
instance i444:OfC P 66 1 1:=⟨by kernel_rfl⟩
instance i445:OfC P 70 0 0:=⟨by kernel_rfl⟩
instance i446:OfC P 70 1 1:=⟨by kernel_rfl⟩
instance i447:OfC P 70 2 2:=⟨by kernel_rfl⟩
instance i448:OfC P 74 0 0:=⟨by kernel_rfl⟩
instance i449:OfC P 74 1 1:=⟨by kernel_rfl⟩
instance i450:OfC P 74 2 4:=⟨by kernel_rfl⟩
instance i451:OfC P 74 3 5:=⟨by kernel_rfl⟩
instance i456:OfC P 92 0 0:=⟨by kernel_rfl⟩
instance i457:OfC P 94 0 0:=⟨by kernel_rfl⟩
instance i458:OfC P 94 1 8:=⟨by kernel_rfl⟩
instance i459:OfC P 94 2 9:=⟨by kernel_rfl⟩
instance i460:OfC P 94 3 10:=⟨by kernel_rfl⟩
instance i461:OfC P 94 4 11:=⟨by kernel_rfl⟩
instance i462:OfC P 94 5 12:=⟨by kernel_rfl⟩
instance i463:OfC P 94 6 13:=⟨by kernel_rfl⟩
instance i464:OfC P 94 7 14:=⟨by kernel_rfl⟩
instance i465:OfC P 94 8 15:=⟨by kernel_rfl⟩
instance i466:OfC P 94 9 16:=⟨by kernel_rfl⟩
instance i467:OfC P 94 10 17:=⟨by kernel_rfl⟩
instance i468:OfC P 94 11 18:=⟨by kernel_rfl⟩
instance i469:OfC P 94 12 19:=⟨by kernel_rfl⟩
instance i470:OfC P 94 13 20:=⟨by kernel_rfl⟩
instance i482:OfC P 135 0 0:=⟨by kernel_rfl⟩
instance i483:OfC P 135 1 1:=⟨by kernel_rfl⟩
instance i484:OfC P 135 2 2:=⟨by kernel_rfl⟩
instance i485:OfC P 144 0 0:=⟨by kernel_rfl⟩
instance i486:OfC P 144 1 8:=⟨by kernel_rfl⟩
instance i487:OfC P 144 2 9:=⟨by kernel_rfl⟩
instance i488:OfC P 153 0 0:=⟨by kernel_rfl⟩
instance i489:OfC P 157 0 0:=⟨by kernel_rfl⟩
instance i490:OfC P 157 1 3:=⟨by kernel_rfl⟩
instance i491:OfC P 160 0 0:=⟨by kernel_rfl⟩
instance i492:OfC P 160 1 1:=⟨by kernel_rfl⟩
instance i493:OfC P 160 2 2:=⟨by kernel_rfl⟩
instance i494:OfC P 160 3 3:=⟨by kernel_rfl⟩
instance i495:OfC P 160 4 4:=⟨by kernel_rfl⟩
instance i496:OfC P 165 0 0:=⟨by kernel_rfl⟩
instance i497:OfC P 165 1 4:=⟨by kernel_rfl⟩
instance i498:OfC P 191 0 0:=⟨by kernel_rfl⟩
instance i506:IxC P 22 (.slice 4):=⟨by kernel_rfl⟩
instance i507:IxC P 23 (.slice 2):=⟨by kernel_rfl⟩
instance i508:IxC P 24 (.slice 6):=⟨by kernel_rfl⟩
instance i509:IxC P 25 (.slice 1):=⟨by kernel_rfl⟩
instance i510:IxC P 28 (.slice 1):=⟨by kernel_rfl⟩
instance i511:IxC P 48 (.slice 2):=⟨by kernel_rfl⟩
instance i512:IxC P 55 (.slice 1):=⟨by kernel_rfl⟩
instance i513:IxC P 58 (.slice 9):=⟨by kernel_rfl⟩
instance i514:IxC P 79 (.slice 3):=⟨by kernel_rfl⟩
instance i515:IxC P 80 (.slice 1):=⟨by kernel_rfl⟩
instance i516:IxC P 88 (.slice 1):=⟨by kernel_rfl⟩
instance i517:IxC P 89 (.slice 1):=⟨by kernel_rfl⟩
instance i518:IxC P 90 (.slice 1):=⟨by kernel_rfl⟩
instance i521:IxC P 146 (.slice 1):=⟨by kernel_rfl⟩
instance i522:IxC P 158 (.slice 4):=⟨by kernel_rfl⟩
instance i530:SlC P 23 66 2:=⟨by kernel_rfl⟩
instance i532:SlC P 55 3 1:=⟨by kernel_rfl⟩
instance i533:SlC P 90 167 1:=⟨by kernel_rfl⟩
instance i535:SlC P 158 157 4:=⟨by kernel_rfl⟩
instance i536:UnC P 4 .bool:=⟨by kernel_rfl⟩
instance i537:UnC P 9 .string:=⟨by kernel_rfl⟩
instance i538:UnC P 22 (.slice 52):=⟨by kernel_rfl⟩
instance i539:UnC P 23 (.slice 66):=⟨by kernel_rfl⟩
instance i540:UnC P 24 (.slice 50):=⟨by kernel_rfl⟩
instance i541:UnC P 25 (.slice 9):=⟨by kernel_rfl⟩
instance i542:UnC P 28 (.slice 58):=⟨by kernel_rfl⟩
instance i543:UnC P 34 (.pointer 94):=⟨by kernel_rfl⟩
instance i545:UnC P 48 (.slice 47):=⟨by kernel_rfl⟩
instance i546:UnC P 55 (.slice 3):=⟨by kernel_rfl⟩
instance i547:UnC P 58 (.slice 57):=⟨by kernel_rfl⟩
instance i548:UnC P 79 (.slice 135):=⟨by kernel_rfl⟩
instance i549:UnC P 80 (.slice 55):=⟨by kernel_rfl⟩
instance i550:UnC P 88 (.slice 92):=⟨by kernel_rfl⟩
instance i551:UnC P 89 (.slice 88):=⟨by kernel_rfl⟩
instance i552:UnC P 90 (.slice 167):=⟨by kernel_rfl⟩
instance i556:UnC P 146 (.slice 1):=⟨by kernel_rfl⟩
instance i559:IfC P 20:=⟨by kernel_rfl⟩
instance i562:MsC P 86 (.int .i64 0):=⟨9,3,by kernel_rfl,by kernel_rfl,by kernel_rfl⟩
instance i563:MsC P 87 (.int .i64 0):=⟨9,3,by kernel_rfl,by kernel_rfl,by kernel_rfl⟩
instance i569:IkC P 202 .u64:=⟨by kernel_rfl⟩
instance i571:ApC P 22 22 52 4:=⟨by kernel_rfl⟩
instance i572:ApC P 23 23 66 2:=⟨by kernel_rfl⟩
instance i573:ApC P 24 24 50 6:=⟨by kernel_rfl⟩
instance i574:ApC P 25 25 9 1:=⟨by kernel_rfl⟩
instance i576:ApC P 48 48 47 2:=⟨by kernel_rfl⟩
instance i577:ApC P 55 55 3 1:=⟨by kernel_rfl⟩
instance i579:ApC P 79 79 135 3:=⟨by kernel_rfl⟩
instance i580:ApC P 80 80 55 1:=⟨by kernel_rfl⟩
instance i581:ApC P 88 88 92 1:=⟨by kernel_rfl⟩
instance i582:ApC P 89 89 88 1:=⟨by kernel_rfl⟩
instance i583:ApC P 90 90 167 1:=⟨by kernel_rfl⟩
instance i585:ApC P 158 158 157 4:=⟨by kernel_rfl⟩
instance i587:PlC P 3:=⟨by kernel_rfl⟩
instance i590:PlC P 70:=⟨by kernel_rfl⟩
instance i593:PlC P 153:=⟨by kernel_rfl⟩
instance i595:PlC P 191:=⟨by kernel_rfl⟩
instance i603:ZeC P 3 [.int .i64 0]:=⟨.int .i64 0,by kernel_rfl,rfl⟩
instance i604:ZeC P 4 [.bool false]:=⟨.bool false,by kernel_rfl,rfl⟩
instance i605:ZeC P 9 [str []]:=⟨str [],by kernel_rfl,rfl⟩
instance i606:ZeC P 25 [.slice none 0 0]:=⟨.slice none 0 0,by kernel_rfl,rfl⟩
instance i607:ZeC P 27 [str [],.slice none 0 0,.slice none 0 0,.slice none 0 0,.slice none 0 0,str [],.slice none 0 0,.int .i64 0]:=⟨.agg ⟨[str [],.slice none 0 0,.slice none 0 0,.slice none 0 0,.slice none 0 0,str [],.slice none 0 0,.int .i64 0]⟩,by kernel_rfl,rfl⟩
instance i608:ZeC P 30 [str [],.int .i64 0,.slice none 0 0]:=⟨.agg ⟨[str [],.int .i64 0,.slice none 0 0]⟩,by kernel_rfl,rfl⟩
instance i609:ZeC P 38 [.int .i64 0]:=⟨.int .i64 0,by kernel_rfl,rfl⟩
instance i610:ZeC P 47 [str [],str []]:=⟨.agg ⟨[str [],str []]⟩,by kernel_rfl,rfl⟩
instance i611:ZeC P 50 [str [],str [],str [],.slice none 0 0,.int .i64 0,.slice none 0 0]:=⟨.agg ⟨[str [],str [],str [],.slice none 0 0,.int .i64 0,.slice none 0 0]⟩,by kernel_rfl,rfl⟩
instance i612:ZeC P 52 [str [],.int .i64 0,.int .i64 0,.slice none 0 0]:=⟨.agg ⟨[str [],.int .i64 0,.int .i64 0,.slice none 0 0]⟩,by kernel_rfl,rfl⟩
instance i613:ZeC P 57 [.int .i64 0,.int .i64 0,.int .i64 0,.int .i64 0,.int .i64 0,str [],.slice none 0 0,.int .i64 0,.int .i64 0]:=⟨.agg ⟨[.int .i64 0,.int .i64 0,.int .i64 0,.int .i64 0,.int .i64 0,str [],.slice none 0 0,.int .i64 0,.int .i64 0]⟩,by kernel_rfl,rfl⟩
instance i614:ZeC P 66 [str [],.slice none 0 0]:=⟨.agg ⟨[str [],.slice none 0 0]⟩,by kernel_rfl,rfl⟩
instance i615:ZeC P 70 [.int .i64 0,.int .i64 0,.int .i64 0]:=⟨.agg ⟨[.int .i64 0,.int .i64 0,.int .i64 0]⟩,by kernel_rfl,rfl⟩
instance i616:ZeC P 79 [.slice none 0 0]:=⟨.slice none 0 0,by kernel_rfl,rfl⟩
instance i617:ZeC P 92 [.slice none 0 0]:=⟨.agg ⟨[.slice none 0 0]⟩,by kernel_rfl,rfl⟩
instance i619:ZeC P 135 [.int .i64 0,.int .i64 0,.int .i64 0]:=⟨.agg ⟨[.int .i64 0,.int .i64 0,.int .i64 0]⟩,by kernel_rfl,rfl⟩
instance i620:ZeC P 142 [.pointer none]:=⟨.pointer none,by kernel_rfl,rfl⟩
instance i621:ZeC P 153 [.int .i64 0]:=⟨.agg ⟨[.int .i64 0]⟩,by kernel_rfl,rfl⟩
instance i622:ZeC P 155 [.pointer none]:=⟨.pointer none,by kernel_rfl,rfl⟩
instance i623:ZeC P 165 [str [],.int .i64 0,.int .i64 0,.slice none 0 0,.int .i64 0]:=⟨.agg ⟨[str [],.int .i64 0,.int .i64 0,.slice none 0 0,.int .i64 0]⟩,by kernel_rfl,rfl⟩
instance i624:ZeC P 191 [.int .i64 0]:=⟨.agg ⟨[.int .i64 0]⟩,by kernel_rfl,rfl⟩
instance i629 {x1:ByteArray} {x2:Int}:BdC P 27 [(0,.string x1),(7,.int .i64 x2)] [.string x1,.slice none 0 0,.slice none 0 0,.slice none 0 0,.slice none 0 0,str [],.slice none 0 0,.int .i64 x2]:=⟨by kernel_rfl⟩
instance i631 {x1:ByteArray} {x2:Option Addr} {x3:Nat} {x4:Nat}:BdC P 30 [(0,.string x1),(2,.slice x2 x3 x4)] [.string x1,.int .i64 0,.slice x2 x3 x4]:=⟨by kernel_rfl⟩
instance i632 {x1:ByteArray}:BdC P 47 [(0,.string x1)] [.string x1,str []]:=⟨by kernel_rfl⟩
instance i633 {x1:ByteArray} {x2:Value} {x3:Value} {x4:Option Addr} {x5:Nat} {x6:Nat} {x7:Int}:BdC P 50 [(0,.string x1),(1,.agg ⟨[x2,x3]⟩),(2,.slice x4 x5 x6),(3,.int .i64 x7)] [.string x1,x2,x3,.slice x4 x5 x6,.int .i64 x7,.slice none 0 0]:=⟨by kernel_rfl⟩
instance i634 {x1:ByteArray} {x2:Int}:BdC P 52 [(0,.string x1),(1,.int .i64 x2)] [.string x1,.int .i64 x2,.int .i64 0,.slice none 0 0]:=⟨by kernel_rfl⟩
instance i636 {x1:Int}:BdC P 57 [(0,.int .i64 x1)] [.int .i64 x1,.int .i64 0,.int .i64 0,.int .i64 0,.int .i64 0,str [],.slice none 0 0,.int .i64 0,.int .i64 0]:=⟨by kernel_rfl⟩
instance i637 {x1:Int} {x2:Int} {x3:ByteArray} {x4:Option Addr} {x5:Nat} {x6:Nat}:BdC P 57 [(0,.int .i64 x1),(1,.int .i64 x2),(5,.string x3),(6,.slice x4 x5 x6)] [.int .i64 x1,.int .i64 x2,.int .i64 0,.int .i64 0,.int .i64 0,.string x3,.slice x4 x5 x6,.int .i64 0,.int .i64 0]:=⟨by kernel_rfl⟩
instance i639 {x1:ByteArray}:BdC P 66 [(0,.string x1)] [.string x1,.slice none 0 0]:=⟨by kernel_rfl⟩
instance i640 {x1:Int} {x2:Int} {x3:Int}:BdC P 70 [(0,.int .i64 x1),(1,.int .i64 x2),(2,.int .i64 x3)] [.int .i64 x1,.int .i64 x2,.int .i64 x3]:=⟨by kernel_rfl⟩
instance i641 {x1:Option Addr} {x2:Value} {x3:Value} {x4:Value}:BdC P 74 [(0,.pointer x1),(1,.agg ⟨[x2,x3,x4]⟩)] [.pointer x1,x2,x3,x4,.int .i64 0,.int .i64 0]:=⟨by kernel_rfl⟩
instance i643 {x1:Option Addr} {x2:Nat} {x3:Nat}:BdC P 92 [(0,.slice x1 x2 x3)] [.slice x1 x2 x3]:=⟨by kernel_rfl⟩
instance i644 {x1:Value} {x2:Value} {x3:Value} {x4:Value} {x5:Value} {x6:Value} {x7:Value} {x8:Value}:BdC P 94 [(0,.agg ⟨[x1,x2,x3,x4,x5,x6,x7,x8]⟩)] [x1,x2,x3,x4,x5,x6,x7,x8,.slice none 0 0,.slice none 0 0,.map none,.map none,.map none,.slice none 0 0,.slice none 0 0,.slice none 0 0,.slice none 0 0,.slice none 0 0,.slice none 0 0,.slice none 0 0,.slice none 0 0]:=⟨by kernel_rfl⟩
instance i648 {x1:Int} {x2:Int} {x3:Int}:BdC P 135 [(0,.int .i64 x1),(1,.int .i64 x2),(2,.int .i64 x3)] [.int .i64 x1,.int .i64 x2,.int .i64 x3]:=⟨by kernel_rfl⟩
instance i649 {x1:Value} {x2:Value} {x3:Value} {x4:Value} {x5:Value} {x6:Value} {x7:Value} {x8:Value}:BdC P 144 [(0,.agg ⟨[x1,x2,x3,x4,x5,x6,x7,x8]⟩)] [x1,x2,x3,x4,x5,x6,x7,x8,.slice none 0 0,.slice none 0 0]:=⟨by kernel_rfl⟩
instance i650 {x1:Int}:BdC P 153 [(0,.int .i64 x1)] [.int .i64 x1]:=⟨by kernel_rfl⟩
instance i651  : BdC P 157 [] [.int .i64 0,.int .i64 0,.int .i64 0,.slice none 0 0]:=⟨by kernel_rfl⟩
instance i652 {x1:Value} {x2:Value} {x3:Value}:BdC P 157 [(0,.agg ⟨[x1,x2,x3]⟩)] [x1,x2,x3,.slice none 0 0]:=⟨by kernel_rfl⟩
instance i653 {x1:Option Nat} {x2:Option Addr} {x3:Nat} {x4:Nat}:BdC P 160 [(2,.map x1),(3,.slice x2 x3 x4)] [.slice none 0 0,.slice none 0 0,.map x1,.slice x2 x3 x4,.int .i64 0]:=⟨by kernel_rfl⟩
instance i654 {x1:Value} {x2:Value} {x3:Value} {x4:Value} {x5:Int}:BdC P 165 [(0,.agg ⟨[x1,x2,x3,x4]⟩),(1,.int .i64 x5)] [x1,x2,x3,x4,.int .i64 x5]:=⟨by kernel_rfl⟩
instance i655 {x1:Int}:BdC P 191 [(0,.int .i64 x1)] [.int .i64 x1]:=⟨by kernel_rfl⟩
instance i661  : BsC P 22 0 [] []:=⟨by kernel_rfl⟩
instance i662 {x1:Value} {x2:Value} {x3:Value} {x4:Value}:BsC P 22 1 [(0,.agg ⟨[x1,x2,x3,x4]⟩)] [x1,x2,x3,x4]:=⟨by kernel_rfl⟩
instance i663  : BsC P 23 0 [] []:=⟨by kernel_rfl⟩
instance i664 {x1:Value} {x2:Value}:BsC P 23 1 [(0,.agg ⟨[x1,x2]⟩)] [x1,x2]:=⟨by kernel_rfl⟩
instance i665  : BsC P 24 0 [] []:=⟨by kernel_rfl⟩
instance i666 {x1:Value} {x2:Value} {x3:Value} {x4:Value} {x5:Value} {x6:Value} {x7:Value} {x8:Value} {x9:Value} {x10:Value} {x11:Value} {x12:Value} {x13:Value} {x14:Value} {x15:Value} {x16:Value} {x17:Value} {x18:Value}:BsC P 24 3 [(0,.agg ⟨[x1,x2,x3,x4,x5,x6]⟩),(1,.agg ⟨[x7,x8,x9,x10,x11,x12]⟩),(2,.agg ⟨[x13,x14,x15,x16,x17,x18]⟩)] [x1,x2,x3,x4,x5,x6,x7,x8,x9,x10,x11,x12,x13,x14,x15,x16,x17,x18]:=⟨by kernel_rfl⟩
instance i667  : BsC P 25 0 [] []:=⟨by kernel_rfl⟩
instance i668 {x1:ByteArray}:BsC P 25 1 [(0,.string x1)] [.string x1]:=⟨by kernel_rfl⟩
instance i672 {x1:ByteArray} {x2:ByteArray} {x3:ByteArray} {x4:ByteArray} {x5:ByteArray} {x6:ByteArray} {x7:ByteArray} {x8:ByteArray} {x9:ByteArray} {x10:ByteArray} {x11:ByteArray}:BsC P 25 11 [(0,.string x1),(1,.string x2),(2,.string x3),(3,.string x4),(4,.string x5),(5,.string x6),(6,.string x7),(7,.string x8),(8,.string x9),(9,.string x10),(10,.string x11)] [.string x1,.string x2,.string x3,.string x4,.string x5,.string x6,.string x7,.string x8,.string x9,.string x10,.string x11]:=⟨by kernel_rfl⟩
instance i673 {x1:Option Addr} {x2:Nat} {x3:Nat}:BsC P 28 1 [(0,.slice x1 x2 x3)] [.slice x1 x2 x3]:=⟨by kernel_rfl⟩
instance i674  : BsC P 48 0 [] []:=⟨by kernel_rfl⟩
instance i675 {x1:Value} {x2:Value}:BsC P 48 1 [(0,.agg ⟨[x1,x2]⟩)] [x1,x2]:=⟨by kernel_rfl⟩
instance i676 {x1:Value} {x2:Value} {x3:Value} {x4:Value}:BsC P 48 2 [(0,.agg ⟨[x1,x2]⟩),(1,.agg ⟨[x3,x4]⟩)] [x1,x2,x3,x4]:=⟨by kernel_rfl⟩
instance i677  : BsC P 55 0 [] []:=⟨by kernel_rfl⟩
instance i678 {x1:Int}:BsC P 55 1 [(0,.int .i64 x1)] [.int .i64 x1]:=⟨by kernel_rfl⟩
instance i679 {x1:Int} {x2:Int}:BsC P 55 2 [(0,.int .i64 x1),(1,.int .i64 x2)] [.int .i64 x1,.int .i64 x2]:=⟨by kernel_rfl⟩
instance i681 {x1:Value} {x2:Value} {x3:Value} {x4:Value} {x5:Value} {x6:Value} {x7:Value} {x8:Value} {x9:Value} {x10:Value} {x11:Value} {x12:Value} {x13:Value} {x14:Value} {x15:Value} {x16:Value} {x17:Value} {x18:Value}:BsC P 58 2 [(0,.agg ⟨[x1,x2,x3,x4,x5,x6,x7,x8,x9]⟩),(1,.agg ⟨[x10,x11,x12,x13,x14,x15,x16,x17,x18]⟩)] [x1,x2,x3,x4,x5,x6,x7,x8,x9,x10,x11,x12,x13,x14,x15,x16,x17,x18]:=⟨by kernel_rfl⟩
instance i682 {x1:Value} {x2:Value} {x3:Value}:BsC P 79 1 [(0,.agg ⟨[x1,x2,x3]⟩)] [x1,x2,x3]:=⟨by kernel_rfl⟩
instance i683 {x1:Value} {x2:Value} {x3:Value} {x4:Value} {x5:Value} {x6:Value}:BsC P 79 2 [(0,.agg ⟨[x1,x2,x3]⟩),(1,.agg ⟨[x4,x5,x6]⟩)] [x1,x2,x3,x4,x5,x6]:=⟨by kernel_rfl⟩
instance i684 {x1:Option Addr} {x2:Nat} {x3:Nat}:BsC P 80 1 [(0,.slice x1 x2 x3)] [.slice x1 x2 x3]:=⟨by kernel_rfl⟩
instance i685 {x1:Option Addr} {x2:Nat} {x3:Nat} {x4:Option Addr} {x5:Nat} {x6:Nat}:BsC P 80 2 [(0,.slice x1 x2 x3),(1,.slice x4 x5 x6)] [.slice x1 x2 x3,.slice x4 x5 x6]:=⟨by kernel_rfl⟩
instance i686 {x1:Value}:BsC P 88 1 [(0,.agg ⟨[x1]⟩)] [x1]:=⟨by kernel_rfl⟩
instance i687 {x1:Option Addr} {x2:Nat} {x3:Nat}:BsC P 89 1 [(0,.slice x1 x2 x3)] [.slice x1 x2 x3]:=⟨by kernel_rfl⟩
instance i688 {x1:Int}:BsC P 90 1 [(0,.int .u64 x1)] [.int .u64 x1]:=⟨by kernel_rfl⟩
instance i690 {x1:Fn} {x2:Array Value} {x3:Array Value} {x4:Fn} {x5:Array Value} {x6:Array Value} {x7:Fn} {x8:Array Value} {x9:Array Value} {x10:Fn} {x11:Array Value} {x12:Array Value} {x13:Fn} {x14:Array Value} {x15:Array Value}:BsC P 146 5 [(0,.func x1 x2 x3),(1,.func x4 x5 x6),(2,.func x7 x8 x9),(3,.func x10 x11 x12),(4,.func x13 x14 x15)] [.func x1 x2 x3,.func x4 x5 x6,.func x7 x8 x9,.func x10 x11 x12,.func x13 x14 x15]:=⟨by kernel_rfl⟩
instance i691 {x1:Value} {x2:Value} {x3:Value} {x4:Value}:BsC P 158 1 [(0,.agg ⟨[x1,x2,x3,x4]⟩)] [x1,x2,x3,x4]:=⟨by kernel_rfl⟩
end Go.Proofs.YtmccnilgnlaffaaGreatDoor
namespace Go.Ex.M
structure Pl where
  root:Int
  at_:Int
  width:Int
 deriving DecidableEq
abbrev plC(p:Pl):List Value:=[I64 p.root,I64 p.at_,I64 p.width]
abbrev plV(p:Pl):Value:=.agg ⟨plC p⟩
def Go64(x:Int):Prop:= -9223372036854775808≤x∧x<9223372036854775808
def PlOK(p:Pl):Prop:=Go64 p.at_∧Go64 p.width
def lapP(a b:Pl):Prop:=a.root=b.root∧1≤a.width∧1≤b.width∧(if b.at_<a.at_ then a.at_ - b.at_<b.width else b.at_ - a.at_<a.width)
instance (a b:Pl):Decidable (lapP a b):=by unfold lapP;exact inferInstance
def lapB(a b:Pl):Bool:=decide (lapP a b)
theorem lap_u{a b c:Int}(ha:Go64 a)(hb:Go64 b)(hc:Go64 c)(h1:1≤c)(h:a≤b):(IntKind.wrap .u64 (IntKind.wrap .u64 b - IntKind.wrap .u64 a)<IntKind.wrap .u64 c)↔b - a<c:=by
 unfold Go64 at *;have e:∀x:Int,IntKind.wrap .u64 x=x % 18446744073709551616:=fun x=>rfl;rw [e,e,e,e];omega
def withinP(a b:Pl):Prop:=a.root=b.root∧(a.width<1∨(1≤b.width∧b.at_≤a.at_∧a.at_ - b.at_≤b.width∧a.width≤b.width - (a.at_ - b.at_)))
instance (a b:Pl):Decidable (withinP a b):=by unfold withinP;exact inferInstance
def withinB(a b:Pl):Bool:=decide (withinP a b)
theorem le_u{a b c:Int}(ha:Go64 a)(hb:Go64 b)(hc:Go64 c)(h1:1≤c)(h:a≤b):(IntKind.wrap .u64 (IntKind.wrap .u64 b - IntKind.wrap .u64 a)≤IntKind.wrap .u64 c)↔b - a≤c:=by
 unfold Go64 at *;have e:∀x:Int,IntKind.wrap .u64 x=x % 18446744073709551616:=fun x=>rfl;rw [e,e,e,e];omega
theorem within_u{a b c w:Int}(ha:Go64 a)(hb:Go64 b)(hc:Go64 c)(hw:Go64 w)(h1:1≤c)(h2:1≤w)(h:a≤b)(h3:b - a≤c):(IntKind.wrap .u64 w≤IntKind.wrap .u64 (IntKind.wrap .u64 c - IntKind.wrap .u64 (IntKind.wrap .u64 b - IntKind.wrap .u64 a)))↔w≤c - (b - a):=by
 unfold Go64 at *;have e:∀x:Int,IntKind.wrap .u64 x=x % 18446744073709551616:=fun x=>rfl;rw [e,e,e,e,e,e];omega
theorem lap_fin{z:Bool}{a b:Pl}{h h':zB}{n n':Nat}(hz:z=true↔lapP a b)(ht:Tch [] h n h' n'):Out.ret (.bool z)=Out.ret (.bool (lapB a b))∧Tch [] h n h' n':=⟨by
 unfold lapB
 cases z with
 | true=>rw [decide_eq_true (hz.1 rfl)]
 | false=>rw [decide_eq_false fun e=>Bool.noConfusion (hz.2 e)],ht⟩
theorem within_fin{z:Bool}{a b:Pl}{h h':zB}{n n':Nat}(hz:z=true↔withinP a b)(ht:Tch [] h n h' n'):Out.ret (.bool z)=Out.ret (.bool (withinB a b))∧Tch [] h n h' n':=⟨by
 unfold withinB
 cases z with
 | true=>rw [decide_eq_true (hz.1 rfl)]
 | false=>rw [decide_eq_false fun e=>Bool.noConfusion (hz.2 e)],ht⟩
end Go.Ex.M
namespace Go.Proofs.YtmccnilgnlaffaaGreatDoor
open Go Go.Ex Go.Ex.M
set_option maxRecDepth 100000
set_option maxHeartbeats 8000000
theorem lap_pur(a b:Pl)(ha:PlOK a)(hb:PlOK b)(h:zB)(n:Nat):Pur P 8 87 [plV a,plV b] h n (.bool (lapB a b)):=by
 obtain⟨ha1,ha2⟩:=ha;obtain⟨hb1,hb2⟩:=hb;refine Com.pure (ent fun u=>?_) (.inl rfl);repeat' first|refine wk ?_|refine cX (fun _=>?_) fun _=>?_|fail
 all_goals refine lap_fin ?_ zA
 all_goals unfold lapP
 · exact⟨Bool.noConfusion,by omega⟩
 · exact⟨Bool.noConfusion,by omega⟩
 · exact⟨Bool.noConfusion,by omega⟩
 · rw[decide_eq_true_iff,lap_u hb1 ha1 hb2 (by omega) (by omega)];split <;> omega
 · rw[decide_eq_true_iff,lap_u ha1 hb1 ha2 (by omega) (by omega)];split <;> omega
theorem within_pur(a b:Pl)(ha:PlOK a)(hb:PlOK b)(h:zB)(n:Nat):Pur P 8 90 [plV a,plV b] h n (.bool (withinB a b)):=by
 obtain⟨ha1,ha2⟩:=ha;obtain⟨hb1,hb2⟩:=hb;refine Com.pure (ent fun u=>?_) (.inl rfl);repeat' first|refine wk ?_|refine cX (fun _=>?_) fun _=>?_|fail
 all_goals refine within_fin ?_ zA
 all_goals unfold withinP
 · exact⟨Bool.noConfusion,by omega⟩
 · exact⟨fun _=>by omega,fun _=>rfl⟩
 · exact⟨Bool.noConfusion,by omega⟩
 · exact⟨Bool.noConfusion,by omega⟩
 · rename_i h5;rw [le_u hb1 ha1 hb2 (by omega) (by omega)]at h5;rw [decide_eq_true_iff,within_u hb1 ha1 hb2 ha2 (by omega) (by omega) (by omega) h5];omega
 · rename_i h5;rw [le_u hb1 ha1 hb2 (by omega) (by omega)]at h5;exact⟨Bool.noConfusion,by omega⟩
end Go.Proofs.YtmccnilgnlaffaaGreatDoor
namespace Go.Ex.M
abbrev Tx:=List UInt8
def letB(c:Nat):Bool:=decide ((97≤c∧c≤122)∨(65≤c∧c≤90)∨c=95)
def digB(c:Nat):Bool:=decide (48≤c∧c≤57)
def tailB(s:Tx):Bool:=s.all fun c=>letB c.toNat || digB c.toNat
def nameB:Tx→Bool
 | []=>false
 | c::r=>decide ((c::r).length≤20) && letB c.toNat && tailB (c::r)
def pos(ss:List Tx)(x:Tx):Int:=if x∈ss then(ss.idxOf x:Nat) else -1
theorem pos_hit{ss:List Tx}{x:Tx}{k:Nat}(hk:ss[k]? = some x)(hno:∀j,j<k→ss[j]?≠some x):pos ss x=(k:Nat):=by
 have hm:x∈ss:=List.mem_iff_getElem?.2 ⟨k,hk⟩;unfold pos;rw [if_pos hm];have h1:ss.idxOf x<ss.length:=List.idxOf_lt_length_iff.2 hm;have h2:ss[ss.idxOf x]? = some x:=by rw[List.getElem?_eq_getElem h1,List.getElem_idxOf h1]
 rcases Nat.lt_trichotomy (ss.idxOf x) k with h|h|h
 · exact absurd h2 (hno _ h)
 · rw[h]
 · have:=List.not_of_lt_findIdx (p:=(· == x)) h;rw [List.getElem?_eq_some_iff]at hk;obtain⟨hk1,hk2⟩:=hk;simp [hk2]at this
theorem pos_no{ss:List Tx}{x:Tx}(hno:∀j,j<ss.length→ss[j]?≠some x):pos ss x = -1:=by
 unfold pos
 rw[if_neg fun hm=>by
  obtain⟨k,hk⟩:=List.mem_iff_getElem?.1 hm;exact hno k (List.getElem?_eq_some_iff.1 hk).1 hk]
theorem pos_ge{ss:List Tx}{x:Tx}:0≤pos ss x↔x∈ss:=by
 unfold pos;split <;> rename_i h
 · exact⟨fun _=>h,fun _=>by omega⟩
 · exact⟨fun h2=>by omega,fun h2=>absurd h2 h⟩
theorem str_at{ss:List Tx}{k:Nat}(h:k<ss.length):(ss.map str)[k]? = some (str ss[k]):=by rw[List.getElem?_map,List.getElem?_eq_getElem h];rfl
end Go.Ex.M
namespace Go.Proofs.YtmccnilgnlaffaaGreatDoor
open Go Go.Ex Go.Ex.M
set_option maxRecDepth 100000
set_option maxHeartbeats 8000000
theorem sG{lo e n:Nat}{h:zB}{sv:Value}{ss:List Tx}{x:Tx}(r:Row lo h sv e 1 ss.length (ss.map str))(hl:ss.length<4611686018427387904):Pur P 8 130 [sv,str x] h n (I64 (pos ss x)):=by
 refine ent fun u=>?_;repeat' first|refine wk ?_|refine cX (fun _=>?_) fun _=>?_|fail
 refine lpR (fun k:Nat=>[(0,sv),(1,str x),(6,sv),(7,I64 ss.length),(8,I64 k)]) (fun k h' n'=>h'=h∧n'=n∧k≤ss.length∧∀j,j<k→ss[j]?≠some x) (fun k=>ss.length - k) 0 ⟨rfl,rfl,Nat.zero_le _,fun j hj=>by omega⟩ ?_
 rintro k t h' n' ⟨rfl,rfl,hk,hno⟩
 by_cases hlt:k<ss.length
 · have c1:zC h' (sbk sv) (sof sv+k*1)=some (str ss[k]):=by rw[Nat.mul_one];exact r.at (str_at hlt)
   repeat' first|refine wk ?_|refine cX (fun _=>?_) fun _=>?_|fail
   · rename_i e1;exact⟨by rw[pos_hit (by rw[List.getElem?_eq_getElem hlt,e1]) hno],rfl,rfl⟩
   · rename_i e1
     exact⟨k+1,by dsimp only;omega,⟨rfl,rfl,rfl,rfl,rfl,trivial⟩,rfl,rfl,by omega,fun j hj e2=>by
      rcases Nat.lt_succ_iff_lt_or_eq.1 hj with h9|rfl
      · exact hno j h9 e2
      · rw[List.getElem?_eq_getElem hlt]at e2;exact e1 (Option.some.inj e2).symm⟩
 · obtain rfl:k=ss.length:=by omega
   repeat' first|refine wk ?_|refine cX (fun _=>?_) fun _=>?_|fail
   exact⟨by rw[pos_no hno],rfl,rfl⟩
end Go.Proofs.YtmccnilgnlaffaaGreatDoor
namespace Go.Ex.M
theorem finB{z:Bool}{p:Prop}{_i:Decidable p}{h:zB}{n:Nat}(hz:z=true↔p):Out.ret (.bool z)=Out.ret (.bool (decide p))∧h=h∧n=n:=⟨by
 cases z with
 | true=>rw [decide_eq_true (hz.1 rfl)]
 | false=>rw [decide_eq_false fun e=>Bool.noConfusion (hz.2 e)],rfl,rfl⟩
theorem fin{v w:Value}{h:zB}{n:Nat}(e:v=w):Out.ret v=Out.ret w∧h=h∧n=n:=⟨by rw[e],rfl,rfl⟩
theorem finT{S:List Nat}{v w:Value}{h h':zB}{n n':Nat}(e:v=w)(t:Tch S h n h' n'):Out.ret v=Out.ret w∧Tch S h n h' n':=⟨by rw[e],t⟩
def wordsL:List Tx:=[[109,97,99,104,105,110,101],[114,101,103],[97,116],[99,108,97,115,115],[111,112],[116,105,101],[99,108,111,98],[97,114,103,115],[114,101,115,117,108,116],[115,97,118,101,100],[115,108,111,116,115]]
def wordB(s:Tx):Bool:=decide (s∈wordsL)
def named(s:Tx):Bool:=nameB s && !wordB s
def posF{α : Type}(p: α→Bool)(l:List α):Int:=if l.any p then(l.findIdx p:Nat) else -1
theorem posF_hit{α : Type}{p: α→Bool}{l:List α}{k:Nat}{x: α}(hk:l[k]? = some x)(hx:p x=true)(hno:∀(j:Nat) (y: α),j<k→l[j]? = some y→p y=false):posF p l=(k:Nat):=by
 obtain⟨h1,h2⟩:=List.getElem?_eq_some_iff.1 hk;unfold posF;rw [if_pos (List.any_eq_true.2 ⟨x,h2 ▸ List.getElem_mem h1,hx⟩)];congr 1
 rw[List.findIdx_eq h1];refine⟨by rw[h2];exact hx,fun j hj=>?_⟩;exact hno j _ hj (List.getElem?_eq_getElem _)
theorem posF_no{α : Type}{p: α→Bool}{l:List α}(hno:∀(j:Nat) (y: α),l[j]? = some y→p y=false):posF p l = -1:=by
 unfold posF;rw [if_neg];intro h;obtain⟨x,h1,h2⟩:=List.any_eq_true.1 h;obtain⟨j,hj⟩:=List.mem_iff_getElem?.1 h1;rw [hno j x hj]at h2;cases h2
theorem posF_ge{α : Type}{p: α→Bool}{l:List α}:0≤posF p l↔l.any p=true:=by
 unfold posF;split <;> rename_i h
 · exact⟨fun _=>h,fun _=>by omega⟩
 · exact⟨fun h2=>by omega,fun h2=>absurd h2 h⟩
theorem uA{α : Type}{f: α→List Value}{sz:Nat}(hf:∀x,(f x).length=sz):∀{l:List α} {k j:Nat} {x: α} {v:Value},l[k]? = some x→(f x)[j]? = some v→(l.flatMap f)[k*sz+j]? = some v:=by
 intro l
 induction l with
 | nil=>intro k j x v h;cases h
 | cons y r ih =>
  intro k j x v h1 h2;rw [List.flatMap_cons]
  cases k with
  | zero=>
   cases h1
   rw[Nat.zero_mul,Nat.zero_add,List.getElem?_append_left (List.getElem?_eq_some_iff.1 h2).1];exact h2
  | succ k=>
   rw[List.getElem?_cons_succ]at h1;rw [List.getElem?_append_right (by rw[hf];have:=Nat.add_one_mul k sz;omega),hf,show(k+1)*sz+j - sz=k*sz+j by have:=Nat.add_one_mul k sz;omega];exact ih h1 h2
theorem flat_len{α : Type}{f: α→List Value}{sz:Nat}(hf:∀x,(f x).length=sz)(l:List α):(l.flatMap f).length=l.length*sz:=by
 induction l with
 | nil=>simp
 | cons y r ih=>rw [List.flatMap_cons,List.length_append,hf,ih,List.length_cons,Nat.succ_mul];omega
theorem rd_of{h:zB}{b:Nat}:∀{sz o:Nat} {vs:List Value},vs.length=sz→(∀j v,vs[j]? = some v→zC h b (o+j)=some v)→Rd h b o sz vs:=by
 intro sz
 induction sz with
 | zero=>intro o vs h1 _;exact List.length_eq_zero_iff.1 h1
 | succ k ih=>
  intro o vs h1 h2
  cases vs with
  | nil=>cases h1
  | cons x r=>exact⟨x,r,rfl,h2 0 x rfl,ih (by simpa using h1) fun j v hj=>by have:=h2 (j+1) v (by simpa using hj);rwa [show o+(j+1)=o+1+j by omega]at this⟩
theorem yE{α : Type}{f: α→List Value}{sz lo e len:Nat}{h:zB}{v:Value}{l:List α}{k:Nat}{x: α}(r:Row lo h v e sz len (l.flatMap f))(hk:l[k]? = some x)(hf:∀x,(f x).length=sz:=by intro _;rfl):Rd h (sbk v) (sof v+k*sz) sz (f x):=
 rd_of (hf x) fun j w hj=>by rw[Nat.add_assoc];exact r.at (uA hf hk hj)
theorem row_e1{α : Type}{g: α→Value}{lo e len:Nat}{h:zB}{v:Value}{l:List α}{k:Nat}{x: α}(r:Row lo h v e 1 len (l.map g))(hk:l[k]? = some x):zC h (sbk v) (sof v+k*1)=some (g x):=by
 rw[Nat.mul_one];exact r.at (by rw[List.getElem?_map,hk];rfl)
theorem tail_step{s:Tx}{k:Nat}(h:k<s.length):tailB s=true→letB s[k].toNat=true∨digB s[k].toNat=true:=fun ht=>by
 have:=List.all_eq_true.1 ht s[k] (List.getElem_mem h);simpa using this
theorem tail_all{s:Tx}(hno:∀j (hj:j<s.length),letB s[j].toNat=true∨digB s[j].toNat=true):tailB s=true:=by
 refine List.all_eq_true.2 fun c hc=>?_;obtain⟨j,hj,rfl⟩:=List.mem_iff_getElem.1 hc;have:=hno j hj;simpa using this
end Go.Ex.M
namespace Go.Proofs.YtmccnilgnlaffaaGreatDoor
open Go Go.Ex Go.Ex.M
set_option maxRecDepth 100000
set_option maxHeartbeats 8000000
instance (c:Nat) (h:zB) (n:Nat):PurC P 8 56 [.int .u8 c] h n (.bool (letB c)):=⟨by
 refine ent fun u=>?_;repeat' first|refine wk ?_|refine cX (fun _=>?_) fun _=>?_|fail
 all_goals (first|unfold letB|unfold digB|skip);all_goals (refine finB ?_;first|exact⟨fun _=>by omega,fun _=>rfl⟩|exact⟨fun h=>Bool.noConfusion h,fun h=>by omega⟩|(rw [decide_eq_true_iff];omega))⟩
instance (c:Nat) (h:zB) (n:Nat):PurC P 8 57 [.int .u8 c] h n (.bool (digB c)):=⟨by
 refine ent fun u=>?_;repeat' first|refine wk ?_|refine cX (fun _=>?_) fun _=>?_|fail
 all_goals (first|unfold letB|unfold digB|skip);all_goals (refine finB ?_;first|exact⟨fun _=>by omega,fun _=>rfl⟩|exact⟨fun h=>Bool.noConfusion h,fun h=>by omega⟩|(rw [decide_eq_true_iff];omega))⟩
instance named_c (s:Tx) (h:zB) (n:Nat):PurC P 8 22 [str s] h n (.bool (nameB s)):=⟨by
 refine ent fun u=>?_
 cases s with
 | nil=>
  repeat' first|refine wk ?_|refine cX (fun _=>?_) fun _=>?_|fail
  exact fin rfl
 | cons c r=>
  have c0:(c::r)[0]? = some c:=rfl;have hn:nameB (c::r)=(decide ((c::r).length≤20) && letB c.toNat && tailB (c::r)):=rfl;repeat' first|refine wk ?_|refine cX (fun _=>?_) fun _=>?_|fail
  · rename_i h2;exact fin (by rw[hn,decide_eq_false (by omega)];rfl)
  · rename_i h2;exact fin (by rw[hn,h2];simp)
  · rename_i h2 h3;replace hn:nameB (c::r)=tailB (c::r):=by rw[hn,decide_eq_true (by omega),h3];rfl
    generalize c::r=s at *
    refine lpR (fun k:Nat=>[(0,str s),(18,I64 s.length),(19,I64 k)]) (fun k h' n'=>h'=h∧n'=n∧k≤s.length∧∀j (hj:j<s.length),j<k→letB s[j].toNat=true∨digB s[j].toNat=true) (fun k=>s.length - k) 0 ⟨rfl,rfl,Nat.zero_le _,fun j _ hj=>by omega⟩ ?_
    rintro k t h' n' ⟨rfl,rfl,hk,hno⟩
    by_cases hlt:k<s.length
    · have c1:s[k]? = some s[k]:=List.getElem?_eq_getElem hlt
      have go:letB s[k].toNat=true∨digB s[k].toNat=true→∀j (hj:j<s.length),j<k+1→letB s[j].toNat=true∨digB s[j].toNat=true:=fun hx j hj hlt=>by
       rcases Nat.lt_succ_iff_lt_or_eq.1 hlt with h9|rfl
       · exact hno j hj h9
       · exact hx
      repeat' first|refine wk ?_|refine cX (fun _=>?_) fun _=>?_|fail
      · rename_i h7 h8;refine fin ?_;rw [hn]
        cases h9:tailB s with
        | false=>rfl
        | true=>rcases tail_step hlt h9 with e|e <;> simp_all
      · rename_i h7 h8;exact⟨k+1,by dsimp only;omega,⟨rfl,rfl,rfl,trivial⟩,rfl,rfl,by omega,go (.inr h8)⟩
      · rename_i h7;exact⟨k+1,by dsimp only;omega,⟨rfl,rfl,rfl,trivial⟩,rfl,rfl,by omega,go (.inl h7)⟩
    · obtain rfl:k=s.length:=by omega
      repeat' first|refine wk ?_|refine cX (fun _=>?_) fun _=>?_|fail
      exact fin (by rw[hn,tail_all fun j hj=>hno j hj hj])⟩
theorem uY{lo e n:Nat}{h:zB}{sv:Value}{ss:List Tx}{x:Tx}(r:Row lo h sv e 1 ss.length (ss.map str))(hl:ss.length<4611686018427387904):Pur P 8 128 [sv,str x] h n (.bool (decide (x∈ss))):=by
 refine ent fun u=>?_;repeat' first|refine wk ?_|refine cX (fun _=>?_) fun _=>?_|refine wM (sG r hl) ?_|fail
 exact⟨by rw[show decide (0≤pos ss x)=decide (x∈ss) from decide_eq_decide.2 pos_ge],rfl,rfl⟩
instance word_c (s:Tx) (h:zB) (n:Nat):PurC P 8 172 [str s] h n (.bool (wordB s)):=⟨by
 refine Com.pure (ent fun u=>?_) (.inl rfl);repeat' first|refine wk ?_|refine cX (fun _=>?_) fun _=>?_|fail
 refine wM (uY (ss:=wordsL) (zR (e:=0) (sz:=1) rfl (by decide)) (by decide)) ?_;repeat' first|refine wk ?_|refine cX (fun _=>?_) fun _=>?_|fail
 exact finT rfl zA⟩
instance dnamed_c (s:Tx) (h:zB) (n:Nat):PurC P 8 126 [str s] h n (.bool (named s)):=⟨by
 refine ent fun u=>?_;repeat' first|refine wk ?_|refine cX (fun _=>?_) fun _=>?_|fail
 all_goals (refine fin ?_;unfold named;simp [*])⟩
end Go.Proofs.YtmccnilgnlaffaaGreatDoor
namespace Go.Ex.M
structure ClassT where
 name:Tx
 rsv:Value
 regs:List Tx
structure OperT where
  cls:Tx
  fix:Tx
 deriving DecidableEq
structure OpT where
 name:Tx
 d:OperT
 usv:Value
 uses:List OperT
 tie:Int
 csv:Value
 clob:List Tx
inductive RegT where
 | mk (name:Tx) (w a:Int) (sv:Value) (subs:List RegT)
structure MachT where
 name:Tx
 rsv:Value
 regs:List RegT
 csv:Value
 classes:List ClassT
 osv:Value
 ops:List OpT
 asv:Value
 args:List Tx
 result:Tx
 ssv:Value
 saved:List Tx
 slots:Int
def RegT.name:RegT→Tx | .mk n _ _ _ _=>n
def RegT.w:RegT→Int | .mk _ w _ _ _=>w
def RegT.a:RegT→Int | .mk _ _ a _ _=>a
def RegT.sv:RegT→Value | .mk _ _ _ s _=>s
def RegT.subs:RegT→List RegT | .mk _ _ _ _ l=>l
abbrev regC(r:RegT):List Value:=[str r.name,I64 r.w,I64 r.a,r.sv]
abbrev clsC(c:ClassT):List Value:=[str c.name,c.rsv]
abbrev oprC(o:OperT):List Value:=[str o.cls,str o.fix]
abbrev opC(o:OpT):List Value:=[str o.name,str o.d.cls,str o.d.fix,o.usv,I64 o.tie,o.csv]
abbrev vT(m:MachT):List Value:=[str m.name,m.rsv,m.csv,m.osv,m.asv,str m.result,m.ssv,I64 m.slots]
def RowA(lo:Nat)(h:zB)(v:Value)(sz len:Nat)(vs:List Value):Prop:=∀e,Row lo h v e sz len vs
theorem RowA.lt{lo:Nat}{h:zB}{v:Value}{sz len:Nat}{vs:List Value}(r:RowA lo h v sz len vs):len<inf:=by
 rcases r 0 with⟨_,rfl,_⟩|⟨b,off,cap,m,z,kd,_,rfl,_,h1,_,_,h2⟩
 · decide
 · rcases h2 with h2|⟨rfl,rfl,rfl,h3⟩
   · omega
   · rcases r 1 with⟨h4,_⟩|⟨b',off',cap',m',z',kd',_,h4,_,h5,_,_,h6⟩
     · cases h4
     · injection h4 with h7 h8 h9
       injection h7 with h7;injection h7 with h7 _
       subst h7 h9;rw [h1]at h5;injection h5 with h5
       injection h5 with _ h5
       injection h5 with h5 _
       subst h5;rcases h6 with h6|⟨_,_,h6,_⟩
       · omega
       · have:=(zc_inj h6).1;omega
structure RowI (lo:Nat) (h:zB) (v:Value) (sz len:Nat) (vs:List Value):Prop where
 lt:len<inf
 ex:∃e,Row lo h v e sz len vs
instance {lo:Nat} {h:zB} {v:Value} {sz len:Nat} {vs:List Value}:CoeFun (RowI lo h v sz len vs) (fun r=>Nat→Row lo h v r.ex.choose sz len vs):=⟨fun r _=>r.ex.choose_spec⟩
structure RowT (e lo:Nat) (h:zB) (v:Value) (sz len:Nat) (vs:List Value):Prop where
 lt:len<inf
 r:Row lo h v e sz len vs
instance {e lo:Nat} {h:zB} {v:Value} {sz len:Nat} {vs:List Value}:CoeFun (RowT e lo h v sz len vs) (fun _=>Nat→Row lo h v e sz len vs):=⟨fun r _=>r.r⟩
section
variable {e lo:Nat} {h h':zB} {v:Value} {sz len n n':Nat} {vs:List Value}
theorem RowA.toI(r:RowA lo h v sz len vs):RowI lo h v sz len vs:=⟨r.lt,0,r 0⟩
theorem RowT.toI(r:RowT e lo h v sz len vs):RowI lo h v sz len vs:=⟨r.lt,e,r.r⟩
theorem RowA.tch(r:RowA lo h v sz len vs)(t:Tch [] h n h' n')(hl:lo≤n):RowA lo h' v sz len vs:=fun e=>(r e).tch t hl fun _ _ hx=>by cases hx
theorem RowA.tchE(r:RowA lo h v sz len vs)(t:Tch [] h n h' n')(hl:lo≤n):Row lo h' v 0 sz len vs:=(r 0).tch t hl fun _ _ hx=>by cases hx
theorem RowI.tch(r:RowI lo h v sz len vs)(t:Tch [] h n h' n')(hl:lo≤n):RowI lo h' v sz len vs:=⟨r.lt,_,(r 0).tch t hl fun _ _ hx=>by cases hx⟩
theorem RowI.tchE(r:RowI lo h v sz len vs)(t:Tch [] h n h' n')(hl:lo≤n):Row lo h' v r.ex.choose sz len vs:=(r 0).tch t hl fun _ _ hx=>by cases hx
theorem RowT.tchE(r:RowT e lo h v sz len vs)(t:Tch [] h n h' n')(hl:lo≤n):Row lo h' v e sz len vs:=r.r.tch t hl fun _ _ hx=>by cases hx
theorem RowT.tch(r:RowT e lo h v sz len vs)(t:Tch [] h n h' n')(hl:lo≤n):RowT e lo h' v sz len vs:=⟨r.lt,r.tchE t hl⟩
end
def RegsM(lo:Nat)(h:zB)(sv:Value)(l:List RegT):Prop:=RowT 52 lo h sv 4 l.length (l.flatMap regC)∧∀r,(_:r∈l)→RegsM lo h r.sv r.subs
 termination_by SizeOf.sizeOf l
 decreasing_by
  rename_i hr;have h1:=List.sizeOf_lt_of_mem hr;cases r
  simp only[RegT.subs];simp at h1;omega
theorem RegsM.row{lo:Nat}{h:zB}{sv:Value}{l:List RegT}(r:RegsM lo h sv l):RowT 52 lo h sv 4 l.length (l.flatMap regC):=by unfold RegsM at r;exact r.1
theorem RegsM.sub{lo:Nat}{h:zB}{sv:Value}{l:List RegT}(r:RegsM lo h sv l){x:RegT}(hx:x∈l):RegsM lo h x.sv x.subs:=by unfold RegsM at r;exact r.2 x hx
theorem RegsM.tch{lo n n':Nat}{h h':zB}(t:Tch [] h n h' n')(hl:lo≤n):∀{sv:Value} {l:List RegT},RegsM lo h sv l→RegsM lo h' sv l:=by
  intro sv l r;unfold RegsM at r ⊢;exact⟨r.1.tch t hl,fun x hx=>RegsM.tch t hl (r.2 x hx)⟩
 termination_by sv l=>SizeOf.sizeOf l
 decreasing_by
  have h1:=List.sizeOf_lt_of_mem hx;cases x
  simp only[RegT.subs];simp at h1;omega
structure MachM (lo:Nat) (h:zB) (m:MachT):Prop where
 regs:RegsM lo h m.rsv m.regs
 cls:RowA lo h m.csv 2 m.classes.length (m.classes.flatMap clsC)
 clsr:∀c∈m.classes,RowT 9 lo h c.rsv 1 c.regs.length (c.regs.map str)
 ops:RowA lo h m.osv 6 m.ops.length (m.ops.flatMap opC)
 opsu:∀o∈m.ops,RowA lo h o.usv 2 o.uses.length (o.uses.flatMap oprC)
 opsc:∀o∈m.ops,RowA lo h o.csv 1 o.clob.length (o.clob.map str)
 args:RowA lo h m.asv 1 m.args.length (m.args.map str)
 saved:RowA lo h m.ssv 1 m.saved.length (m.saved.map str)
 slots:Go64 m.slots
theorem MachM.tch{lo n n':Nat}{h h':zB}{m:MachT}(t:Tch [] h n h' n')(hl:lo≤n)(r:MachM lo h m):MachM lo h' m:=
 ⟨RegsM.tch t hl r.regs,r.cls.tch t hl,fun c hc=>(r.clsr c hc).tch t hl,r.ops.tch t hl,fun c hc=>(r.opsu c hc).tch t hl,fun c hc=>(r.opsc c hc).tch t hl,r.args.tch t hl,r.saved.tch t hl,r.slots⟩
def ar2:List Tx:=[[97,100,100],[115,117,98],[109,117,108],[97,110,100],[111,114],[120,111,114],[115,104,108],[115,104,114],[100,105,118],[114,101,109],[108,116],[101,113]]
def arity(s:Tx):Int:=if s∈ar2 then 2 else if s=[110,111,116] then 1 else 0
end Go.Ex.M
namespace Go.Proofs.YtmccnilgnlaffaaGreatDoor
open Go Go.Ex Go.Ex.M
set_option maxRecDepth 100000
set_option maxHeartbeats 8000000
abbrev uQ(e:Int):zH:=[⟨.iface 191 (.agg ⟨[I64 e]⟩),false,false⟩]
theorem need_com(z:Bool)(e:Int)(h:zB)(n:Nat):Com P 8 125 [.bool z,I64 e] h n fun o h' n'=>o=(if z then .ret (.tuple #[]) else .panic (uQ e))∧h'=h∧n'=n:=by
 refine ent fun u=>?_;cases z
 · repeat' first|refine wk ?_|refine cX (fun _=>?_) fun _=>?_|fail
   exact⟨rfl,rfl,rfl⟩
 · repeat' first|refine wk ?_|refine cX (fun _=>?_) fun _=>?_|fail
   exact⟨rfl,rfl,rfl⟩
instance {z:Bool} {e:Int} {h:zB} {n:Nat} {K:Out→zB→Nat→Prop}:Stp (CallB P 8 125 [.bool z,I64 e] h n K) (Ch z (K (.ret (.tuple #[])) h n) (K (.panic (uQ e)) h n)):=⟨fun⟨k1,k2⟩=>cal (need_com z e h n) fun o h' n' ⟨e1,e2,e3⟩=>by
 subst e1 e2 e3;cases z
 · exact k2 rfl
 · exact k1 rfl⟩
instance arity_c (s:Tx) (h:zB) (n:Nat):PurC P 8 175 [str s] h n (I64 (arity s)):=⟨by
 refine ent fun u=>?_;repeat' first|refine wk ?_|refine cX (fun _=>?_) fun _=>?_|fail
 all_goals (refine fin ?_;try subst_vars)
 all_goals first|rfl|skip
 · rename_i h1;unfold arity ar2;simp_all⟩
theorem idxf_cls{lo e n:Nat}{h:zB}{sv:Value}{l:List ClassT}{g:FuncId}{fs cs:List Value}{p:ClassT→Bool}(r:Row lo h sv e 2 l.length (l.flatMap clsC))(hl:l.length<inf)(hp:∀x∈l,Pur P 8 g (fs++([.agg ⟨clsC x⟩]++cs)) h n (.bool (p x))):Pur P 8 179 [sv,.func (.func g) ⟨fs⟩ ⟨cs⟩] h n (I64 (posF p l)):=by
 have hinf:inf<4611686018427387904:=by decide
 refine ent fun u=>?_;repeat' first|refine wk ?_|refine cX (fun _=>?_) fun _=>?_|fail
 refine lpR (fun k:Nat=>[(0,sv),(1,.func (.func g) ⟨fs⟩ ⟨cs⟩),(7,I64 l.length),(8,I64 k)]) (fun k h' n'=>h'=h∧n'=n∧k≤l.length∧∀(j:Nat) (y:ClassT),j<k→l[j]? = some y→p y=false) (fun k=>l.length - k) 0 ⟨rfl,rfl,Nat.zero_le _,fun j _ hj=>by omega⟩ ?_
 rintro k t h' n' ⟨rfl,rfl,hk,hno⟩
 by_cases hlt:k<l.length
 · have c0:l[k]? = some l[k]:=List.getElem?_eq_getElem hlt;have c1:=yE r c0;have c2:=hp l[k] (List.getElem_mem hlt);repeat' first|refine wk ?_|refine cX (fun _=>?_) fun _=>?_|refine wM c2 ?_|fail
   · rename_i e1;exact fin (by rw[posF_hit c0 e1 hno])
   · rename_i e1
     exact⟨k+1,by dsimp only;omega,⟨rfl,rfl,rfl,rfl,trivial⟩,rfl,rfl,by omega,fun j y hj e2=>by
      rcases Nat.lt_succ_iff_lt_or_eq.1 hj with h9|rfl
      · exact hno j y h9 e2
      · rw[c0]at e2;cases e2;exact e1⟩
 · obtain rfl:k=l.length:=by omega
   repeat' first|refine wk ?_|refine cX (fun _=>?_) fun _=>?_|fail
   exact fin (by rw[posF_no fun j y hj=>hno j y (List.getElem?_eq_some_iff.1 hj).1 hj])
theorem idxf_op{lo e n:Nat}{h:zB}{sv:Value}{l:List OpT}{g:FuncId}{fs cs:List Value}{p:OpT→Bool}(r:Row lo h sv e 6 l.length (l.flatMap opC))(hl:l.length<inf)(hp:∀x∈l,Pur P 8 g (fs++([.agg ⟨opC x⟩]++cs)) h n (.bool (p x))):Pur P 8 196 [sv,.func (.func g) ⟨fs⟩ ⟨cs⟩] h n (I64 (posF p l)):=by
 have hinf:inf<4611686018427387904:=by decide
 refine ent fun u=>?_;repeat' first|refine wk ?_|refine cX (fun _=>?_) fun _=>?_|fail
 refine lpR (fun k:Nat=>[(0,sv),(1,.func (.func g) ⟨fs⟩ ⟨cs⟩),(7,I64 l.length),(8,I64 k)]) (fun k h' n'=>h'=h∧n'=n∧k≤l.length∧∀(j:Nat) (y:OpT),j<k→l[j]? = some y→p y=false) (fun k=>l.length - k) 0 ⟨rfl,rfl,Nat.zero_le _,fun j _ hj=>by omega⟩ ?_
 rintro k t h' n' ⟨rfl,rfl,hk,hno⟩
 by_cases hlt:k<l.length
 · have c0:l[k]? = some l[k]:=List.getElem?_eq_getElem hlt;have c1:=yE r c0;have c2:=hp l[k] (List.getElem_mem hlt);repeat' first|refine wk ?_|refine cX (fun _=>?_) fun _=>?_|refine wM c2 ?_|fail
   · rename_i e1;exact fin (by rw[posF_hit c0 e1 hno])
   · rename_i e1
     exact⟨k+1,by dsimp only;omega,⟨rfl,rfl,rfl,rfl,trivial⟩,rfl,rfl,by omega,fun j y hj e2=>by
      rcases Nat.lt_succ_iff_lt_or_eq.1 hj with h9|rfl
      · exact hno j y h9 e2
      · rw[c0]at e2;cases e2;exact e1⟩
 · obtain rfl:k=l.length:=by omega
   repeat' first|refine wk ?_|refine cX (fun _=>?_) fun _=>?_|fail
   exact fin (by rw[posF_no fun j y hj=>hno j y (List.getElem?_eq_some_iff.1 hj).1 hj])
end Go.Proofs.YtmccnilgnlaffaaGreatDoor
namespace Go.Proofs.YtmccnilgnlaffaaGreatDoor
open Go Go.Ex Go.Ex.M
set_option maxRecDepth 100000
set_option maxHeartbeats 8000000
theorem clone_cls{lo n len:Nat}{h:zB}{sv:Value}{vs:List Value}(r:Row lo h sv 66 2 len vs)(hlo:lo≤n)(h1:∀y∈vs,y.oneCell'=true)(hlim:len<1000000):Ret P 8 79 [sv] h n fun v h' n'=>OwnE n n' h' v 66 2 len vs∧Tch [] h n h' n':=by
 refine ent fun u=>?_;have r':=r;rcases r with⟨rfl,rfl,rfl⟩|⟨b,off,cap,m,z,kd,_,rfl,_⟩
 · repeat' first|refine wk ?_|refine cX (fun _=>?_) fun _=>?_|fail
   exact⟨_,rfl,.inl Own.nil,zA⟩
 · repeat' first|refine wk ?_|refine cX (fun _=>?_) fun _=>?_|fail
   refine appE (.inr ⟨mty_new (Nat.le_refl n),rfl,rfl⟩) ((r'.tch (S:=[]) zA hlo fun _ _ hx=>(by cases hx)).up (by omega)) (by omega) h1 (by omega) ?_
   rintro v' h2 n2 ho ht
   have ht2:Tch [] h n h2 n2:=Tch.tch ht zA fun x hx=>.inl (by
    have hx:x∈(some n).toList:=hx;simp at hx;omega)
   rw[Nat.zero_add,List.nil_append]at ho;repeat' first|refine wk ?_|refine cX (fun _=>?_) fun _=>?_|fail
   exact⟨_,rfl,ho,ht2⟩
theorem clone_op{lo n len:Nat}{h:zB}{sv:Value}{vs:List Value}(r:Row lo h sv 50 6 len vs)(hlo:lo≤n)(h1:∀y∈vs,y.oneCell'=true)(hlim:len<1000000):Ret P 8 80 [sv] h n fun v h' n'=>OwnE n n' h' v 50 6 len vs∧Tch [] h n h' n':=by
 refine ent fun u=>?_;have r':=r;rcases r with⟨rfl,rfl,rfl⟩|⟨b,off,cap,m,z,kd,_,rfl,_⟩
 · repeat' first|refine wk ?_|refine cX (fun _=>?_) fun _=>?_|fail
   exact⟨_,rfl,.inl Own.nil,zA⟩
 · repeat' first|refine wk ?_|refine cX (fun _=>?_) fun _=>?_|fail
   refine appE (.inr ⟨mty_new (Nat.le_refl n),rfl,rfl⟩) ((r'.tch (S:=[]) zA hlo fun _ _ hx=>(by cases hx)).up (by omega)) (by omega) h1 (by omega) ?_
   rintro v' h2 n2 ho ht
   have ht2:Tch [] h n h2 n2:=Tch.tch ht zA fun x hx=>.inl (by
    have hx:x∈(some n).toList:=hx;simp at hx;omega)
   rw[Nat.zero_add,List.nil_append]at ho;repeat' first|refine wk ?_|refine cX (fun _=>?_) fun _=>?_|fail
   exact⟨_,rfl,ho,ht2⟩
theorem clone_opr{lo n len:Nat}{h:zB}{sv:Value}{vs:List Value}(r:Row lo h sv 47 2 len vs)(hlo:lo≤n)(h1:∀y∈vs,y.oneCell'=true)(hlim:len<1000000):Ret P 8 82 [sv] h n fun v h' n'=>OwnE n n' h' v 47 2 len vs∧Tch [] h n h' n':=by
 refine ent fun u=>?_;have r':=r;rcases r with⟨rfl,rfl,rfl⟩|⟨b,off,cap,m,z,kd,_,rfl,_⟩
 · repeat' first|refine wk ?_|refine cX (fun _=>?_) fun _=>?_|fail
   exact⟨_,rfl,.inl Own.nil,zA⟩
 · repeat' first|refine wk ?_|refine cX (fun _=>?_) fun _=>?_|fail
   refine appE (.inr ⟨mty_new (Nat.le_refl n),rfl,rfl⟩) ((r'.tch (S:=[]) zA hlo fun _ _ hx=>(by cases hx)).up (by omega)) (by omega) h1 (by omega) ?_
   rintro v' h2 n2 ho ht
   have ht2:Tch [] h n h2 n2:=Tch.tch ht zA fun x hx=>.inl (by
    have hx:x∈(some n).toList:=hx;simp at hx;omega)
   rw[Nat.zero_add,List.nil_append]at ho;repeat' first|refine wk ?_|refine cX (fun _=>?_) fun _=>?_|fail
   exact⟨_,rfl,ho,ht2⟩
theorem clone_reg{lo n len:Nat}{h:zB}{sv:Value}{vs:List Value}(r:Row lo h sv 52 4 len vs)(hlo:lo≤n)(h1:∀y∈vs,y.oneCell'=true)(hlim:len<1000000):Ret P 8 138 [sv] h n fun v h' n'=>OwnE n n' h' v 52 4 len vs∧Tch [] h n h' n':=by
 refine ent fun u=>?_;have r':=r;rcases r with⟨rfl,rfl,rfl⟩|⟨b,off,cap,m,z,kd,_,rfl,_⟩
 · repeat' first|refine wk ?_|refine cX (fun _=>?_) fun _=>?_|fail
   exact⟨_,rfl,.inl Own.nil,zA⟩
 · repeat' first|refine wk ?_|refine cX (fun _=>?_) fun _=>?_|fail
   refine appE (.inr ⟨mty_new (Nat.le_refl n),rfl,rfl⟩) ((r'.tch (S:=[]) zA hlo fun _ _ hx=>(by cases hx)).up (by omega)) (by omega) h1 (by omega) ?_
   rintro v' h2 n2 ho ht
   have ht2:Tch [] h n h2 n2:=Tch.tch ht zA fun x hx=>.inl (by
    have hx:x∈(some n).toList:=hx;simp at hx;omega)
   rw[Nat.zero_add,List.nil_append]at ho;repeat' first|refine wk ?_|refine cX (fun _=>?_) fun _=>?_|fail
   exact⟨_,rfl,ho,ht2⟩
theorem clone_int{lo n len:Nat}{h:zB}{sv:Value}{vs:List Value}(r:Row lo h sv 3 1 len vs)(hlo:lo≤n)(h1:∀y∈vs,y.oneCell'=true)(hlim:len<1000000):Ret P 8 168 [sv] h n fun v h' n'=>OwnE n n' h' v 3 1 len vs∧Tch [] h n h' n':=by
 refine ent fun u=>?_;have r':=r;rcases r with⟨rfl,rfl,rfl⟩|⟨b,off,cap,m,z,kd,_,rfl,_⟩
 · repeat' first|refine wk ?_|refine cX (fun _=>?_) fun _=>?_|fail
   exact⟨_,rfl,.inl Own.nil,zA⟩
 · repeat' first|refine wk ?_|refine cX (fun _=>?_) fun _=>?_|fail
   refine appE (.inr ⟨mty_new (Nat.le_refl n),rfl,rfl⟩) ((r'.tch (S:=[]) zA hlo fun _ _ hx=>(by cases hx)).up (by omega)) (by omega) h1 (by omega) ?_
   rintro v' h2 n2 ho ht
   have ht2:Tch [] h n h2 n2:=Tch.tch ht zA fun x hx=>.inl (by
    have hx:x∈(some n).toList:=hx;simp at hx;omega)
   rw[Nat.zero_add,List.nil_append]at ho;repeat' first|refine wk ?_|refine cX (fun _=>?_) fun _=>?_|fail
   exact⟨_,rfl,ho,ht2⟩
end Go.Proofs.YtmccnilgnlaffaaGreatDoor
namespace Go.Ex.M
theorem idx_lt{ns:List Tx}{x:Tx}(h:x∈ns):ns.idxOf x<ns.length:=List.idxOf_lt_length_iff.2 h
theorem pos_in{ns:List Tx}{x:Tx}(h:x∈ns):pos ns x=(ns.idxOf x:Nat):=by unfold pos;rw [if_pos h]
theorem pos_out{ns:List Tx}{x:Tx}(h:x∉ns):pos ns x = -1:=by unfold pos;rw [if_neg h]
def xJ(ns:List Tx)(ps:List Pl)(x:Tx):Pl:=ps.getD (ns.idxOf x) ⟨0,0,0⟩
theorem plc_at{ns:List Tx}{ps:List Pl}{x:Tx}(h:x∈ns)(hl:ps.length=ns.length):ps[ns.idxOf x]? = some (xJ ns ps x):=by
 have:=idx_lt h;unfold xJ;rw [List.getD_eq_getElem?_getD,List.getElem?_eq_getElem (by omega)];rfl
theorem plc_mem{ns:List Tx}{ps:List Pl}{x:Tx}(h:x∈ns)(hl:ps.length=ns.length):xJ ns ps x∈ps:=List.mem_of_getElem? (plc_at h hl)
theorem posF_cases{α : Type}(p: α→Bool)(l:List α):(l.find? p=none∧posF p l = -1)∨∃(k:Nat) (x: α),l.find? p=some x∧l[k]? = some x∧posF p l=(k:Nat)∧k<l.length∧p x=true:=by
 cases h:l.find? p with
 | none=>
  refine .inl ⟨rfl,posF_no fun j y hj=>?_⟩;have:=List.find?_eq_none.1 h y (List.mem_of_getElem? hj);simpa using this
 | some x =>
  refine .inr ⟨l.findIdx p,x,rfl,?_⟩;have hm:=List.mem_of_find?_eq_some h;have hp:=List.find?_some h;have hlt:l.findIdx p<l.length:=List.findIdx_lt_length_of_exists ⟨x,hm,hp⟩
  have e1:l[l.findIdx p]? = some x:=by
   rw[List.getElem?_eq_getElem hlt];have:=List.find?_eq_some_iff_getElem.1 h;obtain⟨_,i,hi,e,hno⟩:=this
   have e2:l.findIdx p=i:=by
    rw[List.findIdx_eq hi];exact⟨by rw[e];exact hp,fun j hj=>by have:=hno j hj;simpa using this⟩
   congr 1
   rw[← e];congr 1
  refine⟨e1,?_,hlt,hp⟩;unfold posF;rw [if_pos (List.any_eq_true.2 ⟨x,hm,hp⟩)]
def wT(m:MachT)(x:Tx):Option ClassT:=m.classes.find? fun c=>decide (c.name=x)
def wO(m:MachT)(x:Tx):Int:=posF (fun c=>decide (c.name=x)) m.classes
def oprOK(m:MachT)(o:OperT):Bool:=match wT m o.cls with
 | none=>false
 | some c=>decide (o.fix=[]) || decide (o.fix∈c.regs)
def wdOf(ns:List Tx)(ps:List Pl)(c:ClassT):Int:=match c.regs with
 | []=>0
 | r::_=>(xJ ns ps r).width
theorem cls_find{m:MachT}{x:Tx}:(wT m x=none∧wO m x = -1)∨∃(k:Nat) (c:ClassT),wT m x=some c∧m.classes[k]? = some c∧wO m x=(k:Nat)∧k<m.classes.length∧c.name=x:=by
 rcases posF_cases (fun c:ClassT=>decide (c.name=x)) m.classes with h|⟨k,c,h1,h2,h3,h4,h5⟩
 · exact .inl h
 · exact .inr ⟨k,c,h1,h2,h3,h4,of_decide_eq_true h5⟩
theorem rd_at{h:zB}{b:Nat}:∀{k o:Nat} {vs:List Value},Rd h b o k vs→∀{j:Nat} {v:Value},vs[j]? = some v→zC h b (o+j)=some v:=by
 intro k
 induction k with
 | zero=>intro o vs h j v hj;rw [show vs=[] from h]at hj;cases hj
 | succ k ih=>
  rintro o vs ⟨x,r,rfl,h1,h2⟩ j v hj
  cases j with
  | zero=>cases hj;exact h1
  | succ j=>have:=ih h2 (j:=j) hj;rwa [show o+1+j=o+(j+1) by omega]at this
end Go.Ex.M
namespace Go.Ex.M
def preL:Nat→Int→List RegT→List (RegT×Int)
 | 0,_,_=>[]
 | k+1,d,l=>l.flatMap fun r=>(r,d)::preL k (d+1) r.subs
abbrev deepC(e:RegT×Int):List Value:=[str e.1.name,I64 e.1.w,I64 e.1.a,e.1.sv,I64 e.2]
theorem pre_snoc{k:Nat}{d:Int}{l:List RegT}{i:Nat}{r:RegT}(h:l[i]? = some r):preL (k+1) d (l.take (i+1))=preL (k+1) d (l.take i)++((r,d)::preL k (d+1) r.subs):=by
 show(l.take (i+1)).flatMap (fun r=>(r,d)::preL k (d+1) r.subs)=(l.take i).flatMap (fun r=>(r,d)::preL k (d+1) r.subs)++_;rw [List.take_add_one,h,List.flatMap_append];simp
theorem pre_take{k:Nat}{d:Int}{l:List RegT}{i:Nat}:preL k d (l.take i) <+: preL k d l:=by
 cases k with
 | zero=>exact List.prefix_refl _
 | succ k=>
  show(l.take i).flatMap (fun r=>(r,d)::preL k (d+1) r.subs) <+: l.flatMap (fun r=>(r,d)::preL k (d+1) r.subs);conv=>rhs;rw [← List.take_append_drop i l]
  rw[List.flatMap_append];exact List.prefix_append _ _
end Go.Ex.M
