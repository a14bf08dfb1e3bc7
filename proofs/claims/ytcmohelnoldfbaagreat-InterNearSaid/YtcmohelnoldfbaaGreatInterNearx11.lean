/- What the law leans on: an executor of the model that is sound, deduction over it, and the walks through the code (part 11 of 20). Conditions: those that each theorem states. -/
import Derived.Test.YtcmohelnoldfbaaGreatInterNearx10

set_option linter.unusedVariables false
set_option linter.unusedSimpArgs false
namespace Go.Proofs.YtcmohelnoldfbaaGreat
open Go.Ex
set_option maxRecDepth 1000000
instance i1:BoC P 2 Tryz.f2:=⟨fun c h=>by cases h;kernel_rfl⟩
instance i2:BoC P 3 Tryz.f3:=⟨fun c h=>by cases h;kernel_rfl⟩
instance i3:BoC P 4 Tryz.f4:=⟨fun c h=>by cases h;kernel_rfl⟩
instance i4:BoC P 5 Tryz.f5:=⟨fun c h=>by cases h;kernel_rfl⟩
instance i5:BoC P 6 Tryz.f6:=⟨fun c h=>by cases h;kernel_rfl⟩
instance i6:BoC P 7 Tryz.f7:=⟨fun c h=>by cases h;kernel_rfl⟩
instance i7:BoC P 8 Tryz.f8:=⟨fun c h=>by cases h;kernel_rfl⟩
instance i8:BoC P 9 Tryz.f9:=⟨fun c h=>by cases h;kernel_rfl⟩
instance i9:BoC P 10 Tryz.f10:=⟨fun c h=>by cases h;kernel_rfl⟩
instance i10:BoC P 11 Tryz.f11:=⟨fun c h=>by cases h;kernel_rfl⟩
instance i16:BoC P 17 Tryz.f17:=⟨fun c h=>by cases h;kernel_rfl⟩
instance i24:BoC P 25 Tryz.f25:=⟨fun c h=>by cases h;kernel_rfl⟩
instance i25:BoC P 26 Tryz.f26:=⟨fun c h=>by cases h;kernel_rfl⟩
instance i26:BoC P 27 Tryz.f27:=⟨fun c h=>by cases h;kernel_rfl⟩
instance i27:BoC P 28 Tryz.f28:=⟨fun c h=>by cases h;kernel_rfl⟩
instance i28:BoC P 29 Tryz.f29:=⟨fun c h=>by cases h;kernel_rfl⟩
instance i29:BoC P 30 Tryz.f30:=⟨fun c h=>by cases h;kernel_rfl⟩
instance i30:BoC P 31 Tryz.f31:=⟨fun c h=>by cases h;kernel_rfl⟩
instance i31:BoC P 32 Tryz.f32:=⟨fun c h=>by cases h;kernel_rfl⟩
instance i32:BoC P 33 Tryz.f33:=⟨fun c h=>by cases h;kernel_rfl⟩
instance i33:BoC P 34 Tryz.f34:=⟨fun c h=>by cases h;kernel_rfl⟩
instance i34:BoC P 35 Tryz.f35:=⟨fun c h=>by cases h;kernel_rfl⟩
instance i35:BoC P 36 Tryz.f36:=⟨fun c h=>by cases h;kernel_rfl⟩
instance i36:BoC P 37 Tryz.f37:=⟨fun c h=>by cases h;kernel_rfl⟩
instance i37:BoC P 38 Tryz.f38:=⟨fun c h=>by cases h;kernel_rfl⟩
instance i38:BoC P 39 Tryz.f39:=⟨fun c h=>by cases h;kernel_rfl⟩
instance i39:BoC P 40 Tryz.f40:=⟨fun c h=>by cases h;kernel_rfl⟩
instance i40:BoC P 41 Tryz.f41:=⟨fun c h=>by cases h;kernel_rfl⟩
instance i41:BoC P 42 Tryz.f42:=⟨fun c h=>by cases h;kernel_rfl⟩
instance i42:BoC P 43 Tryz.f43:=⟨fun c h=>by cases h;kernel_rfl⟩
instance i43:BoC P 44 Tryz.f44:=⟨fun c h=>by cases h;kernel_rfl⟩
instance i56:BoC P 57 Tryz.f57:=⟨fun c h=>by cases h;kernel_rfl⟩
instance i57:BoC P 58 Tryz.f58:=⟨fun c h=>by cases h;kernel_rfl⟩
instance i58:BoC P 59 Tryz.f59:=⟨fun c h=>by cases h;kernel_rfl⟩
instance i59:BoC P 60 Tryz.f60:=⟨fun c h=>by cases h;kernel_rfl⟩
instance i60:BoC P 61 Tryz.f61:=⟨fun c h=>by cases h;kernel_rfl⟩
instance i64:BoC P 65 Tryz.f65:=⟨fun c h=>by cases h;kernel_rfl⟩
instance i70:BoC P 71 Tryz.f71:=⟨fun c h=>by cases h;kernel_rfl⟩
instance i71:BoC P 72 Tryz.f72:=⟨fun c h=>by cases h;kernel_rfl⟩
instance i72:BoC P 73 Tryz.f73:=⟨fun c h=>by cases h;kernel_rfl⟩
instance i73:BoC P 74 Tryz.f74:=⟨fun c h=>by cases h;kernel_rfl⟩
instance i74:BoC P 75 Tryz.f75:=⟨fun c h=>by cases h;kernel_rfl⟩
instance i75:BoC P 76 Tryz.f76:=⟨fun c h=>by cases h;kernel_rfl⟩
instance i76:BoC P 77 Tryz.f77:=⟨fun c h=>by cases h;kernel_rfl⟩
instance i77:BoC P 78 Tryz.f78:=⟨fun c h=>by cases h;kernel_rfl⟩
instance i78:BoC P 79 Tryz.f79:=⟨fun c h=>by cases h;kernel_rfl⟩
instance i79:BoC P 80 Tryz.f80:=⟨fun c h=>by cases h;kernel_rfl⟩
instance i80:BoC P 81 Tryz.f81:=⟨fun c h=>by cases h;kernel_rfl⟩
instance i81:BoC P 82 Tryz.f82:=⟨fun c h=>by cases h;kernel_rfl⟩
instance i82:BoC P 83 Tryz.f83:=⟨fun c h=>by cases h;kernel_rfl⟩
instance i83:BoC P 84 Tryz.f84:=⟨fun c h=>by cases h;kernel_rfl⟩
instance i84:BoC P 85 Tryz.f85:=⟨fun c h=>by cases h;kernel_rfl⟩
instance i85:BoC P 86 Tryz.f86:=⟨fun c h=>by cases h;kernel_rfl⟩
instance i86:BoC P 87 Tryz.f87:=⟨fun c h=>by cases h;kernel_rfl⟩
instance i87:BoC P 88 Tryz.f88:=⟨fun c h=>by cases h;kernel_rfl⟩
instance i88:BoC P 89 Tryz.f89:=⟨fun c h=>by cases h;kernel_rfl⟩
instance i89:BoC P 90 Tryz.f90:=⟨fun c h=>by cases h;kernel_rfl⟩
instance i90:BoC P 91 Tryz.f91:=⟨fun c h=>by cases h;kernel_rfl⟩
instance i91:BoC P 92 Tryz.f92:=⟨fun c h=>by cases h;kernel_rfl⟩
instance i92:BoC P 93 Tryz.f93:=⟨fun c h=>by cases h;kernel_rfl⟩
instance i93:BoC P 94 Tryz.f94:=⟨fun c h=>by cases h;kernel_rfl⟩
instance i94:BoC P 95 Tryz.f95:=⟨fun c h=>by cases h;kernel_rfl⟩
instance i95:BoC P 96 Tryz.f96:=⟨fun c h=>by cases h;kernel_rfl⟩
instance i96:BoC P 97 Tryz.f97:=⟨fun c h=>by cases h;kernel_rfl⟩
instance i97:BoC P 98 Tryz.f98:=⟨fun c h=>by cases h;kernel_rfl⟩
instance i98:BoC P 99 Tryz.f99:=⟨fun c h=>by cases h;kernel_rfl⟩
instance i99:BoC P 100 Tryz.f100:=⟨fun c h=>by cases h;kernel_rfl⟩
instance i100:BoC P 101 Tryz.f101:=⟨fun c h=>by cases h;kernel_rfl⟩
instance i106:BoC P 107 Tryz.f107:=⟨fun c h=>by cases h;kernel_rfl⟩
instance i116:BoC P 117 Tryz.f117:=⟨fun c h=>by cases h;kernel_rfl⟩
instance i117:BoC P 118 Tryz.f118:=⟨fun c h=>by cases h;kernel_rfl⟩
instance i118:BoC P 119 Tryz.f119:=⟨fun c h=>by cases h;kernel_rfl⟩
instance i120:BoC P 121 Tryz.f121:=⟨fun c h=>by cases h;kernel_rfl⟩
instance i125:BoC P 126 Tryz.f126:=⟨fun c h=>by cases h;kernel_rfl⟩
instance i126:BoC P 127 Tryz.f127:=⟨fun c h=>by cases h;kernel_rfl⟩
instance i127:BoC P 128 Tryz.f128:=⟨fun c h=>by cases h;kernel_rfl⟩
instance i128:BoC P 129 Tryz.f129:=⟨fun c h=>by cases h;kernel_rfl⟩
instance i129:BoC P 130 Tryz.f130:=⟨fun c h=>by cases h;kernel_rfl⟩
instance i130:BoC P 131 Tryz.f131:=⟨fun c h=>by cases h;kernel_rfl⟩
instance i131:BoC P 132 Tryz.f132:=⟨fun c h=>by cases h;kernel_rfl⟩
instance i132:BoC P 133 Tryz.f133:=⟨fun c h=>by cases h;kernel_rfl⟩
instance i133:BoC P 134 Tryz.f134:=⟨fun c h=>by cases h;kernel_rfl⟩
instance i134:BoC P 135 Tryz.f135:=⟨fun c h=>by cases h;kernel_rfl⟩
instance i135:BoC P 136 Tryz.f136:=⟨fun c h=>by cases h;kernel_rfl⟩
instance i136:BoC P 137 Tryz.f137:=⟨fun c h=>by cases h;kernel_rfl⟩
instance i137:BoC P 138 Tryz.f138:=⟨fun c h=>by cases h;kernel_rfl⟩
instance i138:BoC P 139 Tryz.f139:=⟨fun c h=>by cases h;kernel_rfl⟩
instance i139:BoC P 140 Tryz.f140:=⟨fun c h=>by cases h;kernel_rfl⟩
instance i140:BoC P 141 Tryz.f141:=⟨fun c h=>by cases h;kernel_rfl⟩
instance i141:BoC P 142 Tryz.f142:=⟨fun c h=>by cases h;kernel_rfl⟩
instance i142:BoC P 143 Tryz.f143:=⟨fun c h=>by cases h;kernel_rfl⟩
instance i143:BoC P 144 Tryz.f144:=⟨fun c h=>by cases h;kernel_rfl⟩
instance i144:BoC P 145 Tryz.f145:=⟨fun c h=>by cases h;kernel_rfl⟩
instance i145:BoC P 146 Tryz.f146:=⟨fun c h=>by cases h;kernel_rfl⟩
instance i146:BoC P 147 Tryz.f147:=⟨fun c h=>by cases h;kernel_rfl⟩
instance i147:BoC P 148 Tryz.f148:=⟨fun c h=>by cases h;kernel_rfl⟩
instance i148:BoC P 149 Tryz.f149:=⟨fun c h=>by cases h;kernel_rfl⟩
instance i149:BoC P 150 Tryz.f150:=⟨fun c h=>by cases h;kernel_rfl⟩
instance i150:BoC P 151 Tryz.f151:=⟨fun c h=>by cases h;kernel_rfl⟩
instance i151:BoC P 152 Tryz.f152:=⟨fun c h=>by cases h;kernel_rfl⟩
instance i162:BoC P 163 Tryz.f163:=⟨fun c h=>by cases h;kernel_rfl⟩
instance i167:BoC P 168 Tryz.f168:=⟨fun c h=>by cases h;kernel_rfl⟩
instance i168:BoC P 169 Tryz.f169:=⟨fun c h=>by cases h;kernel_rfl⟩
instance i169:BoC P 170 Tryz.f170:=⟨fun c h=>by cases h;kernel_rfl⟩
instance i170:BoC P 171 Tryz.f171:=⟨fun c h=>by cases h;kernel_rfl⟩
instance i171:BoC P 172 Tryz.f172:=⟨fun c h=>by cases h;kernel_rfl⟩
instance i172:BoC P 173 Tryz.f173:=⟨fun c h=>by cases h;kernel_rfl⟩
instance i173:BoC P 174 Tryz.f174:=⟨fun c h=>by cases h;kernel_rfl⟩
instance i174:BoC P 175 Tryz.f175:=⟨fun c h=>by cases h;kernel_rfl⟩
instance i175:BoC P 176 Tryz.f176:=⟨fun c h=>by cases h;kernel_rfl⟩
instance i176:BoC P 177 Tryz.f177:=⟨fun c h=>by cases h;kernel_rfl⟩
instance i177:BoC P 178 Tryz.f178:=⟨fun c h=>by cases h;kernel_rfl⟩
instance i178:BoC P 179 Tryz.f179:=⟨fun c h=>by cases h;kernel_rfl⟩
instance i179:BoC P 180 Tryz.f180:=⟨fun c h=>by cases h;kernel_rfl⟩
instance i180:BoC P 181 Tryz.f181:=⟨fun c h=>by cases h;kernel_rfl⟩
instance i181:BoC P 182 Tryz.f182:=⟨fun c h=>by cases h;kernel_rfl⟩
instance i182:BoC P 183 Tryz.f183:=⟨fun c h=>by cases h;kernel_rfl⟩
instance i183:BoC P 184 Tryz.f184:=⟨fun c h=>by cases h;kernel_rfl⟩
instance i184:BoC P 185 Tryz.f185:=⟨fun c h=>by cases h;kernel_rfl⟩
instance i185:BoC P 186 Tryz.f186:=⟨fun c h=>by cases h;kernel_rfl⟩
instance i200:BoC P 201 Tryz.f201:=⟨fun c h=>by cases h;kernel_rfl⟩
instance i201:BoC P 202 Tryz.f202:=⟨fun c h=>by cases h;kernel_rfl⟩
instance i202:BoC P 203 Tryz.f203:=⟨fun c h=>by cases h;kernel_rfl⟩
instance i203:BoC P 204 Tryz.f204:=⟨fun c h=>by cases h;kernel_rfl⟩
instance i204:BoC P 205 Tryz.f205:=⟨fun c h=>by cases h;kernel_rfl⟩
instance i205:BoC P 206 Tryz.f206:=⟨fun c h=>by cases h;kernel_rfl⟩
instance i206:BoC P 207 Tryz.f207:=⟨fun c h=>by cases h;kernel_rfl⟩
instance i207:BoC P 208 Tryz.f208:=⟨fun c h=>by cases h;kernel_rfl⟩
instance i239:DrC P 3 11 [(0,0,0,false,[]),(1,0,0,false,[]),(2,0,0,false,[]),(3,0,0,false,[]),(4,0,0,false,[]),(5,0,0,false,[]),(6,0,0,false,[]),(7,0,0,false,[]),(8,0,0,false,[]),(9,0,0,false,[]),(10,0,0,false,[]),(11,0,0,false,[]),(12,0,0,false,[]),(13,0,0,true,[]),(14,1,1,true,[])]:=⟨by kernel_rfl⟩
instance i240:DrC P 7 1 [(0,0,0,false,[]),(1,0,0,false,[]),(2,0,0,false,[3,4,7,8,11,12,13,14,16,17,18,19]),(3,0,1,false,[]),(4,0,1,false,[]),(5,1,1,false,[7,8,11,12,13,14,16,17,18,19]),(7,0,2,false,[]),(8,0,2,false,[]),(9,2,2,false,[6,11,12,13,14,16,17,18,19]),(6,2,3,false,[]),(10,3,3,false,[]),(11,0,3,false,[]),(12,0,3,false,[]),(13,0,3,false,[]),(14,0,3,false,[]),(15,3,3,false,[]),(16,0,3,false,[]),(17,0,3,false,[]),(18,0,3,false,[]),(19,0,3,false,[]),(20,3,3,true,[]),(21,3,3,true,[])]:=⟨by kernel_rfl⟩
instance i241:DrC P 7 5 [(2,0,0,false,[]),(3,0,0,false,[]),(4,0,0,false,[]),(5,0,0,false,[]),(6,0,0,false,[]),(7,0,0,false,[]),(8,0,0,false,[0,1,10,11,12,13,14,15,16,17]),(0,0,1,false,[]),(1,0,1,false,[]),(9,1,1,false,[]),(10,0,1,false,[]),(11,0,1,false,[]),(12,0,1,false,[]),(13,0,1,false,[]),(14,0,1,false,[]),(15,0,1,false,[]),(16,0,1,false,[]),(17,0,1,false,[]),(18,1,1,true,[]),(19,1,1,true,[])]:=⟨by kernel_rfl⟩
instance i242:DrC P 7 10 [(2,0,0,false,[]),(3,0,0,false,[]),(4,0,0,false,[0,1,6,7,8,9,11,12,13,14,15,16,17,18,19,20,22,23,24]),(0,0,1,false,[]),(1,0,1,false,[]),(5,1,1,false,[]),(6,0,1,false,[]),(7,0,1,false,[]),(8,0,1,false,[]),(9,0,1,false,[]),(10,1,1,false,[]),(11,0,1,false,[]),(12,0,1,false,[]),(13,0,1,false,[]),(14,0,1,false,[]),(15,0,1,false,[]),(16,0,1,false,[]),(17,0,1,false,[]),(18,0,1,false,[]),(19,0,1,false,[]),(20,0,1,false,[]),(21,1,1,false,[]),(22,0,1,false,[]),(23,0,1,false,[]),(24,0,1,false,[]),(25,1,1,true,[]),(26,1,1,true,[])]:=⟨by kernel_rfl⟩
instance i243:DrC P 7 14 [(0,0,0,false,[]),(1,0,0,false,[]),(2,0,0,false,[]),(3,0,0,false,[]),(4,0,0,false,[]),(5,0,0,false,[]),(6,0,0,false,[]),(7,0,0,false,[]),(8,0,0,false,[]),(9,0,0,false,[]),(10,0,0,false,[]),(11,0,0,false,[]),(12,0,0,false,[]),(13,0,0,false,[]),(14,0,0,false,[]),(15,0,0,false,[]),(16,0,0,false,[]),(17,0,0,true,[]),(18,0,0,true,[])]:=⟨by kernel_rfl⟩
instance i244:DrC P 10 11 [(0,0,0,false,[]),(1,0,0,false,[]),(2,0,0,false,[]),(3,0,0,false,[]),(4,0,0,false,[]),(5,0,0,false,[]),(6,0,0,false,[]),(7,0,0,false,[]),(8,0,0,false,[]),(9,0,0,false,[]),(10,0,0,false,[]),(11,0,0,false,[]),(12,0,0,false,[]),(13,0,0,false,[]),(14,0,0,false,[]),(15,0,0,false,[]),(16,0,0,false,[]),(17,0,0,false,[]),(18,0,0,false,[]),(19,0,0,false,[]),(20,0,0,false,[]),(21,0,0,true,[]),(22,1,1,true,[])]:=⟨by kernel_rfl⟩
instance i245:DrC P 11 12 [(5,0,0,false,[]),(6,0,0,false,[]),(7,0,0,false,[]),(8,0,0,false,[0,1,2,3,4]),(1,0,1,false,[]),(2,0,1,false,[]),(3,0,1,false,[]),(4,0,1,false,[]),(9,1,1,false,[]),(10,1,1,false,[0]),(0,0,2,false,[]),(11,2,2,true,[]),(12,2,2,true,[]),(13,2,2,true,[])]:=⟨by kernel_rfl⟩
instance i246:DrC P 11 13 [(5,0,0,false,[]),(6,0,0,false,[]),(7,0,0,false,[]),(8,0,0,false,[0,1,2,3,4]),(9,1,1,false,[0,1,2,3,4]),(1,0,2,false,[]),(2,0,2,false,[]),(3,0,2,false,[]),(4,0,2,false,[]),(10,2,2,false,[]),(11,2,2,false,[0]),(0,0,3,false,[]),(12,3,3,true,[]),(13,3,3,true,[]),(14,3,3,true,[])]:=⟨by kernel_rfl⟩
instance i247:DrC P 11 22 [(2,0,0,false,[]),(3,0,0,false,[]),(4,0,0,false,[]),(5,0,0,false,[0,1,6,7,8]),(6,0,1,false,[]),(7,0,1,false,[]),(8,0,1,false,[]),(9,1,1,false,[0,1]),(0,0,2,false,[]),(10,2,2,false,[]),(11,2,2,false,[]),(12,2,2,false,[1]),(1,0,3,false,[]),(13,3,3,true,[]),(14,3,3,true,[]),(15,3,3,true,[])]:=⟨by kernel_rfl⟩
instance i257:DrC P 25 7 [(9,0,0,false,[]),(10,0,0,false,[]),(11,0,0,false,[]),(12,0,0,false,[]),(13,0,0,false,[]),(14,0,0,false,[]),(15,0,0,false,[]),(16,0,0,false,[0,1,2,3,4,5,6,7,8]),(0,0,1,false,[]),(1,0,1,false,[]),(2,0,1,false,[]),(3,0,1,false,[]),(4,0,1,false,[]),(5,0,1,false,[]),(6,0,1,false,[]),(7,0,1,false,[]),(8,0,1,false,[]),(17,1,1,true,[]),(18,1,1,true,[])]:=⟨by kernel_rfl⟩
instance i258:DrC P 27 11 [(1,0,0,false,[]),(2,0,0,false,[0,3,4,5,6,7,8]),(3,0,1,false,[]),(4,0,1,false,[]),(5,0,1,false,[]),(6,0,1,false,[]),(7,0,1,false,[]),(8,0,1,false,[]),(9,1,1,false,[0]),(0,0,2,false,[]),(10,2,2,true,[]),(11,3,3,true,[])]:=⟨by kernel_rfl⟩
instance i259:DrC P 35 1 [(0,0,0,true,[]),(1,0,0,true,[]),(2,0,0,true,[]),(3,0,0,true,[]),(4,0,0,true,[]),(5,0,0,true,[]),(6,0,0,true,[]),(7,0,0,false,[]),(8,0,0,false,[]),(9,0,0,false,[]),(10,0,0,false,[]),(11,0,0,false,[]),(12,0,0,false,[]),(13,0,0,true,[]),(14,0,0,true,[]),(15,0,0,true,[]),(16,0,0,false,[]),(17,0,0,false,[]),(18,0,0,false,[]),(19,0,0,false,[]),(20,0,0,false,[]),(21,0,0,false,[]),(22,0,0,true,[]),(23,0,0,true,[]),(24,0,0,true,[]),(25,0,0,false,[]),(26,0,0,false,[]),(27,0,0,false,[]),(28,0,0,false,[]),(29,0,0,false,[]),(30,0,0,false,[]),(31,0,0,false,[]),(32,0,0,false,[]),(33,0,0,false,[]),(34,0,0,false,[]),(35,0,0,false,[]),(36,0,0,false,[]),(37,0,0,false,[]),(38,0,0,false,[]),(39,0,0,true,[]),(40,1,1,true,[]),(41,1,1,true,[])]:=⟨by kernel_rfl⟩
instance i260:DrC P 37 2 [(0,0,0,false,[]),(1,0,0,false,[]),(2,0,0,false,[3,4]),(3,0,1,false,[]),(4,0,1,false,[]),(5,1,1,false,[6]),(6,1,2,false,[]),(7,2,2,true,[]),(8,3,3,true,[]),(9,3,3,true,[])]:=⟨by kernel_rfl⟩
instance i261:DrC P 37 6 [(3,0,0,false,[]),(4,0,0,false,[]),(5,0,0,false,[]),(6,0,0,false,[]),(7,0,0,false,[]),(8,0,0,false,[]),(9,0,0,false,[0,1,2]),(0,0,1,false,[]),(1,0,1,false,[]),(2,0,1,false,[]),(10,1,1,true,[]),(11,1,1,true,[]),(12,1,1,true,[])]:=⟨by kernel_rfl⟩
instance i262:DrC P 37 11 [(6,0,0,false,[]),(7,0,0,false,[]),(8,0,0,false,[]),(9,0,0,false,[]),(10,0,0,false,[]),(11,0,0,false,[]),(12,0,0,false,[0,1,2,3,4,5,13,14,15,16,17,18]),(13,0,1,false,[]),(14,0,1,false,[]),(15,0,1,false,[]),(16,0,1,false,[]),(17,0,1,false,[]),(18,0,1,false,[]),(19,1,1,false,[0,1,2,3,4,5]),(0,0,2,false,[]),(1,0,2,false,[]),(2,0,2,false,[]),(20,2,2,false,[]),(21,2,2,false,[]),(22,2,2,false,[3,4,5]),(3,0,3,false,[]),(4,0,3,false,[]),(5,0,3,false,[]),(23,3,3,true,[]),(24,3,3,true,[]),(25,3,3,true,[])]:=⟨by kernel_rfl⟩
instance i263:DrC P 37 13 [(0,0,0,false,[]),(1,0,0,false,[]),(2,0,0,false,[3,4]),(3,0,1,false,[]),(4,0,1,false,[]),(5,1,1,false,[6]),(6,1,2,false,[]),(7,2,2,true,[]),(8,3,3,true,[]),(9,3,3,true,[])]:=⟨by kernel_rfl⟩
instance i264:DrC P 38 6 [(0,0,0,false,[]),(1,0,0,false,[]),(2,0,0,false,[]),(3,0,0,false,[]),(8,0,0,false,[4,5,6,7]),(4,0,1,false,[]),(5,0,1,false,[]),(6,0,1,false,[]),(7,0,1,false,[]),(9,1,1,true,[]),(10,2,2,true,[])]:=⟨by kernel_rfl⟩
instance i265:DrC P 41 8 [(0,0,0,false,[]),(1,0,0,false,[]),(2,0,0,false,[]),(3,0,0,false,[]),(4,0,0,false,[]),(5,0,0,false,[]),(6,0,0,false,[]),(7,0,0,false,[]),(8,0,0,true,[]),(9,0,0,true,[]),(10,0,0,true,[])]:=⟨by kernel_rfl⟩
instance i266:DrC P 42 10 [(5,0,0,false,[]),(6,0,0,false,[0,1,2,3,4]),(1,0,1,false,[]),(2,0,1,false,[]),(3,0,1,false,[]),(4,0,1,false,[]),(7,1,1,false,[]),(8,1,1,false,[0]),(0,0,2,false,[]),(9,2,2,true,[]),(10,2,2,true,[]),(11,2,2,true,[])]:=⟨by kernel_rfl⟩
instance i267:DrC P 43 3 [(5,0,0,false,[]),(6,0,0,false,[]),(7,0,0,false,[]),(8,0,0,false,[0,1,2,3,4]),(1,0,1,false,[]),(2,0,1,false,[]),(3,0,1,false,[]),(4,0,1,false,[]),(9,1,1,false,[]),(10,1,1,false,[0]),(0,0,2,false,[]),(11,2,2,true,[]),(12,2,2,true,[]),(13,2,2,true,[])]:=⟨by kernel_rfl⟩
instance i268:DrC P 43 8 [(0,0,0,false,[]),(1,0,0,false,[]),(2,0,0,false,[]),(3,0,0,false,[]),(4,0,0,false,[]),(5,0,0,false,[]),(6,0,0,false,[]),(7,0,0,false,[]),(8,0,0,false,[]),(9,0,0,false,[]),(10,0,0,false,[]),(11,0,0,false,[]),(12,0,0,false,[]),(13,0,0,false,[]),(14,0,0,true,[])]:=⟨by kernel_rfl⟩
instance i269:DrC P 43 10 [(0,0,0,false,[]),(1,0,0,false,[]),(2,0,0,false,[]),(3,0,0,false,[]),(4,0,0,false,[]),(5,0,0,false,[]),(6,0,0,true,[]),(7,0,0,true,[]),(8,0,0,true,[]),(9,1,1,true,[])]:=⟨by kernel_rfl⟩
instance i270:DrC P 43 15 [(0,0,0,false,[]),(1,0,0,false,[]),(2,0,0,false,[]),(3,0,0,false,[]),(4,0,0,false,[]),(5,0,0,false,[]),(6,0,0,false,[]),(7,0,0,false,[]),(8,0,0,true,[]),(9,1,1,true,[])]:=⟨by kernel_rfl⟩
instance i271:DrC P 44 9 [(1,0,0,false,[]),(2,0,0,false,[0]),(0,0,1,false,[]),(3,1,1,true,[]),(4,1,1,true,[]),(5,1,1,true,[])]:=⟨by kernel_rfl⟩
instance i293:DrC P 74 14 [(0,0,0,false,[]),(1,0,0,false,[]),(2,0,0,false,[]),(3,0,0,false,[]),(4,0,0,false,[]),(5,0,0,false,[]),(6,0,0,false,[]),(7,0,0,false,[]),(8,0,0,false,[]),(9,0,0,true,[]),(10,1,1,true,[])]:=⟨by kernel_rfl⟩
instance i294:DrC P 74 17 [(0,0,0,false,[]),(1,0,0,false,[]),(2,0,0,false,[]),(3,0,0,false,[]),(4,0,0,false,[]),(5,0,0,false,[]),(6,0,0,false,[]),(7,0,0,false,[]),(8,0,0,false,[]),(9,0,0,false,[]),(10,0,0,false,[]),(11,0,0,true,[]),(12,0,0,true,[]),(13,0,0,true,[])]:=⟨by kernel_rfl⟩
instance i295:DrC P 75 9 [(0,0,0,false,[]),(1,0,0,false,[]),(2,0,0,false,[]),(3,0,0,false,[]),(4,0,0,false,[]),(5,0,0,false,[]),(6,0,0,false,[]),(7,0,0,false,[]),(8,0,0,false,[]),(9,0,0,false,[]),(10,0,0,false,[]),(11,0,0,false,[]),(12,0,0,false,[]),(13,0,0,false,[]),(14,0,0,false,[]),(15,0,0,false,[]),(16,0,0,false,[]),(17,0,0,false,[]),(18,0,0,false,[]),(19,0,0,false,[]),(20,0,0,false,[]),(21,0,0,true,[]),(22,1,1,true,[])]:=⟨by kernel_rfl⟩
instance i296:DrC P 85 4 [(0,0,0,true,[]),(1,0,0,true,[]),(2,0,0,true,[]),(3,1,1,true,[]),(4,1,1,false,[]),(5,1,1,false,[]),(6,1,1,false,[]),(7,1,1,false,[8]),(8,1,2,false,[]),(9,2,2,true,[]),(10,2,2,true,[]),(11,2,2,true,[]),(12,2,2,false,[]),(13,2,2,false,[]),(14,2,2,false,[]),(15,2,2,false,[]),(16,2,2,false,[]),(17,2,2,false,[]),(18,2,2,true,[]),(19,3,3,true,[]),(20,3,3,true,[]),(21,3,3,true,[])]:=⟨by kernel_rfl⟩
instance i297:DrC P 85 10 [(0,0,0,false,[]),(1,0,0,false,[]),(2,0,0,false,[]),(3,0,0,false,[4]),(4,0,1,false,[]),(5,1,1,true,[]),(6,1,1,true,[]),(15,1,1,false,[]),(16,1,1,false,[]),(17,1,1,false,[7,8,9,10,11,12,13,14]),(7,1,2,false,[]),(8,1,2,false,[]),(9,1,2,false,[]),(10,1,2,false,[]),(11,1,2,false,[]),(12,1,2,false,[]),(13,1,2,false,[]),(14,1,2,false,[]),(18,2,2,true,[]),(19,2,2,true,[]),(20,2,2,true,[])]:=⟨by kernel_rfl⟩
instance i298:DrC P 87 1 [(4,0,0,false,[]),(5,0,0,false,[]),(6,0,0,false,[]),(7,0,0,false,[]),(8,0,0,false,[]),(9,0,0,false,[]),(10,0,0,false,[0,1,2,3,13]),(0,0,1,false,[]),(1,0,1,false,[]),(2,0,1,false,[]),(3,0,1,false,[]),(11,1,1,false,[]),(12,1,1,false,[]),(13,0,1,false,[]),(14,1,1,true,[])]:=⟨by kernel_rfl⟩
instance i299:DrC P 87 8 [(0,0,0,false,[]),(1,0,0,false,[]),(2,0,0,false,[]),(3,0,0,false,[]),(4,0,0,false,[]),(5,0,0,false,[6,7,8,9,10,11,14]),(6,0,1,false,[]),(7,0,1,false,[]),(8,0,1,false,[]),(9,0,1,false,[]),(10,0,1,false,[]),(11,0,1,false,[]),(12,1,1,false,[14]),(13,2,2,false,[]),(14,0,2,false,[])]:=⟨by kernel_rfl⟩
instance i300:DrC P 94 5 [(2,0,0,false,[0,1]),(3,1,1,false,[0,1]),(0,0,2,false,[]),(1,0,2,false,[]),(4,2,2,true,[])]:=⟨by kernel_rfl⟩
instance i301:DrC P 96 3 [(0,0,0,false,[]),(1,0,0,false,[]),(2,0,0,false,[]),(3,0,0,false,[]),(4,0,0,false,[]),(5,0,0,false,[]),(6,0,0,false,[]),(7,0,0,true,[]),(8,0,0,true,[]),(9,0,0,false,[]),(10,0,0,false,[]),(11,0,0,false,[]),(12,0,0,true,[])]:=⟨by kernel_rfl⟩
instance i302:DrC P 96 5 [(0,0,0,false,[]),(1,0,0,false,[]),(2,0,0,false,[]),(3,0,0,false,[]),(4,0,0,false,[]),(5,0,0,false,[]),(6,0,0,false,[]),(7,0,0,false,[]),(8,0,0,true,[]),(9,0,0,true,[]),(10,0,0,true,[])]:=⟨by kernel_rfl⟩
instance i303:DrC P 96 6 [(0,0,0,false,[]),(1,0,0,false,[]),(2,0,0,false,[]),(3,0,0,false,[]),(4,0,0,false,[]),(5,0,0,false,[]),(6,0,0,false,[]),(7,0,0,true,[]),(8,0,0,true,[])]:=⟨by kernel_rfl⟩
instance i304:DrC P 96 7 [(0,0,0,false,[]),(1,0,0,false,[]),(2,0,0,false,[]),(3,0,0,false,[]),(4,0,0,false,[]),(5,0,0,false,[]),(6,0,0,false,[]),(7,0,0,false,[]),(8,0,0,false,[]),(9,0,0,false,[]),(10,0,0,false,[]),(11,0,0,false,[]),(12,0,0,true,[])]:=⟨by kernel_rfl⟩
instance i305:DrC P 96 12 [(0,0,0,false,[]),(1,0,0,false,[]),(2,0,0,false,[]),(3,0,0,false,[]),(4,0,0,false,[]),(5,0,0,false,[]),(6,0,0,false,[]),(7,0,0,false,[]),(8,0,0,false,[]),(9,0,0,false,[]),(10,0,0,false,[]),(11,0,0,false,[]),(12,0,0,true,[]),(13,0,0,true,[])]:=⟨by kernel_rfl⟩
instance i306:DrC P 96 13 [(0,0,0,false,[]),(1,0,0,false,[]),(2,0,0,false,[]),(3,0,0,false,[]),(4,0,0,false,[]),(14,0,0,false,[]),(15,0,0,false,[5,6,7,8,9,10,11,12,13]),(5,0,1,false,[]),(6,0,1,false,[]),(7,0,1,false,[]),(8,0,1,false,[]),(9,0,1,false,[]),(10,0,1,false,[]),(11,0,1,false,[]),(12,0,1,false,[]),(13,0,1,false,[]),(16,1,1,true,[]),(17,1,1,true,[])]:=⟨by kernel_rfl⟩
instance i307:DrC P 96 19 [(1,0,0,false,[]),(2,0,0,false,[]),(3,0,0,false,[]),(4,0,0,false,[]),(5,0,0,false,[]),(6,0,0,false,[]),(7,0,0,false,[0]),(0,0,1,false,[]),(8,1,1,true,[]),(9,1,1,true,[]),(10,1,1,true,[])]:=⟨by kernel_rfl⟩
instance i308:DrC P 96 20 [(0,0,0,false,[]),(1,0,0,false,[]),(2,0,0,false,[]),(3,0,0,false,[]),(4,0,0,false,[]),(5,0,0,false,[]),(6,0,0,false,[]),(7,0,0,false,[]),(8,0,0,false,[]),(9,0,0,false,[]),(10,0,0,false,[]),(11,0,0,false,[]),(12,0,0,true,[])]:=⟨by kernel_rfl⟩
instance i309:DrC P 96 21 [(2,0,0,false,[]),(3,0,0,false,[]),(4,0,0,false,[]),(5,0,0,false,[]),(6,0,0,false,[]),(7,0,0,false,[]),(8,0,0,false,[]),(9,0,0,false,[]),(10,0,0,false,[0,1,11,12,13,14,15,16]),(11,0,1,false,[]),(12,0,1,false,[]),(13,0,1,false,[]),(14,0,1,false,[]),(15,0,1,false,[]),(16,0,1,false,[]),(17,1,1,false,[0,1]),(0,0,2,false,[]),(18,2,2,false,[]),(19,2,2,false,[]),(20,2,2,false,[1]),(1,0,3,false,[]),(21,3,3,true,[]),(22,3,3,true,[]),(23,3,3,true,[])]:=⟨by kernel_rfl⟩
instance i310:DrC P 96 22 [(1,0,0,false,[]),(2,0,0,false,[]),(3,0,0,false,[]),(4,0,0,false,[]),(5,0,0,false,[]),(6,0,0,false,[]),(7,0,0,false,[]),(8,0,0,false,[0]),(0,0,1,false,[]),(9,1,1,true,[]),(10,1,1,true,[]),(11,1,1,true,[])]:=⟨by kernel_rfl⟩
instance i311:DrC P 100 1 [(0,0,0,false,[]),(1,0,0,false,[]),(2,0,0,false,[]),(3,0,0,false,[]),(4,0,0,false,[]),(5,0,0,false,[]),(6,0,0,false,[]),(7,0,0,false,[]),(8,0,0,true,[]),(9,1,1,true,[])]:=⟨by kernel_rfl⟩
instance i320:DrC P 127 4 [(0,0,0,false,[]),(1,0,0,false,[]),(2,0,0,false,[]),(3,0,0,false,[]),(4,0,0,false,[]),(5,0,0,false,[]),(6,0,0,true,[])]:=⟨by kernel_rfl⟩
instance i321:DrC P 127 5 [(0,0,0,false,[]),(1,0,0,false,[]),(2,0,0,false,[]),(3,0,0,false,[]),(4,0,0,false,[]),(5,0,0,false,[]),(6,0,0,false,[]),(7,0,0,false,[]),(8,0,0,false,[]),(9,0,0,true,[]),(10,0,0,true,[])]:=⟨by kernel_rfl⟩
instance i322:DrC P 128 17 [(0,0,0,true,[]),(1,0,0,true,[]),(2,0,0,true,[]),(3,0,0,false,[]),(4,0,0,false,[]),(5,0,0,true,[]),(6,1,1,true,[]),(7,1,1,true,[]),(8,1,1,true,[]),(9,1,1,true,[]),(10,1,1,true,[]),(11,1,1,false,[]),(12,1,1,false,[]),(13,1,1,false,[]),(14,1,1,false,[]),(15,1,1,false,[]),(16,1,1,false,[]),(17,1,1,false,[]),(18,1,1,false,[]),(19,1,1,false,[]),(20,1,1,false,[]),(21,1,1,false,[]),(22,1,1,false,[]),(23,1,1,false,[]),(24,1,1,false,[]),(25,1,1,false,[]),(26,1,1,false,[]),(27,1,1,false,[]),(28,1,1,false,[]),(29,1,1,true,[]),(30,1,1,true,[]),(31,1,1,true,[])]:=⟨by kernel_rfl⟩
instance i323:DrC P 129 22 [(1,0,0,false,[]),(2,0,0,false,[]),(3,0,0,false,[]),(4,0,0,false,[]),(5,0,0,false,[]),(6,0,0,false,[]),(7,0,0,false,[]),(8,0,0,false,[0,10,11,12,13,14]),(0,0,1,false,[]),(9,1,1,false,[10,11,12,13,14]),(11,0,2,false,[]),(12,0,2,false,[]),(13,0,2,false,[]),(14,0,2,false,[]),(15,2,2,false,[10]),(10,0,3,false,[]),(16,3,3,true,[]),(17,4,4,true,[])]:=⟨by kernel_rfl⟩
instance i324:DrC P 129 25 [(0,0,0,true,[]),(1,0,0,true,[]),(2,0,0,true,[]),(3,0,0,true,[]),(4,0,0,false,[]),(5,0,0,false,[]),(6,0,0,false,[]),(7,0,0,true,[]),(8,0,0,true,[]),(9,0,0,true,[]),(10,0,0,true,[]),(11,0,0,true,[]),(12,0,0,true,[]),(13,0,0,true,[]),(14,0,0,false,[]),(15,0,0,false,[]),(16,0,0,false,[]),(17,0,0,false,[]),(18,0,0,false,[]),(19,0,0,false,[]),(20,0,0,false,[]),(21,0,0,false,[]),(22,0,0,true,[]),(23,0,0,true,[]),(24,0,0,true,[]),(25,0,0,true,[]),(26,0,0,true,[]),(27,0,0,true,[]),(28,0,0,true,[])]:=⟨by kernel_rfl⟩
instance i325:DrC P 141 1 [(4,0,0,false,[]),(5,0,0,false,[]),(6,0,0,false,[]),(7,0,0,false,[]),(8,0,0,false,[]),(9,0,0,false,[]),(10,0,0,false,[]),(11,0,0,false,[]),(12,0,0,false,[]),(13,0,0,false,[]),(14,0,0,false,[]),(15,0,0,false,[]),(16,0,0,false,[0,1,2,3]),(0,0,1,false,[]),(1,0,1,false,[]),(2,0,1,false,[]),(3,0,1,false,[]),(17,1,1,true,[]),(18,1,1,true,[]),(19,1,1,true,[]),(20,1,1,true,[])]:=⟨by kernel_rfl⟩
instance i326:DrC P 142 1 [(0,0,0,true,[]),(1,0,0,true,[]),(2,0,0,true,[]),(3,1,1,true,[]),(4,1,1,true,[]),(5,1,1,false,[]),(6,1,1,false,[]),(7,1,1,false,[]),(8,1,1,false,[]),(9,1,1,false,[]),(10,1,1,false,[]),(11,1,1,false,[]),(12,1,1,false,[13]),(13,1,2,false,[]),(14,2,2,true,[]),(15,2,2,true,[]),(16,2,2,true,[])]:=⟨by kernel_rfl⟩
instance i327:DrC P 142 2 [(3,0,0,false,[]),(4,0,0,false,[]),(5,0,0,false,[0,1,2]),(0,0,1,false,[]),(1,0,1,false,[]),(2,0,1,false,[]),(6,1,1,true,[]),(7,1,1,true,[])]:=⟨by kernel_rfl⟩
instance i328:DrC P 142 10 [(0,0,0,true,[]),(1,0,0,true,[]),(2,0,0,true,[]),(3,0,0,true,[]),(4,0,0,false,[]),(5,0,0,false,[]),(6,0,0,false,[]),(7,0,0,false,[]),(8,0,0,false,[]),(9,0,0,false,[]),(10,0,0,false,[]),(11,0,0,false,[]),(12,0,0,true,[]),(13,0,0,true,[]),(14,0,0,true,[])]:=⟨by kernel_rfl⟩
instance i329:DrC P 143 6 [(4,0,0,false,[]),(5,0,0,false,[]),(6,0,0,false,[0,1,2,3,9]),(0,0,1,false,[]),(1,0,1,false,[]),(2,0,1,false,[]),(3,0,1,false,[]),(7,1,1,false,[]),(8,1,1,false,[]),(9,0,1,false,[]),(10,1,1,true,[])]:=⟨by kernel_rfl⟩
instance i330:DrC P 147 1 [(0,0,0,false,[]),(1,0,0,false,[]),(2,0,0,false,[]),(3,0,0,false,[]),(4,0,0,false,[]),(5,0,0,false,[]),(6,0,0,false,[]),(7,0,0,false,[]),(8,0,0,false,[]),(9,0,0,false,[]),(10,0,0,false,[]),(11,0,0,true,[])]:=⟨by kernel_rfl⟩
instance i331:DrC P 147 3 [(0,0,0,false,[]),(1,0,0,false,[]),(2,0,0,false,[]),(3,0,0,false,[]),(4,0,0,false,[]),(5,0,0,false,[]),(6,0,0,false,[]),(7,0,0,false,[]),(8,0,0,false,[]),(9,0,0,false,[]),(10,0,0,false,[]),(11,0,0,true,[])]:=⟨by kernel_rfl⟩
instance i343:DrC P 169 13 [(0,0,0,true,[]),(1,0,0,true,[]),(2,0,0,true,[]),(3,0,0,false,[]),(4,0,0,false,[]),(5,0,0,false,[]),(6,0,0,false,[]),(7,0,0,false,[]),(8,0,0,false,[]),(9,0,0,true,[]),(10,1,1,true,[]),(11,1,1,true,[]),(12,1,1,true,[])]:=⟨by kernel_rfl⟩
instance i344:DrC P 169 22 [(0,0,0,false,[]),(1,0,0,false,[]),(2,0,0,false,[]),(3,0,0,false,[]),(4,0,0,false,[]),(5,0,0,true,[]),(6,1,1,true,[])]:=⟨by kernel_rfl⟩
instance i345:DrC P 169 26 [(1,0,0,false,[]),(2,0,0,false,[]),(3,0,0,false,[]),(4,0,0,false,[]),(5,0,0,false,[]),(6,0,0,false,[]),(7,0,0,false,[]),(8,0,0,false,[0]),(0,0,1,false,[]),(9,1,1,true,[]),(10,1,1,true,[]),(11,1,1,true,[])]:=⟨by kernel_rfl⟩
instance i346:DrC P 169 27 [(1,0,0,false,[]),(2,0,0,false,[]),(3,0,0,false,[]),(4,0,0,false,[]),(5,0,0,false,[]),(6,0,0,false,[]),(7,0,0,false,[0]),(0,0,1,false,[]),(8,1,1,true,[]),(9,1,1,true,[]),(10,1,1,true,[])]:=⟨by kernel_rfl⟩
instance i347:DrC P 172 3 [(0,0,0,false,[]),(1,0,0,false,[]),(2,0,0,false,[]),(3,0,0,false,[]),(4,0,0,false,[]),(5,0,0,false,[]),(6,0,0,false,[]),(7,0,0,false,[]),(8,0,0,false,[]),(9,0,0,false,[]),(10,0,0,false,[]),(11,0,0,false,[]),(12,0,0,false,[]),(13,0,0,true,[]),(14,0,0,true,[]),(15,0,0,true,[]),(16,0,0,true,[])]:=⟨by kernel_rfl⟩
instance i348:DrC P 182 3 [(0,0,0,true,[]),(1,0,0,true,[]),(2,0,0,true,[]),(3,0,0,true,[]),(4,0,0,false,[]),(5,0,0,false,[]),(6,0,0,false,[]),(7,0,0,false,[]),(8,0,0,false,[]),(9,0,0,false,[]),(10,0,0,false,[]),(11,0,0,false,[]),(12,0,0,false,[]),(13,0,0,false,[]),(14,0,0,false,[]),(15,0,0,true,[]),(16,1,1,true,[]),(17,1,1,true,[])]:=⟨by kernel_rfl⟩
instance i349:DrC P 185 2 [(0,0,0,false,[]),(1,0,0,false,[]),(2,0,0,false,[]),(3,0,0,false,[]),(4,0,0,false,[]),(5,0,0,false,[]),(6,0,0,false,[]),(7,0,0,true,[]),(8,1,1,true,[])]:=⟨by kernel_rfl⟩
instance i357:DrC P 203 1 [(0,0,0,false,[]),(1,0,0,false,[]),(2,0,0,false,[3]),(3,0,1,false,[]),(4,1,1,true,[]),(5,1,1,true,[])]:=⟨by kernel_rfl⟩
instance i358:DrC P 205 1 [(0,0,0,false,[]),(1,0,0,false,[]),(2,0,0,false,[3]),(3,0,1,false,[]),(4,1,1,true,[]),(5,1,1,true,[])]:=⟨by kernel_rfl⟩
instance i359:DrC P 206 1 [(0,0,0,false,[]),(1,0,0,false,[]),(2,0,0,false,[]),(3,0,0,false,[]),(4,0,0,false,[]),(5,0,0,true,[])]:=⟨by kernel_rfl⟩
instance i360:DrC P 206 5 [(0,0,0,false,[]),(1,0,0,false,[]),(2,0,0,false,[]),(3,0,0,false,[]),(4,0,0,false,[]),(5,0,0,true,[])]:=⟨by kernel_rfl⟩
instance i361:DrC P 207 4 [(5,0,0,false,[]),(6,0,0,false,[]),(7,0,0,false,[0,1,2,3,4]),(0,0,1,false,[]),(1,0,1,false,[]),(2,0,1,false,[]),(3,0,1,false,[]),(4,0,1,false,[]),(8,1,1,false,[]),(9,1,1,false,[]),(10,1,1,true,[])]:=⟨by kernel_rfl⟩
instance i362:DrC P 208 0 [(5,0,0,false,[]),(6,0,0,false,[]),(7,0,0,false,[]),(8,0,0,false,[0,1,2,3,4,13]),(0,0,1,false,[]),(1,0,1,false,[]),(2,0,1,false,[]),(3,0,1,false,[]),(4,0,1,false,[]),(9,1,1,false,[]),(10,1,1,false,[]),(11,1,1,false,[]),(12,1,1,false,[]),(13,0,1,false,[])]:=⟨by kernel_rfl⟩
instance i363:DrC P 208 3 [(0,0,0,true,[]),(1,0,0,true,[]),(2,0,0,true,[]),(3,0,0,true,[]),(4,0,0,false,[]),(5,0,0,false,[]),(6,0,0,false,[]),(7,0,0,true,[]),(8,0,0,true,[]),(9,0,0,true,[]),(15,0,0,false,[]),(16,0,0,false,[]),(17,0,0,false,[10,11,12,13,14]),(10,0,1,false,[]),(11,0,1,false,[]),(12,0,1,false,[]),(13,0,1,false,[]),(14,0,1,false,[]),(18,1,1,false,[]),(19,1,1,false,[]),(20,1,1,true,[]),(21,2,2,true,[]),(22,2,2,true,[])]:=⟨by kernel_rfl⟩
instance i408:ShC P 1 .scal:=⟨by kernel_rfl⟩
instance i409:ShC P 3 .scal:=⟨by kernel_rfl⟩
instance i410:ShC P 4 .scal:=⟨by kernel_rfl⟩
instance i411:ShC P 9 .scal:=⟨by kernel_rfl⟩
instance i412:ShC P 22 .scal:=⟨by kernel_rfl⟩
instance i413:ShC P 23 .scal:=⟨by kernel_rfl⟩
instance i414:ShC P 24 .scal:=⟨by kernel_rfl⟩
instance i415:ShC P 25 .scal:=⟨by kernel_rfl⟩
instance i416:ShC P 27 (.agg 8):=⟨by kernel_rfl⟩
instance i417:ShC P 30 .scal:=⟨by kernel_rfl⟩
instance i418:ShC P 36 (.agg 2):=⟨by kernel_rfl⟩
instance i419:ShC P 39 .scal:=⟨by kernel_rfl⟩
instance i421:ShC P 45 .scal:=⟨by kernel_rfl⟩
instance i426:ShC P 69 (.agg 2):=⟨by kernel_rfl⟩
instance i427:ShC P 70 .scal:=⟨by kernel_rfl⟩
instance i428:ShC P 72 (.agg 6):=⟨by kernel_rfl⟩
instance i429:ShC P 81 .scal:=⟨by kernel_rfl⟩
instance i430:ShC P 82 .scal:=⟨by kernel_rfl⟩
instance i431:ShC P 87 .scal:=⟨by kernel_rfl⟩
instance i432:ShC P 88 .scal:=⟨by kernel_rfl⟩
instance i433:ShC P 89 .scal:=⟨by kernel_rfl⟩
instance i434:ShC P 90 .scal:=⟨by kernel_rfl⟩
instance i435:ShC P 91 .scal:=⟨by kernel_rfl⟩
instance i436:ShC P 93 (.agg 1):=⟨by kernel_rfl⟩
instance i437:ShC P 102 (.agg 4):=⟨by kernel_rfl⟩
instance i441:ShC P 142 (.agg 3):=⟨by kernel_rfl⟩
instance i442:ShC P 143 .scal:=⟨by kernel_rfl⟩
instance i443:ShC P 154 (.agg 1):=⟨by kernel_rfl⟩
instance i444:ShC P 156 .scal:=⟨by kernel_rfl⟩
instance i445:ShC P 159 .scal:=⟨by kernel_rfl⟩
instance i446:ShC P 166 (.agg 5):=⟨by kernel_rfl⟩
instance i447:ShC P 168 .scal:=⟨by kernel_rfl⟩
instance i450:ShC P 200 (.agg 1):=⟨by kernel_rfl⟩
instance i454:ShC P 234 .scal:=⟨by kernel_rfl⟩
instance i455:ShC P 236 .scal:=⟨by kernel_rfl⟩
instance i456:ShC P 253 .scal:=⟨by kernel_rfl⟩
instance i461:OfC P 27 0 0:=⟨by kernel_rfl⟩
instance i462:OfC P 27 1 1:=⟨by kernel_rfl⟩
instance i463:OfC P 27 2 2:=⟨by kernel_rfl⟩
instance i464:OfC P 27 3 3:=⟨by kernel_rfl⟩
instance i465:OfC P 27 4 4:=⟨by kernel_rfl⟩
instance i466:OfC P 27 5 5:=⟨by kernel_rfl⟩
instance i467:OfC P 27 6 6:=⟨by kernel_rfl⟩
instance i468:OfC P 27 7 7:=⟨by kernel_rfl⟩
instance i469:OfC P 36 0 0:=⟨by kernel_rfl⟩
instance i470:OfC P 36 1 1:=⟨by kernel_rfl⟩
instance i484:OfC P 69 0 0:=⟨by kernel_rfl⟩
instance i485:OfC P 69 1 1:=⟨by kernel_rfl⟩
instance i486:OfC P 72 0 0:=⟨by kernel_rfl⟩
instance i487:OfC P 72 1 1:=⟨by kernel_rfl⟩
instance i488:OfC P 72 2 3:=⟨by kernel_rfl⟩
instance i489:OfC P 72 3 4:=⟨by kernel_rfl⟩
instance i490:OfC P 72 4 5:=⟨by kernel_rfl⟩
instance i491:OfC P 84 0 0:=⟨by kernel_rfl⟩
instance i492:OfC P 84 1 8:=⟨by kernel_rfl⟩
instance i493:OfC P 84 2 9:=⟨by kernel_rfl⟩
instance i494:OfC P 84 3 10:=⟨by kernel_rfl⟩
instance i495:OfC P 93 0 0:=⟨by kernel_rfl⟩
instance i496:OfC P 95 0 0:=⟨by kernel_rfl⟩
instance i497:OfC P 95 1 8:=⟨by kernel_rfl⟩
instance i498:OfC P 95 2 9:=⟨by kernel_rfl⟩
instance i499:OfC P 95 3 10:=⟨by kernel_rfl⟩
instance i500:OfC P 95 4 11:=⟨by kernel_rfl⟩
instance i501:OfC P 95 5 12:=⟨by kernel_rfl⟩
instance i502:OfC P 95 6 13:=⟨by kernel_rfl⟩
instance i503:OfC P 95 7 14:=⟨by kernel_rfl⟩
instance i504:OfC P 95 8 15:=⟨by kernel_rfl⟩
instance i505:OfC P 95 9 16:=⟨by kernel_rfl⟩
instance i506:OfC P 95 10 17:=⟨by kernel_rfl⟩
instance i507:OfC P 95 11 18:=⟨by kernel_rfl⟩
instance i508:OfC P 95 12 19:=⟨by kernel_rfl⟩
instance i509:OfC P 95 13 20:=⟨by kernel_rfl⟩
instance i510:OfC P 102 0 0:=⟨by kernel_rfl⟩
instance i511:OfC P 102 1 1:=⟨by kernel_rfl⟩
instance i512:OfC P 102 2 2:=⟨by kernel_rfl⟩
instance i513:OfC P 102 3 3:=⟨by kernel_rfl⟩
instance i518:OfC P 142 0 0:=⟨by kernel_rfl⟩
instance i519:OfC P 142 1 1:=⟨by kernel_rfl⟩
instance i520:OfC P 142 2 2:=⟨by kernel_rfl⟩
instance i521:OfC P 145 0 0:=⟨by kernel_rfl⟩
instance i522:OfC P 145 1 8:=⟨by kernel_rfl⟩
instance i523:OfC P 145 2 9:=⟨by kernel_rfl⟩
instance i524:OfC P 154 0 0:=⟨by kernel_rfl⟩
instance i525:OfC P 158 0 0:=⟨by kernel_rfl⟩
instance i526:OfC P 158 1 3:=⟨by kernel_rfl⟩
instance i527:OfC P 161 0 0:=⟨by kernel_rfl⟩
instance i528:OfC P 161 1 1:=⟨by kernel_rfl⟩
instance i529:OfC P 161 2 2:=⟨by kernel_rfl⟩
instance i530:OfC P 161 3 3:=⟨by kernel_rfl⟩
instance i531:OfC P 161 4 4:=⟨by kernel_rfl⟩
instance i532:OfC P 166 0 0:=⟨by kernel_rfl⟩
instance i533:OfC P 166 1 4:=⟨by kernel_rfl⟩
instance i538:OfC P 200 0 0:=⟨by kernel_rfl⟩
instance i546:OfC P 230 0 0:=⟨by kernel_rfl⟩
instance i547:OfC P 230 1 1:=⟨by kernel_rfl⟩
instance i548:OfC P 230 2 2:=⟨by kernel_rfl⟩
instance i549:IxC P 22 (.slice 4):=⟨by kernel_rfl⟩
instance i550:IxC P 23 (.slice 2):=⟨by kernel_rfl⟩
instance i551:IxC P 24 (.slice 6):=⟨by kernel_rfl⟩
instance i552:IxC P 25 (.slice 1):=⟨by kernel_rfl⟩
instance i554:IxC P 45 (.slice 1):=⟨by kernel_rfl⟩
instance i558:IxC P 70 (.slice 2):=⟨by kernel_rfl⟩
instance i559:IxC P 81 (.slice 3):=⟨by kernel_rfl⟩
instance i560:IxC P 82 (.slice 1):=⟨by kernel_rfl⟩
instance i561:IxC P 89 (.slice 1):=⟨by kernel_rfl⟩
instance i563:IxC P 91 (.slice 1):=⟨by kernel_rfl⟩
instance i566:IxC P 147 (.slice 1):=⟨by kernel_rfl⟩
instance i567:IxC P 159 (.slice 4):=⟨by kernel_rfl⟩
instance i571:SlC P 23 36 2:=⟨by kernel_rfl⟩
instance i573:SlC P 91 168 1:=⟨by kernel_rfl⟩
instance i574:SlC P 159 158 4:=⟨by kernel_rfl⟩
instance i575:UnC P 4 .bool:=⟨by kernel_rfl⟩
instance i576:UnC P 9 .string:=⟨by kernel_rfl⟩
instance i577:UnC P 22 (.slice 102):=⟨by kernel_rfl⟩
instance i578:UnC P 23 (.slice 36):=⟨by kernel_rfl⟩
instance i579:UnC P 24 (.slice 72):=⟨by kernel_rfl⟩
instance i580:UnC P 25 (.slice 9):=⟨by kernel_rfl⟩
instance i581:UnC P 30 (.pointer 95):=⟨by kernel_rfl⟩
instance i582:UnC P 31 (.pointer 84):=⟨by kernel_rfl⟩
instance i584:UnC P 45 (.slice 3):=⟨by kernel_rfl⟩
instance i587:UnC P 70 (.slice 69):=⟨by kernel_rfl⟩
instance i588:UnC P 81 (.slice 142):=⟨by kernel_rfl⟩
instance i589:UnC P 82 (.slice 45):=⟨by kernel_rfl⟩
instance i590:UnC P 89 (.slice 93):=⟨by kernel_rfl⟩
instance i592:UnC P 91 (.slice 168):=⟨by kernel_rfl⟩
instance i594:UnC P 147 (.slice 1):=⟨by kernel_rfl⟩
instance i596:IfC P 20:=⟨by kernel_rfl⟩
instance i597:MsC P 87 (.int .i64 0):=⟨9,3,by kernel_rfl,by kernel_rfl,by kernel_rfl⟩
instance i598:MsC P 88 (.int .i64 0):=⟨9,3,by kernel_rfl,by kernel_rfl,by kernel_rfl⟩
instance i601:IkC P 48 .u64:=⟨by kernel_rfl⟩
instance i604:ApC P 22 22 102 4:=⟨by kernel_rfl⟩
instance i605:ApC P 23 23 36 2:=⟨by kernel_rfl⟩
instance i606:ApC P 24 24 72 6:=⟨by kernel_rfl⟩
instance i607:ApC P 25 25 9 1:=⟨by kernel_rfl⟩
instance i609:ApC P 45 45 3 1:=⟨by kernel_rfl⟩
instance i611:ApC P 70 70 69 2:=⟨by kernel_rfl⟩
instance i612:ApC P 81 81 142 3:=⟨by kernel_rfl⟩
instance i613:ApC P 82 82 45 1:=⟨by kernel_rfl⟩
instance i614:ApC P 89 89 93 1:=⟨by kernel_rfl⟩
instance i615:ApC P 90 90 89 1:=⟨by kernel_rfl⟩
instance i616:ApC P 91 91 168 1:=⟨by kernel_rfl⟩
instance i618:ApC P 159 159 158 4:=⟨by kernel_rfl⟩
instance i619:PlC P 3:=⟨by kernel_rfl⟩
instance i622:PlC P 154:=⟨by kernel_rfl⟩
instance i624:PlC P 200:=⟨by kernel_rfl⟩
instance i627:ZeC P 3 [.int .i64 0]:=⟨.int .i64 0,by kernel_rfl,rfl⟩
instance i628:ZeC P 4 [.bool false]:=⟨.bool false,by kernel_rfl,rfl⟩
instance i629:ZeC P 9 [str []]:=⟨str [],by kernel_rfl,rfl⟩
instance i630:ZeC P 25 [.slice none 0 0]:=⟨.slice none 0 0,by kernel_rfl,rfl⟩
instance i631:ZeC P 27 [str [],.slice none 0 0,.slice none 0 0,.slice none 0 0,.slice none 0 0,str [],.slice none 0 0,.int .i64 0]:=⟨.agg ⟨[str [],.slice none 0 0,.slice none 0 0,.slice none 0 0,.slice none 0 0,str [],.slice none 0 0,.int .i64 0]⟩,by kernel_rfl,rfl⟩
instance i632:ZeC P 36 [str [],.slice none 0 0]:=⟨.agg ⟨[str [],.slice none 0 0]⟩,by kernel_rfl,rfl⟩
instance i633:ZeC P 39 [.int .i64 0]:=⟨.int .i64 0,by kernel_rfl,rfl⟩
instance i638:ZeC P 69 [str [],str []]:=⟨.agg ⟨[str [],str []]⟩,by kernel_rfl,rfl⟩
instance i639:ZeC P 72 [str [],str [],str [],.slice none 0 0,.int .i64 0,.slice none 0 0]:=⟨.agg ⟨[str [],str [],str [],.slice none 0 0,.int .i64 0,.slice none 0 0]⟩,by kernel_rfl,rfl⟩
instance i640:ZeC P 81 [.slice none 0 0]:=⟨.slice none 0 0,by kernel_rfl,rfl⟩
instance i641:ZeC P 93 [.slice none 0 0]:=⟨.agg ⟨[.slice none 0 0]⟩,by kernel_rfl,rfl⟩
instance i642:ZeC P 102 [str [],.int .i64 0,.int .i64 0,.slice none 0 0]:=⟨.agg ⟨[str [],.int .i64 0,.int .i64 0,.slice none 0 0]⟩,by kernel_rfl,rfl⟩
instance i644:ZeC P 142 [.int .i64 0,.int .i64 0,.int .i64 0]:=⟨.agg ⟨[.int .i64 0,.int .i64 0,.int .i64 0]⟩,by kernel_rfl,rfl⟩
instance i645:ZeC P 143 [.pointer none]:=⟨.pointer none,by kernel_rfl,rfl⟩
instance i646:ZeC P 154 [.int .i64 0]:=⟨.agg ⟨[.int .i64 0]⟩,by kernel_rfl,rfl⟩
instance i647:ZeC P 156 [.pointer none]:=⟨.pointer none,by kernel_rfl,rfl⟩
instance i648:ZeC P 166 [str [],.int .i64 0,.int .i64 0,.slice none 0 0,.int .i64 0]:=⟨.agg ⟨[str [],.int .i64 0,.int .i64 0,.slice none 0 0,.int .i64 0]⟩,by kernel_rfl,rfl⟩
instance i650:ZeC P 200 [.int .i64 0]:=⟨.agg ⟨[.int .i64 0]⟩,by kernel_rfl,rfl⟩
instance i663 {x1:ByteArray}:BdC P 69 [(0,.string x1)] [.string x1,str []]:=⟨by kernel_rfl⟩
instance i665 {x1:Value} {x2:Value} {x3:Value} {x4:Value} {x5:Value} {x6:Value} {x7:Value} {x8:Value} {x9:Option Addr} {x10:Nat} {x11:Nat} {x12:Option Addr} {x13:Nat} {x14:Nat}:BdC P 84 [(0,.agg ⟨[x1,x2,x3,x4,x5,x6,x7,x8]⟩),(1,.slice x9 x10 x11),(2,.slice x12 x13 x14)] [x1,x2,x3,x4,x5,x6,x7,x8,.slice x9 x10 x11,.slice x12 x13 x14,.slice none 0 0]:=⟨by kernel_rfl⟩
instance i666 {x1:Option Addr} {x2:Nat} {x3:Nat}:BdC P 93 [(0,.slice x1 x2 x3)] [.slice x1 x2 x3]:=⟨by kernel_rfl⟩
instance i667 {x1:Value} {x2:Value} {x3:Value} {x4:Value} {x5:Value} {x6:Value} {x7:Value} {x8:Value}:BdC P 95 [(0,.agg ⟨[x1,x2,x3,x4,x5,x6,x7,x8]⟩)] [x1,x2,x3,x4,x5,x6,x7,x8,.slice none 0 0,.slice none 0 0,.map none,.map none,.map none,.slice none 0 0,.slice none 0 0,.slice none 0 0,.slice none 0 0,.slice none 0 0,.slice none 0 0,.slice none 0 0,.slice none 0 0]:=⟨by kernel_rfl⟩
instance i671 {x1:Int} {x2:Int} {x3:Int}:BdC P 142 [(0,.int .i64 x1),(1,.int .i64 x2),(2,.int .i64 x3)] [.int .i64 x1,.int .i64 x2,.int .i64 x3]:=⟨by kernel_rfl⟩
instance i672 {x1:Value} {x2:Value} {x3:Value} {x4:Value} {x5:Value} {x6:Value} {x7:Value} {x8:Value}:BdC P 145 [(0,.agg ⟨[x1,x2,x3,x4,x5,x6,x7,x8]⟩)] [x1,x2,x3,x4,x5,x6,x7,x8,.slice none 0 0,.slice none 0 0]:=⟨by kernel_rfl⟩
instance i673 {x1:Int}:BdC P 154 [(0,.int .i64 x1)] [.int .i64 x1]:=⟨by kernel_rfl⟩
instance i674  : BdC P 158 [] [.int .i64 0,.int .i64 0,.int .i64 0,.slice none 0 0]:=⟨by kernel_rfl⟩
instance i675 {x1:Value} {x2:Value} {x3:Value}:BdC P 158 [(0,.agg ⟨[x1,x2,x3]⟩)] [x1,x2,x3,.slice none 0 0]:=⟨by kernel_rfl⟩
instance i676 {x1:Option Nat} {x2:Option Addr} {x3:Nat} {x4:Nat}:BdC P 161 [(2,.map x1),(3,.slice x2 x3 x4)] [.slice none 0 0,.slice none 0 0,.map x1,.slice x2 x3 x4,.int .i64 0]:=⟨by kernel_rfl⟩
instance i677 {x1:Value} {x2:Value} {x3:Value} {x4:Value} {x5:Int}:BdC P 166 [(0,.agg ⟨[x1,x2,x3,x4]⟩),(1,.int .i64 x5)] [x1,x2,x3,x4,.int .i64 x5]:=⟨by kernel_rfl⟩
instance i679 {x1:Int}:BdC P 200 [(0,.int .i64 x1)] [.int .i64 x1]:=⟨by kernel_rfl⟩
instance i682  : BdC P 230 [] [.slice none 0 0,.slice none 0 0,.int .i64 0]:=⟨by kernel_rfl⟩
instance i683  : BsC P 22 0 [] []:=⟨by kernel_rfl⟩
instance i685  : BsC P 23 0 [] []:=⟨by kernel_rfl⟩
instance i687  : BsC P 24 0 [] []:=⟨by kernel_rfl⟩
instance i689  : BsC P 25 0 [] []:=⟨by kernel_rfl⟩
instance i690 {x1:ByteArray}:BsC P 25 1 [(0,.string x1)] [.string x1]:=⟨by kernel_rfl⟩
instance i691 {x1:ByteArray} {x2:ByteArray} {x3:ByteArray} {x4:ByteArray} {x5:ByteArray} {x6:ByteArray} {x7:ByteArray} {x8:ByteArray} {x9:ByteArray} {x10:ByteArray} {x11:ByteArray}:BsC P 25 11 [(0,.string x1),(1,.string x2),(2,.string x3),(3,.string x4),(4,.string x5),(5,.string x6),(6,.string x7),(7,.string x8),(8,.string x9),(9,.string x10),(10,.string x11)] [.string x1,.string x2,.string x3,.string x4,.string x5,.string x6,.string x7,.string x8,.string x9,.string x10,.string x11]:=⟨by kernel_rfl⟩
instance i694  : BsC P 45 0 [] []:=⟨by kernel_rfl⟩
instance i695 {x1:Int}:BsC P 45 1 [(0,.int .i64 x1)] [.int .i64 x1]:=⟨by kernel_rfl⟩
instance i696 {x1:Int} {x2:Int}:BsC P 45 2 [(0,.int .i64 x1),(1,.int .i64 x2)] [.int .i64 x1,.int .i64 x2]:=⟨by kernel_rfl⟩
instance i699  : BsC P 70 0 [] []:=⟨by kernel_rfl⟩
instance i700 {x1:Value} {x2:Value}:BsC P 70 1 [(0,.agg ⟨[x1,x2]⟩)] [x1,x2]:=⟨by kernel_rfl⟩
instance i702 {x1:Value} {x2:Value} {x3:Value}:BsC P 81 1 [(0,.agg ⟨[x1,x2,x3]⟩)] [x1,x2,x3]:=⟨by kernel_rfl⟩
instance i703 {x1:Value} {x2:Value} {x3:Value} {x4:Value} {x5:Value} {x6:Value}:BsC P 81 2 [(0,.agg ⟨[x1,x2,x3]⟩),(1,.agg ⟨[x4,x5,x6]⟩)] [x1,x2,x3,x4,x5,x6]:=⟨by kernel_rfl⟩
instance i704 {x1:Option Addr} {x2:Nat} {x3:Nat}:BsC P 82 1 [(0,.slice x1 x2 x3)] [.slice x1 x2 x3]:=⟨by kernel_rfl⟩
instance i705 {x1:Value}:BsC P 89 1 [(0,.agg ⟨[x1]⟩)] [x1]:=⟨by kernel_rfl⟩
instance i706 {x1:Option Addr} {x2:Nat} {x3:Nat}:BsC P 90 1 [(0,.slice x1 x2 x3)] [.slice x1 x2 x3]:=⟨by kernel_rfl⟩
instance i707 {x1:Int}:BsC P 91 1 [(0,.int .u64 x1)] [.int .u64 x1]:=⟨by kernel_rfl⟩
instance i708 {x1:Fn} {x2:Array Value} {x3:Array Value} {x4:Fn} {x5:Array Value} {x6:Array Value} {x7:Fn} {x8:Array Value} {x9:Array Value} {x10:Fn} {x11:Array Value} {x12:Array Value} {x13:Fn} {x14:Array Value} {x15:Array Value}:BsC P 147 5 [(0,.func x1 x2 x3),(1,.func x4 x5 x6),(2,.func x7 x8 x9),(3,.func x10 x11 x12),(4,.func x13 x14 x15)] [.func x1 x2 x3,.func x4 x5 x6,.func x7 x8 x9,.func x10 x11 x12,.func x13 x14 x15]:=⟨by kernel_rfl⟩
instance i709 {x1:Value} {x2:Value} {x3:Value} {x4:Value}:BsC P 159 1 [(0,.agg ⟨[x1,x2,x3,x4]⟩)] [x1,x2,x3,x4]:=⟨by kernel_rfl⟩
end Go.Proofs.YtcmohelnoldfbaaGreat
namespace Go.Ex.M
structure Pl where
  root:Int
  at_:Int
  width:Int
 deriving DecidableEq
abbrev plC(p:Pl):List Value:=[I64 p.root,I64 p.at_,I64 p.width]
abbrev plV(p:Pl):Value:=.agg ⟨plC p⟩
def Go64(x:Int):Prop:= -9223372036854775808≤x∧x<9223372036854775808
def PlOK(p:Pl):Prop:=Go64 p.at_∧Go64 p.width
def lapP(a b:Pl):Prop:=a.root=b.root∧1≤a.width∧1≤b.width∧(if b.at_<a.at_ then a.at_ - b.at_<b.width else b.at_ - a.at_<a.width)
instance (a b:Pl):Decidable (lapP a b):=by unfold lapP;exact inferInstance
def tJ(a b:Pl):Bool:=decide (lapP a b)
theorem lap_u{a b c:Int}(ha:Go64 a)(hb:Go64 b)(hc:Go64 c)(h1:1≤c)(h:a≤b):(IntKind.wrap .u64 (IntKind.wrap .u64 b - IntKind.wrap .u64 a)<IntKind.wrap .u64 c)↔b - a<c:=by
 unfold Go64 at *;have e:∀x:Int,IntKind.wrap .u64 x=x % 18446744073709551616:=fun x=>rfl;rw [e,e,e,e];omega
def withinP(a b:Pl):Prop:=a.root=b.root∧(a.width<1∨(1≤b.width∧b.at_≤a.at_∧a.at_ - b.at_≤b.width∧a.width≤b.width - (a.at_ - b.at_)))
instance (a b:Pl):Decidable (withinP a b):=by unfold withinP;exact inferInstance
def withinB(a b:Pl):Bool:=decide (withinP a b)
theorem le_u{a b c:Int}(ha:Go64 a)(hb:Go64 b)(hc:Go64 c)(h1:1≤c)(h:a≤b):(IntKind.wrap .u64 (IntKind.wrap .u64 b - IntKind.wrap .u64 a)≤IntKind.wrap .u64 c)↔b - a≤c:=by
 unfold Go64 at *;have e:∀x:Int,IntKind.wrap .u64 x=x % 18446744073709551616:=fun x=>rfl;rw [e,e,e,e];omega
theorem within_u{a b c w:Int}(ha:Go64 a)(hb:Go64 b)(hc:Go64 c)(hw:Go64 w)(h1:1≤c)(h2:1≤w)(h:a≤b)(h3:b - a≤c):(IntKind.wrap .u64 w≤IntKind.wrap .u64 (IntKind.wrap .u64 c - IntKind.wrap .u64 (IntKind.wrap .u64 b - IntKind.wrap .u64 a)))↔w≤c - (b - a):=by
 unfold Go64 at *;have e:∀x:Int,IntKind.wrap .u64 x=x % 18446744073709551616:=fun x=>rfl;rw [e,e,e,e,e,e];omega
theorem lap_fin{z:Bool}{a b:Pl}{h h':zB}{n n':Nat}(hz:z=true↔lapP a b)(ht:Tch [] h n h' n'):Out.ret (.bool z)=Out.ret (.bool (tJ a b))∧Tch [] h n h' n':=⟨by
 unfold tJ
 cases z with
 | true=>rw [decide_eq_true (hz.1 rfl)]
 | false=>rw [decide_eq_false fun e=>Bool.noConfusion (hz.2 e)],ht⟩
theorem within_fin{z:Bool}{a b:Pl}{h h':zB}{n n':Nat}(hz:z=true↔withinP a b)(ht:Tch [] h n h' n'):Out.ret (.bool z)=Out.ret (.bool (withinB a b))∧Tch [] h n h' n':=⟨by
 unfold withinB
 cases z with
 | true=>rw [decide_eq_true (hz.1 rfl)]
 | false=>rw [decide_eq_false fun e=>Bool.noConfusion (hz.2 e)],ht⟩
end Go.Ex.M
namespace Go.Ex.M
abbrev Tx:=List UInt8
def letB(c:Nat):Bool:=decide ((97≤c∧c≤122)∨(65≤c∧c≤90)∨c=95)
def digB(c:Nat):Bool:=decide (48≤c∧c≤57)
def tailB(s:Tx):Bool:=s.all fun c=>letB c.toNat || digB c.toNat
def nameB:Tx→Bool
 | []=>false
 | c::r=>decide ((c::r).length≤20) && letB c.toNat && tailB (c::r)
def pos(ss:List Tx)(x:Tx):Int:=if x∈ss then(ss.idxOf x:Nat) else -1
theorem pos_hit{ss:List Tx}{x:Tx}{k:Nat}(hk:ss[k]? = some x)(hno:∀j,j<k→ss[j]?≠some x):pos ss x=(k:Nat):=by
 have hm:x∈ss:=List.mem_iff_getElem?.2 ⟨k,hk⟩;unfold pos;rw [if_pos hm];have h1:ss.idxOf x<ss.length:=List.idxOf_lt_length_iff.2 hm;have h2:ss[ss.idxOf x]? = some x:=by rw[List.getElem?_eq_getElem h1,List.getElem_idxOf h1]
 rcases Nat.lt_trichotomy (ss.idxOf x) k with h|h|h
 · exact absurd h2 (hno _ h)
 · rw[h]
 · have:=List.not_of_lt_findIdx (p:=(· == x)) h;rw [List.getElem?_eq_some_iff]at hk;obtain⟨hk1,hk2⟩:=hk;simp [hk2]at this
theorem pos_no{ss:List Tx}{x:Tx}(hno:∀j,j<ss.length→ss[j]?≠some x):pos ss x = -1:=by
 unfold pos
 rw[if_neg fun hm=>by
  obtain⟨k,hk⟩:=List.mem_iff_getElem?.1 hm;exact hno k (List.getElem?_eq_some_iff.1 hk).1 hk]
theorem pos_ge{ss:List Tx}{x:Tx}:0≤pos ss x↔x∈ss:=by
 unfold pos;split <;> rename_i h
 · exact⟨fun _=>h,fun _=>by omega⟩
 · exact⟨fun h2=>by omega,fun h2=>absurd h2 h⟩
theorem str_at{ss:List Tx}{k:Nat}(h:k<ss.length):(ss.map str)[k]? = some (str ss[k]):=by rw[List.getElem?_map,List.getElem?_eq_getElem h];rfl
end Go.Ex.M
namespace Go.Ex.M
theorem finB{z:Bool}{p:Prop}{_i:Decidable p}{h:zB}{n:Nat}(hz:z=true↔p):Out.ret (.bool z)=Out.ret (.bool (decide p))∧h=h∧n=n:=⟨by
 cases z with
 | true=>rw [decide_eq_true (hz.1 rfl)]
 | false=>rw [decide_eq_false fun e=>Bool.noConfusion (hz.2 e)],rfl,rfl⟩
theorem fin{v w:Value}{h:zB}{n:Nat}(e:v=w):Out.ret v=Out.ret w∧h=h∧n=n:=⟨by rw[e],rfl,rfl⟩
theorem finT{S:List Nat}{v w:Value}{h h':zB}{n n':Nat}(e:v=w)(t:Tch S h n h' n'):Out.ret v=Out.ret w∧Tch S h n h' n':=⟨by rw[e],t⟩
def wordsL:List Tx:=[[109,97,99,104,105,110,101],[114,101,103],[97,116],[99,108,97,115,115],[111,112],[116,105,101],[99,108,111,98],[97,114,103,115],[114,101,115,117,108,116],[115,97,118,101,100],[115,108,111,116,115]]
def wordB(s:Tx):Bool:=decide (s∈wordsL)
def named(s:Tx):Bool:=nameB s && !wordB s
def posF{α : Type}(p: α→Bool)(l:List α):Int:=if l.any p then(l.findIdx p:Nat) else -1
theorem posF_hit{α : Type}{p: α→Bool}{l:List α}{k:Nat}{x: α}(hk:l[k]? = some x)(hx:p x=true)(hno:∀(j:Nat) (y: α),j<k→l[j]? = some y→p y=false):posF p l=(k:Nat):=by
 obtain⟨h1,h2⟩:=List.getElem?_eq_some_iff.1 hk;unfold posF;rw [if_pos (List.any_eq_true.2 ⟨x,h2 ▸ List.getElem_mem h1,hx⟩)];congr 1
 rw[List.findIdx_eq h1];refine⟨by rw[h2];exact hx,fun j hj=>?_⟩;exact hno j _ hj (List.getElem?_eq_getElem _)
theorem posF_no{α : Type}{p: α→Bool}{l:List α}(hno:∀(j:Nat) (y: α),l[j]? = some y→p y=false):posF p l = -1:=by
 unfold posF;rw [if_neg];intro h;obtain⟨x,h1,h2⟩:=List.any_eq_true.1 h;obtain⟨j,hj⟩:=List.mem_iff_getElem?.1 h1;rw [hno j x hj]at h2;cases h2
theorem posF_ge{α : Type}{p: α→Bool}{l:List α}:0≤posF p l↔l.any p=true:=by
 unfold posF;split <;> rename_i h
 · exact⟨fun _=>h,fun _=>by omega⟩
 · exact⟨fun h2=>by omega,fun h2=>absurd h2 h⟩
theorem uN{α : Type}{f: α→List Value}{sz:Nat}(hf:∀x,(f x).length=sz):∀{l:List α} {k j:Nat} {x: α} {v:Value},l[k]? = some x→(f x)[j]? = some v→(l.flatMap f)[k*sz+j]? = some v:=by
 intro l
 induction l with
 | nil=>intro k j x v h;cases h
 | cons y r ih =>
  intro k j x v h1 h2;rw [List.flatMap_cons]
  cases k with
  | zero=>
   cases h1
   rw[Nat.zero_mul,Nat.zero_add,List.getElem?_append_left (List.getElem?_eq_some_iff.1 h2).1];exact h2
  | succ k=>
   rw[List.getElem?_cons_succ]at h1;rw [List.getElem?_append_right (by rw[hf];have:=Nat.add_one_mul k sz;omega),hf,show(k+1)*sz+j - sz=k*sz+j by have:=Nat.add_one_mul k sz;omega];exact ih h1 h2
theorem flat_len{α : Type}{f: α→List Value}{sz:Nat}(hf:∀x,(f x).length=sz)(l:List α):(l.flatMap f).length=l.length*sz:=by
 induction l with
 | nil=>simp
 | cons y r ih=>rw [List.flatMap_cons,List.length_append,hf,ih,List.length_cons,Nat.succ_mul];omega
theorem rd_of{h:zB}{b:Nat}:∀{sz o:Nat} {vs:List Value},vs.length=sz→(∀j v,vs[j]? = some v→zD h b (o+j)=some v)→Rd h b o sz vs:=by
 intro sz
 induction sz with
 | zero=>intro o vs h1 _;exact List.length_eq_zero_iff.1 h1
 | succ k ih=>
  intro o vs h1 h2
  cases vs with
  | nil=>cases h1
  | cons x r=>exact⟨x,r,rfl,h2 0 x rfl,ih (by simpa using h1) fun j v hj=>by have:=h2 (j+1) v (by simpa using hj);rwa [show o+(j+1)=o+1+j by omega]at this⟩
theorem zM{α : Type}{f: α→List Value}{sz lo e len:Nat}{h:zB}{v:Value}{l:List α}{k:Nat}{x: α}(r:Row lo h v e sz len (l.flatMap f))(hk:l[k]? = some x)(hf:∀x,(f x).length=sz:=by intro _;rfl):Rd h (sbk v) (sof v+k*sz) sz (f x):=
 rd_of (hf x) fun j w hj=>by rw[Nat.add_assoc];exact r.at (uN hf hk hj)
theorem yX{α : Type}{g: α→Value}{lo e len:Nat}{h:zB}{v:Value}{l:List α}{k:Nat}{x: α}(r:Row lo h v e 1 len (l.map g))(hk:l[k]? = some x):zD h (sbk v) (sof v+k*1)=some (g x):=by
 rw[Nat.mul_one];exact r.at (by rw[List.getElem?_map,hk];rfl)
theorem tail_step{s:Tx}{k:Nat}(h:k<s.length):tailB s=true→letB s[k].toNat=true∨digB s[k].toNat=true:=fun ht=>by
 have:=List.all_eq_true.1 ht s[k] (List.getElem_mem h);simpa using this
theorem tail_all{s:Tx}(hno:∀j (hj:j<s.length),letB s[j].toNat=true∨digB s[j].toNat=true):tailB s=true:=by
 refine List.all_eq_true.2 fun c hc=>?_;obtain⟨j,hj,rfl⟩:=List.mem_iff_getElem.1 hc;have:=hno j hj;simpa using this
end Go.Ex.M
namespace Go.Ex.M
structure ClassT where
 name:Tx
 rsv:Value
 regs:List Tx
structure OperT where
  cls:Tx
  fix:Tx
 deriving DecidableEq
structure OpT where
 name:Tx
 d:OperT
 usv:Value
 uses:List OperT
 tie:Int
 csv:Value
 clob:List Tx
inductive RegT where
 | mk (name:Tx) (w a:Int) (sv:Value) (subs:List RegT)
structure MachT where
 name:Tx
 rsv:Value
 regs:List RegT
 csv:Value
 classes:List ClassT
 osv:Value
 ops:List OpT
 asv:Value
 args:List Tx
 result:Tx
 ssv:Value
 saved:List Tx
 slots:Int
def RegT.name:RegT→Tx | .mk n _ _ _ _=>n
def RegT.w:RegT→Int | .mk _ w _ _ _=>w
def RegT.a:RegT→Int | .mk _ _ a _ _=>a
def RegT.sv:RegT→Value | .mk _ _ _ s _=>s
def RegT.subs:RegT→List RegT | .mk _ _ _ _ l=>l
abbrev regC(r:RegT):List Value:=[str r.name,I64 r.w,I64 r.a,r.sv]
abbrev clsC(c:ClassT):List Value:=[str c.name,c.rsv]
abbrev oprC(o:OperT):List Value:=[str o.cls,str o.fix]
abbrev opC(o:OpT):List Value:=[str o.name,str o.d.cls,str o.d.fix,o.usv,I64 o.tie,o.csv]
abbrev yO(m:MachT):List Value:=[str m.name,m.rsv,m.csv,m.osv,m.asv,str m.result,m.ssv,I64 m.slots]
def RowI(lo:Nat)(h:zB)(v:Value)(sz len:Nat)(vs:List Value):Prop:=∀e,Row lo h v e sz len vs
theorem RowI.lt{lo:Nat}{h:zB}{v:Value}{sz len:Nat}{vs:List Value}(r:RowI lo h v sz len vs):len<inf:=by
 rcases r 0 with⟨_,rfl,_⟩|⟨b,off,cap,m,z,kd,_,rfl,_,h1,_,_,h2⟩
 · decide
 · rcases h2 with h2|⟨rfl,rfl,rfl,h3⟩
   · omega
   · rcases r 1 with⟨h4,_⟩|⟨b',off',cap',m',z',kd',_,h4,_,h5,_,_,h6⟩
     · cases h4
     · injection h4 with h7 h8 h9
       injection h7 with h7;injection h7 with h7 _
       subst h7 h9;rw [h1]at h5;injection h5 with h5
       injection h5 with _ h5
       injection h5 with h5 _
       subst h5;rcases h6 with h6|⟨_,_,h6,_⟩
       · omega
       · have:=(zc_inj h6).1;omega
theorem RowI.tch{lo:Nat}{h h':zB}{v:Value}{sz len n n':Nat}{vs:List Value}(r:RowI lo h v sz len vs)(t:Tch [] h n h' n')(hl:lo≤n):RowI lo h' v sz len vs:=fun e=>(r e).tch t hl fun _ _ hx=>by cases hx
theorem RowI.tchE{lo:Nat}{h h':zB}{v:Value}{sz len n n':Nat}{vs:List Value}(r:RowI lo h v sz len vs)(t:Tch [] h n h' n')(hl:lo≤n):Row lo h' v 0 sz len vs:=r.tch t hl 0
def RegsM(lo:Nat)(h:zB)(sv:Value)(l:List RegT):Prop:=RowI lo h sv 4 l.length (l.flatMap regC)∧∀r,(_:r∈l)→RegsM lo h r.sv r.subs
 termination_by SizeOf.sizeOf l
 decreasing_by
  rename_i hr;have h1:=List.sizeOf_lt_of_mem hr;cases r
  simp only[RegT.subs];simp at h1;omega
theorem RegsM.row{lo:Nat}{h:zB}{sv:Value}{l:List RegT}(r:RegsM lo h sv l):RowI lo h sv 4 l.length (l.flatMap regC):=by unfold RegsM at r;exact r.1
theorem RegsM.sub{lo:Nat}{h:zB}{sv:Value}{l:List RegT}(r:RegsM lo h sv l){x:RegT}(hx:x∈l):RegsM lo h x.sv x.subs:=by unfold RegsM at r;exact r.2 x hx
theorem RegsM.tch{lo n n':Nat}{h h':zB}(t:Tch [] h n h' n')(hl:lo≤n):∀{sv:Value} {l:List RegT},RegsM lo h sv l→RegsM lo h' sv l:=by
  intro sv l r;unfold RegsM at r ⊢;exact⟨r.1.tch t hl,fun x hx=>RegsM.tch t hl (r.2 x hx)⟩
 termination_by sv l=>SizeOf.sizeOf l
 decreasing_by
  have h1:=List.sizeOf_lt_of_mem hx;cases x
  simp only[RegT.subs];simp at h1;omega
structure MachM (lo:Nat) (h:zB) (m:MachT):Prop where
 regs:RegsM lo h m.rsv m.regs
 cls:RowI lo h m.csv 2 m.classes.length (m.classes.flatMap clsC)
 clsr:∀c∈m.classes,RowI lo h c.rsv 1 c.regs.length (c.regs.map str)
 ops:RowI lo h m.osv 6 m.ops.length (m.ops.flatMap opC)
 opsu:∀o∈m.ops,RowI lo h o.usv 2 o.uses.length (o.uses.flatMap oprC)
 opsc:∀o∈m.ops,RowI lo h o.csv 1 o.clob.length (o.clob.map str)
 args:RowI lo h m.asv 1 m.args.length (m.args.map str)
 saved:RowI lo h m.ssv 1 m.saved.length (m.saved.map str)
 slots:Go64 m.slots
theorem MachM.tch{lo n n':Nat}{h h':zB}{m:MachT}(t:Tch [] h n h' n')(hl:lo≤n)(r:MachM lo h m):MachM lo h' m:=
 ⟨RegsM.tch t hl r.regs,r.cls.tch t hl,fun c hc=>(r.clsr c hc).tch t hl,r.ops.tch t hl,fun c hc=>(r.opsu c hc).tch t hl,fun c hc=>(r.opsc c hc).tch t hl,r.args.tch t hl,r.saved.tch t hl,r.slots⟩
def ar2:List Tx:=[[97,100,100],[115,117,98],[109,117,108],[97,110,100],[111,114],[120,111,114],[115,104,108],[115,104,114],[100,105,118],[114,101,109],[108,116],[101,113]]
def arity(s:Tx):Int:=if s∈ar2 then 2 else if s=[110,111,116] then 1 else 0
end Go.Ex.M
namespace Go.Ex.M
def vT:Nat:=1125899906842624
def TxtR(l:List RegT):Prop:=l.length<vT∧∀r,(_:r∈l)→r.name.length<vT∧TxtR r.subs
 termination_by SizeOf.sizeOf l
 decreasing_by
  rename_i hr;have h1:=List.sizeOf_lt_of_mem hr;cases r
  simp only[RegT.subs];simp at h1;omega
theorem TxtR.at{l:List RegT}(k:TxtR l){r:RegT}(hr:r∈l):r.name.length<vT∧TxtR r.subs:=by unfold TxtR at k;exact k.2 r hr
theorem TxtR.len{l:List RegT}(k:TxtR l):l.length<vT:=by unfold TxtR at k;exact k.1
theorem TxtR.mk{l:List RegT}(h:l.length<vT)(k:∀r∈l,r.name.length<vT∧TxtR r.subs):TxtR l:=by unfold TxtR;exact⟨h,k⟩
def TxtL(l:List Tx):Prop:=l.length<vT∧∀x∈l,x.length<vT
structure TxtM (m:MachT):Prop where
 nm:m.name.length<vT
 rg:TxtR m.regs
 cll:m.classes.length<vT
 cl:∀c∈m.classes,c.name.length<vT∧TxtL c.regs
 opl:m.ops.length<vT
 op:∀o∈m.ops,o.name.length<vT∧o.d.cls.length<vT∧o.d.fix.length<vT∧o.uses.length<vT∧(∀x∈o.uses,x.cls.length<vT∧x.fix.length<vT)∧TxtL o.clob
 ar:TxtL m.args
 re:m.result.length<vT
 sv:TxtL m.saved
end Go.Ex.M
