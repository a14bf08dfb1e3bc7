/- What the law leans on, part 10 of 24. Conditions: those that each theorem states. -/
import Derived.Test.YtdiejolnllipnaaGreatDoorMachPrintsx8
import Derived.Test.YtdiejolnllipnaaGreatDoorProg
import Derived.KernelRfl

set_option linter.unusedVariables false
set_option linter.unusedSimpArgs false
namespace Go.Proofs.YtdiejolnllipnaaGreatDoor
open Go.Ex
set_option maxRecDepth 100000
set_option maxHeartbeats 80000000
section
noncomputable abbrev P:=Tryz.prog
theorem prog_ok:xC 8 P=true:=by decide +kernel
theorem mixed:P.follows .mixedOrders=true:=by decide +kernel
instance:Fit P 8:=⟨prog_ok,mixed⟩
end
section
set_option maxRecDepth 1000000
instance i1:BoC P 2 Tryz.f2:=⟨λc h=>by cases h;kernel_rfl⟩
instance i2:BoC P 3 Tryz.f3:=⟨λc h=>by cases h;kernel_rfl⟩
instance i3:BoC P 4 Tryz.f4:=⟨λc h=>by cases h;kernel_rfl⟩
instance i4:BoC P 5 Tryz.f5:=⟨λc h=>by cases h;kernel_rfl⟩
instance i5:BoC P 6 Tryz.f6:=⟨λc h=>by cases h;kernel_rfl⟩
instance i6:BoC P 7 Tryz.f7:=⟨λc h=>by cases h;kernel_rfl⟩
instance i7:BoC P 8 Tryz.f8:=⟨λc h=>by cases h;kernel_rfl⟩
instance i8:BoC P 9 Tryz.f9:=⟨λc h=>by cases h;kernel_rfl⟩
instance i9:BoC P 10 Tryz.f10:=⟨λc h=>by cases h;kernel_rfl⟩
instance i10:BoC P 11 Tryz.f11:=⟨λc h=>by cases h;kernel_rfl⟩
instance i11:BoC P 12 Tryz.f12:=⟨λc h=>by cases h;kernel_rfl⟩
instance i12:BoC P 13 Tryz.f13:=⟨λc h=>by cases h;kernel_rfl⟩
instance i13:BoC P 14 Tryz.f14:=⟨λc h=>by cases h;kernel_rfl⟩
instance i14:BoC P 15 Tryz.f15:=⟨λc h=>by cases h;kernel_rfl⟩
instance i15:BoC P 16 Tryz.f16:=⟨λc h=>by cases h;kernel_rfl⟩
instance i16:BoC P 17 Tryz.f17:=⟨λc h=>by cases h;kernel_rfl⟩
instance i17:BoC P 18 Tryz.f18:=⟨λc h=>by cases h;kernel_rfl⟩
instance i18:BoC P 19 Tryz.f19:=⟨λc h=>by cases h;kernel_rfl⟩
instance i19:BoC P 20 Tryz.f20:=⟨λc h=>by cases h;kernel_rfl⟩
instance i20:BoC P 21 Tryz.f21:=⟨λc h=>by cases h;kernel_rfl⟩
instance i21:BoC P 22 Tryz.f22:=⟨λc h=>by cases h;kernel_rfl⟩
instance i23:BoC P 24 Tryz.f24:=⟨λc h=>by cases h;kernel_rfl⟩
instance i25:BoC P 26 Tryz.f26:=⟨λc h=>by cases h;kernel_rfl⟩
instance i26:BoC P 27 Tryz.f27:=⟨λc h=>by cases h;kernel_rfl⟩
instance i27:BoC P 28 Tryz.f28:=⟨λc h=>by cases h;kernel_rfl⟩
instance i28:BoC P 29 Tryz.f29:=⟨λc h=>by cases h;kernel_rfl⟩
instance i29:BoC P 30 Tryz.f30:=⟨λc h=>by cases h;kernel_rfl⟩
instance i30:BoC P 31 Tryz.f31:=⟨λc h=>by cases h;kernel_rfl⟩
instance i31:BoC P 32 Tryz.f32:=⟨λc h=>by cases h;kernel_rfl⟩
instance i32:BoC P 33 Tryz.f33:=⟨λc h=>by cases h;kernel_rfl⟩
instance i33:BoC P 34 Tryz.f34:=⟨λc h=>by cases h;kernel_rfl⟩
instance i34:BoC P 35 Tryz.f35:=⟨λc h=>by cases h;kernel_rfl⟩
instance i35:BoC P 36 Tryz.f36:=⟨λc h=>by cases h;kernel_rfl⟩
instance i36:BoC P 37 Tryz.f37:=⟨λc h=>by cases h;kernel_rfl⟩
instance i37:BoC P 38 Tryz.f38:=⟨λc h=>by cases h;kernel_rfl⟩
instance i38:BoC P 39 Tryz.f39:=⟨λc h=>by cases h;kernel_rfl⟩
instance i39:BoC P 40 Tryz.f40:=⟨λc h=>by cases h;kernel_rfl⟩
instance i40:BoC P 41 Tryz.f41:=⟨λc h=>by cases h;kernel_rfl⟩
instance i41:BoC P 42 Tryz.f42:=⟨λc h=>by cases h;kernel_rfl⟩
instance i42:BoC P 43 Tryz.f43:=⟨λc h=>by cases h;kernel_rfl⟩
instance i43:BoC P 44 Tryz.f44:=⟨λc h=>by cases h;kernel_rfl⟩
instance i44:BoC P 45 Tryz.f45:=⟨λc h=>by cases h;kernel_rfl⟩
instance i45:BoC P 46 Tryz.f46:=⟨λc h=>by cases h;kernel_rfl⟩
instance i46:BoC P 47 Tryz.f47:=⟨λc h=>by cases h;kernel_rfl⟩
instance i47:BoC P 48 Tryz.f48:=⟨λc h=>by cases h;kernel_rfl⟩
instance i48:BoC P 49 Tryz.f49:=⟨λc h=>by cases h;kernel_rfl⟩
instance i49:BoC P 50 Tryz.f50:=⟨λc h=>by cases h;kernel_rfl⟩
instance i50:BoC P 51 Tryz.f51:=⟨λc h=>by cases h;kernel_rfl⟩
instance i51:BoC P 52 Tryz.f52:=⟨λc h=>by cases h;kernel_rfl⟩
instance i52:BoC P 53 Tryz.f53:=⟨λc h=>by cases h;kernel_rfl⟩
instance i53:BoC P 54 Tryz.f54:=⟨λc h=>by cases h;kernel_rfl⟩
instance i54:BoC P 55 Tryz.f55:=⟨λc h=>by cases h;kernel_rfl⟩
instance i55:BoC P 56 Tryz.f56:=⟨λc h=>by cases h;kernel_rfl⟩
instance i56:BoC P 57 Tryz.f57:=⟨λc h=>by cases h;kernel_rfl⟩
instance i57:BoC P 58 Tryz.f58:=⟨λc h=>by cases h;kernel_rfl⟩
instance i61:BoC P 62 Tryz.f62:=⟨λc h=>by cases h;kernel_rfl⟩
instance i62:BoC P 63 Tryz.f63:=⟨λc h=>by cases h;kernel_rfl⟩
instance i63:BoC P 64 Tryz.f64:=⟨λc h=>by cases h;kernel_rfl⟩
instance i64:BoC P 65 Tryz.f65:=⟨λc h=>by cases h;kernel_rfl⟩
instance i65:BoC P 66 Tryz.f66:=⟨λc h=>by cases h;kernel_rfl⟩
instance i66:BoC P 67 Tryz.f67:=⟨λc h=>by cases h;kernel_rfl⟩
instance i67:BoC P 68 Tryz.f68:=⟨λc h=>by cases h;kernel_rfl⟩
instance i68:BoC P 69 Tryz.f69:=⟨λc h=>by cases h;kernel_rfl⟩
instance i69:BoC P 70 Tryz.f70:=⟨λc h=>by cases h;kernel_rfl⟩
instance i70:BoC P 71 Tryz.f71:=⟨λc h=>by cases h;kernel_rfl⟩
instance i71:BoC P 72 Tryz.f72:=⟨λc h=>by cases h;kernel_rfl⟩
instance i72:BoC P 73 Tryz.f73:=⟨λc h=>by cases h;kernel_rfl⟩
instance i73:BoC P 74 Tryz.f74:=⟨λc h=>by cases h;kernel_rfl⟩
instance i74:BoC P 75 Tryz.f75:=⟨λc h=>by cases h;kernel_rfl⟩
instance i75:BoC P 76 Tryz.f76:=⟨λc h=>by cases h;kernel_rfl⟩
instance i76:BoC P 77 Tryz.f77:=⟨λc h=>by cases h;kernel_rfl⟩
instance i77:BoC P 78 Tryz.f78:=⟨λc h=>by cases h;kernel_rfl⟩
instance i78:BoC P 79 Tryz.f79:=⟨λc h=>by cases h;kernel_rfl⟩
instance i79:BoC P 80 Tryz.f80:=⟨λc h=>by cases h;kernel_rfl⟩
instance i80:BoC P 81 Tryz.f81:=⟨λc h=>by cases h;kernel_rfl⟩
instance i81:BoC P 82 Tryz.f82:=⟨λc h=>by cases h;kernel_rfl⟩
instance i82:BoC P 83 Tryz.f83:=⟨λc h=>by cases h;kernel_rfl⟩
instance i83:BoC P 84 Tryz.f84:=⟨λc h=>by cases h;kernel_rfl⟩
instance i84:BoC P 85 Tryz.f85:=⟨λc h=>by cases h;kernel_rfl⟩
instance i85:BoC P 86 Tryz.f86:=⟨λc h=>by cases h;kernel_rfl⟩
instance i86:BoC P 87 Tryz.f87:=⟨λc h=>by cases h;kernel_rfl⟩
instance i87:BoC P 88 Tryz.f88:=⟨λc h=>by cases h;kernel_rfl⟩
instance i88:BoC P 89 Tryz.f89:=⟨λc h=>by cases h;kernel_rfl⟩
instance i89:BoC P 90 Tryz.f90:=⟨λc h=>by cases h;kernel_rfl⟩
instance i90:BoC P 91 Tryz.f91:=⟨λc h=>by cases h;kernel_rfl⟩
instance i91:BoC P 92 Tryz.f92:=⟨λc h=>by cases h;kernel_rfl⟩
instance i92:BoC P 93 Tryz.f93:=⟨λc h=>by cases h;kernel_rfl⟩
instance i93:BoC P 94 Tryz.f94:=⟨λc h=>by cases h;kernel_rfl⟩
instance i94:BoC P 95 Tryz.f95:=⟨λc h=>by cases h;kernel_rfl⟩
instance i95:BoC P 96 Tryz.f96:=⟨λc h=>by cases h;kernel_rfl⟩
instance i96:BoC P 97 Tryz.f97:=⟨λc h=>by cases h;kernel_rfl⟩
instance i97:BoC P 98 Tryz.f98:=⟨λc h=>by cases h;kernel_rfl⟩
instance i98:BoC P 99 Tryz.f99:=⟨λc h=>by cases h;kernel_rfl⟩
instance i99:BoC P 100 Tryz.f100:=⟨λc h=>by cases h;kernel_rfl⟩
instance i100:BoC P 101 Tryz.f101:=⟨λc h=>by cases h;kernel_rfl⟩
instance i101:BoC P 102 Tryz.f102:=⟨λc h=>by cases h;kernel_rfl⟩
instance i102:BoC P 103 Tryz.f103:=⟨λc h=>by cases h;kernel_rfl⟩
instance i103:BoC P 104 Tryz.f104:=⟨λc h=>by cases h;kernel_rfl⟩
instance i104:BoC P 105 Tryz.f105:=⟨λc h=>by cases h;kernel_rfl⟩
instance i105:BoC P 106 Tryz.f106:=⟨λc h=>by cases h;kernel_rfl⟩
instance i106:BoC P 107 Tryz.f107:=⟨λc h=>by cases h;kernel_rfl⟩
instance i107:BoC P 108 Tryz.f108:=⟨λc h=>by cases h;kernel_rfl⟩
instance i108:BoC P 109 Tryz.f109:=⟨λc h=>by cases h;kernel_rfl⟩
instance i109:BoC P 110 Tryz.f110:=⟨λc h=>by cases h;kernel_rfl⟩
instance i110:BoC P 111 Tryz.f111:=⟨λc h=>by cases h;kernel_rfl⟩
instance i111:BoC P 112 Tryz.f112:=⟨λc h=>by cases h;kernel_rfl⟩
instance i112:BoC P 113 Tryz.f113:=⟨λc h=>by cases h;kernel_rfl⟩
instance i113:BoC P 114 Tryz.f114:=⟨λc h=>by cases h;kernel_rfl⟩
instance i114:BoC P 115 Tryz.f115:=⟨λc h=>by cases h;kernel_rfl⟩
instance i115:BoC P 116 Tryz.f116:=⟨λc h=>by cases h;kernel_rfl⟩
instance i116:BoC P 117 Tryz.f117:=⟨λc h=>by cases h;kernel_rfl⟩
instance i119:BoC P 121 Tryz.f121:=⟨λc h=>by cases h;kernel_rfl⟩
instance i120:BoC P 122 Tryz.f122:=⟨λc h=>by cases h;kernel_rfl⟩
instance i121:BoC P 123 Tryz.f123:=⟨λc h=>by cases h;kernel_rfl⟩
instance i122:BoC P 124 Tryz.f124:=⟨λc h=>by cases h;kernel_rfl⟩
instance i123:BoC P 125 Tryz.f125:=⟨λc h=>by cases h;kernel_rfl⟩
instance i124:BoC P 126 Tryz.f126:=⟨λc h=>by cases h;kernel_rfl⟩
instance i125:BoC P 127 Tryz.f127:=⟨λc h=>by cases h;kernel_rfl⟩
instance i126:BoC P 128 Tryz.f128:=⟨λc h=>by cases h;kernel_rfl⟩
instance i127:BoC P 129 Tryz.f129:=⟨λc h=>by cases h;kernel_rfl⟩
instance i128:BoC P 130 Tryz.f130:=⟨λc h=>by cases h;kernel_rfl⟩
instance i129:BoC P 131 Tryz.f131:=⟨λc h=>by cases h;kernel_rfl⟩
instance i130:BoC P 132 Tryz.f132:=⟨λc h=>by cases h;kernel_rfl⟩
instance i131:BoC P 133 Tryz.f133:=⟨λc h=>by cases h;kernel_rfl⟩
instance i133:BoC P 135 Tryz.f135:=⟨λc h=>by cases h;kernel_rfl⟩
instance i134:BoC P 136 Tryz.f136:=⟨λc h=>by cases h;kernel_rfl⟩
instance i135:BoC P 137 Tryz.f137:=⟨λc h=>by cases h;kernel_rfl⟩
instance i136:BoC P 138 Tryz.f138:=⟨λc h=>by cases h;kernel_rfl⟩
instance i137:BoC P 139 Tryz.f139:=⟨λc h=>by cases h;kernel_rfl⟩
instance i138:BoC P 140 Tryz.f140:=⟨λc h=>by cases h;kernel_rfl⟩
instance i139:BoC P 141 Tryz.f141:=⟨λc h=>by cases h;kernel_rfl⟩
instance i140:BoC P 142 Tryz.f142:=⟨λc h=>by cases h;kernel_rfl⟩
instance i141:BoC P 143 Tryz.f143:=⟨λc h=>by cases h;kernel_rfl⟩
instance i142:BoC P 144 Tryz.f144:=⟨λc h=>by cases h;kernel_rfl⟩
instance i143:BoC P 145 Tryz.f145:=⟨λc h=>by cases h;kernel_rfl⟩
instance i144:BoC P 146 Tryz.f146:=⟨λc h=>by cases h;kernel_rfl⟩
instance i145:BoC P 147 Tryz.f147:=⟨λc h=>by cases h;kernel_rfl⟩
instance i146:BoC P 148 Tryz.f148:=⟨λc h=>by cases h;kernel_rfl⟩
instance i147:BoC P 149 Tryz.f149:=⟨λc h=>by cases h;kernel_rfl⟩
instance i148:BoC P 150 Tryz.f150:=⟨λc h=>by cases h;kernel_rfl⟩
instance i149:BoC P 151 Tryz.f151:=⟨λc h=>by cases h;kernel_rfl⟩
instance i150:BoC P 152 Tryz.f152:=⟨λc h=>by cases h;kernel_rfl⟩
instance i151:BoC P 153 Tryz.f153:=⟨λc h=>by cases h;kernel_rfl⟩
instance i152:BoC P 154 Tryz.f154:=⟨λc h=>by cases h;kernel_rfl⟩
instance i153:BoC P 155 Tryz.f155:=⟨λc h=>by cases h;kernel_rfl⟩
instance i154:BoC P 156 Tryz.f156:=⟨λc h=>by cases h;kernel_rfl⟩
instance i155:BoC P 157 Tryz.f157:=⟨λc h=>by cases h;kernel_rfl⟩
instance i156:BoC P 158 Tryz.f158:=⟨λc h=>by cases h;kernel_rfl⟩
instance i157:BoC P 159 Tryz.f159:=⟨λc h=>by cases h;kernel_rfl⟩
instance i158:BoC P 160 Tryz.f160:=⟨λc h=>by cases h;kernel_rfl⟩
instance i159:BoC P 161 Tryz.f161:=⟨λc h=>by cases h;kernel_rfl⟩
instance i160:BoC P 162 Tryz.f162:=⟨λc h=>by cases h;kernel_rfl⟩
instance i161:BoC P 163 Tryz.f163:=⟨λc h=>by cases h;kernel_rfl⟩
instance i162:BoC P 164 Tryz.f164:=⟨λc h=>by cases h;kernel_rfl⟩
instance i163:BoC P 165 Tryz.f165:=⟨λc h=>by cases h;kernel_rfl⟩
instance i164:BoC P 166 Tryz.f166:=⟨λc h=>by cases h;kernel_rfl⟩
instance i165:BoC P 167 Tryz.f167:=⟨λc h=>by cases h;kernel_rfl⟩
instance i166:BoC P 168 Tryz.f168:=⟨λc h=>by cases h;kernel_rfl⟩
instance i167:BoC P 169 Tryz.f169:=⟨λc h=>by cases h;kernel_rfl⟩
instance i168:BoC P 170 Tryz.f170:=⟨λc h=>by cases h;kernel_rfl⟩
instance i169:BoC P 171 Tryz.f171:=⟨λc h=>by cases h;kernel_rfl⟩
instance i170:BoC P 172 Tryz.f172:=⟨λc h=>by cases h;kernel_rfl⟩
instance i171:BoC P 173 Tryz.f173:=⟨λc h=>by cases h;kernel_rfl⟩
instance i172:BoC P 174 Tryz.f174:=⟨λc h=>by cases h;kernel_rfl⟩
instance i173:BoC P 176 Tryz.f176:=⟨λc h=>by cases h;kernel_rfl⟩
instance i175:BoC P 178 Tryz.f178:=⟨λc h=>by cases h;kernel_rfl⟩
instance i178:BoC P 181 Tryz.f181:=⟨λc h=>by cases h;kernel_rfl⟩
instance i179:BoC P 182 Tryz.f182:=⟨λc h=>by cases h;kernel_rfl⟩
instance i183:BoC P 186 Tryz.f186:=⟨λc h=>by cases h;kernel_rfl⟩
instance i184:BoC P 187 Tryz.f187:=⟨λc h=>by cases h;kernel_rfl⟩
instance i185:BoC P 188 Tryz.f188:=⟨λc h=>by cases h;kernel_rfl⟩
instance i186:BoC P 189 Tryz.f189:=⟨λc h=>by cases h;kernel_rfl⟩
instance i187:BoC P 190 Tryz.f190:=⟨λc h=>by cases h;kernel_rfl⟩
instance i188:BoC P 191 Tryz.f191:=⟨λc h=>by cases h;kernel_rfl⟩
instance i189:BoC P 192 Tryz.f192:=⟨λc h=>by cases h;kernel_rfl⟩
instance i190:BoC P 193 Tryz.f193:=⟨λc h=>by cases h;kernel_rfl⟩
instance i191:BoC P 194 Tryz.f194:=⟨λc h=>by cases h;kernel_rfl⟩
instance i192:BoC P 195 Tryz.f195:=⟨λc h=>by cases h;kernel_rfl⟩
instance i193:BoC P 196 Tryz.f196:=⟨λc h=>by cases h;kernel_rfl⟩
instance i194:BoC P 197 Tryz.f197:=⟨λc h=>by cases h;kernel_rfl⟩
instance i195:BoC P 198 Tryz.f198:=⟨λc h=>by cases h;kernel_rfl⟩
instance i196:BoC P 199 Tryz.f199:=⟨λc h=>by cases h;kernel_rfl⟩
instance i197:BoC P 200 Tryz.f200:=⟨λc h=>by cases h;kernel_rfl⟩
instance i198:BoC P 201 Tryz.f201:=⟨λc h=>by cases h;kernel_rfl⟩
instance i199:BoC P 202 Tryz.f202:=⟨λc h=>by cases h;kernel_rfl⟩
instance i207:BoC P 210 Tryz.f210:=⟨λc h=>by cases h;kernel_rfl⟩
instance i210:BoC P 213 Tryz.f213:=⟨λc h=>by cases h;kernel_rfl⟩
instance i211:BoC P 214 Tryz.f214:=⟨λc h=>by cases h;kernel_rfl⟩
instance i212:BoC P 215 Tryz.f215:=⟨λc h=>by cases h;kernel_rfl⟩
instance i213:BoC P 216 Tryz.f216:=⟨λc h=>by cases h;kernel_rfl⟩
instance i214:BoC P 217 Tryz.f217:=⟨λc h=>by cases h;kernel_rfl⟩
instance i215:BoC P 218 Tryz.f218:=⟨λc h=>by cases h;kernel_rfl⟩
instance i216:BoC P 219 Tryz.f219:=⟨λc h=>by cases h;kernel_rfl⟩
instance i232:BoC P 236 Tryz.f236:=⟨λc h=>by cases h;kernel_rfl⟩
instance i233:BoC P 237 Tryz.f237:=⟨λc h=>by cases h;kernel_rfl⟩
instance i241:DrC P 5 1 [0,1,3,68,7,136,11,204,205,14,16,209,210,19,2050,2053,6,2057,10,15,20,21]:=⟨by decide +kernel⟩
instance i242:DrC P 5 5 [0,1,2,3,4,5,6,7,10,75,12,13,14,79,80,17,2056,9,18,19]:=⟨by decide +kernel⟩
instance i243:DrC P 5 10 [0,1,2,3,6,71,72,9,11,12,77,78,15,16,81,82,19,20,22,87,88,2052,5,10,21,25,26]:=⟨by decide +kernel⟩
instance i244:DrC P 5 14 [0,1,2,3,4,5,6,7,8,9,10,11,12,13,14,15,16,17,18]:=⟨by decide +kernel⟩
instance i245:DrC P 6 9 [0,1,2,3,4,5,6,7,8,9,10,11,12,13,14,15,16,17,18,19,20,21,22,23,24]:=⟨by decide +kernel⟩
instance i246:DrC P 9 4 [0,65,2,3,4,5,2054,7,8,9]:=⟨by decide +kernel⟩
instance i247:DrC P 13 12 [0,1,2,3,132,5,6,7,2056,2057,2058,11,12,3085]:=⟨by decide +kernel⟩
instance i248:DrC P 13 13 [0,1,2,3,196,5,6,7,2056,2057,2058,2059,12,13,3086]:=⟨by decide +kernel⟩
instance i249:DrC P 13 22 [0,1,2,3,4,6,7,72,2053,2057,10,11,2060,13,14,3087]:=⟨by decide +kernel⟩
instance i250:DrC P 14 6 [0,1,2,3,4,5,6,7,8,9,10,11,12,13,14]:=⟨by decide +kernel⟩
instance i251:DrC P 15 7 [0,1,2,3,4,69,70,7,8,9,10,11,12,13,14,15,2064,17,18]:=⟨by decide +kernel⟩
instance i252:DrC P 17 11 [0,1,3,4,69,6,7,72,2050,2057,3082,11]:=⟨by decide +kernel⟩
instance i253:DrC P 19 7 [0,1,2,3,4,5,70,7,2056,9,10,3083]:=⟨by decide +kernel⟩
instance i254:DrC P 24 19 [0,1,2,4,5,70,2051,3079,2056,9]:=⟨by decide +kernel⟩
instance i255:DrC P 24 24 [0,1,66,3,4,5,2054,2055,3080,9]:=⟨by decide +kernel⟩
instance i256:DrC P 24 26 [0,1,2,4,5,70,8,9,138,2051,2055,3083,2060,13]:=⟨by decide +kernel⟩
instance i257:DrC P 24 30 [0,1,2,4,5,70,2051,3079,2056,9]:=⟨by decide +kernel⟩
instance i259:DrC P 26 8 [0,1,2,3,4,5,6,7,8,9,10,11,12]:=⟨by decide +kernel⟩
instance i260:DrC P 26 21 [0,1,2,3,4,5,6,7,8,9,10,11,12,13,3086,15]:=⟨by decide +kernel⟩
instance i261:DrC P 28 4 [0,1,66,3,68,5,6,7,2056,9,10]:=⟨by decide +kernel⟩
instance i262:DrC P 28 6 [0,1,2,3,4,5,6,7,8,9,10,11,12]:=⟨by decide +kernel⟩
instance i263:DrC P 28 8 [0,1,2,3,4,5,6,7,8,9]:=⟨by decide +kernel⟩
instance i264:DrC P 28 15 [0,1,2,3,4,5,6,7,8,9,10,11,12]:=⟨by decide +kernel⟩
instance i265:DrC P 28 17 [0,1,2,3,4,5,6,7,8,9,10,11,12,13]:=⟨by decide +kernel⟩
instance i266:DrC P 28 19 [0,65,2,3,4,5,2054,7,8]:=⟨by decide +kernel⟩
instance i267:DrC P 28 24 [0,1,130,3,132,5,6,7,8,12,77,2057,10,11,2062,15,16]:=⟨by decide +kernel⟩
instance i268:DrC P 28 30 [0,1,5,6,71,8,73,2050,3,4,10,11]:=⟨by decide +kernel⟩
instance i269:DrC P 28 31 [0,1,66,3,68,5,6,7,2056,9,10]:=⟨by decide +kernel⟩
instance i270:DrC P 32 3 [0,1,2,3,4,5,6,7,8,9,10,11,12,13]:=⟨by decide +kernel⟩
instance i271:DrC P 32 4 [0,1,2,67,4,2053,2054,7,3080]:=⟨by decide +kernel⟩
instance i272:DrC P 35 6 [0,1,2,3,4,5,6,7,8,9,10]:=⟨by decide +kernel⟩
instance i273:DrC P 35 11 [0,1,2,3,4,5,6,7,8,9,10,11,12,13,3086,15]:=⟨by decide +kernel⟩
instance i274:DrC P 37 2 [0,1,3,68,2050,6,2053,3079,8,3081]:=⟨by decide +kernel⟩
instance i275:DrC P 37 6 [0,65,2,3,4,5,6,7,8,2057,10,11,3084]:=⟨by decide +kernel⟩
instance i276:DrC P 37 11 [0,129,2,3,196,5,6,7,8,9,10,11,13,78,15,16,17,82,2060,2067,20,21,2070,23,24,3097]:=⟨by decide +kernel⟩
instance i277:DrC P 37 13 [0,1,3,68,2050,6,2053,3079,8,3081]:=⟨by decide +kernel⟩
instance i278:DrC P 38 6 [0,1,2,3,68,5,6,71,2056,3081,3082]:=⟨by decide +kernel⟩
instance i279:DrC P 41 8 [0,1,2,3,4,5,6,7,8,9,3082]:=⟨by decide +kernel⟩
instance i280:DrC P 42 10 [0,1,2,3,132,5,2054,2055,2056,9,10,3083]:=⟨by decide +kernel⟩
instance i281:DrC P 43 3 [0,1,2,3,132,5,6,7,2056,2057,2058,11,12,3085]:=⟨by decide +kernel⟩
instance i282:DrC P 43 8 [13,0,1,2,3,4,5,6,7,8,9,10,11,12,3086]:=⟨by decide +kernel⟩
instance i283:DrC P 43 10 [0,1,2,3,4,5,6,2055,3080,3081]:=⟨by decide +kernel⟩
instance i284:DrC P 43 15 [0,1,2,3,4,5,6,7,3080,3081]:=⟨by decide +kernel⟩
instance i285:DrC P 44 9 [64,1,2050,3,4,3077]:=⟨by decide +kernel⟩
instance i286:DrC P 48 1 [0,1,2,3,4,5,6,7,8,9,10,11,12,13,14,15,16,17,18,19,20,21,22,23,24,25,26,27,28,29,30,31,32,33,34,35,36,37,38,3111,40,41]:=⟨by decide +kernel⟩
instance i287:DrC P 52 14 [0,1,2,3,4,5,6,7,8,3081,10]:=⟨by decide +kernel⟩
instance i288:DrC P 52 17 [0,1,2,3,4,5,6,7,9,74,2056,11,76,13]:=⟨by decide +kernel⟩
instance i289:DrC P 53 9 [0,1,2,3,4,5,6,7,8,9,10,11,12,13,14,15,16,17,18,19,20,3093,22]:=⟨by decide +kernel⟩
instance i290:DrC P 54 5 [0,1,2,67,4,133,2054,2055,3080]:=⟨by decide +kernel⟩
instance i291:DrC P 55 1 [0,1,2,3,4,5,6,7,8,9,10,3083]:=⟨by decide +kernel⟩
instance i292:DrC P 58 6 [64,1,2,3,4,5,6,7,8,2057,10,11,3084]:=⟨by decide +kernel⟩
instance i293:DrC P 58 11 [128,1,2,3,4,5,6,73,10,11,76,13,78,2055,8,2063,16,17,3090]:=⟨by decide +kernel⟩
instance i294:DrC P 58 16 [0,1,2,3,4,5,6,7,8,9,10,11,12,13,3086]:=⟨by decide +kernel⟩
instance i295:DrC P 58 18 [128,1,2,3,2052,5,6,7,72,2057,10,3083]:=⟨by decide +kernel⟩
instance i296:DrC P 58 20 [64,1,2,3,2052,3077]:=⟨by decide +kernel⟩
instance i298:DrC P 63 1 [0,1,2,3,4,5,6,7,8,9,10]:=⟨by decide +kernel⟩
instance i299:DrC P 65 6 [0,1,2,3,4,5,6,7,8,9,10,11,12,13,14,15,16,17]:=⟨by decide +kernel⟩
instance i300:DrC P 65 10 [0,1,2,3,4,5,6,7,8,73,10,2059,76,13,14,15,16,81,18,19,20,85,22,23,24]:=⟨by decide +kernel⟩
instance i301:DrC P 65 19 [0,1,2,3,4,5,6,7,8,9,10,11,12,13,14,15,16]:=⟨by decide +kernel⟩
instance i302:DrC P 65 23 [0,1,2,3,4,5,6,7,8,9,10,11,12,13,14,15,16,17,18]:=⟨by decide +kernel⟩
instance i303:DrC P 65 32 [0,1,2,3,4,5,6,7,8,9,10,11,12,13,14,15]:=⟨by decide +kernel⟩
instance i304:DrC P 75 3 [0,1,2,3,4,5,6,7,8,9,10]:=⟨by decide +kernel⟩
instance i305:DrC P 75 4 [0,1,2,67,4,5,6,71,8,73,10,2059,3084]:=⟨by decide +kernel⟩
instance i306:DrC P 75 2 [0,1,2,67,4,2053,3078]:=⟨by decide +kernel⟩
instance i307:DrC P 80 4 [0,1,3074,3,4,5,70,8,2055,9,10,11,12,13,14,143,16,145,3090,19,20,3093]:=⟨by decide +kernel⟩
instance i308:DrC P 80 10 [0,1,2,4,2051,5,6,7,8,9,138,11,12,13,142,15,16,2065,18,19,3092]:=⟨by decide +kernel⟩
instance i309:DrC P 82 1 [77,0,1,2,67,4,5,6,7,8,9,2058,11,76,3086]:=⟨by decide +kernel⟩
instance i310:DrC P 82 8 [0,1,2,3,4,6,7,8,9,74,75,14,2053,2060,141]:=⟨by decide +kernel⟩
instance i311:DrC P 89 5 [0,129,2050,2051,3076]:=⟨by decide +kernel⟩
instance i312:DrC P 91 3 [0,1,2,3,4,5,6,7,8,9,10,11,12]:=⟨by decide +kernel⟩
instance i313:DrC P 91 5 [0,1,2,3,4,5,6,7,8,9,3082]:=⟨by decide +kernel⟩
instance i314:DrC P 91 6 [0,1,2,3,4,5,6,7,8]:=⟨by decide +kernel⟩
instance i315:DrC P 91 7 [11,0,1,2,3,4,5,6,7,8,9,10,3084]:=⟨by decide +kernel⟩
instance i316:DrC P 91 12 [0,1,2,3,4,5,6,7,8,9,10,11,12,3085]:=⟨by decide +kernel⟩
instance i317:DrC P 91 13 [0,1,2,3,4,5,6,7,8,73,10,11,76,13,14,2063,16,3089]:=⟨by decide +kernel⟩
instance i318:DrC P 91 19 [0,1,2,3,68,5,2054,2055,8,9,3082]:=⟨by decide +kernel⟩
instance i319:DrC P 91 20 [0,1,2,3,4,5,6,7,8,9,10,11,3084]:=⟨by decide +kernel⟩
instance i320:DrC P 91 21 [0,1,2,3,4,5,6,7,8,9,11,12,13,78,79,80,2058,2065,18,19,2068,21,22,3095]:=⟨by decide +kernel⟩
instance i321:DrC P 91 22 [0,1,2,3,68,5,6,2055,2056,9,10,3083]:=⟨by decide +kernel⟩
instance i322:DrC P 95 1 [0,1,2,3,4,5,6,7,3080,9]:=⟨by decide +kernel⟩
instance i323:DrC P 99 4 [0,1,2,3,4,5,6]:=⟨by decide +kernel⟩
instance i324:DrC P 99 5 [0,1,2,3,4,5,6,7,8,9,10]:=⟨by decide +kernel⟩
instance i325:DrC P 100 17 [0,1,2,3,4,3077,6,7,8,9,10,11,12,13,78,15,16,17,82,19,20,21,86,23,24,89,26,27,92,29,30,31]:=⟨by decide +kernel⟩
instance i326:DrC P 101 22 [0,1,2,3,4,5,6,7,10,11,12,13,142,2056,2057,2063,3088,17]:=⟨by decide +kernel⟩
instance i327:DrC P 101 25 [0,1,2,3,4,5,6,7,8,9,10,11,12,13,14,15,16,17,18,19,20,21,22,23,24,25,26,27,28]:=⟨by decide +kernel⟩
instance i328:DrC P 111 4 [0,1,2,3,4,5,3078,7,8,9,10,11]:=⟨by decide +kernel⟩
instance i329:DrC P 111 5 [0,1,2,3,68,69,6,7,8,9,10,2059,12,13,3086]:=⟨by decide +kernel⟩
instance i330:DrC P 111 7 [0,1,2,2051,4,5,70,7,8,9,10,139,12,13,14,79,2064,145,18,19,20,21,150,23,24,25,154,27,28,29,3102]:=⟨by decide +kernel⟩
instance i331:DrC P 112 7 [0,1,2,3,4,5,6,7]:=⟨by decide +kernel⟩
instance i332:DrC P 112 9 [0,1,3,68,2050,5,6]:=⟨by decide +kernel⟩
instance i333:DrC P 112 11 [0,1,2,3,5,2052,6]:=⟨by decide +kernel⟩
instance i334:DrC P 112 14 [0,1,3,2050,4]:=⟨by decide +kernel⟩
instance i335:DrC P 117 1 [0,1,2,3,4,5,3078,7,8,9,10,11]:=⟨by decide +kernel⟩
instance i336:DrC P 117 2 [0,1,2,3,4,5,6,7,2056,3081]:=⟨by decide +kernel⟩
instance i337:DrC P 117 9 [0,1,2,3,4,5,6,7,8,9,10,11,12,3085]:=⟨by decide +kernel⟩
instance i339:DrC P 126 4 [0,1,2,3]:=⟨by decide +kernel⟩
instance i340:DrC P 126 7 [0,1,3,68,2050,5,6]:=⟨by decide +kernel⟩
instance i341:DrC P 126 9 [0,1,3,68,2050,5,6]:=⟨by decide +kernel⟩
instance i342:DrC P 131 18 [0,65,2,3,4,5,2054,7,3080]:=⟨by decide +kernel⟩
instance i343:DrC P 132 1 [0,1,2,67,4,5,6,7,2056,3081,10,11,12,13,14]:=⟨by decide +kernel⟩
instance i344:DrC P 137 6 [0,1,2,3,4,5,6,7,8]:=⟨by decide +kernel⟩
instance i345:DrC P 145 1 [0,1,2,67,4,5,6,7,8,9,10,11,12,13,14,15,2064,17,18,83,20]:=⟨by decide +kernel⟩
instance i346:DrC P 146 1 [0,1,3074,3,4,5,6,7,8,73,10,75,13,2060,14,15,3088]:=⟨by decide +kernel⟩
instance i347:DrC P 146 2 [0,65,66,3,4,2053,6,3079]:=⟨by decide +kernel⟩
instance i348:DrC P 146 10 [0,1,2,3,4,5,6,7,8,9,10,11,12,13,3086]:=⟨by decide +kernel⟩
instance i349:DrC P 147 6 [73,0,1,2,67,4,5,2054,7,72,3082]:=⟨by decide +kernel⟩
instance i350:DrC P 151 1 [0,1,2,3,4,5,6,7,8,9,10,3083]:=⟨by decide +kernel⟩
instance i351:DrC P 151 3 [0,1,2,3,4,5,6,7,8,9,10,3083]:=⟨by decide +kernel⟩
instance i352:DrC P 160 13 [0,1,2,3,4,5,6,7,8,3081,10,11,12]:=⟨by decide +kernel⟩
instance i353:DrC P 160 22 [0,1,2,3,4,3077,6]:=⟨by decide +kernel⟩
instance i354:DrC P 160 26 [0,1,2,3,68,5,6,2055,2056,9,10,3083]:=⟨by decide +kernel⟩
instance i355:DrC P 160 27 [0,1,2,3,68,5,2054,2055,8,9,3082]:=⟨by decide +kernel⟩
instance i356:DrC P 164 3 [0,1,2,3,4,5,6,7,8,9,10,11,12,13,14,15,16]:=⟨by decide +kernel⟩
instance i365:DrC P 192 3 [0,1,2,3,4,5,6,7,8,9,10,11,12,13,14,3087,16,3089]:=⟨by decide +kernel⟩
instance i366:DrC P 195 2 [0,1,2,3,4,5,6,3079,3080]:=⟨by decide +kernel⟩
instance i367:DrC P 214 1 [0,1,67,2050,4,5]:=⟨by decide +kernel⟩
instance i368:DrC P 216 1 [0,1,67,2050,4,5]:=⟨by decide +kernel⟩
instance i369:DrC P 217 1 [0,1,2,3,4,3077]:=⟨by decide +kernel⟩
instance i370:DrC P 217 5 [0,1,2,3,4,3077]:=⟨by decide +kernel⟩
instance i371:DrC P 218 4 [64,1,2,3,68,5,6,2055,8,73,3082]:=⟨by decide +kernel⟩
instance i372:DrC P 219 0 [64,1,2,3,68,5,6,7,13,2056,9,10,75,76]:=⟨by decide +kernel⟩
instance i373:DrC P 219 3 [0,1,2,3,4,5,6,7,8,9,10,75,12,13,78,15,16,2065,18,83,3092,21,22]:=⟨by decide +kernel⟩
instance i376:ShC P 1 .scal:=⟨by kernel_rfl⟩
instance i377:ShC P 3 .scal:=⟨by kernel_rfl⟩
instance i378:ShC P 4 .scal:=⟨by kernel_rfl⟩
instance i380:ShC P 9 .scal:=⟨by kernel_rfl⟩
instance i381:ShC P 22 .scal:=⟨by kernel_rfl⟩
instance i382:ShC P 23 .scal:=⟨by kernel_rfl⟩
instance i383:ShC P 24 .scal:=⟨by kernel_rfl⟩
instance i384:ShC P 25 .scal:=⟨by kernel_rfl⟩
instance i385:ShC P 27 (.agg 8):=⟨by kernel_rfl⟩
instance i386:ShC P 28 .scal:=⟨by kernel_rfl⟩
instance i387:ShC P 30 (.agg 3):=⟨by kernel_rfl⟩
instance i388:ShC P 34 .scal:=⟨by kernel_rfl⟩
instance i389:ShC P 40 .scal:=⟨by kernel_rfl⟩
instance i390:ShC P 49 .scal:=⟨by kernel_rfl⟩
instance i391:ShC P 51 (.agg 9):=⟨by kernel_rfl⟩
instance i392:ShC P 52 .scal:=⟨by kernel_rfl⟩
instance i393:ShC P 56 (.agg 2):=⟨by kernel_rfl⟩
instance i394:ShC P 58 (.agg 2):=⟨by kernel_rfl⟩
instance i395:ShC P 59 .scal:=⟨by kernel_rfl⟩
instance i396:ShC P 61 (.agg 6):=⟨by kernel_rfl⟩
instance i398:ShC P 67 .scal:=⟨by kernel_rfl⟩
instance i400:ShC P 83 .scal:=⟨by kernel_rfl⟩
instance i401:ShC P 86 .scal:=⟨by kernel_rfl⟩
instance i402:ShC P 87 .scal:=⟨by kernel_rfl⟩
instance i403:ShC P 88 .scal:=⟨by kernel_rfl⟩
instance i404:ShC P 97 .scal:=⟨by kernel_rfl⟩
instance i405:ShC P 98 .scal:=⟨by kernel_rfl⟩
instance i406:ShC P 99 .scal:=⟨by kernel_rfl⟩
instance i407:ShC P 100 .scal:=⟨by kernel_rfl⟩
instance i408:ShC P 101 .scal:=⟨by kernel_rfl⟩
instance i409:ShC P 102 .scal:=⟨by kernel_rfl⟩
instance i410:ShC P 103 .scal:=⟨by kernel_rfl⟩
instance i411:ShC P 105 (.agg 1):=⟨by kernel_rfl⟩
instance i412:ShC P 114 (.agg 4):=⟨by kernel_rfl⟩
instance i413:ShC P 125 (.agg 3):=⟨by kernel_rfl⟩
instance i414:ShC P 127 .scal:=⟨by kernel_rfl⟩
instance i415:ShC P 144 .scal:=⟨by kernel_rfl⟩
instance i416:ShC P 154 (.agg 1):=⟨by kernel_rfl⟩
instance i417:ShC P 156 .scal:=⟨by kernel_rfl⟩
instance i418:ShC P 158 (.agg 3):=⟨by kernel_rfl⟩
instance i419:ShC P 161 .scal:=⟨by kernel_rfl⟩
instance i420:ShC P 168 (.agg 5):=⟨by kernel_rfl⟩
instance i421:ShC P 170 .scal:=⟨by kernel_rfl⟩
instance i423:ShC P 205 (.agg 1):=⟨by kernel_rfl⟩
instance i424:ShC P 242 .scal:=⟨by kernel_rfl⟩
instance i425:ShC P 244 .scal:=⟨by kernel_rfl⟩
instance i427:ShC P 268 .scal:=⟨by kernel_rfl⟩
instance i432:OfC P 27 0 0:=⟨by kernel_rfl⟩
instance i433:OfC P 27 1 1:=⟨by kernel_rfl⟩
instance i434:OfC P 27 2 2:=⟨by kernel_rfl⟩
instance i435:OfC P 27 3 3:=⟨by kernel_rfl⟩
instance i436:OfC P 27 4 4:=⟨by kernel_rfl⟩
instance i437:OfC P 27 5 5:=⟨by kernel_rfl⟩
instance i438:OfC P 27 6 6:=⟨by kernel_rfl⟩
instance i439:OfC P 27 7 7:=⟨by kernel_rfl⟩
instance i440:OfC P 30 0 0:=⟨by kernel_rfl⟩
instance i441:OfC P 30 1 1:=⟨by kernel_rfl⟩
instance i442:OfC P 30 2 2:=⟨by kernel_rfl⟩
instance i443:OfC P 51 0 0:=⟨by kernel_rfl⟩
instance i444:OfC P 51 1 1:=⟨by kernel_rfl⟩
instance i445:OfC P 51 2 2:=⟨by kernel_rfl⟩
instance i446:OfC P 51 3 3:=⟨by kernel_rfl⟩
instance i447:OfC P 51 4 4:=⟨by kernel_rfl⟩
instance i448:OfC P 51 5 5:=⟨by kernel_rfl⟩
instance i449:OfC P 51 6 6:=⟨by kernel_rfl⟩
instance i450:OfC P 51 7 7:=⟨by kernel_rfl⟩
instance i451:OfC P 51 8 8:=⟨by kernel_rfl⟩
instance i452:OfC P 56 0 0:=⟨by kernel_rfl⟩
instance i453:OfC P 56 1 1:=⟨by kernel_rfl⟩
instance i454:OfC P 58 0 0:=⟨by kernel_rfl⟩
instance i455:OfC P 58 1 1:=⟨by kernel_rfl⟩
instance i456:OfC P 61 0 0:=⟨by kernel_rfl⟩
instance i457:OfC P 61 1 1:=⟨by kernel_rfl⟩
instance i458:OfC P 61 2 3:=⟨by kernel_rfl⟩
instance i459:OfC P 61 3 4:=⟨by kernel_rfl⟩
instance i460:OfC P 61 4 5:=⟨by kernel_rfl⟩
instance i462:OfC P 69 1 1:=⟨by kernel_rfl⟩
instance i463:OfC P 85 0 0:=⟨by kernel_rfl⟩
instance i464:OfC P 85 1 1:=⟨by kernel_rfl⟩
instance i465:OfC P 85 2 4:=⟨by kernel_rfl⟩
instance i466:OfC P 90 0 0:=⟨by kernel_rfl⟩
instance i467:OfC P 90 1 1:=⟨by kernel_rfl⟩
instance i468:OfC P 90 2 2:=⟨by kernel_rfl⟩
instance i469:OfC P 90 3 3:=⟨by kernel_rfl⟩
instance i470:OfC P 90 4 4:=⟨by kernel_rfl⟩
instance i471:OfC P 90 5 5:=⟨by kernel_rfl⟩
instance i472:OfC P 105 0 0:=⟨by kernel_rfl⟩
instance i473:OfC P 107 0 0:=⟨by kernel_rfl⟩
instance i474:OfC P 107 1 8:=⟨by kernel_rfl⟩
instance i475:OfC P 107 2 9:=⟨by kernel_rfl⟩
instance i476:OfC P 107 3 10:=⟨by kernel_rfl⟩
instance i477:OfC P 107 4 11:=⟨by kernel_rfl⟩
instance i478:OfC P 107 5 12:=⟨by kernel_rfl⟩
instance i479:OfC P 107 6 13:=⟨by kernel_rfl⟩
instance i480:OfC P 107 7 14:=⟨by kernel_rfl⟩
instance i481:OfC P 107 8 15:=⟨by kernel_rfl⟩
instance i482:OfC P 107 9 16:=⟨by kernel_rfl⟩
instance i483:OfC P 107 10 17:=⟨by kernel_rfl⟩
instance i484:OfC P 107 11 18:=⟨by kernel_rfl⟩
instance i485:OfC P 107 12 19:=⟨by kernel_rfl⟩
instance i486:OfC P 107 13 20:=⟨by kernel_rfl⟩
instance i487:OfC P 114 0 0:=⟨by kernel_rfl⟩
instance i488:OfC P 114 1 1:=⟨by kernel_rfl⟩
instance i489:OfC P 114 2 2:=⟨by kernel_rfl⟩
instance i490:OfC P 114 3 3:=⟨by kernel_rfl⟩
instance i491:OfC P 122 0 0:=⟨by kernel_rfl⟩
instance i492:OfC P 122 1 8:=⟨by kernel_rfl⟩
instance i493:OfC P 122 2 9:=⟨by kernel_rfl⟩
instance i494:OfC P 122 3 10:=⟨by kernel_rfl⟩
instance i495:OfC P 125 0 0:=⟨by kernel_rfl⟩
instance i496:OfC P 125 1 1:=⟨by kernel_rfl⟩
instance i497:OfC P 125 2 2:=⟨by kernel_rfl⟩
instance i498:OfC P 129 0 0:=⟨by kernel_rfl⟩
instance i499:OfC P 129 1 1:=⟨by kernel_rfl⟩
instance i500:OfC P 129 2 4:=⟨by kernel_rfl⟩
instance i501:OfC P 129 3 5:=⟨by kernel_rfl⟩
instance i502:OfC P 146 0 0:=⟨by kernel_rfl⟩
instance i503:OfC P 146 1 8:=⟨by kernel_rfl⟩
instance i504:OfC P 146 2 9:=⟨by kernel_rfl⟩
instance i505:OfC P 154 0 0:=⟨by kernel_rfl⟩
instance i506:OfC P 158 0 0:=⟨by kernel_rfl⟩
instance i507:OfC P 158 1 1:=⟨by kernel_rfl⟩
instance i508:OfC P 158 2 2:=⟨by kernel_rfl⟩
instance i509:OfC P 160 0 0:=⟨by kernel_rfl⟩
instance i510:OfC P 160 1 3:=⟨by kernel_rfl⟩
instance i511:OfC P 163 0 0:=⟨by kernel_rfl⟩
instance i512:OfC P 163 1 1:=⟨by kernel_rfl⟩
instance i513:OfC P 163 2 2:=⟨by kernel_rfl⟩
instance i514:OfC P 163 3 3:=⟨by kernel_rfl⟩
instance i515:OfC P 163 4 4:=⟨by kernel_rfl⟩
instance i516:OfC P 168 0 0:=⟨by kernel_rfl⟩
instance i517:OfC P 168 1 4:=⟨by kernel_rfl⟩
instance i518:OfC P 195 0 0:=⟨by kernel_rfl⟩
instance i520:OfC P 205 0 0:=⟨by kernel_rfl⟩
instance i521:OfC P 224 0 0:=⟨by kernel_rfl⟩
instance i522:OfC P 224 1 1:=⟨by kernel_rfl⟩
instance i523:OfC P 224 2 2:=⟨by kernel_rfl⟩
instance i526:IxC P 22 (.slice 4):=⟨by kernel_rfl⟩
instance i527:IxC P 23 (.slice 2):=⟨by kernel_rfl⟩
instance i528:IxC P 24 (.slice 6):=⟨by kernel_rfl⟩
instance i529:IxC P 25 (.slice 1):=⟨by kernel_rfl⟩
instance i530:IxC P 28 (.slice 1):=⟨by kernel_rfl⟩
instance i531:IxC P 49 (.slice 1):=⟨by kernel_rfl⟩
instance i532:IxC P 52 (.slice 9):=⟨by kernel_rfl⟩
instance i533:IxC P 59 (.slice 2):=⟨by kernel_rfl⟩
instance i535:IxC P 88 (.slice 1):=⟨by kernel_rfl⟩
instance i536:IxC P 97 (.slice 3):=⟨by kernel_rfl⟩
instance i537:IxC P 100 (.slice 1):=⟨by kernel_rfl⟩
instance i538:IxC P 101 (.slice 1):=⟨by kernel_rfl⟩
instance i539:IxC P 102 (.slice 1):=⟨by kernel_rfl⟩
instance i540:IxC P 103 (.slice 1):=⟨by kernel_rfl⟩
instance i541:IxC P 147 (.slice 1):=⟨by kernel_rfl⟩
instance i542:IxC P 161 (.slice 4):=⟨by kernel_rfl⟩
instance i550:SlC P 23 56 2:=⟨by kernel_rfl⟩
instance i551:SlC P 25 9 1:=⟨by kernel_rfl⟩
instance i552:SlC P 49 3 1:=⟨by kernel_rfl⟩
instance i554:SlC P 103 170 1:=⟨by kernel_rfl⟩
instance i555:SlC P 161 160 4:=⟨by kernel_rfl⟩
instance i556:UnC P 4 .bool:=⟨by kernel_rfl⟩
instance i557:UnC P 9 .string:=⟨by kernel_rfl⟩
instance i558:UnC P 22 (.slice 114):=⟨by kernel_rfl⟩
instance i559:UnC P 23 (.slice 56):=⟨by kernel_rfl⟩
instance i560:UnC P 24 (.slice 61):=⟨by kernel_rfl⟩
instance i561:UnC P 25 (.slice 9):=⟨by kernel_rfl⟩
instance i562:UnC P 28 (.slice 52):=⟨by kernel_rfl⟩
instance i563:UnC P 34 (.pointer 107):=⟨by kernel_rfl⟩
instance i564:UnC P 35 (.pointer 122):=⟨by kernel_rfl⟩
instance i565:UnC P 49 (.slice 3):=⟨by kernel_rfl⟩
instance i566:UnC P 52 (.slice 51):=⟨by kernel_rfl⟩
instance i567:UnC P 59 (.slice 58):=⟨by kernel_rfl⟩
instance i570:UnC P 88 (.slice 87):=⟨by kernel_rfl⟩
instance i571:UnC P 97 (.slice 158):=⟨by kernel_rfl⟩
instance i572:UnC P 100 (.slice 105):=⟨by kernel_rfl⟩
instance i573:UnC P 101 (.slice 49):=⟨by kernel_rfl⟩
instance i574:UnC P 102 (.slice 100):=⟨by kernel_rfl⟩
instance i575:UnC P 103 (.slice 170):=⟨by kernel_rfl⟩
instance i577:UnC P 147 (.slice 1):=⟨by kernel_rfl⟩
instance i579:IfC P 20:=⟨by kernel_rfl⟩
instance i582:MsC P 98 (.int .i64 0):=⟨9,3,by kernel_rfl,by kernel_rfl,by kernel_rfl⟩
instance i583:MsC P 99 (.int .i64 0):=⟨9,3,by kernel_rfl,by kernel_rfl,by kernel_rfl⟩
instance i589:IkC P 218 .u64:=⟨by kernel_rfl⟩
instance i591:ApC P 22 22 114 4:=⟨by kernel_rfl⟩
instance i592:ApC P 23 23 56 2:=⟨by kernel_rfl⟩
instance i593:ApC P 24 24 61 6:=⟨by kernel_rfl⟩
instance i594:ApC P 25 25 9 1:=⟨by kernel_rfl⟩
instance i595:ApC P 28 28 52 1:=⟨by kernel_rfl⟩
instance i596:ApC P 49 49 3 1:=⟨by kernel_rfl⟩
instance i597:ApC P 52 52 51 9:=⟨by kernel_rfl⟩
instance i598:ApC P 59 59 58 2:=⟨by kernel_rfl⟩
instance i600:ApC P 97 97 158 3:=⟨by kernel_rfl⟩
instance i601:ApC P 100 100 105 1:=⟨by kernel_rfl⟩
instance i602:ApC P 101 101 49 1:=⟨by kernel_rfl⟩
instance i603:ApC P 102 102 100 1:=⟨by kernel_rfl⟩
instance i604:ApC P 103 103 170 1:=⟨by kernel_rfl⟩
instance i605:ApC P 161 161 160 4:=⟨by kernel_rfl⟩
instance i607:PlC P 3:=⟨by kernel_rfl⟩
instance i612:PlC P 125:=⟨by kernel_rfl⟩
instance i613:PlC P 154:=⟨by kernel_rfl⟩
instance i616:PlC P 200:=⟨by kernel_rfl⟩
instance i617:PlC P 205:=⟨by kernel_rfl⟩
instance i623:ZeC P 3 [.int .i64 0]:=⟨.int .i64 0,by kernel_rfl,rfl⟩
instance i624:ZeC P 4 [.bool false]:=⟨.bool false,by kernel_rfl,rfl⟩
instance i625:ZeC P 9 [str []]:=⟨str [],by kernel_rfl,rfl⟩
instance i626:ZeC P 25 [.slice none 0 0]:=⟨.slice none 0 0,by kernel_rfl,rfl⟩
instance i627:ZeC P 27 [str [],.slice none 0 0,.slice none 0 0,.slice none 0 0,.slice none 0 0,str [],.slice none 0 0,.int .i64 0]:=⟨.agg ⟨[str [],.slice none 0 0,.slice none 0 0,.slice none 0 0,.slice none 0 0,str [],.slice none 0 0,.int .i64 0]⟩,by kernel_rfl,rfl⟩
instance i628:ZeC P 30 [str [],.int .i64 0,.slice none 0 0]:=⟨.agg ⟨[str [],.int .i64 0,.slice none 0 0]⟩,by kernel_rfl,rfl⟩
instance i629:ZeC P 40 [.int .i64 0]:=⟨.int .i64 0,by kernel_rfl,rfl⟩
instance i630:ZeC P 51 [.int .i64 0,.int .i64 0,.int .i64 0,.int .i64 0,.int .i64 0,str [],.slice none 0 0,.int .i64 0,.int .i64 0]:=⟨.agg ⟨[.int .i64 0,.int .i64 0,.int .i64 0,.int .i64 0,.int .i64 0,str [],.slice none 0 0,.int .i64 0,.int .i64 0]⟩,by kernel_rfl,rfl⟩
instance i631:ZeC P 56 [str [],.slice none 0 0]:=⟨.agg ⟨[str [],.slice none 0 0]⟩,by kernel_rfl,rfl⟩
instance i632:ZeC P 58 [str [],str []]:=⟨.agg ⟨[str [],str []]⟩,by kernel_rfl,rfl⟩
instance i633:ZeC P 61 [str [],str [],str [],.slice none 0 0,.int .i64 0,.slice none 0 0]:=⟨.agg ⟨[str [],str [],str [],.slice none 0 0,.int .i64 0,.slice none 0 0]⟩,by kernel_rfl,rfl⟩
instance i634:ZeC P 69 [.pointer none,.slice none 0 0]:=⟨.agg ⟨[.pointer none,.slice none 0 0]⟩,by kernel_rfl,rfl⟩
instance i635:ZeC P 97 [.slice none 0 0]:=⟨.slice none 0 0,by kernel_rfl,rfl⟩
instance i636:ZeC P 105 [.slice none 0 0]:=⟨.agg ⟨[.slice none 0 0]⟩,by kernel_rfl,rfl⟩
instance i637:ZeC P 114 [str [],.int .i64 0,.int .i64 0,.slice none 0 0]:=⟨.agg ⟨[str [],.int .i64 0,.int .i64 0,.slice none 0 0]⟩,by kernel_rfl,rfl⟩
instance i638:ZeC P 125 [.int .i64 0,.int .i64 0,.int .i64 0]:=⟨.agg ⟨[.int .i64 0,.int .i64 0,.int .i64 0]⟩,by kernel_rfl,rfl⟩
instance i639:ZeC P 144 [.pointer none]:=⟨.pointer none,by kernel_rfl,rfl⟩
instance i640:ZeC P 154 [.int .i64 0]:=⟨.agg ⟨[.int .i64 0]⟩,by kernel_rfl,rfl⟩
instance i641:ZeC P 156 [.pointer none]:=⟨.pointer none,by kernel_rfl,rfl⟩
instance i642:ZeC P 158 [.int .i64 0,.int .i64 0,.int .i64 0]:=⟨.agg ⟨[.int .i64 0,.int .i64 0,.int .i64 0]⟩,by kernel_rfl,rfl⟩
instance i643:ZeC P 168 [str [],.int .i64 0,.int .i64 0,.slice none 0 0,.int .i64 0]:=⟨.agg ⟨[str [],.int .i64 0,.int .i64 0,.slice none 0 0,.int .i64 0]⟩,by kernel_rfl,rfl⟩
instance i645:ZeC P 205 [.int .i64 0]:=⟨.agg ⟨[.int .i64 0]⟩,by kernel_rfl,rfl⟩
instance i649 {x1:ByteArray} {x2:Int}:BdC P 27 [(0,.string x1),(7,.int .i64 x2)] [.string x1,.slice none 0 0,.slice none 0 0,.slice none 0 0,.slice none 0 0,str [],.slice none 0 0,.int .i64 x2]:=⟨by kernel_rfl⟩
instance i651 {x1:ByteArray} {x2:Option Addr} {x3:Nat} {x4:Nat}:BdC P 30 [(0,.string x1),(2,.slice x2 x3 x4)] [.string x1,.int .i64 0,.slice x2 x3 x4]:=⟨by kernel_rfl⟩
instance i652  : BdC P 51 [] [.int .i64 0,.int .i64 0,.int .i64 0,.int .i64 0,.int .i64 0,str [],.slice none 0 0,.int .i64 0,.int .i64 0]:=⟨by kernel_rfl⟩
instance i653 {x1:Int}:BdC P 51 [(0,.int .i64 x1)] [.int .i64 x1,.int .i64 0,.int .i64 0,.int .i64 0,.int .i64 0,str [],.slice none 0 0,.int .i64 0,.int .i64 0]:=⟨by kernel_rfl⟩
instance i654 {x1:Int}:BdC P 51 [(1,.int .i64 x1)] [.int .i64 0,.int .i64 x1,.int .i64 0,.int .i64 0,.int .i64 0,str [],.slice none 0 0,.int .i64 0,.int .i64 0]:=⟨by kernel_rfl⟩
instance i655 {x1:ByteArray}:BdC P 56 [(0,.string x1)] [.string x1,.slice none 0 0]:=⟨by kernel_rfl⟩
instance i656 {x1:ByteArray}:BdC P 58 [(0,.string x1)] [.string x1,str []]:=⟨by kernel_rfl⟩
instance i657 {x1:ByteArray} {x2:Value} {x3:Value} {x4:Option Addr} {x5:Nat} {x6:Nat} {x7:Int}:BdC P 61 [(0,.string x1),(1,.agg ⟨[x2,x3]⟩),(2,.slice x4 x5 x6),(3,.int .i64 x7)] [.string x1,x2,x3,.slice x4 x5 x6,.int .i64 x7,.slice none 0 0]:=⟨by kernel_rfl⟩
instance i658 {x1:Option Addr}:BdC P 85 [(0,.pointer x1)] [.pointer x1,str [],.int .i64 0,.slice none 0 0,.pointer none]:=⟨by kernel_rfl⟩
instance i659 {x1:Option Addr} {x2:Nat} {x3:Nat} {x4:Fn} {x5:Array Value} {x6:Array Value} {x7:Fn} {x8:Array Value} {x9:Array Value}:BdC P 90 [(0,.slice x1 x2 x3),(1,.func x4 x5 x6),(2,.func x7 x8 x9)] [.slice x1 x2 x3,.func x4 x5 x6,.func x7 x8 x9,.int .i64 0,.bool false,.bool false]:=⟨by kernel_rfl⟩
instance i660 {x1:Option Addr} {x2:Nat} {x3:Nat}:BdC P 105 [(0,.slice x1 x2 x3)] [.slice x1 x2 x3]:=⟨by kernel_rfl⟩
instance i661 {x1:Value} {x2:Value} {x3:Value} {x4:Value} {x5:Value} {x6:Value} {x7:Value} {x8:Value}:BdC P 107 [(0,.agg ⟨[x1,x2,x3,x4,x5,x6,x7,x8]⟩)] [x1,x2,x3,x4,x5,x6,x7,x8,.slice none 0 0,.slice none 0 0,.map none,.map none,.map none,.slice none 0 0,.slice none 0 0,.slice none 0 0,.slice none 0 0,.slice none 0 0,.slice none 0 0,.slice none 0 0,.slice none 0 0]:=⟨by kernel_rfl⟩
instance i662 {x1:ByteArray} {x2:Int}:BdC P 114 [(0,.string x1),(1,.int .i64 x2)] [.string x1,.int .i64 x2,.int .i64 0,.slice none 0 0]:=⟨by kernel_rfl⟩
instance i663 {x1:Value} {x2:Value} {x3:Value} {x4:Value} {x5:Value} {x6:Value} {x7:Value} {x8:Value} {x9:Option Addr} {x10:Nat} {x11:Nat} {x12:Option Addr} {x13:Nat} {x14:Nat}:BdC P 122 [(0,.agg ⟨[x1,x2,x3,x4,x5,x6,x7,x8]⟩),(1,.slice x9 x10 x11),(2,.slice x12 x13 x14)] [x1,x2,x3,x4,x5,x6,x7,x8,.slice x9 x10 x11,.slice x12 x13 x14,.slice none 0 0]:=⟨by kernel_rfl⟩
instance i664 {x1:Int} {x2:Int} {x3:Int}:BdC P 125 [(0,.int .i64 x1),(1,.int .i64 x2),(2,.int .i64 x3)] [.int .i64 x1,.int .i64 x2,.int .i64 x3]:=⟨by kernel_rfl⟩
instance i665 {x1:Option Addr} {x2:Value} {x3:Value} {x4:Value}:BdC P 129 [(0,.pointer x1),(1,.agg ⟨[x2,x3,x4]⟩)] [.pointer x1,x2,x3,x4,.int .i64 0,.int .i64 0]:=⟨by kernel_rfl⟩
instance i666 {x1:Value} {x2:Value} {x3:Value} {x4:Value} {x5:Value} {x6:Value} {x7:Value} {x8:Value}:BdC P 146 [(0,.agg ⟨[x1,x2,x3,x4,x5,x6,x7,x8]⟩)] [x1,x2,x3,x4,x5,x6,x7,x8,.slice none 0 0,.slice none 0 0]:=⟨by kernel_rfl⟩
instance i667 {x1:Int}:BdC P 154 [(0,.int .i64 x1)] [.int .i64 x1]:=⟨by kernel_rfl⟩
instance i669 {x1:Int} {x2:Int} {x3:Int}:BdC P 158 [(0,.int .i64 x1),(1,.int .i64 x2),(2,.int .i64 x3)] [.int .i64 x1,.int .i64 x2,.int .i64 x3]:=⟨by kernel_rfl⟩
instance i670  : BdC P 160 [] [.int .i64 0,.int .i64 0,.int .i64 0,.slice none 0 0]:=⟨by kernel_rfl⟩
instance i671 {x1:Value} {x2:Value} {x3:Value}:BdC P 160 [(0,.agg ⟨[x1,x2,x3]⟩)] [x1,x2,x3,.slice none 0 0]:=⟨by kernel_rfl⟩
instance i672 {x1:Option Nat} {x2:Option Addr} {x3:Nat} {x4:Nat}:BdC P 163 [(2,.map x1),(3,.slice x2 x3 x4)] [.slice none 0 0,.slice none 0 0,.map x1,.slice x2 x3 x4,.int .i64 0]:=⟨by kernel_rfl⟩
instance i673 {x1:Value} {x2:Value} {x3:Value} {x4:Value} {x5:Int}:BdC P 168 [(0,.agg ⟨[x1,x2,x3,x4]⟩),(1,.int .i64 x5)] [x1,x2,x3,x4,.int .i64 x5]:=⟨by kernel_rfl⟩
instance i674 {x1:Option Addr} {x2:Nat} {x3:Nat}:BdC P 195 [(0,.slice x1 x2 x3)] [.slice x1 x2 x3]:=⟨by kernel_rfl⟩
instance i675 {x1:Int}:BdC P 200 [(0,.int .i64 x1)] [.int .i64 x1]:=⟨by kernel_rfl⟩
instance i676 {x1:Int}:BdC P 205 [(0,.int .i64 x1)] [.int .i64 x1]:=⟨by kernel_rfl⟩
instance i677  : BdC P 224 [] [.slice none 0 0,.slice none 0 0,.int .i64 0]:=⟨by kernel_rfl⟩
instance i680  : BsC P 22 0 [] []:=⟨by kernel_rfl⟩
instance i681 {x1:Value} {x2:Value} {x3:Value} {x4:Value}:BsC P 22 1 [(0,.agg ⟨[x1,x2,x3,x4]⟩)] [x1,x2,x3,x4]:=⟨by kernel_rfl⟩
instance i682  : BsC P 23 0 [] []:=⟨by kernel_rfl⟩
instance i683 {x1:Value} {x2:Value}:BsC P 23 1 [(0,.agg ⟨[x1,x2]⟩)] [x1,x2]:=⟨by kernel_rfl⟩
instance i684  : BsC P 24 0 [] []:=⟨by kernel_rfl⟩
instance i685 {x1:Value} {x2:Value} {x3:Value} {x4:Value} {x5:Value} {x6:Value} {x7:Value} {x8:Value} {x9:Value} {x10:Value} {x11:Value} {x12:Value} {x13:Value} {x14:Value} {x15:Value} {x16:Value} {x17:Value} {x18:Value}:BsC P 24 3 [(0,.agg ⟨[x1,x2,x3,x4,x5,x6]⟩),(1,.agg ⟨[x7,x8,x9,x10,x11,x12]⟩),(2,.agg ⟨[x13,x14,x15,x16,x17,x18]⟩)] [x1,x2,x3,x4,x5,x6,x7,x8,x9,x10,x11,x12,x13,x14,x15,x16,x17,x18]:=⟨by kernel_rfl⟩
instance i686  : BsC P 25 0 [] []:=⟨by kernel_rfl⟩
instance i687 {x1:ByteArray}:BsC P 25 1 [(0,.string x1)] [.string x1]:=⟨by kernel_rfl⟩
instance i688 {x1:ByteArray} {x2:ByteArray}:BsC P 25 2 [(0,.string x1),(1,.string x2)] [.string x1,.string x2]:=⟨by kernel_rfl⟩
instance i689 {x1:ByteArray} {x2:ByteArray} {x3:ByteArray}:BsC P 25 3 [(0,.string x1),(1,.string x2),(2,.string x3)] [.string x1,.string x2,.string x3]:=⟨by kernel_rfl⟩
instance i690 {x1:ByteArray} {x2:ByteArray} {x3:ByteArray} {x4:ByteArray}:BsC P 25 4 [(0,.string x1),(1,.string x2),(2,.string x3),(3,.string x4)] [.string x1,.string x2,.string x3,.string x4]:=⟨by kernel_rfl⟩
instance i691 {x1:ByteArray} {x2:ByteArray} {x3:ByteArray} {x4:ByteArray} {x5:ByteArray} {x6:ByteArray} {x7:ByteArray} {x8:ByteArray} {x9:ByteArray} {x10:ByteArray} {x11:ByteArray}:BsC P 25 11 [(0,.string x1),(1,.string x2),(2,.string x3),(3,.string x4),(4,.string x5),(5,.string x6),(6,.string x7),(7,.string x8),(8,.string x9),(9,.string x10),(10,.string x11)] [.string x1,.string x2,.string x3,.string x4,.string x5,.string x6,.string x7,.string x8,.string x9,.string x10,.string x11]:=⟨by kernel_rfl⟩
instance i692 {x1:Option Addr} {x2:Nat} {x3:Nat}:BsC P 28 1 [(0,.slice x1 x2 x3)] [.slice x1 x2 x3]:=⟨by kernel_rfl⟩
instance i693  : BsC P 49 0 [] []:=⟨by kernel_rfl⟩
instance i694 {x1:Int}:BsC P 49 1 [(0,.int .i64 x1)] [.int .i64 x1]:=⟨by kernel_rfl⟩
instance i695 {x1:Int} {x2:Int}:BsC P 49 2 [(0,.int .i64 x1),(1,.int .i64 x2)] [.int .i64 x1,.int .i64 x2]:=⟨by kernel_rfl⟩
instance i696 {x1:Value} {x2:Value} {x3:Value} {x4:Value} {x5:Value} {x6:Value} {x7:Value} {x8:Value} {x9:Value}:BsC P 52 1 [(0,.agg ⟨[x1,x2,x3,x4,x5,x6,x7,x8,x9]⟩)] [x1,x2,x3,x4,x5,x6,x7,x8,x9]:=⟨by kernel_rfl⟩
instance i697  : BsC P 59 0 [] []:=⟨by kernel_rfl⟩
instance i698 {x1:Value} {x2:Value}:BsC P 59 1 [(0,.agg ⟨[x1,x2]⟩)] [x1,x2]:=⟨by kernel_rfl⟩
instance i699 {x1:Value} {x2:Value} {x3:Value} {x4:Value}:BsC P 59 2 [(0,.agg ⟨[x1,x2]⟩),(1,.agg ⟨[x3,x4]⟩)] [x1,x2,x3,x4]:=⟨by kernel_rfl⟩
instance i700 {x1:Fn} {x2:Array Value} {x3:Array Value} {x4:Fn} {x5:Array Value} {x6:Array Value}:BsC P 88 2 [(0,.func x1 x2 x3),(1,.func x4 x5 x6)] [.func x1 x2 x3,.func x4 x5 x6]:=⟨by kernel_rfl⟩
instance i701 {x1:Value} {x2:Value} {x3:Value}:BsC P 97 1 [(0,.agg ⟨[x1,x2,x3]⟩)] [x1,x2,x3]:=⟨by kernel_rfl⟩
instance i702 {x1:Value} {x2:Value} {x3:Value} {x4:Value} {x5:Value} {x6:Value}:BsC P 97 2 [(0,.agg ⟨[x1,x2,x3]⟩),(1,.agg ⟨[x4,x5,x6]⟩)] [x1,x2,x3,x4,x5,x6]:=⟨by kernel_rfl⟩
instance i703 {x1:Value}:BsC P 100 1 [(0,.agg ⟨[x1]⟩)] [x1]:=⟨by kernel_rfl⟩
instance i704 {x1:Option Addr} {x2:Nat} {x3:Nat}:BsC P 101 1 [(0,.slice x1 x2 x3)] [.slice x1 x2 x3]:=⟨by kernel_rfl⟩
instance i705 {x1:Option Addr} {x2:Nat} {x3:Nat} {x4:Option Addr} {x5:Nat} {x6:Nat}:BsC P 101 2 [(0,.slice x1 x2 x3),(1,.slice x4 x5 x6)] [.slice x1 x2 x3,.slice x4 x5 x6]:=⟨by kernel_rfl⟩
instance i706 {x1:Option Addr} {x2:Nat} {x3:Nat}:BsC P 102 1 [(0,.slice x1 x2 x3)] [.slice x1 x2 x3]:=⟨by kernel_rfl⟩
instance i707 {x1:Int}:BsC P 103 1 [(0,.int .u64 x1)] [.int .u64 x1]:=⟨by kernel_rfl⟩
instance i708 {x1:Fn} {x2:Array Value} {x3:Array Value} {x4:Fn} {x5:Array Value} {x6:Array Value} {x7:Fn} {x8:Array Value} {x9:Array Value} {x10:Fn} {x11:Array Value} {x12:Array Value} {x13:Fn} {x14:Array Value} {x15:Array Value}:BsC P 147 5 [(0,.func x1 x2 x3),(1,.func x4 x5 x6),(2,.func x7 x8 x9),(3,.func x10 x11 x12),(4,.func x13 x14 x15)] [.func x1 x2 x3,.func x4 x5 x6,.func x7 x8 x9,.func x10 x11 x12,.func x13 x14 x15]:=⟨by kernel_rfl⟩
instance i709 {x1:Value} {x2:Value} {x3:Value} {x4:Value}:BsC P 161 1 [(0,.agg ⟨[x1,x2,x3,x4]⟩)] [x1,x2,x3,x4]:=⟨by kernel_rfl⟩
end
end Go.Proofs.YtdiejolnllipnaaGreatDoor
namespace Go.Ex.M
section
structure Pl where
  root:Int
  at_:Int
  width:Int
 deriving DecidableEq
abbrev plC(p:Pl):List Value:=[I64 p.root,I64 p.at_,I64 p.width]
abbrev plV(p:Pl):Value:=.agg ⟨plC p⟩
def uT(x:Int):Prop:= -9223372036854775808<=x/\x<9223372036854775808
def PlOK(p:Pl):Prop:=uT p.at_/\uT p.width
def lapP(a b:Pl):Prop:=a.root=b.root/\1<=a.width/\1<=b.width/\(if b.at_<a.at_ then a.at_ - b.at_<b.width else b.at_ - a.at_<a.width)
instance (a b:Pl):Decidable (lapP a b):=by unfold lapP;exact inferInstance
def sU(a b:Pl):Bool:=decide (lapP a b)
theorem lap_u{a b c:Int}(ha:uT a)(hb:uT b)(hc:uT c)(h1:1<=c)(h:a<=b):(IntKind.wrap .u64 (IntKind.wrap .u64 b - IntKind.wrap .u64 a)<IntKind.wrap .u64 c)↔b - a<c:=by
 unfold uT at *;have e:∀x:Int,IntKind.wrap .u64 x=x % 18446744073709551616:=λx=>rfl;rw [e,e,e,e];omega
def withinP(a b:Pl):Prop:=a.root=b.root/\(a.width<1\/(1<=b.width/\b.at_<=a.at_/\a.at_ - b.at_<=b.width/\a.width<=b.width - (a.at_ - b.at_)))
instance (a b:Pl):Decidable (withinP a b):=by unfold withinP;exact inferInstance
def withinB(a b:Pl):Bool:=decide (withinP a b)
theorem le_u{a b c:Int}(ha:uT a)(hb:uT b)(hc:uT c)(h1:1<=c)(h:a<=b):(IntKind.wrap .u64 (IntKind.wrap .u64 b - IntKind.wrap .u64 a)<=IntKind.wrap .u64 c)↔b - a<=c:=by
 unfold uT at *;have e:∀x:Int,IntKind.wrap .u64 x=x % 18446744073709551616:=λx=>rfl;rw [e,e,e,e];omega
theorem within_u{a b c w:Int}(ha:uT a)(hb:uT b)(hc:uT c)(hw:uT w)(h1:1<=c)(h2:1<=w)(h:a<=b)(h3:b - a<=c):(IntKind.wrap .u64 w<=IntKind.wrap .u64 (IntKind.wrap .u64 c - IntKind.wrap .u64 (IntKind.wrap .u64 b - IntKind.wrap .u64 a)))↔w<=c - (b - a):=by
 unfold uT at *;have e:∀x:Int,IntKind.wrap .u64 x=x % 18446744073709551616:=λx=>rfl;rw [e,e,e,e,e,e];omega
theorem lap_fin{z:Bool}{a b:Pl}{h h':zB}{n n':Nat}(hz:z=true↔lapP a b)(ht:Tch [] h n h' n'):Out.ret (.bool z)=Out.ret (.bool (sU a b))/\Tch [] h n h' n':=⟨by
 unfold sU
 cases z with
 | true=>rw [decide_eq_true (hz.1 rfl)]
 | false=>rw [decide_eq_false λe=>Bool.noConfusion (hz.2 e)],ht⟩
theorem within_fin{z:Bool}{a b:Pl}{h h':zB}{n n':Nat}(hz:z=true↔withinP a b)(ht:Tch [] h n h' n'):Out.ret (.bool z)=Out.ret (.bool (withinB a b))/\Tch [] h n h' n':=⟨by
 unfold withinB
 cases z with
 | true=>rw [decide_eq_true (hz.1 rfl)]
 | false=>rw [decide_eq_false λe=>Bool.noConfusion (hz.2 e)],ht⟩
end
section
abbrev Tx:=List UInt8
def letB(c:Nat):Bool:=decide ((97<=c/\c<=122)\/(65<=c/\c<=90)\/c=95)
def digB(c:Nat):Bool:=decide (48<=c/\c<=57)
def tailB(s:Tx):Bool:=s.all λc=>letB c.toNat || digB c.toNat
def xL:Tx->Bool
 | []=>false
 | c::r=>decide ((c::r).length<=20) && letB c.toNat && tailB (c::r)
def pos(ss:List Tx)(x:Tx):Int:=if x∈ss then(ss.idxOf x:Nat) else -1
theorem pos_hit{ss:List Tx}{x:Tx}{k:Nat}(hk:ss[k]? = some x)(eG:∀j,j<k->ss[j]?≠some x):pos ss x=(k:Nat):=by
 have hm:x∈ss:=aj.2 ⟨k,hk⟩;unfold pos;rw [if_pos hm];have h1:ss.idxOf x<ss.length:=bj.2 hm;have h2:ss[ss.idxOf x]? = some x:=by rw[aa h1,cU h1]
 rcases cn (ss.idxOf x) k with h|h|h
 . exact absurd h2 (eG _ h)
 . rw[h]
 . have:=cG (p:=(· == x)) h;rw [ab]at hk;obtain⟨hk1,hk2⟩:=hk;simp [hk2]at this
theorem pos_no{ss:List Tx}{x:Tx}(eG:∀j,j<ss.length->ss[j]?≠some x):pos ss x = -1:=by
 unfold pos
 rw[if_neg λhm=>by
  obtain⟨k,hk⟩:=aj.1 hm;exact eG k (ab.1 hk).1 hk]
theorem pos_ge{ss:List Tx}{x:Tx}:0<=pos ss x↔x∈ss:=by
 unfold pos;split <;> rename_i h
 . exact⟨λ_=>h,λ_=>by omega⟩
 . exact⟨λh2=>by omega,λh2=>absurd h2 h⟩
theorem str_at{ss:List Tx}{k:Nat}(h:k<ss.length):(ss.map str)[k]? = some (str ss[k]):=by rw[ao,aa h];rfl
end
section
theorem finB{z:Bool}{p:Prop}{_i:Decidable p}{h:zB}{n:Nat}(hz:z=true↔p):Out.ret (.bool z)=Out.ret (.bool (decide p))/\h=h/\n=n:=⟨by
 cases z with
 | true=>rw [decide_eq_true (hz.1 rfl)]
 | false=>rw [decide_eq_false λe=>Bool.noConfusion (hz.2 e)],rfl,rfl⟩
theorem fin{v w:Value}{h:zB}{n:Nat}(e:v=w):Out.ret v=Out.ret w/\h=h/\n=n:=⟨by rw[e],rfl,rfl⟩
theorem finT{S:List Nat}{v w:Value}{h h':zB}{n n':Nat}(e:v=w)(t:Tch S h n h' n'):Out.ret v=Out.ret w/\Tch S h n h' n':=⟨by rw[e],t⟩
def wordsL:List Tx:=[[109,97,99,104,105,110,101],[114,101,103],[97,116],[99,108,97,115,115],[111,112],[116,105,101],[99,108,111,98],[97,114,103,115],[114,101,115,117,108,116],[115,97,118,101,100],[115,108,111,116,115]]
def wordB(s:Tx):Bool:=decide (s∈wordsL)
def named(s:Tx):Bool:=xL s && !wordB s
def posF{α : Type}(p: α->Bool)(l:List α):Int:=if l.any p then(l.findIdx p:Nat) else -1
theorem posF_hit{α : Type}{p: α->Bool}{l:List α}{k:Nat}{x: α}(hk:l[k]? = some x)(hx:p x=true)(eG:∀(j:Nat) (y: α),j<k->l[j]? = some y->p y=false):posF p l=(k:Nat):=by
 obtain⟨h1,h2⟩:=ab.1 hk;unfold posF;rw [if_pos (ap.2 ⟨x,h2 ▸ aM h1,hx⟩)];congr 1
 rw[List.findIdx_eq h1];refine⟨by rw[h2];exact hx,λj hj=>?_⟩;exact eG j _ hj (aa _)
theorem posF_no{α : Type}{p: α->Bool}{l:List α}(eG:∀(j:Nat) (y: α),l[j]? = some y->p y=false):posF p l = -1:=by
 unfold posF;rw [if_neg];intro h;obtain⟨x,h1,h2⟩:=ap.1 h;obtain⟨j,hj⟩:=aj.1 h1;rw [eG j x hj]at h2;cases h2
theorem posF_ge{α : Type}{p: α->Bool}{l:List α}:0<=posF p l↔l.any p=true:=by
 unfold posF;split <;> rename_i h
 . exact⟨λ_=>h,λ_=>by omega⟩
 . exact⟨λh2=>by omega,λh2=>absurd h2 h⟩
theorem uZ{α : Type}{f: α->List Value}{sz:Nat}(hf:∀x,(f x).length=sz):∀{l:List α} {k j:Nat} {x: α} {v:Value},l[k]? = some x->(f x)[j]? = some v->(l.flatMap f)[k*sz+j]? = some v:=by
 intro l
 induction l with
 | nil=>intro k j x v h;cases h
 | cons y r ih =>
  intro k j x v h1 h2;rw [aV]
  cases k with
  | zero=>
   cases h1
   rw[bI,aK,az (ab.1 h2).1];exact h2
  | succ k=>
   rw[bW]at h1;rw [ax (by rw[hf];have:=Nat.add_one_mul k sz;omega),hf,show(k+1)*sz+j - sz=k*sz+j by have:=Nat.add_one_mul k sz;omega];exact ih h1 h2
theorem flat_len{α : Type}{f: α->List Value}{sz:Nat}(hf:∀x,(f x).length=sz)(l:List α):(l.flatMap f).length=l.length*sz:=by
 induction l with
 | nil=>simp
 | cons y r ih=>rw [aV,ah,hf,ih,ay,cL];omega
theorem rd_of{h:zB}{b:Nat}:∀{sz o:Nat} {vs:List Value},vs.length=sz->(∀j v,vs[j]? = some v->zD h b (o+j)=some v)->Rd h b o sz vs:=by
 intro sz
 induction sz with
 | zero=>intro o vs h1 _;exact aP.1 h1
 | succ k ih=>
  intro o vs h1 h2
  cases vs with
  | nil=>cases h1
  | cons x r=>exact⟨x,r,rfl,h2 0 x rfl,ih (by simpa using h1) λj v hj=>by have:=h2 (j+1) v (by simpa using hj);rwa [show o+(j+1)=o+1+j by omega]at this⟩
theorem zM{α : Type}{f: α->List Value}{sz lo e len:Nat}{h:zB}{v:Value}{l:List α}{k:Nat}{x: α}(r:Row lo h v e sz len (l.flatMap f))(hk:l[k]? = some x)(hf:∀x,(f x).length=sz:=by intro _;rfl):Rd h (sbk v) (sof v+k*sz) sz (f x):=
 rd_of (hf x) λj w hj=>by rw[Nat.add_assoc];exact r.at (uZ hf hk hj)
theorem yE{α : Type}{g: α->Value}{lo e len:Nat}{h:zB}{v:Value}{l:List α}{k:Nat}{x: α}(r:Row lo h v e 1 len (l.map g))(hk:l[k]? = some x):zD h (sbk v) (sof v+k*1)=some (g x):=by
 rw[aQ];exact r.at (by rw[ao,hk];rfl)
theorem tail_step{s:Tx}{k:Nat}(h:k<s.length):tailB s=true->letB s[k].toNat=true\/digB s[k].toNat=true:=λht=>by
 have:=aH.1 ht s[k] (aM h);simpa using this
theorem tail_all{s:Tx}(eG:∀j (hj:j<s.length),letB s[j].toNat=true\/digB s[j].toNat=true):tailB s=true:=by
 refine aH.2 λc hc=>?_;obtain⟨j,hj,rfl⟩:=List.mem_iff_getElem.1 hc;have:=eG j hj;simpa using this
end
section
structure ClassT where
 name:Tx
 rsv:Value
 regs:List Tx
structure OperT where
  cls:Tx
  fix:Tx
 deriving DecidableEq
structure OpT where
 name:Tx
 d:OperT
 usv:Value
 uses:List OperT
 tie:Int
 csv:Value
 clob:List Tx
inductive RegT where
 | mk (name:Tx) (w a:Int) (sv:Value) (subs:List RegT)
structure MachT where
 name:Tx
 rsv:Value
 regs:List RegT
 csv:Value
 classes:List ClassT
 osv:Value
 ops:List OpT
 asv:Value
 args:List Tx
 result:Tx
 ssv:Value
 saved:List Tx
 slots:Int
def RegT.name:RegT->Tx | .mk n _ _ _ _=>n
def RegT.w:RegT->Int | .mk _ w _ _ _=>w
def RegT.a:RegT->Int | .mk _ _ a _ _=>a
def RegT.sv:RegT->Value | .mk _ _ _ s _=>s
def RegT.subs:RegT->List RegT | .mk _ _ _ _ l=>l
abbrev regC(r:RegT):List Value:=[str r.name,I64 r.w,I64 r.a,r.sv]
abbrev clsC(c:ClassT):List Value:=[str c.name,c.rsv]
abbrev oprC(o:OperT):List Value:=[str o.cls,str o.fix]
abbrev opC(o:OpT):List Value:=[str o.name,str o.d.cls,str o.d.fix,o.usv,I64 o.tie,o.csv]
abbrev yR(m:MachT):List Value:=[str m.name,m.rsv,m.csv,m.osv,m.asv,str m.result,m.ssv,I64 m.slots]
def RowA(lo:Nat)(h:zB)(v:Value)(sz len:Nat)(vs:List Value):Prop:=∀e,Row lo h v e sz len vs
theorem RowA.lt{lo:Nat}{h:zB}{v:Value}{sz len:Nat}{vs:List Value}(r:RowA lo h v sz len vs):len<inf:=by
 rcases r 0 with⟨_,rfl,_⟩|⟨b,off,cap,m,z,kd,_,rfl,_,h1,_,_,h2⟩
 . decide
 . rcases h2 with h2|⟨rfl,rfl,rfl,h3⟩
   . omega
   . rcases r 1 with⟨h4,_⟩|⟨b',off',cap',m',z',kd',_,h4,_,h5,_,_,h6⟩
     . cases h4
     . injection h4 with h7 h8 h9
       injection h7 with h7;injection h7 with h7 _
       subst h7 h9;rw [h1]at h5;injection h5 with h5
       injection h5 with _ h5
       injection h5 with h5 _
       subst h5;rcases h6 with h6|⟨_,_,h6,_⟩
       . omega
       . have:=(zc_inj h6).1;omega
structure RowI (lo:Nat) (h:zB) (v:Value) (sz len:Nat) (vs:List Value):Prop where
 lt:len<inf
 ex:∃e,Row lo h v e sz len vs
instance {lo:Nat} {h:zB} {v:Value} {sz len:Nat} {vs:List Value}:CoeFun (RowI lo h v sz len vs) (λr=>Nat->Row lo h v r.ex.choose sz len vs):=⟨λr _=>r.ex.choose_spec⟩
structure RowT (e lo:Nat) (h:zB) (v:Value) (sz len:Nat) (vs:List Value):Prop where
 lt:len<inf
 r:Row lo h v e sz len vs
instance {e lo:Nat} {h:zB} {v:Value} {sz len:Nat} {vs:List Value}:CoeFun (RowT e lo h v sz len vs) (λ_=>Nat->Row lo h v e sz len vs):=⟨λr _=>r.r⟩
section
variable {e lo:Nat} {h h':zB} {v:Value} {sz len n n':Nat} {vs:List Value}
theorem RowA.toI(r:RowA lo h v sz len vs):RowI lo h v sz len vs:=⟨r.lt,0,r 0⟩
theorem RowA.toT(r:RowA lo h v sz len vs):RowT e lo h v sz len vs:=⟨r.lt,r e⟩
theorem RowT.toI(r:RowT e lo h v sz len vs):RowI lo h v sz len vs:=⟨r.lt,e,r.r⟩
theorem RowA.tch(r:RowA lo h v sz len vs)(t:Tch [] h n h' n')(hl:lo<=n):RowA lo h' v sz len vs:=λe=>(r e).tch t hl λ_ _ hx=>by cases hx
theorem RowA.tchE(r:RowA lo h v sz len vs)(t:Tch [] h n h' n')(hl:lo<=n):Row lo h' v 0 sz len vs:=(r 0).tch t hl λ_ _ hx=>by cases hx
theorem RowI.tch(r:RowI lo h v sz len vs)(t:Tch [] h n h' n')(hl:lo<=n):RowI lo h' v sz len vs:=⟨r.lt,_,(r 0).tch t hl λ_ _ hx=>by cases hx⟩
theorem RowI.tchE(r:RowI lo h v sz len vs)(t:Tch [] h n h' n')(hl:lo<=n):Row lo h' v r.ex.choose sz len vs:=(r 0).tch t hl λ_ _ hx=>by cases hx
theorem RowT.tchE(r:RowT e lo h v sz len vs)(t:Tch [] h n h' n')(hl:lo<=n):Row lo h' v e sz len vs:=r.r.tch t hl λ_ _ hx=>by cases hx
theorem RowT.tch(r:RowT e lo h v sz len vs)(t:Tch [] h n h' n')(hl:lo<=n):RowT e lo h' v sz len vs:=⟨r.lt,r.tchE t hl⟩
end
def RegsM(lo:Nat)(h:zB)(sv:Value)(l:List RegT):Prop:=RowT 114 lo h sv 4 l.length (l.flatMap regC)/\∀r,(_:r∈l)->RegsM lo h r.sv r.subs
 termination_by SizeOf.sizeOf l
 decreasing_by
  rename_i hr;have h1:=da hr;cases r
  simp only[RegT.subs];simp at h1;omega
theorem RegsM.row{lo:Nat}{h:zB}{sv:Value}{l:List RegT}(r:RegsM lo h sv l):RowT 114 lo h sv 4 l.length (l.flatMap regC):=by unfold RegsM at r;exact r.1
theorem RegsM.sub{lo:Nat}{h:zB}{sv:Value}{l:List RegT}(r:RegsM lo h sv l){x:RegT}(hx:x∈l):RegsM lo h x.sv x.subs:=by unfold RegsM at r;exact r.2 x hx
theorem RegsM.tch{lo n n':Nat}{h h':zB}(t:Tch [] h n h' n')(hl:lo<=n):∀{sv:Value} {l:List RegT},RegsM lo h sv l->RegsM lo h' sv l:=by
  intro sv l r;unfold RegsM at r ⊢;exact⟨r.1.tch t hl,λx hx=>RegsM.tch t hl (r.2 x hx)⟩
 termination_by sv l=>SizeOf.sizeOf l
 decreasing_by
  have h1:=da hx;cases x
  simp only[RegT.subs];simp at h1;omega
structure MachM (lo:Nat) (h:zB) (m:MachT):Prop where
 regs:RegsM lo h m.rsv m.regs
 cls:RowA lo h m.csv 2 m.classes.length (m.classes.flatMap clsC)
 clsr:∀c∈m.classes,RowT 9 lo h c.rsv 1 c.regs.length (c.regs.map str)
 ops:RowA lo h m.osv 6 m.ops.length (m.ops.flatMap opC)
 opsu:∀o∈m.ops,RowA lo h o.usv 2 o.uses.length (o.uses.flatMap oprC)
 opsc:∀o∈m.ops,RowA lo h o.csv 1 o.clob.length (o.clob.map str)
 args:RowA lo h m.asv 1 m.args.length (m.args.map str)
 saved:RowA lo h m.ssv 1 m.saved.length (m.saved.map str)
 slots:uT m.slots
theorem MachM.tch{lo n n':Nat}{h h':zB}{m:MachT}(t:Tch [] h n h' n')(hl:lo<=n)(r:MachM lo h m):MachM lo h' m:=
 ⟨RegsM.tch t hl r.regs,r.cls.tch t hl,λc hc=>(r.clsr c hc).tch t hl,r.ops.tch t hl,λc hc=>(r.opsu c hc).tch t hl,λc hc=>(r.opsc c hc).tch t hl,r.args.tch t hl,r.saved.tch t hl,r.slots⟩
def ar2:List Tx:=[[97,100,100],[115,117,98],[109,117,108],[97,110,100],[111,114],[120,111,114],[115,104,108],[115,104,114],[100,105,118],[114,101,109],[108,116],[101,113]]
def arity(s:Tx):Int:=if s∈ar2 then 2 else if s=[110,111,116] then 1 else 0
end
section
def wM:Nat:=1125899906842624
def TxtR(l:List RegT):Prop:=l.length<wM/\∀r,(_:r∈l)->r.name.length<wM/\TxtR r.subs
 termination_by SizeOf.sizeOf l
 decreasing_by
  rename_i hr;have h1:=da hr;cases r
  simp only[RegT.subs];simp at h1;omega
theorem TxtR.at{l:List RegT}(k:TxtR l){r:RegT}(hr:r∈l):r.name.length<wM/\TxtR r.subs:=by unfold TxtR at k;exact k.2 r hr
theorem TxtR.len{l:List RegT}(k:TxtR l):l.length<wM:=by unfold TxtR at k;exact k.1
theorem TxtR.mk{l:List RegT}(h:l.length<wM)(k:∀r∈l,r.name.length<wM/\TxtR r.subs):TxtR l:=by unfold TxtR;exact⟨h,k⟩
def TxtL(l:List Tx):Prop:=l.length<wM/\∀x∈l,x.length<wM
structure TxtM (m:MachT):Prop where
 nm:m.name.length<wM
 rg:TxtR m.regs
 cll:m.classes.length<wM
 cl:∀c∈m.classes,c.name.length<wM/\TxtL c.regs
 opl:m.ops.length<wM
 op:∀o∈m.ops,o.name.length<wM/\o.d.cls.length<wM/\o.d.fix.length<wM/\o.uses.length<wM/\(∀x∈o.uses,x.cls.length<wM/\x.fix.length<wM)/\TxtL o.clob
 ar:TxtL m.args
 re:m.result.length<wM
 sv:TxtL m.saved
end
end Go.Ex.M
