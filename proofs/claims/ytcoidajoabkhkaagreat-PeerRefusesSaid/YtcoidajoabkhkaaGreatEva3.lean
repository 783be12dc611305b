/- A reading of the program, proved sound against the model, and what its functions answer by it: part 3. -/
import Derived.Test.YtcoidajoabkhkaaGreatEva2
set_option linter.unusedSimpArgs false
set_option linter.unusedVariables false
open List renaming length → zq, map → zz, replicate → zj, set → zx, take → zw, drop → zk
open Int renaming toNat → zy, tmod → zg, fdiv → zh
open Go.IntKind renaming i64 → zd, u64 → zf, wrap → zp
open BitVec renaming ofInt → zb
open Go.Eva.Wp renaming ev → z7
open Go.Eva.Res renaming mk → z8
open Go.Eva.Ex renaming ret → qq, exit → qz
open Go.Eva.Ob renaming arr → qw, one → qy
open Go.Eva.T renaming sl → qv
open Go.Eva.V renaming all → qk
namespace Go.Eva.S9
open Go.Proofs
theorem cxTy:CxTy Tryz.prog cx:=Ahm (by decide+kernel) (by decide+kernel) (⟨⟨Tryz.f162,by kernel_rfl,by decide+kernel,by kernel_rfl,by kernel_rfl,by kernel_rfl,by kernel_rfl,110,by kernel_rfl⟩,keysOK,twin160,twin49,trivial⟩)
theorem ok3:FnOK Tryz.prog cx 3 fi3 Tryz.f3:=mkOk
theorem ok4:FnOK Tryz.prog cx 4 fi4 Tryz.f4:=mkOk
theorem ok5:FnOK Tryz.prog cx 5 fi5 Tryz.f5:=mkOk
theorem ok6:FnOK Tryz.prog cx 6 fi6 Tryz.f6:=mkOk
theorem ok7:FnOK Tryz.prog cx 7 fi7 Tryz.f7:=mkOk
theorem ok8:FnOK Tryz.prog cx 8 fi8 Tryz.f8:=mkOk
theorem ok9:FnOK Tryz.prog cx 9 fi9 Tryz.f9:=mkOk
theorem ok10:FnOK Tryz.prog cx 10 fi10 Tryz.f10:=mkOk
theorem ok11:FnOK Tryz.prog cx 11 fi11 Tryz.f11:=mkOk
theorem ok12:FnOK Tryz.prog cx 12 fi12 Tryz.f12:=mkOk
theorem ok13:FnOK Tryz.prog cx 13 fi13 Tryz.f13:=mkOk
theorem ok14:FnOK Tryz.prog cx 14 fi14 Tryz.f14:=mkOk
theorem ok15:FnOK Tryz.prog cx 15 fi15 Tryz.f15:=mkOk
theorem ok16:FnOK Tryz.prog cx 16 fi16 Tryz.f16:=mkOk
theorem ok17:FnOK Tryz.prog cx 17 fi17 Tryz.f17:=mkOk
theorem ok18:FnOK Tryz.prog cx 18 fi18 Tryz.f18:=mkOk
theorem ok19:FnOK Tryz.prog cx 19 fi19 Tryz.f19:=mkOk
theorem ok20:FnOK Tryz.prog cx 20 fi20 Tryz.f20:=mkOk
theorem ok21:FnOK Tryz.prog cx 21 fi21 Tryz.f21:=mkOk
theorem ok22:FnOK Tryz.prog cx 22 fi22 Tryz.f22:=mkOk
theorem ok23:FnOK Tryz.prog cx 23 fi23 Tryz.f23:=mkOk
theorem ok24:FnOK Tryz.prog cx 24 fi24 Tryz.f24:=mkOk
theorem ok25:FnOK Tryz.prog cx 25 fi25 Tryz.f25:=mkOk
theorem ok26:FnOK Tryz.prog cx 26 fi26 Tryz.f26:=mkOk
theorem ok27:FnOK Tryz.prog cx 27 fi27 Tryz.f27:=mkOk
theorem ok28:FnOK Tryz.prog cx 28 fi28 Tryz.f28:=mkOk
theorem ok29:FnOK Tryz.prog cx 29 fi29 Tryz.f29:=mkOk
theorem ok30:FnOK Tryz.prog cx 30 fi30 Tryz.f30:=mkOk
theorem ok31:FnOK Tryz.prog cx 31 fi31 Tryz.f31:=mkOk
theorem ok32:FnOK Tryz.prog cx 32 fi32 Tryz.f32:=mkOk
theorem ok33:FnOK Tryz.prog cx 33 fi33 Tryz.f33:=mkOk
theorem ok34:FnOK Tryz.prog cx 34 fi34 Tryz.f34:=mkOk
theorem ok35:FnOK Tryz.prog cx 35 fi35 Tryz.f35:=mkOk
theorem ok36:FnOK Tryz.prog cx 36 fi36 Tryz.f36:=mkOk
theorem ok37:FnOK Tryz.prog cx 37 fi37 Tryz.f37:=mkOk
theorem ok38:FnOK Tryz.prog cx 38 fi38 Tryz.f38:=mkOk
theorem ok39:FnOK Tryz.prog cx 39 fi39 Tryz.f39:=mkOk
theorem ok40:FnOK Tryz.prog cx 40 fi40 Tryz.f40:=mkOk
theorem ok41:FnOK Tryz.prog cx 41 fi41 Tryz.f41:=mkOk
theorem ok42:FnOK Tryz.prog cx 42 fi42 Tryz.f42:=mkOk
theorem ok43:FnOK Tryz.prog cx 43 fi43 Tryz.f43:=mkOk
theorem ok45:FnOK Tryz.prog cx 45 fi45 Tryz.f45:=mkOk
theorem ok46:FnOK Tryz.prog cx 46 fi46 Tryz.f46:=mkOk
theorem ok47:FnOK Tryz.prog cx 47 fi47 Tryz.f47:=mkOk
theorem ok48:FnOK Tryz.prog cx 48 fi48 Tryz.f48:=mkOk
theorem ok50:FnOK Tryz.prog cx 50 fi50 Tryz.f50:=mkOk
theorem ok51:FnOK Tryz.prog cx 51 fi51 Tryz.f51:=mkOk
theorem ok52:FnOK Tryz.prog cx 52 fi52 Tryz.f52:=mkOk
theorem ok53:FnOK Tryz.prog cx 53 fi53 Tryz.f53:=mkOk
theorem ok54:FnOK Tryz.prog cx 54 fi54 Tryz.f54:=mkOk
theorem ok55:FnOK Tryz.prog cx 55 fi55 Tryz.f55:=mkOk
theorem ok56:FnOK Tryz.prog cx 56 fi56 Tryz.f56:=mkOk
theorem ok57:FnOK Tryz.prog cx 57 fi57 Tryz.f57:=mkOk
theorem ok58:FnOK Tryz.prog cx 58 fi58 Tryz.f58:=mkOk
theorem ok59:FnOK Tryz.prog cx 59 fi59 Tryz.f59:=mkOk
theorem ok60:FnOK Tryz.prog cx 60 fi60 Tryz.f60:=mkOk
theorem ok61:FnOK Tryz.prog cx 61 fi61 Tryz.f61:=mkOk
theorem ok62:FnOK Tryz.prog cx 62 fi62 Tryz.f62:=mkOk
theorem ok63:FnOK Tryz.prog cx 63 fi63 Tryz.f63:=mkOk
theorem ok64:FnOK Tryz.prog cx 64 fi64 Tryz.f64:=mkOk
theorem ok65:FnOK Tryz.prog cx 65 fi65 Tryz.f65:=mkOk
theorem ok66:FnOK Tryz.prog cx 66 fi66 Tryz.f66:=mkOk
theorem ok67:FnOK Tryz.prog cx 67 fi67 Tryz.f67:=mkOk
theorem ok68:FnOK Tryz.prog cx 68 fi68 Tryz.f68:=mkOk
theorem ok69:FnOK Tryz.prog cx 69 fi69 Tryz.f69:=mkOk
theorem ok70:FnOK Tryz.prog cx 70 fi70 Tryz.f70:=mkOk
theorem ok71:FnOK Tryz.prog cx 71 fi71 Tryz.f71:=mkOk
theorem ok72:FnOK Tryz.prog cx 72 fi72 Tryz.f72:=mkOk
theorem ok73:FnOK Tryz.prog cx 73 fi73 Tryz.f73:=mkOk
theorem ok74:FnOK Tryz.prog cx 74 fi74 Tryz.f74:=mkOk
theorem ok75:FnOK Tryz.prog cx 75 fi75 Tryz.f75:=mkOk
theorem ok76:FnOK Tryz.prog cx 76 fi76 Tryz.f76:=mkOk
theorem ok77:FnOK Tryz.prog cx 77 fi77 Tryz.f77:=mkOk
theorem ok78:FnOK Tryz.prog cx 78 fi78 Tryz.f78:=mkOk
theorem ok79:FnOK Tryz.prog cx 79 fi79 Tryz.f79:=mkOk
theorem ok80:FnOK Tryz.prog cx 80 fi80 Tryz.f80:=mkOk
theorem ok81:FnOK Tryz.prog cx 81 fi81 Tryz.f81:=mkOk
theorem ok82:FnOK Tryz.prog cx 82 fi82 Tryz.f82:=mkOk
theorem ok83:FnOK Tryz.prog cx 83 fi83 Tryz.f83:=mkOk
theorem ok84:FnOK Tryz.prog cx 84 fi84 Tryz.f84:=mkOk
theorem ok85:FnOK Tryz.prog cx 85 fi85 Tryz.f85:=mkOk
theorem ok86:FnOK Tryz.prog cx 86 fi86 Tryz.f86:=mkOk
theorem ok87:FnOK Tryz.prog cx 87 fi87 Tryz.f87:=mkOk
theorem ok88:FnOK Tryz.prog cx 88 fi88 Tryz.f88:=mkOk
theorem ok89:FnOK Tryz.prog cx 89 fi89 Tryz.f89:=mkOk
theorem ok90:FnOK Tryz.prog cx 90 fi90 Tryz.f90:=mkOk
theorem ok91:FnOK Tryz.prog cx 91 fi91 Tryz.f91:=mkOk
theorem ok94:FnOK Tryz.prog cx 94 fi94 Tryz.f94:=mkOk
theorem ok95:FnOK Tryz.prog cx 95 fi95 Tryz.f95:=mkOk
theorem ok96:FnOK Tryz.prog cx 96 fi96 Tryz.f96:=mkOk
theorem ok97:FnOK Tryz.prog cx 97 fi97 Tryz.f97:=mkOk
theorem ok98:FnOK Tryz.prog cx 98 fi98 Tryz.f98:=mkOk
theorem ok99:FnOK Tryz.prog cx 99 fi99 Tryz.f99:=mkOk
theorem ok101:FnOK Tryz.prog cx 101 fi101 Tryz.f101:=mkOk
theorem ok102:FnOK Tryz.prog cx 102 fi102 Tryz.f102:=mkOk
theorem ok103:FnOK Tryz.prog cx 103 fi103 Tryz.f103:=mkOk
theorem ok104:FnOK Tryz.prog cx 104 fi104 Tryz.f104:=mkOk
theorem ok105:FnOK Tryz.prog cx 105 fi105 Tryz.f105:=mkOk
theorem ok106:FnOK Tryz.prog cx 106 fi106 Tryz.f106:=mkOk
theorem ok107:FnOK Tryz.prog cx 107 fi107 Tryz.f107:=mkOk
theorem ok108:FnOK Tryz.prog cx 108 fi108 Tryz.f108:=mkOk
theorem ok109:FnOK Tryz.prog cx 109 fi109 Tryz.f109:=mkOk
theorem ok110:FnOK Tryz.prog cx 110 fi110 Tryz.f110:=mkOk
theorem ok111:FnOK Tryz.prog cx 111 fi111 Tryz.f111:=mkOk
theorem ok112:FnOK Tryz.prog cx 112 fi112 Tryz.f112:=mkOk
theorem ok113:FnOK Tryz.prog cx 113 fi113 Tryz.f113:=mkOk
theorem ok114:FnOK Tryz.prog cx 114 fi114 Tryz.f114:=mkOk
theorem ok115:FnOK Tryz.prog cx 115 fi115 Tryz.f115:=mkOk
theorem ok116:FnOK Tryz.prog cx 116 fi116 Tryz.f116:=mkOk
theorem ok117:FnOK Tryz.prog cx 117 fi117 Tryz.f117:=mkOk
theorem ok118:FnOK Tryz.prog cx 118 fi118 Tryz.f118:=mkOk
theorem ok119:FnOK Tryz.prog cx 119 fi119 Tryz.f119:=mkOk
theorem ok120:FnOK Tryz.prog cx 120 fi120 Tryz.f120:=mkOk
theorem ok121:FnOK Tryz.prog cx 121 fi121 Tryz.f121:=mkOk
theorem ok122:FnOK Tryz.prog cx 122 fi122 Tryz.f122:=mkOk
theorem ok123:FnOK Tryz.prog cx 123 fi123 Tryz.f123:=mkOk
theorem ok124:FnOK Tryz.prog cx 124 fi124 Tryz.f124:=mkOk
theorem ok125:FnOK Tryz.prog cx 125 fi125 Tryz.f125:=mkOk
theorem ok126:FnOK Tryz.prog cx 126 fi126 Tryz.f126:=mkOk
theorem ok127:FnOK Tryz.prog cx 127 fi127 Tryz.f127:=mkOk
theorem ok128:FnOK Tryz.prog cx 128 fi128 Tryz.f128:=mkOk
theorem ok129:FnOK Tryz.prog cx 129 fi129 Tryz.f129:=mkOk
theorem ok130:FnOK Tryz.prog cx 130 fi130 Tryz.f130:=mkOk
theorem ok131:FnOK Tryz.prog cx 131 fi131 Tryz.f131:=mkOk
theorem ok132:FnOK Tryz.prog cx 132 fi132 Tryz.f132:=mkOk
theorem ok133:FnOK Tryz.prog cx 133 fi133 Tryz.f133:=mkOk
theorem ok134:FnOK Tryz.prog cx 134 fi134 Tryz.f134:=mkOk
theorem ok135:FnOK Tryz.prog cx 135 fi135 Tryz.f135:=mkOk
theorem ok136:FnOK Tryz.prog cx 136 fi136 Tryz.f136:=mkOk
theorem ok137:FnOK Tryz.prog cx 137 fi137 Tryz.f137:=mkOk
theorem ok138:FnOK Tryz.prog cx 138 fi138 Tryz.f138:=mkOk
theorem ok139:FnOK Tryz.prog cx 139 fi139 Tryz.f139:=mkOk
theorem ok140:FnOK Tryz.prog cx 140 fi140 Tryz.f140:=mkOk
theorem ok141:FnOK Tryz.prog cx 141 fi141 Tryz.f141:=mkOk
theorem ok142:FnOK Tryz.prog cx 142 fi142 Tryz.f142:=mkOk
theorem ok143:FnOK Tryz.prog cx 143 fi143 Tryz.f143:=mkOk
theorem ok144:FnOK Tryz.prog cx 144 fi144 Tryz.f144:=mkOk
theorem ok145:FnOK Tryz.prog cx 145 fi145 Tryz.f145:=mkOk
theorem ok146:FnOK Tryz.prog cx 146 fi146 Tryz.f146:=mkOk
theorem ok147:FnOK Tryz.prog cx 147 fi147 Tryz.f147:=mkOk
theorem ok148:FnOK Tryz.prog cx 148 fi148 Tryz.f148:=mkOk
theorem ok149:FnOK Tryz.prog cx 149 fi149 Tryz.f149:=mkOk
theorem ok150:FnOK Tryz.prog cx 150 fi150 Tryz.f150:=mkOk
theorem ok151:FnOK Tryz.prog cx 151 fi151 Tryz.f151:=mkOk
theorem ok152:FnOK Tryz.prog cx 152 fi152 Tryz.f152:=mkOk
theorem ok153:FnOK Tryz.prog cx 153 fi153 Tryz.f153:=mkOk
theorem ok154:FnOK Tryz.prog cx 154 fi154 Tryz.f154:=mkOk
theorem ok158:FnOK Tryz.prog cx 158 fi158 Tryz.f158:=mkOk
theorem ok159:FnOK Tryz.prog cx 159 fi159 Tryz.f159:=mkOk
theorem ok161:FnOK Tryz.prog cx 161 fi161 Tryz.f161:=mkOk
theorem ok163:FnOK Tryz.prog cx 163 fi163 Tryz.f163:=mkOk
theorem ok164:FnOK Tryz.prog cx 164 fi164 Tryz.f164:=mkOk
theorem ok165:FnOK Tryz.prog cx 165 fi165 Tryz.f165:=mkOk
theorem ok166:FnOK Tryz.prog cx 166 fi166 Tryz.f166:=mkOk
theorem ok167:FnOK Tryz.prog cx 167 fi167 Tryz.f167:=mkOk
theorem ok168:FnOK Tryz.prog cx 168 fi168 Tryz.f168:=mkOk
theorem ok169:FnOK Tryz.prog cx 169 fi169 Tryz.f169:=mkOk
theorem ok170:FnOK Tryz.prog cx 170 fi170 Tryz.f170:=mkOk
theorem ok171:FnOK Tryz.prog cx 171 fi171 Tryz.f171:=mkOk
theorem ok172:FnOK Tryz.prog cx 172 fi172 Tryz.f172:=mkOk
theorem ok173:FnOK Tryz.prog cx 173 fi173 Tryz.f173:=mkOk
theorem ok174:FnOK Tryz.prog cx 174 fi174 Tryz.f174:=mkOk
theorem ok175:FnOK Tryz.prog cx 175 fi175 Tryz.f175:=mkOk
theorem ok176:FnOK Tryz.prog cx 176 fi176 Tryz.f176:=mkOk
theorem ok177:FnOK Tryz.prog cx 177 fi177 Tryz.f177:=mkOk
theorem ok178:FnOK Tryz.prog cx 178 fi178 Tryz.f178:=mkOk
theorem ok179:FnOK Tryz.prog cx 179 fi179 Tryz.f179:=mkOk
theorem ok180:FnOK Tryz.prog cx 180 fi180 Tryz.f180:=mkOk
theorem ok181:FnOK Tryz.prog cx 181 fi181 Tryz.f181:=mkOk
theorem ok182:FnOK Tryz.prog cx 182 fi182 Tryz.f182:=mkOk
theorem ok183:FnOK Tryz.prog cx 183 fi183 Tryz.f183:=mkOk
theorem ok184:FnOK Tryz.prog cx 184 fi184 Tryz.f184:=mkOk
theorem ok185:FnOK Tryz.prog cx 185 fi185 Tryz.f185:=mkOk
theorem ok186:FnOK Tryz.prog cx 186 fi186 Tryz.f186:=mkOk
theorem ok187:FnOK Tryz.prog cx 187 fi187 Tryz.f187:=mkOk
theorem ok188:FnOK Tryz.prog cx 188 fi188 Tryz.f188:=mkOk
theorem ok189:FnOK Tryz.prog cx 189 fi189 Tryz.f189:=mkOk
theorem ok190:FnOK Tryz.prog cx 190 fi190 Tryz.f190:=mkOk
theorem ok191:FnOK Tryz.prog cx 191 fi191 Tryz.f191:=mkOk
theorem ok192:FnOK Tryz.prog cx 192 fi192 Tryz.f192:=mkOk
theorem ok193:FnOK Tryz.prog cx 193 fi193 Tryz.f193:=mkOk
theorem ok194:FnOK Tryz.prog cx 194 fi194 Tryz.f194:=mkOk
theorem ok195:FnOK Tryz.prog cx 195 fi195 Tryz.f195:=mkOk
theorem ok196:FnOK Tryz.prog cx 196 fi196 Tryz.f196:=mkOk
theorem ok197:FnOK Tryz.prog cx 197 fi197 Tryz.f197:=mkOk
theorem ok198:FnOK Tryz.prog cx 198 fi198 Tryz.f198:=mkOk
theorem ok199:FnOK Tryz.prog cx 199 fi199 Tryz.f199:=mkOk
theorem ok211:FnOK Tryz.prog cx 211 fi211 Tryz.f211:=mkOk
theorem ok212:FnOK Tryz.prog cx 212 fi212 Tryz.f212:=mkOk
theorem ok213:FnOK Tryz.prog cx 213 fi213 Tryz.f213:=mkOk
theorem ok214:FnOK Tryz.prog cx 214 fi214 Tryz.f214:=mkOk
theorem ok215:FnOK Tryz.prog cx 215 fi215 Tryz.f215:=mkOk
theorem ok216:FnOK Tryz.prog cx 216 fi216 Tryz.f216:=mkOk
theorem ok217:FnOK Tryz.prog cx 217 fi217 Tryz.f217:=mkOk
theorem ok218:FnOK Tryz.prog cx 218 fi218 Tryz.f218:=mkOk
theorem ok219:FnOK Tryz.prog cx 219 fi219 Tryz.f219:=mkOk
theorem ok220:FnOK Tryz.prog cx 220 fi220 Tryz.f220:=mkOk
theorem ok221:FnOK Tryz.prog cx 221 fi221 Tryz.f221:=mkOk
theorem ok222:FnOK Tryz.prog cx 222 fi222 Tryz.f222:=mkOk
theorem ok223:FnOK Tryz.prog cx 223 fi223 Tryz.f223:=mkOk
theorem ok224:FnOK Tryz.prog cx 224 fi224 Tryz.f224:=mkOk
theorem ok225:FnOK Tryz.prog cx 225 fi225 Tryz.f225:=mkOk
theorem ok226:FnOK Tryz.prog cx 226 fi226 Tryz.f226:=mkOk
theorem ok227:FnOK Tryz.prog cx 227 fi227 Tryz.f227:=mkOk
theorem ok228:FnOK Tryz.prog cx 228 fi228 Tryz.f228:=mkOk
theorem ok229:FnOK Tryz.prog cx 229 fi229 Tryz.f229:=mkOk
theorem ok230:FnOK Tryz.prog cx 230 fi230 Tryz.f230:=mkOk
theorem ok231:FnOK Tryz.prog cx 231 fi231 Tryz.f231:=mkOk
theorem ok232:FnOK Tryz.prog cx 232 fi232 Tryz.f232:=mkOk
theorem ok233:FnOK Tryz.prog cx 233 fi233 Tryz.f233:=mkOk
theorem ok234:FnOK Tryz.prog cx 234 fi234 Tryz.f234:=mkOk
theorem ok235:FnOK Tryz.prog cx 235 fi235 Tryz.f235:=mkOk
theorem ok236:FnOK Tryz.prog cx 236 fi236 Tryz.f236:=mkOk
theorem ok237:FnOK Tryz.prog cx 237 fi237 Tryz.f237:=mkOk
theorem ok238:FnOK Tryz.prog cx 238 fi238 Tryz.f238:=mkOk
theorem ok239:FnOK Tryz.prog cx 239 fi239 Tryz.f239:=mkOk
theorem ok240:FnOK Tryz.prog cx 240 fi240 Tryz.f240:=mkOk
theorem ok241:FnOK Tryz.prog cx 241 fi241 Tryz.f241:=mkOk
theorem ok242:FnOK Tryz.prog cx 242 fi242 Tryz.f242:=mkOk
theorem ok243:FnOK Tryz.prog cx 243 fi243 Tryz.f243:=mkOk
theorem ok249:FnOK Tryz.prog cx 249 fi249 Tryz.f249:=mkOk
theorem ok250:FnOK Tryz.prog cx 250 fi250 Tryz.f250:=mkOk
theorem ok251:FnOK Tryz.prog cx 251 fi251 Tryz.f251:=mkOk
theorem ok252:FnOK Tryz.prog cx 252 fi252 Tryz.f252:=mkOk
theorem ok253:FnOK Tryz.prog cx 253 fi253 Tryz.f253:=mkOk
theorem ok254:FnOK Tryz.prog cx 254 fi254 Tryz.f254:=mkOk
theorem ok255:FnOK Tryz.prog cx 255 fi255 Tryz.f255:=mkOk
theorem ok256:FnOK Tryz.prog cx 256 fi256 Tryz.f256:=mkOk
theorem ok257:FnOK Tryz.prog cx 257 fi257 Tryz.f257:=mkOk
theorem ok259:FnOK Tryz.prog cx 259 fi259 Tryz.f259:=mkOk
theorem ok260:FnOK Tryz.prog cx 260 fi260 Tryz.f260:=mkOk
theorem ok261:FnOK Tryz.prog cx 261 fi261 Tryz.f261:=mkOk
theorem ok262:FnOK Tryz.prog cx 262 fi262 Tryz.f262:=mkOk
theorem ok263:FnOK Tryz.prog cx 263 fi263 Tryz.f263:=mkOk
theorem ok264:FnOK Tryz.prog cx 264 fi264 Tryz.f264:=mkOk
theorem fnsOK:FnsOK Tryz.prog cx:=Ag3 (⟨Aac _,⟨Aac _,⟨Aab ok3,⟨Aab ok7,⟨Aab ok15,⟨Aab ok31,⟨Aab ok63,⟨Aab ok127,⟨Aab ok255,trivial,trivial⟩,trivial⟩,⟨Aab ok191,trivial,trivial⟩⟩,⟨Aab ok95,⟨Aab ok159,trivial,trivial⟩,⟨Aab ok223,trivial,trivial⟩⟩⟩,⟨Aab ok47,⟨Aab ok79,⟨Aab ok143,⟨Aac _,trivial,trivial⟩,trivial⟩,⟨Aac _,trivial,trivial⟩⟩,⟨Aab ok111,⟨Aab ok175,trivial,trivial⟩,⟨Aab ok239,trivial,trivial⟩⟩⟩⟩,⟨Aab ok23,⟨Aab ok39,⟨Aab ok71,⟨Aab ok135,⟨Aab ok263,trivial,trivial⟩,trivial⟩,⟨Aab ok199,trivial,trivial⟩⟩,⟨Aab ok103,⟨Aab ok167,trivial,trivial⟩,⟨Aab ok231,trivial,trivial⟩⟩⟩,⟨Aab ok55,⟨Aab ok87,⟨Aab ok151,⟨Aac _,trivial,trivial⟩,trivial⟩,⟨Aab ok215,trivial,trivial⟩⟩,⟨Aab ok119,⟨Aab ok183,trivial,trivial⟩,⟨Aac _,trivial,trivial⟩⟩⟩⟩⟩,⟨Aab ok11,⟨Aab ok19,⟨Aab ok35,⟨Aab ok67,⟨Aab ok131,⟨Aab ok259,trivial,trivial⟩,trivial⟩,⟨Aab ok195,trivial,trivial⟩⟩,⟨Aab ok99,⟨Aab ok163,trivial,trivial⟩,⟨Aab ok227,trivial,trivial⟩⟩⟩,⟨Aab ok51,⟨Aab ok83,⟨Aab ok147,⟨Aac _,trivial,trivial⟩,trivial⟩,⟨Aab ok211,trivial,trivial⟩⟩,⟨Aab ok115,⟨Aab ok179,trivial,trivial⟩,⟨Aab ok243,trivial,trivial⟩⟩⟩⟩,⟨Aab ok27,⟨Aab ok43,⟨Aab ok75,⟨Aab ok139,⟨Aac _,trivial,trivial⟩,trivial⟩,⟨Aac _,trivial,trivial⟩⟩,⟨Aab ok107,⟨Aab ok171,trivial,trivial⟩,⟨Aab ok235,trivial,trivial⟩⟩⟩,⟨Aab ok59,⟨Aab ok91,⟨Aac _,trivial,trivial⟩,⟨Aab ok219,trivial,trivial⟩⟩,⟨Aab ok123,⟨Aab ok187,trivial,trivial⟩,⟨Aab ok251,trivial,trivial⟩⟩⟩⟩⟩⟩,⟨Aab ok5,⟨Aab ok9,⟨Aab ok17,⟨Aab ok33,⟨Aab ok65,⟨Aab ok129,⟨Aab ok257,trivial,trivial⟩,trivial⟩,⟨Aab ok193,trivial,trivial⟩⟩,⟨Aab ok97,⟨Aab ok161,trivial,trivial⟩,⟨Aab ok225,trivial,trivial⟩⟩⟩,⟨Aac _,⟨Aab ok81,⟨Aab ok145,⟨Aac _,trivial,trivial⟩,trivial⟩,⟨Aac _,trivial,trivial⟩⟩,⟨Aab ok113,⟨Aab ok177,trivial,trivial⟩,⟨Aab ok241,trivial,trivial⟩⟩⟩⟩,⟨Aab ok25,⟨Aab ok41,⟨Aab ok73,⟨Aab ok137,⟨Aac _,trivial,trivial⟩,trivial⟩,⟨Aac _,trivial,trivial⟩⟩,⟨Aab ok105,⟨Aab ok169,trivial,trivial⟩,⟨Aab ok233,trivial,trivial⟩⟩⟩,⟨Aab ok57,⟨Aab ok89,⟨Aab ok153,⟨Aac _,trivial,trivial⟩,trivial⟩,⟨Aab ok217,trivial,trivial⟩⟩,⟨Aab ok121,⟨Aab ok185,trivial,trivial⟩,⟨Aab ok249,trivial,trivial⟩⟩⟩⟩⟩,⟨Aab ok13,⟨Aab ok21,⟨Aab ok37,⟨Aab ok69,⟨Aab ok133,⟨Aab ok261,trivial,trivial⟩,trivial⟩,⟨Aab ok197,trivial,trivial⟩⟩,⟨Aab ok101,⟨Aab ok165,trivial,trivial⟩,⟨Aab ok229,trivial,trivial⟩⟩⟩,⟨Aab ok53,⟨Aab ok85,⟨Aab ok149,⟨Aac _,trivial,trivial⟩,trivial⟩,⟨Aab ok213,trivial,trivial⟩⟩,⟨Aab ok117,⟨Aab ok181,trivial,trivial⟩,⟨Aac _,trivial,trivial⟩⟩⟩⟩,⟨Aab ok29,⟨Aab ok45,⟨Aab ok77,⟨Aab ok141,⟨Aac _,trivial,trivial⟩,trivial⟩,⟨Aac _,trivial,trivial⟩⟩,⟨Aab ok109,⟨Aab ok173,trivial,trivial⟩,⟨Aab ok237,trivial,trivial⟩⟩⟩,⟨Aab ok61,⟨Aac _,⟨Aac _,trivial,trivial⟩,⟨Aab ok221,trivial,trivial⟩⟩,⟨Aab ok125,⟨Aab ok189,trivial,trivial⟩,⟨Aab ok253,trivial,trivial⟩⟩⟩⟩⟩⟩⟩,⟨Aac _,⟨Aab ok4,⟨Aab ok8,⟨Aab ok16,⟨Aab ok32,⟨Aab ok64,⟨Aab ok128,⟨Aab ok256,trivial,trivial⟩,trivial⟩,⟨Aab ok192,trivial,trivial⟩⟩,⟨Aab ok96,⟨Aac _,trivial,trivial⟩,⟨Aab ok224,trivial,trivial⟩⟩⟩,⟨Aab ok48,⟨Aab ok80,⟨Aab ok144,⟨Aac _,trivial,trivial⟩,trivial⟩,⟨Aac _,trivial,trivial⟩⟩,⟨Aab ok112,⟨Aab ok176,trivial,trivial⟩,⟨Aab ok240,trivial,trivial⟩⟩⟩⟩,⟨Aab ok24,⟨Aab ok40,⟨Aab ok72,⟨Aab ok136,⟨Aab ok264,trivial,trivial⟩,trivial⟩,⟨Aac _,trivial,trivial⟩⟩,⟨Aab ok104,⟨Aab ok168,trivial,trivial⟩,⟨Aab ok232,trivial,trivial⟩⟩⟩,⟨Aab ok56,⟨Aab ok88,⟨Aab ok152,⟨Aac _,trivial,trivial⟩,trivial⟩,⟨Aab ok216,trivial,trivial⟩⟩,⟨Aab ok120,⟨Aab ok184,trivial,trivial⟩,⟨Aac _,trivial,trivial⟩⟩⟩⟩⟩,⟨Aab ok12,⟨Aab ok20,⟨Aab ok36,⟨Aab ok68,⟨Aab ok132,⟨Aab ok260,trivial,trivial⟩,trivial⟩,⟨Aab ok196,trivial,trivial⟩⟩,⟨Aac _,⟨Aab ok164,trivial,trivial⟩,⟨Aab ok228,trivial,trivial⟩⟩⟩,⟨Aab ok52,⟨Aab ok84,⟨Aab ok148,⟨Aac _,trivial,trivial⟩,trivial⟩,⟨Aab ok212,trivial,trivial⟩⟩,⟨Aab ok116,⟨Aab ok180,trivial,trivial⟩,⟨Aac _,trivial,trivial⟩⟩⟩⟩,⟨Aab ok28,⟨Aac _,⟨Aab ok76,⟨Aab ok140,⟨Aac _,trivial,trivial⟩,trivial⟩,⟨Aac _,trivial,trivial⟩⟩,⟨Aab ok108,⟨Aab ok172,trivial,trivial⟩,⟨Aab ok236,trivial,trivial⟩⟩⟩,⟨Aab ok60,⟨Aac _,⟨Aac _,trivial,trivial⟩,⟨Aab ok220,trivial,trivial⟩⟩,⟨Aab ok124,⟨Aab ok188,trivial,trivial⟩,⟨Aab ok252,trivial,trivial⟩⟩⟩⟩⟩⟩,⟨Aab ok6,⟨Aab ok10,⟨Aab ok18,⟨Aab ok34,⟨Aab ok66,⟨Aab ok130,⟨Aac _,trivial,trivial⟩,trivial⟩,⟨Aab ok194,trivial,trivial⟩⟩,⟨Aab ok98,⟨Aac _,trivial,trivial⟩,⟨Aab ok226,trivial,trivial⟩⟩⟩,⟨Aab ok50,⟨Aab ok82,⟨Aab ok146,⟨Aac _,trivial,trivial⟩,trivial⟩,⟨Aac _,trivial,trivial⟩⟩,⟨Aab ok114,⟨Aab ok178,trivial,trivial⟩,⟨Aab ok242,trivial,trivial⟩⟩⟩⟩,⟨Aab ok26,⟨Aab ok42,⟨Aab ok74,⟨Aab ok138,⟨Aac _,trivial,trivial⟩,trivial⟩,⟨Aac _,trivial,trivial⟩⟩,⟨Aab ok106,⟨Aab ok170,trivial,trivial⟩,⟨Aab ok234,trivial,trivial⟩⟩⟩,⟨Aab ok58,⟨Aab ok90,⟨Aab ok154,⟨Aac _,trivial,trivial⟩,trivial⟩,⟨Aab ok218,trivial,trivial⟩⟩,⟨Aab ok122,⟨Aab ok186,trivial,trivial⟩,⟨Aab ok250,trivial,trivial⟩⟩⟩⟩⟩,⟨Aab ok14,⟨Aab ok22,⟨Aab ok38,⟨Aab ok70,⟨Aab ok134,⟨Aab ok262,trivial,trivial⟩,trivial⟩,⟨Aab ok198,trivial,trivial⟩⟩,⟨Aab ok102,⟨Aab ok166,trivial,trivial⟩,⟨Aab ok230,trivial,trivial⟩⟩⟩,⟨Aab ok54,⟨Aab ok86,⟨Aab ok150,⟨Aac _,trivial,trivial⟩,trivial⟩,⟨Aab ok214,trivial,trivial⟩⟩,⟨Aab ok118,⟨Aab ok182,trivial,trivial⟩,⟨Aac _,trivial,trivial⟩⟩⟩⟩,⟨Aab ok30,⟨Aab ok46,⟨Aab ok78,⟨Aab ok142,⟨Aac _,trivial,trivial⟩,trivial⟩,⟨Aac _,trivial,trivial⟩⟩,⟨Aab ok110,⟨Aab ok174,trivial,trivial⟩,⟨Aab ok238,trivial,trivial⟩⟩⟩,⟨Aab ok62,⟨Aab ok94,⟨Aab ok158,trivial,trivial⟩,⟨Aab ok222,trivial,trivial⟩⟩,⟨Aab ok126,⟨Aab ok190,trivial,trivial⟩,⟨Aab ok254,trivial,trivial⟩⟩⟩⟩⟩⟩⟩⟩)
end Go.Eva.S9
namespace Go.Eva
structure Entity where
 id:Int
 kind:Int
 x:Int
 y:Int
 vx:Int
 vy:Int
 health:Int
 age:Int
 owner:Int
deriving DecidableEq,Inhabited
def Entity.enc (e:Entity):T:= .agg [ti e.id,ti e.kind,ti e.x,ti e.y,ti e.vx,ti e.vy,ti e.health,ti e.age,ti e.owner]
structure Config where
 cols:Int
 rows:Int
 players:Int
 window:Int
 seed:Int
deriving DecidableEq,Inhabited
def Config.enc (c:Config):T:= .agg [ti c.cols,ti c.rows,ti c.players,ti c.window,.int .u64 c.seed]
structure Input where
 dx:Int
 dy:Int
 fire:Bool
deriving DecidableEq,Inhabited
def Input.enc (i:Input):T:= .agg [ti i.dx,ti i.dy,.bool i.fire]
structure Cross where
 kind:Int
 frm:Int
 to:Int
 frame:Int
 ent:Entity
 x:Int
 y:Int
deriving DecidableEq,Inhabited
def Cross.enc (c:Cross):T:= .agg [ti c.kind,ti c.frm,ti c.to,ti c.frame,ti c.ent.id,ti c.ent.kind,ti c.ent.x,ti c.ent.y,ti c.ent.vx,ti c.ent.vy,ti c.ent.health,ti c.ent.age,ti c.ent.owner,ti c.x,ti c.y]
structure Region where
 frame:Int
 ents:List Entity
deriving DecidableEq,Inhabited
def Region.enc (s:Region):T:= .agg [ti s.frame,.sl 9 (s.ents.map Entity.enc)]
end Go.Eva
namespace Go.Eva
def within (v lo hi:Int):Bool:=decide (lo≤v)&&decide (v≤hi)
def Config.right (c:Config):Bool:=within c.cols 1 4&&within c.rows 1 4&&within c.players 1 6&&within c.window 1 16
def Config.zero:Config:=⟨0,0,0,0,0⟩
def Config.grid (c:Config):Config:=if c.right=true then c else Config.zero
def Config.regions (c:Config):Int:=if c.right=true then c.cols*c.rows else 0
def Config.width (c:Config):Int:=if c.right=true then c.cols*1024 else 0
def Config.height (c:Config):Int:=if c.right=true then c.rows*1024 else 0
def clamp (v lo hi:Int):Int:=if v<lo then lo else if v>hi then hi else v
def Config.of (c:Config) (x y:Int):Int:=if c.right=true then (clamp y 0 (c.height-1)).tdiv 1024*c.cols+(clamp x 0 (c.width-1)).tdiv 1024 else 0
def Config.is (c:Config) (r:Int):Bool:=within r 0 (c.regions-1)
def i64 (n:Int):Prop:= -9223372036854775808≤n∧n≤9223372036854775807
def Config.ok (c:Config):Prop:=i64 c.cols∧i64 c.rows∧i64 c.players∧i64 c.window∧0≤c.seed∧c.seed≤18446744073709551615
end Go.Eva
namespace Go.Eva
section
variable {cx:Cx} {t m:Nat} {ts:List T} {i:TI}
theorem Agu (hti:cx.ti.get t=some i) (hk:i.ty= .int .i64) (h:Conf cx m t ts): ∃n,ts= [ti n]∧i64 n:=by
 cases m with
 |zero=>exact h.elim
 |succ m=>
  simp only [Conf,hti,hk] at h
  obtain ⟨n,rfl,hw⟩:=h
  refine ⟨n,rfl,?_⟩
  simp [Lit.wf,IntKind.min,IntKind.max,IntKind.signed,IntKind.bits] at hw
  exact ⟨by omega,by omega⟩
def Entity.ok (e:Entity):Prop:=i64 e.id∧i64 e.kind∧i64 e.x∧i64 e.y∧i64 e.vx∧i64 e.vy∧i64 e.health∧i64 e.age∧i64 e.owner
def Input.ok (e:Input):Prop:=i64 e.dx∧i64 e.dy
def Cross.ok (c:Cross):Prop:=i64 c.kind∧i64 c.frm∧i64 c.to∧i64 c.frame∧c.ent.ok∧i64 c.x∧i64 c.y
theorem Afc (hti:cx.ti.get t=some i) (h: ∀fs,i.ty≠ .struct fs):isStruct cx t=false:=by
 unfold isStruct
 rw [hti]
 cases i with
 |mk ty s b q=>cases ty<;>simp_all
theorem Ahk (hti:cx.ti.get t=some i) (hk:i.ty= .int .i64) {x:T} (h:Arg cx m t x): ∃n,x=ti n∧i64 n:=by
 obtain ⟨h1,h2,h3,h4⟩:=h
 obtain ⟨n,h5,h6⟩:=Agu hti hk h4
 rw [h3 (Afc hti (by rw [hk];simp))] at h5
 exact ⟨n,by simpa using h5,h6⟩
end
end Go.Eva