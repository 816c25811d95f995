/- A part of the proof of TopSoundsDescribed (texts Yf Yj Yk Yl): an executor of the program's code, proved sound, and its runs. No condition. -/
import Derived.Test.YtdflipbphcmpoaaGreatDoorP10
import Derived.Shelf.Strings.OnBuilder
import Derived.Lib.Bytealg
import Derived.Below
set_option linter.unusedSimpArgs false
set_option linter.unusedVariables false
set_option maxRecDepth 100000
open Go.Proofs.YtdflipbphcmpoaaGreatDoor.Cd
namespace Go.Sx
open Go.Proofs
inductive Tab where
 | leaf
 | node (l:Tab) (k:Nat) (f:AFun) (r:Tab)
def Tab.get:Tab→Nat→Option AFun
 | .leaf,_=>none
 | .node l k f r,i=>if Nat.beq i k then some f else if Nat.ble i k then l.get i else r.get i
def Tab.All (p:Nat→AFun→Prop):Tab→Prop
 | .leaf=>True
 | .node l k f r=>l.All p∧p k f∧r.All p
theorem Tab.All.get {p:Nat→AFun→Prop}:∀ {t:Tab},t.All p→∀ {i:Nat} {f:AFun},t.get i=some f→p i f
 | .leaf,_,i,f,h=>by cases h
 | .node l k g r,ha,i,f,h=>by
  simp only [Tab.get] at h
  split at h
  ·rename_i hk
   cases h
   rw [Nat.eq_of_beq_eq_true hk]
   exact ha.2.1
  ·split at h
   ·exact Tab.All.get ha.1 h
   ·exact Tab.All.get ha.2.2 h
def tab:Tab:=(.node (.node (.node (.node (.node (.node (.node (.node .leaf 3 c3 .leaf) 5 c5 .leaf) 6 c6 (.node (.node .leaf 7 c7 .leaf) 8 c8 .leaf)) 9 c9 (.node (.node (.node .leaf 10 c10 .leaf) 11 c11 .leaf) 12 c12 (.node .leaf 15 c15
 .leaf))) 16 c16 (.node (.node (.node (.node .leaf 17 c17 .leaf) 18 c18 .leaf) 19 c19 (.node (.node .leaf 20 c20 .leaf) 21 c21 .leaf)) 22 c22 (.node (.node (.node .leaf 23 c23 .leaf) 24 c24 .leaf) 25 c25 (.node .leaf 26 c26 .leaf)))) 27 c27
 (.node (.node (.node (.node (.node .leaf 28 c28 .leaf) 29 c29 .leaf) 30 c30 (.node (.node .leaf 31 c31 .leaf) 32 c32 .leaf)) 33 c33 (.node (.node (.node .leaf 34 c34 .leaf) 35 c35 .leaf) 36 c36 (.node .leaf 41 c41 .leaf))) 42 c42 (.node
 (.node (.node (.node .leaf 43 c43 .leaf) 44 c44 .leaf) 45 c45 (.node (.node .leaf 46 c46 .leaf) 47 c47 .leaf)) 48 c48 (.node (.node (.node .leaf 49 c49 .leaf) 50 c50 .leaf) 51 c51 (.node .leaf 52 c52 .leaf))))) 53 c53 (.node (.node (.node
 (.node (.node (.node .leaf 54 c54 .leaf) 55 c55 .leaf) 56 c56 (.node (.node .leaf 57 c57 .leaf) 58 c58 .leaf)) 59 c59 (.node (.node (.node .leaf 60 c60 .leaf) 61 c61 .leaf) 62 c62 (.node .leaf 63 c63 .leaf))) 64 c64 (.node (.node (.node
 (.node .leaf 65 c65 .leaf) 66 c66 .leaf) 67 c67 (.node (.node .leaf 68 c68 .leaf) 69 c69 .leaf)) 70 c70 (.node (.node (.node .leaf 71 c71 .leaf) 72 c72 .leaf) 73 c73 (.node .leaf 74 c74 .leaf)))) 75 c75 (.node (.node (.node (.node (.node
 .leaf 76 c76 .leaf) 77 c77 .leaf) 78 c78 (.node (.node .leaf 79 c79 .leaf) 80 c80 .leaf)) 81 c81 (.node (.node (.node .leaf 82 c82 .leaf) 83 c83 .leaf) 84 c84 (.node .leaf 85 c85 .leaf))) 86 c86 (.node (.node (.node (.node .leaf 87 c87
 .leaf) 88 c88 .leaf) 89 c89 (.node (.node .leaf 90 c90 .leaf) 91 c91 .leaf)) 92 c92 (.node (.node (.node .leaf 100 c100 .leaf) 101 c101 .leaf) 104 c104 (.node .leaf 105 c105 .leaf)))))) 106 c106 (.node (.node (.node (.node (.node (.node
 (.node .leaf 107 c107 .leaf) 108 c108 .leaf) 109 c109 (.node (.node .leaf 110 c110 .leaf) 111 c111 .leaf)) 112 c112 (.node (.node (.node .leaf 113 c113 .leaf) 114 c114 .leaf) 115 c115 (.node .leaf 116 c116 .leaf))) 117 c117 (.node (.node
 (.node (.node .leaf 118 c118 .leaf) 119 c119 .leaf) 120 c120 (.node (.node .leaf 121 c121 .leaf) 122 c122 .leaf)) 123 c123 (.node (.node (.node .leaf 124 c124 .leaf) 125 c125 .leaf) 126 c126 (.node .leaf 127 c127 .leaf)))) 128 c128 (.node
 (.node (.node (.node (.node .leaf 136 c136 .leaf) 138 c138 .leaf) 140 c140 (.node (.node .leaf 141 c141 .leaf) 142 c142 .leaf)) 144 c144 (.node (.node (.node .leaf 145 c145 .leaf) 146 c146 .leaf) 147 c147 (.node .leaf 148 c148 .leaf))) 149
 c149 (.node (.node (.node (.node .leaf 150 c150 .leaf) 151 c151 .leaf) 152 c152 (.node (.node .leaf 153 c153 .leaf) 154 c154 .leaf)) 155 c155 (.node (.node (.node .leaf 156 c156 .leaf) 157 c157 .leaf) 158 c158 (.node .leaf 159 c159
 .leaf))))) 160 c160 (.node (.node (.node (.node (.node (.node .leaf 161 c161 .leaf) 162 c162 .leaf) 163 c163 (.node (.node .leaf 173 c173 .leaf) 174 c174 .leaf)) 179 c179 (.node (.node (.node .leaf 180 c180 .leaf) 181 c181 .leaf) 182 c182
 (.node .leaf 183 c183 .leaf))) 184 c184 (.node (.node (.node (.node .leaf 185 c185 .leaf) 186 c186 .leaf) 187 c187 (.node (.node .leaf 188 c188 .leaf) 189 c189 .leaf)) 190 c190 (.node (.node (.node .leaf 191 c191 .leaf) 192 c192 .leaf) 193
 c193 (.node .leaf 194 c194 .leaf)))) 195 c195 (.node (.node (.node (.node (.node .leaf 196 c196 .leaf) 197 c197 .leaf) 198 c198 (.node (.node .leaf 204 c204 .leaf) 205 c205 .leaf)) 206 c206 (.node (.node (.node .leaf 207 c207 .leaf) 208
 c208 .leaf) 209 c209 (.node .leaf 210 c210 .leaf))) 211 c211 (.node (.node (.node (.node .leaf 212 c212 .leaf) 213 c213 .leaf) 218 c218 (.node .leaf 219 c219 .leaf)) 220 c220 (.node (.node (.node .leaf 221 c221 .leaf) 222 c222 .leaf) 225
 c225 (.node .leaf 226 c226 .leaf)))))))
theorem g3:Tryz.prog.funcs[3]?=some Tryz.f3:=by kernel_rfl
theorem g5:Tryz.prog.funcs[5]?=some Tryz.f5:=by kernel_rfl
theorem g6:Tryz.prog.funcs[6]?=some Tryz.f6:=by kernel_rfl
theorem g7:Tryz.prog.funcs[7]?=some Tryz.f7:=by kernel_rfl
theorem g8:Tryz.prog.funcs[8]?=some Tryz.f8:=by kernel_rfl
theorem g9:Tryz.prog.funcs[9]?=some Tryz.f9:=by kernel_rfl
theorem g10:Tryz.prog.funcs[10]?=some Tryz.f10:=by kernel_rfl
theorem g11:Tryz.prog.funcs[11]?=some Tryz.f11:=by kernel_rfl
theorem g12:Tryz.prog.funcs[12]?=some Tryz.f12:=by kernel_rfl
theorem g15:Tryz.prog.funcs[15]?=some Tryz.f15:=by kernel_rfl
theorem g16:Tryz.prog.funcs[16]?=some Tryz.f16:=by kernel_rfl
theorem g17:Tryz.prog.funcs[17]?=some Tryz.f17:=by kernel_rfl
theorem g18:Tryz.prog.funcs[18]?=some Tryz.f18:=by kernel_rfl
theorem g19:Tryz.prog.funcs[19]?=some Tryz.f19:=by kernel_rfl
theorem g20:Tryz.prog.funcs[20]?=some Tryz.f20:=by kernel_rfl
theorem g21:Tryz.prog.funcs[21]?=some Tryz.f21:=by kernel_rfl
theorem g22:Tryz.prog.funcs[22]?=some Tryz.f22:=by kernel_rfl
theorem g23:Tryz.prog.funcs[23]?=some Tryz.f23:=by kernel_rfl
theorem g24:Tryz.prog.funcs[24]?=some Tryz.f24:=by kernel_rfl
theorem g25:Tryz.prog.funcs[25]?=some Tryz.f25:=by kernel_rfl
theorem g26:Tryz.prog.funcs[26]?=some Tryz.f26:=by kernel_rfl
theorem g27:Tryz.prog.funcs[27]?=some Tryz.f27:=by kernel_rfl
theorem g28:Tryz.prog.funcs[28]?=some Tryz.f28:=by kernel_rfl
theorem g29:Tryz.prog.funcs[29]?=some Tryz.f29:=by kernel_rfl
theorem g30:Tryz.prog.funcs[30]?=some Tryz.f30:=by kernel_rfl
theorem g31:Tryz.prog.funcs[31]?=some Tryz.f31:=by kernel_rfl
theorem g32:Tryz.prog.funcs[32]?=some Tryz.f32:=by kernel_rfl
theorem g33:Tryz.prog.funcs[33]?=some Tryz.f33:=by kernel_rfl
theorem g34:Tryz.prog.funcs[34]?=some Tryz.f34:=by kernel_rfl
theorem g35:Tryz.prog.funcs[35]?=some Tryz.f35:=by kernel_rfl
theorem g36:Tryz.prog.funcs[36]?=some Tryz.f36:=by kernel_rfl
theorem g41:Tryz.prog.funcs[41]?=some Tryz.f41:=by kernel_rfl
theorem g42:Tryz.prog.funcs[42]?=some Tryz.f42:=by kernel_rfl
theorem g43:Tryz.prog.funcs[43]?=some Tryz.f43:=by kernel_rfl
theorem g44:Tryz.prog.funcs[44]?=some Tryz.f44:=by kernel_rfl
theorem g45:Tryz.prog.funcs[45]?=some Tryz.f45:=by kernel_rfl
theorem g46:Tryz.prog.funcs[46]?=some Tryz.f46:=by kernel_rfl
theorem g47:Tryz.prog.funcs[47]?=some Tryz.f47:=by kernel_rfl
theorem g48:Tryz.prog.funcs[48]?=some Tryz.f48:=by kernel_rfl
theorem g49:Tryz.prog.funcs[49]?=some Tryz.f49:=by kernel_rfl
theorem g50:Tryz.prog.funcs[50]?=some Tryz.f50:=by kernel_rfl
theorem g51:Tryz.prog.funcs[51]?=some Tryz.f51:=by kernel_rfl
theorem g52:Tryz.prog.funcs[52]?=some Tryz.f52:=by kernel_rfl
theorem g53:Tryz.prog.funcs[53]?=some Tryz.f53:=by kernel_rfl
theorem g54:Tryz.prog.funcs[54]?=some Tryz.f54:=by kernel_rfl
theorem g55:Tryz.prog.funcs[55]?=some Tryz.f55:=by kernel_rfl
theorem g56:Tryz.prog.funcs[56]?=some Tryz.f56:=by kernel_rfl
theorem g57:Tryz.prog.funcs[57]?=some Tryz.f57:=by kernel_rfl
theorem g58:Tryz.prog.funcs[58]?=some Tryz.f58:=by kernel_rfl
theorem g59:Tryz.prog.funcs[59]?=some Tryz.f59:=by kernel_rfl
theorem g60:Tryz.prog.funcs[60]?=some Tryz.f60:=by kernel_rfl
theorem g61:Tryz.prog.funcs[61]?=some Tryz.f61:=by kernel_rfl
theorem g62:Tryz.prog.funcs[62]?=some Tryz.f62:=by kernel_rfl
theorem g63:Tryz.prog.funcs[63]?=some Tryz.f63:=by kernel_rfl
theorem g64:Tryz.prog.funcs[64]?=some Tryz.f64:=by kernel_rfl
theorem g65:Tryz.prog.funcs[65]?=some Tryz.f65:=by kernel_rfl
theorem g66:Tryz.prog.funcs[66]?=some Tryz.f66:=by kernel_rfl
theorem g67:Tryz.prog.funcs[67]?=some Tryz.f67:=by kernel_rfl
theorem g68:Tryz.prog.funcs[68]?=some Tryz.f68:=by kernel_rfl
theorem g69:Tryz.prog.funcs[69]?=some Tryz.f69:=by kernel_rfl
theorem g70:Tryz.prog.funcs[70]?=some Tryz.f70:=by kernel_rfl
theorem g71:Tryz.prog.funcs[71]?=some Tryz.f71:=by kernel_rfl
theorem g72:Tryz.prog.funcs[72]?=some Tryz.f72:=by kernel_rfl
theorem g73:Tryz.prog.funcs[73]?=some Tryz.f73:=by kernel_rfl
theorem g74:Tryz.prog.funcs[74]?=some Tryz.f74:=by kernel_rfl
theorem g75:Tryz.prog.funcs[75]?=some Tryz.f75:=by kernel_rfl
theorem g76:Tryz.prog.funcs[76]?=some Tryz.f76:=by kernel_rfl
theorem g77:Tryz.prog.funcs[77]?=some Tryz.f77:=by kernel_rfl
theorem g78:Tryz.prog.funcs[78]?=some Tryz.f78:=by kernel_rfl
theorem g79:Tryz.prog.funcs[79]?=some Tryz.f79:=by kernel_rfl
theorem g80:Tryz.prog.funcs[80]?=some Tryz.f80:=by kernel_rfl
theorem g81:Tryz.prog.funcs[81]?=some Tryz.f81:=by kernel_rfl
theorem g82:Tryz.prog.funcs[82]?=some Tryz.f82:=by kernel_rfl
theorem g83:Tryz.prog.funcs[83]?=some Tryz.f83:=by kernel_rfl
theorem g84:Tryz.prog.funcs[84]?=some Tryz.f84:=by kernel_rfl
theorem g85:Tryz.prog.funcs[85]?=some Tryz.f85:=by kernel_rfl
theorem g86:Tryz.prog.funcs[86]?=some Tryz.f86:=by kernel_rfl
theorem g87:Tryz.prog.funcs[87]?=some Tryz.f87:=by kernel_rfl
theorem g88:Tryz.prog.funcs[88]?=some Tryz.f88:=by kernel_rfl
theorem g89:Tryz.prog.funcs[89]?=some Tryz.f89:=by kernel_rfl
theorem g90:Tryz.prog.funcs[90]?=some Tryz.f90:=by kernel_rfl
theorem g91:Tryz.prog.funcs[91]?=some Tryz.f91:=by kernel_rfl
theorem g92:Tryz.prog.funcs[92]?=some Tryz.f92:=by kernel_rfl
theorem g100:Tryz.prog.funcs[100]?=some Tryz.f100:=by kernel_rfl
theorem g101:Tryz.prog.funcs[101]?=some Tryz.f101:=by kernel_rfl
theorem g104:Tryz.prog.funcs[104]?=some Tryz.f104:=by kernel_rfl
theorem g105:Tryz.prog.funcs[105]?=some Tryz.f105:=by kernel_rfl
theorem g106:Tryz.prog.funcs[106]?=some Tryz.f106:=by kernel_rfl
theorem g107:Tryz.prog.funcs[107]?=some Tryz.f107:=by kernel_rfl
theorem g108:Tryz.prog.funcs[108]?=some Tryz.f108:=by kernel_rfl
theorem g109:Tryz.prog.funcs[109]?=some Tryz.f109:=by kernel_rfl
theorem g110:Tryz.prog.funcs[110]?=some Tryz.f110:=by kernel_rfl
theorem g111:Tryz.prog.funcs[111]?=some Tryz.f111:=by kernel_rfl
theorem g112:Tryz.prog.funcs[112]?=some Tryz.f112:=by kernel_rfl
theorem g113:Tryz.prog.funcs[113]?=some Tryz.f113:=by kernel_rfl
theorem g114:Tryz.prog.funcs[114]?=some Tryz.f114:=by kernel_rfl
theorem g115:Tryz.prog.funcs[115]?=some Tryz.f115:=by kernel_rfl
theorem g116:Tryz.prog.funcs[116]?=some Tryz.f116:=by kernel_rfl
theorem g117:Tryz.prog.funcs[117]?=some Tryz.f117:=by kernel_rfl
theorem g118:Tryz.prog.funcs[118]?=some Tryz.f118:=by kernel_rfl
theorem g119:Tryz.prog.funcs[119]?=some Tryz.f119:=by kernel_rfl
theorem g120:Tryz.prog.funcs[120]?=some Tryz.f120:=by kernel_rfl
theorem g121:Tryz.prog.funcs[121]?=some Tryz.f121:=by kernel_rfl
theorem g122:Tryz.prog.funcs[122]?=some Tryz.f122:=by kernel_rfl
theorem g123:Tryz.prog.funcs[123]?=some Tryz.f123:=by kernel_rfl
theorem g124:Tryz.prog.funcs[124]?=some Tryz.f124:=by kernel_rfl
theorem g125:Tryz.prog.funcs[125]?=some Tryz.f125:=by kernel_rfl
theorem g126:Tryz.prog.funcs[126]?=some Tryz.f126:=by kernel_rfl
theorem g127:Tryz.prog.funcs[127]?=some Tryz.f127:=by kernel_rfl
theorem g128:Tryz.prog.funcs[128]?=some Tryz.f128:=by kernel_rfl
theorem g136:Tryz.prog.funcs[136]?=some Tryz.f136:=by kernel_rfl
theorem g138:Tryz.prog.funcs[138]?=some Tryz.f138:=by kernel_rfl
theorem g140:Tryz.prog.funcs[140]?=some Tryz.f140:=by kernel_rfl
theorem g141:Tryz.prog.funcs[141]?=some Tryz.f141:=by kernel_rfl
theorem g142:Tryz.prog.funcs[142]?=some Tryz.f142:=by kernel_rfl
theorem g144:Tryz.prog.funcs[144]?=some Tryz.f144:=by kernel_rfl
theorem g145:Tryz.prog.funcs[145]?=some Tryz.f145:=by kernel_rfl
theorem g146:Tryz.prog.funcs[146]?=some Tryz.f146:=by kernel_rfl
theorem g147:Tryz.prog.funcs[147]?=some Tryz.f147:=by kernel_rfl
theorem g148:Tryz.prog.funcs[148]?=some Tryz.f148:=by kernel_rfl
theorem g149:Tryz.prog.funcs[149]?=some Tryz.f149:=by kernel_rfl
theorem g150:Tryz.prog.funcs[150]?=some Tryz.f150:=by kernel_rfl
theorem g151:Tryz.prog.funcs[151]?=some Tryz.f151:=by kernel_rfl
theorem g152:Tryz.prog.funcs[152]?=some Tryz.f152:=by kernel_rfl
theorem g153:Tryz.prog.funcs[153]?=some Tryz.f153:=by kernel_rfl
theorem g154:Tryz.prog.funcs[154]?=some Tryz.f154:=by kernel_rfl
theorem g155:Tryz.prog.funcs[155]?=some Tryz.f155:=by kernel_rfl
theorem g156:Tryz.prog.funcs[156]?=some Tryz.f156:=by kernel_rfl
theorem g157:Tryz.prog.funcs[157]?=some Tryz.f157:=by kernel_rfl
theorem g158:Tryz.prog.funcs[158]?=some Tryz.f158:=by kernel_rfl
theorem g159:Tryz.prog.funcs[159]?=some Tryz.f159:=by kernel_rfl
theorem g160:Tryz.prog.funcs[160]?=some Tryz.f160:=by kernel_rfl
theorem g161:Tryz.prog.funcs[161]?=some Tryz.f161:=by kernel_rfl
theorem g162:Tryz.prog.funcs[162]?=some Tryz.f162:=by kernel_rfl
theorem g163:Tryz.prog.funcs[163]?=some Tryz.f163:=by kernel_rfl
theorem g173:Tryz.prog.funcs[173]?=some Tryz.f173:=by kernel_rfl
theorem g174:Tryz.prog.funcs[174]?=some Tryz.f174:=by kernel_rfl
theorem g179:Tryz.prog.funcs[179]?=some Tryz.f179:=by kernel_rfl
theorem g180:Tryz.prog.funcs[180]?=some Tryz.f180:=by kernel_rfl
theorem g181:Tryz.prog.funcs[181]?=some Tryz.f181:=by kernel_rfl
theorem g182:Tryz.prog.funcs[182]?=some Tryz.f182:=by kernel_rfl
theorem g183:Tryz.prog.funcs[183]?=some Tryz.f183:=by kernel_rfl
theorem g184:Tryz.prog.funcs[184]?=some Tryz.f184:=by kernel_rfl
theorem g185:Tryz.prog.funcs[185]?=some Tryz.f185:=by kernel_rfl
theorem g186:Tryz.prog.funcs[186]?=some Tryz.f186:=by kernel_rfl
theorem g187:Tryz.prog.funcs[187]?=some Tryz.f187:=by kernel_rfl
theorem g188:Tryz.prog.funcs[188]?=some Tryz.f188:=by kernel_rfl
theorem g189:Tryz.prog.funcs[189]?=some Tryz.f189:=by kernel_rfl
theorem g190:Tryz.prog.funcs[190]?=some Tryz.f190:=by kernel_rfl
theorem g191:Tryz.prog.funcs[191]?=some Tryz.f191:=by kernel_rfl
theorem g192:Tryz.prog.funcs[192]?=some Tryz.f192:=by kernel_rfl
theorem g193:Tryz.prog.funcs[193]?=some Tryz.f193:=by kernel_rfl
theorem g194:Tryz.prog.funcs[194]?=some Tryz.f194:=by kernel_rfl
theorem g195:Tryz.prog.funcs[195]?=some Tryz.f195:=by kernel_rfl
theorem g196:Tryz.prog.funcs[196]?=some Tryz.f196:=by kernel_rfl
theorem g197:Tryz.prog.funcs[197]?=some Tryz.f197:=by kernel_rfl
theorem g198:Tryz.prog.funcs[198]?=some Tryz.f198:=by kernel_rfl
theorem g204:Tryz.prog.funcs[204]?=some Tryz.f204:=by kernel_rfl
theorem g205:Tryz.prog.funcs[205]?=some Tryz.f205:=by kernel_rfl
theorem g206:Tryz.prog.funcs[206]?=some Tryz.f206:=by kernel_rfl
theorem g207:Tryz.prog.funcs[207]?=some Tryz.f207:=by kernel_rfl
theorem g208:Tryz.prog.funcs[208]?=some Tryz.f208:=by kernel_rfl
theorem g209:Tryz.prog.funcs[209]?=some Tryz.f209:=by kernel_rfl
theorem g210:Tryz.prog.funcs[210]?=some Tryz.f210:=by kernel_rfl
theorem g211:Tryz.prog.funcs[211]?=some Tryz.f211:=by kernel_rfl
theorem g212:Tryz.prog.funcs[212]?=some Tryz.f212:=by kernel_rfl
theorem g213:Tryz.prog.funcs[213]?=some Tryz.f213:=by kernel_rfl
theorem g218:Tryz.prog.funcs[218]?=some Tryz.f218:=by kernel_rfl
theorem g219:Tryz.prog.funcs[219]?=some Tryz.f219:=by kernel_rfl
theorem g220:Tryz.prog.funcs[220]?=some Tryz.f220:=by kernel_rfl
theorem g221:Tryz.prog.funcs[221]?=some Tryz.f221:=by kernel_rfl
theorem g222:Tryz.prog.funcs[222]?=some Tryz.f222:=by kernel_rfl
theorem g225:Tryz.prog.funcs[225]?=some Tryz.f225:=by kernel_rfl
theorem g226:Tryz.prog.funcs[226]?=some Tryz.f226:=by kernel_rfl
def acc1:AC:=(.block 8 (.loop (.seq (.ops false [⟨0,some 50,.bin .lss (.t 49) (.c (.int .i64 256)),none,[]⟩] (some [1,3,6,27,28,31,32,33,39,40,41,48,49,50,63]))
(.seq (.cond (.t 50) (.skip)
(.exit 8))
(.seq (.block 9 (.seq (.ops false [⟨0,some 51,.mv (.t 49),none,[]⟩,⟨1,some 52,.ixA 256 (.t 48) (.t 49),none,[]⟩,⟨2,some 10,.mv (.t 51),none,[]⟩,⟨3,some 11,.mv (.t 52),none,[]⟩] (some [1,3,6,10,11,27,28,31,32,33,39,40,41,48,49,63]))
(.ops true [⟨0,some 53,.mv (.t 3),none,[]⟩,⟨1,some 54,.mv (.t 6),none,[]⟩,⟨2,some 55,.mv (.t 10),none,[]⟩,⟨3,some 56,.mv (.t 3),none,[]⟩,⟨4,some 57,.mv (.t 6),none,[]⟩,⟨5,some 58,.mv (.t 10),none,[]⟩,⟨6,some 59,.ia 256 (.t 56) (.t 57),none,[]⟩,⟨7,some 60,.iaA 256 1 (.t 59) (.t 58),none,[]⟩,⟨8,some 61,.ld1 (.t 60),none,[]⟩,⟨9,some 62,.mv (.t 61),none,[]⟩,⟨10,some 63,.mv (.t 11),(some (some 62,false)),[]⟩,⟨11,some 64,.pick (.t 62) (.c (.bool true)) (.t 63),none,[]⟩,⟨12,some 65,.ia 256 (.t 53) (.t 54),none,[]⟩,⟨13,some 66,.iaA 256 1 (.t 65) (.t 55),none,[]⟩,⟨14,none,.st 1 (.t 66) (.t 64),none,[]⟩] (some [1,3,6,27,28,31,32,33,39,40,41,48,49,63]))))
(.ops false [⟨0,some 67,.bin .add (.t 49) (.c (.int .i64 1)),none,[]⟩,⟨1,some 49,.mv (.t 67),none,[]⟩] (some [1,3,6,27,28,31,32,33,39,40,41,48,49,63])))))))
def accsT:Nat→Option AC
 | 1=>some acc1
 | _=>none
def noAcc:AC→Bool
 | .seq a b | .cond _ a b=>noAcc a && noAcc b
 | .block _ c | .loop c=>noAcc c
 | .acc ..=>false
 | _=>true
theorem noAcc_ok {T:Nat→Option AC}:∀ {c:AC},noAcc c=true→AccOK T c
 | .seq a b,h | .cond _ a b,h=>by
  simp only [noAcc,Bool.and_eq_true] at h
  exact ⟨noAcc_ok h.1,noAcc_ok h.2⟩
 | .block _ c,h | .loop c,h=>by
  simp only [noAcc] at h
  simp only [AccOK]
  exact noAcc_ok h
 | .acc ..,h=>by cases h
 | .skip,_ | .ops ..,_ | .exit _,_ | .ret,_ | .stop,_=>trivial
theorem a3:noAcc c3.code=true:=by kernel_rfl
theorem a5:noAcc c5.code=true:=by kernel_rfl
theorem a6:noAcc c6.code=true:=by kernel_rfl
theorem a7:noAcc c7.code=true:=by kernel_rfl
theorem a8:noAcc c8.code=true:=by kernel_rfl
theorem a9:noAcc c9.code=true:=by kernel_rfl
theorem a10:noAcc c10.code=true:=by kernel_rfl
theorem a11:noAcc c11.code=true:=by kernel_rfl
theorem a12:noAcc c12.code=true:=by kernel_rfl
theorem a15:noAcc c15.code=true:=by kernel_rfl
theorem a16:noAcc c16.code=true:=by kernel_rfl
theorem a17:noAcc c17.code=true:=by kernel_rfl
theorem a18:noAcc c18.code=true:=by kernel_rfl
theorem a19:noAcc c19.code=true:=by kernel_rfl
theorem a20:noAcc c20.code=true:=by kernel_rfl
theorem a21:noAcc c21.code=true:=by kernel_rfl
theorem a22:noAcc c22.code=true:=by kernel_rfl
theorem a23:noAcc c23.code=true:=by kernel_rfl
theorem a24:noAcc c24.code=true:=by kernel_rfl
theorem a25:noAcc c25.code=true:=by kernel_rfl
theorem a26:noAcc c26.code=true:=by kernel_rfl
theorem a27:noAcc c27.code=true:=by kernel_rfl
theorem a28:noAcc c28.code=true:=by kernel_rfl
theorem a29:noAcc c29.code=true:=by kernel_rfl
theorem a30:noAcc c30.code=true:=by kernel_rfl
theorem a31:noAcc c31.code=true:=by kernel_rfl
theorem a32:noAcc c32.code=true:=by kernel_rfl
theorem a33:noAcc c33.code=true:=by kernel_rfl
theorem a34:noAcc c34.code=true:=by kernel_rfl
theorem a35:noAcc c35.code=true:=by kernel_rfl
theorem a36:noAcc c36.code=true:=by kernel_rfl
theorem a41:noAcc c41.code=true:=by kernel_rfl
theorem a42:noAcc c42.code=true:=by kernel_rfl
theorem a43:noAcc c43.code=true:=by kernel_rfl
theorem a44:noAcc c44.code=true:=by kernel_rfl
theorem a45:noAcc c45.code=true:=by kernel_rfl
theorem a46:noAcc c46.code=true:=by kernel_rfl
theorem a47:noAcc c47.code=true:=by kernel_rfl
theorem a48:noAcc c48.code=true:=by kernel_rfl
theorem a49:noAcc c49.code=true:=by kernel_rfl
theorem a50:noAcc c50.code=true:=by kernel_rfl
theorem a51:noAcc c51.code=true:=by kernel_rfl
theorem a52:noAcc c52.code=true:=by kernel_rfl
theorem a53:noAcc c53.code=true:=by kernel_rfl
theorem a54:noAcc c54.code=true:=by kernel_rfl
theorem a55:noAcc c55.code=true:=by kernel_rfl
theorem a56:noAcc c56.code=true:=by kernel_rfl
theorem a57:noAcc c57.code=true:=by kernel_rfl
theorem a58:noAcc c58.code=true:=by kernel_rfl
theorem a59:noAcc c59.code=true:=by kernel_rfl
theorem a60:noAcc c60.code=true:=by kernel_rfl
theorem a61:noAcc c61.code=true:=by kernel_rfl
theorem a62:noAcc c62.code=true:=by kernel_rfl
theorem a63:noAcc c63.code=true:=by kernel_rfl
theorem a64:noAcc c64.code=true:=by kernel_rfl
theorem a65:noAcc c65.code=true:=by kernel_rfl
theorem a66:noAcc c66.code=true:=by kernel_rfl
theorem a67:noAcc c67.code=true:=by kernel_rfl
theorem a68:noAcc c68.code=true:=by kernel_rfl
theorem a69:noAcc c69.code=true:=by kernel_rfl
theorem a70:noAcc c70.code=true:=by kernel_rfl
theorem a71:noAcc c71.code=true:=by kernel_rfl
theorem a72:noAcc c72.code=true:=by kernel_rfl
theorem a73:noAcc c73.code=true:=by kernel_rfl
theorem a74:noAcc c74.code=true:=by kernel_rfl
theorem a75:noAcc c75.code=true:=by kernel_rfl
theorem a76:noAcc c76.code=true:=by kernel_rfl
theorem a77:noAcc c77.code=true:=by kernel_rfl
theorem a78:noAcc c78.code=true:=by kernel_rfl
theorem a79:noAcc c79.code=true:=by kernel_rfl
theorem a80:noAcc c80.code=true:=by kernel_rfl
theorem a81:noAcc c81.code=true:=by kernel_rfl
theorem a82:noAcc c82.code=true:=by kernel_rfl
theorem a83:noAcc c83.code=true:=by kernel_rfl
theorem a84:noAcc c84.code=true:=by kernel_rfl
theorem a85:noAcc c85.code=true:=by kernel_rfl
theorem a86:noAcc c86.code=true:=by kernel_rfl
theorem a87:noAcc c87.code=true:=by kernel_rfl
theorem a88:noAcc c88.code=true:=by kernel_rfl
theorem a89:noAcc c89.code=true:=by kernel_rfl
theorem a90:noAcc c90.code=true:=by kernel_rfl
theorem a91:noAcc c91.code=true:=by kernel_rfl
theorem a92:noAcc c92.code=true:=by kernel_rfl
theorem a100:noAcc c100.code=true:=by kernel_rfl
theorem a101:noAcc c101.code=true:=by kernel_rfl
theorem a104:noAcc c104.code=true:=by kernel_rfl
theorem a105:noAcc c105.code=true:=by kernel_rfl
theorem a106:noAcc c106.code=true:=by kernel_rfl
theorem a107:noAcc c107.code=true:=by kernel_rfl
theorem a108:noAcc c108.code=true:=by kernel_rfl
theorem a109:noAcc c109.code=true:=by kernel_rfl
theorem a110:noAcc c110.code=true:=by kernel_rfl
theorem a111:noAcc c111.code=true:=by kernel_rfl
theorem a112:noAcc c112.code=true:=by kernel_rfl
theorem a114:noAcc c114.code=true:=by kernel_rfl
theorem a115:noAcc c115.code=true:=by kernel_rfl
theorem a116:noAcc c116.code=true:=by kernel_rfl
theorem a117:noAcc c117.code=true:=by kernel_rfl
theorem a118:noAcc c118.code=true:=by kernel_rfl
theorem a119:noAcc c119.code=true:=by kernel_rfl
theorem a120:noAcc c120.code=true:=by kernel_rfl
theorem a121:noAcc c121.code=true:=by kernel_rfl
theorem a122:noAcc c122.code=true:=by kernel_rfl
theorem a123:noAcc c123.code=true:=by kernel_rfl
theorem a124:noAcc c124.code=true:=by kernel_rfl
theorem a125:noAcc c125.code=true:=by kernel_rfl
theorem a126:noAcc c126.code=true:=by kernel_rfl
theorem a127:noAcc c127.code=true:=by kernel_rfl
theorem a128:noAcc c128.code=true:=by kernel_rfl
theorem a136:noAcc c136.code=true:=by kernel_rfl
theorem a138:noAcc c138.code=true:=by kernel_rfl
theorem a140:noAcc c140.code=true:=by kernel_rfl
theorem a141:noAcc c141.code=true:=by kernel_rfl
theorem a142:noAcc c142.code=true:=by kernel_rfl
theorem a144:noAcc c144.code=true:=by kernel_rfl
theorem a145:noAcc c145.code=true:=by kernel_rfl
theorem a146:noAcc c146.code=true:=by kernel_rfl
theorem a147:noAcc c147.code=true:=by kernel_rfl
theorem a148:noAcc c148.code=true:=by kernel_rfl
theorem a149:noAcc c149.code=true:=by kernel_rfl
theorem a150:noAcc c150.code=true:=by kernel_rfl
theorem a151:noAcc c151.code=true:=by kernel_rfl
theorem a152:noAcc c152.code=true:=by kernel_rfl
theorem a153:noAcc c153.code=true:=by kernel_rfl
theorem a154:noAcc c154.code=true:=by kernel_rfl
theorem a155:noAcc c155.code=true:=by kernel_rfl
theorem a156:noAcc c156.code=true:=by kernel_rfl
theorem a157:noAcc c157.code=true:=by kernel_rfl
theorem a158:noAcc c158.code=true:=by kernel_rfl
theorem a159:noAcc c159.code=true:=by kernel_rfl
theorem a160:noAcc c160.code=true:=by kernel_rfl
theorem a161:noAcc c161.code=true:=by kernel_rfl
theorem a162:noAcc c162.code=true:=by kernel_rfl
theorem a163:noAcc c163.code=true:=by kernel_rfl
theorem a173:noAcc c173.code=true:=by kernel_rfl
theorem a174:noAcc c174.code=true:=by kernel_rfl
theorem a179:noAcc c179.code=true:=by kernel_rfl
theorem a180:noAcc c180.code=true:=by kernel_rfl
theorem a181:noAcc c181.code=true:=by kernel_rfl
theorem a182:noAcc c182.code=true:=by kernel_rfl
theorem a183:noAcc c183.code=true:=by kernel_rfl
theorem a184:noAcc c184.code=true:=by kernel_rfl
theorem a185:noAcc c185.code=true:=by kernel_rfl
theorem a186:noAcc c186.code=true:=by kernel_rfl
theorem a187:noAcc c187.code=true:=by kernel_rfl
theorem a188:noAcc c188.code=true:=by kernel_rfl
theorem a189:noAcc c189.code=true:=by kernel_rfl
theorem a190:noAcc c190.code=true:=by kernel_rfl
theorem a191:noAcc c191.code=true:=by kernel_rfl
theorem a192:noAcc c192.code=true:=by kernel_rfl
theorem a193:noAcc c193.code=true:=by kernel_rfl
theorem a194:noAcc c194.code=true:=by kernel_rfl
theorem a195:noAcc c195.code=true:=by kernel_rfl
theorem a196:noAcc c196.code=true:=by kernel_rfl
theorem a197:noAcc c197.code=true:=by kernel_rfl
theorem a198:noAcc c198.code=true:=by kernel_rfl
theorem a204:noAcc c204.code=true:=by kernel_rfl
theorem a205:noAcc c205.code=true:=by kernel_rfl
theorem a206:noAcc c206.code=true:=by kernel_rfl
theorem a207:noAcc c207.code=true:=by kernel_rfl
theorem a208:noAcc c208.code=true:=by kernel_rfl
theorem a209:noAcc c209.code=true:=by kernel_rfl
theorem a210:noAcc c210.code=true:=by kernel_rfl
theorem a211:noAcc c211.code=true:=by kernel_rfl
theorem a212:noAcc c212.code=true:=by kernel_rfl
theorem a213:noAcc c213.code=true:=by kernel_rfl
theorem a218:noAcc c218.code=true:=by kernel_rfl
theorem a219:noAcc c219.code=true:=by kernel_rfl
theorem a220:noAcc c220.code=true:=by kernel_rfl
theorem a221:noAcc c221.code=true:=by kernel_rfl
theorem a222:noAcc c222.code=true:=by kernel_rfl
theorem a225:noAcc c225.code=true:=by kernel_rfl
theorem a226:noAcc c226.code=true:=by kernel_rfl
theorem a113:AccOK accsT c113.code:=by
 unfold c113
 simp only [AccOK,and_true,true_and]
 rfl
def yas0:AC:=.ops false [⟨0,some 8,.mv (.t 24),none,[]⟩] (some [2,3,7,8])
def ybd0:AC:=.block 1 (.seq (.ops false [⟨0,some 26,.mv (.t 8),none,[]⟩,⟨1,some 27,.len false (.t 26),none,[]⟩,⟨2,some 9,.mv (.t 27),none,[]⟩] (some [2,3,7,8,9]))
(.seq (.ops false [⟨0,some 28,.mv (.t 9),none,[]⟩,⟨1,some 29,.bin .gtr (.t 28) (.c (.int .i64 0)),none,[]⟩] (some [2,3,7,8,9,29]))
(.cond (.t 29) (.seq (.ops false [⟨0,some 31,.mv (.t 8),none,[]⟩,⟨1,some 32,.mv (.t 9),none,[]⟩,⟨2,some 33,.bin .sub (.t 32) (.c (.int .i64 1)),none,[]⟩,⟨3,some 34,.slc 1 (.t 31) none (some (.t 33)) none,none,[]⟩,⟨4,some 35,.call false 26 [(.t 2),(.t 34)],none,[]⟩,⟨5,some 30,.mv (.t 35),none,[]⟩,⟨6,some 36,.ext 0 (.t 30),none,[]⟩,⟨7,some 37,.ext 1 (.t 30),none,[]⟩,⟨8,some 11,.alloc [.int .i64 0,.int .i64 0],none,[]⟩,⟨9,some 10,.mv (.t 36),none,[]⟩,⟨10,none,.st 2 (.t 11) (.t 37),none,[]⟩] (some [3,7,8,9,10]))
(.seq (.ops true [⟨0,some 38,.mv (.t 10),none,[]⟩,⟨1,some 39,.nilck (.t 38),none,[]⟩,⟨2,some 40,.fa 0 (.t 39),none,[]⟩,⟨3,some 41,.ld1 (.t 40),none,[]⟩,⟨4,some 42,.bin .eql (.t 41) (.c (.int .i64 4)),none,[]⟩,⟨5,some 43,.mv (.t 42),none,[]⟩,⟨6,some 44,.mv (.t 10),(some (some 43,true)),[]⟩,⟨7,some 45,.nilck (.t 44),(some (some 43,true)),[]⟩,⟨8,some 46,.fa 3 (.t 45),(some (some 43,true)),[]⟩,⟨9,some 47,.ld1 (.t 46),(some (some 43,true)),[]⟩,⟨10,some 48,.mv (.t 8),(some (some 43,true)),[]⟩,⟨11,some 49,.mv (.t 9),(some (some 43,true)),[]⟩,⟨12,some 50,.bin .sub (.t 49) (.c (.int .i64 1)),(some (some 43,true)),[]⟩,⟨13,some 51,.ia 1 (.t 48) (.t 50),(some (some 43,true)),[]⟩,⟨14,some 52,.ld1 (.t 51),(some (some 43,true)),[]⟩,⟨15,some 53,.ia 1 (.t 47) (.t 52),(some (some 43,true)),[]⟩,⟨16,some 54,.ld1 (.t 53),(some (some 43,true)),[]⟩,⟨17,some 55,.ld1 (.t 3),(some (some 43,true)),[]⟩,⟨18,some 56,.bin .eql (.t 54) (.t 55),(some (some 43,true)),[]⟩,⟨19,some 57,.pick (.t 43) (.t 56) (.c (.bool false)),none,[]⟩] (some [7,8,57]))
(.cond (.t 57) (.ops false [⟨0,some 58,.ld1 (.t 7),none,[]⟩,⟨1,some 59,.mv (.t 8),none,[]⟩,⟨2,some 60,.mkS 1 [.nils] [(0,1,(.t 59))],none,[]⟩,⟨3,some 61,.app false 1 24 (.t 58) (.t 60),none,[]⟩,⟨4,none,.st 1 (.t 7) (.t 61),none,[]⟩] (some []))
(.skip))))
(.skip))))
def ybT:Nat→Option (List Nat × AC × AC)
 | 0=>some ([24,25],yas0,ybd0)
 | _=>none
theorem ybT_acc (id:Nat) (ps:List Nat) (a b:AC) (h:ybT id=some (ps,a,b)):AccOK accsT a∧AccOK accsT b:=by
 match id,h with
 | 0,h=>cases h; exact ⟨noAcc_ok (by kernel_rfl),noAcc_ok (by kernel_rfl)⟩
theorem tab_ok:tab.All fun id fn=>(∃ real g,Go.Proofs.Tryz.prog.funcs[id]?=some real∧compF Go.Proofs.Tryz.prog real g=some fn)∧AccOK accsT fn.code:=
 ⟨⟨⟨⟨⟨⟨⟨⟨trivial,⟨⟨_,_,g3,k3⟩,noAcc_ok a3⟩,trivial⟩,⟨⟨_,_,g5,k5⟩,noAcc_ok a5⟩,trivial⟩,⟨⟨_,_,g6,k6⟩,noAcc_ok a6⟩,⟨⟨trivial,⟨⟨_,_,g7,k7⟩,noAcc_ok a7⟩,trivial⟩,⟨⟨_,_,g8,k8⟩,noAcc_ok a8⟩,trivial⟩⟩,⟨⟨_,_,g9,k9⟩,
 noAcc_ok a9⟩,⟨⟨⟨trivial,⟨⟨_,_,g10,k10⟩,noAcc_ok a10⟩,trivial⟩,⟨⟨_,_,g11,k11⟩,noAcc_ok a11⟩,trivial⟩,⟨⟨_,_,g12,k12⟩,noAcc_ok a12⟩,⟨trivial,⟨⟨_,_,g15,k15⟩,noAcc_ok a15⟩,trivial⟩⟩⟩,⟨⟨_,_,g16,k16⟩,noAcc_ok a16⟩,
 ⟨⟨⟨⟨trivial,⟨⟨_,_,g17,k17⟩,noAcc_ok a17⟩,trivial⟩,⟨⟨_,_,g18,k18⟩,noAcc_ok a18⟩,trivial⟩,⟨⟨_,_,g19,k19⟩,noAcc_ok a19⟩,⟨⟨trivial,⟨⟨_,_,g20,k20⟩,noAcc_ok a20⟩,trivial⟩,⟨⟨_,_,g21,k21⟩,noAcc_ok a21⟩,trivial⟩⟩,⟨⟨_,
 _,g22,k22⟩,noAcc_ok a22⟩,⟨⟨⟨trivial,⟨⟨_,_,g23,k23⟩,noAcc_ok a23⟩,trivial⟩,⟨⟨_,_,g24,k24⟩,noAcc_ok a24⟩,trivial⟩,⟨⟨_,_,g25,k25⟩,noAcc_ok a25⟩,⟨trivial,⟨⟨_,_,g26,k26⟩,noAcc_ok a26⟩,trivial⟩⟩⟩⟩,⟨⟨_,_,g27,k27⟩,
 noAcc_ok a27⟩,⟨⟨⟨⟨⟨trivial,⟨⟨_,_,g28,k28⟩,noAcc_ok a28⟩,trivial⟩,⟨⟨_,_,g29,k29⟩,noAcc_ok a29⟩,trivial⟩,⟨⟨_,_,g30,k30⟩,noAcc_ok a30⟩,⟨⟨trivial,⟨⟨_,_,g31,k31⟩,noAcc_ok a31⟩,trivial⟩,⟨⟨_,_,g32,k32⟩,noAcc_ok a32⟩,
 trivial⟩⟩,⟨⟨_,_,g33,k33⟩,noAcc_ok a33⟩,⟨⟨⟨trivial,⟨⟨_,_,g34,k34⟩,noAcc_ok a34⟩,trivial⟩,⟨⟨_,_,g35,k35⟩,noAcc_ok a35⟩,trivial⟩,⟨⟨_,_,g36,k36⟩,noAcc_ok a36⟩,⟨trivial,⟨⟨_,_,g41,k41⟩,noAcc_ok a41⟩,trivial⟩⟩⟩,⟨⟨_,
 _,g42,k42⟩,noAcc_ok a42⟩,⟨⟨⟨⟨trivial,⟨⟨_,_,g43,k43⟩,noAcc_ok a43⟩,trivial⟩,⟨⟨_,_,g44,k44⟩,noAcc_ok a44⟩,trivial⟩,⟨⟨_,_,g45,k45⟩,noAcc_ok a45⟩,⟨⟨trivial,⟨⟨_,_,g46,k46⟩,noAcc_ok a46⟩,trivial⟩,⟨⟨_,_,g47,k47⟩,
 noAcc_ok a47⟩,trivial⟩⟩,⟨⟨_,_,g48,k48⟩,noAcc_ok a48⟩,⟨⟨⟨trivial,⟨⟨_,_,g49,k49⟩,noAcc_ok a49⟩,trivial⟩,⟨⟨_,_,g50,k50⟩,noAcc_ok a50⟩,trivial⟩,⟨⟨_,_,g51,k51⟩,noAcc_ok a51⟩,⟨trivial,⟨⟨_,_,g52,k52⟩,noAcc_ok a52⟩,
 trivial⟩⟩⟩⟩⟩,⟨⟨_,_,g53,k53⟩,noAcc_ok a53⟩,⟨⟨⟨⟨⟨⟨trivial,⟨⟨_,_,g54,k54⟩,noAcc_ok a54⟩,trivial⟩,⟨⟨_,_,g55,k55⟩,noAcc_ok a55⟩,trivial⟩,⟨⟨_,_,g56,k56⟩,noAcc_ok a56⟩,⟨⟨trivial,⟨⟨_,_,g57,k57⟩,noAcc_ok a57⟩,trivial⟩,
 ⟨⟨_,_,g58,k58⟩,noAcc_ok a58⟩,trivial⟩⟩,⟨⟨_,_,g59,k59⟩,noAcc_ok a59⟩,⟨⟨⟨trivial,⟨⟨_,_,g60,k60⟩,noAcc_ok a60⟩,trivial⟩,⟨⟨_,_,g61,k61⟩,noAcc_ok a61⟩,trivial⟩,⟨⟨_,_,g62,k62⟩,noAcc_ok a62⟩,⟨trivial,⟨⟨_,_,g63,
 k63⟩,noAcc_ok a63⟩,trivial⟩⟩⟩,⟨⟨_,_,g64,k64⟩,noAcc_ok a64⟩,⟨⟨⟨⟨trivial,⟨⟨_,_,g65,k65⟩,noAcc_ok a65⟩,trivial⟩,⟨⟨_,_,g66,k66⟩,noAcc_ok a66⟩,trivial⟩,⟨⟨_,_,g67,k67⟩,noAcc_ok a67⟩,⟨⟨trivial,⟨⟨_,_,g68,k68⟩,noAcc_ok
 a68⟩,trivial⟩,⟨⟨_,_,g69,k69⟩,noAcc_ok a69⟩,trivial⟩⟩,⟨⟨_,_,g70,k70⟩,noAcc_ok a70⟩,⟨⟨⟨trivial,⟨⟨_,_,g71,k71⟩,noAcc_ok a71⟩,trivial⟩,⟨⟨_,_,g72,k72⟩,noAcc_ok a72⟩,trivial⟩,⟨⟨_,_,g73,k73⟩,noAcc_ok a73⟩,⟨trivial,
 ⟨⟨_,_,g74,k74⟩,noAcc_ok a74⟩,trivial⟩⟩⟩⟩,⟨⟨_,_,g75,k75⟩,noAcc_ok a75⟩,⟨⟨⟨⟨⟨trivial,⟨⟨_,_,g76,k76⟩,noAcc_ok a76⟩,trivial⟩,⟨⟨_,_,g77,k77⟩,noAcc_ok a77⟩,trivial⟩,⟨⟨_,_,g78,k78⟩,noAcc_ok a78⟩,⟨⟨trivial,⟨⟨_,_,g79,
 k79⟩,noAcc_ok a79⟩,trivial⟩,⟨⟨_,_,g80,k80⟩,noAcc_ok a80⟩,trivial⟩⟩,⟨⟨_,_,g81,k81⟩,noAcc_ok a81⟩,⟨⟨⟨trivial,⟨⟨_,_,g82,k82⟩,noAcc_ok a82⟩,trivial⟩,⟨⟨_,_,g83,k83⟩,noAcc_ok a83⟩,trivial⟩,⟨⟨_,_,g84,k84⟩,noAcc_ok
 a84⟩,⟨trivial,⟨⟨_,_,g85,k85⟩,noAcc_ok a85⟩,trivial⟩⟩⟩,⟨⟨_,_,g86,k86⟩,noAcc_ok a86⟩,⟨⟨⟨⟨trivial,⟨⟨_,_,g87,k87⟩,noAcc_ok a87⟩,trivial⟩,⟨⟨_,_,g88,k88⟩,noAcc_ok a88⟩,trivial⟩,⟨⟨_,_,g89,k89⟩,noAcc_ok a89⟩,
 ⟨⟨trivial,⟨⟨_,_,g90,k90⟩,noAcc_ok a90⟩,trivial⟩,⟨⟨_,_,g91,k91⟩,noAcc_ok a91⟩,trivial⟩⟩,⟨⟨_,_,g92,k92⟩,noAcc_ok a92⟩,⟨⟨⟨trivial,⟨⟨_,_,g100,k100⟩,noAcc_ok a100⟩,trivial⟩,⟨⟨_,_,g101,k101⟩,noAcc_ok a101⟩,trivial⟩,
 ⟨⟨_,_,g104,k104⟩,noAcc_ok a104⟩,⟨trivial,⟨⟨_,_,g105,k105⟩,noAcc_ok a105⟩,trivial⟩⟩⟩⟩⟩⟩,⟨⟨_,_,g106,k106⟩,noAcc_ok a106⟩,⟨⟨⟨⟨⟨⟨⟨trivial,⟨⟨_,_,g107,k107⟩,noAcc_ok a107⟩,trivial⟩,⟨⟨_,_,g108,k108⟩,noAcc_ok a108⟩,
 trivial⟩,⟨⟨_,_,g109,k109⟩,noAcc_ok a109⟩,⟨⟨trivial,⟨⟨_,_,g110,k110⟩,noAcc_ok a110⟩,trivial⟩,⟨⟨_,_,g111,k111⟩,noAcc_ok a111⟩,trivial⟩⟩,⟨⟨_,_,g112,k112⟩,noAcc_ok a112⟩,⟨⟨⟨trivial,⟨⟨_,_,g113,k113⟩,a113⟩,trivial⟩,
 ⟨⟨_,_,g114,k114⟩,noAcc_ok a114⟩,trivial⟩,⟨⟨_,_,g115,k115⟩,noAcc_ok a115⟩,⟨trivial,⟨⟨_,_,g116,k116⟩,noAcc_ok a116⟩,trivial⟩⟩⟩,⟨⟨_,_,g117,k117⟩,noAcc_ok a117⟩,⟨⟨⟨⟨trivial,⟨⟨_,_,g118,k118⟩,noAcc_ok a118⟩,trivial⟩,
 ⟨⟨_,_,g119,k119⟩,noAcc_ok a119⟩,trivial⟩,⟨⟨_,_,g120,k120⟩,noAcc_ok a120⟩,⟨⟨trivial,⟨⟨_,_,g121,k121⟩,noAcc_ok a121⟩,trivial⟩,⟨⟨_,_,g122,k122⟩,noAcc_ok a122⟩,trivial⟩⟩,⟨⟨_,_,g123,k123⟩,noAcc_ok a123⟩,⟨⟨⟨trivial,
 ⟨⟨_,_,g124,k124⟩,noAcc_ok a124⟩,trivial⟩,⟨⟨_,_,g125,k125⟩,noAcc_ok a125⟩,trivial⟩,⟨⟨_,_,g126,k126⟩,noAcc_ok a126⟩,⟨trivial,⟨⟨_,_,g127,k127⟩,noAcc_ok a127⟩,trivial⟩⟩⟩⟩,⟨⟨_,_,g128,k128⟩,noAcc_ok a128⟩,
 ⟨⟨⟨⟨⟨trivial,⟨⟨_,_,g136,k136⟩,noAcc_ok a136⟩,trivial⟩,⟨⟨_,_,g138,k138⟩,noAcc_ok a138⟩,trivial⟩,⟨⟨_,_,g140,k140⟩,noAcc_ok a140⟩,⟨⟨trivial,⟨⟨_,_,g141,k141⟩,noAcc_ok a141⟩,trivial⟩,⟨⟨_,_,g142,k142⟩,noAcc_ok a142⟩,
 trivial⟩⟩,⟨⟨_,_,g144,k144⟩,noAcc_ok a144⟩,⟨⟨⟨trivial,⟨⟨_,_,g145,k145⟩,noAcc_ok a145⟩,trivial⟩,⟨⟨_,_,g146,k146⟩,noAcc_ok a146⟩,trivial⟩,⟨⟨_,_,g147,k147⟩,noAcc_ok a147⟩,⟨trivial,⟨⟨_,_,g148,k148⟩,noAcc_ok a148⟩,
 trivial⟩⟩⟩,⟨⟨_,_,g149,k149⟩,noAcc_ok a149⟩,⟨⟨⟨⟨trivial,⟨⟨_,_,g150,k150⟩,noAcc_ok a150⟩,trivial⟩,⟨⟨_,_,g151,k151⟩,noAcc_ok a151⟩,trivial⟩,⟨⟨_,_,g152,k152⟩,noAcc_ok a152⟩,⟨⟨trivial,⟨⟨_,_,g153,k153⟩,noAcc_ok a153⟩,
 trivial⟩,⟨⟨_,_,g154,k154⟩,noAcc_ok a154⟩,trivial⟩⟩,⟨⟨_,_,g155,k155⟩,noAcc_ok a155⟩,⟨⟨⟨trivial,⟨⟨_,_,g156,k156⟩,noAcc_ok a156⟩,trivial⟩,⟨⟨_,_,g157,k157⟩,noAcc_ok a157⟩,trivial⟩,⟨⟨_,_,g158,k158⟩,noAcc_ok a158⟩,
 ⟨trivial,⟨⟨_,_,g159,k159⟩,noAcc_ok a159⟩,trivial⟩⟩⟩⟩⟩,⟨⟨_,_,g160,k160⟩,noAcc_ok a160⟩,⟨⟨⟨⟨⟨⟨trivial,⟨⟨_,_,g161,k161⟩,noAcc_ok a161⟩,trivial⟩,⟨⟨_,_,g162,k162⟩,noAcc_ok a162⟩,trivial⟩,⟨⟨_,_,g163,k163⟩,noAcc_ok
 a163⟩,⟨⟨trivial,⟨⟨_,_,g173,k173⟩,noAcc_ok a173⟩,trivial⟩,⟨⟨_,_,g174,k174⟩,noAcc_ok a174⟩,trivial⟩⟩,⟨⟨_,_,g179,k179⟩,noAcc_ok a179⟩,⟨⟨⟨trivial,⟨⟨_,_,g180,k180⟩,noAcc_ok a180⟩,trivial⟩,⟨⟨_,_,g181,k181⟩,noAcc_ok
 a181⟩,trivial⟩,⟨⟨_,_,g182,k182⟩,noAcc_ok a182⟩,⟨trivial,⟨⟨_,_,g183,k183⟩,noAcc_ok a183⟩,trivial⟩⟩⟩,⟨⟨_,_,g184,k184⟩,noAcc_ok a184⟩,⟨⟨⟨⟨trivial,⟨⟨_,_,g185,k185⟩,noAcc_ok a185⟩,trivial⟩,⟨⟨_,_,g186,k186⟩,noAcc_ok
 a186⟩,trivial⟩,⟨⟨_,_,g187,k187⟩,noAcc_ok a187⟩,⟨⟨trivial,⟨⟨_,_,g188,k188⟩,noAcc_ok a188⟩,trivial⟩,⟨⟨_,_,g189,k189⟩,noAcc_ok a189⟩,trivial⟩⟩,⟨⟨_,_,g190,k190⟩,noAcc_ok a190⟩,⟨⟨⟨trivial,⟨⟨_,_,g191,k191⟩,noAcc_ok
 a191⟩,trivial⟩,⟨⟨_,_,g192,k192⟩,noAcc_ok a192⟩,trivial⟩,⟨⟨_,_,g193,k193⟩,noAcc_ok a193⟩,⟨trivial,⟨⟨_,_,g194,k194⟩,noAcc_ok a194⟩,trivial⟩⟩⟩⟩,⟨⟨_,_,g195,k195⟩,noAcc_ok a195⟩,⟨⟨⟨⟨⟨trivial,⟨⟨_,_,g196,k196⟩,
 noAcc_ok a196⟩,trivial⟩,⟨⟨_,_,g197,k197⟩,noAcc_ok a197⟩,trivial⟩,⟨⟨_,_,g198,k198⟩,noAcc_ok a198⟩,⟨⟨trivial,⟨⟨_,_,g204,k204⟩,noAcc_ok a204⟩,trivial⟩,⟨⟨_,_,g205,k205⟩,noAcc_ok a205⟩,trivial⟩⟩,⟨⟨_,_,g206,k206⟩,
 noAcc_ok a206⟩,⟨⟨⟨trivial,⟨⟨_,_,g207,k207⟩,noAcc_ok a207⟩,trivial⟩,⟨⟨_,_,g208,k208⟩,noAcc_ok a208⟩,trivial⟩,⟨⟨_,_,g209,k209⟩,noAcc_ok a209⟩,⟨trivial,⟨⟨_,_,g210,k210⟩,noAcc_ok a210⟩,trivial⟩⟩⟩,⟨⟨_,_,g211,k211⟩,
 noAcc_ok a211⟩,⟨⟨⟨⟨trivial,⟨⟨_,_,g212,k212⟩,noAcc_ok a212⟩,trivial⟩,⟨⟨_,_,g213,k213⟩,noAcc_ok a213⟩,trivial⟩,⟨⟨_,_,g218,k218⟩,noAcc_ok a218⟩,⟨trivial,⟨⟨_,_,g219,k219⟩,noAcc_ok a219⟩,trivial⟩⟩,⟨⟨_,_,g220,k220⟩,
 noAcc_ok a220⟩,⟨⟨⟨trivial,⟨⟨_,_,g221,k221⟩,noAcc_ok a221⟩,trivial⟩,⟨⟨_,_,g222,k222⟩,noAcc_ok a222⟩,trivial⟩,⟨⟨_,_,g225,k225⟩,noAcc_ok a225⟩,⟨trivial,⟨⟨_,_,g226,k226⟩,noAcc_ok a226⟩,trivial⟩⟩⟩⟩⟩⟩⟩
def ownMask:Nat:=175214555375615643264823296548884180619791555589867989362750382669816
def env (glo:Nat→Option (List AV)) (orc:Nat→List AV→Option AV) (acc:Nat→Tm→Mem→Option (AX × Tm × Mem)):Env:=
 ⟨tab.get,glo,orc,fun id=>if Nat.testBit ownMask id then .own else .shared,acc,accsT,ybT,fitT Go.Proofs.Tryz.prog ybT⟩
theorem env_ok {glo:Nat→Option (List AV)} {orc:Nat→List AV→Option AV} {acc:Nat→Tm→Mem→Option (AX × Tm × Mem)} (ha:∀ k c tm M x tm' M',acc k tm M=some (x,tm',M')→accsT k=some c→CodeOK Go.Proofs.Tryz.prog (env glo orc acc) c tm M x tm' M') (ho:∀ id args v M,orc id args=some v→CallOK Go.Proofs.Tryz.prog (env glo orc acc) id args M v M):EnvOK Go.Proofs.Tryz.prog (env glo orc acc):=
 ⟨rfl,fun _ _ h=>tab_ok.get h,ha,ho,ybT_acc,fun _ _ h=>h⟩
end Go.Sx
namespace Go.Proofs
open Go.Shelf
def Tryz.lays156_ren:Go.Shelf.Ren:=⟨fun | 156=>154 | 165=>192 | 166=>193 | 169=>194 | 240=>212 | 241=>213 | 276=>223 | 277=>224 | n=>n,fun | 31=>31 | 9=>9 | 3=>3 | 4=>4 | 0=>0 | 20=>20 | 72=>244 | 76=>159 | 70=>242 | 37=>22 | 75=>158 | 127=>266 | 164=>281 | 5=>5 | 80=>30 | n=>n,fun | n=>n⟩
theorem Tryz.lays156:Go.Proofs.Lays.n156 Tryz.prog Tryz.lays156_ren:={
 mixed:=by kernel_rfl
 f156:=Tryz.func154.trans (congrArg some (by kernel_rfl))
 f165:=Tryz.func192.trans (congrArg some (by kernel_rfl))
 f166:=Tryz.func193.trans (congrArg some (by kernel_rfl))
 f169:=Tryz.func194.trans (congrArg some (by kernel_rfl))
 f240:=Tryz.func212.trans (congrArg some (by kernel_rfl))
 f241:=Tryz.func213.trans (congrArg some (by kernel_rfl))
 f276:=Tryz.func223.trans (congrArg some (by kernel_rfl))
 f277:=Tryz.func224.trans (congrArg some (by kernel_rfl))
 t0:=Tryz.underlying0
 a0:=Tryz.isAgg0
 z0:=Tryz.sizeOf0
 v0:=Tryz.zeroValue0
 t3:=Tryz.underlying3
 a3:=Tryz.isAgg3
 z3:=Tryz.sizeOf3
 v3:=Tryz.zeroValue3
 t4:=Tryz.underlying4
 a4:=Tryz.isAgg4
 z4:=Tryz.sizeOf4
 v4:=Tryz.zeroValue4
 t9:=Tryz.underlying9
 a9:=Tryz.isAgg9
 z9:=Tryz.sizeOf9
 v9:=Tryz.zeroValue9
 t20:=Tryz.underlying20
 a20:=Tryz.isAgg20
 z20:=Tryz.sizeOf20
 v20:=Tryz.zeroValue20
 t31:=Tryz.underlying31
 a31:=Tryz.isAgg31
 z31:=Tryz.sizeOf31
 v31:=Tryz.zeroValue31
 t37:=Tryz.underlying22
 a37:=Tryz.isAgg22
 z37:=Tryz.sizeOf22
 v37:=Tryz.zeroValue22
 t70:=Tryz.underlying242
 a70:=Tryz.isAgg242
 z70:=Tryz.sizeOf242
 v70:=Tryz.zeroValue242
 t72:=Tryz.underlying244
 a72:=Tryz.isAgg244
 z72:=Tryz.sizeOf244
 v72:=Tryz.zeroValue244
 t75:=Tryz.underlying158
 a75:=Tryz.isAgg158
 z75:=Tryz.sizeOf158
 v75:=Tryz.zeroValue158
 t76:=Tryz.underlying159
 a76:=Tryz.isAgg159
 z76:=Tryz.sizeOf159
 v76:=Tryz.zeroValue159
 t127:=Tryz.underlying266
 a127:=Tryz.isAgg266
 z127:=Tryz.sizeOf266
 v127:=Tryz.zeroValue266
 t164:=Tryz.underlying281
 a164:=Tryz.isAgg281
 z164:=Tryz.sizeOf281
 v164:=Tryz.zeroValue281 }
theorem Tryz.extra:Builder.Extra Tryz.prog Tryz.lays156_ren:={
 sizeBuilder:=by kernel_rfl
 liesBuilder:=by kernel_rfl
 t5:=Tryz.underlying5
 a5:=Tryz.isAgg5
 z5:=Tryz.sizeOf5
 v5:=Tryz.zeroValue5
 infoByte:=by kernel_rfl
 cellsByte:=by kernel_rfl
 sizeByte:=by kernel_rfl
 neB5:=by decide }
end Go.Proofs
namespace Go.Sx
open Go.Proofs Go.RowKit
variable {E:Env}
theorem Nx.below {γ:Cx} {M:Mem} {w w':World} (h:Inv E.gx γ M w) (hb:Below w.heap.size w w'):Nx E.gx γ M w γ M w':=
 Nx.foreign h γ.I (fun g hg=>hb.block g hg) hb.size (fun _ _ _=>rfl) (fun g o v hv=>(hb.cell (p:=⟨g,o,none⟩) (h.lt hv)).trans (h.imm g o v hv)) hb.os hb.tape hb.output
def idxOf (c:Nat):List Nat→Nat→Int
 | [],_=>-1
 | x :: r,i=>if Nat.beq x c then (i:Int) else idxOf c r (i + 1)
def cntOf (c:Nat):List Nat→Nat
 | []=>0
 | x :: r=>if Nat.beq x c then cntOf c r + 1 else cntOf c r
def joinOf (sep:List Nat):List AV→Option (List Nat)
 | []=>some []
 | .str l :: r=>match r with
  | []=>some l
  | _ :: _=>(joinOf sep r).map fun x=>l ++ (sep ++ x)
 | _=>none
def orcS:Nat→List AV→Option AV
 | 171,[.str l,.int .u8 (.ofNat c)]=>if Nat.ble c 255 then some (.int .i64 (idxOf c l 0)) else none
 | 175,[.str l,.int .u8 (.ofNat c)]=>if Nat.ble c 255 then some (.int .i64 (cntOf c l:Int)) else none
 | 154,[.sl _ _ n cs,.str sep]=>if Nat.beq cs.length n && Nat.ble n 140737488355328 && Nat.ble 1 n then (joinOf sep cs).bind fun l=>if Nat.ble l.length 140737488355328 then some (.str l) else none else none
 | _,_=>none
theorem beq8 {x:UInt8} {c:Nat} (hc:c≤255):Nat.beq x.toNat c=(x == c.toUInt8):=by
 have h:(c.toUInt8).toNat=c:=by
  simp only [Nat.toUInt8,UInt8.toNat_ofNat']
  omega
 by_cases hx:x=c.toUInt8
 ·subst hx
  rw [h]
  simp
 ·have h1:(x == c.toUInt8)=false:=by simpa using hx
  rw [h1]
  cases h2:Nat.beq x.toNat c with
  | false=>rfl
  | true=>
   refine absurd (UInt8.toNat_inj.1 ?_) hx
   rw [h,Nat.eq_of_beq_eq_true h2]
theorem idxOf_eq {c:Nat} (hc:c≤255):∀ (l:List UInt8) (i:Nat),idxOf c (l.map UInt8.toNat) i=if Lib.indexByte l c.toUInt8=-1 then -1 else Lib.indexByte l c.toUInt8 + i
 | [],i=>rfl
 | x :: r,i=>by
  simp only [List.map_cons,idxOf,Lib.indexByte,beq8 hc]
  by_cases h:(x == c.toUInt8)=true
  ·rw [if_pos h]
   simp [h]
  ·rw [if_neg h,idxOf_eq hc r (i + 1)]
   simp only [h,if_false]
   have:=Lib.indexByte_ge r c.toUInt8
   by_cases hm:Lib.indexByte r c.toUInt8=-1
   ·simp [hm]
   ·have h2:(Lib.indexByte r c.toUInt8 == -1)=false:=by simpa using hm
    have h3:¬ Lib.indexByte r c.toUInt8 + 1=-1:=by omega
    rw [h2]
    simp only [Bool.false_eq_true,if_false,hm,h3]
    omega
theorem cntOf_eq {c:Nat} (hc:c≤255):∀ (l:List UInt8),cntOf c (l.map UInt8.toNat)=Lib.countByte l c.toUInt8
 | []=>rfl
 | x :: r=>by
  simp only [List.map_cons,cntOf,Lib.countByte,beq8 hc,List.count_cons]
  rw [cntOf_eq hc r]
  simp only [Lib.countByte]
  split <;> rfl
theorem str_inv {γ:Cx} {p:Bool} {l:List Nat} {v:Value} (h:VR γ p (.str l) v):∃ s:ByteArray,v=.string s∧s.data.toList.map UInt8.toNat=l:=by
 cases h with
 | str _ _ s h=>exact ⟨s,rfl,h⟩
theorem int_inv {γ:Cx} {p:Bool} {k:IntKind} {n:Int} {v:Value} (h:VR γ p (.int k n) v):v=.int k n:=by
 cases h; rfl
theorem idx_ok {l:List Nat} {c:Nat} {M:Mem} (hc:Nat.ble c 255=true):CallOK Tryz.prog E 171 [.str l,.int .u8 (.ofNat c)] M (.int .i64 (idxOf c l 0)) M:=by
 refine ⟨Grow.refl _,fun γ w vs hI hv=>?_⟩
 obtain ⟨v1,r1,rfl,h1,hva⟩:=hv.cons_inv
 obtain ⟨v2,r2,rfl,h2,hvb⟩:=hva.cons_inv
 obtain rfl:=hvb.nil_inv
 obtain ⟨s,rfl,hs⟩:=str_inv h1
 obtain rfl:=int_inv h2
 have hr:(callFunc 171 #[.string s,.int .u8 (.ofNat c)]).run Tryz.prog w=.ok (.value (.int .i64 (idxOf c l 0))) w:=by
  rw [run_callFunc_extern (fn:=Tryz.f171) (by kernel_rfl) (by kernel_rfl) (by kernel_rfl) (by kernel_rfl) (e:=Extern.BytealgIndexByte.indexByte) (by kernel_rfl),Lib.run_indexByteString,← hs,idxOf_eq (Nat.le_of_ble_eq_true hc)]
  simp only [Result.andThen]
  have e:(Int.ofNat c).toNat=c:=rfl
  rw [e]
  split
  ·rename_i h; rw [h]
  ·simp
 unfold Upon
 simp only [hr]
 exact ⟨γ,.int _ _ _,Nx.refl hI⟩
theorem cnt_ok {l:List Nat} {c:Nat} {M:Mem} (hc:Nat.ble c 255=true):CallOK Tryz.prog E 175 [.str l,.int .u8 (.ofNat c)] M (.int .i64 (cntOf c l:Int)) M:=by
 refine ⟨Grow.refl _,fun γ w vs hI hv=>?_⟩
 obtain ⟨v1,r1,rfl,h1,hva⟩:=hv.cons_inv
 obtain ⟨v2,r2,rfl,h2,hvb⟩:=hva.cons_inv
 obtain rfl:=hvb.nil_inv
 obtain ⟨s,rfl,hs⟩:=str_inv h1
 obtain rfl:=int_inv h2
 have hr:(callFunc 175 #[.string s,.int .u8 (.ofNat c)]).run Tryz.prog w=.ok (.value (.int .i64 (cntOf c l:Int))) w:=by
  rw [run_callFunc_extern (fn:=Tryz.f175) (by kernel_rfl) (by kernel_rfl) (by kernel_rfl) (by kernel_rfl) (e:=Extern.BytealgCount.count) (by kernel_rfl),Lib.run_countString,← hs,cntOf_eq (Nat.le_of_ble_eq_true hc)]
  rfl
 unfold Upon
 simp only [hr]
 exact ⟨γ,.int _ _ _,Nx.refl hI⟩
theorem joinOf_ok {γ:Cx} {sep:List Nat} {sb:List UInt8} (hsb:sb.map UInt8.toNat=sep):∀ {cs:List AV} {vs:List Value} {l:List Nat},VRs γ true cs vs→joinOf sep cs=some l→∃ xs:List ByteArray,vs=xs.map .string∧l=(Lib.join (xs.map (·.data.toList)) sb).map UInt8.toNat
 | [],vs,l,hv,h=>by
  obtain rfl:=hv.nil_inv
  cases h
  exact ⟨[],rfl,rfl⟩
 | .str a :: r,vs,l,hv,h=>by
  obtain ⟨v1,r1,rfl,h1,hv1⟩:=hv.cons_inv
  obtain ⟨s,rfl,hs⟩:=str_inv h1
  cases r with
  | nil=>
   obtain rfl:=hv1.nil_inv
   cases h
   exact ⟨[s],rfl,by rw [List.map_cons,List.map_nil,Lib.join_one,hs]⟩
  | cons y r=>
   simp only [joinOf,Option.map_eq_some_iff] at h
   obtain ⟨x,hx,rfl⟩:=h
   obtain ⟨xs,rfl,rfl⟩:=joinOf_ok hsb hv1 hx
   cases xs with
   | nil=>exact absurd hv1.1 (by simp)
   | cons z xs=>
    refine ⟨s :: z :: xs,rfl,?_⟩
    rw [List.map_cons,List.map_cons,Lib.join_cons,Lib.join_cons]
    simp only [Lib.joinTail,List.map_cons,List.flatten_cons,List.map_append,hs,hsb,List.append_assoc]
 | .bool _ :: _,_,_,_,h | .int .. :: _,_,_,_,h | .nilp :: _,_,_,_,h | .ptr .. :: _,_,_,_,h | .cp _ :: _,_,_,_,h | .nils :: _,_,_,_,h | .sl .. :: _,_,_,_,h | .ms .. :: _,_,_,_,h | .fn .. :: _,_,_,_,h | .nilf :: _,_,_,_,h | .iface .. :: _,_,_,_,h | .nili :: _,_,_,_,h | .agg _ :: _,_,_,_,h | .tup _ :: _,_,_,_,h | .any :: _,_,_,_,h=>by cases h
theorem join_ok {t e n:Nat} {cs:List AV} {sep l:List Nat} {M:Mem} (hn:Nat.beq cs.length n=true) (hN:Nat.ble n 140737488355328=true) (h1:Nat.ble 1 n=true) (hj:joinOf sep cs=some l) (hl:Nat.ble l.length 140737488355328=true):CallOK Tryz.prog E 154 [.sl t e n cs,.str sep] M (.str l) M:=by
 refine ⟨Grow.refl _,fun γ w vs hI hv=>?_⟩
 obtain ⟨v1,r1,rfl,hv1,hva⟩:=hv.cons_inv
 obtain ⟨v2,r2,rfl,hv2,hvb⟩:=hva.cons_inv
 obtain rfl:=hvb.nil_inv
 obtain ⟨sb,rfl,hsb⟩:=str_inv hv2
 cases hv1 with
 | sl _ _ _ _ _ vs g o c hlen hc hi hnc _ _=>
  obtain ⟨xs,rfl,rfl⟩:=joinOf_ok hsb (γ:=γ) (cs:=cs) ⟨hlen,hc⟩ hj
  have hn:=Nat.eq_of_beq_eq_true hn
  have hN:=Nat.le_of_ble_eq_true hN
  have h1:=Nat.le_of_ble_eq_true h1
  have hl:=Nat.le_of_ble_eq_true hl
  simp only [List.length_map] at hlen hl
  have hcells:∀ (j:Nat) x,xs[j]?=some x→w.cell? ⟨g,o + j,none⟩=some (.string x):=fun j x hx=>hI.imm _ _ _ (hi j _ (by rw [List.getElem?_map,hx]; rfl))
  have hg:g < w.heap.size:=by
   have h0:0 < xs.length:=by omega
   exact hI.lt (hi 0 (.string xs[0]) (by rw [List.getElem?_map,List.getElem?_eq_getElem h0]; rfl))
  have hJ:=Any.strings_Join Tryz.lays156 Tryz.extra g o c xs sb w hcells hg (by omega) (by omega) hl
  have hr:(callFunc 154 #[.slice (some ⟨g,o,none⟩) n c,.string sb]).run Tryz.prog w=.ok (.enter 154 #[.slice (some ⟨g,o,none⟩) n c,.string sb]) w:=enters_of (fn:=Tryz.f154) (by kernel_rfl) (by kernel_rfl) rfl _ _
  unfold Upon
  simp only [List.toArray,hr]
  have hn':n=xs.length:=by omega
  subst hn'
  refine Calls.mono hJ fun ee w' he=>?_
  obtain ⟨rfl,hb⟩:=he
  exact ⟨γ,.str _ _ _ rfl,Nx.below hI hb⟩
theorem orcS_ok {id:Nat} {args:List AV} {v:AV} {M:Mem} (h:orcS id args=some v):CallOK Tryz.prog E id args M v M:=by
 unfold orcS at h
 split at h
 ·split at h
  ·rename_i hc
   cases h
   exact idx_ok hc
  ·cases h
 ·split at h
  ·rename_i hc
   cases h
   exact cnt_ok hc
  ·cases h
 ·split at h
  ·rename_i hc
   simp only [Bool.and_eq_true] at hc
   simp only [Option.bind_eq_some_iff] at h
   obtain ⟨l,hj,h⟩:=h
   split at h
   ·rename_i hl
    cases h
    exact join_ok hc.1.1 hc.1.2 hc.2 hj hl
   ·cases h
  ·cases h
 ·cases h
def glo0:List AV:=([0,0,0,0,0,0,0,0,0,1,1,1,1,1,0,0,0,0,0,0,0,0,0,0,0,0,0,0,0,0,0,0,1,0,0,0,0,0,0,0,0,0,0,0,0,0,0,0,0,0,0,0,0,0,0,0,0,0,0,0,0,0,0,0,0,0,0,0,0,0,0,0,0,0,0,0,0,0,0,0,0,0,0,0,0,0,0,0,0,0,0,0,0,0,0,0,0,0,0,0,0,0,0,0,0,0,0,0,0,0,0,0,0,0,0,0,0,0,0,0,0,0,0,0,0,0,0,0,0,0,0,0,0,0,0,0,0,0,0,0,0,0,0,0,0,0,0,0,0,0,0,0,0,0,0,0,0,0,0,0,0,0,0,0,0,0,0,0,0,0,0,0,0,0,0,0,0,0,0,0,0,0,0,0,0,0,0,0,0,0,0,0,0,0,0,0,0,0,0,0,0,0,0,0,0,0,0,0,0,0,0,0,0,0,0,0,0,0,0,0,0,0,0,0,0,0,0,0,0,0,0,0,0,0,0,0,0,0,0,0,0,0,0,0,0,0,0,0,0,0,0,0,0,0,0,0]:List Int).map (AV.int .u8)
def glo7:List AV:=[.int .u64 1,.int .u64 10,.int .u64 100,.int .u64 1000,.int .u64 10000,.int .u64 100000,.int .u64 1000000,.int .u64 10000000,.int .u64 100000000,.int .u64 1000000000,.int .u64 10000000000,
 .int .u64 100000000000,.int .u64 1000000000000,.int .u64 10000000000000,.int .u64 100000000000000,.int .u64 1000000000000000,.int .u64 10000000000000000,.int .u64 100000000000000000,.int .u64
 1000000000000000000,.int .u64 10000000000000000000]
def gloS:Nat→Option (List AV)
 | 0=>some glo0
 | 7=>some glo7
 | _=>none
end Go.Sx
namespace Go.Sx
open Go.Proofs
def noacc (_:Nat) (_:Tm) (_:Mem):Option (AX × Tm × Mem):=none
theorem envA_ok {orc:Nat→List AV→Option AV} (ho:∀ id args v M,orc id args=some v→CallOK Tryz.prog (env gloS orc noacc) id args M v M):EnvOK Tryz.prog (env gloS orc noacc):=
 env_ok (fun k c tm M x tm' M' h hc=>by cases h) ho
theorem acc1_is:acc1=.block 8 (.loop bodyA):=rfl
end Go.Sx
namespace Go.Sx
open Go.Proofs
def intB:Int→Int→Bool
 | .ofNat a,.ofNat b=>Nat.beq a b
 | .negSucc a,.negSucc b=>Nat.beq a b
 | _,_=>false
theorem intB_ok:∀ {a b:Int},intB a b=true→a=b
 | .ofNat a,.ofNat b,h=>by rw [Nat.eq_of_beq_eq_true h]
 | .negSucc a,.negSucc b,h=>by rw [Nat.eq_of_beq_eq_true h]
 | .ofNat _,.negSucc _,h=>by cases h
 | .negSucc _,.ofNat _,h=>by cases h
def kindN:IntKind→Nat
 | .i8=>0 | .i16=>1 | .i32=>2 | .i64=>3 | .u8=>4 | .u16=>5 | .u32=>6 | .u64=>7
theorem kindN_ok {a b:IntKind} (h:Nat.beq (kindN a) (kindN b)=true):a=b:=by
 cases a <;> cases b <;> first | rfl | exact absurd h (by decide)
def natsB:List Nat→List Nat→Bool
 | [],[]=>true
 | a :: x,b :: y=>Nat.beq a b && natsB x y
 | _,_=>false
theorem natsB_ok:∀ {a b:List Nat},natsB a b=true→a=b
 | [],[],_=>rfl
 | a :: x,b :: y,h=>by
  simp only [natsB,Bool.and_eq_true] at h
  rw [Nat.eq_of_beq_eq_true h.1,natsB_ok h.2]
 | [],_ :: _,h=>by cases h
 | _ :: _,[],h=>by cases h
mutual
def simV:AV→AV→Bool
 | .bool a,.bool b=>a == b
 | .int k a,.int k' b=>Nat.beq (kindN k) (kindN k') && intB a b
 | .str a,.str b=>natsB a b
 | .nils,.nils=>true
 | .sl t e n cs,.sl _ _ n' cs'=>Nat.beq t 0 && Nat.beq e 0 && Nat.beq n n' && simL cs cs'
 | .agg cs,.agg cs'=>simL cs cs'
 | _,_=>false
def simL:List AV→List AV→Bool
 | [],[]=>true
 | a :: x,b :: y=>simV a b && simL x y
 | _,_=>false
end
mutual
theorem simV_ok:∀ {a b:AV},simV a b=true→∀ {γ:Cx} {p:Bool} {v:Value},VR γ p b v→VR γ p a v
 | .bool a,b,h=>by
  cases b <;> first | (simp only [simV,beq_iff_eq] at h; rw [h]; exact fun h=>h) | (simp only [simV,Bool.false_eq_true] at h)
 | .int k a,b,h=>by
  cases b <;> first | (simp only [simV,Bool.and_eq_true] at h; rw [kindN_ok h.1,intB_ok h.2]; exact fun h=>h) | (simp only [simV,Bool.false_eq_true] at h)
 | .str a,b,h=>by
  cases b <;> first | (simp only [simV] at h; rw [natsB_ok h]; exact fun h=>h) | (simp only [simV,Bool.false_eq_true] at h; done)
 | .nils,b,h=>by
  cases b <;> first | exact fun h=>h | (simp only [simV,Bool.false_eq_true] at h)
 | .sl t e n cs,b,h=>by
  cases b with
  | sl t' e' n' cs'=>
   simp only [simV,Bool.and_eq_true] at h
   have h1:=Nat.eq_of_beq_eq_true h.1.1.1
   have h2:=Nat.eq_of_beq_eq_true h.1.1.2
   have h3:=Nat.eq_of_beq_eq_true h.1.2
   subst h1; subst h2; subst h3
   intro hv
   obtain ⟨g,o,c,vs,rfl,hvs,hi,hn,_,_⟩:=hv.sl_inv
   have:=simL_ok h.2 hvs
   exact .sl _ 0 0 n cs vs g o c this.1 this.2 hi hn (by omega) (by omega)
  | _=>simp only [simV,Bool.false_eq_true] at h
 | .agg cs,b,h=>by
  cases b with
  | agg cs'=>
   simp only [simV] at h
   intro hv
   obtain ⟨a,rfl,hvs⟩:=hv.agg_inv
   exact VR.mkagg (simL_ok h hvs)
  | _=>simp only [simV,Bool.false_eq_true] at h
 | .nilp,b,h=>by cases b <;> simp only [simV,Bool.false_eq_true] at h
 | .ptr ..,b,h=>by cases b <;> simp only [simV,Bool.false_eq_true] at h
 | .cp _,b,h=>by cases b <;> simp only [simV,Bool.false_eq_true] at h
 | .ms ..,b,h=>by cases b <;> simp only [simV,Bool.false_eq_true] at h
 | .fn ..,b,h=>by cases b <;> simp only [simV,Bool.false_eq_true] at h
 | .nilf,b,h=>by cases b <;> simp only [simV,Bool.false_eq_true] at h
 | .iface ..,b,h=>by cases b <;> simp only [simV,Bool.false_eq_true] at h
 | .nili,b,h=>by cases b <;> simp only [simV,Bool.false_eq_true] at h
 | .tup _,b,h=>by cases b <;> simp only [simV,Bool.false_eq_true] at h
 | .any,b,h=>by cases b <;> simp only [simV,Bool.false_eq_true] at h
theorem simL_ok:∀ {a b:List AV},simL a b=true→∀ {γ:Cx} {p:Bool} {vs:List Value},VRs γ p b vs→VRs γ p a vs
 | [],[],_=>fun h=>h
 | a :: x,b :: y,h=>by
  simp only [simL,Bool.and_eq_true] at h
  intro hv
  obtain ⟨v,r,rfl,h1,h2⟩:=hv.cons_inv
  exact VRs.cons (simV_ok h.1 h1) (simL_ok h.2 h2)
 | [],_ :: _,h=>by simp only [simL,Bool.false_eq_true] at h
 | _ :: _,[],h=>by simp only [simL,Bool.false_eq_true] at h
end
noncomputable def simC (q:Nat) (x y:List AV):Bool:=Nat.rec (motive:=fun _=>List AV→List AV→Bool) simL (fun _ ih x y=>simL (takeK 64 x) (takeK 64 y) && ih (dropK 64 x) (dropK 64 y)) q x y
theorem simC_ok:∀ {q:Nat} {x y:List AV},simC q x y=true→∀ {γ:Cx} {p:Bool} {vs:List Value},VRs γ p y vs→VRs γ p x vs
 | 0,x,y,h=>fun hv=>simL_ok h hv
 | q + 1,x,y,h=>by
  have h':(simL (takeK 64 x) (takeK 64 y) && simC q (dropK 64 x) (dropK 64 y))=true:=h
  simp only [Bool.and_eq_true,takeK_eq,dropK_eq] at h'
  intro hv
  have:=(simL_ok h'.1 (hv.take 64)).append (simC_ok h'.2 (hv.drop 64))
  rw [List.take_append_drop,List.take_append_drop] at this
  exact this
noncomputable def simA:AV→AV→Bool
 | .sl t e n cs,.sl _ _ n' cs'=>Nat.beq t 0 && Nat.beq e 0 && Nat.beq n n' && simC n cs cs'
 | a,b=>simV a b
theorem simA_ok {a b:AV} (h:simA a b=true) {γ:Cx} {p:Bool} {v:Value} (hv:VR γ p b v):VR γ p a v:=by
 unfold simA at h
 split at h
 ·simp only [Bool.and_eq_true] at h
  have h1:=Nat.eq_of_beq_eq_true h.1.1.1
  have h2:=Nat.eq_of_beq_eq_true h.1.1.2
  have h3:=Nat.eq_of_beq_eq_true h.1.2
  subst h1; subst h2; subst h3
  obtain ⟨g,o,c,vs,rfl,hvs,hi,hn,_,_⟩:=hv.sl_inv
  have:=simC_ok h.2 hvs
  exact .sl _ 0 0 _ _ vs g o c this.1 this.2 hi hn (by omega) (by omega)
 ·exact simV_ok h hv
noncomputable def simAs:List AV→List AV→Bool
 | [],[]=>true
 | a :: x,b :: y=>simA a b && simAs x y
 | _,_=>false
theorem simAs_ok:∀ {a b:List AV},simAs a b=true→∀ {γ:Cx} {p:Bool} {vs:List Value},VRs γ p b vs→VRs γ p a vs
 | [],[],_=>fun h=>h
 | a :: x,b :: y,h=>by
  simp only [simAs,Bool.and_eq_true] at h
  intro hv
  obtain ⟨v,r,rfl,h1,h2⟩:=hv.cons_inv
  exact VRs.cons (simA_ok h.1 h1) (simAs_ok h.2 h2)
 | [],_ :: _,h=>by simp only [simAs,Bool.false_eq_true] at h
 | _ :: _,[],h=>by simp only [simAs,Bool.false_eq_true] at h
noncomputable def lookO:List (Nat × List AV × AV)→Nat→List AV→Option AV
 | [],_,_=>none
 | (f,xs,v) :: r,id,args=>if Nat.beq f id && simAs xs args then some v else lookO r id args
def Known (id:Nat) (args:List AV) (v:AV):Prop:=∀ (orc:Nat→List AV→Option AV) (M:Mem),CallOK Tryz.prog (env gloS orc noacc) id args M v M
def AllKnown:List (Nat × List AV × AV)→Prop
 | []=>True
 | (f,xs,v) :: r=>Known f xs v∧AllKnown r
theorem CallOK.sim {P:Program} {E:Env} {id:Nat} {xs args:List AV} {v:AV} {M M':Mem} (hk:CallOK P E id xs M v M') (hs:simAs xs args=true):CallOK P E id args M v M':=
 ⟨hk.1,fun γ w vs hI hv=>hk.2 γ w vs hI (simAs_ok hs hv)⟩
theorem Known.sim {id:Nat} {xs args:List AV} {v:AV} (h:Known id xs v) (hs:simAs xs args=true):Known id args v:=fun orc M=>CallOK.sim (h orc M) hs
theorem lookO_ok:∀ {t:List (Nat × List AV × AV)},AllKnown t→∀ {id:Nat} {args:List AV} {v:AV},lookO t id args=some v→Known id args v
 | [],_,_,_,_,h=>by cases h
 | (f,xs,u) :: r,ht,id,args,v,h=>by
  simp only [lookO] at h
  split at h
  ·rename_i hc
   simp only [Bool.and_eq_true] at hc
   cases h
   have he:=Nat.eq_of_beq_eq_true hc.1
   subst he
   exact ht.1.sim hc.2
  ·exact lookO_ok ht.2 h
noncomputable def orcT (t:List (Nat × List AV × AV)) (id:Nat) (args:List AV):Option AV:=
 match lookO t id args with
 | some v=>some v
 | none=>orcS id args
theorem orcS_known {id:Nat} {args:List AV} {v:AV} (h:orcS id args=some v):Known id args v:=fun _ _=>orcS_ok h
noncomputable abbrev ET (t:List (Nat × List AV × AV)):Env:=env gloS (orcT t) noacc
theorem ET_ok {t:List (Nat × List AV × AV)} (ht:AllKnown t):EnvOK Tryz.prog (ET t):=envA_ok fun id args v M h=>by
 unfold orcT at h
 split at h
 ·rename_i u hu
  cases h
  exact lookO_ok ht hu _ M
 ·exact orcS_known h _ M
def resV:Option Res→Option AV
 | some (.fn u M1)=>(adopt false M1 .zero u).map (·.1)
 | _=>none
theorem adopt_any {M1 M0 M:Mem} {u v:AV} (h:(adopt false M1 M0 u).map (·.1)=some v):adopt false M1 M u=some (v,M):=by
 unfold adopt at h ⊢
 split at h
 ·simp only [Bool.false_eq_true,if_false,Option.map_some,Option.some.injEq] at h ⊢
  rw [h]
 ·cases hf:frz M1 u with
  | none=>rw [hf] at h; cases h
  | some w=>
   rw [hf] at h
   simp only [Option.map_some,Option.some.injEq] at h ⊢
   rw [h]
theorem resV_inv {r:Option Res} {v:AV} (h:resV r=some v):∃ u M1,r=some (.fn u M1)∧∀ M,adopt false M1 M u=some (v,M):=by
 unfold resV at h
 split at h
 ·rename_i u M1
  exact ⟨u,M1,rfl,fun M=>adopt_any h⟩
 ·cases h
theorem known_ev {t:List (Nat × List AV × AV)} (ht:AllKnown t) {id:Nat} {args args':List AV} {v:AV} (h:resV (ev (ET t) (.b id args' .zero))=some v) (hf:∀ M,frzVs M args=some args') (hp:hasMs args=false):Known id args v:=fun orc M=>by
 obtain ⟨u,M1,hr,ha⟩:=resV_inv h
 exact own_ok (hf M) (ev_sound (ET_ok ht) hr) (ha M) (by rw [hp]; rfl)
end Go.Sx
