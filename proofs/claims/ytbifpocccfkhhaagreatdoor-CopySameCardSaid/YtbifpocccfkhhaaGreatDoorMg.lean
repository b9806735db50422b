/- Part of the proof. -/
import Derived.Test.YtbifpocccfkhhaaGreatDoorMf
set_option linter.all false
noncomputable section
namespace Go.Proofs.YtbifpocccfkhhaaGreatDoor
open Go Go.Proofs.Tryz
set_option maxRecDepth 20000
def tblR(k:Nat):Option F':=iteR (Nat.ble 146 k) (iteR (Nat.ble 195 k) (iteR (Nat.ble 218 k) (iteR (Nat.ble 244 k) (iteR (Nat.ble 252 k) (iteR (Nat.ble 255 k) (iteR (Nat.ble 268 k) (iteR (Nat.ble 269 k) (iteR (Nat.beq k 269) (some c269) none) (iteR (Nat.beq k 268) (some c268) none)) (iteR (Nat.beq k 255) (some c255) none)) (iteR (Nat.ble 253 k) (iteR (Nat.beq k 253) (some c253) none) (iteR (Nat.beq k 252) (some c252) none))) (iteR (Nat.ble 249 k) (iteR (Nat.ble 250 k) (iteR (Nat.ble 251 k) (iteR (Nat.beq k 251) (some c251) none) (iteR (Nat.beq k 250) (some c250) none)) (iteR (Nat.beq k 249) (some c249) none)) (iteR (Nat.ble 248 k) (iteR (Nat.beq k 248) (some c248) none) (iteR (Nat.beq k 244) (some c244) none)))) (iteR (Nat.ble 228 k) (iteR (Nat.ble 233 k) (iteR (Nat.ble 234 k) (iteR (Nat.ble 238 k) (iteR (Nat.beq k 238) (some c238) none) (iteR (Nat.beq k 234) (some c234) none)) (iteR (Nat.beq k 233) (some c233) none)) (iteR (Nat.ble 229 k) (iteR (Nat.beq k 229) (some c229) none) (iteR (Nat.beq k 228) (some c228) none))) (iteR (Nat.ble 220 k) (iteR (Nat.ble 221 k) (iteR (Nat.beq k 221) (some c221) none) (iteR (Nat.beq k 220) (some c220) none)) (iteR (Nat.ble 219 k) (iteR (Nat.beq k 219) (some c219) none) (iteR (Nat.beq k 218) (some c218) none))))) (iteR (Nat.ble 204 k) (iteR (Nat.ble 209 k) (iteR (Nat.ble 213 k) (iteR (Nat.ble 214 k) (iteR (Nat.ble 215 k) (iteR (Nat.beq k 215) (some c215) none) (iteR (Nat.beq k 214) (some c214) none)) (iteR (Nat.beq k 213) (some c213) none)) (iteR (Nat.ble 212 k) (iteR (Nat.beq k 212) (some c212) none) (iteR (Nat.beq k 209) (some c209) none))) (iteR (Nat.ble 207 k) (iteR (Nat.ble 208 k) (iteR (Nat.beq k 208) (some c208) none) (iteR (Nat.beq k 207) (some c207) none)) (iteR (Nat.ble 206 k) (iteR (Nat.beq k 206) (some c206) none) (iteR (Nat.beq k 204) (some c204) none)))) (iteR (Nat.ble 199 k) (iteR (Nat.ble 201 k) (iteR (Nat.ble 202 k) (iteR (Nat.ble 203 k) (iteR (Nat.beq k 203) (some c203) none) (iteR (Nat.beq k 202) (some c202) none)) (iteR (Nat.beq k 201) (some c201) none)) (iteR (Nat.ble 200 k) (iteR (Nat.beq k 200) (some c200) none) (iteR (Nat.beq k 199) (some c199) none))) (iteR (Nat.ble 197 k) (iteR (Nat.ble 198 k) (iteR (Nat.beq k 198) (some c198) none) (iteR (Nat.beq k 197) (some c197) none)) (iteR (Nat.ble 196 k) (iteR (Nat.beq k 196) (some c196) none) (iteR (Nat.beq k 195) (some c195) none)))))) (iteR (Nat.ble 169 k) (iteR (Nat.ble 180 k) (iteR (Nat.ble 185 k) (iteR (Nat.ble 187 k) (iteR (Nat.ble 188 k) (iteR (Nat.ble 193 k) (iteR (Nat.beq k 193) (some c193) none) (iteR (Nat.beq k 188) (some c188) none)) (iteR (Nat.beq k 187) (some c187) none)) (iteR (Nat.ble 186 k) (iteR (Nat.beq k 186) (some c186) none) (iteR (Nat.beq k 185) (some c185) none))) (iteR (Nat.ble 183 k) (iteR (Nat.ble 184 k) (iteR (Nat.beq k 184) (some c184) none) (iteR (Nat.beq k 183) (some c183) none)) (iteR (Nat.ble 182 k) (iteR (Nat.beq k 182) (some c182) none) (iteR (Nat.beq k 180) (some c180) none)))) (iteR (Nat.ble 173 k) (iteR (Nat.ble 177 k) (iteR (Nat.ble 178 k) (iteR (Nat.ble 179 k) (iteR (Nat.beq k 179) (some c179) none) (iteR (Nat.beq k 178) (some c178) none)) (iteR (Nat.beq k 177) (some c177) none)) (iteR (Nat.ble 174 k) (iteR (Nat.beq k 174) (some c174) none) (iteR (Nat.beq k 173) (some c173) none))) (iteR (Nat.ble 171 k) (iteR (Nat.ble 172 k) (iteR (Nat.beq k 172) (some c172) none) (iteR (Nat.beq k 171) (some c171) none)) (iteR (Nat.ble 170 k) (iteR (Nat.beq k 170) (some c170) none) (iteR (Nat.beq k 169) (some c169) none))))) (iteR (Nat.ble 156 k) (iteR (Nat.ble 164 k) (iteR (Nat.ble 166 k) (iteR (Nat.ble 167 k) (iteR (Nat.ble 168 k) (iteR (Nat.beq k 168) (some c168) none) (iteR (Nat.beq k 167) (some c167) none)) (iteR (Nat.beq k 166) (some c166) none)) (iteR (Nat.ble 165 k) (iteR (Nat.beq k 165) (some c165) none) (iteR (Nat.beq k 164) (some c164) none))) (iteR (Nat.ble 158 k) (iteR (Nat.ble 159 k) (iteR (Nat.beq k 159) (some c159) none) (iteR (Nat.beq k 158) (some c158) none)) (iteR (Nat.ble 157 k) (iteR (Nat.beq k 157) (some c157) none) (iteR (Nat.beq k 156) (some c156) none)))) (iteR (Nat.ble 151 k) (iteR (Nat.ble 153 k) (iteR (Nat.ble 154 k) (iteR (Nat.ble 155 k) (iteR (Nat.beq k 155) (some c155) none) (iteR (Nat.beq k 154) (some c154) none)) (iteR (Nat.beq k 153) (some c153) none)) (iteR (Nat.ble 152 k) (iteR (Nat.beq k 152) (some c152) none) (iteR (Nat.beq k 151) (some c151) none))) (iteR (Nat.ble 149 k) (iteR (Nat.ble 150 k) (iteR (Nat.beq k 150) (some c150) none) (iteR (Nat.beq k 149) (some c149) none)) (iteR (Nat.ble 147 k) (iteR (Nat.beq k 147) (some c147) none) (iteR (Nat.beq k 146) (some c146) none))))))) (iteR (Nat.ble 95 k) (iteR (Nat.ble 121 k) (iteR (Nat.ble 131 k) (iteR (Nat.ble 136 k) (iteR (Nat.ble 138 k) (iteR (Nat.ble 139 k) (iteR (Nat.ble 142 k) (iteR (Nat.beq k 142) (some c142) none) (iteR (Nat.beq k 139) (some c139) none)) (iteR (Nat.beq k 138) (some c138) none)) (iteR (Nat.ble 137 k) (iteR (Nat.beq k 137) (some c137) none) (iteR (Nat.beq k 136) (some c136) none))) (iteR (Nat.ble 133 k) (iteR (Nat.ble 134 k) (iteR (Nat.beq k 134) (some c134) none) (iteR (Nat.beq k 133) (some c133) none)) (iteR (Nat.ble 132 k) (iteR (Nat.beq k 132) (some c132) none) (iteR (Nat.beq k 131) (some c131) none)))) (iteR (Nat.ble 126 k) (iteR (Nat.ble 128 k) (iteR (Nat.ble 129 k) (iteR (Nat.ble 130 k) (iteR (Nat.beq k 130) (some c130) none) (iteR (Nat.beq k 129) (some c129) none)) (iteR (Nat.beq k 128) (some c128) none)) (iteR (Nat.ble 127 k) (iteR (Nat.beq k 127) (some c127) none) (iteR (Nat.beq k 126) (some c126) none))) (iteR (Nat.ble 124 k) (iteR (Nat.ble 125 k) (iteR (Nat.beq k 125) (some c125) none) (iteR (Nat.beq k 124) (some c124) none)) (iteR (Nat.ble 123 k) (iteR (Nat.beq k 123) (some c123) none) (iteR (Nat.beq k 121) (some c121) none))))) (iteR (Nat.ble 106 k) (iteR (Nat.ble 111 k) (iteR (Nat.ble 118 k) (iteR (Nat.ble 119 k) (iteR (Nat.ble 120 k) (iteR (Nat.beq k 120) (some c120) none) (iteR (Nat.beq k 119) (some c119) none)) (iteR (Nat.beq k 118) (some c118) none)) (iteR (Nat.ble 113 k) (iteR (Nat.beq k 113) (some c113) none) (iteR (Nat.beq k 111) (some c111) none))) (iteR (Nat.ble 108 k) (iteR (Nat.ble 109 k) (iteR (Nat.beq k 109) (some c109) none) (iteR (Nat.beq k 108) (some c108) none)) (iteR (Nat.ble 107 k) (iteR (Nat.beq k 107) (some c107) none) (iteR (Nat.beq k 106) (some c106) none)))) (iteR (Nat.ble 101 k) (iteR (Nat.ble 103 k) (iteR (Nat.ble 104 k) (iteR (Nat.ble 105 k) (iteR (Nat.beq k 105) (some c105) none) (iteR (Nat.beq k 104) (some c104) none)) (iteR (Nat.beq k 103) (some c103) none)) (iteR (Nat.ble 102 k) (iteR (Nat.beq k 102) (some c102) none) (iteR (Nat.beq k 101) (some c101) none))) (iteR (Nat.ble 97 k) (iteR (Nat.ble 100 k) (iteR (Nat.beq k 100) (some c100) none) (iteR (Nat.beq k 97) (some c97) none)) (iteR (Nat.ble 96 k) (iteR (Nat.beq k 96) (some c96) none) (iteR (Nat.beq k 95) (some c95) none)))))) (iteR (Nat.ble 61 k) (iteR (Nat.ble 77 k) (iteR (Nat.ble 81 k) (iteR (Nat.ble 86 k) (iteR (Nat.ble 87 k) (iteR (Nat.ble 90 k) (iteR (Nat.beq k 90) (some c90) none) (iteR (Nat.beq k 87) (some c87) none)) (iteR (Nat.beq k 86) (some c86) none)) (iteR (Nat.ble 82 k) (iteR (Nat.beq k 82) (some c82) none) (iteR (Nat.beq k 81) (some c81) none))) (iteR (Nat.ble 79 k) (iteR (Nat.ble 80 k) (iteR (Nat.beq k 80) (some c80) none) (iteR (Nat.beq k 79) (some c79) none)) (iteR (Nat.ble 78 k) (iteR (Nat.beq k 78) (some c78) none) (iteR (Nat.beq k 77) (some c77) none)))) (iteR (Nat.ble 70 k) (iteR (Nat.ble 74 k) (iteR (Nat.ble 75 k) (iteR (Nat.ble 76 k) (iteR (Nat.beq k 76) (some c76) none) (iteR (Nat.beq k 75) (some c75) none)) (iteR (Nat.beq k 74) (some c74) none)) (iteR (Nat.ble 73 k) (iteR (Nat.beq k 73) (some c73) none) (iteR (Nat.beq k 70) (some c70) none))) (iteR (Nat.ble 68 k) (iteR (Nat.ble 69 k) (iteR (Nat.beq k 69) (some c69) none) (iteR (Nat.beq k 68) (some c68) none)) (iteR (Nat.ble 62 k) (iteR (Nat.beq k 62) (some c62) none) (iteR (Nat.beq k 61) (some c61) none))))) (iteR (Nat.ble 33 k) (iteR (Nat.ble 56 k) (iteR (Nat.ble 58 k) (iteR (Nat.ble 59 k) (iteR (Nat.ble 60 k) (iteR (Nat.beq k 60) (some c60) none) (iteR (Nat.beq k 59) (some c59) none)) (iteR (Nat.beq k 58) (some c58) none)) (iteR (Nat.ble 57 k) (iteR (Nat.beq k 57) (some c57) none) (iteR (Nat.beq k 56) (some c56) none))) (iteR (Nat.ble 54 k) (iteR (Nat.ble 55 k) (iteR (Nat.beq k 55) (some c55) none) (iteR (Nat.beq k 54) (some c54) none)) (iteR (Nat.ble 53 k) (iteR (Nat.beq k 53) (some c53) none) (iteR (Nat.beq k 33) (some c33) none)))) (iteR (Nat.ble 27 k) (iteR (Nat.ble 30 k) (iteR (Nat.ble 31 k) (iteR (Nat.ble 32 k) (iteR (Nat.beq k 32) (some c32) none) (iteR (Nat.beq k 31) (some c31) none)) (iteR (Nat.beq k 30) (some c30) none)) (iteR (Nat.ble 29 k) (iteR (Nat.beq k 29) (some c29) none) (iteR (Nat.beq k 27) (some c27) none))) (iteR (Nat.ble 23 k) (iteR (Nat.ble 24 k) (iteR (Nat.beq k 24) (some c24) none) (iteR (Nat.beq k 23) (some c23) none)) (iteR (Nat.ble 19 k) (iteR (Nat.beq k 19) (some c19) none) (iteR (Nat.beq k 18) (some c18) none)))))))
def Good(k:Nat)(f':F'):Prop:=∃f,prog.funcs[k]?=some f∧qdH prog f=some f'
theorem qak{G:Prop}{c:Bool}{x y:Option F'}{f':F'}(hx:x=some f'→G)(hy:y=some f'→G):iteR c x y=some f'→G:=fun h=>by
 cases c
 ·exact hy h
 ·exact hx h
theorem qaj{k n:Nat}{cn f':F'}(h:Good n cn):iteR (Nat.beq k n) (some cn) none=some f'→Good k f':=fun hh=>by
 rw[qaI] at hh
 split at hh
 ·rename_i hb
  have:=qaz hb
  subst this
  cases hh;exact h
 ·cases hh
theorem qoM(k:Nat)(f':F'):tblR k=some f'→Good k f':=qak (qak (qak (qak (qak (qak (qak (qak (qaj ⟨_,func269,ok269⟩) (qaj ⟨_,func268,ok268⟩)) (qaj ⟨_,func255,ok255⟩)) (qak (qaj ⟨_,func253,ok253⟩) (qaj ⟨_,func252,ok252⟩))) (qak (qak (qak (qaj ⟨_,func251,ok251⟩) (qaj ⟨_,func250,ok250⟩)) (qaj ⟨_,func249,ok249⟩)) (qak (qaj ⟨_,func248,ok248⟩) (qaj ⟨_,func244,ok244⟩)))) (qak (qak (qak (qak (qaj ⟨_,func238,ok238⟩) (qaj ⟨_,func234,ok234⟩)) (qaj ⟨_,func233,ok233⟩)) (qak (qaj ⟨_,func229,ok229⟩) (qaj ⟨_,func228,ok228⟩))) (qak (qak (qaj ⟨_,func221,ok221⟩) (qaj ⟨_,func220,ok220⟩)) (qak (qaj ⟨_,func219,ok219⟩) (qaj ⟨_,func218,ok218⟩))))) (qak (qak (qak (qak (qak (qaj ⟨_,func215,ok215⟩) (qaj ⟨_,func214,ok214⟩)) (qaj ⟨_,func213,ok213⟩)) (qak (qaj ⟨_,func212,ok212⟩) (qaj ⟨_,func209,ok209⟩))) (qak (qak (qaj ⟨_,func208,ok208⟩) (qaj ⟨_,func207,ok207⟩)) (qak (qaj ⟨_,func206,ok206⟩) (qaj ⟨_,func204,ok204⟩)))) (qak (qak (qak (qak (qaj ⟨_,func203,ok203⟩) (qaj ⟨_,func202,ok202⟩)) (qaj ⟨_,func201,ok201⟩)) (qak (qaj ⟨_,func200,ok200⟩) (qaj ⟨_,func199,ok199⟩))) (qak (qak (qaj ⟨_,func198,ok198⟩) (qaj ⟨_,func197,ok197⟩)) (qak (qaj ⟨_,func196,ok196⟩) (qaj ⟨_,func195,ok195⟩)))))) (qak (qak (qak (qak (qak (qak (qaj ⟨_,func193,ok193⟩) (qaj ⟨_,func188,ok188⟩)) (qaj ⟨_,func187,ok187⟩)) (qak (qaj ⟨_,func186,ok186⟩) (qaj ⟨_,func185,ok185⟩))) (qak (qak (qaj ⟨_,func184,ok184⟩) (qaj ⟨_,func183,ok183⟩)) (qak (qaj ⟨_,func182,ok182⟩) (qaj ⟨_,func180,ok180⟩)))) (qak (qak (qak (qak (qaj ⟨_,func179,ok179⟩) (qaj ⟨_,func178,ok178⟩)) (qaj ⟨_,func177,ok177⟩)) (qak (qaj ⟨_,func174,ok174⟩) (qaj ⟨_,func173,ok173⟩))) (qak (qak (qaj ⟨_,func172,ok172⟩) (qaj ⟨_,func171,ok171⟩)) (qak (qaj ⟨_,func170,ok170⟩) (qaj ⟨_,func169,ok169⟩))))) (qak (qak (qak (qak (qak (qaj ⟨_,func168,ok168⟩) (qaj ⟨_,func167,ok167⟩)) (qaj ⟨_,func166,ok166⟩)) (qak (qaj ⟨_,func165,ok165⟩) (qaj ⟨_,func164,ok164⟩))) (qak (qak (qaj ⟨_,func159,ok159⟩) (qaj ⟨_,func158,ok158⟩)) (qak (qaj ⟨_,func157,ok157⟩) (qaj ⟨_,func156,ok156⟩)))) (qak (qak (qak (qak (qaj ⟨_,func155,ok155⟩) (qaj ⟨_,func154,ok154⟩)) (qaj ⟨_,func153,ok153⟩)) (qak (qaj ⟨_,func152,ok152⟩) (qaj ⟨_,func151,ok151⟩))) (qak (qak (qaj ⟨_,func150,ok150⟩) (qaj ⟨_,func149,ok149⟩)) (qak (qaj ⟨_,func147,ok147⟩) (qaj ⟨_,func146,ok146⟩))))))) (qak (qak (qak (qak (qak (qak (qak (qaj ⟨_,func142,ok142⟩) (qaj ⟨_,func139,ok139⟩)) (qaj ⟨_,func138,ok138⟩)) (qak (qaj ⟨_,func137,ok137⟩) (qaj ⟨_,func136,ok136⟩))) (qak (qak (qaj ⟨_,func134,ok134⟩) (qaj ⟨_,func133,ok133⟩)) (qak (qaj ⟨_,func132,ok132⟩) (qaj ⟨_,func131,ok131⟩)))) (qak (qak (qak (qak (qaj ⟨_,func130,ok130⟩) (qaj ⟨_,func129,ok129⟩)) (qaj ⟨_,func128,ok128⟩)) (qak (qaj ⟨_,func127,ok127⟩) (qaj ⟨_,func126,ok126⟩))) (qak (qak (qaj ⟨_,func125,ok125⟩) (qaj ⟨_,func124,ok124⟩)) (qak (qaj ⟨_,func123,ok123⟩) (qaj ⟨_,func121,ok121⟩))))) (qak (qak (qak (qak (qak (qaj ⟨_,func120,ok120⟩) (qaj ⟨_,func119,ok119⟩)) (qaj ⟨_,func118,ok118⟩)) (qak (qaj ⟨_,func113,ok113⟩) (qaj ⟨_,func111,ok111⟩))) (qak (qak (qaj ⟨_,func109,ok109⟩) (qaj ⟨_,func108,ok108⟩)) (qak (qaj ⟨_,func107,ok107⟩) (qaj ⟨_,func106,ok106⟩)))) (qak (qak (qak (qak (qaj ⟨_,func105,ok105⟩) (qaj ⟨_,func104,ok104⟩)) (qaj ⟨_,func103,ok103⟩)) (qak (qaj ⟨_,func102,ok102⟩) (qaj ⟨_,func101,ok101⟩))) (qak (qak (qaj ⟨_,func100,ok100⟩) (qaj ⟨_,func97,ok97⟩)) (qak (qaj ⟨_,func96,ok96⟩) (qaj ⟨_,func95,ok95⟩)))))) (qak (qak (qak (qak (qak (qak (qaj ⟨_,func90,ok90⟩) (qaj ⟨_,func87,ok87⟩)) (qaj ⟨_,func86,ok86⟩)) (qak (qaj ⟨_,func82,ok82⟩) (qaj ⟨_,func81,ok81⟩))) (qak (qak (qaj ⟨_,func80,ok80⟩) (qaj ⟨_,func79,ok79⟩)) (qak (qaj ⟨_,func78,ok78⟩) (qaj ⟨_,func77,ok77⟩)))) (qak (qak (qak (qak (qaj ⟨_,func76,ok76⟩) (qaj ⟨_,func75,ok75⟩)) (qaj ⟨_,func74,ok74⟩)) (qak (qaj ⟨_,func73,ok73⟩) (qaj ⟨_,func70,ok70⟩))) (qak (qak (qaj ⟨_,func69,ok69⟩) (qaj ⟨_,func68,ok68⟩)) (qak (qaj ⟨_,func62,ok62⟩) (qaj ⟨_,func61,ok61⟩))))) (qak (qak (qak (qak (qak (qaj ⟨_,func60,ok60⟩) (qaj ⟨_,func59,ok59⟩)) (qaj ⟨_,func58,ok58⟩)) (qak (qaj ⟨_,func57,ok57⟩) (qaj ⟨_,func56,ok56⟩))) (qak (qak (qaj ⟨_,func55,ok55⟩) (qaj ⟨_,func54,ok54⟩)) (qak (qaj ⟨_,func53,ok53⟩) (qaj ⟨_,func33,ok33⟩)))) (qak (qak (qak (qak (qaj ⟨_,func32,ok32⟩) (qaj ⟨_,func31,ok31⟩)) (qaj ⟨_,func30,ok30⟩)) (qak (qaj ⟨_,func29,ok29⟩) (qaj ⟨_,func27,ok27⟩))) (qak (qak (qaj ⟨_,func24,ok24⟩) (qaj ⟨_,func23,ok23⟩)) (qak (qaj ⟨_,func19,ok19⟩) (qaj ⟨_,func18,ok18⟩)))))))
def TT(l:List Pr):Tb:=⟨tblR,fun k args=>Pr.find k args l⟩
theorem qa4{l:List Pr}(h:∀p,p∈l→p.ok prog):(TT l).Ok prog:=⟨qoM,fun _ _ _ hf=>Pr.find_spec h hf⟩
theorem qau{p:Pr}{l:List Pr}(h:p.ok prog)(g:∀q,q∈l→q.ok prog):∀q,q∈p::l→q.ok prog:=fun q hq=>by
 rcases qrE.1 hq with rfl|hq
 ·exact h
 ·exact g q hq
theorem SR.grown{E:En}{S:St}{w w':World}(h:SR E S w)(hb:∀b,b<w.heap.size→w'.heap[b]?=w.heap[b]?)(hs:w.heap.size≤w'.heap.size)(ho:(w'.output,w'.os)=(w.output,w.os)):SR E S w'∧∀n,Ext n E S w E S w':=by
 refine ⟨⟨h.gl.old (fun _ _ _ h=>h) (fun b _ _ _ hc _=>hb b (qcI hc)),fun b o' c hc=>?_,fun l ob hl=>?_,h.dom,h.apart,fun b hb'=>?_,h.inj⟩,fun n=>⟨hs,fun _ _ _ h=>h,fun _ _ _ _ h=>h,fun _ _ h=>h,fun _ h=>.inl h,fun _ _ _ h=>.inl h,fun b hb' _=>hb b hb',ho⟩⟩
 ·have:=h.I b o' c hc;rw[cell?_heap (hb b (cell?_lt this))];exact this
 ·by_cases hd:ob=.dead
  ·subst hd;trivial
  exact (h.obs l ob hl).mono (En.le_refl E) (fun _ _ hx=>hx) (fun st x hx=>hb _ (h.lt _ ⟨l,st,x,⟨ob,hl,hd⟩,hx,rfl⟩))
 ·have:=h.lt b hb';omega
theorem SR.tab {E : En} {S : St} {w : World} (h : SR E S w) : Lib.TabIs prog w "internal/strconv.uint64pow10" .u64 Lib.pow10Tab := by
 obtain ⟨t,fz,hh⟩:=h.gl.2 2 _ (by simp only[qiV,if_pos];rfl);unfold Lib.TabIs World.var?
 rw [show prog.globalNamed "internal/strconv.uint64pow10" = some 2 by decide +kernel]
 simp only[qrg,hh];simp[Lib.pow10Tab,List.map_map,Function.comp]
theorem Spec.of_calls{P:Program}{f:FuncId}{fn:Func}{f':F'}{args:List V}{S:St}{R:V→St→Prop}(hf:P.funcs[f]?=some fn)(hc:qdH P fn=some f')
  (h:∀(E:En) (w:World) (us:Array Value),SR E S w→VRs E args us→Calls P f us w fun e w'=>∃u r E' S',e=.returned u∧R r S'∧VR E' r u∧SR E' S' w'∧Ext S.length E S w E' S' w'∧S.length≤S'.length):Spec P f args S R:=by
 refine ⟨fun xs w=>?_,fun E w us n hs hv=>callsIn_wide.2 (h E w us hs hv)⟩;unfold qdH at hc;split at hc
 ·rename_i c rs hb hrs;split at hc
  ·cases hc
  ·rename_i hname;simp[callFunc,program,Sem.run,Result.andThen,hf,hname,hb]
 ·cases hc
theorem qn4(n:Nat)(hn:n≤9223372036854775807)(S:St):Spec prog 129 [.int .i64 n] S (fun r U=>r=.str ⟨(dig n).toArray⟩∧U=S):=by
 refine Spec.of_calls func129 ok129 fun E w us hs hv=>?_
 obtain ⟨hl,hv⟩:=hv
 have hu:us=#[.int .i64 n]:=by
  match us,hl with
  | ⟨[u]⟩,_=>
   have:=hv 0 _ u rfl rfl;cases this;rfl
 subst hu;refine Calls.mono (Tryz.strconv_Itoa n (by omega) (by omega) w hs.tab) ?_;rintro e w' ⟨rfl,k,os,rfl⟩;obtain ⟨g1,g2⟩:=hs.grown (w':=Sort.grow (w.drewN k) os) (fun b hb=>by simp[Sort.grow,World.drewN,Array.getElem?_append,hb]) (by simp[Sort.grow,World.drewN]) rfl;refine ⟨_,_,E,S,rfl,⟨rfl,rfl⟩,?_,g1,g2 _,qq8 _⟩;rw[show Lib.itoa (n:Int)=dig n by unfold Lib.itoa dig;simp];exact VR.str _
theorem qah{rs:List RV}{n:Nat}{R:V→St→Prop}{e:Env}{S:St}{vs:List V}(h:rvs e S rs=some vs)(g:R (retV vs) S):endp rs n R .ret e S:=⟨vs,h,_,_,qba.refl _ _ _,g⟩
theorem qav{rs:List RV}{n:Nat}{R:V→St→Prop}{e:Env}{S:St}{vs:List V}(h:rvs e S rs=some vs)(g:R (retV vs) S):endp rs n R .normal e S:=⟨vs,h,_,_,qba.refl _ _ _,g⟩
abbrev Fn(P:Program)(k:Nat)(args:List V)(S:St)(r:V):Prop:=Spec P k args S (fun v U=>v=r∧U=S)
def qlZ(P:Program)(k:Nat)(args:List V)(S:St)(Φ:V→St→Prop):Prop:=∃R,Spec P k args S R∧∀v S',R v S'→Φ v S'
def wyld(P:Program)(l:Nat)(args:List V)(S:St)(Φ:V→St→Prop):Prop:=∃R,qbg P l args S R∧∀v S',R v S'→Φ v S'
def qjK(P:Program)(os:List O')(Q:Env→St→Prop)(e:Env)(d:Option Nat)(v:V)(S:St):Prop:=wops P os Q (e.put d v) S
def wres(r:Option (V×St))(P:Program)(d:Option Nat)(k:K)(os:List O')(Q:Env→St→Prop)(e:Env)(S:St):Prop:=match r with
 | some (r,S')=>wops P os Q (e.put d r) S'
 | none=>(ndK e k≠[]∧∀v,v∈ndK e k→wops P os Q (e.put d v) S)∨(ndS e S k≠[]∧∀q,q∈ndS e S k→wops P os Q (e.put d q.1) q.2)
def wgd(g:Option Bool)(P:Program)(d:Option Nat)(k:K)(os:List O')(Q:Env→St→Prop)(e:Env)(S:St):Prop:=match g with
 | none=>False
 | some false=>wops P os Q (e.put d (.tup [])) S
 | some true=>wops P (⟨d,none,k⟩::os) Q e S
def wcnd(c:Option V)(P:Program)(a b:C')(Q:Post)(e:Env)(S:St):Prop:=match c with
 | some (.bool true)=>WP P a Q e S
 | some (.bool false)=>WP P b Q e S
 | _=>False
def wtgt(f:Option V)(vs:Option (List V))(P:Program)(d:Option Nat)(os:List O')(Q:Env→St→Prop)(e:Env)(S:St):Prop:=match f,vs with
 | some (.fn (.func k) fs cs),some vs=>qlZ P k (fs++vs++cs) S (qjK P os Q e d)
 | some (.yld l),some vs=>wyld P l vs S (qjK P os Q e d)
 | _,_=>False
theorem qlQ{P:Program}{os:List O'}{Q:Env→St→Prop}{e:Env}{d:Option Nat}{v:V}{S:St}:qjK P os Q e d v S=wops P os Q (e.put d v) S:=(rfl)
theorem qjv{P:Program}{d:Option Nat}{k:K}{os:List O'}{Q:Env→St→Prop}{e:Env}{r:V}{S S':St}:wres (some (r,S')) P d k os Q e S=wops P os Q (e.put d r) S':=(rfl)
theorem qkV{P:Program}{d:Option Nat}{k:K}{os:List O'}{Q:Env→St→Prop}{e:Env}{S:St}:wgd (some false) P d k os Q e S=wops P os Q (e.put d (.tup [])) S:=(rfl)
theorem qlO{P:Program}{d:Option Nat}{k:K}{os:List O'}{Q:Env→St→Prop}{e:Env}{S:St}:wgd (some true) P d k os Q e S=wops P (⟨d,none,k⟩::os) Q e S:=(rfl)
theorem qkh{P:Program}{a b:C'}{Q:Post}{e:Env}{S:St}:wcnd (some (.bool true)) P a b Q e S=WP P a Q e S:=(rfl)
theorem qji{P:Program}{a b:C'}{Q:Post}{e:Env}{S:St}:wcnd (some (.bool false)) P a b Q e S=WP P b Q e S:=(rfl)
theorem qpk{P:Program}{k:Nat}{fs cs vs:List V}{d:Option Nat}{os:List O'}{Q:Env→St→Prop}{e:Env}{S:St}:wtgt (some (.fn (.func k) fs cs)) (some vs) P d os Q e S=qlZ P k (fs++vs++cs) S (qjK P os Q e d):=(rfl)
theorem qmi{P:Program}{l:Nat}{vs:List V}{d:Option Nat}{os:List O'}{Q:Env→St→Prop}{e:Env}{S:St}:wtgt (some (.yld l)) (some vs) P d os Q e S=wyld P l vs S (qjK P os Q e d):=(rfl)
theorem qlT{P:Program}{Q:Env→St→Prop}{e:Env}{S:St}:wops P [] Q e S=Q e S:=(rfl)
theorem qjo{P:Program}{d:Option Nat}{g:Nat×Bool}{k:K}{os:List O'}{Q:Env→St→Prop}{e:Env}{S:St}:wops P (⟨d,some g,k⟩::os) Q e S=wgd (qaH e (some g)) P d k os Q e S:=by
 unfold wgd
 cases h:qaH e (some g) with
 | none=>simp only[wops,h]
 | some b=>cases b <;> simp only[wops,h] <;> rfl
theorem qjT{P:Program}{d:Option Nat}{f:Opd}{args:List Opd}{os:List O'}{Q:Env→St→Prop}{e:Env}{S:St}:wops P (⟨d,none,.call f args⟩::os) Q e S=wtgt (f.ev e) (evs e args) P d os Q e S:=(rfl)
theorem qja{P:Program}{d:Option Nat}{k:K}{os:List O'}{Q:Env→St→Prop}{e:Env}{S:St}(h:∀f args,k≠.call f args):wops P (⟨d,none,k⟩::os) Q e S=wres (evK e S k) P d k os Q e S:=by
 cases k <;> first|rfl|exact absurd rfl (h _ _)
theorem qad{P:Program}{k:Nat}{args:List V}{S:St}{r:V}{Φ:V→St→Prop}(h:Fn P k args S r)(g:Φ r S):qlZ P k args S Φ:=
 ⟨_,h,fun _ _ hh=>by obtain ⟨rfl,rfl⟩:=hh;exact g⟩
theorem qan{P:Program}{k:Nat}{args:List V}{S:St}{R:V→St→Prop}{Φ:V→St→Prop}(h:Spec P k args S R)(g:∀v U,R v U→Φ v U):qlZ P k args S Φ:=⟨_,h,g⟩
theorem qlr{P:Program}{Q:Post}{e:Env}{S:St}:WP P .skip Q e S=Q .normal e S:=(rfl)
theorem qqa{P:Program}{ops:List O'}{Q:Post}{e:Env}{S:St}:WP P (.reg ops) Q e S=wops P ops (Q .normal) e S:=(rfl)
theorem qm6{P:Program}{a b:C'}{Q:Post}{e:Env}{S:St}:WP P (.seq a b) Q e S=WP P a (qe4 (WP P b Q) Q) e S:=(rfl)
theorem qor{P:Program}{c:Opd}{a b:C'}{Q:Post}{e:Env}{S:St}:WP P (.cond c a b) Q e S=wcnd (c.ev e) P a b Q e S:=by
 unfold wcnd;simp only[WP]
 cases c.ev e with
 | none=>rfl
 | some v=>cases v <;> first|rfl|(rename_i b;cases b <;> simp)
theorem qhI{P:Program}{id:Nat}{c:C'}{Q:Post}{e:Env}{S:St}:WP P (.block id c) Q e S=WP P c (qcA id Q) e S:=(rfl)
theorem qhF{P:Program}{c:C'}{Q:Post}{e:Env}{S:St}:WP P (.scope c) Q e S=WP P c (qeK Q) e S:=(rfl)
theorem qoN{P:Program}{id:Nat}{Q:Post}{e:Env}{S:St}:WP P (.exit id) Q e S=Q (.exit id) e S:=(rfl)
theorem qqh{P:Program}{Q:Post}{e:Env}{S:St}:WP P .ret Q e S=Q .ret e S:=(rfl)
theorem qax{P:Program}{c:C'}{Q:Post}{e:Env}{S:St}(I:Nat→Env→St→Prop)(n0:Nat)(e0:Env)(hs:Env.sub e0 e)(h0:I n0 e0 S)
 (h:∀n e S,I n e S→WP P c (qe4 (fun e S=>∃n',n'<n∧∃e',Env.sub e' e∧I n' e' S) Q) e S):WP P (.loop c) Q e S:=⟨I,n0,⟨e0,hs,h0⟩,h⟩
theorem qeb{N:Env→St→Prop}{Q:Post}{e:Env}{S:St}:qe4 N Q .normal e S=N e S:=(rfl)
theorem Env.sub_nil(e:Env):Env.sub [] e:=fun t v h=>by simp[Env.get] at h
theorem Env.sub_cons{e e':Env}{k:Nat}{v:V}(h:e.get k=some v)(g:Env.sub e' e):Env.sub ((k,v)::e') e:=fun t u hu=>by
 simp only[Env.get] at hu;split at hu
 ·rename_i hk;subst hk;cases hu;exact h
 ·exact g _ _ hu
@[simp] def Env.sa:Env→Env→Prop
 | [],_=>True
 | (k,v)::r,e=>e.get k=some v∧Env.sa r e
theorem Env.so:∀{a e:Env},Env.sa a e→Env.sub a e
 | [],e,_=>Env.sub_nil e
 | (k,v)::r,e,h=>Env.sub_cons h.1 (Env.so h.2)
theorem qaJ{n:Int}(h0:-9223372036854775808≤n)(h1:n≤9223372036854775807):IntKind.i64.wrap n=n:=by rw[IntKind.wrap_i64];omega
theorem qa6{n:Int}(h0:-9223372036854775808≤n:=by omega)(h1:n≤9223372036854775807:=by omega):IntKind.i64.wrap n=n:=qaJ h0 h1
theorem qgQ(a b:ByteArray):qgb a b=decide (a=b):=by
 unfold qgb;by_cases h:a=b
 ·subst h;simp
 ·have:¬ a.toList=b.toList:=fun hh=>h (by
   rw[qbr,qbr] at hh;exact ByteArray.ext (Array.ext' hh))
  simp[h,this]
theorem qe8{l:List ByteArray}{i:Nat}(h:i<l.length)(b:Bool)(S:St):iaS S 1 (.sl b (l.map .str)) i=some (.iptr (.str l[i]) 0):=by simp[iaS,h,V.size,V.cells]
theorem qqV(s:ByteArray)(S:St):ldS S (.iptr (.str s) 0) none=some (.str s):=rfl
theorem qlN(a b:ByteArray):strV .eql a b=some (.bool (decide (a=b))):=by simp[strV,qgQ]
theorem qmF(a b:ByteArray):strV .neq a b=some (.bool (!decide (a=b))):=by simp[strV,qgQ]
theorem idxS{s:ByteArray}{i:Nat}(h:i<s.size):idxV s i=some (.int .u8 (s.data[i]'h).toNat):=by
 have h1:(s[(i:Int).toNat]?:Option UInt8)=some s[i]:=getElem?_pos s i h;unfold idxV;rw[h1];simp[ByteArray.getElem_eq_getElem_data]
theorem qqU{s:ByteArray}(h:0<s.size):idxV s 0=some (.int .u8 (s.data[0]'h).toNat):=by
 have:=idxS h;simpa using this
attribute [simp] qlr qqa qm6 qor qhI qhF qoN qqh qlQ qjv qkV qlO qkh qji qpk qmi qlT qjo qjT qja qeb qe4 qcA
 qaH evK evs Opd.ev Env.get Env.put qb3 binV intV unV rvs retV qqV qlN qmF
set_option maxRecDepth 20000
def isL(c:Int):Bool:=decide (97≤c) && decide (c≤122)
def isD(c:Int):Bool:=decide (48≤c) && decide (c≤57)
theorem qke(c:Int)(S:St):Fn prog 102 [.int .u8 c] S (.bool (isL c)):=by
 refine Spec.intro func102 ok102 (by simp[c102]) ?_;unfold isL;by_cases h1:97≤c <;> by_cases h2:c≤122 <;> simp[c102,h1,h2] <;> exact qah rfl (by simp)
theorem qnc(c:Int)(S:St):Fn prog 155 [.int .u8 c] S (.bool (isD c)):=by
 refine Spec.intro func155 ok155 (by simp[c155]) ?_;unfold isD;by_cases h1:48≤c <;> by_cases h2:c≤57 <;> simp[c155,h1,h2] <;> exact qah rfl (by simp)
theorem qpA(c:Int)(S:St):Fn prog 106 [.int .u8 c] S (.bool (isL c || isD c)):=by
 refine Spec.intro func106 ok106 (by simp[c106]) ?_;simp[c106];refine qad (qke c S) ?_;cases isL c <;> simp
 ·refine qad (qnc c S) ?_
  try simp
  exact qah rfl (by simp)
 ·exact qah rfl (by simp)
theorem qnv(c:Int)(S:St):Fn prog 105 [.int .u8 c] S (.bool (!(isL c || isD c))):=by
 refine Spec.intro func105 ok105 (by simp[c105]) ?_;simp[c105];refine qad (qpA c S) ?_
 try simp
 exact qah rfl (by simp)
def qpJ:List V:=[(.str ⟨⟨[98,101,103,105,110]⟩⟩),(.str ⟨⟨[101,110,100]⟩⟩),(.str ⟨⟨[105,102]⟩⟩),(.str ⟨⟨[116,104,101,110]⟩⟩),(.str ⟨⟨[101,108,115,101]⟩⟩),(.str ⟨⟨[102,111,114]⟩⟩),(.str ⟨⟨[100,111]⟩⟩),(.str ⟨⟨[115,116,101,112]⟩⟩),(.str ⟨⟨[117,110,116,105,108]⟩⟩),(.str ⟨⟨[119,104,105,108,101]⟩⟩),(.str ⟨⟨[103,111,116,111]⟩⟩),(.str ⟨⟨[111,119,110]⟩⟩),(.str ⟨⟨[105,110,116,101,103,101,114]⟩⟩),(.str ⟨⟨[114,101,97,108]⟩⟩),(.str ⟨⟨[98,111,111,108,101,97,110]⟩⟩),(.str ⟨⟨[97,114,114,97,121]⟩⟩),(.str ⟨⟨[115,119,105,116,99,104]⟩⟩),(.str ⟨⟨[112,114,111,99,101,100,117,114,101]⟩⟩),(.str ⟨⟨[118,97,108,117,101]⟩⟩),(.str ⟨⟨[108,97,98,101,108]⟩⟩),(.str ⟨⟨[115,116,114,105,110,103]⟩⟩),(.str ⟨⟨[116,114,117,101]⟩⟩),(.str ⟨⟨[102,97,108,115,101]⟩⟩),(.str ⟨⟨[99,111,109,109,101,110,116]⟩⟩),(.str ⟨⟨[110,111,116]⟩⟩),(.str ⟨⟨[97,110,100]⟩⟩),(.str ⟨⟨[111,114]⟩⟩),(.str ⟨⟨[105,109,112]⟩⟩),(.str ⟨⟨[101,113,118]⟩⟩)]
def qqS:V→ByteArray
 | .str s=>s
 | _=>⟨#[]⟩
def wds:List ByteArray:=qpJ.map qqS
theorem qnN:wds.map V.str=qpJ:=rfl
theorem qoR:wds.length=29:=rfl
theorem qn7(b:Bool)(l:List ByteArray)(s:ByteArray)(S:St)(hl:l.length≤1000000):Spec prog 184 [.sl b (l.map .str),.str s] S (fun v U=>(∃i:Int,v=.int .i64 i∧(0≤i↔s∈l))∧U=S):=by
 refine Spec.intro func184 ok184 (by simp[c184]) ?_;simp[c184];refine qax (fun n e S'=>∃i:Nat,n=l.length - i∧i≤l.length∧(∀j,(h:j<l.length)→j<i→l[j]≠s)∧S'=S∧
  e=[(8,.int .i64 i),(7,.int .i64 l.length),(4,.int .i64 0),(0,.sl b (l.map .str)),(1,.str s)]) l.length _ ?_ ⟨0,by simp,by omega,by omega,rfl,rfl⟩ ?_
 ·exact Env.so (by simp)
 rintro n e S' ⟨i,rfl,hi,hno,rfl,rfl⟩;by_cases h:i<l.length
 ·by_cases he:s=l[i]
  ·simp[h,qe8,he];exact qah rfl ⟨⟨i,rfl,by simp⟩,rfl⟩
  ·simp[h,qe8,he,qa6 (n:=(i:Int)+1)];refine ⟨_,?_,_,?_,i+1,rfl,by omega,fun j hj hji=>?_,rfl⟩
   ·omega
   ·exact Env.so (by simp)
   ·by_cases hj':j=i
    ·subst hj';exact fun hh=>he hh.symm
    ·exact hno j hj (by omega)
 ·simp[h];refine qah rfl ⟨⟨-1,rfl,?_⟩,rfl⟩;simp;intro hs;obtain ⟨j,hj,rfl⟩:=List.getElem_of_mem hs;exact hno j hj (by omega) rfl
set_option maxRecDepth 20000
def Y26:V:=(.agg [(.int .i64 1),(.int .i64 0),(.int .i64 1),(.int .i64 0),(.int .i64 0),(.str ⟨⟨[]⟩⟩),(.sl true [])])
def Y25:V:=(.agg [(.int .i64 1),(.int .i64 0),(.int .i64 2),(.int .i64 0),(.int .i64 0),(.str ⟨⟨[]⟩⟩),(.sl true [])])
def Y24:V:=(.agg [(.int .i64 6),(.int .i64 0),(.int .i64 0),(.int .i64 0),(.int .i64 0),(.str ⟨⟨[97]⟩⟩),(.sl true [])])
def Y23:V:=(.agg [(.int .i64 6),(.int .i64 0),(.int .i64 0),(.int .i64 0),(.int .i64 0),(.str ⟨⟨[107]⟩⟩),(.sl true [])])
def Y22:V:=(.agg [(.int .i64 6),(.int .i64 0),(.int .i64 0),(.int .i64 0),(.int .i64 0),(.str ⟨⟨[105]⟩⟩),(.sl true [])])
def Y21:V:=(.agg [(.int .i64 6),(.int .i64 0),(.int .i64 0),(.int .i64 0),(.int .i64 0),(.str ⟨⟨[108]⟩⟩),(.sl true [])])
def Y20:V:=(.agg [(.int .i64 1),(.bool false),(.int .i64 1),(.sl true [(.str ⟨⟨[98]⟩⟩)]),(.sl true []),(.sl true []),(.sl true [])])
def Y19:V:=(.sl true [(.agg [(.int .i64 1),(.bool false),(.int .i64 1),(.sl true [(.str ⟨⟨[120]⟩⟩)]),(.sl true []),(.sl true []),(.sl true [])])])
def Y18:V:=(.sl true [(.agg [(.int .i64 1),(.bool false),(.int .i64 1),(.sl true [(.str ⟨⟨[120,49]⟩⟩)]),(.sl true []),(.sl true []),(.sl true [])])])
def Y17:V:=(.sl false [(.agg [(.int .i64 1),(.bool false),(.int .i64 1),(.sl false [(.str ⟨⟨[120,49]⟩⟩)]),(.sl true []),(.sl true []),(.sl true [])])])
def Y16:V:=(.agg [(.int .i64 6),(.int .i64 0),(.int .i64 0),(.int .i64 0),(.int .i64 0),(.str ⟨⟨[116]⟩⟩),(.sl true [])])
def Y15:V:=(.agg [(.sl true []),(.int .i64 3),(.str ⟨⟨[]⟩⟩),(.sl true []),(.sl true [Y21]),(.sl true []),(.sl true []),(.sl true [])])
def Y14:V:=(.agg [(.sl true []),(.int .i64 0),(.str ⟨⟨[]⟩⟩),(.sl true []),(.sl true []),(.sl true []),(.sl true []),(.sl true [])])
def Y13:V:=(.agg [(.int .i64 6),(.int .i64 0),(.int .i64 0),(.int .i64 0),(.int .i64 0),(.str ⟨⟨[122]⟩⟩),(.sl true [])])
def Y12:V:=(.agg [(.int .i64 6),(.int .i64 0),(.int .i64 0),(.int .i64 0),(.int .i64 0),(.str ⟨⟨[121]⟩⟩),(.sl true [])])
def Y11:V:=(.agg [(.int .i64 6),(.int .i64 0),(.int .i64 0),(.int .i64 0),(.int .i64 0),(.str ⟨⟨[98]⟩⟩),(.sl true [])])
def Y9:V:=(.agg [(.int .i64 7),(.int .i64 0),(.int .i64 0),(.int .i64 0),(.int .i64 0),(.str ⟨⟨[113]⟩⟩),(.sl true [Y22])])
def Y8:V:=(.agg [(.int .i64 10),(.int .i64 3),(.int .i64 0),(.int .i64 0),(.int .i64 0),(.str ⟨⟨[]⟩⟩),(.sl true [Y23,Y26])])
def Y4:V:=(.agg [(.int .i64 6),(.int .i64 0),(.int .i64 0),(.int .i64 0),(.int .i64 0),(.str ⟨⟨[120,49]⟩⟩),(.sl true [])])
def Y3:V:=(.agg [(.int .i64 6),(.int .i64 0),(.int .i64 0),(.int .i64 0),(.int .i64 0),(.str ⟨⟨[120]⟩⟩),(.sl true [])])
def Y2:V:=(.agg [(.int .i64 4),(.bool false),(.int .i64 0),(.sl true [(.str ⟨⟨[112]⟩⟩)]),(.sl true []),(.sl true [(.agg [(.str ⟨⟨[97]⟩⟩),(.bool false),(.int .i64 0),(.int .i64 0)]),(.agg [(.str ⟨⟨[98]⟩⟩),(.bool true),(.int .i64 1),(.int .i64 1)])]),(.sl true [(.agg [(.sl true []),(.int .i64 7),(.str ⟨⟨[]⟩⟩),(.sl true []),(.sl true []),(.sl true []),Y19,(.sl true [(.agg [(.sl true []),(.int .i64 2),(.str ⟨⟨[]⟩⟩),(.sl true [Y3]),(.sl true [Y11]),(.sl true []),(.sl true []),(.sl true [])]),(.agg [(.sl true []),(.int .i64 2),(.str ⟨⟨[]⟩⟩),(.sl true [Y24]),(.sl true [(.agg [(.int .i64 10),(.int .i64 3),(.int .i64 0),(.int .i64 0),(.int .i64 0),(.str ⟨⟨[]⟩⟩),(.sl true [Y24,Y3])])]),(.sl true []),(.sl true []),(.sl true [])])])])])])
def Y1:V:=(.agg [(.sl true []),(.int .i64 7),(.str ⟨⟨[]⟩⟩),(.sl true []),(.sl true []),(.sl true []),(.sl true [(.agg [(.int .i64 1),(.bool false),(.int .i64 1),(.sl true [(.str ⟨⟨[116]⟩⟩)]),(.sl true []),(.sl true []),(.sl true [])])]),(.sl true [(.agg [(.sl true []),(.int .i64 2),(.str ⟨⟨[]⟩⟩),(.sl true [Y16]),(.sl true [Y12]),(.sl true []),(.sl true []),(.sl true [])]),(.agg [(.sl true [(.str ⟨⟨[109]⟩⟩)]),(.int .i64 8),(.str ⟨⟨[]⟩⟩),(.sl true []),(.sl true []),(.sl true []),(.sl true []),(.sl true [(.agg [(.sl true []),(.int .i64 2),(.str ⟨⟨[]⟩⟩),(.sl true [Y16]),(.sl true [(.agg [(.int .i64 10),(.int .i64 3),(.int .i64 0),(.int .i64 0),(.int .i64 0),(.str ⟨⟨[]⟩⟩),(.sl true [Y16,Y13])])]),(.sl true []),(.sl true []),(.sl true [])]),(.agg [(.sl true []),(.int .i64 3),(.str ⟨⟨[]⟩⟩),(.sl true []),(.sl true [(.agg [(.int .i64 6),(.int .i64 0),(.int .i64 0),(.int .i64 0),(.int .i64 0),(.str ⟨⟨[109]⟩⟩),(.sl true [])])]),(.sl true []),(.sl true []),(.sl true [])])])])])])
def Y0:V:=(.agg [(.sl true []),(.int .i64 7),(.str ⟨⟨[]⟩⟩),(.sl true []),(.sl true []),(.sl true []),Y19,(.sl true [(.agg [(.sl true []),(.int .i64 2),(.str ⟨⟨[]⟩⟩),(.sl true [Y3]),(.sl true [Y12]),(.sl true []),(.sl true []),(.sl true [])]),(.agg [(.sl true [(.str ⟨⟨[108]⟩⟩)]),(.int .i64 8),(.str ⟨⟨[]⟩⟩),(.sl true []),(.sl true []),(.sl true []),(.sl true []),(.sl true [(.agg [(.sl true []),(.int .i64 2),(.str ⟨⟨[]⟩⟩),(.sl true [Y3]),(.sl true [(.agg [(.int .i64 10),(.int .i64 3),(.int .i64 0),(.int .i64 0),(.int .i64 0),(.str ⟨⟨[]⟩⟩),(.sl true [Y3,Y13])])]),(.sl true []),(.sl true []),(.sl true [])]),Y15])])])])
def Y10:V:=(.agg [(.int .i64 10),(.int .i64 5),(.int .i64 0),(.int .i64 0),(.int .i64 0),(.str ⟨⟨[]⟩⟩),(.sl true [Y3,Y25])])
def Y7:V:=(.agg [(.sl true []),(.int .i64 7),(.str ⟨⟨[]⟩⟩),(.sl true []),(.sl true []),(.sl true []),Y18,(.sl true [(.agg [(.sl true []),(.int .i64 2),(.str ⟨⟨[]⟩⟩),(.sl true [Y4]),(.sl true [Y10]),(.sl true []),(.sl true []),(.sl true [])]),(.agg [(.sl true [(.str ⟨⟨[108]⟩⟩)]),(.int .i64 8),(.str ⟨⟨[]⟩⟩),(.sl true []),(.sl true []),(.sl true []),(.sl true []),(.sl true [(.agg [(.sl true []),(.int .i64 2),(.str ⟨⟨[]⟩⟩),(.sl true [Y4]),(.sl true [(.agg [(.int .i64 10),(.int .i64 3),(.int .i64 0),(.int .i64 0),(.int .i64 0),(.str ⟨⟨[]⟩⟩),(.sl true [Y4,Y9])])]),(.sl true []),(.sl true []),(.sl true [])]),Y15])])])])
def Y6:V:=(.agg [(.sl true []),(.int .i64 7),(.str ⟨⟨[]⟩⟩),(.sl true []),(.sl true []),(.sl true []),Y17,(.sl false [(.agg [(.sl true []),(.int .i64 2),(.str ⟨⟨[]⟩⟩),(.sl false [Y4]),(.sl false [(.agg [(.int .i64 10),(.int .i64 5),(.int .i64 0),(.int .i64 0),(.int .i64 0),(.str ⟨⟨[]⟩⟩),(.sl false [Y3,Y25])])]),(.sl true []),(.sl true []),(.sl true [])]),(.agg [(.sl false [(.str ⟨⟨[108]⟩⟩)]),(.int .i64 8),(.str ⟨⟨[]⟩⟩),(.sl true []),(.sl true []),(.sl true []),(.sl true []),(.sl false [(.agg [(.sl true []),(.int .i64 2),(.str ⟨⟨[]⟩⟩),(.sl false [Y4]),(.sl false [(.agg [(.int .i64 10),(.int .i64 3),(.int .i64 0),(.int .i64 0),(.int .i64 0),(.str ⟨⟨[]⟩⟩),(.sl false [Y4,(.agg [(.int .i64 7),(.int .i64 0),(.int .i64 0),(.int .i64 0),(.int .i64 0),(.str ⟨⟨[113]⟩⟩),(.sl false [Y22])])])])]),(.sl true []),(.sl true []),(.sl true [])]),(.agg [(.sl true []),(.int .i64 3),(.str ⟨⟨[]⟩⟩),(.sl true []),(.sl false [Y21]),(.sl true []),(.sl true []),(.sl true [])])])])])])
def Y5:V:=(.agg [(.sl true []),(.int .i64 7),(.str ⟨⟨[]⟩⟩),(.sl true []),(.sl true []),(.sl true []),(.sl false [Y20]),(.sl false [(.agg [(.sl true []),(.int .i64 2),(.str ⟨⟨[]⟩⟩),(.sl true [Y11]),(.sl true [(.agg [(.int .i64 10),(.int .i64 3),(.int .i64 0),(.int .i64 0),(.int .i64 0),(.str ⟨⟨[]⟩⟩),(.sl false [Y23,Y26])])]),(.sl true []),(.sl true []),(.sl true [])]),(.agg [(.sl true []),(.int .i64 7),(.str ⟨⟨[]⟩⟩),(.sl true []),(.sl true []),(.sl true []),Y17,(.sl false [(.agg [(.sl true []),(.int .i64 2),(.str ⟨⟨[]⟩⟩),(.sl false [Y4]),(.sl false [Y11]),(.sl true []),(.sl true []),(.sl true [])]),(.agg [(.sl true []),(.int .i64 2),(.str ⟨⟨[]⟩⟩),(.sl false [Y3]),(.sl false [(.agg [(.int .i64 10),(.int .i64 3),(.int .i64 0),(.int .i64 0),(.int .i64 0),(.str ⟨⟨[]⟩⟩),(.sl false [Y3,Y4])])]),(.sl true []),(.sl true []),(.sl true [])])])])])])
def prs0:List Pr:=[]
theorem qkN:∀p,p∈prs0→p.ok prog:=fun p hp=>by cases hp
def pr1:Pr:=⟨53,[(.str ⟨⟨[120]⟩⟩),(.str ⟨⟨[108]⟩⟩),Y12,Y13],Y0⟩
theorem qpU:pr1.ok prog:=Pr.run (qa4 qkN) 200 (by decide+kernel)
def prs1:List Pr:=pr1::prs0
theorem qka:∀p,p∈prs1→p.ok prog:=qau qpU qkN
def pr2:Pr:=⟨153,[],(.sl false [(.str ⟨⟨[98,101,103,105,110]⟩⟩),(.str ⟨⟨[101,110,100]⟩⟩),(.str ⟨⟨[105,102]⟩⟩),(.str ⟨⟨[116,104,101,110]⟩⟩),(.str ⟨⟨[101,108,115,101]⟩⟩),(.str ⟨⟨[102,111,114]⟩⟩),(.str ⟨⟨[100,111]⟩⟩),(.str ⟨⟨[115,116,101,112]⟩⟩),(.str ⟨⟨[117,110,116,105,108]⟩⟩),(.str ⟨⟨[119,104,105,108,101]⟩⟩),(.str ⟨⟨[103,111,116,111]⟩⟩),(.str ⟨⟨[111,119,110]⟩⟩),(.str ⟨⟨[105,110,116,101,103,101,114]⟩⟩),(.str ⟨⟨[114,101,97,108]⟩⟩),(.str ⟨⟨[98,111,111,108,101,97,110]⟩⟩),(.str ⟨⟨[97,114,114,97,121]⟩⟩),(.str ⟨⟨[115,119,105,116,99,104]⟩⟩),(.str ⟨⟨[112,114,111,99,101,100,117,114,101]⟩⟩),(.str ⟨⟨[118,97,108,117,101]⟩⟩),(.str ⟨⟨[108,97,98,101,108]⟩⟩),(.str ⟨⟨[115,116,114,105,110,103]⟩⟩),(.str ⟨⟨[116,114,117,101]⟩⟩),(.str ⟨⟨[102,97,108,115,101]⟩⟩),(.str ⟨⟨[99,111,109,109,101,110,116]⟩⟩),(.str ⟨⟨[110,111,116]⟩⟩),(.str ⟨⟨[97,110,100]⟩⟩),(.str ⟨⟨[111,114]⟩⟩),(.str ⟨⟨[105,109,112]⟩⟩),(.str ⟨⟨[101,113,118]⟩⟩)])⟩
theorem qmU:pr2.ok prog:=Pr.run (qa4 qka) 200 (by decide+kernel)
def prs2:List Pr:=pr2::prs1
theorem qkO:∀p,p∈prs2→p.ok prog:=qau qmU qka
def pr3:Pr:=⟨57,[(.str ⟨⟨[120]⟩⟩)],(.bool true)⟩
theorem qqe:pr3.ok prog:=Pr.run (qa4 qkO) 200 (by decide+kernel)
def prs3:List Pr:=pr3::prs2
theorem qlw:∀p,p∈prs3→p.ok prog:=qau qqe qkO
def pr4:Pr:=⟨57,[(.str ⟨⟨[121]⟩⟩)],(.bool true)⟩
theorem qqH:pr4.ok prog:=Pr.run (qa4 qlw) 200 (by decide+kernel)
def prs4:List Pr:=pr4::prs3
theorem qkK:∀p,p∈prs4→p.ok prog:=qau qqH qlw
def pr5:Pr:=⟨57,[(.str ⟨⟨[108]⟩⟩)],(.bool true)⟩
theorem qqr:pr5.ok prog:=Pr.run (qa4 qkK) 200 (by decide+kernel)
def prs5:List Pr:=pr5::prs4
theorem qj9:∀p,p∈prs5→p.ok prog:=qau qqr qkK
def pr6:Pr:=⟨57,[(.str ⟨⟨[122]⟩⟩)],(.bool true)⟩
theorem qqB:pr6.ok prog:=Pr.run (qa4 qj9) 200 (by decide+kernel)
def prs6:List Pr:=pr6::prs5
theorem qkE:∀p,p∈prs6→p.ok prog:=qau qqB qj9
def isIn(s:ByteArray)(l:List ByteArray):Bool:=l.any fun x=>decide (x=s)
theorem qdp{s:ByteArray}{l:List ByteArray}:isIn s l=true↔s∈l:=by simp[isIn]
theorem qox(b:Bool)(l:List ByteArray)(s:ByteArray)(S:St)(hl:l.length≤1000000):Fn prog 152 [.sl b (l.map .str),.str s] S (.bool (isIn s l)):=by
 refine Spec.intro func152 ok152 (by simp[c152]) ?_;simp[c152];refine qan (qn7 b l s S hl) ?_;rintro v S' ⟨⟨i,rfl,hi⟩,rfl⟩;simp;exact qah rfl ⟨by simp only[retV,V.bool.injEq];rw[qrL,qdp,←hi];simp,rfl⟩
theorem qnT(S:St):Fn prog 153 [] S (.sl false (wds.map .str)):=by
 rw[qnN];exact qmU S
theorem qom(s:ByteArray)(S:St):Fn prog 103 [.str s] S (.bool (isIn s wds)):=by
 refine Spec.intro func103 ok103 (by simp[c103]) ?_;simp[c103];refine qad (qnT S) ?_;refine qad (qox false wds s S (by rw[qoR];omega)) ?_;exact qah rfl ⟨rfl,rfl⟩
def qgN(b:UInt8):Bool:=isL b.toNat || isD b.toNat
def qht(l:List UInt8):Bool:=l.all qgN
theorem qg4{l:List UInt8}:qht l=true↔∀i,(h:i<l.length)→qgN l[i]=true:=by
 unfold qht;rw[qrn];exact ⟨fun hh i h=>hh _ (qrf h),fun hh x hx=>by obtain ⟨i,h,rfl⟩:=List.getElem_of_mem hx;exact hh i h⟩
def qgw(b:UInt8):V:=.int .u8 b.toNat
theorem qqs{l:List UInt8}{i:Nat}(h:i<l.length)(b:Bool)(S:St):iaS S 1 (.sl b (l.map qgw)) i=some (.iptr (qgw l[i]) 0):=by simp[iaS,h,V.size,V.cells,qgw]
theorem qp7(s:UInt8)(S:St):ldS S (.iptr (qgw s) 0) none=some (qgw s):=rfl
theorem qoI(b:Bool)(l:List UInt8)(S:St)(hl:l.length≤1000000):Spec prog 154 [.sl b (l.map qgw),.fn (.func 105) [] []] S (fun v U=>(∃i:Int,v=.int .i64 i∧(0≤i↔qht l=false))∧U=S):=by
 refine Spec.intro func154 ok154 (by simp[c154]) ?_;simp[c154];refine qax (fun n e S'=>∃i:Nat,n=l.length - i∧i≤l.length∧(∀j,(h:j<l.length)→j<i→qgN l[j]=true)∧S'=S∧
  e=[(8,.int .i64 i),(7,.int .i64 l.length),(4,.int .i64 0),(0,.sl b (l.map qgw)),(1,.fn (.func 105) [] [])]) l.length _ ?_ ⟨0,by simp,by omega,by omega,rfl,rfl⟩ ?_
 ·exact Env.so (by simp)
 rintro n e S' ⟨i,rfl,hi,hno,rfl,rfl⟩;by_cases h:i<l.length
 ·simp[h,qqs,qp7];refine qad (qnv _ S') ?_;by_cases he:qgN l[i]=true
  ·rw[show (isL l[i].toNat || isD l[i].toNat)=true from he];simp[qa6 (n:=(i:Int)+1)];refine ⟨_,?_,_,?_,i+1,rfl,by omega,fun j hj hji=>?_,rfl⟩
   ·omega
   ·exact Env.so (by simp)
   ·by_cases hj':j=i
    ·subst hj';exact he
    ·exact hno j hj (by omega)
  ·have he':qgN l[i]=false:=by simpa using he
   rw[show (isL l[i].toNat || isD l[i].toNat)=false from he'];simp;refine qah rfl ⟨⟨i,rfl,?_⟩,rfl⟩;rw[←qsp,qg4];exact ⟨fun _ hh=>he (hh i h),fun _=>by omega⟩
 ·simp[h];refine qah rfl ⟨⟨-1,rfl,?_⟩,rfl⟩;rw[←qsp,qg4];exact ⟨fun hh=>by omega,fun hh=>absurd (fun j hj=>hno j hj (by omega)) hh⟩
theorem qo1(b:Bool)(l:List UInt8)(S:St)(hl:l.length≤1000000):Fn prog 104 [.sl b (l.map qgw),.fn (.func 105) [] []] S (.bool (!qht l)):=by
 refine Spec.intro func104 ok104 (by simp[c104]) ?_;simp[c104];refine qan (qoI b l S hl) ?_;rintro v S' ⟨⟨i,rfl,hi⟩,rfl⟩;simp;refine qah rfl ⟨?_,rfl⟩;simp only[retV,hi];cases qht l <;> simp
def qon:List UInt8→Bool
 | []=>false
 | c::_=>isL c.toNat
def qac(s:ByteArray):Bool:=decide (1≤s.size) && decide (s.size≤16) && qon s.data.toList && !isIn s wds && qht s.data.toList
theorem qeI{s:ByteArray}:s=⟨⟨[]⟩⟩↔s.size=0:=by
 constructor
 ·rintro rfl;rfl
 ·intro h;refine ByteArray.ext ?_;exact Array.eq_empty_of_size_eq_zero h
theorem qk7{s:ByteArray}(h1:0<s.size)(h2:s.size≤16):qac s=(isL (s.data[0]'h1).toNat && !isIn s wds && qht s.data.toList):=by
 unfold qac;rw[decide_eq_true (show 1≤s.size from h1),decide_eq_true h2];have h1':0<s.data.toList.length:=by simpa using h1
 have:∀(l:List UInt8) (h:0<l.length),qon l=isL (l[0]).toNat:=fun l h=>by
  cases l with
  | nil=>cases h
  | cons c cs=>rfl
 rw[this _ h1',Array.getElem_toList];rfl
theorem qfi(s:ByteArray)(S:St):Fn prog 57 [.str s] S (.bool (qac s)):=by
 refine Spec.intro func57 ok57 (by simp[c57]) ?_;by_cases h0:s.size=0
 ·have h0':=qeI.2 h0;simp[c57,h0'];exact qah rfl ⟨rfl,rfl⟩
 have h0':¬ s=⟨⟨[]⟩⟩:=fun hh=>h0 (qeI.1 hh)
 by_cases h1:(16:Int)<s.size
 ·simp[c57,h0',h1];refine qah rfl ⟨?_,rfl⟩;simp[qac];omega
 have hi:=qqU (s:=s) (by omega);simp[c57,h0',h1,hi];refine qad (qke _ S) ?_;have hn:=qk7 (s:=s) (by omega) (by omega)
 cases hL:isL (s.data[0]'(Nat.pos_of_ne_zero h0)).toNat with
 | false=>
  simp;refine qah rfl ⟨?_,rfl⟩;rw[hn,hL];rfl
 | true=>
  simp;refine qad (qom s S) ?_
  cases hW:isIn s wds with
  | true=>
   simp;refine qah rfl ⟨?_,rfl⟩;rw[hn,hL,hW];rfl
  | false=>
   simp[evX,ctbV];refine qad (qo1 false s.data.toList S (by rw[qrX];have:s.data.size=s.size:=rfl;omega)) ?_;simp;refine qah rfl ⟨?_,rfl⟩;rw[hn,hL,hW];simp
def kv(s:ByteArray):V×V:=(.str s,.bool true)
theorem qfa(s:ByteArray):∀(ks:List ByteArray) (i:Nat),(s∉ks∧qbo .str (.str s) (ks.map kv) i=some none)∨(s∈ks∧∃j:Nat,ks[j]?=some s∧qbo .str (.str s) (ks.map kv) i=some (some (i+j,.bool true)))
 | [],i=>.inl ⟨by simp,rfl⟩
 | k::ks,i=>by
  simp only[qrm,kv,qbo,qe3];by_cases h:s=k
  ·subst h;refine .inr ⟨by simp,0,rfl,?_⟩;simp
  ·have hne:(s.data.toList==k.data.toList)=false:=by
    rw[beq_eq_false_iff_ne];intro hh;exact h (ByteArray.ext (Array.ext' hh))
   rw[hne];simp only;rcases qfa s ks (i+1) with ⟨h1,h2⟩|⟨h1,j,h2,h3⟩
   ·exact .inl ⟨by simp[h,h1],h2⟩
   ·refine .inr ⟨by simp[h1],j+1,by simpa using h2,?_⟩;rw[show i+(j+1)=i+1+j by omega];exact h3
def insK(ks:List ByteArray)(s:ByteArray):List ByteArray:=if isIn s ks=true then ks else ks++[s]
theorem qlM{ks:List ByteArray}{s x:ByteArray}:x∈insK ks s↔x∈ks∨x=s:=by
 unfold insK;split
 ·exact ⟨.inl,fun hh=>hh.elim id fun hh=>by rw[hh];exact qdp.1 (by assumption)⟩
 ·simp
theorem qid{x:ByteArray}:∀{l ks:List ByteArray},x∈l.foldl insK ks↔x∈ks∨x∈l
 | [],ks=>by simp
 | s::l,ks=>by rw[List.foldl_cons,qid,qlM,qrE,or_assoc]
def Stam(bs:List Nat)(ck:Nat):Prop:=(∀b,b∈bs→b<ck)∧bs.Nodup
theorem Stam.nil:Stam [] 0:=⟨by simp,List.nodup_nil⟩
theorem Stam.snoc{bs:List Nat}{ck:Nat}(h:Stam bs ck):Stam (bs++[ck]) (ck+1):=⟨fun b hb=>by
 rcases qrw.1 hb with hb|hb
 ·have:=h.1 b hb;omega
 ·simp at hb;omega,List.nodup_append.2 ⟨h.2,by simp,fun a ha b hb=>by simp at hb;subst hb;have:=h.1 a ha;omega⟩⟩
theorem qpY{S:St}{l:Nat}{ks:List ByteArray}{bs:List Nat}{ck:Nat}(s:ByteArray)(h:S[l]?=some (.map (ks.map kv) bs ck)):
  ∃(bs':List Nat) (ck':Nat),mupS S .str (.map l) (.str s) (.bool true)=some (S.set l (.map ((insK ks s).map kv) bs' ck'))∧(Stam bs ck→Stam bs' ck'):=by
 unfold mupS;rw[if_pos (by rfl)];simp only[h];unfold insK;rcases qfa s ks 0 with ⟨h1,h2⟩|⟨h1,j,h2,h3⟩
 ·rw[h2,if_neg (fun hh=>h1 (qdp.1 hh))];exact ⟨bs++[ck],ck+1,by simp[kv],Stam.snoc⟩
 ·rw[h3,if_pos (qdp.2 h1)];refine ⟨bs,ck,?_,id⟩;simp only[qr1]
  have:(ks.map kv).set j (.str s,.bool true)=ks.map kv:=by
   apply qr6;intro i;rw[List.getElem?_set];split
   ·rename_i hij;subst hij;have:=(qq2.1 h2).1;have h4:=(qq2.1 h2).2;simp[kv,this,h4]
   ·rfl
  rw[this]
theorem qme{α:Type}{l:List α}{i:Nat}{x:α}(h:l[i]?=some x):l.set i x=l:=by
 apply qr6;intro j;rw[List.getElem?_set];split
 ·rename_i hij;subst hij;rw[h];have:=(qq2.1 h).1;simp[this]
 ·rfl
theorem qqc(b:Bool)(taken ks:List ByteArray)(bs:List Nat)(ck:Nat)(l:Nat)(S:St)(ht:taken.length≤1000000)(hl:S[l]?=some (.map (ks.map kv) bs ck)):
  Spec prog 79 [.map l,.sl b (taken.map .str)] S (fun v U=>∃(bs':List Nat) (ck':Nat),(Stam bs ck→Stam bs' ck')∧U=S.set l (.map ((taken.foldl insK ks).map kv) bs' ck')):=by
 have hlt:l<S.length:=(qq2.1 hl).1;refine Spec.intro func79 ok79 (by simp[c79]) ?_;simp[c79];refine qax (fun k e S'=>∃i:Nat,k=taken.length - i∧i≤taken.length∧(∃(bs':List Nat) (ck':Nat),(Stam bs ck→Stam bs' ck')∧S'=S.set l (.map (((taken.take i).foldl insK ks).map kv) bs' ck'))∧
  e=[(8,.int .i64 i),(7,.int .i64 taken.length),(6,.sl b (taken.map .str)),(0,.map l),(1,.sl b (taken.map .str))]) taken.length _ ?_ ⟨0,by simp,by omega,⟨bs,ck,id,?_⟩,rfl⟩ ?_
 ·exact Env.so (by simp)
 ·exact (qme hl).symm
 rintro k e S' ⟨i,rfl,hi,⟨bs1,ck1,hst,rfl⟩,rfl⟩;by_cases h:i<taken.length
 ·obtain ⟨bs',ck',hm,hst'⟩:=qpY (S:=S.set l (.map (((taken.take i).foldl insK ks).map kv) bs1 ck1)) (l:=l) taken[i] (qq5 hlt);rw[List.set_set] at hm;simp[h,qe8,evX,hm];refine ⟨_,?_,_,?_,i+1,rfl,by omega,⟨bs',ck',fun h=>hst' (hst h),?_⟩,rfl⟩
  ·omega
  ·rw[qaJ (by omega) (by omega)];exact Env.so (by simp)
  ·rw[qrv,qrd h,qsc,qsB];rfl
 ·simp[h];refine qav rfl ⟨bs1,ck1,hst,?_⟩;rw[qr2 (by omega)]
end Go.Proofs.YtbifpocccfkhhaaGreatDoor
end
