/- Part 3: what the functions of the program compute, function by function. No condition. -/
import Derived.Test.YtgecccghlgpmjaaGreatPb
import Derived.KernelRfl
import Derived.Test.YtgecccghlgpmjaaGreatProg
set_option linter.unusedVariables false
set_option linter.unusedSimpArgs false
open Bool renaming and_eq_true→zag,false_eq_true→zai,not_true→zak,not_false→zal,and_self→zat,true_and→zay,false_or→za6,true_or→zbl
open Int renaming ofNat_eq_natCast→zaf
open List renaming getElem?_eq_getElem→zah,map_cons→zam,getElem?_eq_some_iff→zao,all_cons→zap,length_cons→zar,mem_cons_self→zau,length_append→zaw,mem_cons_of_mem→zax,drop_eq_getElem_cons→zaz,mem_cons→zaA,length_nil→zaB,cons_append→zaF,append_assoc→zaH,nil_append→zaJ,length_eq_zero_iff→za1,getElem_mem→za4,drop_length→zbb,append_nil→zbg,map_nil→zbn
open List.cons renaming injEq→zbo
open Nat renaming le_refl→zan,zero_add→zaK,lt_irrefl→zaX,zero_le→zaY,beq_refl→za8,le_trans→zbf,lt_or_ge→zbi,add_zero→zbk
open Option renaming bind_some→zaa,map_some→zab
open Option.some renaming injEq→zac
namespace Go.AI.Tryz
noncomputable section
def qT (l:List Nat)(d e:Nat):Option Flag:=some ⟨true,false,false,false,l,d,e⟩
def qF (l:List Nat)(d e:Nat):Option Flag:=some ⟨false,false,false,false,l,d,e⟩
def qL (f:Option Flag):Tr (Option Flag):=.node f .nil .nil
def flT:Tr (Option Flag):=(.node none (.node none (.node (qT [3,4,7,10,13,16] 7 3) (.node (qT [3,4,9] 6 2) (.node (qT [1,2,3] 5 2) (.node (qT [2,3,6,8] 6 3) (.node (qF [2,3] 6 2) (qL (qT [1] 5 1)) (qL (qF [4,6] 5 2))) (.node (qF [2] 5 1) (qL (qF [2] 4 1)) .nil)) (.node (qT [2,3] 5 2) (.node (qT [2] 6 1) (qL (qT [3] 5 1)) (qL (qT [] 3 0))) (.node (qT [1] 6 1) (qL (qT [1] 3 1)) .nil))) (.node (qT [] 5 0) (.node (qT [1] 3 1) (.node (qT [1,2] 4 2) (qL (qT [1] 5 1)) (qL (qT [3] 5 1))) (.node (qT [1] 4 1) (qL (qT [] 4 0)) .nil)) (.node (qT [3,9,10] 5 2) (.node (qT [1,2] 4 2) (qL (qT [2,3] 4 2)) .nil) (.node (qT [3] 4 1) (qL (some ⟨false,false,true,true,[],4,0⟩)) .nil)))) (.node (qT [2,3] 5 2) (.node (qT [2,3] 6 2) (.node (qT [9,13] 7 2) (.node (qT [] 5 0) (qL (qT [1] 5 1)) (qL (qF [3] 4 1))) (.node (qT [1] 3 1) (qL (qF [2,3,6,10] 8 3)) .nil)) (.node (qT [] 2 0) (.node (qT [2] 6 1) (qL (qT [0] 2 1)) .nil) (.node (qF [5,7] 5 2) (qL (qT [3,5,6] 7 2)) .nil))) (.node (qT [2,3,6,7] 5 3) (.node (qT [1,2] 4 2) (.node (qT [1,2] 6 2) (qL (qT [2,3] 6 2)) (qL (qF [4] 6 1))) (.node (qF [2,3,4] 4 2) (qL (qT [] 4 0)) .nil)) (.node (qF [3,4,5] 6 2) (.node (qT [2] 5 1) (qL (qT [1] 3 1)) .nil) (.node (qT [2,3] 4 2) (qL (qT [1] 3 1)) .nil))))) (.node (qT [] 6 0) (.node (qT [3,4,7,12,16,17] 8 3) (.node (qT [3,4,6,9] 5 3) (.node (qT [3,4,6,9,12,13] 6 3) (.node (qT [2,3,4,5,7] 5 3) (qL (qT [] 6 0)) (qL (qT [] 4 0))) (.node (qT [] 4 0) (qL (qF [] 4 0)) .nil)) (.node (qT [3,4,5,6,9] 5 3) (.node (qT [1,2] 5 2) (qL (qT [1,2] 4 2)) .nil) (.node (some ⟨false,false,true,false,[2],7,1⟩) (qL (qT [3,5,6,8,9,10] 7 3)) .nil))) (.node (qT [] 4 0) (.node (qT [3,11,12] 6 2) (.node (qT [2] 5 1) (qL (qT [1] 5 1)) (qL (qF [4] 6 1))) (.node (qF [2,3,5] 6 2) (qL (qF [] 4 0)) .nil)) (.node (qT [1,5] 5 2) (.node (qT [2] 5 1) (qL (qT [1] 3 1)) .nil) (.node (qT [3,5,6] 8 2) (qL (qT [8,9] 6 2)) .nil)))) (.node (qT [2,3,4,7] 5 3) (.node (qT [2,3] 6 2) (.node (qT [0] 4 1) (.node (qT [1] 5 1) (qL (qT [1,2] 4 2)) (qL (qF [2,3,16] 8 2))) (.node (qT [1] 5 1) (qL (some ⟨false,false,true,true,[],4,0⟩)) .nil)) (.node (qT [2] 4 1) (.node (qT [1,2] 4 2) (qL (qT [1] 3 1)) .nil) (.node (qT [1] 6 1) (qL (qT [2,4,5] 6 2)) .nil))) (.node (qT [3,4,5,6,8,10] 6 3) (.node (qT [] 4 0) (.node (qT [2] 5 1) (qL (qT [2,3,4] 4 2)) (qL (qF [8,9] 6 2))) (.node (qT [2,4] 3 2) (qL (qT [3] 7 1)) .nil)) (.node (qT [1] 6 1) (.node (qT [1,2] 6 2) (qL (qT [1,2] 3 2)) .nil) (.node (qT [1] 3 1) (qL (qT [2] 4 1)) .nil)))))) (.node none (.node (qT [2,3,8,11,14] 8 3) (.node (qT [3,4,7,10] 7 3) (.node (qT [2,3,4] 4 2) (.node (qT [1] 5 1) (.node (qT [3] 6 1) (qL (qT [4] 4 1)) (qL (qF [] 5 0))) (.node (qF [5,8,10] 6 2) (qL (qT [1] 3 1)) .nil)) (.node (qT [] 5 0) (.node (qT [1,2] 6 2) (qL (qT [2] 5 1)) .nil) (.node (qT [1] 3 1) (qL (qT [4] 4 1)) .nil))) (.node (qT [] 5 0) (.node (qT [2,3,4] 4 2) (.node (qT [2] 5 1) (qL (qT [8] 4 1)) (qL (qT [2,4] 4 2))) (.node (qF [3,4] 5 2) (qL (qF [] 7 0)) .nil)) (.node (qT [1] 5 1) (.node (qT [1,2,5] 6 2) (qL (qT [1,2] 4 2)) .nil) (.node (qT [2] 3 1) (qL (qT [] 5 0)) .nil)))) (.node (qT [] 4 0) (.node (qT [] 5 0) (.node (qT [2,4,8] 6 2) (.node (qT [4,5] 7 2) (qL (qT [2,4,5] 6 2)) (qL (qF [2,3] 7 2))) (.node (qT [1] 3 1) (qL (qF [2,4] 5 2)) .nil)) (.node (qF [] 5 0) (.node (qT [1,2] 5 2) (qL (qT [3,6] 6 2)) .nil) (.node (qT [3] 8 1) (qL (qT [2] 6 1)) .nil))) (.node (qT [2,3] 5 2) (.node (qT [] 3 0) (.node (qT [2] 6 1) (qL (qT [1] 4 1)) (qL (qT [4,6] 5 2))) (.node (qF [3,6,10] 6 2) (qL (qT [3,7] 7 2)) .nil)) (.node (qT [1,2] 3 2) (.node (qT [1,2] 5 2) (qL (qT [1] 4 1)) .nil) (.node (qT [2] 4 1) (qL (qT [3,6] 4 2)) .nil))))) (.node (qT [3,4,5,11,13] 7 3) (.node (qT [1,5,7] 8 2) (.node (qT [3,4,6] 7 2) (.node (qT [3,4,6,11] 6 3) (.node (qT [3,6] 4 2) (qL (qT [1] 7 1)) (qL (qT [] 4 0))) (.node (qT [0] 2 1) (qL (qF [] 5 0)) .nil)) (.node (qT [] 5 0) (.node (qT [1,2] 6 2) (qL (qT [2] 4 1)) .nil) (.node (qF [] 6 0) (qL (qT [3,5,6,8,9] 7 3)) .nil))) (.node (qT [] 5 0) (.node (qT [] 2 0) (.node (qT [1,2] 5 2) (qL (qT [] 3 0)) (qL (qT [3,5,6,7] 7 3))) (.node (qF [2,6] 5 2) (qL (qT [] 5 0)) .nil)) (.node (qF [] 5 0) (.node (qT [1,2] 5 2) (qL (qT [1] 4 1)) .nil) (.node (qT [2] 3 1) (qL (qT [2] 4 1)) .nil)))) (.node (qT [1,2,3] 5 2) (.node (qT [] 4 0) (.node (qT [1] 5 1) (.node (qF [4,5,6,9,11,13] 7 3) (qL (qT [] 4 0)) (qL (qT [1,2] 7 2))) (.node (qF [] 4 0) (qL (qT [] 5 0)) .nil)) (.node (qF [] 3 0) (.node (qT [2] 4 1) (qL (qT [1] 3 1)) .nil) (.node (qT [7] 6 1) (qL (qT [2] 6 1)) .nil))) (.node (qT [3,4,5,6,9] 5 3) (.node (qT [2,3] 5 2) (.node (qT [2] 6 1) (qL (qT [1,2] 3 2)) (qL (qF [4,5,6,7] 5 3))) (.node (qT [1] 7 1) (qL (qT [3,4,6,7] 7 3)) .nil)) (.node (qT [1] 6 1) (.node (qF [] 4 0) (qL (qT [3] 5 1)) .nil) (.node (qT [4] 4 1) (qL (qT [2,4] 5 2)) .nil)))))))
def CP:Nat->Option CF:=qxa Go.Proofs.Tryz.prog flT
def cf3:=qaX (CP 3)
def cf11:=qaX (CP 11)
def cf13:=qaX (CP 13)
def cf14:=qaX (CP 14)
def cf15:=qaX (CP 15)
def cf16:=qaX (CP 16)
def cf17:=qaX (CP 17)
def cf18:=qaX (CP 18)
def cf19:=qaX (CP 19)
def cf20:=qaX (CP 20)
def cf22:=qaX (CP 22)
def cf31:=qaX (CP 31)
def cf32:=qaX (CP 32)
def cf38:=qaX (CP 38)
def cf39:=qaX (CP 39)
def cf40:=qaX (CP 40)
def cf41:=qaX (CP 41)
def cf42:=qaX (CP 42)
def cf43:=qaX (CP 43)
def cf44:=qaX (CP 44)
def cf45:=qaX (CP 45)
def cf46:=qaX (CP 46)
def cf47:=qaX (CP 47)
def cf48:=qaX (CP 48)
def cf49:=qaX (CP 49)
def cf50:=qaX (CP 50)
def cf54:=qaX (CP 54)
def cf56:=qaX (CP 56)
def cf57:=qaX (CP 57)
def cf58:=qaX (CP 58)
def cf59:=qaX (CP 59)
def cf60:=qaX (CP 60)
def cf62:=qaX (CP 62)
def cf64:=qaX (CP 64)
def cf65:=qaX (CP 65)
def cf66:=qaX (CP 66)
def cf67:=qaX (CP 67)
def cf68:=qaX (CP 68)
def cf69:=qaX (CP 69)
def cf70:=qaX (CP 70)
def cf71:=qaX (CP 71)
def cf72:=qaX (CP 72)
def cf73:=qaX (CP 73)
def cf74:=qaX (CP 74)
def cf75:=qaX (CP 75)
def cf76:=qaX (CP 76)
def cf77:=qaX (CP 77)
def cf78:=qaX (CP 78)
def cf79:=qaX (CP 79)
def cf80:=qaX (CP 80)
def cf81:=qaX (CP 81)
def cf82:=qaX (CP 82)
def cf83:=qaX (CP 83)
def cf84:=qaX (CP 84)
def cf85:=qaX (CP 85)
def cf86:=qaX (CP 86)
def cf87:=qaX (CP 87)
def cf88:=qaX (CP 88)
def cf89:=qaX (CP 89)
def cf90:=qaX (CP 90)
def cf91:=qaX (CP 91)
def cf92:=qaX (CP 92)
def cf93:=qaX (CP 93)
def cf94:=qaX (CP 94)
def cf95:=qaX (CP 95)
def cf96:=qaX (CP 96)
def cf98:=qaX (CP 98)
def cf99:=qaX (CP 99)
def cf100:=qaX (CP 100)
def cf101:=qaX (CP 101)
def cf102:=qaX (CP 102)
def cf103:=qaX (CP 103)
def cf104:=qaX (CP 104)
def cf105:=qaX (CP 105)
def cf106:=qaX (CP 106)
def cf107:=qaX (CP 107)
def cf108:=qaX (CP 108)
def cf109:=qaX (CP 109)
def cf111:=qaX (CP 111)
def cf112:=qaX (CP 112)
def cf115:=qaX (CP 115)
def cf116:=qaX (CP 116)
def cf117:=qaX (CP 117)
def cf118:=qaX (CP 118)
def cf119:=qaX (CP 119)
def cf120:=qaX (CP 120)
def cf121:=qaX (CP 121)
def cf122:=qaX (CP 122)
def cf123:=qaX (CP 123)
def cf124:=qaX (CP 124)
def cf125:=qaX (CP 125)
def cf126:=qaX (CP 126)
def cf127:=qaX (CP 127)
def cf128:=qaX (CP 128)
def cf129:=qaX (CP 129)
def cf130:=qaX (CP 130)
def cf131:=qaX (CP 131)
def cf132:=qaX (CP 132)
def cf133:=qaX (CP 133)
def cf134:=qaX (CP 134)
def cf135:=qaX (CP 135)
def cf136:=qaX (CP 136)
def cf137:=qaX (CP 137)
def cf138:=qaX (CP 138)
def cf139:=qaX (CP 139)
def cf140:=qaX (CP 140)
def cf141:=qaX (CP 141)
def cf142:=qaX (CP 142)
def cf143:=qaX (CP 143)
def cf144:=qaX (CP 144)
def cf145:=qaX (CP 145)
def cf146:=qaX (CP 146)
def cf147:=qaX (CP 147)
def cf148:=qaX (CP 148)
def cf149:=qaX (CP 149)
def cf150:=qaX (CP 150)
def cf151:=qaX (CP 151)
def cf152:=qaX (CP 152)
def cf153:=qaX (CP 153)
def cf154:=qaX (CP 154)
def cf155:=qaX (CP 155)
def cf156:=qaX (CP 156)
def cf157:=qaX (CP 157)
def cf158:=qaX (CP 158)
def cf159:=qaX (CP 159)
def cf160:=qaX (CP 160)
def cf161:=qaX (CP 161)
def cf162:=qaX (CP 162)
def cf163:=qaX (CP 163)
def cf164:=qaX (CP 164)
def cf165:=qaX (CP 165)
def cf167:=qaX (CP 167)
def cf170:=qaX (CP 170)
def cf171:=qaX (CP 171)
def cf172:=qaX (CP 172)
def cf173:=qaX (CP 173)
def cf174:=qaX (CP 174)
def cf175:=qaX (CP 175)
def cf176:=qaX (CP 176)
def cf177:=qaX (CP 177)
def cf178:=qaX (CP 178)
def cf179:=qaX (CP 179)
def cf180:=qaX (CP 180)
def cf181:=qaX (CP 181)
def cf182:=qaX (CP 182)
def cf183:=qaX (CP 183)
def cf184:=qaX (CP 184)
def cf185:=qaX (CP 185)
def cf186:=qaX (CP 186)
def cf187:=qaX (CP 187)
def cf188:=qaX (CP 188)
def cf189:=qaX (CP 189)
def cf190:=qaX (CP 190)
def cf191:=qaX (CP 191)
def cf192:=qaX (CP 192)
def cf193:=qaX (CP 193)
def cf194:=qaX (CP 194)
def cf195:=qaX (CP 195)
def cf196:=qaX (CP 196)
def cf197:=qaX (CP 197)
def cf198:=qaX (CP 198)
def cf199:=qaX (CP 199)
def cf200:=qaX (CP 200)
def cf201:=qaX (CP 201)
def cf202:=qaX (CP 202)
def cf203:=qaX (CP 203)
def cf204:=qaX (CP 204)
def cf205:=qaX (CP 205)
def cf206:=qaX (CP 206)
def cf207:=qaX (CP 207)
end
theorem pk:ProgOK Go.Proofs.Tryz.prog CP:=qtm (by kernel_rfl)
end Go.AI.Tryz
namespace Go.AI.Tryz
def aw:List zP:=[]
theorem aw_true:isB true (((qkA CP 1000 []).call 12 (aw.map .p) s00).map (·.1))=true:=by kernel_rfl
end Go.AI.Tryz
namespace Go.AI.Tryz
noncomputable section
abbrev ZT5:List zA:=[(u8 0),(i64 0),(i64 0),(i64 0),(.sl 0 [] .full)]
def s3_0 (e:Env)(n:Nat):zA->ASt->Res:=fun x56 s57=>some (x56,s57)
def s3_1 (e:Env)(n:Nat)(c4 c5:List zA)(x2:zA):zA->ASt->Res:=fun x6 s7=>qae x6 (qac (cl e 12 [] s7) fun x8 s9=>some (x8,s9)) ((ldL c4 0 (some 4)).bind fun x10=>qac (cl e 14 [x10] s7) fun x11 s12=>(ldL c5 0 (some 5)).bind fun x13=>qac (cl e 15 [x13] s12) fun x14 s15=>qac (cl e 13 [x11,x14] s15) fun x16 s17=>(ex x16 0).bind fun x18=>(ex x16 1).bind fun x19=>(ex x16 2).bind fun x20=>(zA.cells (some 5) x18).bind fun c21=>(over ZT5 0 c21).bind fun c22=>(ldL c4 0 (some 4)).bind fun x23=>(ldL c5 0 (some 5)).bind fun x24=>qac (cl e 16 [x23,x24] s17) fun x25 s26=>(ex x25 0).bind fun x27=>(ex x25 1).bind fun x28=>(ex x25 2).bind fun x29=>(zA.cells (some 5) x27).bind fun c30=>(over ZT5 0 c30).bind fun c31=>(ldL c4 0 (some 4)).bind fun x32=>qac (cl e 14 [x32] s26) fun x33 s34=>(ldL c5 0 (some 5)).bind fun x35=>qac (cl e 15 [x35] s34) fun x36 s37=>qac (ap e 1 1 (.sl 0 [] .full) x2 s37) fun x38 s39=>qac (cl e 17 [x33,x36,x38] s39) fun x40 s41=>(ex x40 0).bind fun x42=>(ex x40 1).bind fun x43=>(ex x40 2).bind fun x44=>(zA.cells (some 5) x42).bind fun c45=>(over ZT5 0 c45).bind fun c46=>(ldL c4 0 (some 4)).bind fun x47=>(ldL c5 0 (some 5)).bind fun x48=>qac (cl e 18 [x47,x48,x2] s41) fun x49 s50=>(ex x49 0).bind fun x51=>(ex x49 1).bind fun x52=>(ex x49 2).bind fun x53=>(zA.cells (some 5) x51).bind fun c54=>(over ZT5 0 c54).bind fun c55=>jn (s3_0 e n) fun j58=>(bn .eql x20 x29).bind fun x59=>qae x59 ((ldL c22 0 (some 5)).bind fun x60=>(ldL c31 0 (some 5)).bind fun x61=>qac (cl e 19 [x60,x61] s50) fun x62 s63=>qae x62 (qac (cl e 20 [x19,x28] s63) fun x64 s65=>qae x64 ((bn .eql x44 x53).bind fun x66=>qae x66 ((ldL c46 0 (some 5)).bind fun x67=>(ldL c55 0 (some 5)).bind fun x68=>qac (cl e 19 [x67,x68] s65) fun x69 s70=>qae x69 (qac (cl e 20 [x43,x52] s70) fun x71 s72=>qae x71 (qac (cl e 12 [] s72) fun x73 s74=>j58 x73 s74) (j58 (bl false) s72)) (j58 (bl false) s70)) (j58 (bl false) s65)) (j58 (bl false) s65)) (j58 (bl false) s63)) (j58 (bl false) s50))
def s3 (e:Env)(n:Nat)(x0 x1 x2:zA)(s3:ASt):Res:=(zA.cells (some 4) x0).bind fun c4=>(zA.cells (some 5) x1).bind fun c5=>jn (s3_1 e n c4 c5 x2) fun j75=>(ldL c4 0 (some 4)).bind fun x76=>(ldL c5 0 (some 5)).bind fun x77=>qac (cl e 11 [x76,x77] s3) fun x78 s79=>(nt x78).bind fun x80=>qae x80 (j75 (bl true) s79) ((ln false x2).bind fun x81=>(bn .gtr x81 (i64 40)).bind fun x82=>j75 x82 s79)
def s11_0 (e:Env)(n:Nat)(s9:ASt):zA->Res:=fun x10=>some (x10,s9)
def s11_1 (e:Env)(n:Nat)(c4:List zA):zA->ASt->Res:=fun x5 s6=>qae x5 (some (bl false,s6)) ((ldL c4 0 (some 5)).bind fun x7=>qac (cl e 32 [x7] s6) fun x8 s9=>jn (s11_0 e n s9) fun j11=>(bn .leq x8 (i64 60)).bind fun x12=>qae x12 (j11 (bl true)) ((bn .gtr x8 (i64 600)).bind fun x13=>j11 x13))
def s11 (e:Env)(n:Nat)(x0 x1:zA)(s2:ASt):Res:=(zA.cells (some 4) x0).bind fun c3=>(zA.cells (some 5) x1).bind fun c4=>jn (s11_1 e n c4) fun j14=>(ldL c3 0 (some 4)).bind fun x15=>qac (cl e 38 [x15] s2) fun x16 s17=>(nt x16).bind fun x18=>qae x18 (j14 (bl true) s17) ((ldL c4 0 (some 5)).bind fun x19=>qac (cl e 39 [x19] s17) fun x20 s21=>(nt x20).bind fun x22=>j14 x22 s21)
def s13 (e:Env)(n:Nat)(x0 x1:zA)(s2:ASt):Res:=(zA.cells (some 4) x0).bind fun c3=>(zA.cells (some 5) x1).bind fun c4=>(ldL c3 0 (some 4)).bind fun x5=>(ldL c4 0 (some 5)).bind fun x6=>qac (cl e 40 [x5,x6] s2) fun x7 s8=>(ex x7 0).bind fun x9=>(ex x7 1).bind fun x10=>(zA.cells (some 7) x9).bind fun c11=>(over [u8 0,i64 0,i64 0,i64 0,(.sl 0 [] .full),(.sl 0 [] .full),i64 0] 0 c11).bind fun c12=>(bn .neq x10 (i64 0)).bind fun x13=>qae x13 ((bd ZT5 []).bind fun x14=>(zA.cells (some 5) x14).bind fun c15=>(over ZT5 0 c15).bind fun c16=>(ldL c16 0 (some 5)).bind fun x17=>some (.tuple [x17,(.sl 0 [] .full),x10],s8)) ((ldL c3 0 (some 4)).bind fun x18=>(ldL c4 0 (some 5)).bind fun x19=>qac (cl e 41 [x18,x19,(.p (.func 42 [] []))] s8) fun x20 s21=>(ex x20 0).bind fun x22=>(ex x20 1).bind fun x23=>(ex x20 2).bind fun x24=>(zA.cells (some 5) x22).bind fun c25=>(over ZT5 0 c25).bind fun c26=>(ldL c26 0 (some 5)).bind fun x27=>some (.tuple [x27,x23,x24],s21))
def s14_0 (e:Env)(n:Nat):zA->List zA->List zA->List zA->ASt->Res:=lp (fun _ _ _ _ _=>none) (fun h13 x8 c9 c10 c11 s12=>(ldL c9 0 none).bind fun x14=>(ln false x14).bind fun x15=>(bn .lss x8 x15).bind fun x16=>qae x16 ((ldL c11 0 none).bind fun x17=>(ldL c9 0 none).bind fun x18=>qac (iaV 3 x18 x8) fun q19 o20=>(ldH e s12 (.elem q19 o20) (some 3)).bind fun x21=>qac (cl e 43 [x21] s12) fun x22 s23=>(ms 1 [(.sl 0 []),(.bool false),(.int .i64 0)] [(0,(some 3),(.c x22))]).bind fun x24=>qac (ap e 3 40 x17 x24 s23) fun x25 s26=>(zA.cells none x25).bind fun c27=>(over c11 0 c27).bind fun c28=>(bn .add x8 (i64 1)).bind fun x29=>h13 x29 c9 c10 c28 s26) ((ldL c11 0 (some 4)).bind fun x30=>(zA.cells (some 4) x30).bind fun c31=>(over c10 0 c31).bind fun c32=>(ldL c32 0 (some 4)).bind fun x33=>some (x33,s12))) n
def s14 (e:Env)(n:Nat)(x0:zA)(s1:ASt):Res:=(zA.cells (some 4) x0).bind fun c2=>(ldL c2 1 (some 2)).bind fun x3=>(ldL c2 3 none).bind fun x4=>(bd [(.sl 0 [] .full),bl false,i64 0,bl false] [(1,(some 2),(.c x3)),(3,none,(.c x4))]).bind fun x5=>(zA.cells (some 4) x5).bind fun c6=>(over [(.sl 0 [] .full),bl false,i64 0,bl false] 0 c6).bind fun c7=>s14_0 e n (i64 0) c2 [(.sl 0 [] .full),bl false,i64 0,bl false] c7 s1
def s15_0 (e:Env)(n:Nat):zA->List zA->List zA->List zA->ASt->Res:=lp (fun _ _ _ _ _=>none) (fun h13 x8 c9 c10 c11 s12=>(ldL c9 4 none).bind fun x14=>(ln false x14).bind fun x15=>(bn .lss x8 x15).bind fun x16=>qae x16 ((ldL c11 4 none).bind fun x17=>(ldL c9 4 none).bind fun x18=>qac (iaV 5 x18 x8) fun q19 o20=>(ldH e s12 (.elem q19 o20) (some 5)).bind fun x21=>qac (cl e 15 [x21] s12) fun x22 s23=>(ms 1 [(.int .u8 0),(.int .i64 0),(.int .i64 0),(.int .i64 0),(.sl 0 [])] [(0,(some 5),(.c x22))]).bind fun x24=>qac (ap e 5 56 x17 x24 s23) fun x25 s26=>(zA.cells none x25).bind fun c27=>(over c11 4 c27).bind fun c28=>(bn .add x8 (i64 1)).bind fun x29=>h13 x29 c9 c10 c28 s26) ((ldL c11 0 (some 5)).bind fun x30=>(zA.cells (some 5) x30).bind fun c31=>(over c10 0 c31).bind fun c32=>(ldL c32 0 (some 5)).bind fun x33=>some (x33,s12))) n
def s15 (e:Env)(n:Nat)(x0:zA)(s1:ASt):Res:=(zA.cells (some 5) x0).bind fun c2=>(ldL c2 0 (some 5)).bind fun x3=>(zA.cells (some 5) x3).bind fun c4=>(over ZT5 0 c4).bind fun c5=>(zA.cells none (.sl 0 [] .full)).bind fun c6=>(over c5 4 c6).bind fun c7=>s15_0 e n (i64 0) c2 ZT5 c7 s1
def s16 (e:Env)(n:Nat)(x0 x1:zA)(s2:ASt):Res:=(zA.cells (some 4) x0).bind fun c3=>(zA.cells (some 5) x1).bind fun c4=>(ldL c3 0 (some 4)).bind fun x5=>(ldL c4 0 (some 5)).bind fun x6=>qac (cl e 22 [] s2) fun x7 s8=>qac (cl e 18 [x5,x6,x7] s8) fun x9 s10=>(ex x9 0).bind fun x11=>(ex x9 1).bind fun x12=>(ex x9 2).bind fun x13=>(zA.cells (some 5) x11).bind fun c14=>(over ZT5 0 c14).bind fun c15=>(ldL c15 0 (some 5)).bind fun x16=>some (.tuple [x16,x12,x13],s10)
def s17 (e:Env)(n:Nat)(x0 x1 x2:zA)(s3:ASt):Res:=(zA.cells (some 4) x0).bind fun c4=>(zA.cells (some 5) x1).bind fun c5=>(zA.cells none x2).bind fun c6=>cnd (c6.all qaY) (qdX s3 (.cells c6) fun l7 s8=>(ldL c4 0 (some 4)).bind fun x9=>(ldL c5 0 (some 5)).bind fun x10=>qac (cl e 40 [x9,x10] s8) fun x11 s12=>(ex x11 0).bind fun x13=>(ex x11 1).bind fun x14=>(zA.cells (some 7) x13).bind fun c15=>(over [u8 0,i64 0,i64 0,i64 0,(.sl 0 [] .full),(.sl 0 [] .full),i64 0] 0 c15).bind fun c16=>(bn .neq x14 (i64 0)).bind fun x17=>qae x17 ((bd ZT5 []).bind fun x18=>(zA.cells (some 5) x18).bind fun c19=>(over ZT5 0 c19).bind fun c20=>(ldL c20 0 (some 5)).bind fun x21=>some (.tuple [x21,(.sl 0 [] .full),x14],s12)) ((ldL c4 0 (some 4)).bind fun x22=>(ldL c5 0 (some 5)).bind fun x23=>(mf 44 [] [.ptr l7 0]).bind fun x24=>qac (cl e 41 [x22,x23,x24] s12) fun x25 s26=>(ex x25 0).bind fun x27=>(ex x25 1).bind fun x28=>(ex x25 2).bind fun x29=>(zA.cells (some 5) x27).bind fun c30=>(over ZT5 0 c30).bind fun c31=>(ldL c31 0 (some 5)).bind fun x32=>some (.tuple [x32,x28,x29],s26))) none
def s18_0 (e:Env)(n:Nat)(x25:zA)(h27:zA->ASt->Res)(x23:zA)(c17 c18:List zA)(x15:zA)(c16:List zA)(h20:zA->List zA->List zA->List zA->ASt->Res):zA->ASt->Res:=fun x28 s29=>qae x28 ((bn .add x25 (i64 1)).bind fun x30=>h27 x30 s29) ((ln false x23).bind fun x31=>(bn .eql x25 x31).bind fun x32=>qae x32 ((ldL c17 0 (some 5)).bind fun x33=>qac (cl e 15 [x33] s29) fun x34 s35=>(zA.cells (some 5) x34).bind fun c36=>(over c18 0 c36).bind fun c37=>(ldL c37 0 (some 5)).bind fun x38=>some (.tuple [x38,x15,i64 0],s35)) ((ln false x15).bind fun x39=>(bn .eql x39 (i64 2000)).bind fun x40=>qae x40 ((bd ZT5 []).bind fun x41=>(zA.cells (some 5) x41).bind fun c42=>(over c18 0 c42).bind fun c43=>(ldL c43 0 (some 5)).bind fun x44=>some (.tuple [x44,(.sl 0 [] .full),i64 5],s29)) (qac (iaV 2 x23 x25) fun q45 o46=>(ldH e s29 (.elem q45 o46) (some 2)).bind fun x47=>(ms 1 [(.int .u8 0),(.int .i64 0)] [(0,(some 2),(.c x47))]).bind fun x48=>qac (ap e 2 16 x15 x48 s29) fun x49 s50=>(ldL c16 0 (some 4)).bind fun x51=>(ldL c17 0 (some 5)).bind fun x52=>qac (iaV 2 x23 x25) fun q53 o54=>(ldH e s50 (.elem q53 o54) (some 2)).bind fun x55=>qac (cl e 49 [x51,x52,x55] s50) fun x56 s57=>(ex x56 0).bind fun x58=>(ex x56 1).bind fun x59=>(zA.cells (some 5) x58).bind fun c60=>(over c17 0 c60).bind fun c61=>h20 x49 c16 c61 c18 s57)))
def s18_1 (e:Env)(n:Nat)(x23:zA)(c17 c18:List zA)(x15:zA)(c16:List zA)(h20:zA->List zA->List zA->List zA->ASt->Res)(x2:zA):zA->ASt->Res:=lp (fun _ _=>none) (fun h27 x25 s26=>jn (s18_0 e n x25 h27 x23 c17 c18 x15 c16 h20) fun j62=>(ln false x23).bind fun x63=>(bn .lss x25 x63).bind fun x64=>qae x64 (qac (iaV 2 x23 x25) fun q65 o66=>(ldH e s26 (.elem q65 o66) none).bind fun x67=>qac (cl e 48 [x2,x67] s26) fun x68 s69=>(nt x68).bind fun x70=>j62 x70 s69) (j62 (bl false) s26)) n
def s18_2 (e:Env)(n:Nat)(x2:zA):zA->List zA->List zA->List zA->ASt->Res:=lp (fun _ _ _ _ _=>none) (fun h20 x15 c16 c17 c18 s19=>(ldL c16 0 (some 4)).bind fun x21=>(ldL c17 0 (some 5)).bind fun x22=>qac (cl e 47 [x21,x22] s19) fun x23 s24=>s18_1 e n x23 c17 c18 x15 c16 h20 x2 (i64 0) s24) n
def s18 (e:Env)(n:Nat)(x0 x1 x2:zA)(s3:ASt):Res:=(zA.cells (some 4) x0).bind fun c4=>(zA.cells (some 5) x1).bind fun c5=>(ldL c4 0 (some 4)).bind fun x6=>(ldL c5 0 (some 5)).bind fun x7=>qac (cl e 46 [x6,x7] s3) fun x8 s9=>(bn .neq x8 (i64 0)).bind fun x10=>qae x10 ((bd ZT5 []).bind fun x11=>(zA.cells (some 5) x11).bind fun c12=>(over ZT5 0 c12).bind fun c13=>(ldL c13 0 (some 5)).bind fun x14=>some (.tuple [x14,(.sl 0 [] .full),x8],s9)) (s18_2 e n x2 (.sl 0 [] .full) c4 c5 ZT5 s9)
def s19_0 (e:Env)(n:Nat)(c3 c4:List zA):zA->ASt->Res:=lp (fun _ _=>none) (fun h8 x6 s7=>(ldL c3 4 none).bind fun x9=>(ln false x9).bind fun x10=>(bn .lss x6 x10).bind fun x11=>qae x11 ((ldL c3 4 none).bind fun x12=>qac (iaV 5 x12 x6) fun q13 o14=>(ldH e s7 (.elem q13 o14) (some 5)).bind fun x15=>(ldL c4 4 none).bind fun x16=>qac (iaV 5 x16 x6) fun q17 o18=>(ldH e s7 (.elem q17 o18) (some 5)).bind fun x19=>qac (cl e 19 [x15,x19] s7) fun x20 s21=>(nt x20).bind fun x22=>qae x22 (some (bl false,s21)) ((bn .add x6 (i64 1)).bind fun x23=>h8 x23 s21)) (some (bl true,s7))) n
def s19_1 (e:Env)(n:Nat)(s2:ASt)(c3 c4:List zA):zA->Res:=fun x5=>qae x5 (some (bl false,s2)) (s19_0 e n c3 c4 (i64 0) s2)
def s19 (e:Env)(n:Nat)(x0 x1:zA)(s2:ASt):Res:=(zA.cells (some 5) x0).bind fun c3=>(zA.cells (some 5) x1).bind fun c4=>jn (s19_1 e n s2 c3 c4) fun j24=>(ldL c3 0 none).bind fun x25=>(ldL c4 0 none).bind fun x26=>(bn .neq x25 x26).bind fun x27=>qae x27 (j24 (bl true)) ((ldL c3 1 none).bind fun x28=>(ldL c4 1 none).bind fun x29=>(bn .neq x28 x29).bind fun x30=>qae x30 (j24 (bl true)) ((ldL c3 2 none).bind fun x31=>(ldL c4 2 none).bind fun x32=>(bn .neq x31 x32).bind fun x33=>qae x33 (j24 (bl true)) ((ldL c3 3 none).bind fun x34=>(ldL c4 3 none).bind fun x35=>(bn .neq x34 x35).bind fun x36=>qae x36 (j24 (bl true)) ((ldL c3 4 none).bind fun x37=>(ln false x37).bind fun x38=>(ldL c4 4 none).bind fun x39=>(ln false x39).bind fun x40=>(bn .neq x38 x40).bind fun x41=>j24 x41))))
def s20_0 (e:Env)(n:Nat)(x0:zA)(s2:ASt)(x1:zA):zA->Res:=lp (fun _=>none) (fun h7 x6=>(ln false x0).bind fun x8=>(bn .lss x6 x8).bind fun x9=>qae x9 (qac (iaV 2 x0 x6) fun q10 o11=>(ldH e s2 (.elem q10 o11) (some 2)).bind fun x12=>qac (iaV 2 x1 x6) fun q13 o14=>(ldH e s2 (.elem q13 o14) (some 2)).bind fun x15=>(eqs [1,1] true x12 x15).bind fun x16=>qae x16 (some (bl false,s2)) ((bn .add x6 (i64 1)).bind fun x17=>h7 x17)) (some (bl true,s2))) n
def s20 (e:Env)(n:Nat)(x0 x1:zA)(s2:ASt):Res:=(ln false x0).bind fun x3=>(ln false x1).bind fun x4=>(bn .neq x3 x4).bind fun x5=>qae x5 (some (bl false,s2)) (s20_0 e n x0 s2 x1 (i64 0))
def s22_0 (e:Env)(n:Nat):zA->zA->ASt->Res:=lp (fun _ _ _=>none) (fun h4 x1 x2 s3=>(bn .leq x2 (u8 22)).bind fun x5=>qae x5 ((ms 1 [(.int .u8 0)] [(0,none,(.c x2))]).bind fun x6=>qac (ap e 1 1 x1 x6 s3) fun x7 s8=>(bn .add x2 (u8 1)).bind fun x9=>h4 x7 x9 s8) (some (x1,s3))) n
def s22 (e:Env)(n:Nat)(s0:ASt):Res:=s22_0 e n (.sl 0 [] .full) (u8 1) s0
def s31_0 (e:Env)(n:Nat)(x21 x20:zA):zA->Nat->List zA->List zA->List zA->List zA->ASt->Res:=lp (fun _ _ _ _ _ _ _=>none) (fun h29 x22 g23 c24 c25 c26 c27 s28=>(bn .lss x22 x21).bind fun x30=>qae x30 (qac (iaV 3 x20 x22) fun q31 o32=>(ldH e s28 (.elem q31 o32) (some 3)).bind fun x33=>(zA.cells (some 3) x33).bind fun c34=>cnd (Nat.beq (g23+1) (g23+1)) ((over [(.sl 0 [] .full),bl false,i64 0] 0 c34).bind fun c35=>(ldL c26 0 none).bind fun x36=>cnd (Nat.beq (g23+1) (g23+1)) ((ldL c35 0 (some 3)).bind fun x37=>(bd [(.sl 0 [] .full),bl false,i64 0,bl false] [(0,(some 3),(.c x37))]).bind fun x38=>(ms 1 [(.sl 0 []),(.bool false),(.int .i64 0),(.bool false)] [(0,(some 4),(.c x38))]).bind fun x39=>qac (ap e 4 48 x36 x39 s28) fun x40 s41=>(zA.cells none x40).bind fun c42=>(over c26 0 c42).bind fun c43=>(bn .add x22 (i64 1)).bind fun x44=>h29 x44 (g23+1) c24 c25 c43 c35 s41) none) none) ((ldL c26 0 (some 4)).bind fun x45=>(ldL c25 0 (some 5)).bind fun x46=>(ldL c24 1 (some 2)).bind fun x47=>qac (cl e 59 [x45,x46,x47] s28) fun x48 s49=>(nt x48).bind fun x50=>qae x50 (some (i64 4,s49)) (some (i64 0,s49)))) n
def s31 (e:Env)(n:Nat)(x0 x1:zA)(s2:ASt):Res:=(zA.cells (some 4) x0).bind fun c3=>(zA.cells (some 5) x1).bind fun c4=>(ldL c3 0 (some 4)).bind fun x5=>qac (cl e 56 [x5] s2) fun x6 s7=>(bn .neq x6 (i64 0)).bind fun x8=>qae x8 (some (x6,s7)) ((ldL c4 0 (some 5)).bind fun x9=>qac (cl e 57 [x9] s7) fun x10 s11=>(bn .gtr x10 (i64 600)).bind fun x12=>qae x12 (some (i64 5,s11)) ((ldL c3 0 none).bind fun x13=>(ln false x13).bind fun x14=>qac (cl e 58 [] s11) fun x15 s16=>(bd [(.sl 0 [] .full),i64 0,i64 0,(.p .nilMap)] [(1,none,(.c x14)),(3,none,(.c x15))]).bind fun x17=>(zA.cells (some 4) x17).bind fun c18=>(over [(.sl 0 [] .full),i64 0,i64 0,(.p .nilMap)] 0 c18).bind fun c19=>(ldL c3 0 none).bind fun x20=>(ln false x20).bind fun x21=>s31_0 e n x21 x20 (i64 0) 0 c3 c4 c19 [] s16))
def s32_0 (e:Env)(n:Nat)(c2:List zA)(x4:zA)(s5:ASt)(x3:zA)(h6:zA->zA->ASt->Res):zA->Res:=fun x7=>qae x7 ((ldL c2 4 none).bind fun x8=>qac (iaV 5 x8 x4) fun q9 o10=>(ldH e s5 (.elem q9 o10) (some 5)).bind fun x11=>qac (cl e 32 [x11] s5) fun x12 s13=>(bn .add x3 x12).bind fun x14=>(bn .add x4 (i64 1)).bind fun x15=>h6 x14 x15 s13) ((mm false x3 (i64 601)).bind fun x16=>some (x16,s5))
def s32_1 (e:Env)(n:Nat)(c2:List zA):zA->zA->ASt->Res:=lp (fun _ _ _=>none) (fun h6 x3 x4 s5=>jn (s32_0 e n c2 x4 s5 x3 h6) fun j17=>(ldL c2 4 none).bind fun x18=>(ln false x18).bind fun x19=>(bn .lss x4 x19).bind fun x20=>qae x20 ((bn .leq x3 (i64 600)).bind fun x21=>j17 x21) (j17 (bl false))) n
def s32 (e:Env)(n:Nat)(x0:zA)(s1:ASt):Res:=(zA.cells (some 5) x0).bind fun c2=>s32_1 e n c2 (i64 1) (i64 0) s1
def s38_0 (e:Env)(n:Nat)(c2:List zA)(s1:ASt):zA->Res:=lp (fun _=>none) (fun h7 x6=>(ldL c2 0 none).bind fun x8=>(ln false x8).bind fun x9=>(bn .lss x6 x9).bind fun x10=>qae x10 ((ldL c2 0 none).bind fun x11=>qac (iaV 3 x11 x6) fun q12 o13=>(ldH e s1 (.elem q12 o13) none).bind fun x14=>(ln false x14).bind fun x15=>(bn .gtr x15 (i64 20)).bind fun x16=>qae x16 (some (bl false,s1)) ((bn .add x6 (i64 1)).bind fun x17=>h7 x17)) (some (bl true,s1))) n
def s38 (e:Env)(n:Nat)(x0:zA)(s1:ASt):Res:=(zA.cells (some 4) x0).bind fun c2=>(ldL c2 0 none).bind fun x3=>(ln false x3).bind fun x4=>(bn .gtr x4 (i64 20)).bind fun x5=>qae x5 (some (bl false,s1)) (s38_0 e n c2 s1 (i64 0))
def s39 (e:Env)(n:Nat)(x0:zA)(s1:ASt):Res:=(zA.cells (some 5) x0).bind fun c2=>(ldL c2 0 (some 5)).bind fun x3=>qac (cl e 64 [x3,i64 700,i64 200] s1) fun x4 s5=>(bn .leq x4 (i64 700)).bind fun x6=>some (x6,s5)
def s40 (e:Env)(n:Nat)(x0 x1:zA)(s2:ASt):Res:=(zA.cells (some 4) x0).bind fun c3=>(zA.cells (some 5) x1).bind fun c4=>(ldL c3 0 (some 4)).bind fun x5=>(ldL c4 0 (some 5)).bind fun x6=>qac (cl e 65 [x5,x6] s2) fun x7 s8=>(ldL c3 0 (some 4)).bind fun x9=>(ldL c4 0 (some 5)).bind fun x10=>qac (cl e 31 [x9,x10] s8) fun x11 s12=>(zA.cells (some 7) x7).bind fun c13=>(over [u8 0,i64 0,i64 0,i64 0,(.sl 0 [] .full),(.sl 0 [] .full),i64 0] 0 c13).bind fun c14=>(ldL c14 0 (some 7)).bind fun x15=>some (.tuple [x15,x11],s12)
def s41_0 (e:Env)(n:Nat)(x25:zA)(h31:zA->Nat->Nat->List zA->List zA->ASt->Res):Nat->Nat->List zA->List zA->ASt->Res:=fun g41 g42 c43 c44 s45=>(ldH e s45 x25 none).bind fun x46=>qdX s45 (.cells [bl false]) fun l47 s48=>(zA.cells none x46).bind fun c49=>(stH s48 (.ptr l47 0) c49).bind fun s50=>h31 (.ptr l47 0) g41 g42 c43 c44 s50
def ra41:CC:=(.seq (.reg [⟨(some 11),none,.alloc 1 [u8 0,i64 0]⟩,⟨none,none,.store (some 2) (.t 11) (.t 21)⟩]) (.reg [⟨(some 12),none,.alloc 2 ZT5⟩,⟨none,none,.store (some 5) (.t 12) (.t 22)⟩]))
def rb41:CC:=(.block 3 (.seq (.seq (.reg [⟨(some 23),none,.load none (.t 9)⟩,⟨(some 24),none,.len false (.t 23)⟩,⟨(some 25),none,.bin .eql (.t 24) (.c (i64 2000))⟩]) (.cond (.t 25) (.seq (.reg [⟨(some 26),none,.build ZT5 []⟩,⟨none,none,.store (some 5) (.t 6) (.t 26)⟩,⟨none,none,.store none (.t 7) (.c (.sl 0 [] .full))⟩,⟨none,none,.store none (.t 8) (.c (i64 5))⟩]) .ret) .skip)) (.seq (.regd [] [] [⟨(some 27),none,.load (some 5) (.t 4)⟩,⟨(some 28),none,.fa 1 (.t 11)⟩,⟨(some 29),none,.load none (.t 28)⟩,⟨(some 30),none,.load (some 5) (.t 12)⟩,⟨(some 31),none,.call 66 [(.t 27),(.t 29),(.t 30)]⟩,⟨(some 32),none,.load none (.t 9)⟩,⟨(some 33),none,.load (some 2) (.t 11)⟩,⟨(some 34),none,.mks 1 [(.int .u8 0),(.int .i64 0)] [(0,(some 2),(.t 33))]⟩,⟨(some 35),none,.app 2 16 (.t 32) (.t 34)⟩,⟨none,none,.store (some 5) (.t 4) (.t 31)⟩,⟨none,none,.store none (.t 9) (.t 35)⟩,⟨none,none,.store none (.t 10) (.c (bl true))⟩] [⟨5,none,(.t 9),[(4,68)]⟩,⟨6,(some 2),(.t 11),[(4,68)]⟩]) (.exit 2))))
def y41 (e:Env)(n:Nat)(u:ASt->ASt)(l6 l8 l10 l12 l14:Nat)(x25 x58 x59:zA)(s60:ASt):Res:=(zA.cells (some 2) x58).bind fun c61=>(over [u8 0,i64 0] 0 c61).bind fun c62=>(zA.cells (some 5) x59).bind fun c63=>(over ZT5 0 c63).bind fun c64=>(ldH e (u s60) (.ptr l14 0) none).bind fun x65=>(ln false x65).bind fun x66=>(bn .eql x66 (i64 2000)).bind fun x67=>qae x67 ((bd ZT5 []).bind fun x68=>(zA.cells (some 5) x68).bind fun c69=>(stH (u s60) (.ptr l8 0) c69).bind fun s70=>(zA.cells none (.sl 0 [] .full)).bind fun c71=>(stH s70 (.ptr l10 0) c71).bind fun s72=>(zA.cells none (i64 5)).bind fun c73=>(stH s72 (.ptr l12 0) c73).bind fun s74=>some (u8 2,s74)) ((ldH e (u s60) (.ptr l6 0) (some 5)).bind fun x75=>(ldL c62 1 none).bind fun x76=>(ldL c64 0 (some 5)).bind fun x77=>qac (cl e 66 [x75,x76,x77] (u s60)) fun x78 s79=>(ldH e s79 (.ptr l14 0) none).bind fun x80=>(ldL c62 0 (some 2)).bind fun x81=>(ms 1 [(.int .u8 0),(.int .i64 0)] [(0,(some 2),(.c x81))]).bind fun x82=>qac (ap e 2 16 x80 x82 s79) fun x83 s84=>(zA.cells (some 5) x78).bind fun c85=>(stH s84 (.ptr l6 0) c85).bind fun s86=>(zA.cells none x83).bind fun c87=>(stH s86 (.ptr l14 0) c87).bind fun s88=>(zA.cells none (bl true)).bind fun c89=>(stH s88 x25 c89).bind fun s90=>cnd (((e.pure 66||qaT (loadFrom e.E .nil (u s60) (.ptr l14 0) 1) (loadFrom e.E .nil s79 (.ptr l14 0) 1))&&true)&&true) (some (i64 2,s90)) none)
def s41_1 (e:Env)(n:Nat)(c4:List zA)(l6:Nat)(x2:zA)(l8 l10 l12 l14:Nat):zA->Nat->Nat->List zA->List zA->ASt->Res:=lp (fun _ _ _ _ _ _=>none) (fun h31 x25 g26 g27 c28 c29 s30=>(ldH e s30 x25 none).bind fun x32=>qae x32 ((zA.cells none (bl false)).bind fun c33=>(stH s30 x25 c33).bind fun s34=>(ldL c4 0 (some 4)).bind fun x35=>(ldH e s34 (.ptr l6 0) (some 5)).bind fun x36=>qac (cl e 65 [x35,x36] s34) fun x37 s38=>qac (cl e 54 [x37,x2] s38) fun x39 s40=>jn (s41_0 e n x25 h31) fun j51=>rfK e n 63 x39 [21,22] ra41 rb41 [(20,x39),(19,x2),(18,x37),(17,x36),(16,x35),(15,x32),(10,x25),(2,x2),(3,(.lptr 0 1 0)),(4,(.ptr l6 0)),(6,(.ptr l8 0)),(7,(.ptr l10 0)),(8,(.ptr l12 0)),(9,(.ptr l14 0))] [(1,(g26,c28)),(2,(g27,c29)),(0,(1,c4)),(0,(0,[]))] s40 (fun s52=>j51 g26 g27 c28 c29 s52) (fun s53=>j51 g26 g27 c28 c29 s53) (fun s54=>(ldH e s54 (.ptr l8 0) (some 5)).bind fun x55=>(ldH e s54 (.ptr l10 0) none).bind fun x56=>(ldH e s54 (.ptr l12 0) none).bind fun x57=>some (.tuple [x55,x56,x57],s54))) ((ldH e s30 (.ptr l6 0) (some 5)).bind fun x91=>(ldH e s30 (.ptr l14 0) none).bind fun x92=>(zA.cells (some 5) x91).bind fun c93=>(stH s30 (.ptr l8 0) c93).bind fun s94=>(zA.cells none x92).bind fun c95=>(stH s94 (.ptr l10 0) c95).bind fun s96=>(zA.cells none (i64 0)).bind fun c97=>(stH s96 (.ptr l12 0) c97).bind fun s98=>cnd ((qaT (loadFrom e.E .nil s30 (.ptr l14 0) 1) (loadFrom e.E .nil s94 (.ptr l14 0) 1)&&true)&&true) ((ldH e s98 (.ptr l8 0) (some 5)).bind fun x99=>(ldH e s98 (.ptr l10 0) none).bind fun x100=>(ldH e s98 (.ptr l12 0) none).bind fun x101=>some (.tuple [x99,x100,x101],s98)) none)) n
def s41 (e:Env)(n:Nat)(x0 x1 x2:zA)(s3:ASt):Res:=(zA.cells (some 4) x0).bind fun c4=>(zA.cells (some 5) x1).bind fun c5=>cnd (c5.all qaY) (qdX s3 (.cells c5) fun l6 s7=>qdX s7 (.cells ZT5) fun l8 s9=>qdX s9 (.cells [(.sl 0 [] .full)]) fun l10 s11=>qdX s11 (.cells [i64 0]) fun l12 s13=>qdX s13 (.cells [(.sl 0 [] .full)]) fun l14 s15=>(ldH e s15 (.ptr l6 0) (some 5)).bind fun x16=>qac (cl e 60 [x16] s15) fun x17 s18=>(zA.cells (some 5) x17).bind fun c19=>(stH s18 (.ptr l6 0) c19).bind fun s20=>qdX s20 (.cells [bl false]) fun l21 s22=>(zA.cells none (bl true)).bind fun c23=>(stH s22 (.ptr l21 0) c23).bind fun s24=>s41_1 e n c4 l6 x2 l8 l10 l12 l14 (.ptr l21 0) 0 0 [] [] s24) none
def s42 (e:Env)(n:Nat)(x0:zA)(s1:ASt):Res:=some (bl true,s1)
def s43 (e:Env)(n:Nat)(x0:zA)(s1:ASt):Res:=(zA.cells (some 3) x0).bind fun c2=>(ms 0 [] []).bind fun x3=>(ldL c2 0 none).bind fun x4=>qac (ap e 2 16 x3 x4 s1) fun x5 s6=>(ldL c2 1 (some 2)).bind fun x7=>(bd [(.sl 0 [] .full),bl false,i64 0] [(0,none,(.c x5)),(1,(some 2),(.c x7))]).bind fun x8=>(zA.cells (some 3) x8).bind fun c9=>(over [(.sl 0 [] .full),bl false,i64 0] 0 c9).bind fun c10=>cnd ((qaT (cut c2 1 2) (cut c2 1 2)&&true)&&true) ((ldL c10 0 (some 3)).bind fun x11=>some (x11,s6)) none
def s44 (e:Env)(n:Nat)(x0 x1:zA)(s2:ASt):Res:=(ldH e s2 x1 none).bind fun x3=>qac (cl e 45 [x3,x0] s2) fun x4 s5=>some (x4,s5)
def s45 (e:Env)(n:Nat)(x0 x1:zA)(s2:ASt):Res:=qac (cl e 67 [x0,x1] s2) fun x3 s4=>(bn .geq x3 (i64 0)).bind fun x5=>some (x5,s4)
def s46 (e:Env)(n:Nat)(x0 x1:zA)(s2:ASt):Res:=(zA.cells (some 4) x0).bind fun c3=>(zA.cells (some 5) x1).bind fun c4=>(ldL c3 0 (some 4)).bind fun x5=>qac (cl e 62 [x5] s2) fun x6 s7=>(bn .neq x6 (i64 0)).bind fun x8=>qae x8 (some (x6,s7)) ((ldL c4 0 (some 5)).bind fun x9=>qac (cl e 32 [x9] s7) fun x10 s11=>(bn .gtr x10 (i64 600)).bind fun x12=>qae x12 (some (i64 5,s11)) ((ldL c4 0 (some 5)).bind fun x13=>(ldL c3 1 (some 2)).bind fun x14=>(ldL c3 0 (some 4)).bind fun x15=>qac (cl e 69 [x15] s11) fun x16 s17=>qac (cl e 68 [x13,x14,x16,i64 0] s17) fun x18 s19=>(nt x18).bind fun x20=>qae x20 (some (i64 4,s19)) (some (i64 0,s19))))
def s47 (e:Env)(n:Nat)(x0 x1:zA)(s2:ASt):Res:=(zA.cells (some 4) x0).bind fun c3=>(zA.cells (some 5) x1).bind fun c4=>(bd [i64 0,u8 0,i64 0,bl false,(.sl 0 [] .full)] []).bind fun x5=>(zA.cells (some 5) x5).bind fun c6=>cnd (c6.all qaY) (qdX s2 (.cells c6) fun l7 s8=>(ldL c4 0 (some 5)).bind fun x9=>(ldL c3 0 (some 4)).bind fun x10=>qac (cl e 71 [x10] s8) fun x11 s12=>qac (cl e 70 [.ptr l7 0,x9,x11] s12) fun x13 s14=>(ldH e s14 (.ptr l7 4) none).bind fun x15=>some (x15,s14)) none
def s48_0 (e:Env)(n:Nat)(x0:zA)(s2:ASt)(x1:zA):zA->Res:=lp (fun _=>none) (fun h4 x3=>(ln false x0).bind fun x5=>(bn .lss x3 x5).bind fun x6=>qae x6 (qac (iaV 1 x0 x3) fun q7 o8=>(ldH e s2 (.elem q7 o8) none).bind fun x9=>(bn .eql x9 x1).bind fun x10=>qae x10 (some (bl true,s2)) ((bn .add x3 (i64 1)).bind fun x11=>h4 x11)) (some (bl false,s2))) n
def s48 (e:Env)(n:Nat)(x0 x1:zA)(s2:ASt):Res:=s48_0 e n x0 s2 x1 (i64 0)
def s49 (e:Env)(n:Nat)(x0 x1 x2:zA)(s3:ASt):Res:=(zA.cells (some 4) x0).bind fun c4=>(zA.cells (some 5) x1).bind fun c5=>(zA.cells (some 2) x2).bind fun c6=>(ldL c6 0 (some 2)).bind fun x7=>(bd [i64 0,u8 0,i64 0,bl false,(.sl 0 [] .full)] [(1,(some 2),(.c x7))]).bind fun x8=>(zA.cells (some 5) x8).bind fun c9=>cnd (c9.all qaY) (qdX s3 (.cells c9) fun l10 s11=>(ldL c5 0 (some 5)).bind fun x12=>(ldL c4 0 (some 4)).bind fun x13=>qac (cl e 71 [x13] s11) fun x14 s15=>qac (cl e 70 [.ptr l10 0,x12,x14] s15) fun x16 s17=>(zA.cells (some 5) x16).bind fun c18=>(over ZT5 0 c18).bind fun c19=>(ldL c19 0 (some 5)).bind fun x20=>(ldH e s17 (.ptr l10 3) none).bind fun x21=>(zA.cells (some 5) x20).bind fun c22=>(over ZT5 0 c22).bind fun c23=>cnd ((qaT (loadFrom e.E .nil s17 (.ptr l10 3) 1) (loadFrom e.E .nil s17 (.ptr l10 3) 1)&&true)&&true) ((ldL c23 0 (some 5)).bind fun x24=>some (.tuple [x24,x21],s17)) none) none
def s50 (e:Env)(n:Nat)(s0:ASt):Res:=(bd [(.p (.str ⟨#[]⟩)),(.p .nilFunc)] [(0,none,(.c (.p (.str ⟨#[111,112]⟩)))),(1,none,(.c (.p (.func 72 [] []))))]).bind fun x1=>(bd [(.p (.str ⟨#[]⟩)),(.p .nilFunc)] [(0,none,(.c (.p (.str ⟨#[97,115]⟩)))),(1,none,(.c (.p (.func 73 [] []))))]).bind fun x2=>(bd [(.p (.str ⟨#[]⟩)),(.p .nilFunc)] [(0,none,(.c (.p (.str ⟨#[115,105,122,101]⟩)))),(1,none,(.c (.p (.func 74 [] []))))]).bind fun x3=>(bd [(.p (.str ⟨#[]⟩)),(.p .nilFunc)] [(0,none,(.c (.p (.str ⟨#[110,101,117,116,114,97,108]⟩)))),(1,none,(.c (.p (.func 75 [] []))))]).bind fun x4=>(bd [(.p (.str ⟨#[]⟩)),(.p .nilFunc)] [(0,none,(.c (.p (.str ⟨#[115,119,97,112]⟩)))),(1,none,(.c (.p (.func 76 [] []))))]).bind fun x5=>(bd [(.p (.str ⟨#[]⟩)),(.p .nilFunc)] [(0,none,(.c (.p (.str ⟨#[105,102]⟩)))),(1,none,(.c (.p (.func 77 [] []))))]).bind fun x6=>(bd [(.p (.str ⟨#[]⟩)),(.p .nilFunc)] [(0,none,(.c (.p (.str ⟨#[115,97,109,101]⟩)))),(1,none,(.c (.p (.func 78 [] []))))]).bind fun x7=>(bd [(.p (.str ⟨#[]⟩)),(.p .nilFunc)] [(0,none,(.c (.p (.str ⟨#[110,111,116]⟩)))),(1,none,(.c (.p (.func 79 [] []))))]).bind fun x8=>(bd [(.p (.str ⟨#[]⟩)),(.p .nilFunc)] [(0,none,(.c (.p (.str ⟨#[98,111,111,108]⟩)))),(1,none,(.c (.p (.func 80 [] []))))]).bind fun x9=>(bd [(.p (.str ⟨#[]⟩)),(.p .nilFunc)] [(0,none,(.c (.p (.str ⟨#[115,107,105,112]⟩)))),(1,none,(.c (.p (.func 81 [] []))))]).bind fun x10=>(bd [(.p (.str ⟨#[]⟩)),(.p .nilFunc)] [(0,none,(.c (.p (.str ⟨#[110,101,115,116]⟩)))),(1,none,(.c (.p (.func 82 [] []))))]).bind fun x11=>(bd [(.p (.str ⟨#[]⟩)),(.p .nilFunc)] [(0,none,(.c (.p (.str ⟨#[100,101,97,100]⟩)))),(1,none,(.c (.p (.func 83 [] []))))]).bind fun x12=>(bd [(.p (.str ⟨#[]⟩)),(.p .nilFunc)] [(0,none,(.c (.p (.str ⟨#[119,104,105,108,101]⟩)))),(1,none,(.c (.p (.func 84 [] []))))]).bind fun x13=>(bd [(.p (.str ⟨#[]⟩)),(.p .nilFunc)] [(0,none,(.c (.p (.str ⟨#[117,110,117,115,101,100]⟩)))),(1,none,(.c (.p (.func 85 [] []))))]).bind fun x14=>(bd [(.p (.str ⟨#[]⟩)),(.p .nilFunc)] [(0,none,(.c (.p (.str ⟨#[114,101,97,100]⟩)))),(1,none,(.c (.p (.func 86 [] []))))]).bind fun x15=>(bd [(.p (.str ⟨#[]⟩)),(.p .nilFunc)] [(0,none,(.c (.p (.str ⟨#[119,114,105,116,101]⟩)))),(1,none,(.c (.p (.func 87 [] []))))]).bind fun x16=>(bd [(.p (.str ⟨#[]⟩)),(.p .nilFunc)] [(0,none,(.c (.p (.str ⟨#[107,110,111,119,110]⟩)))),(1,none,(.c (.p (.func 88 [] []))))]).bind fun x17=>(bd [(.p (.str ⟨#[]⟩)),(.p .nilFunc)] [(0,none,(.c (.p (.str ⟨#[108,97,98,101,108]⟩)))),(1,none,(.c (.p (.func 89 [] []))))]).bind fun x18=>(bd [(.p (.str ⟨#[]⟩)),(.p .nilFunc)] [(0,none,(.c (.p (.str ⟨#[106,117,109,112]⟩)))),(1,none,(.c (.p (.func 90 [] []))))]).bind fun x19=>(bd [(.p (.str ⟨#[]⟩)),(.p .nilFunc)] [(0,none,(.c (.p (.str ⟨#[110,111,116,105,99,101]⟩)))),(1,none,(.c (.p (.func 91 [] []))))]).bind fun x20=>(bd [(.p (.str ⟨#[]⟩)),(.p .nilFunc)] [(0,none,(.c (.p (.str ⟨#[99,104,111,111,115,101]⟩)))),(1,none,(.c (.p (.func 92 [] []))))]).bind fun x21=>(bd [(.p (.str ⟨#[]⟩)),(.p .nilFunc)] [(0,none,(.c (.p (.str ⟨#[110,101,118,101,114]⟩)))),(1,none,(.c (.p (.func 93 [] []))))]).bind fun x22=>(ms 22 [(.str ⟨#[]⟩),.nilFunc,(.str ⟨#[]⟩),.nilFunc,(.str ⟨#[]⟩),.nilFunc,(.str ⟨#[]⟩),.nilFunc,(.str ⟨#[]⟩),.nilFunc,(.str ⟨#[]⟩),.nilFunc,(.str ⟨#[]⟩),.nilFunc,(.str ⟨#[]⟩),.nilFunc,(.str ⟨#[]⟩),.nilFunc,(.str ⟨#[]⟩),.nilFunc,(.str ⟨#[]⟩),.nilFunc,(.str ⟨#[]⟩),.nilFunc,(.str ⟨#[]⟩),.nilFunc,(.str ⟨#[]⟩),.nilFunc,(.str ⟨#[]⟩),.nilFunc,(.str ⟨#[]⟩),.nilFunc,(.str ⟨#[]⟩),.nilFunc,(.str ⟨#[]⟩),.nilFunc,(.str ⟨#[]⟩),.nilFunc,(.str ⟨#[]⟩),.nilFunc,(.str ⟨#[]⟩),.nilFunc,(.str ⟨#[]⟩),.nilFunc] [(0,(some 2),(.c x1)),(2,(some 2),(.c x2)),(4,(some 2),(.c x3)),(6,(some 2),(.c x4)),(8,(some 2),(.c x5)),(10,(some 2),(.c x6)),(12,(some 2),(.c x7)),(14,(some 2),(.c x8)),(16,(some 2),(.c x9)),(18,(some 2),(.c x10)),(20,(some 2),(.c x11)),(22,(some 2),(.c x12)),(24,(some 2),(.c x13)),(26,(some 2),(.c x14)),(28,(some 2),(.c x15)),(30,(some 2),(.c x16)),(32,(some 2),(.c x17)),(34,(some 2),(.c x18)),(36,(some 2),(.c x19)),(38,(some 2),(.c x20)),(40,(some 2),(.c x21)),(42,(some 2),(.c x22))]).bind fun x23=>some (x23,s0)
def s54 (e:Env)(n:Nat)(x0 x1:zA)(s2:ASt):Res:=(zA.cells (some 7) x0).bind fun c3=>cnd (c3.all qaY) (qdX s2 (.cells c3) fun l4 s5=>(zA.cells none x1).bind fun c6=>cnd (c6.all qaY) (qdX s5 (.cells c6) fun l7 s8=>(mf 94 [] [.ptr l4 0,.ptr l7 0]).bind fun x9=>some (x9,s8)) none) none
def s56_0 (e:Env)(n:Nat):zA->ASt->Res:=fun x5 s6=>qae x5 (some (i64 4,s6)) (some (i64 0,s6))
def s56_1 (e:Env)(n:Nat)(c2:List zA):zA->ASt->Res:=fun x3 s4=>qae x3 (some (i64 5,s4)) (jn (s56_0 e n) fun j7=>(ldL c2 1 (some 2)).bind fun x8=>qac (cl e 103 [x8] s4) fun x9 s10=>(nt x9).bind fun x11=>qae x11 (j7 (bl true) s10) ((ldL c2 0 none).bind fun x12=>qac (cl e 102 [x12,(.p (.func 100 [] []))] s10) fun x13 s14=>j7 x13 s14))
def s56 (e:Env)(n:Nat)(x0:zA)(s1:ASt):Res:=(zA.cells (some 4) x0).bind fun c2=>jn (s56_1 e n c2) fun j15=>(ldL c2 0 none).bind fun x16=>(ln false x16).bind fun x17=>(bn .gtr x17 (i64 8)).bind fun x18=>qae x18 (j15 (bl true) s1) ((ldL c2 0 none).bind fun x19=>qac (cl e 102 [x19,(.p (.func 99 [] []))] s1) fun x20 s21=>j15 x20 s21)
def s57_0 (e:Env)(n:Nat):zA->Nat->List zA->List zA->ASt->Res:=fun x5 g6 c7 c8 s9=>some (x5,s9)
def s57_1 (e:Env)(n:Nat)(x4 x3:zA)(j10:zA->Nat->List zA->List zA->ASt->Res):zA->zA->Nat->List zA->List zA->ASt->Res:=lp (fun _ _ _ _ _ _=>none) (fun h17 x11 x12 g13 c14 c15 s16=>(bn .lss x12 x4).bind fun x18=>qae x18 (qac (iaV 5 x3 x12) fun q19 o20=>(ldH e s16 (.elem q19 o20) (some 5)).bind fun x21=>(zA.cells (some 5) x21).bind fun c22=>cnd (Nat.beq (g13+1) (g13+1)) ((over ZT5 0 c22).bind fun c23=>(bn .gtr x11 (i64 600)).bind fun x24=>qae x24 (j10 x11 (g13+1) c14 c23 s16) (cnd (Nat.beq (g13+1) (g13+1)) ((ldL c23 0 (some 5)).bind fun x25=>qac (cl e 57 [x25] s16) fun x26 s27=>(bn .add x11 x26).bind fun x28=>(bn .add x12 (i64 1)).bind fun x29=>h17 x28 x29 (g13+1) c14 c23 s27) none)) none) (j10 x11 g13 c14 c15 s16)) n
def s57 (e:Env)(n:Nat)(x0:zA)(s1:ASt):Res:=(zA.cells (some 5) x0).bind fun c2=>(ldL c2 4 none).bind fun x3=>(ln false x3).bind fun x4=>jn (s57_0 e n) fun j10=>s57_1 e n x4 x3 j10 (i64 1) (i64 0) 0 c2 [] s1
def s58 (e:Env)(n:Nat)(s0:ASt):Res:=qac (mkm e s0) fun x1 s2=>(bd [bl false,bl false,bl false,i64 0] [(0,none,(.c (bl true))),(1,none,(.c (bl true)))]).bind fun x3=>qac (ins e 1 x1 (u8 1) x3 s2) fun x4 s5=>(bd [bl false,bl false,bl false,i64 0] [(2,none,(.c (bl true))),(3,none,(.c (i64 (-1))))]).bind fun x6=>qac (ins e 1 x1 (u8 2) x6 s5) fun x7 s8=>(bd [bl false,bl false,bl false,i64 0] [(2,none,(.c (bl true)))]).bind fun x9=>qac (ins e 1 x1 (u8 3) x9 s8) fun x10 s11=>(bd [bl false,bl false,bl false,i64 0] [(2,none,(.c (bl true))),(3,none,(.c (i64 1)))]).bind fun x12=>qac (ins e 1 x1 (u8 4) x12 s11) fun x13 s14=>(bd [bl false,bl false,bl false,i64 0] [(0,none,(.c (bl true))),(1,none,(.c (bl true))),(3,none,(.c (i64 2)))]).bind fun x15=>qac (ins e 1 x1 (u8 5) x15 s14) fun x16 s17=>(bd [bl false,bl false,bl false,i64 0] [(0,none,(.c (bl true))),(3,none,(.c (i64 1)))]).bind fun x18=>qac (ins e 1 x1 (u8 6) x18 s17) fun x19 s20=>(bd [bl false,bl false,bl false,i64 0] [(3,none,(.c (i64 2)))]).bind fun x21=>qac (ins e 1 x1 (u8 7) x21 s20) fun x22 s23=>(bd [bl false,bl false,bl false,i64 0] [(3,none,(.c (i64 3)))]).bind fun x24=>qac (ins e 1 x1 (u8 8) x24 s23) fun x25 s26=>(bd [bl false,bl false,bl false,i64 0] [(3,none,(.c (i64 2)))]).bind fun x27=>qac (ins e 1 x1 (u8 9) x27 s26) fun x28 s29=>(bd [bl false,bl false,bl false,i64 0] [(0,none,(.c (bl true))),(1,none,(.c (bl true))),(3,none,(.c (i64 1)))]).bind fun x30=>qac (ins e 1 x1 (u8 10) x30 s29) fun x31 s32=>(bd [bl false,bl false,bl false,i64 0] [(3,none,(.c (i64 2)))]).bind fun x33=>qac (ins e 1 x1 (u8 11) x33 s32) fun x34 s35=>(bd [bl false,bl false,bl false,i64 0] [(0,none,(.c (bl true)))]).bind fun x36=>qac (ins e 1 x1 (u8 12) x36 s35) fun x37 s38=>(bd [bl false,bl false,bl false,i64 0] [(3,none,(.c (i64 2)))]).bind fun x39=>qac (ins e 1 x1 (u8 13) x39 s38) fun x40 s41=>(bd [bl false,bl false,bl false,i64 0] []).bind fun x42=>qac (ins e 1 x1 (u8 14) x42 s41) fun x43 s44=>(bd [bl false,bl false,bl false,i64 0] [(2,none,(.c (bl true)))]).bind fun x45=>qac (ins e 1 x1 (u8 15) x45 s44) fun x46 s47=>(bd [bl false,bl false,bl false,i64 0] [(2,none,(.c (bl true)))]).bind fun x48=>qac (ins e 1 x1 (u8 16) x48 s47) fun x49 s50=>(bd [bl false,bl false,bl false,i64 0] [(3,none,(.c (i64 2)))]).bind fun x51=>qac (ins e 1 x1 (u8 17) x51 s50) fun x52 s53=>(bd [bl false,bl false,bl false,i64 0] [(0,none,(.c (bl true))),(2,none,(.c (bl true))),(3,none,(.c (i64 1)))]).bind fun x54=>qac (ins e 1 x1 (u8 18) x54 s53) fun x55 s56=>some (x1,s56)
def s59_0 (e:Env)(n:Nat)(s24:ASt):zA->Res:=fun x27=>some (x27,s24)
def s59_1 (e:Env)(n:Nat):zA->ASt->Res:=fun x32 s33=>some (x32,s33)
def s59 (e:Env)(n:Nat)(x0 x1 x2:zA)(s3:ASt):Res:=(zA.cells (some 4) x0).bind fun c4=>(zA.cells (some 5) x1).bind fun c5=>(zA.cells (some 2) x2).bind fun c6=>(ldL c6 0 none).bind fun x7=>(nt x7).bind fun x8=>qae x8 ((ldL c4 0 (some 4)).bind fun x9=>(ldL c5 0 (some 5)).bind fun x10=>(ldL c6 1 none).bind fun x11=>qac (cl e 104 [x9,x10,x11] s3) fun x12 s13=>some (x12,s13)) ((ldL c4 0 (some 4)).bind fun x14=>(ldL c5 0 (some 5)).bind fun x15=>qac (cl e 105 [x14,x15] s3) fun x16 s17=>(nt x16).bind fun x18=>qae x18 (some (bl false,s17)) ((ldL c5 0 none).bind fun x19=>(bn .eql x19 (u8 16)).bind fun x20=>qae x20 ((ldL c4 0 (some 4)).bind fun x21=>(ldL c5 3 none).bind fun x22=>qac (cl e 106 [x21,x22] s17) fun x23 s24=>(ex x23 0).bind fun x25=>(ex x23 1).bind fun x26=>jn (s59_0 e n s24) fun j28=>qae x26 ((ldL c6 1 none).bind fun x29=>(bn .eql x25 x29).bind fun x30=>j28 x30) (j28 (bl false))) ((bn .eql x19 (u8 17)).bind fun x31=>qae x31 (jn (s59_1 e n) fun j34=>(ldL c4 0 (some 4)).bind fun x35=>(ldL c5 4 none).bind fun x36=>qac (iaV 5 x36 (i64 0)) fun q37 o38=>(ldH e s17 (.elem q37 o38) (some 5)).bind fun x39=>(ldL c6 1 none).bind fun x40=>qac (cl e 104 [x35,x39,x40] s17) fun x41 s42=>qae x41 ((ldL c4 0 (some 4)).bind fun x43=>(ldL c6 1 none).bind fun x44=>(bd [bl false,i64 0] [(1,none,(.c x44))]).bind fun x45=>(bd [(.sl 0 [] .full),bl false,i64 0] [(1,(some 2),(.c x45))]).bind fun x46=>(bd [(.sl 0 [] .full),bl false,i64 0,bl false] [(0,(some 3),(.c x46)),(3,none,(.c (bl true)))]).bind fun x47=>qac (cl e 107 [x43,x47] s42) fun x48 s49=>(ldL c5 4 none).bind fun x50=>qac (iaV 5 x50 (i64 1)) fun q51 o52=>(ldH e s49 (.elem q51 o52) (some 5)).bind fun x53=>qac (cl e 104 [x48,x53,i64 1] s49) fun x54 s55=>j34 x54 s55) (j34 (bl false) s42)) (some (bl false,s17)))))
def s60 (e:Env)(n:Nat)(x0:zA)(s1:ASt):Res:=(zA.cells (some 5) x0).bind fun c2=>(ldL c2 0 (some 5)).bind fun x3=>qac (cl e 108 [x3,i64 0,(.p (.func 109 [] []))] s1) fun x4 s5=>(zA.cells (some 5) x4).bind fun c6=>(over ZT5 0 c6).bind fun c7=>(ldL c7 0 (some 5)).bind fun x8=>some (x8,s5)
def s62_0 (e:Env)(n:Nat)(c2:List zA):zA->ASt->Res:=lp (fun _ _=>none) (fun h20 x18 s19=>(ldL c2 0 none).bind fun x21=>(ln false x21).bind fun x22=>(bn .lss x18 x22).bind fun x23=>qae x23 ((ldL c2 0 none).bind fun x24=>qac (iaV 3 x24 x18) fun q25 o26=>(ldH e s19 (.elem q25 o26) (some 3)).bind fun x27=>qac (cl e 111 [x27] s19) fun x28 s29=>(nt x28).bind fun x30=>qae x30 (some (i64 4,s29)) ((bn .add x18 (i64 1)).bind fun x31=>h20 x31 s29)) ((ldL c2 1 (some 2)).bind fun x32=>qac (cl e 112 [x32] s19) fun x33 s34=>(nt x33).bind fun x35=>qae x35 (some (i64 4,s34)) (some (i64 0,s34)))) n
def s62_1 (e:Env)(n:Nat)(c2:List zA)(s1:ASt):zA->Res:=lp (fun _=>none) (fun h7 x6=>(ldL c2 0 none).bind fun x8=>(ln false x8).bind fun x9=>(bn .lss x6 x9).bind fun x10=>qae x10 ((ldL c2 0 none).bind fun x11=>qac (iaV 3 x11 x6) fun q12 o13=>(ldH e s1 (.elem q12 o13) none).bind fun x14=>(ln false x14).bind fun x15=>(bn .gtr x15 (i64 5)).bind fun x16=>qae x16 (some (i64 5,s1)) ((bn .add x6 (i64 1)).bind fun x17=>h7 x17)) (s62_0 e n c2 (i64 0) s1)) n
def s62 (e:Env)(n:Nat)(x0:zA)(s1:ASt):Res:=(zA.cells (some 4) x0).bind fun c2=>(ldL c2 0 none).bind fun x3=>(ln false x3).bind fun x4=>(bn .gtr x4 (i64 8)).bind fun x5=>qae x5 (some (i64 5,s1)) (s62_1 e n c2 s1 (i64 0))
def s64_0 (e:Env)(n:Nat)(c4:List zA)(x8:zA)(s9:ASt)(x2 x1 x7:zA)(h10:zA->zA->ASt->Res):zA->Res:=fun x11=>qae x11 ((ldL c4 4 none).bind fun x12=>qac (iaV 5 x12 x8) fun q13 o14=>(ldH e s9 (.elem q13 o14) (some 5)).bind fun x15=>(bn .sub x2 (i64 1)).bind fun x16=>qac (cl e 64 [x15,x1,x16] s9) fun x17 s18=>(bn .add x7 x17).bind fun x19=>(bn .add x8 (i64 1)).bind fun x20=>h10 x19 x20 s18) (some (x7,s9))
def s64_1 (e:Env)(n:Nat)(c4:List zA)(x2 x1:zA):zA->zA->ASt->Res:=lp (fun _ _ _=>none) (fun h10 x7 x8 s9=>jn (s64_0 e n c4 x8 s9 x2 x1 x7 h10) fun j21=>(ldL c4 4 none).bind fun x22=>(ln false x22).bind fun x23=>(bn .lss x8 x23).bind fun x24=>qae x24 ((bn .leq x7 x1).bind fun x25=>j21 x25) (j21 (bl false))) n
def s64 (e:Env)(n:Nat)(x0 x1 x2:zA)(s3:ASt):Res:=(zA.cells (some 5) x0).bind fun c4=>(bn .eql x2 (i64 0)).bind fun x5=>qae x5 ((bn .add x1 (i64 1)).bind fun x6=>some (x6,s3)) (s64_1 e n c4 x2 x1 (i64 1) (i64 0) s3)
def s65_0 (e:Env)(n:Nat)(x12 x11:zA):zA->Nat->List zA->List zA->List zA->List zA->List zA->ASt->Res:=lp (fun _ _ _ _ _ _ _ _=>none) (fun h21 x13 g14 c15 c16 c17 c18 c19 s20=>(bn .lss x13 x12).bind fun x22=>qae x22 (qac (iaV 3 x11 x13) fun q23 o24=>(ldH e s20 (.elem q23 o24) (some 3)).bind fun x25=>(zA.cells (some 3) x25).bind fun c26=>cnd (Nat.beq (g14+1) (g14+1)) ((over [(.sl 0 [] .full),bl false,i64 0] 0 c26).bind fun c27=>(ldL c18 5 none).bind fun x28=>cnd (Nat.beq (g14+1) (g14+1)) ((ldL c27 2 none).bind fun x29=>(ms 1 [(.int .i64 0)] [(0,none,(.c x29))]).bind fun x30=>qac (ap e 1 8 x28 x30 s20) fun x31 s32=>(zA.cells none x31).bind fun c33=>(over c18 5 c33).bind fun c34=>(bn .add x13 (i64 1)).bind fun x35=>h21 x35 (g14+1) c15 c16 c17 c34 c27 s32) none) none) ((ldL c18 0 (some 7)).bind fun x36=>(zA.cells (some 7) x36).bind fun c37=>(over c17 0 c37).bind fun c38=>(ldL c38 0 (some 7)).bind fun x39=>some (x39,s20))) n
def s65 (e:Env)(n:Nat)(x0 x1:zA)(s2:ASt):Res:=(zA.cells (some 4) x0).bind fun c3=>(zA.cells (some 5) x1).bind fun c4=>(ldL c4 0 (some 5)).bind fun x5=>(ldL c3 0 none).bind fun x6=>(ln false x6).bind fun x7=>(bd [u8 0,i64 0,i64 0,i64 0,(.sl 0 [] .full),(.sl 0 [] .full),i64 0] [(0,(some 5),(.c x5)),(6,none,(.c x7))]).bind fun x8=>(zA.cells (some 7) x8).bind fun c9=>(over [u8 0,i64 0,i64 0,i64 0,(.sl 0 [] .full),(.sl 0 [] .full),i64 0] 0 c9).bind fun c10=>(ldL c3 0 none).bind fun x11=>(ln false x11).bind fun x12=>s65_0 e n x12 x11 (i64 0) 0 c3 c4 [u8 0,i64 0,i64 0,i64 0,(.sl 0 [] .full),(.sl 0 [] .full),i64 0] c10 [] s2
def s66 (e:Env)(n:Nat)(x0 x1 x2:zA)(s3:ASt):Res:=(zA.cells (some 5) x0).bind fun c4=>(zA.cells none x1).bind fun c5=>cnd (c5.all qaY) (qdX s3 (.cells c5) fun l6 s7=>(zA.cells (some 5) x2).bind fun c8=>cnd (c8.all qaY) (qdX s7 (.cells c8) fun l9 s10=>qdX s10 (.cells [i64 0]) fun l11 s12=>(zA.cells none (i64 0)).bind fun c13=>(stH s12 (.ptr l11 0) c13).bind fun s14=>(ldL c4 0 (some 5)).bind fun x15=>(mf 115 [] [.ptr l11 0,.ptr l6 0,.ptr l9 0]).bind fun x16=>qac (cl e 108 [x15,i64 0,x16] s14) fun x17 s18=>qac (cl e 60 [x17] s18) fun x19 s20=>(zA.cells (some 5) x19).bind fun c21=>(over ZT5 0 c21).bind fun c22=>(ldL c22 0 (some 5)).bind fun x23=>some (x23,s20)) none) none
def s67_0 (e:Env)(n:Nat)(x3 x0:zA)(s2:ASt)(x1:zA):zA->Res:=lp (fun _=>none) (fun h5 x4=>(bn .lss x4 x3).bind fun x6=>qae x6 (qac (iaV 1 x0 x4) fun q7 o8=>(ldH e s2 (.elem q7 o8) none).bind fun x9=>(bn .eql x1 x9).bind fun x10=>qae x10 (some (x4,s2)) ((bn .add x4 (i64 1)).bind fun x11=>h5 x11)) (some ((i64 (-1)),s2))) n
def s67 (e:Env)(n:Nat)(x0 x1:zA)(s2:ASt):Res:=(ln false x0).bind fun x3=>s67_0 e n x3 x0 s2 x1 (i64 0)
def s68_0 (e:Env)(n:Nat):zA->ASt->Res:=fun x9 s10=>some (x9,s10)
def s68_1 (e:Env)(n:Nat):zA->ASt->Res:=fun x27 s28=>some (x27,s28)
def s68_2 (e:Env)(n:Nat):zA->ASt->Res:=fun x38 s39=>some (x38,s39)
def s68_3 (e:Env)(n:Nat)(c5:List zA)(s23:ASt)(x2 x3:zA)(c6:List zA):zA->Res:=fun x37=>qae x37 (jn (s68_2 e n) fun j40=>(ldL c5 4 none).bind fun x41=>qac (iaV 5 x41 (i64 0)) fun q42 o43=>(ldH e s23 (.elem q42 o43) (some 5)).bind fun x44=>qac (cl e 116 [x44,x2,x3] s23) fun x45 s46=>(ldL c6 1 none).bind fun x47=>(bn .eql x45 x47).bind fun x48=>qae x48 ((ldL c5 4 none).bind fun x49=>qac (iaV 5 x49 (i64 1)) fun q50 o51=>(ldH e s46 (.elem q50 o51) (some 5)).bind fun x52=>(ldL c6 1 none).bind fun x53=>qac (cl e 120 [x53] s46) fun x54 s55=>qac (cl e 119 [x2,x54] s55) fun x56 s57=>qac (cl e 116 [x52,x56,x3] s57) fun x58 s59=>(bn .eql x58 (i64 1)).bind fun x60=>j40 x60 s59) (j40 (bl false) s46)) (some (bl false,s23))
def s68 (e:Env)(n:Nat)(x0 x1 x2 x3:zA)(s4:ASt):Res:=(zA.cells (some 5) x0).bind fun c5=>(zA.cells (some 2) x1).bind fun c6=>(ldL c6 0 none).bind fun x7=>(nt x7).bind fun x8=>qae x8 (jn (s68_0 e n) fun j11=>(ldL c5 0 none).bind fun x12=>(bn .neq x12 (u8 16)).bind fun x13=>qae x13 ((ldL c5 0 none).bind fun x14=>(bn .neq x14 (u8 17)).bind fun x15=>qae x15 ((ldL c5 0 (some 5)).bind fun x16=>qac (cl e 116 [x16,x2,x3] s4) fun x17 s18=>(ldL c6 1 none).bind fun x19=>(bn .eql x17 x19).bind fun x20=>j11 x20 s18) (j11 (bl false) s4)) (j11 (bl false) s4)) ((ldL c5 0 (some 5)).bind fun x21=>qac (cl e 117 [x21] s4) fun x22 s23=>(nt x22).bind fun x24=>qae x24 (some (bl false,s23)) ((ldL c5 0 none).bind fun x25=>(bn .eql x25 (u8 16)).bind fun x26=>qae x26 (jn (s68_1 e n) fun j29=>(ldL c5 4 none).bind fun x30=>(ln false x30).bind fun x31=>(bn .eql x31 (i64 0)).bind fun x32=>qae x32 ((ldL c5 3 none).bind fun x33=>(ldL c6 1 none).bind fun x34=>qac (cl e 118 [x2,x33,x34] s23) fun x35 s36=>j29 x35 s36) (j29 (bl false) s23)) (jn (s68_3 e n c5 s23 x2 x3 c6) fun j61=>(ldL c5 0 none).bind fun x62=>(bn .eql x62 (u8 17)).bind fun x63=>qae x63 ((ldL c5 4 none).bind fun x64=>(ln false x64).bind fun x65=>(bn .eql x65 (i64 2)).bind fun x66=>j61 x66) (j61 (bl false)))))
def s69_0 (e:Env)(n:Nat)(c2:List zA):zA->zA->ASt->Res:=lp (fun _ _ _=>none) (fun h6 x3 x4 s5=>(ldL c2 0 none).bind fun x7=>(ln false x7).bind fun x8=>(bn .lss x4 x8).bind fun x9=>qae x9 ((ldL c2 0 none).bind fun x10=>qac (iaV 3 x10 x4) fun q11 o12=>(ldH e s5 (.elem q11 o12) (some 3)).bind fun x13=>(bd [(.sl 0 [] .full),bl false,i64 0,bl false,bl false] [(0,(some 3),(.c x13))]).bind fun x14=>(ms 1 [(.sl 0 []),(.bool false),(.int .i64 0),(.bool false),(.bool false)] [(0,(some 5),(.c x14))]).bind fun x15=>qac (ap e 5 48 x3 x15 s5) fun x16 s17=>(bn .add x4 (i64 1)).bind fun x18=>h6 x16 x18 s17) (some (x3,s5))) n
def s69 (e:Env)(n:Nat)(x0:zA)(s1:ASt):Res:=(zA.cells (some 4) x0).bind fun c2=>s69_0 e n c2 (.sl 0 [] .full) (i64 0) s1
def s70_0 (e:Env)(n:Nat)(x17:zA)(h26:zA->Nat->List zA->List zA->List zA->List zA->List zA->List zA->ASt->Res):Nat->List zA->List zA->List zA->List zA->List zA->List zA->ASt->Res:=fun g28 c29 c30 c31 c32 c33 c34 s35=>(bn .add x17 (u8 1)).bind fun x36=>h26 x36 g28 c29 c30 c31 c32 c33 c34 s35
def s70_1 (e:Env)(n:Nat)(x76:zA)(g77:Nat)(x0:zA)(h85:zA->Nat->List zA->List zA->List zA->List zA->List zA->List zA->ASt->Res):List zA->List zA->List zA->List zA->List zA->List zA->ASt->Res:=fun c94 c95 c96 c97 c98 c99 s100=>(ldL c98 4 none).bind fun x101=>(ldL c94 4 none).bind fun x102=>qac (iaV 5 x102 x76) fun q103 o104=>(ldH e s100 (.elem q103 o104) (some 5)).bind fun x105=>cnd (Nat.beq (g77+1) (g77+1)) ((ldL c99 0 (some 2)).bind fun x106=>qac (cl e 70 [x0,x105,x106] s100) fun x107 s108=>(ms 1 [(.int .u8 0),(.int .i64 0),(.int .i64 0),(.int .i64 0),(.sl 0 [])] [(0,(some 5),(.c x107))]).bind fun x109=>qac (ap e 5 56 x101 x109 s108) fun x110 s111=>(zA.cells none x110).bind fun c112=>(over c98 4 c112).bind fun c113=>(bn .add x76 (i64 1)).bind fun x114=>h85 x114 (g77+1) c94 c95 c96 c97 c113 c99 s111) none
def s70_2 (e:Env)(n:Nat)(j115:List zA->List zA->List zA->List zA->List zA->List zA->ASt->Res):List zA->List zA->List zA->List zA->List zA->List zA->ASt->Res:=fun c125 c126 c127 c128 c129 c130 s131=>j115 c125 c126 c127 c128 c129 c130 s131
def s70_3 (e:Env)(n:Nat)(j115:List zA->List zA->List zA->List zA->List zA->List zA->ASt->Res)(c79 c78:List zA)(s84:ASt)(g77:Nat)(c91 c80 c81 c82:List zA):zA->Res:=fun x124=>jn (s70_2 e n j115) fun j132=>qae x124 ((ldL c79 0 none).bind fun x133=>(ldL c79 0 (some 2)).bind fun x134=>(ldL c78 4 none).bind fun x135=>qac (iaV 5 x135 (i64 0)) fun q136 o137=>(ldH e s84 (.elem q136 o137) (some 5)).bind fun x138=>qac (cl e 123 [x134,x138] s84) fun x139 s140=>qac (cl e 120 [x139] s140) fun x141 s142=>qac (cl e 119 [x133,x141] s142) fun x143 s144=>(zA.cells none x143).bind fun c145=>cnd (Nat.beq (g77+1) (g77+1)) ((over c91 0 c145).bind fun c146=>j132 c78 c79 c80 c81 c82 c146 s144) none) (j132 c78 c79 c80 c81 c82 c91 s84)
def s70_4 (e:Env)(n:Nat)(x0:zA):zA->Nat->List zA->List zA->List zA->List zA->List zA->List zA->ASt->Res:=lp (fun _ _ _ _ _ _ _ _ _=>none) (fun h85 x76 g77 c78 c79 c80 c81 c82 c83 s84=>(ldL c78 4 none).bind fun x86=>(ln false x86).bind fun x87=>(bn .lss x76 x87).bind fun x88=>qae x88 ((ldL c79 0 (some 2)).bind fun x89=>(zA.cells (some 2) x89).bind fun c90=>cnd (Nat.beq (g77+1) (g77+1)) ((over [(.sl 0 [] .full),i64 0] 0 c90).bind fun c91=>(ldL c78 0 none).bind fun x92=>(bn .eql x92 (u8 10)).bind fun x93=>jn (s70_1 e n x76 g77 x0 h85) fun j115=>qae x93 ((ldL c79 0 none).bind fun x116=>(ldL c78 1 none).bind fun x117=>qac (cl e 122 [x117] s84) fun x118 s119=>qac (cl e 119 [x116,x118] s119) fun x120 s121=>(zA.cells none x120).bind fun c122=>cnd (Nat.beq (g77+1) (g77+1)) ((over c91 0 c122).bind fun c123=>j115 c78 c79 c80 c81 c82 c123 s121) none) (jn (s70_3 e n j115 c79 c78 s84 g77 c91 c80 c81 c82) fun j147=>(ldL c78 0 none).bind fun x148=>(bn .eql x148 (u8 17)).bind fun x149=>qae x149 ((bn .eql x76 (i64 1)).bind fun x150=>j147 x150) (j147 (bl false)))) none) ((ldL c82 0 (some 5)).bind fun x151=>(zA.cells (some 5) x151).bind fun c152=>(over c80 0 c152).bind fun c153=>(ldL c153 0 (some 5)).bind fun x154=>some (x154,s84))) n
def s70_5 (e:Env)(n:Nat)(x0 x8:zA):zA->Nat->List zA->List zA->List zA->List zA->List zA->List zA->ASt->Res:=lp (fun _ _ _ _ _ _ _ _ _=>none) (fun h26 x17 g18 c19 c20 c21 c22 c23 c24 s25=>(bn .leq x17 (u8 22)).bind fun x27=>qae x27 (jn (s70_0 e n x17 h26) fun j37=>(ldL c20 0 (some 2)).bind fun x38=>(ldL c19 0 (some 5)).bind fun x39=>qac (cl e 121 [x38,x17,x39] s25) fun x40 s41=>(ex x40 0).bind fun x42=>(ex x40 1).bind fun x43=>(zA.cells (some 5) x42).bind fun c44=>cnd (Nat.beq (g18+1) (g18+1)) ((over ZT5 0 c44).bind fun c45=>(nt x43).bind fun x46=>qae x46 (j37 (g18+1) c19 c20 c21 c45 c23 c24 s41) (qll x0 fun x47=>faK 4 x47 fun x48=>(ldH e s41 x48 none).bind fun x49=>(bd [u8 0,i64 0] [(0,none,(.c x17)),(1,none,(.c x8))]).bind fun x50=>(ms 1 [(.int .u8 0),(.int .i64 0)] [(0,(some 2),(.c x50))]).bind fun x51=>qac (ap e 2 16 x49 x51 s41) fun x52 s53=>qll x0 fun x54=>faK 4 x54 fun x55=>(zA.cells none x52).bind fun c56=>(stH s53 x55 c56).bind fun s57=>qll x0 fun x58=>faK 1 x58 fun x59=>(ldH e s57 x59 (some 2)).bind fun x60=>(bd [u8 0,i64 0] [(0,none,(.c x17)),(1,none,(.c x8))]).bind fun x61=>(eqs [1,1] false x60 x61).bind fun x62=>qae x62 (qll x0 fun x63=>faK 3 x63 fun x64=>(zA.cells none (bl true)).bind fun c65=>(stH s57 x64 c65).bind fun s66=>cnd (Nat.beq (g18+1) (g18+1)) ((ldL c45 0 (some 5)).bind fun x67=>(zA.cells (some 5) x67).bind fun c68=>(over c21 0 c68).bind fun c69=>(ldL c69 0 (some 5)).bind fun x70=>some (x70,s66)) none) (j37 (g18+1) c19 c20 c21 c45 c23 c24 s57))) none) ((ldL c19 0 (some 5)).bind fun x71=>(zA.cells (some 5) x71).bind fun c72=>(over ZT5 0 c72).bind fun c73=>(zA.cells none (.sl 0 [] .full)).bind fun c74=>(over c73 4 c74).bind fun c75=>s70_4 e n x0 (i64 0) 0 c19 c20 c21 c22 c75 c24 s25)) n
def s70 (e:Env)(n:Nat)(x0 x1 x2:zA)(s3:ASt):Res:=(zA.cells (some 5) x1).bind fun c4=>(zA.cells (some 2) x2).bind fun c5=>qll x0 fun x6=>faK 0 x6 fun x7=>(ldH e s3 x7 none).bind fun x8=>qll x0 fun x9=>faK 0 x9 fun x10=>(ldH e s3 x10 none).bind fun x11=>(bn .add x11 (i64 1)).bind fun x12=>qll x0 fun x13=>faK 0 x13 fun x14=>(zA.cells none x12).bind fun c15=>(stH s3 x14 c15).bind fun s16=>s70_5 e n x0 x8 (u8 1) 0 c4 c5 ZT5 [] [] [] s16
def s71 (e:Env)(n:Nat)(x0:zA)(s1:ASt):Res:=(zA.cells (some 4) x0).bind fun c2=>(ldL c2 0 (some 4)).bind fun x3=>qac (cl e 69 [x3] s1) fun x4 s5=>(ldL c2 0 none).bind fun x6=>(ln false x6).bind fun x7=>(bd [(.sl 0 [] .full),i64 0] [(0,none,(.c x4)),(1,none,(.c x7))]).bind fun x8=>(zA.cells (some 2) x8).bind fun c9=>(over [(.sl 0 [] .full),i64 0] 0 c9).bind fun c10=>(ldL c10 0 (some 2)).bind fun x11=>some (x11,s5)
def s72_0 (e:Env)(n l3:Nat):zA->ASt->Res:=fun x5 s6=>(mf 127 [] [.ptr l3 0]).bind fun x7=>qac (cl e 126 [x5,x7] s6) fun x8 s9=>(ex x8 0).bind fun x10=>(ex x8 1).bind fun x11=>(zA.cells (some 5) x10).bind fun c12=>(over ZT5 0 c12).bind fun c13=>(ldL c13 0 (some 5)).bind fun x14=>some (.tuple [x14,x11],s9)
def s72 (e:Env)(n:Nat)(x0:zA)(s1:ASt):Res:=(zA.cells (some 7) x0).bind fun c2=>cnd (c2.all qaY) (qdX s1 (.cells c2) fun l3 s4=>jn (s72_0 e n l3) fun j15=>(ldH e s4 (.ptr l3 0) (some 7)).bind fun x16=>qac (cl e 124 [x16,u8 5] s4) fun x17 s18=>qae x17 ((ldH e s18 (.ptr l3 4) none).bind fun x19=>qac (iaV 5 x19 (i64 0)) fun q20 o21=>(ldH e s18 (.elem q20 o21) (some 5)).bind fun x22=>qac (cl e 125 [x22] s18) fun x23 s24=>qae x23 ((ldH e s24 (.ptr l3 4) none).bind fun x25=>qac (iaV 5 x25 (i64 1)) fun q26 o27=>(ldH e s24 (.elem q26 o27) (some 5)).bind fun x28=>qac (cl e 125 [x28] s24) fun x29 s30=>j15 x29 s30) (j15 (bl false) s24)) (j15 (bl false) s18)) none
def s73_0 (e:Env)(n l3:Nat):zA->ASt->Res:=fun x5 s6=>(mf 131 [] [.ptr l3 0]).bind fun x7=>qac (cl e 126 [x5,x7] s6) fun x8 s9=>(ex x8 0).bind fun x10=>(ex x8 1).bind fun x11=>(zA.cells (some 5) x10).bind fun c12=>(over ZT5 0 c12).bind fun c13=>(ldL c13 0 (some 5)).bind fun x14=>some (.tuple [x14,x11],s9)
def s73 (e:Env)(n:Nat)(x0:zA)(s1:ASt):Res:=(zA.cells (some 7) x0).bind fun c2=>cnd (c2.all qaY) (qdX s1 (.cells c2) fun l3 s4=>jn (s73_0 e n l3) fun j15=>(ldH e s4 (.ptr l3 0) (some 7)).bind fun x16=>qac (cl e 124 [x16,u8 6] s4) fun x17 s18=>qae x17 ((ldH e s18 (.ptr l3 4) none).bind fun x19=>qac (iaV 5 x19 (i64 0)) fun q20 o21=>(ldH e s18 (.elem q20 o21) (some 5)).bind fun x22=>qac (cl e 125 [x22] s18) fun x23 s24=>j15 x23 s24) (j15 (bl false) s18)) none
def s74_0 (e:Env)(n:Nat)(c2:List zA):zA->ASt->Res:=fun x3 s4=>(ldL c2 0 (some 7)).bind fun x5=>(mf 133 [x5] []).bind fun x6=>qac (cl e 126 [x3,x6] s4) fun x7 s8=>(ex x7 0).bind fun x9=>(ex x7 1).bind fun x10=>(zA.cells (some 5) x9).bind fun c11=>(over ZT5 0 c11).bind fun c12=>(ldL c12 0 (some 5)).bind fun x13=>some (.tuple [x13,x10],s8)
def s74 (e:Env)(n:Nat)(x0:zA)(s1:ASt):Res:=(zA.cells (some 7) x0).bind fun c2=>jn (s74_0 e n c2) fun j14=>(ldL c2 0 (some 7)).bind fun x15=>qac (cl e 124 [x15,u8 6] s1) fun x16 s17=>qae x16 ((ldL c2 4 none).bind fun x18=>qac (iaV 5 x18 (i64 0)) fun q19 o20=>(ldH e s17 (.elem q19 o20) (some 5)).bind fun x21=>qac (cl e 125 [x21] s17) fun x22 s23=>(nt x22).bind fun x24=>qae x24 ((ldL c2 0 (some 7)).bind fun x25=>qac (cl e 132 [x25,i64 0] s23) fun x26 s27=>qac (cl e 130 [x26] s27) fun x28 s29=>(ldL c2 1 none).bind fun x30=>(bn .eql x28 x30).bind fun x31=>j14 x31 s29) (j14 (bl false) s23)) (j14 (bl false) s17)
def s75_0 (e:Env)(n:Nat)(c2:List zA):zA->ASt->Res:=fun x16 s17=>(ldL c2 0 (some 7)).bind fun x18=>(mf 133 [x18] []).bind fun x19=>qac (cl e 126 [x16,x19] s17) fun x20 s21=>(ex x20 0).bind fun x22=>(ex x20 1).bind fun x23=>(zA.cells (some 5) x22).bind fun c24=>(over ZT5 0 c24).bind fun c25=>(ldL c25 0 (some 5)).bind fun x26=>some (.tuple [x26,x23],s21)
def s75 (e:Env)(n:Nat)(x0:zA)(s1:ASt):Res:=(zA.cells (some 7) x0).bind fun c2=>qac (mkm e s1) fun x3 s4=>qac (ins e 1 x3 (i64 1) (i64 0) s4) fun x5 s6=>qac (ins e 1 x3 (i64 2) (i64 0) s6) fun x7 s8=>qac (ins e 1 x3 (i64 3) (i64 1) s8) fun x9 s10=>(ldL c2 1 none).bind fun x11=>qac (lk e 1 (i64 0) true x3 x11 s10) fun x12 s13=>(ex x12 0).bind fun x14=>(ex x12 1).bind fun x15=>jn (s75_0 e n c2) fun j27=>(ldL c2 0 (some 7)).bind fun x28=>qac (cl e 124 [x28,u8 5] s13) fun x29 s30=>qae x29 (qae x15 ((ldL c2 4 none).bind fun x31=>qac (iaV 5 x31 (i64 0)) fun q32 o33=>(ldH e s30 (.elem q32 o33) (some 5)).bind fun x34=>qac (cl e 125 [x34] s30) fun x35 s36=>(nt x35).bind fun x37=>qae x37 ((ldL c2 4 none).bind fun x38=>qac (iaV 5 x38 (i64 1)) fun q39 o40=>(ldH e s36 (.elem q39 o40) (some 5)).bind fun x41=>qac (cl e 125 [x41] s36) fun x42 s43=>qae x42 ((ldL c2 4 none).bind fun x44=>qac (iaV 5 x44 (i64 1)) fun q45 o46=>(ldH e s43 (.elem q45 (o46+1)) none).bind fun x47=>(bn .eql x47 x14).bind fun x48=>j27 x48 s43) (j27 (bl false) s43)) (j27 (bl false) s36)) (j27 (bl false) s30)) (j27 (bl false) s30)
def s76_0 (e:Env)(n l3:Nat):zA->ASt->Res:=fun x5 s6=>(mf 135 [] [.ptr l3 0]).bind fun x7=>qac (cl e 126 [x5,x7] s6) fun x8 s9=>(ex x8 0).bind fun x10=>(ex x8 1).bind fun x11=>(zA.cells (some 5) x10).bind fun c12=>(over ZT5 0 c12).bind fun c13=>(ldL c13 0 (some 5)).bind fun x14=>some (.tuple [x14,x11],s9)
def s76 (e:Env)(n:Nat)(x0:zA)(s1:ASt):Res:=(zA.cells (some 7) x0).bind fun c2=>cnd (c2.all qaY) (qdX s1 (.cells c2) fun l3 s4=>jn (s76_0 e n l3) fun j15=>(ldH e s4 (.ptr l3 0) (some 7)).bind fun x16=>qac (cl e 124 [x16,u8 5] s4) fun x17 s18=>qae x17 ((ms 3 [(.int .i64 0),(.int .i64 0),(.int .i64 0)] [(0,none,(.c (i64 1))),(1,none,(.c (i64 3))),(2,none,(.c (i64 4)))]).bind fun x19=>(ldH e s18 (.ptr l3 1) none).bind fun x20=>qac (cl e 134 [x19,x20] s18) fun x21 s22=>qae x21 ((ldH e s22 (.ptr l3 4) none).bind fun x23=>qac (iaV 5 x23 (i64 0)) fun q24 o25=>(ldH e s22 (.elem q24 o25) (some 5)).bind fun x26=>qac (cl e 125 [x26] s22) fun x27 s28=>qae x27 ((ldH e s28 (.ptr l3 4) none).bind fun x29=>qac (iaV 5 x29 (i64 1)) fun q30 o31=>(ldH e s28 (.elem q30 o31) (some 5)).bind fun x32=>qac (cl e 125 [x32] s28) fun x33 s34=>(nt x33).bind fun x35=>j15 x35 s34) (j15 (bl false) s28)) (j15 (bl false) s22)) (j15 (bl false) s18)) none
def s77_0 (e:Env)(n l3:Nat):zA->ASt->Res:=fun x5 s6=>(mf 137 [] [.ptr l3 0]).bind fun x7=>qac (cl e 126 [x5,x7] s6) fun x8 s9=>(ex x8 0).bind fun x10=>(ex x8 1).bind fun x11=>(zA.cells (some 5) x10).bind fun c12=>(over ZT5 0 c12).bind fun c13=>(ldL c13 0 (some 5)).bind fun x14=>some (.tuple [x14,x11],s9)
def s77 (e:Env)(n:Nat)(x0:zA)(s1:ASt):Res:=(zA.cells (some 7) x0).bind fun c2=>cnd (c2.all qaY) (qdX s1 (.cells c2) fun l3 s4=>jn (s77_0 e n l3) fun j15=>(ldH e s4 (.ptr l3 0) (some 7)).bind fun x16=>qac (cl e 124 [x16,u8 8] s4) fun x17 s18=>qae x17 ((ldH e s18 (.ptr l3 4) none).bind fun x19=>qac (iaV 5 x19 (i64 0)) fun q20 o21=>(ldH e s18 (.elem q20 o21) (some 5)).bind fun x22=>qac (cl e 125 [x22] s18) fun x23 s24=>j15 x23 s24) (j15 (bl false) s18)) none
def s78_0 (e:Env)(n l3:Nat):zA->ASt->Res:=fun x5 s6=>(mf 140 [] [.ptr l3 0]).bind fun x7=>qac (cl e 126 [x5,x7] s6) fun x8 s9=>(ex x8 0).bind fun x10=>(ex x8 1).bind fun x11=>(zA.cells (some 5) x10).bind fun c12=>(over ZT5 0 c12).bind fun c13=>(ldL c13 0 (some 5)).bind fun x14=>some (.tuple [x14,x11],s9)
def s78 (e:Env)(n:Nat)(x0:zA)(s1:ASt):Res:=(zA.cells (some 7) x0).bind fun c2=>cnd (c2.all qaY) (qdX s1 (.cells c2) fun l3 s4=>jn (s78_0 e n l3) fun j15=>(ldH e s4 (.ptr l3 0) (some 7)).bind fun x16=>qac (cl e 124 [x16,u8 8] s4) fun x17 s18=>qae x17 ((ldH e s18 (.ptr l3 4) none).bind fun x19=>qac (iaV 5 x19 (i64 0)) fun q20 o21=>(ldH e s18 (.elem q20 o21) (some 5)).bind fun x22=>qac (cl e 125 [x22] s18) fun x23 s24=>(nt x23).bind fun x25=>qae x25 ((ldH e s24 (.ptr l3 4) none).bind fun x26=>qac (iaV 5 x26 (i64 1)) fun q27 o28=>(ldH e s24 (.elem q27 o28) (some 5)).bind fun x29=>(ldH e s24 (.ptr l3 4) none).bind fun x30=>qac (iaV 5 x30 (i64 2)) fun q31 o32=>(ldH e s24 (.elem q31 o32) (some 5)).bind fun x33=>qac (cl e 139 [x29,x33] s24) fun x34 s35=>j15 x34 s35) (j15 (bl false) s24)) (j15 (bl false) s18)) none
def s79_0 (e:Env)(n l18 l3:Nat):zA->ASt->Res:=fun x22 s23=>(mf 144 [] [.ptr l18 0,.ptr l3 0]).bind fun x24=>qac (cl e 126 [x22,x24] s23) fun x25 s26=>(ex x25 0).bind fun x27=>(ex x25 1).bind fun x28=>(zA.cells (some 5) x27).bind fun c29=>(over ZT5 0 c29).bind fun c30=>(ldL c30 0 (some 5)).bind fun x31=>some (.tuple [x31,x28],s26)
def s79_1 (e:Env)(n l3:Nat):zA->ASt->Res:=fun x5 s6=>qae x5 (qac (cl e 98 [] s6) fun x7 s8=>(ex x7 0).bind fun x9=>(ex x7 1).bind fun x10=>(zA.cells (some 5) x9).bind fun c11=>(over ZT5 0 c11).bind fun c12=>(ldL c12 0 (some 5)).bind fun x13=>some (.tuple [x13,x10],s8)) ((ldH e s6 (.ptr l3 4) none).bind fun x14=>qac (iaV 5 x14 (i64 0)) fun q15 o16=>(ldH e s6 (.elem q15 (o16+4)) none).bind fun x17=>qdX s6 (.cells [(.sl 0 [] .full)]) fun l18 s19=>(zA.cells none x17).bind fun c20=>(stH s19 (.ptr l18 0) c20).bind fun s21=>jn (s79_0 e n l18 l3) fun j32=>(ldH e s21 (.ptr l18 0) none).bind fun x33=>qac (iaV 5 x33 (i64 1)) fun q34 o35=>(ldH e s21 (.elem q34 o35) (some 5)).bind fun x36=>qac (cl e 143 [x36,i64 0,i64 2] s21) fun x37 s38=>qae x37 ((ldH e s38 (.ptr l18 0) none).bind fun x39=>qac (iaV 5 x39 (i64 2)) fun q40 o41=>(ldH e s38 (.elem q40 o41) (some 5)).bind fun x42=>qac (cl e 143 [x42,i64 1,i64 2] s38) fun x43 s44=>j32 x43 s44) (j32 (bl false) s38))
def s79 (e:Env)(n:Nat)(x0:zA)(s1:ASt):Res:=(zA.cells (some 7) x0).bind fun c2=>cnd (c2.all qaY) (qdX s1 (.cells c2) fun l3 s4=>jn (s79_1 e n l3) fun j45=>(ldH e s4 (.ptr l3 0) (some 7)).bind fun x46=>qac (cl e 124 [x46,u8 8] s4) fun x47 s48=>(nt x47).bind fun x49=>qae x49 (j45 (bl true) s48) ((ldH e s48 (.ptr l3 4) none).bind fun x50=>qac (iaV 5 x50 (i64 0)) fun q51 o52=>(ldH e s48 (.elem q51 o52) none).bind fun x53=>(bn .neq x53 (u8 8)).bind fun x54=>j45 x54 s48)) none
def s80_0 (e:Env)(n:Nat)(c2:List zA):zA->ASt->Res:=fun x3 s4=>(ldL c2 0 (some 7)).bind fun x5=>(mf 133 [x5] []).bind fun x6=>qac (cl e 126 [x3,x6] s4) fun x7 s8=>(ex x7 0).bind fun x9=>(ex x7 1).bind fun x10=>(zA.cells (some 5) x9).bind fun c11=>(over ZT5 0 c11).bind fun c12=>(ldL c12 0 (some 5)).bind fun x13=>some (.tuple [x13,x10],s8)
def s80 (e:Env)(n:Nat)(x0:zA)(s1:ASt):Res:=(zA.cells (some 7) x0).bind fun c2=>jn (s80_0 e n c2) fun j14=>(ldL c2 0 (some 7)).bind fun x15=>qac (cl e 124 [x15,u8 8] s1) fun x16 s17=>qae x16 ((ldL c2 4 none).bind fun x18=>qac (iaV 5 x18 (i64 1)) fun q19 o20=>(ldH e s17 (.elem q19 o20) (some 5)).bind fun x21=>qac (cl e 143 [x21,i64 1,i64 2] s17) fun x22 s23=>qae x22 ((ldL c2 4 none).bind fun x24=>qac (iaV 5 x24 (i64 2)) fun q25 o26=>(ldH e s23 (.elem q25 o26) (some 5)).bind fun x27=>qac (cl e 143 [x27,i64 0,i64 2] s23) fun x28 s29=>qae x28 ((ldL c2 4 none).bind fun x30=>qac (iaV 5 x30 (i64 0)) fun q31 o32=>(ldH e s29 (.elem q31 o32) (some 5)).bind fun x33=>qac (cl e 125 [x33] s29) fun x34 s35=>(nt x34).bind fun x36=>qae x36 ((ldL c2 0 (some 7)).bind fun x37=>qac (cl e 132 [x37,i64 0] s35) fun x38 s39=>qac (cl e 130 [x38] s39) fun x40 s41=>(bn .eql x40 (i64 2)).bind fun x42=>j14 x42 s41) (j14 (bl false) s35)) (j14 (bl false) s29)) (j14 (bl false) s23)) (j14 (bl false) s17)
def s81_0 (e:Env)(n:Nat):zA->List zA->List zA->ASt->Res:=fun x3 c4 c5 s6=>(ldL c5 0 (some 5)).bind fun x7=>some (.tuple [x7,x3],s6)
def s81 (e:Env)(n:Nat)(x0:zA)(s1:ASt):Res:=(zA.cells (some 7) x0).bind fun c2=>jn (s81_0 e n) fun j8=>(ldL c2 0 (some 7)).bind fun x9=>qac (cl e 124 [x9,u8 7] s1) fun x10 s11=>qae x10 ((ldL c2 4 none).bind fun x12=>qac (iaV 5 x12 (i64 0)) fun q13 o14=>(ldH e s11 (.elem q13 o14) (some 5)).bind fun x15=>qac (cl e 125 [x15] s11) fun x16 s17=>(ldL c2 0 (some 7)).bind fun x18=>(mf 145 [x18] []).bind fun x19=>qac (cl e 126 [x16,x19] s17) fun x20 s21=>(ex x20 0).bind fun x22=>(ex x20 1).bind fun x23=>(zA.cells (some 5) x22).bind fun c24=>(over ZT5 0 c24).bind fun c25=>j8 x23 c2 c25 s21) ((ldL c2 0 (some 7)).bind fun x26=>(mf 145 [x26] []).bind fun x27=>qac (cl e 126 [bl false,x27] s11) fun x28 s29=>(ex x28 0).bind fun x30=>(ex x28 1).bind fun x31=>(zA.cells (some 5) x30).bind fun c32=>(over ZT5 0 c32).bind fun c33=>j8 x31 c2 c33 s29)
def s82_0 (e:Env)(n:Nat)(c2:List zA):zA->ASt->Res:=fun x3 s4=>qae x3 (qac (cl e 98 [] s4) fun x5 s6=>(ex x5 0).bind fun x7=>(ex x5 1).bind fun x8=>(zA.cells (some 5) x7).bind fun c9=>(over ZT5 0 c9).bind fun c10=>(ldL c10 0 (some 5)).bind fun x11=>some (.tuple [x11,x8],s6)) ((ldL c2 4 none).bind fun x12=>qac (iaV 5 x12 (i64 0)) fun q13 o14=>(ldH e s4 (.elem q13 (o14+4)) none).bind fun x15=>qac (iaV 5 x15 (i64 0)) fun q16 o17=>(ldH e s4 (.elem q16 o17) (some 5)).bind fun x18=>qac (iaV 5 x15 (i64 1)) fun q19 o20=>(ldH e s4 (.elem q19 o20) (some 5)).bind fun x21=>(ldL c2 4 none).bind fun x22=>qac (iaV 5 x22 (i64 1)) fun q23 o24=>(ldH e s4 (.elem q23 o24) (some 5)).bind fun x25=>qac (cl e 141 [x21,x25] s4) fun x26 s27=>qac (cl e 141 [x18,x26] s27) fun x28 s29=>(zA.cells (some 5) x28).bind fun c30=>(over ZT5 0 c30).bind fun c31=>(ldL c31 0 (some 5)).bind fun x32=>some (.tuple [x32,bl true],s29))
def s82 (e:Env)(n:Nat)(x0:zA)(s1:ASt):Res:=(zA.cells (some 7) x0).bind fun c2=>jn (s82_0 e n c2) fun j33=>(ldL c2 0 (some 7)).bind fun x34=>qac (cl e 124 [x34,u8 7] s1) fun x35 s36=>(nt x35).bind fun x37=>qae x37 (j33 (bl true) s36) ((ldL c2 4 none).bind fun x38=>qac (iaV 5 x38 (i64 0)) fun q39 o40=>(ldH e s36 (.elem q39 o40) none).bind fun x41=>(bn .neq x41 (u8 7)).bind fun x42=>j33 x42 s36)
def s83_0 (e:Env)(n l3:Nat):zA->ASt->Res:=fun x5 s6=>qae x5 (qac (cl e 98 [] s6) fun x7 s8=>(ex x7 0).bind fun x9=>(ex x7 1).bind fun x10=>(zA.cells (some 5) x9).bind fun c11=>(over ZT5 0 c11).bind fun c12=>(ldL c12 0 (some 5)).bind fun x13=>some (.tuple [x13,x10],s8)) ((ldH e s6 (.ptr l3 0) (some 7)).bind fun x14=>qac (cl e 130 [x14] s6) fun x15 s16=>qac (cl e 128 [i64 0,x15] s16) fun x17 s18=>qdX s18 (.cells ZT5) fun l19 s20=>(zA.cells (some 5) x17).bind fun c21=>(stH s20 (.ptr l19 0) c21).bind fun s22=>(ldH e s22 (.ptr l3 4) none).bind fun x23=>qac (iaV 5 x23 (i64 1)) fun q24 o25=>(ldH e s22 (.elem q24 o25) (some 5)).bind fun x26=>(ldH e s22 (.ptr l19 0) (some 5)).bind fun x27=>qac (cl e 139 [x26,x27] s22) fun x28 s29=>(nt x28).bind fun x30=>(mf 146 [] [.ptr l3 0,.ptr l19 0]).bind fun x31=>qac (cl e 126 [x30,x31] s29) fun x32 s33=>(ex x32 0).bind fun x34=>(ex x32 1).bind fun x35=>(zA.cells (some 5) x34).bind fun c36=>(over ZT5 0 c36).bind fun c37=>(ldL c37 0 (some 5)).bind fun x38=>some (.tuple [x38,x35],s33))
def s83 (e:Env)(n:Nat)(x0:zA)(s1:ASt):Res:=(zA.cells (some 7) x0).bind fun c2=>cnd (c2.all qaY) (qdX s1 (.cells c2) fun l3 s4=>jn (s83_0 e n l3) fun j39=>(ldH e s4 (.ptr l3 0) (some 7)).bind fun x40=>qac (cl e 124 [x40,u8 7] s4) fun x41 s42=>(nt x41).bind fun x43=>qae x43 (j39 (bl true) s42) ((ldH e s42 (.ptr l3 4) none).bind fun x44=>qac (iaV 5 x44 (i64 0)) fun q45 o46=>(ldH e s42 (.elem q45 o46) none).bind fun x47=>(bn .neq x47 (u8 12)).bind fun x48=>qae x48 ((ldH e s42 (.ptr l3 4) none).bind fun x49=>qac (iaV 5 x49 (i64 0)) fun q50 o51=>(ldH e s42 (.elem q50 o51) none).bind fun x52=>(bn .neq x52 (u8 14)).bind fun x53=>j39 x53 s42) (j39 (bl false) s42))) none
def s84_0 (e:Env)(n:Nat):zA->ASt->Res:=fun x3 s4=>qac (cl e 126 [x3,(.p (.func 147 [] []))] s4) fun x5 s6=>(ex x5 0).bind fun x7=>(ex x5 1).bind fun x8=>(zA.cells (some 5) x7).bind fun c9=>(over ZT5 0 c9).bind fun c10=>(ldL c10 0 (some 5)).bind fun x11=>some (.tuple [x11,x8],s6)
def s84 (e:Env)(n:Nat)(x0:zA)(s1:ASt):Res:=(zA.cells (some 7) x0).bind fun c2=>jn (s84_0 e n) fun j12=>(ldL c2 0 (some 7)).bind fun x13=>qac (cl e 124 [x13,u8 9] s1) fun x14 s15=>qae x14 ((ldL c2 4 none).bind fun x16=>qac (iaV 5 x16 (i64 0)) fun q17 o18=>(ldH e s15 (.elem q17 o18) (some 5)).bind fun x19=>qac (cl e 125 [x19] s15) fun x20 s21=>qae x20 ((ldL c2 4 none).bind fun x22=>qac (iaV 5 x22 (i64 0)) fun q23 o24=>(ldH e s21 (.elem q23 (o24+1)) none).bind fun x25=>(bn .eql x25 (i64 0)).bind fun x26=>j12 x26 s21) (j12 (bl false) s21)) (j12 (bl false) s15)
def s85 (e:Env)(n:Nat)(x0:zA)(s1:ASt):Res:=(zA.cells (some 7) x0).bind fun c2=>(ldL c2 0 (some 7)).bind fun x3=>qac (cl e 148 [x3,(.p (.func 149 [] [])),(.p .nilFunc)] s1) fun x4 s5=>(ex x4 0).bind fun x6=>(ex x4 1).bind fun x7=>(zA.cells (some 5) x6).bind fun c8=>(over ZT5 0 c8).bind fun c9=>(ldL c9 0 (some 5)).bind fun x10=>some (.tuple [x10,x7],s5)
def s86 (e:Env)(n:Nat)(x0:zA)(s1:ASt):Res:=(zA.cells (some 7) x0).bind fun c2=>cnd (c2.all qaY) (qdX s1 (.cells c2) fun l3 s4=>(ldH e s4 (.ptr l3 0) (some 7)).bind fun x5=>(mf 151 [] [.ptr l3 0]).bind fun x6=>qac (cl e 148 [x5,(.p (.func 150 [] [])),x6] s4) fun x7 s8=>(ex x7 0).bind fun x9=>(ex x7 1).bind fun x10=>(zA.cells (some 5) x9).bind fun c11=>(over ZT5 0 c11).bind fun c12=>(ldL c12 0 (some 5)).bind fun x13=>some (.tuple [x13,x10],s8)) none
def s87 (e:Env)(n:Nat)(x0:zA)(s1:ASt):Res:=(zA.cells (some 7) x0).bind fun c2=>(ldL c2 0 (some 7)).bind fun x3=>qac (cl e 148 [x3,(.p (.func 153 [] [])),(.p (.func 152 [] []))] s1) fun x4 s5=>(ex x4 0).bind fun x6=>(ex x4 1).bind fun x7=>(zA.cells (some 5) x6).bind fun c8=>(over ZT5 0 c8).bind fun c9=>(ldL c9 0 (some 5)).bind fun x10=>some (.tuple [x10,x7],s5)
def s88_0 (e:Env)(n:Nat)(s5:ASt):zA->ASt->Res:=fun x26 s27=>(mf 154 [] [(.ptr s5.next 0)]).bind fun x28=>qac (cl e 126 [x26,x28] s27) fun x29 s30=>(ex x29 0).bind fun x31=>(ex x29 1).bind fun x32=>(zA.cells (some 5) x31).bind fun c33=>(over ZT5 0 c33).bind fun c34=>(ldL c34 0 (some 5)).bind fun x35=>some (.tuple [x35,x32],s30)
def s88 (e:Env)(n:Nat)(x0:zA)(s1:ASt):Res:=(zA.cells (some 7) x0).bind fun c2=>(ldL c2 0 (some 7)).bind fun x3=>qac (cl e 124 [x3,u8 7] s1) fun x4 s5=>(nt x4).bind fun x6=>qae x6 (qac (cl e 98 [] s5) fun x7 s8=>(ex x7 0).bind fun x9=>(ex x7 1).bind fun x10=>(zA.cells (some 5) x9).bind fun c11=>(over ZT5 0 c11).bind fun c12=>(ldL c12 0 (some 5)).bind fun x13=>some (.tuple [x13,x10],s8)) ((ldL c2 4 none).bind fun x14=>qac (iaV 5 x14 (i64 0)) fun q15 o16=>(ldH e (qal s5 (.cells ZT5)) (.elem q15 o16) (some 5)).bind fun x17=>(ldL c2 4 none).bind fun x18=>qac (iaV 5 x18 (i64 1)) fun q19 o20=>(ldH e (qal s5 (.cells ZT5)) (.elem q19 o20) (some 5)).bind fun x21=>(zA.cells (some 5) x17).bind fun c22=>(stH (qal s5 (.cells ZT5)) (.ptr s5.next 0) c22).bind fun s23=>(zA.cells (some 5) x21).bind fun c24=>(over ZT5 0 c24).bind fun c25=>cnd ((qaT (cut c2 4 1) (cut c2 4 1)&&true)&&true) (jn (s88_0 e n s5) fun j36=>(ldH e s23 (.ptr s5.next 0) none).bind fun x37=>(bn .eql x37 (u8 4)).bind fun x38=>qae x38 ((ldL c25 0 none).bind fun x39=>(bn .eql x39 (u8 3)).bind fun x40=>qae x40 ((ldH e s23 (.ptr s5.next 3) none).bind fun x41=>(ldL c25 3 none).bind fun x42=>(bn .eql x41 x42).bind fun x43=>qae x43 ((ldH e s23 (.ptr s5.next 3) none).bind fun x44=>(ldL c2 6 none).bind fun x45=>(bn .gtr x44 x45).bind fun x46=>qae x46 ((ldH e s23 (.ptr s5.next 4) none).bind fun x47=>qac (iaV 5 x47 (i64 0)) fun q48 o49=>(ldH e s23 (.elem q48 o49) (some 5)).bind fun x50=>qac (cl e 125 [x50] s23) fun x51 s52=>j36 x51 s52) (j36 (bl false) s23)) (j36 (bl false) s23)) (j36 (bl false) s23)) (j36 (bl false) s23)) none)
def s89_0 (e:Env)(n l3:Nat):zA->ASt->Res:=fun x5 s6=>(mf 156 [] [.ptr l3 0]).bind fun x7=>qac (cl e 126 [x5,x7] s6) fun x8 s9=>(ex x8 0).bind fun x10=>(ex x8 1).bind fun x11=>(zA.cells (some 5) x10).bind fun c12=>(over ZT5 0 c12).bind fun c13=>(ldL c13 0 (some 5)).bind fun x14=>some (.tuple [x14,x11],s9)
def s89 (e:Env)(n:Nat)(x0:zA)(s1:ASt):Res:=(zA.cells (some 7) x0).bind fun c2=>cnd (c2.all qaY) (qdX s1 (.cells c2) fun l3 s4=>jn (s89_0 e n l3) fun j15=>(ldH e s4 (.ptr l3 0) (some 7)).bind fun x16=>qac (cl e 124 [x16,u8 11] s4) fun x17 s18=>qae x17 ((ldH e s18 (.ptr l3 4) none).bind fun x19=>qac (iaV 5 x19 (i64 0)) fun q20 o21=>(ldH e s18 (.elem q20 o21) (some 5)).bind fun x22=>qac (cl e 155 [x22] s18) fun x23 s24=>(nt x23).bind fun x25=>j15 x25 s24) (j15 (bl false) s18)) none
def s90_0 (e:Env)(n:Nat)(c2:List zA):zA->ASt->Res:=fun x3 s4=>(ldL c2 0 (some 7)).bind fun x5=>(mf 145 [x5] []).bind fun x6=>qac (cl e 126 [x3,x6] s4) fun x7 s8=>(ex x7 0).bind fun x9=>(ex x7 1).bind fun x10=>(zA.cells (some 5) x9).bind fun c11=>(over ZT5 0 c11).bind fun c12=>(ldL c12 0 (some 5)).bind fun x13=>some (.tuple [x13,x10],s8)
def s90 (e:Env)(n:Nat)(x0:zA)(s1:ASt):Res:=(zA.cells (some 7) x0).bind fun c2=>jn (s90_0 e n c2) fun j14=>(ldL c2 0 (some 7)).bind fun x15=>qac (cl e 124 [x15,u8 11] s1) fun x16 s17=>qae x16 ((ldL c2 4 none).bind fun x18=>qac (iaV 5 x18 (i64 0)) fun q19 o20=>(ldH e s17 (.elem q19 o20) none).bind fun x21=>(bn .eql x21 (u8 12)).bind fun x22=>qae x22 ((ldL c2 4 none).bind fun x23=>qac (iaV 5 x23 (i64 0)) fun q24 o25=>(ldH e s17 (.elem q24 (o25+1)) none).bind fun x26=>(bn .eql x26 (i64 0)).bind fun x27=>j14 x27 s17) (j14 (bl false) s17)) (j14 (bl false) s17)
def s91_0 (e:Env)(n:Nat):zA->List zA->ASt->Res:=fun x6 c7 s8=>(ldL c7 0 (some 5)).bind fun x9=>some (.tuple [x9,x6],s8)
def s91 (e:Env)(n:Nat)(x0:zA)(s1:ASt):Res:=(zA.cells (some 7) x0).bind fun c2=>cnd (c2.all qaY) (qdX s1 (.cells c2) fun l3 s4=>(mf 158 [] [.ptr l3 0]).bind fun x5=>jn (s91_0 e n) fun j10=>(ldH e s4 (.ptr l3 0) (some 7)).bind fun x11=>qac (cl e 124 [x11,u8 18] s4) fun x12 s13=>qae x12 ((ldH e s13 (.ptr l3 4) none).bind fun x14=>qac (iaV 5 x14 (i64 0)) fun q15 o16=>(ldH e s13 (.elem q15 o16) (some 5)).bind fun x17=>qac (cl e 159 [x17,x5] s13) fun x18 s19=>(nt x18).bind fun x20=>(ldH e s19 (.ptr l3 0) (some 7)).bind fun x21=>(mf 133 [x21] []).bind fun x22=>qac (cl e 126 [x20,x22] s19) fun x23 s24=>(ex x23 0).bind fun x25=>(ex x23 1).bind fun x26=>(zA.cells (some 5) x25).bind fun c27=>(over ZT5 0 c27).bind fun c28=>cnd (((e.pure 124||qaT (loadFrom e.E .nil s4 (.ptr l3 0) 7) (loadFrom e.E .nil s13 (.ptr l3 0) 7))&&((e.pure 159||qaT (loadFrom e.E .nil s13 (.ptr l3 0) 7) (loadFrom e.E .nil s19 (.ptr l3 0) 7))&&true))&&true) (j10 x26 c28 s24) none) ((ldH e s13 (.ptr l3 0) (some 7)).bind fun x29=>(mf 133 [x29] []).bind fun x30=>qac (cl e 126 [bl false,x30] s13) fun x31 s32=>(ex x31 0).bind fun x33=>(ex x31 1).bind fun x34=>(zA.cells (some 5) x33).bind fun c35=>(over ZT5 0 c35).bind fun c36=>cnd (((e.pure 124||qaT (loadFrom e.E .nil s4 (.ptr l3 0) 7) (loadFrom e.E .nil s13 (.ptr l3 0) 7))&&((e.pure 159||qaT (loadFrom e.E .nil s13 (.ptr l3 0) 7) (loadFrom e.E .nil s13 (.ptr l3 0) 7))&&true))&&true) (j10 x34 c36 s32) none)) none
def s92_0 (e:Env)(n:Nat):zA->List zA->List zA->ASt->Res:=fun x3 c4 c5 s6=>(ldL c5 0 (some 5)).bind fun x7=>some (.tuple [x7,x3],s6)
def s92 (e:Env)(n:Nat)(x0:zA)(s1:ASt):Res:=(zA.cells (some 7) x0).bind fun c2=>jn (s92_0 e n) fun j8=>(ldL c2 0 (some 7)).bind fun x9=>qac (cl e 124 [x9,u8 13] s1) fun x10 s11=>qae x10 ((ldL c2 4 none).bind fun x12=>qac (iaV 5 x12 (i64 0)) fun q13 o14=>(ldH e s11 (.elem q13 o14) (some 5)).bind fun x15=>(ldL c2 4 none).bind fun x16=>qac (iaV 5 x16 (i64 1)) fun q17 o18=>(ldH e s11 (.elem q17 o18) (some 5)).bind fun x19=>qac (cl e 139 [x15,x19] s11) fun x20 s21=>(ldL c2 0 (some 7)).bind fun x22=>(mf 133 [x22] []).bind fun x23=>qac (cl e 126 [x20,x23] s21) fun x24 s25=>(ex x24 0).bind fun x26=>(ex x24 1).bind fun x27=>(zA.cells (some 5) x26).bind fun c28=>(over ZT5 0 c28).bind fun c29=>j8 x27 c2 c29 s25) ((ldL c2 0 (some 7)).bind fun x30=>(mf 133 [x30] []).bind fun x31=>qac (cl e 126 [bl false,x31] s11) fun x32 s33=>(ex x32 0).bind fun x34=>(ex x32 1).bind fun x35=>(zA.cells (some 5) x34).bind fun c36=>(over ZT5 0 c36).bind fun c37=>j8 x35 c2 c37 s33)
def s93 (e:Env)(n:Nat)(x0:zA)(s1:ASt):Res:=(zA.cells (some 7) x0).bind fun c2=>(ldL c2 0 (some 7)).bind fun x3=>qac (cl e 124 [x3,u8 13] s1) fun x4 s5=>(nt x4).bind fun x6=>qae x6 (qac (cl e 98 [] s5) fun x7 s8=>(ex x7 0).bind fun x9=>(ex x7 1).bind fun x10=>(zA.cells (some 5) x9).bind fun c11=>(over ZT5 0 c11).bind fun c12=>(ldL c12 0 (some 5)).bind fun x13=>some (.tuple [x13,x10],s8)) ((ldL c2 4 none).bind fun x14=>qac (iaV 5 x14 (i64 0)) fun q15 o16=>(ldH e s5 (.elem q15 o16) none).bind fun x17=>(bn .eql x17 (u8 14)).bind fun x18=>qae x18 ((ldL c2 4 none).bind fun x19=>qac (iaV 5 x19 (i64 1)) fun q20 o21=>(ldH e s5 (.elem q20 o21) (some 5)).bind fun x22=>(zA.cells (some 5) x22).bind fun c23=>(over ZT5 0 c23).bind fun c24=>(ldL c24 0 (some 5)).bind fun x25=>some (.tuple [x25,bl true],s5)) ((ldL c2 4 none).bind fun x26=>qac (iaV 5 x26 (i64 1)) fun q27 o28=>(ldH e s5 (.elem q27 o28) none).bind fun x29=>(bn .eql x29 (u8 14)).bind fun x30=>(ldL c2 0 (some 7)).bind fun x31=>(mf 133 [x31] []).bind fun x32=>qac (cl e 126 [x30,x32] s5) fun x33 s34=>(ex x33 0).bind fun x35=>(ex x33 1).bind fun x36=>(zA.cells (some 5) x35).bind fun c37=>(over ZT5 0 c37).bind fun c38=>(ldL c38 0 (some 5)).bind fun x39=>some (.tuple [x39,x36],s34)))
def s94 (e:Env)(n:Nat)(x0 x1 x2:zA)(s3:ASt):Res:=(zA.cells none x0).bind fun c4=>cnd (c4.all qaY) (qdX s3 (.cells c4) fun l5 s6=>qac (cl e 50 [] s6) fun x7 s8=>qdX s8 (.cells [i64 0]) fun l9 s10=>qdX s10 (.cells [(.sl 0 [] .full)]) fun l11 s12=>(zA.cells none (i64 0)).bind fun c13=>(stH s12 (.ptr l9 0) c13).bind fun s14=>(zA.cells none x7).bind fun c15=>(stH s14 (.ptr l11 0) c15).bind fun s16=>(ldH e s16 x1 (some 7)).bind fun x17=>(mf 96 [] [.ptr l11 0,x2,.ptr l5 0,.ptr l9 0]).bind fun x18=>qac (cl e 95 [x17,x18] s16) fun x19 s20=>some (.tuple [],s20)) none
def s95_0 (e:Env)(n:Nat)(x9:zA)(c3:List zA)(x1:zA):zA->ASt->Res:=lp (fun _ _=>none) (fun h12 x10 s11=>(bn .lss x10 x9).bind fun x13=>qae x13 ((ldL c3 0 (some 7)).bind fun x14=>qac (cl e 132 [x14,x10] s11) fun x15 s16=>qac (cl e 95 [x15,x1] s16) fun x17 s18=>(nt x17).bind fun x19=>qae x19 (some (bl false,s18)) ((bn .add x10 (i64 1)).bind fun x20=>h12 x20 s18)) (some (bl true,s11))) n
def s95 (e:Env)(n:Nat)(x0 x1:zA)(s2:ASt):Res:=(zA.cells (some 7) x0).bind fun c3=>(ldL c3 0 (some 7)).bind fun x4=>qac (clv e x1 [x4] s2) fun x5 s6=>(nt x5).bind fun x7=>qae x7 (some (bl false,s6)) ((ldL c3 4 none).bind fun x8=>(ln false x8).bind fun x9=>s95_0 e n x9 c3 x1 (i64 0) s6)
def s96_0 (e:Env)(n:Nat)(x9:zA)(h16:zA->Nat->Nat->List zA->List zA->List zA->ASt->Res):Nat->Nat->List zA->List zA->List zA->ASt->Res:=fun g18 g19 c20 c21 c22 s23=>(bn .add x9 (i64 1)).bind fun x24=>h16 x24 g18 g19 c20 c21 c22 s23
def s96_1 (e:Env)(n:Nat)(j25:Nat->Nat->List zA->List zA->List zA->ASt->Res)(g10 g11:Nat)(c12 c30 c44:List zA):zA->ASt->Res:=fun x45 s46=>qae x45 (some (bl false,s46)) (j25 (g10+1) (g11+1) c12 c30 c44 s46)
def s96_2 (e:Env)(n:Nat)(x8 x7 x2 x3 x4:zA):zA->Nat->Nat->List zA->List zA->List zA->ASt->Res:=lp (fun _ _ _ _ _ _ _=>none) (fun h16 x9 g10 g11 c12 c13 c14 s15=>(bn .lss x9 x8).bind fun x17=>qae x17 (jn (s96_0 e n x9 h16) fun j25=>qac (iaV 2 x7 x9) fun q26 o27=>(ldH e s15 (.elem q26 o27) (some 2)).bind fun x28=>(zA.cells (some 2) x28).bind fun c29=>cnd (Nat.beq (g10+1) (g10+1)) ((over [(.p (.str ⟨#[]⟩)),(.p .nilFunc)] 0 c29).bind fun c30=>(bn .add x9 (i64 1)).bind fun x31=>(cv .u8 x31).bind fun x32=>(ldH e s15 x2 none).bind fun x33=>qac (clv e x33 [x32] s15) fun x34 s35=>(nt x34).bind fun x36=>qae x36 (j25 (g10+1) g11 c12 c30 c14 s35) (cnd (Nat.beq (g10+1) (g10+1)) ((ldL c30 1 none).bind fun x37=>(ldL c12 0 (some 7)).bind fun x38=>qac (clv e x37 [x38] s35) fun x39 s40=>(ex x39 0).bind fun x41=>(ex x39 1).bind fun x42=>(zA.cells (some 5) x41).bind fun c43=>cnd (Nat.beq (g11+1) (g11+1)) ((over ZT5 0 c43).bind fun c44=>jn (s96_1 e n j25 g10 g11 c12 c30 c44) fun j47=>qae x42 ((ldH e s40 x3 none).bind fun x48=>(ldH e s40 x4 none).bind fun x49=>(bd [u8 0,i64 0] [(0,none,(.c x32)),(1,none,(.c x49))]).bind fun x50=>cnd (Nat.beq (g11+1) (g11+1)) ((ldL c44 0 (some 5)).bind fun x51=>qac (clv e x48 [x50,x51] s40) fun x52 s53=>(nt x52).bind fun x54=>j47 x54 s53) none) (j47 (bl false) s40)) none) none)) none) ((ldH e s15 x4 none).bind fun x55=>(bn .add x55 (i64 1)).bind fun x56=>(zA.cells none x56).bind fun c57=>(stH s15 x4 c57).bind fun s58=>some (bl true,s58))) n
def s96 (e:Env)(n:Nat)(x0 x1 x2 x3 x4:zA)(s5:ASt):Res:=(zA.cells (some 7) x0).bind fun c6=>(ldH e s5 x1 none).bind fun x7=>(ln false x7).bind fun x8=>s96_2 e n x8 x7 x2 x3 x4 (i64 0) 0 0 c6 [] [] s5
def s98 (e:Env)(n:Nat)(s0:ASt):Res:=(bd ZT5 []).bind fun x1=>(zA.cells (some 5) x1).bind fun c2=>(over ZT5 0 c2).bind fun c3=>(ldL c3 0 (some 5)).bind fun x4=>some (.tuple [x4,bl false],s0)
def s99 (e:Env)(n:Nat)(x0:zA)(s1:ASt):Res:=(zA.cells (some 3) x0).bind fun c2=>(ldL c2 0 none).bind fun x3=>(ln false x3).bind fun x4=>(bn .gtr x4 (i64 5)).bind fun x5=>some (x5,s1)
def s100 (e:Env)(n:Nat)(x0:zA)(s1:ASt):Res:=(zA.cells (some 3) x0).bind fun c2=>(ldL c2 0 (some 3)).bind fun x3=>qac (cl e 101 [x3] s1) fun x4 s5=>(nt x4).bind fun x6=>some (x6,s5)
def s101_0 (e:Env)(n:Nat):zA->ASt->Res:=fun x3 s4=>some (x3,s4)
def s101 (e:Env)(n:Nat)(x0:zA)(s1:ASt):Res:=(zA.cells (some 3) x0).bind fun c2=>jn (s101_0 e n) fun j5=>(ldL c2 1 (some 2)).bind fun x6=>qac (cl e 103 [x6] s1) fun x7 s8=>qae x7 ((ldL c2 0 none).bind fun x9=>qac (cl e 161 [x9,(.p (.func 160 [] []))] s8) fun x10 s11=>(nt x10).bind fun x12=>qae x12 ((ldL c2 0 none).bind fun x13=>(ln false x13).bind fun x14=>(bn .eql x14 (i64 0)).bind fun x15=>qae x15 (j5 (bl true) s11) ((ldL c2 1 none).bind fun x16=>(nt x16).bind fun x17=>j5 x17 s11)) (j5 (bl false) s11)) (j5 (bl false) s8)
def s102 (e:Env)(n:Nat)(x0 x1:zA)(s2:ASt):Res:=qac (cl e 162 [x0,x1] s2) fun x3 s4=>(bn .geq x3 (i64 0)).bind fun x5=>some (x5,s4)
def s103_0 (e:Env)(n:Nat)(s1:ASt):zA->Res:=fun x3=>some (x3,s1)
def s103 (e:Env)(n:Nat)(x0:zA)(s1:ASt):Res:=(zA.cells (some 2) x0).bind fun c2=>jn (s103_0 e n s1) fun j4=>(ldL c2 1 none).bind fun x5=>(bn .geq x5 (i64 1)).bind fun x6=>qae x6 ((ldL c2 1 none).bind fun x7=>(bn .leq x7 (i64 64)).bind fun x8=>j4 x8) (j4 (bl false))
def s104_0 (e:Env)(n:Nat)(s9:ASt):zA->Res:=fun x12=>some (x12,s9)
def s104 (e:Env)(n:Nat)(x0 x1 x2:zA)(s3:ASt):Res:=(zA.cells (some 4) x0).bind fun c4=>(zA.cells (some 5) x1).bind fun c5=>(ldL c4 0 (some 4)).bind fun x6=>(ldL c5 0 (some 5)).bind fun x7=>qac (cl e 163 [x6,x7] s3) fun x8 s9=>(ex x8 0).bind fun x10=>(ex x8 1).bind fun x11=>jn (s104_0 e n s9) fun j13=>qae x11 ((bn .eql x10 x2).bind fun x14=>j13 x14) (j13 (bl false))
def s105_0 (e:Env)(n:Nat)(s8:ASt):zA->Res:=fun x13=>some (x13,s8)
def s105 (e:Env)(n:Nat)(x0 x1:zA)(s2:ASt):Res:=(zA.cells (some 4) x0).bind fun c3=>(zA.cells (some 5) x1).bind fun c4=>(ldL c3 3 none).bind fun x5=>(ldL c4 0 none).bind fun x6=>qac (lk e 1 (.agg [bl false,bl false,bl false,i64 0]) true x5 x6 s2) fun x7 s8=>(ex x7 0).bind fun x9=>(ex x7 1).bind fun x10=>(zA.cells (some 4) x9).bind fun c11=>(over [bl false,bl false,bl false,i64 0] 0 c11).bind fun c12=>jn (s105_0 e n s8) fun j14=>qae x10 ((ldL c12 0 none).bind fun x15=>qae x15 ((ldL c12 1 none).bind fun x16=>qae x16 ((ldL c12 2 none).bind fun x17=>qae x17 ((ldL c12 3 none).bind fun x18=>(bn .lss x18 (i64 0)).bind fun x19=>qae x19 (j14 (bl true)) ((ldL c12 3 none).bind fun x20=>(ldL c4 4 none).bind fun x21=>(ln false x21).bind fun x22=>(bn .eql x20 x22).bind fun x23=>j14 x23)) ((ldL c4 3 none).bind fun x24=>(bn .eql x24 (i64 0)).bind fun x25=>qae x25 ((ldL c12 3 none).bind fun x26=>(bn .lss x26 (i64 0)).bind fun x27=>qae x27 (j14 (bl true)) ((ldL c12 3 none).bind fun x28=>(ldL c4 4 none).bind fun x29=>(ln false x29).bind fun x30=>(bn .eql x28 x30).bind fun x31=>j14 x31)) (j14 (bl false)))) ((ldL c4 2 none).bind fun x32=>(bn .eql x32 (i64 0)).bind fun x33=>qae x33 ((ldL c12 2 none).bind fun x34=>qae x34 ((ldL c12 3 none).bind fun x35=>(bn .lss x35 (i64 0)).bind fun x36=>qae x36 (j14 (bl true)) ((ldL c12 3 none).bind fun x37=>(ldL c4 4 none).bind fun x38=>(ln false x38).bind fun x39=>(bn .eql x37 x39).bind fun x40=>j14 x40)) ((ldL c4 3 none).bind fun x41=>(bn .eql x41 (i64 0)).bind fun x42=>qae x42 ((ldL c12 3 none).bind fun x43=>(bn .lss x43 (i64 0)).bind fun x44=>qae x44 (j14 (bl true)) ((ldL c12 3 none).bind fun x45=>(ldL c4 4 none).bind fun x46=>(ln false x46).bind fun x47=>(bn .eql x45 x47).bind fun x48=>j14 x48)) (j14 (bl false)))) (j14 (bl false)))) ((ldL c4 1 none).bind fun x49=>(bn .eql x49 (i64 0)).bind fun x50=>qae x50 ((ldL c12 1 none).bind fun x51=>qae x51 ((ldL c12 2 none).bind fun x52=>qae x52 ((ldL c12 3 none).bind fun x53=>(bn .lss x53 (i64 0)).bind fun x54=>qae x54 (j14 (bl true)) ((ldL c12 3 none).bind fun x55=>(ldL c4 4 none).bind fun x56=>(ln false x56).bind fun x57=>(bn .eql x55 x57).bind fun x58=>j14 x58)) ((ldL c4 3 none).bind fun x59=>(bn .eql x59 (i64 0)).bind fun x60=>qae x60 ((ldL c12 3 none).bind fun x61=>(bn .lss x61 (i64 0)).bind fun x62=>qae x62 (j14 (bl true)) ((ldL c12 3 none).bind fun x63=>(ldL c4 4 none).bind fun x64=>(ln false x64).bind fun x65=>(bn .eql x63 x65).bind fun x66=>j14 x66)) (j14 (bl false)))) ((ldL c4 2 none).bind fun x67=>(bn .eql x67 (i64 0)).bind fun x68=>qae x68 ((ldL c12 2 none).bind fun x69=>qae x69 ((ldL c12 3 none).bind fun x70=>(bn .lss x70 (i64 0)).bind fun x71=>qae x71 (j14 (bl true)) ((ldL c12 3 none).bind fun x72=>(ldL c4 4 none).bind fun x73=>(ln false x73).bind fun x74=>(bn .eql x72 x74).bind fun x75=>j14 x75)) ((ldL c4 3 none).bind fun x76=>(bn .eql x76 (i64 0)).bind fun x77=>qae x77 ((ldL c12 3 none).bind fun x78=>(bn .lss x78 (i64 0)).bind fun x79=>qae x79 (j14 (bl true)) ((ldL c12 3 none).bind fun x80=>(ldL c4 4 none).bind fun x81=>(ln false x81).bind fun x82=>(bn .eql x80 x82).bind fun x83=>j14 x83)) (j14 (bl false)))) (j14 (bl false)))) (j14 (bl false)))) (j14 (bl false))
def s106_0 (e:Env)(n:Nat)(s6:ASt):zA->zA->Res:=fun x11 x12=>some (.tuple [x11,x12],s6)
def s106 (e:Env)(n:Nat)(x0 x1:zA)(s2:ASt):Res:=(zA.cells (some 4) x0).bind fun c3=>(ldL c3 0 (some 4)).bind fun x4=>qac (cl e 164 [x4,x1] s2) fun x5 s6=>(ex x5 0).bind fun x7=>(ex x5 1).bind fun x8=>(zA.cells (some 4) x7).bind fun c9=>(over [(.sl 0 [] .full),bl false,i64 0,bl false] 0 c9).bind fun c10=>jn (s106_0 e n s6) fun j13=>(ldL c10 2 none).bind fun x14=>qae x8 ((ldL c10 1 none).bind fun x15=>j13 x14 x15) (j13 x14 (bl false))
def s107 (e:Env)(n:Nat)(x0 x1:zA)(s2:ASt):Res:=(zA.cells (some 4) x0).bind fun c3=>(zA.cells (some 4) x1).bind fun c4=>(ldL c3 0 none).bind fun x5=>qac (cl e 165 [x5] s2) fun x6 s7=>(ldL c4 0 (some 4)).bind fun x8=>(ms 1 [(.sl 0 []),(.bool false),(.int .i64 0),(.bool false)] [(0,(some 4),(.c x8))]).bind fun x9=>qac (ap e 4 48 x6 x9 s7) fun x10 s11=>(zA.cells none x10).bind fun c12=>(over c3 0 c12).bind fun c13=>(ldL c13 0 (some 4)).bind fun x14=>(zA.cells (some 4) x14).bind fun c15=>(over [(.sl 0 [] .full),i64 0,i64 0,(.p .nilMap)] 0 c15).bind fun c16=>(ldL c16 0 (some 4)).bind fun x17=>some (x17,s11)
def s108_0 (e:Env)(n g25:Nat)(c36:List zA)(x2:zA)(s29:ASt)(x23 x24:zA)(h30:zA->zA->Nat->List zA->List zA->List zA->ASt->Res)(c26 c27:List zA):zA->Res:=fun x38=>cnd (Nat.beq (g25+1) (g25+1)) ((ldL c36 0 (some 5)).bind fun x39=>qac (cl e 108 [x39,x38,x2] s29) fun x40 s41=>(ms 1 [(.int .u8 0),(.int .i64 0),(.int .i64 0),(.int .i64 0),(.sl 0 [])] [(0,(some 5),(.c x40))]).bind fun x42=>qac (ap e 5 56 x23 x42 s41) fun x43 s44=>(bn .add x24 (i64 1)).bind fun x45=>h30 x43 x45 (g25+1) c26 c27 c36 s44) none
def s108_1 (e:Env)(n g25:Nat)(c36:List zA)(x2:zA)(s29:ASt)(x23 x24:zA)(h30:zA->zA->Nat->List zA->List zA->List zA->ASt->Res)(c26 c27:List zA)(x1:zA):zA->Res:=fun x37=>jn (s108_0 e n g25 c36 x2 s29 x23 x24 h30 c26 c27) fun j46=>qae x37 ((bn .add x1 (i64 1)).bind fun x47=>j46 x47) (j46 x1)
def s108_2 (e:Env)(n:Nat)(x22 x21 x2 x1:zA):zA->zA->Nat->List zA->List zA->List zA->ASt->Res:=lp (fun _ _ _ _ _ _ _=>none) (fun h30 x23 x24 g25 c26 c27 c28 s29=>(bn .lss x24 x22).bind fun x31=>qae x31 (qac (iaV 5 x21 x24) fun q32 o33=>(ldH e s29 (.elem q32 o33) (some 5)).bind fun x34=>(zA.cells (some 5) x34).bind fun c35=>cnd (Nat.beq (g25+1) (g25+1)) ((over ZT5 0 c35).bind fun c36=>jn (s108_1 e n g25 c36 x2 s29 x23 x24 h30 c26 c27 x1) fun j48=>(ldL c26 0 none).bind fun x49=>(bn .eql x49 (u8 11)).bind fun x50=>qae x50 ((bn .eql x24 (i64 0)).bind fun x51=>j48 x51) (j48 (bl false))) none) ((zA.cells none x23).bind fun c52=>(over c26 4 c52).bind fun c53=>(ldL c53 0 (some 5)).bind fun x54=>(zA.cells (some 5) x54).bind fun c55=>(over c27 0 c55).bind fun c56=>(ldL c56 0 (some 5)).bind fun x57=>some (x57,s29))) n
def s108 (e:Env)(n:Nat)(x0 x1 x2:zA)(s3:ASt):Res:=(zA.cells (some 5) x0).bind fun c4=>(ldL c4 0 (some 5)).bind fun x5=>qac (clv e x2 [x5,x1] s3) fun x6 s7=>(ex x6 0).bind fun x8=>(ex x6 1).bind fun x9=>(zA.cells (some 5) x8).bind fun c10=>(over c4 0 c10).bind fun c11=>(nt x9).bind fun x12=>qae x12 ((ldL c11 0 (some 5)).bind fun x13=>(zA.cells (some 5) x13).bind fun c14=>(over ZT5 0 c14).bind fun c15=>(ldL c15 0 (some 5)).bind fun x16=>some (x16,s7)) ((ldL c11 4 none).bind fun x17=>(ln false x17).bind fun x18=>qac (mk e 5 56 x18 s7) fun x19 s20=>(ldL c11 4 none).bind fun x21=>(ln false x21).bind fun x22=>s108_2 e n x22 x21 x2 x1 x19 (i64 0) 0 c11 ZT5 [] s20)
def s109 (e:Env)(n:Nat)(x0 x1:zA)(s2:ASt):Res:=(zA.cells (some 5) x0).bind fun c3=>(ldL c3 0 (some 5)).bind fun x4=>(zA.cells (some 5) x4).bind fun c5=>(over ZT5 0 c5).bind fun c6=>(ldL c6 0 (some 5)).bind fun x7=>some (.tuple [x7,bl true],s2)
def s111_0 (e:Env)(n:Nat):zA->ASt->Res:=fun x17 s18=>some (x17,s18)
def s111_1 (e:Env)(n:Nat)(c2:List zA):zA->ASt->Res:=lp (fun _ _=>none) (fun h5 x3 s4=>(ldL c2 0 none).bind fun x6=>(ln false x6).bind fun x7=>(bn .lss x3 x7).bind fun x8=>qae x8 ((ldL c2 0 none).bind fun x9=>qac (iaV 2 x9 x3) fun q10 o11=>(ldH e s4 (.elem q10 o11) (some 2)).bind fun x12=>qac (cl e 112 [x12] s4) fun x13 s14=>(nt x13).bind fun x15=>qae x15 (some (bl false,s14)) ((bn .add x3 (i64 1)).bind fun x16=>h5 x16 s14)) (jn (s111_0 e n) fun j19=>(ldL c2 1 (some 2)).bind fun x20=>qac (cl e 112 [x20] s4) fun x21 s22=>qae x21 ((ldL c2 0 none).bind fun x23=>(ln false x23).bind fun x24=>(bn .eql x24 (i64 0)).bind fun x25=>qae x25 (j19 (bl true) s22) ((ldL c2 1 none).bind fun x26=>(nt x26).bind fun x27=>j19 x27 s22)) (j19 (bl false) s22))) n
def s111 (e:Env)(n:Nat)(x0:zA)(s1:ASt):Res:=(zA.cells (some 3) x0).bind fun c2=>s111_1 e n c2 (i64 0) s1
def s112 (e:Env)(n:Nat)(x0:zA)(s1:ASt):Res:=(zA.cells (some 2) x0).bind fun c2=>(ldL c2 1 none).bind fun x3=>qac (cl e 167 [x3,i64 1,i64 64] s1) fun x4 s5=>some (x4,s5)
def s115 (e:Env)(n:Nat)(x0 x1 x2 x3 x4:zA)(s5:ASt):Res:=(zA.cells (some 5) x0).bind fun c6=>(ldH e s5 x2 none).bind fun x7=>(bn .add x7 (i64 1)).bind fun x8=>(zA.cells none x8).bind fun c9=>(stH s5 x2 c9).bind fun s10=>(ldH e s10 x2 none).bind fun x11=>(bn .sub x11 (i64 1)).bind fun x12=>(ldH e s10 x3 none).bind fun x13=>(bn .eql x12 x13).bind fun x14=>qae x14 ((ldH e s10 x4 (some 5)).bind fun x15=>(zA.cells (some 5) x15).bind fun c16=>(over ZT5 0 c16).bind fun c17=>(ldL c17 0 (some 5)).bind fun x18=>some (.tuple [x18,bl false],s10)) ((ldL c6 0 (some 5)).bind fun x19=>(zA.cells (some 5) x19).bind fun c20=>(over ZT5 0 c20).bind fun c21=>(ldL c21 0 (some 5)).bind fun x22=>some (.tuple [x22,bl true],s10))
def s116_0 (e:Env)(n:Nat):ASt->Res:=fun s12=>some (i64 0,s12)
def s116_1 (e:Env)(n:Nat)(c4:List zA)(j13:ASt->Res):zA->ASt->Res:=fun x14 s15=>qae x14 ((ldL c4 2 none).bind fun x16=>some (x16,s15)) (j13 s15)
def s116_2 (e:Env)(n:Nat)(j13:ASt->Res):ASt->Res:=fun s31=>j13 s31
def s116_3 (e:Env)(n:Nat)(j32:ASt->Res):ASt->Res:=fun s42=>j32 s42
def s116_4 (e:Env)(n:Nat)(c4:List zA):zA->ASt->Res:=fun x51 s52=>qae x51 (some (i64 0,s52)) ((ldL c4 1 none).bind fun x53=>(bn .geq x53 (i64 4)).bind fun x54=>qae x54 (some (i64 2,s52)) ((ldL c4 2 none).bind fun x55=>some (x55,s52)))
def s116_5 (e:Env)(n:Nat)(j43:ASt->Res):ASt->Res:=fun s76=>j43 s76
def s116_6 (e:Env)(n:Nat)(x8:zA)(j77:ASt->Res):zA->ASt->Res:=fun x78 s79=>qae x78 (qac (iaV 1 x8 (i64 0)) fun q80 o81=>(ldH e s79 (.elem q80 o81) none).bind fun x82=>some (x82,s79)) (j77 s79)
def s116_7 (e:Env)(n:Nat)(c4:List zA)(x1:zA)(s9:ASt)(j77:ASt->Res):zA->Res:=fun x102=>qae x102 ((ldL c4 3 none).bind fun x103=>(bn .sub x103 (i64 1)).bind fun x104=>qac (iaV 5 x1 x104) fun q105 o106=>(ldH e s9 (.elem q105 (o106+2)) none).bind fun x107=>some (x107,s9)) (j77 s9)
def s116_8 (e:Env)(n:Nat)(c4:List zA)(x1 x2:zA):zA->ASt->Res:=fun x8 s9=>(ldL c4 0 none).bind fun x10=>(bn .eql x10 (u8 1)).bind fun x11=>jn (s116_0 e n) fun j13=>qae x11 (jn (s116_1 e n c4 j13) fun j17=>(ldL c4 2 none).bind fun x18=>qac (cl e 171 [x18] s9) fun x19 s20=>qae x19 ((ldL c4 1 none).bind fun x21=>(bn .geq x21 (i64 0)).bind fun x22=>qae x22 ((ldL c4 1 none).bind fun x23=>(ldL c4 2 none).bind fun x24=>(bn .lss x23 x24).bind fun x25=>j17 x25 s20) (j17 (bl false) s20)) (j17 (bl false) s20)) ((bn .eql x10 (u8 2)).bind fun x26=>qae x26 ((ldL c4 0 (some 5)).bind fun x27=>qac (cl e 172 [x27,x1,x2] s9) fun x28 s29=>some (x28,s29)) ((bn .eql x10 (u8 3)).bind fun x30=>jn (s116_2 e n j13) fun j32=>qae x30 ((ldL c4 3 none).bind fun x33=>qac (cl e 118 [x1,x33,i64 0] s9) fun x34 s35=>qae x34 ((ldL c4 3 none).bind fun x36=>(bn .sub x36 (i64 1)).bind fun x37=>qac (iaV 5 x1 x37) fun q38 o39=>(ldH e s35 (.elem q38 (o39+2)) none).bind fun x40=>some (x40,s35)) (j32 s35)) ((bn .eql x10 (u8 4)).bind fun x41=>jn (s116_3 e n j32) fun j43=>qae x41 ((ldL c4 3 none).bind fun x44=>qac (iaV 1 x8 (i64 0)) fun q45 o46=>(ldH e s9 (.elem q45 o46) none).bind fun x47=>qac (cl e 118 [x1,x44,x47] s9) fun x48 s49=>qae x48 (some (i64 1,s49)) (j43 s49)) ((bn .eql x10 (u8 5)).bind fun x50=>qae x50 (jn (s116_4 e n c4) fun j56=>(ldL c4 1 none).bind fun x57=>(bn .lss x57 (i64 1)).bind fun x58=>qae x58 (j56 (bl true) s9) ((ldL c4 1 none).bind fun x59=>(bn .gtr x59 (i64 5)).bind fun x60=>qae x60 (j56 (bl true) s9) ((ldL c4 2 none).bind fun x61=>qac (cl e 171 [x61] s9) fun x62 s63=>(nt x62).bind fun x64=>qae x64 (j56 (bl true) s63) (qac (iaV 1 x8 (i64 0)) fun q65 o66=>(ldH e s63 (.elem q65 o66) none).bind fun x67=>(ldL c4 2 none).bind fun x68=>(bn .neq x67 x68).bind fun x69=>qae x69 (j56 (bl true) s63) (qac (iaV 1 x8 (i64 1)) fun q70 o71=>(ldH e s63 (.elem q70 o71) none).bind fun x72=>(ldL c4 2 none).bind fun x73=>(bn .neq x72 x73).bind fun x74=>j56 x74 s63))))) ((bn .eql x10 (u8 18)).bind fun x75=>jn (s116_5 e n j43) fun j77=>qae x75 (jn (s116_6 e n x8 j77) fun j83=>(ldL c4 3 none).bind fun x84=>qac (cl e 118 [x1,x84,i64 0] s9) fun x85 s86=>qae x85 ((ldL c4 3 none).bind fun x87=>(bn .sub x87 (i64 1)).bind fun x88=>qac (iaV 5 x1 x88) fun q89 o90=>(ldH e s86 (.elem q89 (o90+4)) none).bind fun x91=>qae x91 ((ldL c4 1 none).bind fun x92=>(bn .geq x92 (i64 0)).bind fun x93=>qae x93 ((ldL c4 1 none).bind fun x94=>(ldL c4 3 none).bind fun x95=>(bn .sub x95 (i64 1)).bind fun x96=>qac (iaV 5 x1 x96) fun q97 o98=>(ldH e s86 (.elem q97 (o98+2)) none).bind fun x99=>(bn .lss x94 x99).bind fun x100=>j83 x100 s86) (j83 (bl false) s86)) (j83 (bl false) s86)) (j83 (bl false) s86)) ((bn .eql x10 (u8 15)).bind fun x101=>qae x101 (jn (s116_7 e n c4 x1 s9 j77) fun j108=>(ldL c4 3 none).bind fun x109=>(bn .geq x109 (i64 1)).bind fun x110=>qae x110 ((ldL c4 3 none).bind fun x111=>(ln false x1).bind fun x112=>(bn .leq x111 x112).bind fun x113=>qae x113 ((ldL c4 3 none).bind fun x114=>(bn .sub x114 (i64 1)).bind fun x115=>qac (iaV 5 x1 x115) fun q116 o117=>(ldH e s9 (.elem q116 (o117+3)) none).bind fun x118=>j108 x118) (j108 (bl false))) (j108 (bl false))) ((ldL c4 0 (some 5)).bind fun x119=>qac (cl e 173 [x119,x8,x2] s9) fun x120 s121=>some (x120,s121))))))))
def s116_9 (e:Env)(n:Nat)(c4:List zA)(x124:zA)(s133:ASt)(x132 x123:zA)(h126:zA->zA->ASt->Res):zA->Res:=fun x135=>(ldL c4 4 none).bind fun x136=>qac (iaV 5 x136 x124) fun q137 o138=>(ldH e s133 (.elem q137 o138) (some 5)).bind fun x139=>qac (cl e 116 [x139,x132,x135] s133) fun x140 s141=>(bn .eql x140 (i64 0)).bind fun x142=>qae x142 (some (i64 0,s141)) ((ms 1 [(.int .i64 0)] [(0,none,(.c x140))]).bind fun x143=>qac (ap e 1 8 x123 x143 s141) fun x144 s145=>(bn .add x124 (i64 1)).bind fun x146=>h126 x144 x146 s145)
def s116_10 (e:Env)(n:Nat)(c4:List zA)(x124:zA)(s133:ASt)(x132 x123:zA)(h126:zA->zA->ASt->Res)(x2:zA):zA->Res:=fun x134=>jn (s116_9 e n c4 x124 s133 x132 x123 h126) fun j147=>qae x134 ((bn .add x2 (i64 1)).bind fun x148=>j147 x148) (j147 x2)
def s116_11 (e:Env)(n:Nat)(c4:List zA)(x124 x123:zA)(h126:zA->zA->ASt->Res)(x2:zA):zA->ASt->Res:=fun x132 s133=>jn (s116_10 e n c4 x124 s133 x132 x123 h126 x2) fun j149=>(ldL c4 0 none).bind fun x150=>(bn .eql x150 (u8 11)).bind fun x151=>qae x151 ((bn .eql x124 (i64 0)).bind fun x152=>j149 x152) (j149 (bl false))
def s116_12 (e:Env)(n:Nat)(c4:List zA)(x2 x1:zA)(j122:zA->ASt->Res):zA->zA->ASt->Res:=lp (fun _ _ _=>none) (fun h126 x123 x124 s125=>(ldL c4 4 none).bind fun x127=>(ln false x127).bind fun x128=>(bn .lss x124 x128).bind fun x129=>qae x129 ((ldL c4 0 none).bind fun x130=>(bn .eql x130 (u8 10)).bind fun x131=>jn (s116_11 e n c4 x124 x123 h126 x2) fun j153=>qae x131 ((ldL c4 1 none).bind fun x154=>qac (cl e 122 [x154] s125) fun x155 s156=>qac (cl e 119 [x1,x155] s156) fun x157 s158=>j153 x157 s158) (j153 x1 s125)) (j122 x123 s125)) n
def s116_13 (e:Env)(n:Nat)(c4:List zA)(x1 x2:zA)(s6:ASt):zA->Res:=fun x7=>jn (s116_8 e n c4 x1 x2) fun j122=>qae x7 (s116_12 e n c4 x2 x1 j122 (.sl 0 [] .full) (i64 0) s6) (j122 (.sl 0 [] .full) s6)
def s116_14 (e:Env)(n:Nat)(c4:List zA)(x1 x2:zA):zA->ASt->Res:=fun x5 s6=>qae x5 (some (i64 0,s6)) (jn (s116_13 e n c4 x1 x2 s6) fun j159=>(ldL c4 0 none).bind fun x160=>(bn .neq x160 (u8 2)).bind fun x161=>qae x161 ((ldL c4 0 none).bind fun x162=>(bn .neq x162 (u8 17)).bind fun x163=>j159 x163) (j159 (bl false)))
def s116 (e:Env)(n:Nat)(x0 x1 x2:zA)(s3:ASt):Res:=(zA.cells (some 5) x0).bind fun c4=>jn (s116_14 e n c4 x1 x2) fun j164=>(ldL c4 0 (some 5)).bind fun x165=>qac (cl e 117 [x165] s3) fun x166 s167=>(nt x166).bind fun x168=>qae x168 (j164 (bl true) s167) ((ldL c4 0 none).bind fun x169=>qac (cl e 170 [x169] s167) fun x170 s171=>(bn .geq x170 (i64 0)).bind fun x172=>qae x172 ((ldL c4 0 none).bind fun x173=>qac (cl e 170 [x173] s171) fun x174 s175=>(ldL c4 4 none).bind fun x176=>(ln false x176).bind fun x177=>(bn .neq x174 x177).bind fun x178=>j164 x178 s175) (j164 (bl false) s171))
def s117_0 (e:Env)(n:Nat)(s1:ASt):zA->Res:=fun x9=>some (x9,s1)
def s117_1 (e:Env)(n:Nat)(s1:ASt)(c2:List zA):zA->zA->zA->Res:=fun x6 x7 x8=>jn (s117_0 e n s1) fun j10=>qae x6 (qae x7 (qae x8 (j10 (bl true)) ((ldL c2 3 none).bind fun x11=>(bn .eql x11 (i64 0)).bind fun x12=>j10 x12)) ((ldL c2 2 none).bind fun x13=>(bn .eql x13 (i64 0)).bind fun x14=>qae x14 (qae x8 (j10 (bl true)) ((ldL c2 3 none).bind fun x15=>(bn .eql x15 (i64 0)).bind fun x16=>j10 x16)) (j10 (bl false)))) ((ldL c2 1 none).bind fun x17=>(bn .eql x17 (i64 0)).bind fun x18=>qae x18 (qae x7 (qae x8 (j10 (bl true)) ((ldL c2 3 none).bind fun x19=>(bn .eql x19 (i64 0)).bind fun x20=>j10 x20)) ((ldL c2 2 none).bind fun x21=>(bn .eql x21 (i64 0)).bind fun x22=>qae x22 (qae x8 (j10 (bl true)) ((ldL c2 3 none).bind fun x23=>(bn .eql x23 (i64 0)).bind fun x24=>j10 x24)) (j10 (bl false)))) (j10 (bl false)))
def s117_2 (e:Env)(n:Nat)(j25:zA->zA->zA->Res):zA->zA->Res:=fun x28 x29=>j25 x28 (bl false) x29
def s117_3 (e:Env)(n:Nat)(j30:zA->zA->Res):zA->zA->Res:=fun x33 x34=>j30 x33 x34
def s117_4 (e:Env)(n:Nat)(j35:zA->zA->Res):zA->zA->Res:=fun x37 x38=>j35 x37 x38
def s117_5 (e:Env)(n:Nat)(j30:zA->zA->Res)(x3:zA):zA->Res:=fun x32=>jn (s117_3 e n j30) fun j35=>qae x32 (j35 (bl false) (bl true)) ((bn .eql x3 (u8 18)).bind fun x36=>jn (s117_4 e n j35) fun j39=>qae x36 (j39 (bl true) (bl true)) (j39 (bl false) (bl false)))
def s117_6 (e:Env)(n:Nat)(j40:zA->Res):zA->Res:=fun x42=>j40 x42
def s117_7 (e:Env)(n:Nat)(j43:zA->Res):zA->Res:=fun x45=>j43 x45
def s117_8 (e:Env)(n:Nat)(j46:zA->Res):zA->Res:=fun x48=>j46 x48
def s117_9 (e:Env)(n:Nat)(j25:zA->zA->zA->Res)(x3:zA):zA->Res:=fun x27=>jn (s117_2 e n j25) fun j30=>qae x27 (j30 (bl true) (bl false)) ((bn .eql x3 (u8 2)).bind fun x31=>jn (s117_5 e n j30 x3) fun j40=>qae x31 (j40 x31) ((bn .eql x3 (u8 3)).bind fun x41=>jn (s117_6 e n j40) fun j43=>qae x41 (j43 x41) ((bn .eql x3 (u8 4)).bind fun x44=>jn (s117_7 e n j43) fun j46=>qae x44 (j46 x44) ((bn .eql x3 (u8 15)).bind fun x47=>jn (s117_8 e n j46) fun j49=>qae x47 (j49 x47) ((bn .eql x3 (u8 16)).bind fun x50=>j49 x50)))))
def s117_10 (e:Env)(n:Nat)(s1:ASt)(c2:List zA)(x3:zA):zA->Res:=fun x5=>jn (s117_1 e n s1 c2) fun j25=>qae x5 (j25 (bl true) (bl true) (bl false)) ((bn .eql x3 (u8 6)).bind fun x26=>jn (s117_9 e n j25 x3) fun j51=>qae x26 (j51 x26) ((bn .eql x3 (u8 12)).bind fun x52=>j51 x52))
def s117_11 (e:Env)(n:Nat)(j53:zA->Res):zA->Res:=fun x55=>j53 x55
def s117 (e:Env)(n:Nat)(x0:zA)(s1:ASt):Res:=(zA.cells (some 5) x0).bind fun c2=>(ldL c2 0 none).bind fun x3=>(bn .eql x3 (u8 1)).bind fun x4=>jn (s117_10 e n s1 c2 x3) fun j53=>qae x4 (j53 x4) ((bn .eql x3 (u8 5)).bind fun x54=>jn (s117_11 e n j53) fun j56=>qae x54 (j56 x54) ((bn .eql x3 (u8 10)).bind fun x57=>j56 x57))
def s118_0 (e:Env)(n:Nat)(s3:ASt):zA->Res:=fun x11=>some (x11,s3)
def s118_1 (e:Env)(n:Nat)(s3:ASt)(x1 x0 x2:zA):zA->Res:=fun x4=>qae x4 (some (bl false,s3)) ((bn .sub x1 (i64 1)).bind fun x5=>qac (iaV 5 x0 x5) fun q6 o7=>(ldH e s3 (.elem q6 o7) (some 5)).bind fun x8=>(zA.cells (some 5) x8).bind fun c9=>(over [(.sl 0 [] .full),bl false,i64 0,bl false,bl false] 0 c9).bind fun c10=>jn (s118_0 e n s3) fun j12=>(ldL c10 3 none).bind fun x13=>(nt x13).bind fun x14=>qae x14 ((ldL c10 0 none).bind fun x15=>(ln false x15).bind fun x16=>(bn .eql x16 (i64 0)).bind fun x17=>qae x17 ((ldL c10 1 none).bind fun x18=>qae x18 ((bn .eql x2 (i64 0)).bind fun x19=>qae x19 (j12 (bl true)) ((ldL c10 2 none).bind fun x20=>(bn .eql x20 x2).bind fun x21=>j12 x21)) (j12 (bl false))) (j12 (bl false))) (j12 (bl false)))
def s118 (e:Env)(n:Nat)(x0 x1 x2:zA)(s3:ASt):Res:=jn (s118_1 e n s3 x1 x0 x2) fun j22=>(bn .lss x1 (i64 1)).bind fun x23=>qae x23 (j22 (bl true)) ((ln false x0).bind fun x24=>(bn .gtr x1 x24).bind fun x25=>j22 x25)
def s119 (e:Env)(n:Nat)(x0 x1:zA)(s2:ASt):Res:=(zA.cells (some 5) x1).bind fun c3=>qac (ap e 5 48 (.sl 0 [] .full) x0 s2) fun x4 s5=>(ldL c3 0 (some 5)).bind fun x6=>(ms 1 [(.sl 0 []),(.bool false),(.int .i64 0),(.bool false),(.bool false)] [(0,(some 5),(.c x6))]).bind fun x7=>qac (ap e 5 48 x4 x7 s5) fun x8 s9=>cnd ((qaT (cut c3 0 5) (cut c3 0 5)&&true)&&true) (some (x8,s9)) none
def s120 (e:Env)(n:Nat)(x0:zA)(s1:ASt):Res:=(bd [bl false,i64 0] [(1,none,(.c x0))]).bind fun x2=>(bd [(.sl 0 [] .full),bl false,i64 0] [(1,(some 2),(.c x2))]).bind fun x3=>(bd [(.sl 0 [] .full),bl false,i64 0,bl false,bl false] [(0,(some 3),(.c x3)),(3,none,(.c (bl true)))]).bind fun x4=>(zA.cells (some 5) x4).bind fun c5=>(over [(.sl 0 [] .full),bl false,i64 0,bl false,bl false] 0 c5).bind fun c6=>(ldL c6 0 (some 5)).bind fun x7=>some (x7,s1)
def s121_0 (e:Env)(n:Nat):List zA->List zA->List zA->ASt->Res:=fun c18 c19 c20 s21=>(bd ZT5 []).bind fun x22=>(zA.cells (some 5) x22).bind fun c23=>(over c20 0 c23).bind fun c24=>(ldL c24 0 (some 5)).bind fun x25=>some (.tuple [x25,bl false],s21)
def s121_1 (e:Env)(n:Nat)(x6:zA)(j26:List zA->List zA->List zA->ASt->Res)(c4 c5:List zA):zA->ASt->Res:=fun x40 s41=>qae x40 (qac (iaV 5 x6 (i64 0)) fun q42 o43=>(ldH e s41 (.elem q42 o43) (some 5)).bind fun x44=>(zA.cells (some 5) x44).bind fun c45=>(over ZT5 0 c45).bind fun c46=>(ldL c46 0 (some 5)).bind fun x47=>some (.tuple [x47,bl true],s41)) (j26 c4 c5 ZT5 s41)
def s121_2 (e:Env)(n:Nat)(x6:zA)(c5:List zA)(j26:List zA->List zA->List zA->ASt->Res)(c4:List zA)(x1:zA):zA->ASt->Res:=fun x27 s28=>qae x27 (qac (iaV 5 x6 (i64 0)) fun q29 o30=>(ldH e s28 (.elem q29 (o30+1)) none).bind fun x31=>(ldL c5 1 none).bind fun x32=>(bn .rem x31 x32).bind fun x33=>(ldL c5 1 none).bind fun x34=>qac (cl e 176 [x33,x34] s28) fun x35 s36=>(zA.cells (some 5) x35).bind fun c37=>(over ZT5 0 c37).bind fun c38=>(ldL c38 0 (some 5)).bind fun x39=>some (.tuple [x39,bl true],s36)) (jn (s121_1 e n x6 j26 c4 c5) fun j48=>(bn .eql x1 (u8 3)).bind fun x49=>qae x49 (qac (iaV 5 x6 (i64 0)) fun q50 o51=>(ldH e s28 (.elem q50 o51) (some 5)).bind fun x52=>qac (cl e 175 [x52] s28) fun x53 s54=>(nt x53).bind fun x55=>qae x55 ((ldL c4 0 (some 2)).bind fun x56=>qac (iaV 5 x6 (i64 0)) fun q57 o58=>(ldH e s54 (.elem q57 o58) (some 5)).bind fun x59=>qac (cl e 123 [x56,x59] s54) fun x60 s61=>(ldL c5 1 none).bind fun x62=>(bn .eql x60 x62).bind fun x63=>j48 x63 s61) (j48 (bl false) s54)) (j48 (bl false) s28))
def s121_3 (e:Env)(n:Nat)(j26:List zA->List zA->List zA->ASt->Res):List zA->List zA->List zA->ASt->Res:=fun c92 c93 c94 s95=>j26 c92 c93 c94 s95
def s121_4 (e:Env)(n:Nat)(j96:List zA->List zA->List zA->ASt->Res)(c4 c5:List zA):zA->ASt->Res:=fun x97 s98=>qae x97 (qac (cl e 176 [i64 0,i64 1] s98) fun x99 s100=>(zA.cells (some 5) x99).bind fun c101=>(over ZT5 0 c101).bind fun qwS=>(ldL qwS 0 (some 5)).bind fun x103=>some (.tuple [x103,bl true],s100)) (j96 c4 c5 ZT5 s98)
def s121_5 (e:Env)(n:Nat)(j96:List zA->List zA->List zA->ASt->Res):List zA->List zA->List zA->ASt->Res:=fun c126 c127 c128 s129=>j96 c126 c127 c128 s129
def s121_6 (e:Env)(n:Nat)(x6:zA)(s132:ASt)(j130:List zA->List zA->List zA->ASt->Res)(c4 c5:List zA):zA->Res:=fun x141=>qae x141 (qac (iaV 5 x6 (i64 1)) fun q142 o143=>(ldH e s132 (.elem q142 o143) (some 5)).bind fun x144=>(zA.cells (some 5) x144).bind fun c145=>(over ZT5 0 c145).bind fun c146=>(ldL c146 0 (some 5)).bind fun x147=>some (.tuple [x147,bl true],s132)) (j130 c4 c5 ZT5 s132)
def s121_7 (e:Env)(n:Nat)(x6:zA)(j130:List zA->List zA->List zA->ASt->Res)(c4 c5:List zA)(x1:zA):zA->ASt->Res:=fun x131 s132=>qae x131 (qac (iaV 5 x6 (i64 0)) fun q133 o134=>(ldH e s132 (.elem q133 o134) (some 5)).bind fun x135=>qac (cl e 181 [x135,i64 0] s132) fun x136 s137=>(zA.cells (some 5) x136).bind fun c138=>(over ZT5 0 c138).bind fun c139=>(ldL c139 0 (some 5)).bind fun x140=>some (.tuple [x140,bl true],s137)) (jn (s121_6 e n x6 s132 j130 c4 c5) fun j148=>(bn .eql x1 (u8 19)).bind fun x149=>qae x149 (qac (iaV 5 x6 (i64 0)) fun q150 o151=>(ldH e s132 (.elem q150 o151) none).bind fun x152=>(bn .eql x152 (u8 12)).bind fun x153=>qae x153 (qac (iaV 5 x6 (i64 0)) fun q154 o155=>(ldH e s132 (.elem q154 (o155+1)) none).bind fun x156=>(bn .eql x156 (i64 0)).bind fun x157=>j148 x157) (j148 (bl false))) (j148 (bl false)))
def s121_8 (e:Env)(n:Nat)(j130:List zA->List zA->List zA->ASt->Res):List zA->List zA->List zA->ASt->Res:=fun c167 c168 c169 s170=>j130 c167 c168 c169 s170
def s121_9 (e:Env)(n:Nat)(x6:zA)(j171:List zA->List zA->List zA->ASt->Res)(c4 c5:List zA):zA->ASt->Res:=fun x172 s173=>qae x172 (qac (iaV 5 x6 (i64 0)) fun q174 o175=>(ldH e s173 (.elem q174 o175) (some 5)).bind fun x176=>(zA.cells (some 5) x176).bind fun c177=>(over ZT5 0 c177).bind fun c178=>(ldL c178 0 (some 5)).bind fun x179=>some (.tuple [x179,bl true],s173)) (j171 c4 c5 ZT5 s173)
def s121_10 (e:Env)(n:Nat)(j171:List zA->List zA->List zA->ASt->Res):List zA->List zA->List zA->ASt->Res:=fun c189 c190 c191 s192=>j171 c189 c190 c191 s192
def s121_11 (e:Env)(n:Nat)(x6:zA)(s203:ASt)(j193:List zA->List zA->List zA->ASt->Res)(c4 c5:List zA):zA->Res:=fun x217=>qae x217 (qac (iaV 5 x6 (i64 0)) fun q218 o219=>(ldH e s203 (.elem q218 o219) (some 5)).bind fun x220=>(zA.cells (some 5) x220).bind fun c221=>(over ZT5 0 c221).bind fun c222=>(ldL c222 0 (some 5)).bind fun x223=>some (.tuple [x223,bl true],s203)) (j193 c4 c5 ZT5 s203)
def s121_12 (e:Env)(n:Nat)(x6:zA)(s203:ASt)(j193:List zA->List zA->List zA->ASt->Res)(c4 c5:List zA)(x1 x201:zA):zA->Res:=fun x210=>qae x210 (qac (iaV 5 x6 (i64 1)) fun q211 o212=>(ldH e s203 (.elem q211 o212) (some 5)).bind fun x213=>(zA.cells (some 5) x213).bind fun c214=>(over ZT5 0 c214).bind fun c215=>(ldL c215 0 (some 5)).bind fun x216=>some (.tuple [x216,bl true],s203)) (jn (s121_11 e n x6 s203 j193 c4 c5) fun j224=>(bn .eql x1 (u8 22)).bind fun x225=>qae x225 (j224 x201) (j224 (bl false)))
def s121_13 (e:Env)(n:Nat)(x6:zA)(j193:List zA->List zA->List zA->ASt->Res)(c4 c5:List zA)(x1 x201 x197:zA):zA->ASt->Res:=fun x202 s203=>qae x202 (qac (iaV 5 x6 (i64 0)) fun q204 o205=>(ldH e s203 (.elem q204 o205) (some 5)).bind fun x206=>(zA.cells (some 5) x206).bind fun c207=>(over ZT5 0 c207).bind fun c208=>(ldL c208 0 (some 5)).bind fun x209=>some (.tuple [x209,bl true],s203)) (jn (s121_12 e n x6 s203 j193 c4 c5 x1 x201) fun j226=>(bn .eql x1 (u8 22)).bind fun x227=>qae x227 (j226 x197) (j226 (bl false)))
def s121 (e:Env)(n:Nat)(x0 x1 x2:zA)(s3:ASt):Res:=(zA.cells (some 2) x0).bind fun c4=>(zA.cells (some 5) x2).bind fun c5=>(ldL c5 4 none).bind fun x6=>(ldL c5 0 none).bind fun x7=>(bn .eql x7 (u8 5)).bind fun x8=>qae x8 ((ldL c5 0 (some 5)).bind fun x9=>qac (cl e 174 [x1,x9] s3) fun x10 s11=>(ex x10 0).bind fun x12=>(ex x10 1).bind fun x13=>(zA.cells (some 5) x12).bind fun c14=>(over ZT5 0 c14).bind fun c15=>(ldL c15 0 (some 5)).bind fun x16=>some (.tuple [x16,x13],s11)) ((bn .eql x7 (u8 6)).bind fun x17=>jn (s121_0 e n) fun j26=>qae x17 (jn (s121_2 e n x6 c5 j26 c4 x1) fun j64=>(bn .eql x1 (u8 2)).bind fun x65=>qae x65 (qac (iaV 5 x6 (i64 0)) fun q66 o67=>(ldH e s3 (.elem q66 o67) (some 5)).bind fun x68=>qac (cl e 175 [x68] s3) fun x69 s70=>j64 x69 s70) (j64 (bl false) s3)) ((bn .eql x7 (u8 8)).bind fun x71=>qae x71 ((ldL c4 0 (some 2)).bind fun x72=>(ldL c5 0 (some 5)).bind fun x73=>qac (cl e 177 [x72,x1,x73] s3) fun x74 s75=>(ex x74 0).bind fun x76=>(ex x74 1).bind fun x77=>(zA.cells (some 5) x76).bind fun c78=>(over ZT5 0 c78).bind fun c79=>(ldL c79 0 (some 5)).bind fun x80=>some (.tuple [x80,x77],s75)) ((bn .eql x7 (u8 7)).bind fun x81=>qae x81 ((ldL c4 0 (some 2)).bind fun x82=>(ldL c5 0 (some 5)).bind fun x83=>qac (cl e 178 [x82,x1,x83] s3) fun x84 s85=>(ex x84 0).bind fun x86=>(ex x84 1).bind fun x87=>(zA.cells (some 5) x86).bind fun c88=>(over ZT5 0 c88).bind fun c89=>(ldL c89 0 (some 5)).bind fun x90=>some (.tuple [x90,x87],s85)) ((bn .eql x7 (u8 9)).bind fun x91=>jn (s121_3 e n j26) fun j96=>qae x91 (jn (s121_4 e n j96 c4 c5) fun j104=>(bn .eql x1 (u8 13)).bind fun x105=>qae x105 (qac (iaV 5 x6 (i64 0)) fun q106 o107=>(ldH e s3 (.elem q106 o107) (some 5)).bind fun x108=>qac (cl e 175 [x108] s3) fun x109 s110=>qae x109 (qac (iaV 5 x6 (i64 0)) fun q111 o112=>(ldH e s110 (.elem q111 (o112+1)) none).bind fun x113=>(bn .eql x113 (i64 0)).bind fun x114=>j104 x114 s110) (j104 (bl false) s110)) (j104 (bl false) s3)) ((bn .eql x7 (u8 10)).bind fun x115=>qae x115 ((ldL c4 0 (some 2)).bind fun x116=>(ldL c5 0 (some 5)).bind fun x117=>qac (cl e 179 [x116,x1,x117] s3) fun x118 s119=>(ex x118 0).bind fun x120=>(ex x118 1).bind fun x121=>(zA.cells (some 5) x120).bind fun c122=>(over ZT5 0 c122).bind fun c123=>(ldL c123 0 (some 5)).bind fun x124=>some (.tuple [x124,x121],s119)) ((bn .eql x7 (u8 11)).bind fun x125=>jn (s121_5 e n j96) fun j130=>qae x125 (jn (s121_7 e n x6 j130 c4 c5 x1) fun j158=>(bn .eql x1 (u8 18)).bind fun x159=>qae x159 (qac (iaV 5 x6 (i64 0)) fun q160 o161=>(ldH e s3 (.elem q160 o161) (some 5)).bind fun x162=>qac (cl e 180 [x162,i64 0] s3) fun x163 s164=>(nt x163).bind fun x165=>j158 x165 s164) (j158 (bl false) s3)) ((bn .eql x7 (u8 18)).bind fun x166=>jn (s121_8 e n j130) fun j171=>qae x166 (jn (s121_9 e n x6 j171 c4 c5) fun j180=>(bn .eql x1 (u8 20)).bind fun x181=>qae x181 (qac (iaV 5 x6 (i64 0)) fun q182 o183=>(ldH e s3 (.elem q182 o183) (some 5)).bind fun x184=>(ldL c4 1 none).bind fun x185=>qac (cl e 182 [x184,x185] s3) fun x186 s187=>j180 x186 s187) (j180 (bl false) s3)) ((bn .eql x7 (u8 13)).bind fun x188=>jn (s121_10 e n j171) fun j193=>qae x188 (qac (iaV 5 x6 (i64 0)) fun q194 o195=>(ldH e s3 (.elem q194 o195) none).bind fun x196=>(bn .eql x196 (u8 14)).bind fun x197=>qac (iaV 5 x6 (i64 1)) fun q198 o199=>(ldH e s3 (.elem q198 o199) none).bind fun x200=>(bn .eql x200 (u8 14)).bind fun x201=>jn (s121_13 e n x6 j193 c4 c5 x1 x201 x197) fun j228=>(bn .eql x1 (u8 21)).bind fun x229=>qae x229 (qac (iaV 5 x6 (i64 0)) fun q230 o231=>(ldH e s3 (.elem q230 o231) (some 5)).bind fun x232=>qac (iaV 5 x6 (i64 1)) fun q233 o234=>(ldH e s3 (.elem q233 o234) (some 5)).bind fun x235=>qac (cl e 19 [x232,x235] s3) fun x236 s237=>j228 x236 s237) (j228 (bl false) s3)) (j193 c4 c5 ZT5 s3)))))))))
def s122 (e:Env)(n:Nat)(x0:zA)(s1:ASt):Res:=(bd [bl false,i64 0] [(0,none,(.c (bl true))),(1,none,(.c x0))]).bind fun x2=>(bd [(.sl 0 [] .full),bl false,i64 0] [(1,(some 2),(.c x2))]).bind fun x3=>(bd [(.sl 0 [] .full),bl false,i64 0,bl false,bl false] [(0,(some 3),(.c x3)),(4,none,(.c (bl true)))]).bind fun x4=>(zA.cells (some 5) x4).bind fun c5=>(over [(.sl 0 [] .full),bl false,i64 0,bl false,bl false] 0 c5).bind fun c6=>(ldL c6 0 (some 5)).bind fun x7=>some (x7,s1)
def s123 (e:Env)(n:Nat)(x0 x1:zA)(s2:ASt):Res:=(zA.cells (some 2) x0).bind fun c3=>(zA.cells (some 5) x1).bind fun c4=>(ldL c4 0 (some 5)).bind fun x5=>(ldL c3 0 none).bind fun x6=>qac (cl e 116 [x5,x6,i64 600] s2) fun x7 s8=>some (x7,s8)
def s124 (e:Env)(n:Nat)(x0 x1:zA)(s2:ASt):Res:=(zA.cells (some 7) x0).bind fun c3=>(ldL c3 0 none).bind fun x4=>(bn .eql x4 x1).bind fun x5=>some (x5,s2)
def s125 (e:Env)(n:Nat)(x0:zA)(s1:ASt):Res:=(zA.cells (some 5) x0).bind fun c2=>(ldL c2 0 none).bind fun x3=>(bn .eql x3 (u8 1)).bind fun x4=>some (x4,s1)
def s126 (e:Env)(n:Nat)(x0 x1:zA)(s2:ASt):Res:=(nt x0).bind fun x3=>qae x3 (qac (cl e 98 [] s2) fun x4 s5=>(ex x4 0).bind fun x6=>(ex x4 1).bind fun x7=>(zA.cells (some 5) x6).bind fun c8=>(over ZT5 0 c8).bind fun c9=>(ldL c9 0 (some 5)).bind fun x10=>some (.tuple [x10,x7],s5)) (qac (clv e x1 [] s2) fun x11 s12=>(zA.cells (some 5) x11).bind fun c13=>(over ZT5 0 c13).bind fun c14=>(ldL c14 0 (some 5)).bind fun x15=>some (.tuple [x15,bl true],s12))
def s127 (e:Env)(n:Nat)(x0:zA)(s1:ASt):Res:=faK 0 x0 fun x2=>faK 1 x2 fun x3=>(ldH e s1 x3 none).bind fun x4=>faK 0 x0 fun x5=>faK 2 x5 fun x6=>(ldH e s1 x6 none).bind fun x7=>faK 0 x0 fun x8=>faK 4 x8 fun x9=>(ldH e s1 x9 none).bind fun x10=>qac (iaV 5 x10 (i64 0)) fun q11 o12=>(ldH e s1 (.elem q11 (o12+1)) none).bind fun x13=>faK 0 x0 fun x14=>faK 4 x14 fun x15=>(ldH e s1 x15 none).bind fun x16=>qac (iaV 5 x16 (i64 1)) fun q17 o18=>(ldH e s1 (.elem q17 (o18+1)) none).bind fun x19=>qac (cl e 129 [x4,x7,x13,x19] s1) fun x20 s21=>(ldH e s21 x0 (some 7)).bind fun x22=>qac (cl e 130 [x22] s21) fun x23 s24=>qac (cl e 128 [x20,x23] s24) fun x25 s26=>(zA.cells (some 5) x25).bind fun c27=>(over ZT5 0 c27).bind fun c28=>cnd (okV e [([(0,(1,ZT5)),(0,(0,[]))],s1),([(0,(1,ZT5)),(0,(0,[]))],s1),([(0,(1,ZT5)),(0,(0,[]))],s1),([(0,(1,ZT5)),(0,(0,[]))],s1),([(0,(1,ZT5)),(0,(0,[]))],s1),([(0,(1,ZT5)),(0,(0,[]))],s1),([(0,(1,ZT5)),(0,(0,[]))],s1),([(0,(1,ZT5)),(0,(0,[]))],s1),([(0,(1,ZT5)),(0,(0,[]))],s1),([(0,(1,ZT5)),(0,(0,[]))],s1),([(0,(1,ZT5)),(0,(0,[]))],s1),([(0,(1,ZT5)),(0,(0,[]))],s1),([(0,(1,ZT5)),(0,(0,[]))],s1),([(0,(1,ZT5)),(0,(0,[]))],s1),([(0,(1,ZT5)),(0,(0,[]))],s1),([(0,(1,ZT5)),(0,(0,[]))],s1),([(0,(1,ZT5)),(0,(0,[]))],s1),([(0,(1,ZT5)),(0,(0,[]))],s1),([(0,(1,ZT5)),(0,(0,[]))],s1),([(0,(1,ZT5)),(0,(0,[]))],s21),([(0,(1,ZT5)),(0,(0,[]))],s21),([(0,(1,ZT5)),(0,(0,[]))],s24),([(0,(1,ZT5)),(0,(0,[]))],s26),([(0,(1,c28)),(0,(1,ZT5)),(0,(0,[]))],s26)] x0 7 [(18,131)]&&true) ((ldL c28 0 (some 5)).bind fun x29=>some (x29,s26)) none
def s128 (e:Env)(n:Nat)(x0 x1:zA)(s2:ASt):Res:=qac (cl e 136 [u8 1,x0,x1,(.sl 0 [] .full)] s2) fun x3 s4=>(zA.cells (some 5) x3).bind fun c5=>(over ZT5 0 c5).bind fun c6=>(ldL c6 0 (some 5)).bind fun x7=>some (x7,s4)
def s129 (e:Env)(n:Nat)(x0 x1 x2 x3:zA)(s4:ASt):Res:=(bn .eql x0 (i64 1)).bind fun x5=>qae x5 ((bn .add x2 x3).bind fun x6=>(bn .rem x6 x1).bind fun x7=>some (x7,s4)) ((bn .eql x0 (i64 2)).bind fun x8=>qae x8 ((bn .sub x2 x3).bind fun x9=>(bn .add x9 x1).bind fun x10=>(bn .rem x10 x1).bind fun x11=>some (x11,s4)) ((bn .eql x0 (i64 3)).bind fun x12=>qae x12 ((bn .mul x2 x3).bind fun x13=>(bn .rem x13 x1).bind fun x14=>some (x14,s4)) ((bn .eql x0 (i64 4)).bind fun x15=>qae x15 ((bn .eql x2 x3).bind fun x16=>qac (cl e 138 [x16] s4) fun x17 s18=>some (x17,s18)) ((bn .lss x2 x3).bind fun x19=>qac (cl e 138 [x19] s4) fun x20 s21=>some (x20,s21)))))
def s130_0 (e:Env)(n:Nat)(s1:ASt)(c2:List zA):zA->Res:=fun x15=>qae x15 (some (i64 2,s1)) ((ldL c2 2 none).bind fun x16=>some (x16,s1))
def s130_1 (e:Env)(n:Nat)(c2:List zA)(s1:ASt)(x3:zA):zA->Res:=fun x25=>qae x25 ((ldL c2 0 (some 7)).bind fun x26=>(ldL c2 4 none).bind fun x27=>(ln false x27).bind fun x28=>(bn .sub x28 (i64 1)).bind fun x29=>qac (cl e 132 [x26,x29] s1) fun x30 s31=>qac (cl e 130 [x30] s31) fun x32 s33=>some (x32,s33)) ((bn .eql x3 (u8 17)).bind fun x34=>qae x34 ((ldL c2 0 (some 7)).bind fun x35=>qac (cl e 132 [x35,i64 0] s1) fun x36 s37=>qac (cl e 130 [x36] s37) fun x38 s39=>some (x38,s39)) (some (i64 1,s1)))
def s130_2 (e:Env)(n:Nat)(j40:zA->Res):zA->Res:=fun x42=>j40 x42
def s130_3 (e:Env)(n:Nat)(j43:zA->Res):zA->Res:=fun x45=>j43 x45
def s130_4 (e:Env)(n:Nat)(j46:zA->Res):zA->Res:=fun x48=>j46 x48
def s130_5 (e:Env)(n:Nat)(j49:zA->Res):zA->Res:=fun x51=>j49 x51
def s130_6 (e:Env)(n:Nat)(c2:List zA)(s1:ASt)(x3:zA):zA->Res:=fun x7=>qae x7 ((ldL c2 5 none).bind fun x8=>(ldL c2 3 none).bind fun x9=>(bn .sub x9 (i64 1)).bind fun x10=>qac (iaV 1 x8 x10) fun q11 o12=>(ldH e s1 (.elem q11 o12) none).bind fun x13=>some (x13,s1)) ((bn .eql x3 (u8 5)).bind fun x14=>qae x14 (jn (s130_0 e n s1 c2) fun j17=>(ldL c2 1 none).bind fun x18=>(bn .eql x18 (i64 4)).bind fun x19=>qae x19 (j17 (bl true)) ((ldL c2 1 none).bind fun x20=>(bn .eql x20 (i64 5)).bind fun x21=>j17 x21)) ((bn .eql x3 (u8 6)).bind fun x22=>qae x22 ((ldL c2 1 none).bind fun x23=>some (x23,s1)) ((bn .eql x3 (u8 7)).bind fun x24=>jn (s130_1 e n c2 s1 x3) fun j40=>qae x24 (j40 x24) ((bn .eql x3 (u8 8)).bind fun x41=>jn (s130_2 e n j40) fun j43=>qae x41 (j43 x41) ((bn .eql x3 (u8 10)).bind fun x44=>jn (s130_3 e n j43) fun j46=>qae x44 (j46 x44) ((bn .eql x3 (u8 11)).bind fun x47=>jn (s130_4 e n j46) fun j49=>qae x47 (j49 x47) ((bn .eql x3 (u8 13)).bind fun x50=>jn (s130_5 e n j49) fun j52=>qae x50 (j52 x50) ((bn .eql x3 (u8 18)).bind fun x53=>j52 x53))))))))
def s130_7 (e:Env)(n:Nat)(j54:zA->Res):zA->Res:=fun x56=>j54 x56
def s130_8 (e:Env)(n:Nat)(j57:zA->Res):zA->Res:=fun x59=>j57 x59
def s130 (e:Env)(n:Nat)(x0:zA)(s1:ASt):Res:=(zA.cells (some 7) x0).bind fun c2=>(ldL c2 0 none).bind fun x3=>(bn .eql x3 (u8 1)).bind fun x4=>qae x4 ((ldL c2 2 none).bind fun x5=>some (x5,s1)) ((bn .eql x3 (u8 2)).bind fun x6=>jn (s130_6 e n c2 s1 x3) fun j54=>qae x6 (j54 x6) ((bn .eql x3 (u8 3)).bind fun x55=>jn (s130_7 e n j54) fun j57=>qae x55 (j57 x55) ((bn .eql x3 (u8 15)).bind fun x58=>jn (s130_8 e n j57) fun j60=>qae x58 (j60 x58) ((bn .eql x3 (u8 16)).bind fun x61=>j60 x61))))
def s131 (e:Env)(n:Nat)(x0:zA)(s1:ASt):Res:=faK 0 x0 fun x2=>faK 4 x2 fun x3=>(ldH e s1 x3 none).bind fun x4=>qac (iaV 5 x4 (i64 0)) fun q5 o6=>(ldH e s1 (.elem q5 (o6+1)) none).bind fun x7=>faK 0 x0 fun x8=>faK 1 x8 fun x9=>(ldH e s1 x9 none).bind fun x10=>(bn .rem x7 x10).bind fun x11=>faK 0 x0 fun x12=>faK 1 x12 fun x13=>(ldH e s1 x13 none).bind fun x14=>qac (cl e 128 [x11,x14] s1) fun x15 s16=>(zA.cells (some 5) x15).bind fun c17=>(over ZT5 0 c17).bind fun c18=>(ldL c18 0 (some 5)).bind fun x19=>some (x19,s16)
def s132_0 (e:Env)(n:Nat):List zA->List zA->List zA->ASt->Res:=fun c15 c16 c17 s18=>(ldL c17 0 (some 7)).bind fun x19=>(zA.cells (some 7) x19).bind fun c20=>(over c16 0 c20).bind fun c21=>(ldL c21 0 (some 7)).bind fun x22=>some (x22,s18)
def s132_1 (e:Env)(n:Nat)(j23:List zA->List zA->List zA->ASt->Res):List zA->List zA->List zA->ASt->Res:=fun c34 c35 c36 s37=>j23 c34 c35 c36 s37
def s132_2 (e:Env)(n:Nat)(j23:List zA->List zA->List zA->ASt->Res)(c3:List zA)(s2:ASt)(c12:List zA):zA->Res:=fun x33=>jn (s132_1 e n j23) fun j38=>qae x33 ((ldL c3 5 none).bind fun x39=>qac (cl e 183 [x39] s2) fun x40 s41=>(ldL c3 0 (some 7)).bind fun x42=>qac (cl e 132 [x42,i64 0] s41) fun x43 s44=>qac (cl e 130 [x43] s44) fun x45 s46=>(ms 1 [(.int .i64 0)] [(0,none,(.c x45))]).bind fun x47=>qac (ap e 1 8 x40 x47 s46) fun x48 s49=>(zA.cells none x48).bind fun c50=>(over c12 5 c50).bind fun c51=>j38 c3 [u8 0,i64 0,i64 0,i64 0,(.sl 0 [] .full),(.sl 0 [] .full),i64 0] c51 s49) (j38 c3 [u8 0,i64 0,i64 0,i64 0,(.sl 0 [] .full),(.sl 0 [] .full),i64 0] c12 s2)
def s132 (e:Env)(n:Nat)(x0 x1:zA)(s2:ASt):Res:=(zA.cells (some 7) x0).bind fun c3=>(ldL c3 4 none).bind fun x4=>qac (iaV 5 x4 x1) fun q5 o6=>(ldH e s2 (.elem q5 o6) (some 5)).bind fun x7=>(ldL c3 5 none).bind fun x8=>(ldL c3 6 none).bind fun x9=>(bd [u8 0,i64 0,i64 0,i64 0,(.sl 0 [] .full),(.sl 0 [] .full),i64 0] [(0,(some 5),(.c x7)),(5,none,(.c x8)),(6,none,(.c x9))]).bind fun x10=>(zA.cells (some 7) x10).bind fun c11=>(over [u8 0,i64 0,i64 0,i64 0,(.sl 0 [] .full),(.sl 0 [] .full),i64 0] 0 c11).bind fun c12=>(ldL c3 0 none).bind fun x13=>(bn .eql x13 (u8 10)).bind fun x14=>jn (s132_0 e n) fun j23=>qae x14 ((ldL c3 5 none).bind fun x24=>qac (cl e 183 [x24] s2) fun x25 s26=>(ldL c3 1 none).bind fun x27=>(ms 1 [(.int .i64 0)] [(0,none,(.c x27))]).bind fun x28=>qac (ap e 1 8 x25 x28 s26) fun x29 s30=>(zA.cells none x29).bind fun c31=>(over c12 5 c31).bind fun c32=>j23 c3 [u8 0,i64 0,i64 0,i64 0,(.sl 0 [] .full),(.sl 0 [] .full),i64 0] c32 s30) (jn (s132_2 e n j23 c3 s2 c12) fun j52=>(ldL c3 0 none).bind fun x53=>(bn .eql x53 (u8 17)).bind fun x54=>qae x54 ((bn .eql x1 (i64 1)).bind fun x55=>j52 x55) (j52 (bl false)))
def s133 (e:Env)(n:Nat)(x0:zA)(s1:ASt):Res:=(zA.cells (some 7) x0).bind fun c2=>(ldL c2 4 none).bind fun x3=>qac (iaV 5 x3 (i64 0)) fun q4 o5=>(ldH e s1 (.elem q4 o5) (some 5)).bind fun x6=>(zA.cells (some 5) x6).bind fun c7=>(over ZT5 0 c7).bind fun c8=>(ldL c8 0 (some 5)).bind fun x9=>some (x9,s1)
def s134 (e:Env)(n:Nat)(x0 x1:zA)(s2:ASt):Res:=qac (cl e 184 [x0,x1] s2) fun x3 s4=>(bn .geq x3 (i64 0)).bind fun x5=>some (x5,s4)
def s135 (e:Env)(n:Nat)(x0:zA)(s1:ASt):Res:=faK 0 x0 fun x2=>faK 1 x2 fun x3=>(ldH e s1 x3 none).bind fun x4=>faK 0 x0 fun x5=>faK 2 x5 fun x6=>(ldH e s1 x6 none).bind fun x7=>faK 0 x0 fun x8=>faK 4 x8 fun x9=>(ldH e s1 x9 none).bind fun x10=>qac (iaV 5 x10 (i64 1)) fun q11 o12=>(ldH e s1 (.elem q11 o12) (some 5)).bind fun x13=>faK 0 x0 fun x14=>faK 4 x14 fun x15=>(ldH e s1 x15 none).bind fun x16=>qac (iaV 5 x16 (i64 0)) fun q17 o18=>(ldH e s1 (.elem q17 o18) (some 5)).bind fun x19=>(ms 2 [(.int .u8 0),(.int .i64 0),(.int .i64 0),(.int .i64 0),(.sl 0 []),(.int .u8 0),(.int .i64 0),(.int .i64 0),(.int .i64 0),(.sl 0 [])] [(0,(some 5),(.c x13)),(5,(some 5),(.c x19))]).bind fun x20=>qac (cl e 136 [u8 5,x4,x7,x20] s1) fun x21 s22=>(zA.cells (some 5) x21).bind fun c23=>(over ZT5 0 c23).bind fun c24=>(ldL c24 0 (some 5)).bind fun x25=>some (x25,s22)
def s136 (e:Env)(n:Nat)(x0 x1 x2 x3:zA)(s4:ASt):Res:=(bd ZT5 [(0,none,(.c x0)),(1,none,(.c x1)),(2,none,(.c x2)),(4,none,(.c x3))]).bind fun x5=>(zA.cells (some 5) x5).bind fun c6=>(over ZT5 0 c6).bind fun c7=>(ldL c7 0 (some 5)).bind fun x8=>some (x8,s4)
def s137 (e:Env)(n:Nat)(x0:zA)(s1:ASt):Res:=faK 0 x0 fun x2=>faK 4 x2 fun x3=>(ldH e s1 x3 none).bind fun x4=>faK 0 x0 fun x5=>faK 4 x5 fun x6=>(ldH e s1 x6 none).bind fun x7=>qac (iaV 5 x7 (i64 0)) fun q8 o9=>(ldH e s1 (.elem q8 (o9+1)) none).bind fun x10=>(bn .eql x10 (i64 0)).bind fun x11=>qac (cl e 138 [x11] s1) fun x12 s13=>(bn .add (i64 1) x12).bind fun x14=>qac (iaV 5 x4 x14) fun q15 o16=>(ldH e s13 (.elem q15 o16) (some 5)).bind fun x17=>(zA.cells (some 5) x17).bind fun c18=>(over ZT5 0 c18).bind fun c19=>cnd (okV e [([(0,(1,ZT5)),(0,(0,[]))],s1),([(0,(1,ZT5)),(0,(0,[]))],s1),([(0,(1,ZT5)),(0,(0,[]))],s1),([(0,(1,ZT5)),(0,(0,[]))],s1),([(0,(1,ZT5)),(0,(0,[]))],s1),([(0,(1,ZT5)),(0,(0,[]))],s1),([(0,(1,ZT5)),(0,(0,[]))],s1),([(0,(1,ZT5)),(0,(0,[]))],s1),([(0,(1,ZT5)),(0,(0,[]))],s1),([(0,(1,ZT5)),(0,(0,[]))],s1),([(0,(1,ZT5)),(0,(0,[]))],s1),([(0,(1,ZT5)),(0,(0,[]))],s13),([(0,(1,ZT5)),(0,(0,[]))],s13),([(0,(1,ZT5)),(0,(0,[]))],s13),([(0,(1,ZT5)),(0,(0,[]))],s13),([(0,(1,c19)),(0,(1,ZT5)),(0,(0,[]))],s13)] x3 1 [(10,140)]&&true) ((ldL c19 0 (some 5)).bind fun x20=>some (x20,s13)) none
def s138 (e:Env)(n:Nat)(x0:zA)(s1:ASt):Res:=qae x0 (some (i64 1,s1)) (some (i64 0,s1))
def s139_0 (e:Env)(n:Nat):zA->ASt->Res:=fun x5 s6=>some (x5,s6)
def s139 (e:Env)(n:Nat)(x0 x1:zA)(s2:ASt):Res:=(zA.cells (some 5) x0).bind fun c3=>(zA.cells (some 5) x1).bind fun c4=>jn (s139_0 e n) fun j7=>(ldL c3 0 none).bind fun x8=>(ldL c4 0 none).bind fun x9=>(bn .eql x8 x9).bind fun x10=>qae x10 ((ldL c3 1 none).bind fun x11=>(ldL c4 1 none).bind fun x12=>(bn .eql x11 x12).bind fun x13=>qae x13 ((ldL c3 2 none).bind fun x14=>(ldL c4 2 none).bind fun x15=>(bn .eql x14 x15).bind fun x16=>qae x16 ((ldL c3 3 none).bind fun x17=>(ldL c4 3 none).bind fun x18=>(bn .eql x17 x18).bind fun x19=>qae x19 ((ldL c3 4 none).bind fun x20=>(ldL c4 4 none).bind fun x21=>qac (cl e 185 [x20,x21,(.p (.func 139 [] []))] s2) fun x22 s23=>j7 x22 s23) (j7 (bl false) s2)) (j7 (bl false) s2)) (j7 (bl false) s2)) (j7 (bl false) s2)
def s140 (e:Env)(n:Nat)(x0:zA)(s1:ASt):Res:=faK 0 x0 fun x2=>faK 4 x2 fun x3=>(ldH e s1 x3 none).bind fun x4=>qac (iaV 5 x4 (i64 0)) fun q5 o6=>(ldH e s1 (.elem q5 o6) (some 5)).bind fun x7=>qac (cl e 142 [x7] s1) fun x8 s9=>faK 0 x0 fun x10=>faK 4 x10 fun x11=>(ldH e s9 x11 none).bind fun x12=>qac (iaV 5 x12 (i64 1)) fun q13 o14=>(ldH e s9 (.elem q13 o14) (some 5)).bind fun x15=>qac (cl e 141 [x8,x15] s9) fun x16 s17=>(zA.cells (some 5) x16).bind fun c18=>(over ZT5 0 c18).bind fun c19=>cnd (okV e [([(0,(1,ZT5)),(0,(0,[]))],s1),([(0,(1,ZT5)),(0,(0,[]))],s1),([(0,(1,ZT5)),(0,(0,[]))],s1),([(0,(1,ZT5)),(0,(0,[]))],s1),([(0,(1,ZT5)),(0,(0,[]))],s1),([(0,(1,ZT5)),(0,(0,[]))],s1),([(0,(1,ZT5)),(0,(0,[]))],s9),([(0,(1,ZT5)),(0,(0,[]))],s9),([(0,(1,ZT5)),(0,(0,[]))],s9),([(0,(1,ZT5)),(0,(0,[]))],s9),([(0,(1,ZT5)),(0,(0,[]))],s9),([(0,(1,ZT5)),(0,(0,[]))],s9),([(0,(1,ZT5)),(0,(0,[]))],s17),([(0,(1,c19)),(0,(1,ZT5)),(0,(0,[]))],s17)] x11 1 [(5,144)]&&true) ((ldL c19 0 (some 5)).bind fun x20=>some (x20,s17)) none
def s141 (e:Env)(n:Nat)(x0 x1:zA)(s2:ASt):Res:=(zA.cells (some 5) x0).bind fun c3=>(zA.cells (some 5) x1).bind fun c4=>(ldL c3 0 (some 5)).bind fun x5=>(ldL c4 0 (some 5)).bind fun x6=>(ms 2 [(.int .u8 0),(.int .i64 0),(.int .i64 0),(.int .i64 0),(.sl 0 []),(.int .u8 0),(.int .i64 0),(.int .i64 0),(.int .i64 0),(.sl 0 [])] [(0,(some 5),(.c x5)),(5,(some 5),(.c x6))]).bind fun x7=>qac (cl e 136 [u8 7,i64 0,i64 0,x7] s2) fun x8 s9=>(zA.cells (some 5) x8).bind fun c10=>(over ZT5 0 c10).bind fun c11=>(ldL c11 0 (some 5)).bind fun x12=>some (x12,s9)
def s142 (e:Env)(n:Nat)(x0:zA)(s1:ASt):Res:=(zA.cells (some 5) x0).bind fun c2=>(ldL c2 0 (some 5)).bind fun x3=>(ms 1 [(.int .u8 0),(.int .i64 0),(.int .i64 0),(.int .i64 0),(.sl 0 [])] [(0,(some 5),(.c x3))]).bind fun x4=>qac (cl e 136 [u8 6,i64 1,i64 0,x4] s1) fun x5 s6=>(zA.cells (some 5) x5).bind fun c7=>(over ZT5 0 c7).bind fun c8=>(ldL c8 0 (some 5)).bind fun x9=>some (x9,s6)
def s143_0 (e:Env)(n:Nat):zA->ASt->Res:=fun x5 s6=>some (x5,s6)
def s143 (e:Env)(n:Nat)(x0 x1 x2:zA)(s3:ASt):Res:=(zA.cells (some 5) x0).bind fun c4=>jn (s143_0 e n) fun j7=>(ldL c4 0 (some 5)).bind fun x8=>qac (cl e 125 [x8] s3) fun x9 s10=>qae x9 ((ldL c4 1 none).bind fun x11=>(bn .eql x11 x1).bind fun x12=>qae x12 ((ldL c4 2 none).bind fun x13=>(bn .eql x13 x2).bind fun x14=>j7 x14 s10) (j7 (bl false) s10)) (j7 (bl false) s10)
def s144 (e:Env)(n:Nat)(x0 x1:zA)(s2:ASt):Res:=(ldH e s2 x0 none).bind fun x3=>qac (iaV 5 x3 (i64 0)) fun q4 o5=>(ldH e s2 (.elem q4 o5) (some 5)).bind fun x6=>faK 0 x1 fun x7=>faK 4 x7 fun x8=>(ldH e s2 x8 none).bind fun x9=>qac (iaV 5 x9 (i64 2)) fun q10 o11=>(ldH e s2 (.elem q10 o11) (some 5)).bind fun x12=>faK 0 x1 fun x13=>faK 4 x13 fun x14=>(ldH e s2 x14 none).bind fun x15=>qac (iaV 5 x15 (i64 1)) fun q16 o17=>(ldH e s2 (.elem q16 o17) (some 5)).bind fun x18=>(ms 3 [(.int .u8 0),(.int .i64 0),(.int .i64 0),(.int .i64 0),(.sl 0 []),(.int .u8 0),(.int .i64 0),(.int .i64 0),(.int .i64 0),(.sl 0 []),(.int .u8 0),(.int .i64 0),(.int .i64 0),(.int .i64 0),(.sl 0 [])] [(0,(some 5),(.c x6)),(5,(some 5),(.c x12)),(10,(some 5),(.c x18))]).bind fun x19=>qac (cl e 136 [u8 8,i64 0,i64 0,x19] s2) fun x20 s21=>(zA.cells (some 5) x20).bind fun c22=>(over ZT5 0 c22).bind fun c23=>(ldL c23 0 (some 5)).bind fun x24=>some (x24,s21)
def s145 (e:Env)(n:Nat)(x0:zA)(s1:ASt):Res:=(zA.cells (some 7) x0).bind fun c2=>(ldL c2 4 none).bind fun x3=>qac (iaV 5 x3 (i64 1)) fun q4 o5=>(ldH e s1 (.elem q4 o5) (some 5)).bind fun x6=>(zA.cells (some 5) x6).bind fun c7=>(over ZT5 0 c7).bind fun c8=>(ldL c8 0 (some 5)).bind fun x9=>some (x9,s1)
def s146 (e:Env)(n:Nat)(x0 x1:zA)(s2:ASt):Res:=faK 0 x0 fun x3=>faK 4 x3 fun x4=>(ldH e s2 x4 none).bind fun x5=>qac (iaV 5 x5 (i64 0)) fun q6 o7=>(ldH e s2 (.elem q6 o7) (some 5)).bind fun x8=>(ldH e s2 x1 (some 5)).bind fun x9=>qac (cl e 141 [x8,x9] s2) fun x10 s11=>(zA.cells (some 5) x10).bind fun c12=>(over ZT5 0 c12).bind fun c13=>(ldL c13 0 (some 5)).bind fun x14=>some (x14,s11)
def s147 (e:Env)(n:Nat)(s0:ASt):Res:=qac (cl e 128 [i64 0,i64 1] s0) fun x1 s2=>(zA.cells (some 5) x1).bind fun c3=>(over ZT5 0 c3).bind fun c4=>(ldL c4 0 (some 5)).bind fun x5=>some (x5,s2)
def s148_0 (e:Env)(n:Nat)(c4:List zA)(x2:zA):zA->ASt->Res:=fun x5 s6=>qae x5 (qac (cl e 98 [] s6) fun x7 s8=>(ex x7 0).bind fun x9=>(ex x7 1).bind fun x10=>(zA.cells (some 5) x9).bind fun c11=>(over ZT5 0 c11).bind fun c12=>(ldL c12 0 (some 5)).bind fun x13=>some (.tuple [x13,x10],s8)) ((ldL c4 4 none).bind fun x14=>qac (iaV 5 x14 (i64 0)) fun q15 o16=>(ldH e s6 (.elem q15 o16) (some 5)).bind fun x17=>(ldL c4 0 (some 7)).bind fun x18=>qac (cl e 187 [x18] s6) fun x19 s20=>qac (cl e 188 [x17,x19,x2] s20) fun x21 s22=>(zA.cells (some 5) x21).bind fun c23=>(over ZT5 0 c23).bind fun c24=>(ldL c24 0 (some 5)).bind fun x25=>some (.tuple [x25,bl true],s22))
def s148 (e:Env)(n:Nat)(x0 x1 x2:zA)(s3:ASt):Res:=(zA.cells (some 7) x0).bind fun c4=>jn (s148_0 e n c4 x2) fun j26=>(ldL c4 0 (some 7)).bind fun x27=>qac (cl e 124 [x27,u8 10] s3) fun x28 s29=>(nt x28).bind fun x30=>qae x30 (j26 (bl true) s29) ((ldL c4 4 none).bind fun x31=>qac (iaV 5 x31 (i64 0)) fun q32 o33=>(ldH e s29 (.elem q32 o33) (some 5)).bind fun x34=>(ldL c4 0 (some 7)).bind fun x35=>qac (cl e 187 [x35] s29) fun x36 s37=>qac (cl e 186 [x34,x36] s37) fun x38 s39=>qac (clv e x1 [x38] s39) fun x40 s41=>(nt x40).bind fun x42=>j26 x42 s41)
def s149 (e:Env)(n:Nat)(x0:zA)(s1:ASt):Res:=(zA.cells (some 3) x0).bind fun c2=>(ldL c2 0 (some 3)).bind fun x3=>(bd [bl false,bl false,bl false] []).bind fun x4=>(eqs [0,0,0] false x3 x4).bind fun x5=>some (x5,s1)
def s150 (e:Env)(n:Nat)(x0:zA)(s1:ASt):Res:=(zA.cells (some 3) x0).bind fun c2=>(ldL c2 0 (some 3)).bind fun x3=>(bd [bl false,bl false,bl false] [(0,none,(.c (bl true)))]).bind fun x4=>(eqs [0,0,0] false x3 x4).bind fun x5=>some (x5,s1)
def s151 (e:Env)(n:Nat)(x0 x1:zA)(s2:ASt):Res:=(zA.cells (some 5) x0).bind fun c3=>faK 0 x1 fun x4=>faK 2 x4 fun x5=>(ldH e s2 x5 none).bind fun x6=>faK 0 x1 fun x7=>faK 1 x7 fun x8=>(ldH e s2 x8 none).bind fun x9=>qac (cl e 128 [x6,x9] s2) fun x10 s11=>(zA.cells (some 5) x10).bind fun c12=>(over ZT5 0 c12).bind fun c13=>(ldL c13 0 (some 5)).bind fun x14=>some (x14,s11)
def s152 (e:Env)(n:Nat)(x0:zA)(s1:ASt):Res:=(zA.cells (some 5) x0).bind fun c2=>(ldL c2 0 none).bind fun x3=>(bn .eql x3 (u8 18)).bind fun x4=>qae x4 ((ldL c2 4 none).bind fun x5=>qac (iaV 5 x5 (i64 0)) fun q6 o7=>(ldH e s1 (.elem q6 o7) (some 5)).bind fun x8=>(zA.cells (some 5) x8).bind fun c9=>(over ZT5 0 c9).bind fun c10=>(ldL c10 0 (some 5)).bind fun x11=>some (x11,s1)) ((ldL c2 4 none).bind fun x12=>qac (iaV 5 x12 (i64 0)) fun q13 o14=>(ldH e s1 (.elem q13 o14) (some 5)).bind fun x15=>qac (cl e 142 [x15] s1) fun x16 s17=>(zA.cells (some 5) x16).bind fun c18=>(over ZT5 0 c18).bind fun c19=>(ldL c19 0 (some 5)).bind fun x20=>some (x20,s17))
def s153 (e:Env)(n:Nat)(x0:zA)(s1:ASt):Res:=(zA.cells (some 3) x0).bind fun c2=>(ldL c2 0 (some 3)).bind fun x3=>(bd [bl false,bl false,bl false] [(1,none,(.c (bl true)))]).bind fun x4=>(eqs [0,0,0] false x3 x4).bind fun x5=>some (x5,s1)
def s154 (e:Env)(n:Nat)(x0:zA)(s1:ASt):Res:=(ldH e s1 x0 (some 5)).bind fun x2=>faK 4 x0 fun x3=>(ldH e s1 x3 none).bind fun x4=>qac (iaV 5 x4 (i64 0)) fun q5 o6=>(ldH e s1 (.elem q5 o6) (some 5)).bind fun x7=>qac (cl e 141 [x2,x7] s1) fun x8 s9=>(zA.cells (some 5) x8).bind fun c10=>(over ZT5 0 c10).bind fun c11=>(ldL c11 0 (some 5)).bind fun x12=>some (x12,s9)
def s155 (e:Env)(n:Nat)(x0:zA)(s1:ASt):Res:=(zA.cells (some 5) x0).bind fun c2=>(ldL c2 0 (some 5)).bind fun x3=>qac (cl e 159 [x3,(.p (.func 189 [] []))] s1) fun x4 s5=>some (x4,s5)
def s156 (e:Env)(n:Nat)(x0:zA)(s1:ASt):Res:=faK 0 x0 fun x2=>faK 4 x2 fun x3=>(ldH e s1 x3 none).bind fun x4=>qac (iaV 5 x4 (i64 0)) fun q5 o6=>(ldH e s1 (.elem q5 o6) (some 5)).bind fun x7=>qac (cl e 157 [x7] s1) fun x8 s9=>(zA.cells (some 5) x8).bind fun c10=>(over ZT5 0 c10).bind fun c11=>(ldL c11 0 (some 5)).bind fun x12=>some (x12,s9)
def s157 (e:Env)(n:Nat)(x0:zA)(s1:ASt):Res:=(zA.cells (some 5) x0).bind fun c2=>(ldL c2 0 (some 5)).bind fun x3=>qac (cl e 108 [x3,i64 0,(.p (.func 190 [] []))] s1) fun x4 s5=>(zA.cells (some 5) x4).bind fun c6=>(over ZT5 0 c6).bind fun c7=>(ldL c7 0 (some 5)).bind fun x8=>some (x8,s5)
def s158_0 (e:Env)(n:Nat)(s3:ASt):zA->Res:=fun x5=>some (x5,s3)
def s158 (e:Env)(n:Nat)(x0 x1 x2:zA)(s3:ASt):Res:=(zA.cells (some 5) x0).bind fun c4=>jn (s158_0 e n s3) fun j6=>(ldL c4 0 none).bind fun x7=>(bn .eql x7 (u8 2)).bind fun x8=>qae x8 (j6 (bl true)) ((ldL c4 0 none).bind fun x9=>(bn .eql x9 (u8 12)).bind fun x10=>qae x10 (j6 (bl true)) ((ldL c4 3 none).bind fun x11=>(bn .gtr x11 (i64 0)).bind fun x12=>qae x12 ((ldL c4 3 none).bind fun x13=>faK 6 x2 fun x14=>(ldH e s3 x14 none).bind fun x15=>(bn .leq x13 x15).bind fun x16=>j6 x16) (j6 (bl false))))
def s159 (e:Env)(n:Nat)(x0 x1:zA)(s2:ASt):Res:=(zA.cells (some 5) x0).bind fun c3=>(zA.cells none x1).bind fun c4=>cnd (c4.all qaY) (qdX s2 (.cells c4) fun l5 s6=>qdX s6 (.cells [bl false]) fun l7 s8=>(zA.cells none (bl false)).bind fun c9=>(stH s8 (.ptr l7 0) c9).bind fun s10=>(ldL c3 0 (some 5)).bind fun x11=>(mf 191 [] [.ptr l7 0,.ptr l5 0]).bind fun x12=>qac (cl e 108 [x11,i64 0,x12] s10) fun x13 s14=>(ldH e s14 (.ptr l7 0) none).bind fun x15=>some (x15,s14)) none
def s160 (e:Env)(n:Nat)(x0:zA)(s1:ASt):Res:=(zA.cells (some 2) x0).bind fun c2=>(ldL c2 0 (some 2)).bind fun x3=>qac (cl e 103 [x3] s1) fun x4 s5=>(nt x4).bind fun x6=>some (x6,s5)
def s161 (e:Env)(n:Nat)(x0 x1:zA)(s2:ASt):Res:=qac (cl e 192 [x0,x1] s2) fun x3 s4=>(bn .geq x3 (i64 0)).bind fun x5=>some (x5,s4)
def s162_0 (e:Env)(n:Nat)(x3 x0 x1:zA):zA->ASt->Res:=lp (fun _ _=>none) (fun h6 x4 s5=>(bn .lss x4 x3).bind fun x7=>qae x7 (qac (iaV 3 x0 x4) fun q8 o9=>(ldH e s5 (.elem q8 o9) (some 3)).bind fun x10=>qac (clv e x1 [x10] s5) fun x11 s12=>qae x11 (some (x4,s12)) ((bn .add x4 (i64 1)).bind fun x13=>h6 x13 s12)) (some ((i64 (-1)),s5))) n
def s162 (e:Env)(n:Nat)(x0 x1:zA)(s2:ASt):Res:=(ln false x0).bind fun x3=>s162_0 e n x3 x0 x1 (i64 0) s2
def s163_0 (e:Env)(n:Nat):zA->zA->ASt->Res:=fun x12 x13 s14=>some (.tuple [x12,x13],s14)
def s163_1 (e:Env)(n:Nat):zA->zA->ASt->Res:=fun x33 x34 s35=>some (.tuple [x33,x34],s35)
def s163_2 (e:Env)(n:Nat):zA->zA->ASt->Res:=fun x61 x62 s63=>some (.tuple [x61,x62],s63)
def s163_3 (e:Env)(n:Nat)(s76:ASt):zA->zA->Res:=fun x81 x82=>some (.tuple [x81,x82],s76)
def s163_4 (e:Env)(n:Nat)(c3 c4:List zA)(s8:ASt):zA->Res:=fun x93=>qae x93 ((ldL c3 0 (some 4)).bind fun x94=>(ldL c4 0 (some 5)).bind fun x95=>qac (cl e 196 [x94,x95] s8) fun x96 s97=>(ex x96 0).bind fun x98=>(ex x96 1).bind fun x99=>some (.tuple [x98,x99],s97)) ((ldL c3 0 (some 4)).bind fun x100=>(ldL c4 0 (some 5)).bind fun x101=>qac (cl e 197 [x100,x101] s8) fun x102 s103=>(ex x102 0).bind fun x104=>(ex x102 1).bind fun x105=>some (.tuple [x104,x105],s103))
def s163 (e:Env)(n:Nat)(x0 x1:zA)(s2:ASt):Res:=(zA.cells (some 4) x0).bind fun c3=>(zA.cells (some 5) x1).bind fun c4=>(ldL c3 0 (some 4)).bind fun x5=>(ldL c4 0 (some 5)).bind fun x6=>qac (cl e 105 [x5,x6] s2) fun x7 s8=>(nt x7).bind fun x9=>qae x9 (some (.tuple [i64 0,bl false],s8)) ((ldL c4 0 none).bind fun x10=>(bn .eql x10 (u8 1)).bind fun x11=>qae x11 (jn (s163_0 e n) fun j15=>(ldL c4 2 none).bind fun x16=>(ldL c4 2 none).bind fun x17=>qac (cl e 193 [x17] s8) fun x18 s19=>qae x18 ((ldL c4 1 none).bind fun x20=>(ldL c4 2 none).bind fun x21=>qac (cl e 194 [x20,x21] s19) fun x22 s23=>j15 x16 x22 s23) (j15 x16 (bl false) s19)) ((bn .eql x10 (u8 2)).bind fun x24=>qae x24 ((ldL c3 0 (some 4)).bind fun x25=>(ldL c4 3 none).bind fun x26=>qac (cl e 164 [x25,x26] s8) fun x27 s28=>(ex x27 0).bind fun x29=>(ex x27 1).bind fun x30=>(zA.cells (some 4) x29).bind fun c31=>(over [(.sl 0 [] .full),bl false,i64 0,bl false] 0 c31).bind fun c32=>jn (s163_1 e n) fun j36=>(ldL c32 2 none).bind fun x37=>qae x30 ((ldL c32 1 none).bind fun x38=>(nt x38).bind fun x39=>qae x39 ((ldL c32 3 none).bind fun x40=>(nt x40).bind fun x41=>qae x41 ((ldL c3 0 (some 4)).bind fun x42=>(ldL c4 4 none).bind fun x43=>(ldL c32 0 none).bind fun x44=>qac (cl e 195 [x42,x43,x44] s28) fun x45 s46=>j36 x37 x45 s46) (j36 x37 (bl false) s28)) (j36 x37 (bl false) s28)) (j36 x37 (bl false) s28)) ((bn .eql x10 (u8 3)).bind fun x47=>qae x47 ((ldL c3 0 (some 4)).bind fun x48=>(ldL c4 3 none).bind fun x49=>qac (cl e 106 [x48,x49] s8) fun x50 s51=>(ex x50 0).bind fun x52=>(ex x50 1).bind fun x53=>some (.tuple [x52,x53],s51)) ((bn .eql x10 (u8 4)).bind fun x54=>qae x54 ((ldL c3 0 (some 4)).bind fun x55=>(ldL c4 3 none).bind fun x56=>qac (cl e 106 [x55,x56] s8) fun x57 s58=>(ex x57 0).bind fun x59=>(ex x57 1).bind fun x60=>jn (s163_2 e n) fun j64=>qae x60 ((ldL c3 0 (some 4)).bind fun x65=>(ldL c4 4 none).bind fun x66=>qac (iaV 5 x66 (i64 0)) fun q67 o68=>(ldH e s58 (.elem q67 o68) (some 5)).bind fun x69=>qac (cl e 104 [x65,x69,x59] s58) fun x70 s71=>j64 (i64 1) x70 s71) (j64 (i64 1) (bl false) s58)) ((bn .eql x10 (u8 15)).bind fun x72=>qae x72 ((ldL c3 0 (some 4)).bind fun x73=>(ldL c4 3 none).bind fun x74=>qac (cl e 164 [x73,x74] s8) fun x75 s76=>(ex x75 0).bind fun x77=>(ex x75 1).bind fun x78=>(zA.cells (some 4) x77).bind fun c79=>(over [(.sl 0 [] .full),bl false,i64 0,bl false] 0 c79).bind fun c80=>jn (s163_3 e n s76) fun j83=>(ldL c80 2 none).bind fun x84=>qae x78 ((ldL c80 3 none).bind fun x85=>j83 x84 x85) (j83 x84 (bl false))) ((bn .eql x10 (u8 12)).bind fun x86=>qae x86 ((ldL c4 1 none).bind fun x87=>(ldL c3 2 none).bind fun x88=>qac (cl e 194 [x87,x88] s8) fun x89 s90=>some (.tuple [i64 1,x89],s90)) ((bn .eql x10 (u8 14)).bind fun x91=>qae x91 (some (.tuple [i64 1,bl true],s8)) ((bn .eql x10 (u8 5)).bind fun x92=>jn (s163_4 e n c3 c4 s8) fun j106=>qae x92 (j106 x92) ((bn .eql x10 (u8 6)).bind fun x107=>j106 x107)))))))))
def s164_0 (e:Env)(n:Nat)(s2:ASt)(c3:List zA)(x1:zA):zA->Res:=fun x4=>qae x4 ((bd [(.sl 0 [] .full),bl false,i64 0,bl false] []).bind fun x5=>(zA.cells (some 4) x5).bind fun c6=>(over [(.sl 0 [] .full),bl false,i64 0,bl false] 0 c6).bind fun c7=>(ldL c7 0 (some 4)).bind fun x8=>some (.tuple [x8,bl false],s2)) ((ldL c3 0 none).bind fun x9=>(bn .sub x1 (i64 1)).bind fun x10=>qac (iaV 4 x9 x10) fun q11 o12=>(ldH e s2 (.elem q11 o12) (some 4)).bind fun x13=>(zA.cells (some 4) x13).bind fun c14=>(over [(.sl 0 [] .full),bl false,i64 0,bl false] 0 c14).bind fun c15=>(ldL c15 0 (some 4)).bind fun x16=>some (.tuple [x16,bl true],s2))
def s164 (e:Env)(n:Nat)(x0 x1:zA)(s2:ASt):Res:=(zA.cells (some 4) x0).bind fun c3=>jn (s164_0 e n s2 c3 x1) fun j17=>(bn .lss x1 (i64 1)).bind fun x18=>qae x18 (j17 (bl true)) ((ldL c3 0 none).bind fun x19=>(ln false x19).bind fun x20=>(bn .gtr x1 x20).bind fun x21=>j17 x21)
def s165 (e:Env)(n:Nat)(x0:zA)(s1:ASt):Res:=(eqv 5 false x0 (.sl 0 [] .full)).bind fun x2=>qae x2 (some ((.sl 0 [] .full),s1)) ((ms 0 [] []).bind fun x3=>qac (ap e 4 48 x3 x0 s1) fun x4 s5=>some (x4,s5))
def s167_0 (e:Env)(n:Nat)(s3:ASt):zA->Res:=fun x4=>some (x4,s3)
def s167 (e:Env)(n:Nat)(x0 x1 x2:zA)(s3:ASt):Res:=jn (s167_0 e n s3) fun j5=>(bn .geq x0 x1).bind fun x6=>qae x6 ((bn .leq x0 x2).bind fun x7=>j5 x7) (j5 (bl false))
def s170_0 (e:Env)(n:Nat)(s1:ASt)(x0:zA):zA->Res:=fun x6=>qae x6 (some (i64 2,s1)) ((bn .eql x0 (u8 8)).bind fun x7=>qae x7 (some (i64 3,s1)) (some (i64 0,s1)))
def s170_1 (e:Env)(n:Nat)(j8:zA->Res):zA->Res:=fun x10=>j8 x10
def s170_2 (e:Env)(n:Nat)(j11:zA->Res):zA->Res:=fun x13=>j11 x13
def s170_3 (e:Env)(n:Nat)(j14:zA->Res):zA->Res:=fun x16=>j14 x16
def s170_4 (e:Env)(n:Nat)(j17:zA->Res):zA->Res:=fun x19=>j17 x19
def s170_5 (e:Env)(n:Nat)(s1:ASt)(x0:zA):zA->Res:=fun x4=>qae x4 (some (i64 1,s1)) ((bn .eql x0 (u8 5)).bind fun x5=>jn (s170_0 e n s1 x0) fun j8=>qae x5 (j8 x5) ((bn .eql x0 (u8 7)).bind fun x9=>jn (s170_1 e n j8) fun j11=>qae x9 (j11 x9) ((bn .eql x0 (u8 9)).bind fun x12=>jn (s170_2 e n j11) fun j14=>qae x12 (j14 x12) ((bn .eql x0 (u8 11)).bind fun x15=>jn (s170_3 e n j14) fun j17=>qae x15 (j17 x15) ((bn .eql x0 (u8 13)).bind fun x18=>jn (s170_4 e n j17) fun j20=>qae x18 (j20 x18) ((bn .eql x0 (u8 17)).bind fun x21=>j20 x21))))))
def s170_6 (e:Env)(n:Nat)(j22:zA->Res):zA->Res:=fun x24=>j22 x24
def s170_7 (e:Env)(n:Nat)(j25:zA->Res):zA->Res:=fun x27=>j25 x27
def s170 (e:Env)(n:Nat)(x0:zA)(s1:ASt):Res:=(bn .eql x0 (u8 2)).bind fun x2=>qae x2 (some ((i64 (-1)),s1)) ((bn .eql x0 (u8 4)).bind fun x3=>jn (s170_5 e n s1 x0) fun j22=>qae x3 (j22 x3) ((bn .eql x0 (u8 6)).bind fun x23=>jn (s170_6 e n j22) fun j25=>qae x23 (j25 x23) ((bn .eql x0 (u8 10)).bind fun x26=>jn (s170_7 e n j25) fun j28=>qae x26 (j28 x26) ((bn .eql x0 (u8 18)).bind fun x29=>j28 x29))))
def s171_0 (e:Env)(n:Nat)(s1:ASt):zA->Res:=fun x2=>some (x2,s1)
def s171 (e:Env)(n:Nat)(x0:zA)(s1:ASt):Res:=jn (s171_0 e n s1) fun j3=>(bn .geq x0 (i64 1)).bind fun x4=>qae x4 ((bn .leq x0 (i64 64)).bind fun x5=>j3 x5) (j3 (bl false))
def s172_0 (e:Env)(n:Nat)(c4 c12:List zA)(x1 x2:zA):zA->ASt->Res:=lp (fun _ _=>none) (fun h16 x14 s15=>(ldL c4 4 none).bind fun x17=>(ln false x17).bind fun x18=>(bn .lss x14 x18).bind fun x19=>qae x19 ((ldL c4 4 none).bind fun x20=>qac (iaV 5 x20 x14) fun q21 o22=>(ldH e s15 (.elem q21 o22) (some 5)).bind fun x23=>(ldL c12 0 none).bind fun x24=>qac (iaV 2 x24 x14) fun q25 o26=>(ldH e s15 (.elem q25 o26) (some 2)).bind fun x27=>qac (cl e 68 [x23,x27,x1,x2] s15) fun x28 s29=>(nt x28).bind fun x30=>qae x30 (some (i64 0,s29)) ((bn .add x14 (i64 1)).bind fun x31=>h16 x31 s29)) ((ldL c12 2 none).bind fun x32=>some (x32,s15))) n
def s172_1 (e:Env)(n:Nat)(s3:ASt)(c4 c12:List zA)(x1 x2:zA):zA->Res:=fun x13=>qae x13 (some (i64 0,s3)) (s172_0 e n c4 c12 x1 x2 (i64 0) s3)
def s172_2 (e:Env)(n:Nat)(s3:ASt)(c4:List zA)(x1 x2:zA):zA->Res:=fun x5=>qae x5 (some (i64 0,s3)) ((ldL c4 3 none).bind fun x6=>(bn .sub x6 (i64 1)).bind fun x7=>qac (iaV 5 x1 x7) fun q8 o9=>(ldH e s3 (.elem q8 o9) (some 3)).bind fun x10=>(zA.cells (some 3) x10).bind fun c11=>(over [(.sl 0 [] .full),bl false,i64 0] 0 c11).bind fun c12=>jn (s172_1 e n s3 c4 c12 x1 x2) fun j33=>(ldL c12 1 none).bind fun x34=>qae x34 (j33 (bl true)) ((ldL c12 0 none).bind fun x35=>(ln false x35).bind fun x36=>(ldL c4 4 none).bind fun x37=>(ln false x37).bind fun x38=>(bn .neq x36 x38).bind fun x39=>j33 x39))
def s172 (e:Env)(n:Nat)(x0 x1 x2:zA)(s3:ASt):Res:=(zA.cells (some 5) x0).bind fun c4=>jn (s172_2 e n s3 c4 x1 x2) fun j40=>(ldL c4 3 none).bind fun x41=>(bn .lss x41 (i64 1)).bind fun x42=>qae x42 (j40 (bl true)) ((ldL c4 3 none).bind fun x43=>(ln false x1).bind fun x44=>(bn .gtr x43 x44).bind fun x45=>qae x45 (j40 (bl true)) ((ldL c4 3 none).bind fun x46=>(bn .sub x46 (i64 1)).bind fun x47=>qac (iaV 5 x1 x47) fun q48 o49=>(ldH e s3 (.elem q48 (o49+3)) none).bind fun x50=>j40 x50))
def s173_0 (e:Env)(n:Nat):ASt->Res:=fun s7=>some (i64 0,s7)
def s173_1 (e:Env)(n:Nat)(j8:ASt->Res):ASt->Res:=fun s14=>j8 s14
def s173_2 (e:Env)(n:Nat)(j15:ASt->Res):ASt->Res:=fun s24=>j15 s24
def s173_3 (e:Env)(n:Nat)(j25:ASt->Res):ASt->Res:=fun s37=>j25 s37
def s173_4 (e:Env)(n:Nat)(j38:ASt->Res):ASt->Res:=fun s44=>j38 s44
def s173_5 (e:Env)(n:Nat)(x1:zA)(j45:ASt->Res):zA->ASt->Res:=fun x46 s47=>qae x46 (qac (iaV 1 x1 (i64 0)) fun q48 o49=>(ldH e s47 (.elem q48 o49) none).bind fun x50=>some (x50,s47)) (j45 s47)
def s173_6 (e:Env)(n:Nat)(j45:ASt->Res)(s3:ASt):Res:=j45 s3
def s173_7 (e:Env)(n:Nat)(j62:Res):Res:=j62
def s173_8 (e:Env)(n:Nat)(s3:ASt)(j74:Res):zA->Res:=fun x75=>qae x75 (some (i64 1,s3)) (j74)
def s173_9 (e:Env)(n:Nat)(j45:ASt->Res)(s3:ASt)(x1 x5:zA)(c4:List zA)(x2:zA):zA->Res:=fun x61=>jn (s173_6 e n j45 s3) fun j62=>qae x61 (qac (iaV 1 x1 (i64 0)) fun q63 o64=>(ldH e s3 (.elem q63 o64) none).bind fun x65=>qac (iaV 1 x1 (i64 1)) fun q66 o67=>(ldH e s3 (.elem q66 o67) none).bind fun x68=>(bn .eql x65 x68).bind fun x69=>qae x69 (qac (iaV 1 x1 (i64 0)) fun q70 o71=>(ldH e s3 (.elem q70 o71) none).bind fun x72=>some (x72,s3)) (j62)) ((bn .eql x5 (u8 12)).bind fun x73=>jn (s173_7 e n j62) fun j74=>qae x73 (jn (s173_8 e n s3 j74) fun j76=>(ldL c4 1 none).bind fun x77=>(bn .geq x77 (i64 0)).bind fun x78=>qae x78 ((ldL c4 1 none).bind fun x79=>(bn .lss x79 x2).bind fun x80=>j76 x80) (j76 (bl false))) ((bn .eql x5 (u8 14)).bind fun x81=>qae x81 (some (i64 1,s3)) (j74)))
def s173 (e:Env)(n:Nat)(x0 x1 x2:zA)(s3:ASt):Res:=(zA.cells (some 5) x0).bind fun c4=>(ldL c4 0 none).bind fun x5=>(bn .eql x5 (u8 6)).bind fun x6=>jn (s173_0 e n) fun j8=>qae x6 ((ldL c4 1 none).bind fun x9=>qac (cl e 171 [x9] s3) fun x10 s11=>qae x10 ((ldL c4 1 none).bind fun x12=>some (x12,s11)) (j8 s11)) ((bn .eql x5 (u8 7)).bind fun x13=>jn (s173_1 e n j8) fun j15=>qae x13 (qac (iaV 1 x1 (i64 0)) fun q16 o17=>(ldH e s3 (.elem q16 o17) none).bind fun x18=>(bn .eql x18 (i64 1)).bind fun x19=>qae x19 (qac (iaV 1 x1 (i64 1)) fun q20 o21=>(ldH e s3 (.elem q20 o21) none).bind fun x22=>some (x22,s3)) (j15 s3)) ((bn .eql x5 (u8 8)).bind fun x23=>jn (s173_2 e n j15) fun j25=>qae x23 (qac (iaV 1 x1 (i64 1)) fun q26 o27=>(ldH e s3 (.elem q26 o27) none).bind fun x28=>qac (iaV 1 x1 (i64 2)) fun q29 o30=>(ldH e s3 (.elem q29 o30) none).bind fun x31=>(bn .eql x28 x31).bind fun x32=>qae x32 (qac (iaV 1 x1 (i64 1)) fun q33 o34=>(ldH e s3 (.elem q33 o34) none).bind fun x35=>some (x35,s3)) (j25 s3)) ((bn .eql x5 (u8 9)).bind fun x36=>jn (s173_3 e n j25) fun j38=>qae x36 (qac (iaV 1 x1 (i64 1)) fun q39 o40=>(ldH e s3 (.elem q39 o40) none).bind fun x41=>(bn .eql x41 (i64 1)).bind fun x42=>qae x42 (some (i64 1,s3)) (j38 s3)) ((bn .eql x5 (u8 10)).bind fun x43=>jn (s173_4 e n j38) fun j45=>qae x43 (jn (s173_5 e n x1 j45) fun j51=>(ldL c4 1 none).bind fun x52=>qac (cl e 171 [x52] s3) fun x53 s54=>qae x53 ((ldL c4 2 none).bind fun x55=>(bn .geq x55 (i64 0)).bind fun x56=>qae x56 ((ldL c4 2 none).bind fun x57=>(ldL c4 1 none).bind fun x58=>(bn .lss x57 x58).bind fun x59=>j51 x59 s54) (j51 (bl false) s54)) (j51 (bl false) s54)) ((bn .eql x5 (u8 11)).bind fun x60=>jn (s173_9 e n j45 s3 x1 x5 c4 x2) fun j82=>qae x60 (j82 x60) ((bn .eql x5 (u8 13)).bind fun x83=>j82 x83))))))
def s174_0 (e:Env)(n:Nat)(c3 c15 c13:List zA):zA->ASt->Res:=fun x30 s31=>qae x30 ((ldL c3 0 (some 5)).bind fun x32=>(ldL c15 0 (some 5)).bind fun x33=>(ldL c13 0 (some 5)).bind fun x34=>(ms 2 [(.int .u8 0),(.int .i64 0),(.int .i64 0),(.int .i64 0),(.sl 0 []),(.int .u8 0),(.int .i64 0),(.int .i64 0),(.int .i64 0),(.sl 0 [])] [(0,(some 5),(.c x33)),(5,(some 5),(.c x34))]).bind fun x35=>qac (cl e 200 [x32,x35] s31) fun x36 s37=>(zA.cells (some 5) x36).bind fun c38=>(over ZT5 0 c38).bind fun c39=>(ldL c39 0 (some 5)).bind fun x40=>some (.tuple [x40,bl true],s37)) ((bd ZT5 []).bind fun x41=>(zA.cells (some 5) x41).bind fun c42=>(over ZT5 0 c42).bind fun c43=>(ldL c43 0 (some 5)).bind fun x44=>some (.tuple [x44,bl false],s31))
def s174_1 (e:Env)(n:Nat)(c13 c3 c15:List zA)(x0:zA):zA->ASt->Res:=fun x24 s25=>qae x24 ((ldL c13 0 (some 5)).bind fun x26=>(zA.cells (some 5) x26).bind fun c27=>(over ZT5 0 c27).bind fun c28=>(ldL c28 0 (some 5)).bind fun x29=>some (.tuple [x29,bl true],s25)) (jn (s174_0 e n c3 c15 c13) fun j45=>(bn .eql x0 (u8 5)).bind fun x46=>qae x46 ((ldL c13 0 (some 5)).bind fun x47=>qac (cl e 175 [x47] s25) fun x48 s49=>qae x48 ((ldL c15 0 (some 5)).bind fun x50=>qac (cl e 175 [x50] s49) fun x51 s52=>(nt x51).bind fun x53=>qae x53 ((ldL c3 1 none).bind fun x54=>(bn .eql x54 (i64 1)).bind fun x55=>qae x55 (j45 (bl true) s52) ((ldL c3 1 none).bind fun x56=>(bn .eql x56 (i64 3)).bind fun x57=>qae x57 (j45 (bl true) s52) ((ldL c3 1 none).bind fun x58=>(bn .eql x58 (i64 4)).bind fun x59=>j45 x59 s52))) (j45 (bl false) s52)) (j45 (bl false) s49)) (j45 (bl false) s25))
def s174_2 (e:Env)(n:Nat)(c3 c13 c15:List zA)(x0:zA):zA->ASt->Res:=fun x16 s17=>qae x16 ((ldL c3 0 (some 5)).bind fun x18=>qac (cl e 198 [x18] s17) fun x19 s20=>(zA.cells (some 5) x19).bind fun c21=>(over ZT5 0 c21).bind fun c22=>(ldL c22 0 (some 5)).bind fun x23=>some (.tuple [x23,bl true],s20)) (jn (s174_1 e n c13 c3 c15 x0) fun j60=>(bn .eql x0 (u8 4)).bind fun x61=>qae x61 ((ldL c13 0 (some 5)).bind fun x62=>qac (cl e 175 [x62] s17) fun x63 s64=>(nt x63).bind fun x65=>qae x65 ((ldL c15 0 (some 5)).bind fun x66=>(ldL c3 2 none).bind fun x67=>qac (cl e 199 [x66,i64 0,x67] s64) fun x68 s69=>qae x68 ((ldL c3 1 none).bind fun x70=>(bn .eql x70 (i64 1)).bind fun x71=>qae x71 (j60 (bl true) s69) ((ldL c3 1 none).bind fun x72=>(bn .eql x72 (i64 2)).bind fun x73=>qae x73 (j60 (bl true) s69) ((ldL c15 0 (some 5)).bind fun x74=>(ldL c3 2 none).bind fun x75=>qac (cl e 199 [x74,i64 1,x75] s69) fun x76 s77=>qae x76 ((ldL c3 1 none).bind fun x78=>(bn .eql x78 (i64 3)).bind fun x79=>j60 x79 s77) (j60 (bl false) s77)))) ((ldL c15 0 (some 5)).bind fun x80=>(ldL c3 2 none).bind fun x81=>qac (cl e 199 [x80,i64 1,x81] s69) fun x82 s83=>qae x82 ((ldL c3 1 none).bind fun x84=>(bn .eql x84 (i64 3)).bind fun x85=>j60 x85 s83) (j60 (bl false) s83))) (j60 (bl false) s64)) (j60 (bl false) s17))
def s174 (e:Env)(n:Nat)(x0 x1:zA)(s2:ASt):Res:=(zA.cells (some 5) x1).bind fun c3=>(ldL c3 4 none).bind fun x4=>qac (iaV 5 x4 (i64 0)) fun q5 o6=>(ldH e s2 (.elem q5 o6) (some 5)).bind fun x7=>(ldL c3 4 none).bind fun x8=>qac (iaV 5 x8 (i64 1)) fun q9 o10=>(ldH e s2 (.elem q9 o10) (some 5)).bind fun x11=>(zA.cells (some 5) x7).bind fun c12=>(over ZT5 0 c12).bind fun c13=>(zA.cells (some 5) x11).bind fun c14=>(over ZT5 0 c14).bind fun c15=>cnd ((qaT (cut c3 4 1) (cut c3 4 1)&&true)&&true) (jn (s174_2 e n c3 c13 c15 x0) fun j86=>(bn .eql x0 (u8 1)).bind fun x87=>qae x87 ((ldL c13 0 (some 5)).bind fun x88=>qac (cl e 175 [x88] s2) fun x89 s90=>qae x89 ((ldL c15 0 (some 5)).bind fun x91=>qac (cl e 175 [x91] s90) fun x92 s93=>j86 x92 s93) (j86 (bl false) s90)) (j86 (bl false) s2)) none
def s175 (e:Env)(n:Nat)(x0:zA)(s1:ASt):Res:=(zA.cells (some 5) x0).bind fun c2=>(ldL c2 0 none).bind fun x3=>(bn .eql x3 (u8 1)).bind fun x4=>some (x4,s1)
def s176 (e:Env)(n:Nat)(x0 x1:zA)(s2:ASt):Res:=(bd ZT5 [(0,none,(.c (u8 1))),(1,none,(.c x0)),(2,none,(.c x1))]).bind fun x3=>(zA.cells (some 5) x3).bind fun c4=>(over ZT5 0 c4).bind fun c5=>(ldL c5 0 (some 5)).bind fun x6=>some (x6,s2)
def s177_0 (e:Env)(n:Nat)(c19:List zA):zA->ASt->Res:=fun x62 s63=>qae x62 ((ldL c19 0 (some 5)).bind fun x64=>(zA.cells (some 5) x64).bind fun c65=>(over ZT5 0 c65).bind fun c66=>(ldL c66 0 (some 5)).bind fun x67=>some (.tuple [x67,bl true],s63)) ((bd ZT5 []).bind fun x68=>(zA.cells (some 5) x68).bind fun c69=>(over ZT5 0 c69).bind fun c70=>(ldL c70 0 (some 5)).bind fun x71=>some (.tuple [x71,bl false],s63))
def s177_1 (e:Env)(n:Nat)(c5 c19 c23 c21:List zA)(x1:zA)(c4:List zA):zA->ASt->Res:=fun x47 s48=>qae x47 ((ldL c5 0 (some 5)).bind fun x49=>(ldL c19 4 none).bind fun x50=>qac (iaV 5 x50 (i64 0)) fun q51 o52=>(ldH e s48 (.elem q51 o52) (some 5)).bind fun x53=>(ldL c23 0 (some 5)).bind fun x54=>(ldL c21 0 (some 5)).bind fun x55=>(ms 3 [(.int .u8 0),(.int .i64 0),(.int .i64 0),(.int .i64 0),(.sl 0 []),(.int .u8 0),(.int .i64 0),(.int .i64 0),(.int .i64 0),(.sl 0 []),(.int .u8 0),(.int .i64 0),(.int .i64 0),(.int .i64 0),(.sl 0 [])] [(0,(some 5),(.c x53)),(5,(some 5),(.c x54)),(10,(some 5),(.c x55))]).bind fun x56=>qac (cl e 200 [x49,x56] s48) fun x57 s58=>(zA.cells (some 5) x57).bind fun c59=>(over ZT5 0 c59).bind fun c60=>(ldL c60 0 (some 5)).bind fun x61=>some (.tuple [x61,bl true],s58)) (jn (s177_0 e n c19) fun j72=>(bn .eql x1 (u8 9)).bind fun x73=>qae x73 ((ldL c19 0 (some 5)).bind fun x74=>qac (cl e 175 [x74] s48) fun x75 s76=>(nt x75).bind fun x77=>qae x77 ((ldL c4 0 (some 2)).bind fun x78=>(ldL c19 0 (some 5)).bind fun x79=>qac (cl e 123 [x78,x79] s76) fun x80 s81=>(bn .eql x80 (i64 2)).bind fun x82=>qae x82 ((ldL c21 0 (some 5)).bind fun x83=>qac (cl e 199 [x83,i64 1,i64 2] s81) fun x84 s85=>qae x84 ((ldL c23 0 (some 5)).bind fun x86=>qac (cl e 199 [x86,i64 0,i64 2] s85) fun x87 s88=>j72 x87 s88) (j72 (bl false) s85)) (j72 (bl false) s81)) (j72 (bl false) s76)) (j72 (bl false) s48))
def s177_2 (e:Env)(n:Nat)(c19 c21 c5 c23:List zA)(x1:zA)(c4:List zA):zA->ASt->Res:=fun x36 s37=>qae x36 ((ldL c19 0 (some 5)).bind fun x38=>(ms 1 [(.int .u8 0),(.int .i64 0),(.int .i64 0),(.int .i64 0),(.sl 0 [])] [(0,(some 5),(.c x38))]).bind fun x39=>(bd ZT5 [(0,none,(.c (u8 6))),(1,none,(.c (i64 1))),(4,none,(.c x39))]).bind fun x40=>(ldL c21 0 (some 5)).bind fun x41=>(ms 2 [(.int .u8 0),(.int .i64 0),(.int .i64 0),(.int .i64 0),(.sl 0 []),(.int .u8 0),(.int .i64 0),(.int .i64 0),(.int .i64 0),(.sl 0 [])] [(0,(some 5),(.c x40)),(5,(some 5),(.c x41))]).bind fun x42=>(bd ZT5 [(0,none,(.c (u8 7))),(4,none,(.c x42))]).bind fun x43=>(zA.cells (some 5) x43).bind fun c44=>(over ZT5 0 c44).bind fun c45=>(ldL c45 0 (some 5)).bind fun x46=>some (.tuple [x46,bl true],s37)) (jn (s177_1 e n c5 c19 c23 c21 x1 c4) fun j89=>(bn .eql x1 (u8 8)).bind fun x90=>qae x90 ((ldL c19 0 none).bind fun x91=>(bn .eql x91 (u8 8)).bind fun x92=>qae x92 ((ldL c19 4 none).bind fun x93=>qac (iaV 5 x93 (i64 1)) fun q94 o95=>(ldH e s37 (.elem q94 o95) (some 5)).bind fun x96=>qac (cl e 199 [x96,i64 0,i64 2] s37) fun x97 s98=>qae x97 ((ldL c19 4 none).bind fun x99=>qac (iaV 5 x99 (i64 2)) fun q100 o101=>(ldH e s98 (.elem q100 o101) (some 5)).bind fun x102=>qac (cl e 199 [x102,i64 1,i64 2] s98) fun x103 s104=>j89 x103 s104) (j89 (bl false) s98)) (j89 (bl false) s37)) (j89 (bl false) s37))
def s177_3 (e:Env)(n:Nat)(c23 c19 c21 c5:List zA)(x1:zA)(c4:List zA):zA->ASt->Res:=fun x30 s31=>qae x30 ((ldL c23 0 (some 5)).bind fun x32=>(zA.cells (some 5) x32).bind fun c33=>(over ZT5 0 c33).bind fun c34=>(ldL c34 0 (some 5)).bind fun x35=>some (.tuple [x35,bl true],s31)) (jn (s177_2 e n c19 c21 c5 c23 x1 c4) fun j105=>(bn .eql x1 (u8 7)).bind fun x106=>qae x106 ((ldL c19 0 (some 5)).bind fun x107=>qac (cl e 175 [x107] s31) fun x108 s109=>(nt x108).bind fun x110=>qae x110 ((ldL c21 0 (some 5)).bind fun x111=>(ldL c23 0 (some 5)).bind fun x112=>qac (cl e 19 [x111,x112] s109) fun x113 s114=>j105 x113 s114) (j105 (bl false) s109)) (j105 (bl false) s31))
def s177_4 (e:Env)(n:Nat)(c21 c23 c19 c5:List zA)(x1:zA)(c4:List zA):zA->ASt->Res:=fun x24 s25=>qae x24 ((ldL c21 0 (some 5)).bind fun x26=>(zA.cells (some 5) x26).bind fun c27=>(over ZT5 0 c27).bind fun c28=>(ldL c28 0 (some 5)).bind fun x29=>some (.tuple [x29,bl true],s25)) (jn (s177_3 e n c23 c19 c21 c5 x1 c4) fun j115=>(bn .eql x1 (u8 6)).bind fun x116=>qae x116 ((ldL c19 0 (some 5)).bind fun x117=>qac (cl e 175 [x117] s25) fun x118 s119=>j115 x118 s119) (j115 (bl false) s25))
def s177 (e:Env)(n:Nat)(x0 x1 x2:zA)(s3:ASt):Res:=(zA.cells (some 2) x0).bind fun c4=>(zA.cells (some 5) x2).bind fun c5=>(ldL c5 4 none).bind fun x6=>qac (iaV 5 x6 (i64 0)) fun q7 o8=>(ldH e s3 (.elem q7 o8) (some 5)).bind fun x9=>(ldL c5 4 none).bind fun x10=>qac (iaV 5 x10 (i64 1)) fun q11 o12=>(ldH e s3 (.elem q11 o12) (some 5)).bind fun x13=>(ldL c5 4 none).bind fun x14=>qac (iaV 5 x14 (i64 2)) fun q15 o16=>(ldH e s3 (.elem q15 o16) (some 5)).bind fun x17=>(zA.cells (some 5) x9).bind fun c18=>(over ZT5 0 c18).bind fun c19=>(zA.cells (some 5) x13).bind fun c20=>(over ZT5 0 c20).bind fun c21=>(zA.cells (some 5) x17).bind fun c22=>(over ZT5 0 c22).bind fun c23=>cnd ((qaT (cut c5 4 1) (cut c5 4 1)&&true)&&((qaT (cut c5 4 1) (cut c5 4 1)&&(qaT (cut c5 4 1) (cut c5 4 1)&&true))&&true)) (jn (s177_4 e n c21 c23 c19 c5 x1 c4) fun j120=>(bn .eql x1 (u8 6)).bind fun x121=>qae x121 ((ldL c19 0 (some 5)).bind fun x122=>qac (cl e 175 [x122] s3) fun x123 s124=>qae x123 ((ldL c19 1 none).bind fun x125=>(bn .neq x125 (i64 0)).bind fun x126=>j120 x126 s124) (j120 (bl false) s124)) (j120 (bl false) s3)) none
def s178_0 (e:Env)(n:Nat)(c5 c15:List zA):zA->ASt->Res:=fun x61 s62=>qae x61 ((ldL c5 0 (some 5)).bind fun x63=>(ldL c15 0 (some 5)).bind fun x64=>(ldL c15 4 none).bind fun x65=>qac (iaV 5 x65 (i64 0)) fun q66 o67=>(ldH e s62 (.elem q66 o67) (some 5)).bind fun x68=>(ms 2 [(.int .u8 0),(.int .i64 0),(.int .i64 0),(.int .i64 0),(.sl 0 []),(.int .u8 0),(.int .i64 0),(.int .i64 0),(.int .i64 0),(.sl 0 [])] [(0,(some 5),(.c x64)),(5,(some 5),(.c x68))]).bind fun x69=>qac (cl e 200 [x63,x69] s62) fun x70 s71=>(zA.cells (some 5) x70).bind fun c72=>(over ZT5 0 c72).bind fun c73=>(ldL c73 0 (some 5)).bind fun x74=>some (.tuple [x74,bl true],s71)) ((bd ZT5 []).bind fun x75=>(zA.cells (some 5) x75).bind fun c76=>(over ZT5 0 c76).bind fun c77=>(ldL c77 0 (some 5)).bind fun x78=>some (.tuple [x78,bl false],s62))
def s178_1 (e:Env)(n:Nat)(c5 c15 c4 c17:List zA)(x1:zA):zA->ASt->Res:=fun x45 s46=>qae x45 ((ldL c5 0 (some 5)).bind fun x47=>(ldL c15 0 (some 5)).bind fun x48=>(ldL c4 0 (some 2)).bind fun x49=>(ldL c17 0 (some 5)).bind fun x50=>qac (cl e 123 [x49,x50] s46) fun x51 s52=>qac (cl e 176 [i64 0,x51] s52) fun x53 s54=>(ms 2 [(.int .u8 0),(.int .i64 0),(.int .i64 0),(.int .i64 0),(.sl 0 []),(.int .u8 0),(.int .i64 0),(.int .i64 0),(.int .i64 0),(.sl 0 [])] [(0,(some 5),(.c x48)),(5,(some 5),(.c x53))]).bind fun x55=>qac (cl e 200 [x47,x55] s54) fun x56 s57=>(zA.cells (some 5) x56).bind fun c58=>(over ZT5 0 c58).bind fun c59=>(ldL c59 0 (some 5)).bind fun x60=>some (.tuple [x60,bl true],s57)) (jn (s178_0 e n c5 c15) fun j79=>(bn .eql x1 (u8 17)).bind fun x80=>qae x80 ((ldL c15 0 none).bind fun x81=>(bn .eql x81 (u8 4)).bind fun x82=>qae x82 ((ldL c15 3 none).bind fun x83=>(ldL c4 1 none).bind fun x84=>(bn .gtr x83 x84).bind fun x85=>qae x85 ((ldL c15 4 none).bind fun x86=>qac (iaV 5 x86 (i64 0)) fun q87 o88=>(ldH e s46 (.elem q87 o88) (some 5)).bind fun x89=>qac (cl e 175 [x89] s46) fun x90 s91=>qae x90 ((ldL c17 0 none).bind fun x92=>(bn .eql x92 (u8 3)).bind fun x93=>qae x93 ((ldL c17 3 none).bind fun x94=>(ldL c15 3 none).bind fun x95=>(bn .eql x94 x95).bind fun x96=>j79 x96 s91) (j79 (bl false) s91)) (j79 (bl false) s91)) (j79 (bl false) s46)) (j79 (bl false) s46)) (j79 (bl false) s46))
def s178_2 (e:Env)(n:Nat)(c5 c15:List zA)(s19:ASt)(c17 c4:List zA)(x1:zA):zA->Res:=fun x24=>qae x24 ((ldL c5 0 (some 5)).bind fun x25=>(ldL c15 4 none).bind fun x26=>qac (iaV 5 x26 (i64 0)) fun q27 o28=>(ldH e s19 (.elem q27 o28) (some 5)).bind fun x29=>(ldL c5 0 (some 5)).bind fun x30=>(ldL c15 4 none).bind fun x31=>qac (iaV 5 x31 (i64 1)) fun q32 o33=>(ldH e s19 (.elem q32 o33) (some 5)).bind fun x34=>(ldL c17 0 (some 5)).bind fun x35=>(ms 2 [(.int .u8 0),(.int .i64 0),(.int .i64 0),(.int .i64 0),(.sl 0 []),(.int .u8 0),(.int .i64 0),(.int .i64 0),(.int .i64 0),(.sl 0 [])] [(0,(some 5),(.c x34)),(5,(some 5),(.c x35))]).bind fun x36=>qac (cl e 200 [x30,x36] s19) fun x37 s38=>(ms 2 [(.int .u8 0),(.int .i64 0),(.int .i64 0),(.int .i64 0),(.sl 0 []),(.int .u8 0),(.int .i64 0),(.int .i64 0),(.int .i64 0),(.sl 0 [])] [(0,(some 5),(.c x29)),(5,(some 5),(.c x37))]).bind fun x39=>qac (cl e 200 [x25,x39] s38) fun x40 s41=>(zA.cells (some 5) x40).bind fun c42=>(over ZT5 0 c42).bind fun c43=>(ldL c43 0 (some 5)).bind fun x44=>some (.tuple [x44,bl true],s41)) (jn (s178_1 e n c5 c15 c4 c17 x1) fun j97=>(bn .eql x1 (u8 12)).bind fun x98=>qae x98 ((ldL c15 0 none).bind fun x99=>(bn .eql x99 (u8 12)).bind fun x100=>qae x100 ((ldL c17 0 (some 5)).bind fun x101=>qac (cl e 175 [x101] s19) fun x102 s103=>qae x102 ((ldL c17 1 none).bind fun x104=>(bn .eql x104 (i64 0)).bind fun x105=>(nt x105).bind fun x106=>j97 x106 s103) (j97 (bl true) s103)) ((ldL c15 0 none).bind fun x107=>(bn .eql x107 (u8 14)).bind fun x108=>qae x108 ((ldL c17 0 (some 5)).bind fun x109=>qac (cl e 175 [x109] s19) fun x110 s111=>qae x110 ((ldL c17 1 none).bind fun x112=>(bn .eql x112 (i64 0)).bind fun x113=>(nt x113).bind fun x114=>j97 x114 s111) (j97 (bl true) s111)) (j97 (bl false) s19))) (j97 (bl false) s19))
def s178_3 (e:Env)(n:Nat)(c17 c5 c15 c4:List zA)(x1:zA):zA->ASt->Res:=fun x18 s19=>qae x18 ((ldL c17 0 (some 5)).bind fun x20=>(zA.cells (some 5) x20).bind fun c21=>(over ZT5 0 c21).bind fun c22=>(ldL c22 0 (some 5)).bind fun x23=>some (.tuple [x23,bl true],s19)) (jn (s178_2 e n c5 c15 s19 c17 c4 x1) fun j115=>(bn .eql x1 (u8 11)).bind fun x116=>qae x116 ((ldL c15 0 none).bind fun x117=>(bn .eql x117 (u8 7)).bind fun x118=>j115 x118) (j115 (bl false)))
def s178 (e:Env)(n:Nat)(x0 x1 x2:zA)(s3:ASt):Res:=(zA.cells (some 2) x0).bind fun c4=>(zA.cells (some 5) x2).bind fun c5=>(ldL c5 4 none).bind fun x6=>qac (iaV 5 x6 (i64 0)) fun q7 o8=>(ldH e s3 (.elem q7 o8) (some 5)).bind fun x9=>(ldL c5 4 none).bind fun x10=>qac (iaV 5 x10 (i64 1)) fun q11 o12=>(ldH e s3 (.elem q11 o12) (some 5)).bind fun x13=>(zA.cells (some 5) x9).bind fun c14=>(over ZT5 0 c14).bind fun c15=>(zA.cells (some 5) x13).bind fun c16=>(over ZT5 0 c16).bind fun c17=>cnd ((qaT (cut c5 4 1) (cut c5 4 1)&&true)&&true) (jn (s178_3 e n c17 c5 c15 c4 x1) fun j119=>(bn .eql x1 (u8 10)).bind fun x120=>qae x120 ((ldL c15 0 (some 5)).bind fun x121=>qac (cl e 175 [x121] s3) fun x122 s123=>j119 x122 s123) (j119 (bl false) s3)) none
def s179_0 (e:Env)(n:Nat)(s18:ASt)(c5:List zA)(x8:zA):zA->Res:=fun x20=>(nt x20).bind fun x21=>qae x21 ((bd ZT5 []).bind fun x22=>(zA.cells (some 5) x22).bind fun c23=>(over ZT5 0 c23).bind fun c24=>(ldL c24 0 (some 5)).bind fun x25=>some (.tuple [x25,bl false],s18)) ((ldL c5 4 none).bind fun x26=>qac (iaV 5 x26 (i64 0)) fun q27 o28=>(ldH e s18 (.elem q27 o28) (some 5)).bind fun x29=>(ldL c5 2 none).bind fun x30=>(ldL c5 1 none).bind fun x31=>qac (cl e 176 [x30,x31] s18) fun x32 s33=>qac (cl e 202 [x29,x8,x32] s33) fun x34 s35=>(zA.cells (some 5) x34).bind fun c36=>(over ZT5 0 c36).bind fun c37=>(ldL c37 0 (some 5)).bind fun x38=>some (.tuple [x38,bl true],s35))
def s179_1 (e:Env)(n:Nat)(j39:zA->Res):zA->Res:=fun x40=>j39 x40
def s179_2 (e:Env)(n:Nat)(j39:zA->Res):zA->Res:=fun x49=>j39 x49
def s179_3 (e:Env)(n:Nat)(j50:zA->Res):zA->Res:=fun x51=>j50 x51
def s179_4 (e:Env)(n:Nat)(j50:zA->Res):zA->Res:=fun x60=>j50 x60
def s179_5 (e:Env)(n:Nat)(j61:zA->Res):zA->Res:=fun x62=>j61 x62
def s179 (e:Env)(n:Nat)(x0 x1 x2:zA)(s3:ASt):Res:=(zA.cells (some 2) x0).bind fun c4=>(zA.cells (some 5) x2).bind fun c5=>(ldL c4 0 none).bind fun x6=>(ln false x6).bind fun x7=>(bn .add x7 (i64 1)).bind fun x8=>(bd [i64 0,i64 0,i64 0] []).bind fun x9=>(zA.cells (some 3) x9).bind fun c10=>cnd (c10.all qaY) (qdX s3 (.cells c10) fun l11 s12=>(ldL c5 4 none).bind fun x13=>qac (iaV 5 x13 (i64 0)) fun q14 o15=>(ldH e s12 (.elem q14 o15) (some 5)).bind fun x16=>qac (cl e 201 [.ptr l11 0,x16,x8] s12) fun x17 s18=>(bn .eql x1 (u8 14)).bind fun x19=>jn (s179_0 e n s18 c5 x8) fun j39=>qae x19 (jn (s179_1 e n j39) fun j41=>(ldH e s18 (.ptr l11 0) none).bind fun x42=>(bn .eql x42 (i64 0)).bind fun x43=>qae x43 ((ldH e s18 (.ptr l11 1) none).bind fun x44=>(bn .eql x44 (i64 0)).bind fun x45=>qae x45 ((ldH e s18 (.ptr l11 2) none).bind fun x46=>(bn .eql x46 (i64 0)).bind fun x47=>j41 x47) (j41 (bl false))) (j41 (bl false))) ((bn .eql x1 (u8 15)).bind fun x48=>jn (s179_2 e n j39) fun j50=>qae x48 (jn (s179_3 e n j50) fun j52=>(ldH e s18 (.ptr l11 0) none).bind fun x53=>(bn .gtr x53 (i64 0)).bind fun x54=>qae x54 ((ldH e s18 (.ptr l11 1) none).bind fun x55=>(bn .eql x55 (i64 0)).bind fun x56=>qae x56 ((ldH e s18 (.ptr l11 2) none).bind fun x57=>(bn .eql x57 (i64 0)).bind fun x58=>j52 x58) (j52 (bl false))) (j52 (bl false))) ((bn .eql x1 (u8 16)).bind fun x59=>jn (s179_4 e n j50) fun j61=>qae x59 (jn (s179_5 e n j61) fun j63=>(ldH e s18 (.ptr l11 0) none).bind fun x64=>(bn .eql x64 (i64 0)).bind fun x65=>qae x65 ((ldH e s18 (.ptr l11 1) none).bind fun x66=>(bn .gtr x66 (i64 0)).bind fun x67=>qae x67 ((ldH e s18 (.ptr l11 2) none).bind fun x68=>(bn .eql x68 (i64 0)).bind fun x69=>j63 x69) (j63 (bl false))) (j63 (bl false))) (j61 (bl false))))) none
def s180_0 (e:Env)(n:Nat)(c3:List zA)(x8:zA)(s9:ASt)(h10:zA->ASt->Res):zA->Res:=fun x15=>(ldL c3 4 none).bind fun x16=>qac (iaV 5 x16 x8) fun q17 o18=>(ldH e s9 (.elem q17 o18) (some 5)).bind fun x19=>qac (cl e 180 [x19,x15] s9) fun x20 s21=>qae x20 (some (bl true,s21)) ((bn .add x8 (i64 1)).bind fun x22=>h10 x22 s21)
def s180_1 (e:Env)(n:Nat)(c3:List zA)(x8:zA)(s9:ASt)(h10:zA->ASt->Res)(x1:zA):zA->Res:=fun x14=>jn (s180_0 e n c3 x8 s9 h10) fun j23=>qae x14 ((bn .add x1 (i64 1)).bind fun x24=>j23 x24) (j23 x1)
def s180_2 (e:Env)(n:Nat)(c3:List zA)(x1:zA):zA->ASt->Res:=lp (fun _ _=>none) (fun h10 x8 s9=>(ldL c3 4 none).bind fun x11=>(ln false x11).bind fun x12=>(bn .lss x8 x12).bind fun x13=>qae x13 (jn (s180_1 e n c3 x8 s9 h10 x1) fun j25=>(ldL c3 0 none).bind fun x26=>(bn .eql x26 (u8 11)).bind fun x27=>qae x27 ((bn .eql x8 (i64 0)).bind fun x28=>j25 x28) (j25 (bl false))) (some (bl false,s9))) n
def s180 (e:Env)(n:Nat)(x0 x1:zA)(s2:ASt):Res:=(zA.cells (some 5) x0).bind fun c3=>(ldL c3 0 none).bind fun x4=>(bn .eql x4 (u8 12)).bind fun x5=>qae x5 ((ldL c3 1 none).bind fun x6=>(bn .eql x6 x1).bind fun x7=>some (x7,s2)) (s180_2 e n c3 x1 (i64 0) s2)
def s181_0 (e:Env)(n:Nat)(c16 c14:List zA)(x13:zA)(s17:ASt)(h18:zA->List zA->List zA->List zA->ASt->Res)(c15:List zA):zA->Res:=fun x23=>(ldL c16 4 none).bind fun x24=>(ldL c14 4 none).bind fun x25=>qac (iaV 5 x25 x13) fun q26 o27=>(ldH e s17 (.elem q26 o27) (some 5)).bind fun x28=>qac (cl e 181 [x28,x23] s17) fun x29 s30=>(ms 1 [(.int .u8 0),(.int .i64 0),(.int .i64 0),(.int .i64 0),(.sl 0 [])] [(0,(some 5),(.c x29))]).bind fun x31=>qac (ap e 5 56 x24 x31 s30) fun x32 s33=>(zA.cells none x32).bind fun c34=>(over c16 4 c34).bind fun c35=>(bn .add x13 (i64 1)).bind fun x36=>h18 x36 c14 c15 c35 s33
def s181_1 (e:Env)(n:Nat)(c16 c14:List zA)(x13:zA)(s17:ASt)(h18:zA->List zA->List zA->List zA->ASt->Res)(c15:List zA)(x1:zA):zA->Res:=fun x22=>jn (s181_0 e n c16 c14 x13 s17 h18 c15) fun j37=>qae x22 ((bn .add x1 (i64 1)).bind fun x38=>j37 x38) (j37 x1)
def s181_2 (e:Env)(n:Nat)(x1:zA):zA->List zA->List zA->List zA->ASt->Res:=lp (fun _ _ _ _ _=>none) (fun h18 x13 c14 c15 c16 s17=>(ldL c14 4 none).bind fun x19=>(ln false x19).bind fun x20=>(bn .lss x13 x20).bind fun x21=>qae x21 (jn (s181_1 e n c16 c14 x13 s17 h18 c15 x1) fun j39=>(ldL c14 0 none).bind fun x40=>(bn .eql x40 (u8 11)).bind fun x41=>qae x41 ((bn .eql x13 (i64 0)).bind fun x42=>j39 x42) (j39 (bl false))) ((ldL c16 0 (some 5)).bind fun x43=>(zA.cells (some 5) x43).bind fun c44=>(over c15 0 c44).bind fun c45=>(ldL c45 0 (some 5)).bind fun x46=>some (x46,s17))) n
def s181_3 (e:Env)(n:Nat)(x1:zA)(s2:ASt):List zA->List zA->List zA->Res:=fun c8 c9 c10=>(zA.cells none (.sl 0 [] .full)).bind fun c11=>(over c10 4 c11).bind fun c12=>s181_2 e n x1 (i64 0) c8 c9 c12 s2
def s181_4 (e:Env)(n:Nat)(x1:zA)(s2:ASt)(c6 c3:List zA):zA->Res:=fun x7=>jn (s181_3 e n x1 s2) fun j47=>qae x7 ((ldL c6 1 none).bind fun x48=>(bn .sub x48 (i64 1)).bind fun x49=>(zA.cells none x49).bind fun c50=>(over c6 1 c50).bind fun c51=>j47 c3 ZT5 c51) (j47 c3 ZT5 c6)
def s181 (e:Env)(n:Nat)(x0 x1:zA)(s2:ASt):Res:=(zA.cells (some 5) x0).bind fun c3=>(ldL c3 0 (some 5)).bind fun x4=>(zA.cells (some 5) x4).bind fun c5=>(over ZT5 0 c5).bind fun c6=>jn (s181_4 e n x1 s2 c6 c3) fun j52=>(ldL c3 0 none).bind fun x53=>(bn .eql x53 (u8 12)).bind fun x54=>qae x54 ((ldL c3 1 none).bind fun x55=>(bn .gtr x55 x1).bind fun x56=>j52 x56) (j52 (bl false))
def s182_0 (e:Env)(n:Nat)(c3:List zA)(x1:zA):zA->ASt->Res:=lp (fun _ _=>none) (fun h7 x5 s6=>(ldL c3 4 none).bind fun x8=>(ln false x8).bind fun x9=>(bn .lss x5 x9).bind fun x10=>qae x10 ((ldL c3 4 none).bind fun x11=>qac (iaV 5 x11 x5) fun q12 o13=>(ldH e s6 (.elem q12 o13) (some 5)).bind fun x14=>qac (cl e 182 [x14,x1] s6) fun x15 s16=>(nt x15).bind fun x17=>qae x17 (some (bl false,s16)) ((bn .add x5 (i64 1)).bind fun x18=>h7 x18 s16)) (some (bl true,s6))) n
def s182_1 (e:Env)(n:Nat)(s2:ASt)(c3:List zA)(x1:zA):zA->Res:=fun x4=>qae x4 (some (bl false,s2)) (s182_0 e n c3 x1 (i64 0) s2)
def s182 (e:Env)(n:Nat)(x0 x1:zA)(s2:ASt):Res:=(zA.cells (some 5) x0).bind fun c3=>jn (s182_1 e n s2 c3 x1) fun j19=>(ldL c3 0 none).bind fun x20=>(bn .eql x20 (u8 2)).bind fun x21=>qae x21 (j19 (bl true)) ((ldL c3 0 none).bind fun x22=>(bn .eql x22 (u8 12)).bind fun x23=>qae x23 (j19 (bl true)) ((ldL c3 3 none).bind fun x24=>(bn .geq x24 (i64 1)).bind fun x25=>qae x25 ((ldL c3 3 none).bind fun x26=>(bn .leq x26 x1).bind fun x27=>j19 x27) (j19 (bl false))))
def s183 (e:Env)(n:Nat)(x0:zA)(s1:ASt):Res:=(eqv 5 false x0 (.sl 0 [] .full)).bind fun x2=>qae x2 (some ((.sl 0 [] .full),s1)) ((ms 0 [] []).bind fun x3=>qac (ap e 1 8 x3 x0 s1) fun x4 s5=>some (x4,s5))
def s184_0 (e:Env)(n:Nat)(x3 x0:zA)(s2:ASt)(x1:zA):zA->Res:=lp (fun _=>none) (fun h5 x4=>(bn .lss x4 x3).bind fun x6=>qae x6 (qac (iaV 1 x0 x4) fun q7 o8=>(ldH e s2 (.elem q7 o8) none).bind fun x9=>(bn .eql x1 x9).bind fun x10=>qae x10 (some (x4,s2)) ((bn .add x4 (i64 1)).bind fun x11=>h5 x11)) (some ((i64 (-1)),s2))) n
def s184 (e:Env)(n:Nat)(x0 x1:zA)(s2:ASt):Res:=(ln false x0).bind fun x3=>s184_0 e n x3 x0 s2 x1 (i64 0)
def s185_0 (e:Env)(n:Nat)(x7 x0 x1 x2:zA):zA->Nat->Nat->List zA->List zA->ASt->Res:=lp (fun _ _ _ _ _ _=>none) (fun h14 x8 g9 g10 c11 c12 s13=>(bn .lss x8 x7).bind fun x15=>qae x15 (qac (iaV 5 x0 x8) fun q16 o17=>(ldH e s13 (.elem q16 o17) (some 5)).bind fun x18=>(zA.cells (some 5) x18).bind fun c19=>cnd (Nat.beq (g9+1) (g9+1)) ((over ZT5 0 c19).bind fun c20=>qac (iaV 5 x1 x8) fun q21 o22=>(ldH e s13 (.elem q21 o22) (some 5)).bind fun x23=>(zA.cells (some 5) x23).bind fun c24=>cnd (Nat.beq (g10+1) (g10+1)) ((over ZT5 0 c24).bind fun c25=>cnd (Nat.beq (g9+1) (g9+1)) ((ldL c20 0 (some 5)).bind fun x26=>cnd (Nat.beq (g10+1) (g10+1)) ((ldL c25 0 (some 5)).bind fun x27=>qac (clv e x2 [x26,x27] s13) fun x28 s29=>(nt x28).bind fun x30=>qae x30 (some (bl false,s29)) ((bn .add x8 (i64 1)).bind fun x31=>h14 x31 (g9+1) (g10+1) c20 c25 s29)) none) none) none) none) (some (bl true,s13))) n
def s185 (e:Env)(n:Nat)(x0 x1 x2:zA)(s3:ASt):Res:=(ln false x0).bind fun x4=>(ln false x1).bind fun x5=>(bn .neq x4 x5).bind fun x6=>qae x6 (some (bl false,s3)) ((ln false x0).bind fun x7=>s185_0 e n x7 x0 x1 x2 (i64 0) 0 0 [] [] s3)
def s186 (e:Env)(n:Nat)(x0 x1:zA)(s2:ASt):Res:=(zA.cells (some 5) x0).bind fun c3=>(zA.cells none x1).bind fun c4=>cnd (c4.all qaY) (qdX s2 (.cells c4) fun l5 s6=>qdX s6 (.cells [bl false,bl false,bl false]) fun l7 s8=>(ldL c3 0 (some 5)).bind fun x9=>(mf 203 [] [.ptr l5 0,.ptr l7 0]).bind fun x10=>qac (cl e 159 [x9,x10] s8) fun x11 s12=>(ldH e s12 (.ptr l7 0) (some 3)).bind fun x13=>(zA.cells (some 3) x13).bind fun c14=>(stH s12 (.ptr l7 0) c14).bind fun s15=>(ldH e s15 (.ptr l7 0) (some 3)).bind fun x16=>some (x16,s15)) none
def s187 (e:Env)(n:Nat)(x0:zA)(s1:ASt):Res:=(zA.cells (some 7) x0).bind fun c2=>(ldL c2 5 none).bind fun x3=>(ln false x3).bind fun x4=>(bn .add x4 (i64 1)).bind fun x5=>some (x5,s1)
def s188 (e:Env)(n:Nat)(x0 x1 x2:zA)(s3:ASt):Res:=(zA.cells (some 5) x0).bind fun c4=>(zA.cells none x1).bind fun c5=>cnd (c5.all qaY) (qdX s3 (.cells c5) fun l6 s7=>(zA.cells none x2).bind fun c8=>cnd (c8.all qaY) (qdX s7 (.cells c8) fun l9 s10=>(ldL c4 0 (some 5)).bind fun x11=>(mf 204 [] [.ptr l6 0,.ptr l9 0]).bind fun x12=>qac (cl e 108 [x11,i64 0,x12] s10) fun x13 s14=>(zA.cells (some 5) x13).bind fun c15=>(over ZT5 0 c15).bind fun c16=>(ldL c16 0 (some 5)).bind fun x17=>some (x17,s14)) none) none
def s189_0 (e:Env)(n:Nat)(s2:ASt):zA->Res:=fun x4=>some (x4,s2)
def s189 (e:Env)(n:Nat)(x0 x1:zA)(s2:ASt):Res:=(zA.cells (some 5) x0).bind fun c3=>jn (s189_0 e n s2) fun j5=>(ldL c3 0 none).bind fun x6=>(bn .eql x6 (u8 12)).bind fun x7=>qae x7 ((ldL c3 1 none).bind fun x8=>(bn .eql x8 x1).bind fun x9=>j5 x9) (j5 (bl false))
def s190_0 (e:Env)(n:Nat)(s2:ASt):List zA->List zA->Res:=fun c5 c6=>(ldL c5 0 (some 5)).bind fun x7=>(zA.cells (some 5) x7).bind fun c8=>(over c6 0 c8).bind fun c9=>(ldL c9 0 (some 5)).bind fun x10=>some (.tuple [x10,bl true],s2)
def s190_1 (e:Env)(n:Nat)(s2:ASt)(c3:List zA):zA->Res:=fun x4=>jn (s190_0 e n s2) fun j11=>qae x4 ((ldL c3 1 none).bind fun x12=>(bn .sub x12 (i64 1)).bind fun x13=>(zA.cells none x13).bind fun c14=>(over c3 1 c14).bind fun c15=>j11 c15 ZT5) (j11 c3 ZT5)
def s190 (e:Env)(n:Nat)(x0 x1:zA)(s2:ASt):Res:=(zA.cells (some 5) x0).bind fun c3=>jn (s190_1 e n s2 c3) fun j16=>(ldL c3 0 none).bind fun x17=>(bn .eql x17 (u8 12)).bind fun x18=>qae x18 ((ldL c3 1 none).bind fun x19=>(bn .gtr x19 x1).bind fun x20=>j16 x20) (j16 (bl false))
def s191_0 (e:Env)(n:Nat)(c5:List zA)(x2:zA):ASt->Res:=fun s6=>(ldL c5 0 (some 5)).bind fun x7=>(ldH e s6 x2 none).bind fun x8=>(nt x8).bind fun x9=>(zA.cells (some 5) x7).bind fun c10=>(over ZT5 0 c10).bind fun c11=>cnd (okV e [([(1,(1,ZT5)),(0,(1,c5)),(0,(0,[])),(1,(0,[]))],s6),([(1,(1,ZT5)),(0,(1,c5)),(0,(0,[])),(1,(0,[]))],s6),([(1,(1,ZT5)),(0,(1,c5)),(0,(0,[])),(1,(0,[]))],s6),([(1,(1,ZT5)),(0,(1,c5)),(0,(0,[])),(1,(0,[]))],s6),([(1,(1,c11)),(1,(1,ZT5)),(0,(1,c5)),(0,(0,[])),(1,(0,[]))],s6),([(1,(1,c11)),(1,(1,ZT5)),(0,(1,c5)),(0,(0,[])),(1,(0,[]))],s6)] x2 1 [(3,0)]&&true) ((ldL c11 0 (some 5)).bind fun x12=>some (.tuple [x12,x9],s6)) none
def s191 (e:Env)(n:Nat)(x0 x1 x2 x3:zA)(s4:ASt):Res:=(zA.cells (some 5) x0).bind fun c5=>jn (s191_0 e n c5 x2) fun j13=>(ldH e s4 x2 none).bind fun x14=>qae x14 ((zA.cells none (bl true)).bind fun c15=>(stH s4 x2 c15).bind fun s16=>j13 s16) ((ldH e s4 x3 none).bind fun x17=>(ldL c5 0 (some 5)).bind fun x18=>qac (clv e x17 [x18,x1] s4) fun x19 s20=>(zA.cells none x19).bind fun c21=>(stH s20 x2 c21).bind fun s22=>j13 s22)
def s192_0 (e:Env)(n:Nat)(x3 x0 x1:zA):zA->ASt->Res:=lp (fun _ _=>none) (fun h6 x4 s5=>(bn .lss x4 x3).bind fun x7=>qae x7 (qac (iaV 2 x0 x4) fun q8 o9=>(ldH e s5 (.elem q8 o9) (some 2)).bind fun x10=>qac (clv e x1 [x10] s5) fun x11 s12=>qae x11 (some (x4,s12)) ((bn .add x4 (i64 1)).bind fun x13=>h6 x13 s12)) (some ((i64 (-1)),s5))) n
def s192 (e:Env)(n:Nat)(x0 x1:zA)(s2:ASt):Res:=(ln false x0).bind fun x3=>s192_0 e n x3 x0 x1 (i64 0) s2
def s193_0 (e:Env)(n:Nat)(s1:ASt):zA->Res:=fun x2=>some (x2,s1)
def s193 (e:Env)(n:Nat)(x0:zA)(s1:ASt):Res:=jn (s193_0 e n s1) fun j3=>(bn .geq x0 (i64 1)).bind fun x4=>qae x4 ((bn .leq x0 (i64 64)).bind fun x5=>j3 x5) (j3 (bl false))
def s194_0 (e:Env)(n:Nat)(s2:ASt):zA->Res:=fun x3=>some (x3,s2)
def s194 (e:Env)(n:Nat)(x0 x1:zA)(s2:ASt):Res:=jn (s194_0 e n s2) fun j4=>(bn .geq x0 (i64 0)).bind fun x5=>qae x5 ((bn .lss x0 x1).bind fun x6=>j4 x6) (j4 (bl false))
def s195 (e:Env)(n:Nat)(x0 x1 x2:zA)(s3:ASt):Res:=(zA.cells (some 4) x0).bind fun c4=>(ldL c4 0 (some 4)).bind fun x5=>(mf 59 [x5] []).bind fun x6=>qac (cl e 205 [x1,x2,x6] s3) fun x7 s8=>some (x7,s8)
def s196_0 (e:Env)(n:Nat):zA->zA->ASt->Res:=fun x16 x17 s18=>some (.tuple [x16,x17],s18)
def s196_1 (e:Env)(n:Nat)(x24:zA)(s25:ASt):zA->Res:=fun x31=>qae x31 (some (.tuple [i64 2,x24],s25)) (some (.tuple [i64 0,bl false],s25))
def s196_2 (e:Env)(n:Nat)(c4:List zA)(x24:zA)(s25:ASt)(x26:zA):zA->Res:=fun x28=>qae x28 ((ldL c4 2 none).bind fun x29=>some (.tuple [x29,x24],s25)) ((bn .eql x26 (i64 4)).bind fun x30=>jn (s196_1 e n x24 s25) fun j32=>qae x30 (j32 x30) ((bn .eql x26 (i64 5)).bind fun x33=>j32 x33))
def s196_3 (e:Env)(n:Nat)(j34:zA->Res):zA->Res:=fun x36=>j34 x36
def s196_4 (e:Env)(n:Nat)(c4:List zA):zA->ASt->Res:=fun x24 s25=>(ldL c4 1 none).bind fun x26=>(bn .eql x26 (i64 1)).bind fun x27=>jn (s196_2 e n c4 x24 s25 x26) fun j34=>qae x27 (j34 x27) ((bn .eql x26 (i64 2)).bind fun x35=>jn (s196_3 e n j34) fun j37=>qae x35 (j37 x35) ((bn .eql x26 (i64 3)).bind fun x38=>j37 x38))
def s196 (e:Env)(n:Nat)(x0 x1:zA)(s2:ASt):Res:=(zA.cells (some 4) x0).bind fun c3=>(zA.cells (some 5) x1).bind fun c4=>(ldL c4 0 none).bind fun x5=>(bn .eql x5 (u8 6)).bind fun x6=>qae x6 ((ldL c3 0 (some 4)).bind fun x7=>(ldL c4 4 none).bind fun x8=>qac (iaV 5 x8 (i64 0)) fun q9 o10=>(ldH e s2 (.elem q9 o10) (some 5)).bind fun x11=>qac (cl e 163 [x7,x11] s2) fun x12 s13=>(ex x12 0).bind fun x14=>(ex x12 1).bind fun x15=>jn (s196_0 e n) fun j19=>(ldL c4 1 none).bind fun x20=>qae x15 ((ldL c4 1 none).bind fun x21=>qac (cl e 193 [x21] s13) fun x22 s23=>j19 x20 x22 s23) (j19 x20 (bl false) s13)) (jn (s196_4 e n c4) fun j39=>(ldL c4 2 none).bind fun x40=>qac (cl e 193 [x40] s2) fun x41 s42=>qae x41 ((ldL c3 0 (some 4)).bind fun x43=>(ldL c4 4 none).bind fun x44=>qac (iaV 5 x44 (i64 0)) fun q45 o46=>(ldH e s42 (.elem q45 o46) (some 5)).bind fun x47=>(ldL c4 2 none).bind fun x48=>qac (cl e 104 [x43,x47,x48] s42) fun x49 s50=>qae x49 ((ldL c3 0 (some 4)).bind fun x51=>(ldL c4 4 none).bind fun x52=>qac (iaV 5 x52 (i64 1)) fun q53 o54=>(ldH e s50 (.elem q53 o54) (some 5)).bind fun x55=>(ldL c4 2 none).bind fun x56=>qac (cl e 104 [x51,x55,x56] s50) fun x57 s58=>j39 x57 s58) (j39 (bl false) s50)) (j39 (bl false) s42))
def s197_0 (e:Env)(n:Nat):zA->zA->ASt->Res:=fun x16 x17 s18=>some (.tuple [x16,x17],s18)
def s197_1 (e:Env)(n:Nat)(s48:ASt):zA->zA->Res:=fun x51 x52=>some (.tuple [x51,x52],s48)
def s197_2 (e:Env)(n:Nat):zA->zA->ASt->Res:=fun x64 x65 s66=>some (.tuple [x64,x65],s66)
def s197_3 (e:Env)(n:Nat):zA->zA->ASt->Res:=fun x91 x92 s93=>some (.tuple [x91,x92],s93)
def s197_4 (e:Env)(n:Nat):zA->zA->ASt->Res:=fun x155 x156 s157=>some (.tuple [x155,x156],s157)
def s197 (e:Env)(n:Nat)(x0 x1:zA)(s2:ASt):Res:=(zA.cells (some 4) x0).bind fun c3=>(zA.cells (some 5) x1).bind fun c4=>(ldL c4 0 none).bind fun x5=>(bn .eql x5 (u8 7)).bind fun x6=>qae x6 ((ldL c3 0 (some 4)).bind fun x7=>(ldL c4 4 none).bind fun x8=>qac (iaV 5 x8 (i64 1)) fun q9 o10=>(ldH e s2 (.elem q9 o10) (some 5)).bind fun x11=>qac (cl e 163 [x7,x11] s2) fun x12 s13=>(ex x12 0).bind fun x14=>(ex x12 1).bind fun x15=>jn (s197_0 e n) fun j19=>qae x15 ((ldL c3 0 (some 4)).bind fun x20=>(ldL c4 4 none).bind fun x21=>qac (iaV 5 x21 (i64 0)) fun q22 o23=>(ldH e s13 (.elem q22 o23) (some 5)).bind fun x24=>qac (cl e 104 [x20,x24,i64 1] s13) fun x25 s26=>j19 x14 x25 s26) (j19 x14 (bl false) s13)) ((bn .eql x5 (u8 8)).bind fun x27=>qae x27 ((ldL c3 0 (some 4)).bind fun x28=>(ldL c3 0 (some 4)).bind fun x29=>(ldL c4 4 none).bind fun x30=>qac (iaV 5 x30 (i64 1)) fun q31 o32=>(ldH e s2 (.elem q31 o32) (some 5)).bind fun x33=>(ldL c4 4 none).bind fun x34=>qac (iaV 5 x34 (i64 2)) fun q35 o36=>(ldH e s2 (.elem q35 o36) (some 5)).bind fun x37=>qac (cl e 206 [x28,x29,x33,x37] s2) fun x38 s39=>(ex x38 0).bind fun x40=>(ex x38 1).bind fun x41=>(ldL c3 0 (some 4)).bind fun x42=>(ldL c4 4 none).bind fun x43=>qac (iaV 5 x43 (i64 0)) fun q44 o45=>(ldH e s39 (.elem q44 o45) (some 5)).bind fun x46=>qac (cl e 163 [x42,x46] s39) fun x47 s48=>(ex x47 0).bind fun x49=>(ex x47 1).bind fun x50=>jn (s197_1 e n s48) fun j53=>qae x41 (j53 x40 x50) (j53 x40 (bl false))) ((bn .eql x5 (u8 9)).bind fun x54=>qae x54 ((ldL c3 0 (some 4)).bind fun x55=>(ldL c4 4 none).bind fun x56=>qac (iaV 5 x56 (i64 0)) fun q57 o58=>(ldH e s2 (.elem q57 o58) (some 5)).bind fun x59=>qac (cl e 163 [x55,x59] s2) fun x60 s61=>(ex x60 0).bind fun x62=>(ex x60 1).bind fun x63=>jn (s197_2 e n) fun j67=>qae x63 ((ldL c3 0 (some 4)).bind fun x68=>(ldL c4 4 none).bind fun x69=>qac (iaV 5 x69 (i64 1)) fun q70 o71=>(ldH e s61 (.elem q70 o71) (some 5)).bind fun x72=>qac (cl e 104 [x68,x72,i64 1] s61) fun x73 s74=>j67 (i64 1) x73 s74) (j67 (i64 1) (bl false) s61)) ((bn .eql x5 (u8 10)).bind fun x75=>qae x75 ((ldL c3 0 (some 4)).bind fun x76=>(ldL c4 1 none).bind fun x77=>(bd [bl false,i64 0] [(0,none,(.c (bl true))),(1,none,(.c x77))]).bind fun x78=>(bd [(.sl 0 [] .full),bl false,i64 0] [(1,(some 2),(.c x78))]).bind fun x79=>(bd [(.sl 0 [] .full),bl false,i64 0,bl false] [(0,(some 3),(.c x79))]).bind fun x80=>qac (cl e 107 [x76,x80] s2) fun x81 s82=>(ldL c4 4 none).bind fun x83=>qac (iaV 5 x83 (i64 0)) fun q84 o85=>(ldH e s82 (.elem q84 o85) (some 5)).bind fun x86=>qac (cl e 163 [x81,x86] s82) fun x87 s88=>(ex x87 0).bind fun x89=>(ex x87 1).bind fun x90=>jn (s197_3 e n) fun j94=>qae x90 ((ldL c4 1 none).bind fun x95=>qac (cl e 193 [x95] s88) fun x96 s97=>qae x96 ((ldL c4 2 none).bind fun x98=>(ldL c4 1 none).bind fun x99=>qac (cl e 194 [x98,x99] s97) fun x100 s101=>j94 x89 x100 s101) (j94 x89 (bl false) s97)) (j94 x89 (bl false) s88)) ((bn .eql x5 (u8 11)).bind fun x102=>qae x102 ((ldL c3 0 (some 4)).bind fun x103=>(zA.cells (some 4) x103).bind fun c104=>(over [(.sl 0 [] .full),i64 0,i64 0,(.p .nilMap)] 0 c104).bind fun c105=>(ldL c105 2 none).bind fun x106=>(bn .add x106 (i64 1)).bind fun x107=>(zA.cells none x107).bind fun c108=>(over c105 2 c108).bind fun c109=>(ldL c3 0 (some 4)).bind fun x110=>(ldL c109 0 (some 4)).bind fun x111=>(ldL c4 4 none).bind fun x112=>qac (iaV 5 x112 (i64 0)) fun q113 o114=>(ldH e s2 (.elem q113 o114) (some 5)).bind fun x115=>(ldL c4 4 none).bind fun x116=>qac (iaV 5 x116 (i64 1)) fun q117 o118=>(ldH e s2 (.elem q117 o118) (some 5)).bind fun x119=>qac (cl e 206 [x110,x111,x115,x119] s2) fun x120 s121=>(ex x120 0).bind fun x122=>(ex x120 1).bind fun x123=>some (.tuple [x122,x123],s121)) ((bn .eql x5 (u8 13)).bind fun x124=>qae x124 ((ldL c3 0 (some 4)).bind fun x125=>(ldL c3 0 (some 4)).bind fun x126=>(ldL c4 4 none).bind fun x127=>qac (iaV 5 x127 (i64 0)) fun q128 o129=>(ldH e s2 (.elem q128 o129) (some 5)).bind fun x130=>(ldL c4 4 none).bind fun x131=>qac (iaV 5 x131 (i64 1)) fun q132 o133=>(ldH e s2 (.elem q132 o133) (some 5)).bind fun x134=>qac (cl e 206 [x125,x126,x130,x134] s2) fun x135 s136=>(ex x135 0).bind fun x137=>(ex x135 1).bind fun x138=>some (.tuple [x137,x138],s136)) ((bn .eql x5 (u8 18)).bind fun x139=>qae x139 ((ldL c3 0 (some 4)).bind fun x140=>(ldL c4 4 none).bind fun x141=>qac (iaV 5 x141 (i64 0)) fun q142 o143=>(ldH e s2 (.elem q142 o143) (some 5)).bind fun x144=>qac (cl e 163 [x140,x144] s2) fun x145 s146=>(ex x145 0).bind fun x147=>(ex x145 1).bind fun x148=>(ldL c3 0 (some 4)).bind fun x149=>(ldL c4 3 none).bind fun x150=>qac (cl e 106 [x149,x150] s146) fun x151 s152=>(ex x151 0).bind fun x153=>(ex x151 1).bind fun x154=>jn (s197_4 e n) fun j158=>qae x148 (qae x154 ((ldL c4 3 none).bind fun x159=>(ldL c3 1 none).bind fun x160=>(bn .gtr x159 x160).bind fun x161=>qae x161 ((ldL c4 1 none).bind fun x162=>qac (cl e 194 [x162,x153] s152) fun x163 s164=>j158 x147 x163 s164) (j158 x147 (bl false) s152)) (j158 x147 (bl false) s152)) (j158 x147 (bl false) s152)) (some (.tuple [i64 0,bl false],s2))))))))
def s198 (e:Env)(n:Nat)(x0:zA)(s1:ASt):Res:=(zA.cells (some 5) x0).bind fun c2=>(ldL c2 4 none).bind fun x3=>qac (iaV 5 x3 (i64 0)) fun q4 o5=>(ldH e s1 (.elem q4 (o5+1)) none).bind fun x6=>(ldL c2 4 none).bind fun x7=>qac (iaV 5 x7 (i64 1)) fun q8 o9=>(ldH e s1 (.elem q8 (o9+1)) none).bind fun x10=>(ldL c2 1 none).bind fun x11=>(bn .eql x11 (i64 1)).bind fun x12=>qae x12 ((bn .add x6 x10).bind fun x13=>(ldL c2 2 none).bind fun x14=>(bn .rem x13 x14).bind fun x15=>(ldL c2 2 none).bind fun x16=>qac (cl e 176 [x15,x16] s1) fun x17 s18=>(zA.cells (some 5) x17).bind fun c19=>(over ZT5 0 c19).bind fun c20=>(ldL c20 0 (some 5)).bind fun x21=>some (x21,s18)) ((bn .eql x11 (i64 2)).bind fun x22=>qae x22 ((bn .sub x6 x10).bind fun x23=>(ldL c2 2 none).bind fun x24=>(bn .add x23 x24).bind fun x25=>(ldL c2 2 none).bind fun x26=>(bn .rem x25 x26).bind fun x27=>(ldL c2 2 none).bind fun x28=>qac (cl e 176 [x27,x28] s1) fun x29 s30=>(zA.cells (some 5) x29).bind fun c31=>(over ZT5 0 c31).bind fun c32=>(ldL c32 0 (some 5)).bind fun x33=>some (x33,s30)) ((bn .eql x11 (i64 3)).bind fun x34=>qae x34 ((bn .mul x6 x10).bind fun x35=>(ldL c2 2 none).bind fun x36=>(bn .rem x35 x36).bind fun x37=>(ldL c2 2 none).bind fun x38=>qac (cl e 176 [x37,x38] s1) fun x39 s40=>(zA.cells (some 5) x39).bind fun c41=>(over ZT5 0 c41).bind fun c42=>(ldL c42 0 (some 5)).bind fun x43=>some (x43,s40)) ((bn .eql x11 (i64 4)).bind fun x44=>qae x44 ((bn .eql x6 x10).bind fun x45=>qac (cl e 207 [x45] s1) fun x46 s47=>qac (cl e 176 [x46,i64 2] s47) fun x48 s49=>(zA.cells (some 5) x48).bind fun c50=>(over ZT5 0 c50).bind fun c51=>(ldL c51 0 (some 5)).bind fun x52=>some (x52,s49)) ((bn .lss x6 x10).bind fun x53=>qac (cl e 207 [x53] s1) fun x54 s55=>qac (cl e 176 [x54,i64 2] s55) fun x56 s57=>(zA.cells (some 5) x56).bind fun c58=>(over ZT5 0 c58).bind fun c59=>(ldL c59 0 (some 5)).bind fun x60=>some (x60,s57)))))
def s199_0 (e:Env)(n:Nat):zA->ASt->Res:=fun x5 s6=>some (x5,s6)
def s199 (e:Env)(n:Nat)(x0 x1 x2:zA)(s3:ASt):Res:=(zA.cells (some 5) x0).bind fun c4=>jn (s199_0 e n) fun j7=>(ldL c4 0 (some 5)).bind fun x8=>qac (cl e 175 [x8] s3) fun x9 s10=>qae x9 ((ldL c4 1 none).bind fun x11=>(bn .eql x11 x1).bind fun x12=>qae x12 ((ldL c4 2 none).bind fun x13=>(bn .eql x13 x2).bind fun x14=>j7 x14 s10) (j7 (bl false) s10)) (j7 (bl false) s10)
def s200 (e:Env)(n:Nat)(x0 x1:zA)(s2:ASt):Res:=(zA.cells (some 5) x0).bind fun c3=>(zA.cells none x1).bind fun c4=>(over c3 4 c4).bind fun c5=>(ldL c5 0 (some 5)).bind fun x6=>(zA.cells (some 5) x6).bind fun c7=>(over ZT5 0 c7).bind fun c8=>(ldL c8 0 (some 5)).bind fun x9=>some (x9,s2)
def s201_0 (e:Env)(n:Nat)(c4:List zA)(x0 x2:zA):zA->ASt->Res:=lp (fun _ _=>none) (fun h10 x8 s9=>(ldL c4 4 none).bind fun x11=>(ln false x11).bind fun x12=>(bn .lss x8 x12).bind fun x13=>qae x13 ((ldL c4 4 none).bind fun x14=>qac (iaV 5 x14 x8) fun q15 o16=>(ldH e s9 (.elem q15 o16) (some 5)).bind fun x17=>qac (cl e 201 [x0,x17,x2] s9) fun x18 s19=>(bn .add x8 (i64 1)).bind fun x20=>h10 x20 s19) (some (.tuple [],s9))) n
def s201_1 (e:Env)(n:Nat)(c4:List zA)(x0 x2:zA):ASt->Res:=fun s7=>s201_0 e n c4 x0 x2 (i64 0) s7
def s201_2 (e:Env)(n:Nat)(j21:ASt->Res):ASt->Res:=fun s24=>j21 s24
def s201_3 (e:Env)(n:Nat)(j25:ASt->Res):ASt->Res:=fun s36=>j25 s36
def s201_4 (e:Env)(n:Nat)(j37:ASt->Res):ASt->Res:=fun s47=>j37 s47
def s201_5 (e:Env)(n:Nat)(j25:ASt->Res)(x0:zA)(s3:ASt)(x22:zA):zA->Res:=fun x35=>jn (s201_3 e n j25) fun j37=>qae x35 (qll x0 fun x38=>faK 1 x38 fun x39=>(ldH e s3 x39 none).bind fun x40=>(bn .add x40 (i64 1)).bind fun x41=>qll x0 fun x42=>faK 1 x42 fun x43=>(zA.cells none x41).bind fun c44=>(stH s3 x43 c44).bind fun s45=>j37 s45) ((bn .eql x22 (u8 16)).bind fun x46=>jn (s201_4 e n j37) fun j48=>qae x46 (qll x0 fun x49=>faK 2 x49 fun x50=>(ldH e s3 x50 none).bind fun x51=>(bn .add x51 (i64 1)).bind fun x52=>qll x0 fun x53=>faK 2 x53 fun x54=>(zA.cells none x52).bind fun c55=>(stH s3 x54 c55).bind fun s56=>j48 s56) (j48 s3))
def s201 (e:Env)(n:Nat)(x0 x1 x2:zA)(s3:ASt):Res:=(zA.cells (some 5) x1).bind fun c4=>(ldL c4 3 none).bind fun x5=>(bn .eql x5 x2).bind fun x6=>jn (s201_1 e n c4 x0 x2) fun j21=>qae x6 ((ldL c4 0 none).bind fun x22=>(bn .eql x22 (u8 3)).bind fun x23=>jn (s201_2 e n j21) fun j25=>qae x23 (qll x0 fun x26=>faK 0 x26 fun x27=>(ldH e s3 x27 none).bind fun x28=>(bn .add x28 (i64 1)).bind fun x29=>qll x0 fun x30=>faK 0 x30 fun x31=>(zA.cells none x29).bind fun c32=>(stH s3 x31 c32).bind fun s33=>j25 s33) ((bn .eql x22 (u8 4)).bind fun x34=>jn (s201_5 e n j25 x0 s3 x22) fun j57=>qae x34 (j57 x34) ((bn .eql x22 (u8 18)).bind fun x58=>j57 x58))) (j21 s3)
def s202_0 (e:Env)(n:Nat)(x1:zA):zA->List zA->List zA->List zA->List zA->ASt->Res:=lp (fun _ _ _ _ _ _=>none) (fun h30 x24 c25 c26 c27 c28 s29=>(ldL c25 4 none).bind fun x31=>(ln false x31).bind fun x32=>(bn .lss x24 x32).bind fun x33=>qae x33 ((ldL c28 4 none).bind fun x34=>(ldL c25 4 none).bind fun x35=>qac (iaV 5 x35 x24) fun q36 o37=>(ldH e s29 (.elem q36 o37) (some 5)).bind fun x38=>(ldL c26 0 (some 5)).bind fun x39=>qac (cl e 202 [x38,x1,x39] s29) fun x40 s41=>(ms 1 [(.int .u8 0),(.int .i64 0),(.int .i64 0),(.int .i64 0),(.sl 0 [])] [(0,(some 5),(.c x40))]).bind fun x42=>qac (ap e 5 56 x34 x42 s41) fun x43 s44=>(zA.cells none x43).bind fun c45=>(over c28 4 c45).bind fun c46=>(bn .add x24 (i64 1)).bind fun x47=>h30 x47 c25 c26 c27 c46 s44) ((ldL c28 0 (some 5)).bind fun x48=>(zA.cells (some 5) x48).bind fun c49=>(over c27 0 c49).bind fun c50=>(ldL c50 0 (some 5)).bind fun x51=>some (x51,s29))) n
def s202_1 (e:Env)(n:Nat)(x1:zA)(s12:ASt):List zA->List zA->List zA->List zA->Res:=fun c18 c19 c20 c21=>(zA.cells none (.sl 0 [] .full)).bind fun c22=>(over c21 4 c22).bind fun c23=>s202_0 e n x1 (i64 0) c18 c19 c20 c23 s12
def s202_2 (e:Env)(n:Nat)(x1:zA):List zA->List zA->List zA->List zA->ASt->Res:=fun c8 c9 c10 c11 s12=>(ldL c8 0 (some 5)).bind fun x13=>(zA.cells (some 5) x13).bind fun c14=>(over ZT5 0 c14).bind fun c15=>(ldL c8 3 none).bind fun x16=>(bn .gtr x16 x1).bind fun x17=>jn (s202_1 e n x1 s12) fun j52=>qae x17 ((ldL c15 3 none).bind fun x53=>(bn .sub x53 (i64 1)).bind fun x54=>(zA.cells none x54).bind fun c55=>(over c15 3 c55).bind fun c56=>j52 c8 c9 c10 c56) (j52 c8 c9 c10 c15)
def s202 (e:Env)(n:Nat)(x0 x1 x2:zA)(s3:ASt):Res:=(zA.cells (some 5) x0).bind fun c4=>(zA.cells (some 5) x2).bind fun c5=>(ldL c4 3 none).bind fun x6=>(bn .eql x6 x1).bind fun x7=>jn (s202_2 e n x1) fun j57=>qae x7 ((ldL c4 0 none).bind fun x58=>(bn .eql x58 (u8 3)).bind fun x59=>qae x59 ((ldL c5 0 (some 5)).bind fun x60=>(zA.cells (some 5) x60).bind fun c61=>(over ZT5 0 c61).bind fun c62=>(ldL c62 0 (some 5)).bind fun x63=>some (x63,s3)) ((bn .eql x58 (u8 4)).bind fun x64=>qae x64 ((ldL c4 4 none).bind fun x65=>qac (iaV 5 x65 (i64 0)) fun q66 o67=>(ldH e s3 (.elem q66 o67) (some 5)).bind fun x68=>(ldL c5 0 (some 5)).bind fun x69=>qac (cl e 202 [x68,x1,x69] s3) fun x70 s71=>(ms 1 [(.int .u8 0),(.int .i64 0),(.int .i64 0),(.int .i64 0),(.sl 0 [])] [(0,(some 5),(.c x70))]).bind fun x72=>(bd ZT5 [(0,none,(.c (u8 6))),(1,none,(.c (i64 1))),(4,none,(.c x72))]).bind fun x73=>(zA.cells (some 5) x73).bind fun c74=>(over ZT5 0 c74).bind fun c75=>(ldL c75 0 (some 5)).bind fun x76=>some (x76,s71)) ((bn .eql x58 (u8 18)).bind fun x77=>qae x77 ((ldL c4 4 none).bind fun x78=>qac (iaV 5 x78 (i64 0)) fun q79 o80=>(ldH e s3 (.elem q79 o80) (some 5)).bind fun x81=>(ldL c5 0 (some 5)).bind fun x82=>qac (cl e 202 [x81,x1,x82] s3) fun x83 s84=>(zA.cells (some 5) x83).bind fun c85=>(over ZT5 0 c85).bind fun c86=>(ldL c86 0 (some 5)).bind fun x87=>some (x87,s84)) (j57 c4 c5 ZT5 [] s3)))) (j57 c4 c5 ZT5 [] s3)
def s203_0 (e:Env)(n:Nat):ASt->Res:=fun s9=>some (bl false,s9)
def s203_1 (e:Env)(n:Nat)(j10:ASt->Res):ASt->Res:=fun s13=>j10 s13
def s203_2 (e:Env)(n:Nat)(j10:ASt->Res)(x3:zA)(c5:List zA):ASt->Res:=fun s12=>jn (s203_1 e n j10) fun j14=>faK 2 x3 fun x15=>(ldH e s12 x15 none).bind fun x16=>qae x16 (faK 2 x3 fun x17=>(zA.cells none (bl true)).bind fun c18=>(stH s12 x17 c18).bind fun s19=>j14 s19) ((ldL c5 0 none).bind fun x20=>(bn .eql x20 (u8 16)).bind fun x21=>faK 2 x3 fun x22=>(zA.cells none x21).bind fun c23=>(stH s12 x22 c23).bind fun s24=>j14 s24)
def s203_3 (e:Env)(n:Nat)(j10:ASt->Res)(x3:zA)(c5:List zA):ASt->Res:=fun s11=>jn (s203_2 e n j10 x3 c5) fun j25=>faK 1 x3 fun x26=>(ldH e s11 x26 none).bind fun x27=>qae x27 (faK 1 x3 fun x28=>(zA.cells none (bl true)).bind fun c29=>(stH s11 x28 c29).bind fun s30=>j25 s30) ((ldL c5 0 none).bind fun x31=>(bn .eql x31 (u8 4)).bind fun x32=>qae x32 (faK 1 x3 fun x33=>(zA.cells none (bl true)).bind fun c34=>(stH s11 x33 c34).bind fun s35=>j25 s35) ((ldL c5 0 none).bind fun x36=>(bn .eql x36 (u8 18)).bind fun x37=>faK 1 x3 fun x38=>(zA.cells none x37).bind fun c39=>(stH s11 x38 c39).bind fun s40=>j25 s40))
def s203 (e:Env)(n:Nat)(x0 x1 x2 x3:zA)(s4:ASt):Res:=(zA.cells (some 5) x0).bind fun c5=>(ldL c5 3 none).bind fun x6=>(ldH e s4 x2 none).bind fun x7=>(bn .eql x6 x7).bind fun x8=>jn (s203_0 e n) fun j10=>qae x8 (jn (s203_3 e n j10 x3 c5) fun j41=>faK 0 x3 fun x42=>(ldH e s4 x42 none).bind fun x43=>qae x43 (faK 0 x3 fun x44=>(zA.cells none (bl true)).bind fun c45=>(stH s4 x44 c45).bind fun s46=>j41 s46) ((ldL c5 0 none).bind fun x47=>(bn .eql x47 (u8 3)).bind fun x48=>faK 0 x3 fun x49=>(zA.cells none x48).bind fun c50=>(stH s4 x49 c50).bind fun s51=>j41 s51)) (j10 s4)
def s204_0 (e:Env)(n:Nat)(s8:ASt):List zA->List zA->Res:=fun c22 c23=>(ldL c22 0 (some 5)).bind fun x24=>(zA.cells (some 5) x24).bind fun c25=>(over c23 0 c25).bind fun c26=>(ldL c26 0 (some 5)).bind fun x27=>some (.tuple [x27,bl true],s8)
def s204_1 (e:Env)(n:Nat)(x2 x3:zA):List zA->List zA->ASt->Res:=lp (fun _ _ _=>none) (fun h9 c6 c7 s8=>(ldL c6 3 none).bind fun x10=>(ldH e s8 x2 none).bind fun x11=>(bn .eql x10 x11).bind fun x12=>qae x12 ((ldH e s8 x3 none).bind fun x13=>(ldL c6 0 (some 5)).bind fun x14=>qac (clv e x13 [x14] s8) fun x15 s16=>(zA.cells (some 5) x15).bind fun c17=>(over c6 0 c17).bind fun c18=>h9 c18 c7 s16) ((ldL c6 3 none).bind fun x19=>(ldH e s8 x2 none).bind fun x20=>(bn .gtr x19 x20).bind fun x21=>jn (s204_0 e n s8) fun j28=>qae x21 ((ldL c6 3 none).bind fun x29=>(bn .sub x29 (i64 1)).bind fun x30=>(zA.cells none x30).bind fun c31=>(over c6 3 c31).bind fun c32=>j28 c32 c7) (j28 c6 c7))) n
def s204 (e:Env)(n:Nat)(x0 x1 x2 x3:zA)(s4:ASt):Res:=(zA.cells (some 5) x0).bind fun c5=>s204_1 e n x2 x3 c5 ZT5 s4
def s205_0 (e:Env)(n:Nat)(x7 x0 x1 x2:zA):zA->Nat->Nat->List zA->List zA->ASt->Res:=lp (fun _ _ _ _ _ _=>none) (fun h14 x8 g9 g10 c11 c12 s13=>(bn .lss x8 x7).bind fun x15=>qae x15 (qac (iaV 5 x0 x8) fun q16 o17=>(ldH e s13 (.elem q16 o17) (some 5)).bind fun x18=>(zA.cells (some 5) x18).bind fun c19=>cnd (Nat.beq (g9+1) (g9+1)) ((over ZT5 0 c19).bind fun c20=>qac (iaV 2 x1 x8) fun q21 o22=>(ldH e s13 (.elem q21 o22) (some 2)).bind fun x23=>(zA.cells (some 2) x23).bind fun c24=>cnd (Nat.beq (g10+1) (g10+1)) ((over [bl false,i64 0] 0 c24).bind fun c25=>cnd (Nat.beq (g9+1) (g9+1)) ((ldL c20 0 (some 5)).bind fun x26=>cnd (Nat.beq (g10+1) (g10+1)) ((ldL c25 0 (some 2)).bind fun x27=>qac (clv e x2 [x26,x27] s13) fun x28 s29=>(nt x28).bind fun x30=>qae x30 (some (bl false,s29)) ((bn .add x8 (i64 1)).bind fun x31=>h14 x31 (g9+1) (g10+1) c20 c25 s29)) none) none) none) none) (some (bl true,s13))) n
def s205 (e:Env)(n:Nat)(x0 x1 x2:zA)(s3:ASt):Res:=(ln false x0).bind fun x4=>(ln false x1).bind fun x5=>(bn .neq x4 x5).bind fun x6=>qae x6 (some (bl false,s3)) ((ln false x0).bind fun x7=>s205_0 e n x7 x0 x1 x2 (i64 0) 0 0 [] [] s3)
def s206_0 (e:Env)(n:Nat):zA->zA->ASt->Res:=fun x15 x16 s17=>some (.tuple [x15,x16],s17)
def s206 (e:Env)(n:Nat)(x0 x1 x2 x3:zA)(s4:ASt):Res:=(zA.cells (some 4) x0).bind fun c5=>(zA.cells (some 4) x1).bind fun c6=>(zA.cells (some 5) x2).bind fun c7=>(zA.cells (some 5) x3).bind fun c8=>(ldL c6 0 (some 4)).bind fun x9=>(ldL c7 0 (some 5)).bind fun x10=>qac (cl e 163 [x9,x10] s4) fun x11 s12=>(ex x11 0).bind fun x13=>(ex x11 1).bind fun x14=>jn (s206_0 e n) fun j18=>qae x14 ((ldL c5 0 (some 4)).bind fun x19=>(ldL c8 0 (some 5)).bind fun x20=>qac (cl e 104 [x19,x20,x13] s12) fun x21 s22=>j18 x13 x21 s22) (j18 x13 (bl false) s12)
def s207 (e:Env)(n:Nat)(x0:zA)(s1:ASt):Res:=qae x0 (some (i64 1,s1)) (some (i64 0,s1))
end
end Go.AI.Tryz
namespace Go.AI.Tryz
theorem s3_eq:∀e n x0 x1 x2 s,qau cf3 e n [x0,x1,x2] s=s3 e n x0 x1 x2 s:=by intros;kernel_rfl
theorem s11_eq:∀e n x0 x1 s,qau cf11 e n [x0,x1] s=s11 e n x0 x1 s:=by intros;kernel_rfl
theorem s13_eq:∀e n x0 x1 s,qau cf13 e n [x0,x1] s=s13 e n x0 x1 s:=by intros;kernel_rfl
theorem s14_eq:∀e n x0 s,qau cf14 e n [x0] s=s14 e n x0 s:=by intros;kernel_rfl
theorem s15_eq:∀e n x0 s,qau cf15 e n [x0] s=s15 e n x0 s:=by intros;kernel_rfl
theorem s16_eq:∀e n x0 x1 s,qau cf16 e n [x0,x1] s=s16 e n x0 x1 s:=by intros;kernel_rfl
theorem s17_eq:∀e n x0 x1 x2 s,qau cf17 e n [x0,x1,x2] s=s17 e n x0 x1 x2 s:=by intros;kernel_rfl
theorem s18_eq:∀e n x0 x1 x2 s,qau cf18 e n [x0,x1,x2] s=s18 e n x0 x1 x2 s:=by intros;kernel_rfl
theorem s19_eq:∀e n x0 x1 s,qau cf19 e n [x0,x1] s=s19 e n x0 x1 s:=by intros;kernel_rfl
theorem s20_eq:∀e n x0 x1 s,qau cf20 e n [x0,x1] s=s20 e n x0 x1 s:=by intros;kernel_rfl
theorem s22_eq:∀e n s,qau cf22 e n [] s=s22 e n s:=by intros;kernel_rfl
theorem s31_eq:∀e n x0 x1 s,qau cf31 e n [x0,x1] s=s31 e n x0 x1 s:=by intros;kernel_rfl
theorem s32_eq:∀e n x0 s,qau cf32 e n [x0] s=s32 e n x0 s:=by intros;kernel_rfl
theorem s38_eq:∀e n x0 s,qau cf38 e n [x0] s=s38 e n x0 s:=by intros;kernel_rfl
theorem s39_eq:∀e n x0 s,qau cf39 e n [x0] s=s39 e n x0 s:=by intros;kernel_rfl
theorem s40_eq:∀e n x0 x1 s,qau cf40 e n [x0,x1] s=s40 e n x0 x1 s:=by intros;kernel_rfl
theorem s41_eq:∀e n x0 x1 x2 s,qau cf41 e n [x0,x1,x2] s=s41 e n x0 x1 x2 s:=by intros;kernel_rfl
theorem y41_eq (e:Env)(n:Nat)(u:ASt->ASt)(l6 l8 l10 l12 l14:Nat)(x25 x58 x59:zA)(s:ASt):qvm 63 3 e n ra41 rb41 u [(21,x58),(22,x59),(4,(.ptr l6 0)),(6,(.ptr l8 0)),(7,(.ptr l10 0)),(8,(.ptr l12 0)),(9,(.ptr l14 0)),(10,x25)] [(1,(0,[])),(2,(0,[]))] s=y41 e n u l6 l8 l10 l12 l14 x25 x58 x59 s:=by kernel_rfl
theorem s42_eq:∀e n x0 s,qau cf42 e n [x0] s=s42 e n x0 s:=by intros;kernel_rfl
theorem s43_eq:∀e n x0 s,qau cf43 e n [x0] s=s43 e n x0 s:=by intros;kernel_rfl
theorem s44_eq:∀e n x0 x1 s,qau cf44 e n [x0,x1] s=s44 e n x0 x1 s:=by intros;kernel_rfl
theorem s45_eq:∀e n x0 x1 s,qau cf45 e n [x0,x1] s=s45 e n x0 x1 s:=by intros;kernel_rfl
theorem s46_eq:∀e n x0 x1 s,qau cf46 e n [x0,x1] s=s46 e n x0 x1 s:=by intros;kernel_rfl
theorem s47_eq:∀e n x0 x1 s,qau cf47 e n [x0,x1] s=s47 e n x0 x1 s:=by intros;kernel_rfl
theorem s48_eq:∀e n x0 x1 s,qau cf48 e n [x0,x1] s=s48 e n x0 x1 s:=by intros;kernel_rfl
theorem s49_eq:∀e n x0 x1 x2 s,qau cf49 e n [x0,x1,x2] s=s49 e n x0 x1 x2 s:=by intros;kernel_rfl
theorem s50_eq:∀e n s,qau cf50 e n [] s=s50 e n s:=by intros;kernel_rfl
theorem s54_eq:∀e n x0 x1 s,qau cf54 e n [x0,x1] s=s54 e n x0 x1 s:=by intros;kernel_rfl
theorem s56_eq:∀e n x0 s,qau cf56 e n [x0] s=s56 e n x0 s:=by intros;kernel_rfl
theorem s57_eq:∀e n x0 s,qau cf57 e n [x0] s=s57 e n x0 s:=by intros;kernel_rfl
theorem s58_eq:∀e n s,qau cf58 e n [] s=s58 e n s:=by intros;kernel_rfl
theorem s59_eq:∀e n x0 x1 x2 s,qau cf59 e n [x0,x1,x2] s=s59 e n x0 x1 x2 s:=by intros;kernel_rfl
theorem s60_eq:∀e n x0 s,qau cf60 e n [x0] s=s60 e n x0 s:=by intros;kernel_rfl
theorem s62_eq:∀e n x0 s,qau cf62 e n [x0] s=s62 e n x0 s:=by intros;kernel_rfl
theorem s64_eq:∀e n x0 x1 x2 s,qau cf64 e n [x0,x1,x2] s=s64 e n x0 x1 x2 s:=by intros;kernel_rfl
theorem s65_eq:∀e n x0 x1 s,qau cf65 e n [x0,x1] s=s65 e n x0 x1 s:=by intros;kernel_rfl
theorem s66_eq:∀e n x0 x1 x2 s,qau cf66 e n [x0,x1,x2] s=s66 e n x0 x1 x2 s:=by intros;kernel_rfl
theorem s67_eq:∀e n x0 x1 s,qau cf67 e n [x0,x1] s=s67 e n x0 x1 s:=by intros;kernel_rfl
theorem s68_eq:∀e n x0 x1 x2 x3 s,qau cf68 e n [x0,x1,x2,x3] s=s68 e n x0 x1 x2 x3 s:=by intros;kernel_rfl
theorem s69_eq:∀e n x0 s,qau cf69 e n [x0] s=s69 e n x0 s:=by intros;kernel_rfl
theorem s70_eq:∀e n x0 x1 x2 s,qau cf70 e n [x0,x1,x2] s=s70 e n x0 x1 x2 s:=by intros;kernel_rfl
theorem s71_eq:∀e n x0 s,qau cf71 e n [x0] s=s71 e n x0 s:=by intros;kernel_rfl
theorem s72_eq:∀e n x0 s,qau cf72 e n [x0] s=s72 e n x0 s:=by intros;kernel_rfl
theorem s73_eq:∀e n x0 s,qau cf73 e n [x0] s=s73 e n x0 s:=by intros;kernel_rfl
theorem s74_eq:∀e n x0 s,qau cf74 e n [x0] s=s74 e n x0 s:=by intros;kernel_rfl
theorem s75_eq:∀e n x0 s,qau cf75 e n [x0] s=s75 e n x0 s:=by intros;kernel_rfl
theorem s76_eq:∀e n x0 s,qau cf76 e n [x0] s=s76 e n x0 s:=by intros;kernel_rfl
theorem s77_eq:∀e n x0 s,qau cf77 e n [x0] s=s77 e n x0 s:=by intros;kernel_rfl
theorem s78_eq:∀e n x0 s,qau cf78 e n [x0] s=s78 e n x0 s:=by intros;kernel_rfl
theorem s79_eq:∀e n x0 s,qau cf79 e n [x0] s=s79 e n x0 s:=by intros;kernel_rfl
theorem s80_eq:∀e n x0 s,qau cf80 e n [x0] s=s80 e n x0 s:=by intros;kernel_rfl
theorem s81_eq:∀e n x0 s,qau cf81 e n [x0] s=s81 e n x0 s:=by intros;kernel_rfl
theorem s82_eq:∀e n x0 s,qau cf82 e n [x0] s=s82 e n x0 s:=by intros;kernel_rfl
theorem s83_eq:∀e n x0 s,qau cf83 e n [x0] s=s83 e n x0 s:=by intros;kernel_rfl
theorem s84_eq:∀e n x0 s,qau cf84 e n [x0] s=s84 e n x0 s:=by intros;kernel_rfl
theorem s85_eq:∀e n x0 s,qau cf85 e n [x0] s=s85 e n x0 s:=by intros;kernel_rfl
theorem s86_eq:∀e n x0 s,qau cf86 e n [x0] s=s86 e n x0 s:=by intros;kernel_rfl
theorem s87_eq:∀e n x0 s,qau cf87 e n [x0] s=s87 e n x0 s:=by intros;kernel_rfl
theorem s88_eq:∀e n x0 s,qau cf88 e n [x0] s=s88 e n x0 s:=by intros;kernel_rfl
theorem s89_eq:∀e n x0 s,qau cf89 e n [x0] s=s89 e n x0 s:=by intros;kernel_rfl
theorem s90_eq:∀e n x0 s,qau cf90 e n [x0] s=s90 e n x0 s:=by intros;kernel_rfl
theorem s91_eq:∀e n x0 s,qau cf91 e n [x0] s=s91 e n x0 s:=by intros;kernel_rfl
theorem s92_eq:∀e n x0 s,qau cf92 e n [x0] s=s92 e n x0 s:=by intros;kernel_rfl
theorem s93_eq:∀e n x0 s,qau cf93 e n [x0] s=s93 e n x0 s:=by intros;kernel_rfl
theorem s94_eq:∀e n x0 x1 x2 s,qau cf94 e n [x0,x1,x2] s=s94 e n x0 x1 x2 s:=by intros;kernel_rfl
theorem s95_eq:∀e n x0 x1 s,qau cf95 e n [x0,x1] s=s95 e n x0 x1 s:=by intros;kernel_rfl
theorem s96_eq:∀e n x0 x1 x2 x3 x4 s,qau cf96 e n [x0,x1,x2,x3,x4] s=s96 e n x0 x1 x2 x3 x4 s:=by intros;kernel_rfl
theorem s98_eq:∀e n s,qau cf98 e n [] s=s98 e n s:=by intros;kernel_rfl
theorem s99_eq:∀e n x0 s,qau cf99 e n [x0] s=s99 e n x0 s:=by intros;kernel_rfl
theorem s100_eq:∀e n x0 s,qau cf100 e n [x0] s=s100 e n x0 s:=by intros;kernel_rfl
theorem s101_eq:∀e n x0 s,qau cf101 e n [x0] s=s101 e n x0 s:=by intros;kernel_rfl
theorem s102_eq:∀e n x0 x1 s,qau cf102 e n [x0,x1] s=s102 e n x0 x1 s:=by intros;kernel_rfl
theorem s103_eq:∀e n x0 s,qau cf103 e n [x0] s=s103 e n x0 s:=by intros;kernel_rfl
theorem s104_eq:∀e n x0 x1 x2 s,qau cf104 e n [x0,x1,x2] s=s104 e n x0 x1 x2 s:=by intros;kernel_rfl
theorem s105_eq:∀e n x0 x1 s,qau cf105 e n [x0,x1] s=s105 e n x0 x1 s:=by intros;kernel_rfl
theorem s106_eq:∀e n x0 x1 s,qau cf106 e n [x0,x1] s=s106 e n x0 x1 s:=by intros;kernel_rfl
theorem s107_eq:∀e n x0 x1 s,qau cf107 e n [x0,x1] s=s107 e n x0 x1 s:=by intros;kernel_rfl
theorem s108_eq:∀e n x0 x1 x2 s,qau cf108 e n [x0,x1,x2] s=s108 e n x0 x1 x2 s:=by intros;kernel_rfl
theorem s109_eq:∀e n x0 x1 s,qau cf109 e n [x0,x1] s=s109 e n x0 x1 s:=by intros;kernel_rfl
theorem s111_eq:∀e n x0 s,qau cf111 e n [x0] s=s111 e n x0 s:=by intros;kernel_rfl
theorem s112_eq:∀e n x0 s,qau cf112 e n [x0] s=s112 e n x0 s:=by intros;kernel_rfl
theorem s115_eq:∀e n x0 x1 x2 x3 x4 s,qau cf115 e n [x0,x1,x2,x3,x4] s=s115 e n x0 x1 x2 x3 x4 s:=by intros;kernel_rfl
theorem s116_eq:∀e n x0 x1 x2 s,qau cf116 e n [x0,x1,x2] s=s116 e n x0 x1 x2 s:=by intros;kernel_rfl
theorem s117_eq:∀e n x0 s,qau cf117 e n [x0] s=s117 e n x0 s:=by intros;kernel_rfl
theorem s118_eq:∀e n x0 x1 x2 s,qau cf118 e n [x0,x1,x2] s=s118 e n x0 x1 x2 s:=by intros;kernel_rfl
theorem s119_eq:∀e n x0 x1 s,qau cf119 e n [x0,x1] s=s119 e n x0 x1 s:=by intros;kernel_rfl
theorem s120_eq:∀e n x0 s,qau cf120 e n [x0] s=s120 e n x0 s:=by intros;kernel_rfl
theorem s121_eq:∀e n x0 x1 x2 s,qau cf121 e n [x0,x1,x2] s=s121 e n x0 x1 x2 s:=by intros;kernel_rfl
theorem s122_eq:∀e n x0 s,qau cf122 e n [x0] s=s122 e n x0 s:=by intros;kernel_rfl
theorem s123_eq:∀e n x0 x1 s,qau cf123 e n [x0,x1] s=s123 e n x0 x1 s:=by intros;kernel_rfl
theorem s124_eq:∀e n x0 x1 s,qau cf124 e n [x0,x1] s=s124 e n x0 x1 s:=by intros;kernel_rfl
theorem s125_eq:∀e n x0 s,qau cf125 e n [x0] s=s125 e n x0 s:=by intros;kernel_rfl
theorem s126_eq:∀e n x0 x1 s,qau cf126 e n [x0,x1] s=s126 e n x0 x1 s:=by intros;kernel_rfl
theorem s127_eq:∀e n x0 s,qau cf127 e n [x0] s=s127 e n x0 s:=by intros;kernel_rfl
theorem s128_eq:∀e n x0 x1 s,qau cf128 e n [x0,x1] s=s128 e n x0 x1 s:=by intros;kernel_rfl
theorem s129_eq:∀e n x0 x1 x2 x3 s,qau cf129 e n [x0,x1,x2,x3] s=s129 e n x0 x1 x2 x3 s:=by intros;kernel_rfl
theorem s130_eq:∀e n x0 s,qau cf130 e n [x0] s=s130 e n x0 s:=by intros;kernel_rfl
theorem s131_eq:∀e n x0 s,qau cf131 e n [x0] s=s131 e n x0 s:=by intros;kernel_rfl
theorem s132_eq:∀e n x0 x1 s,qau cf132 e n [x0,x1] s=s132 e n x0 x1 s:=by intros;kernel_rfl
theorem s133_eq:∀e n x0 s,qau cf133 e n [x0] s=s133 e n x0 s:=by intros;kernel_rfl
theorem s134_eq:∀e n x0 x1 s,qau cf134 e n [x0,x1] s=s134 e n x0 x1 s:=by intros;kernel_rfl
theorem s135_eq:∀e n x0 s,qau cf135 e n [x0] s=s135 e n x0 s:=by intros;kernel_rfl
theorem s136_eq:∀e n x0 x1 x2 x3 s,qau cf136 e n [x0,x1,x2,x3] s=s136 e n x0 x1 x2 x3 s:=by intros;kernel_rfl
theorem s137_eq:∀e n x0 s,qau cf137 e n [x0] s=s137 e n x0 s:=by intros;kernel_rfl
theorem s138_eq:∀e n x0 s,qau cf138 e n [x0] s=s138 e n x0 s:=by intros;kernel_rfl
theorem s139_eq:∀e n x0 x1 s,qau cf139 e n [x0,x1] s=s139 e n x0 x1 s:=by intros;kernel_rfl
theorem s140_eq:∀e n x0 s,qau cf140 e n [x0] s=s140 e n x0 s:=by intros;kernel_rfl
theorem s141_eq:∀e n x0 x1 s,qau cf141 e n [x0,x1] s=s141 e n x0 x1 s:=by intros;kernel_rfl
theorem s142_eq:∀e n x0 s,qau cf142 e n [x0] s=s142 e n x0 s:=by intros;kernel_rfl
theorem s143_eq:∀e n x0 x1 x2 s,qau cf143 e n [x0,x1,x2] s=s143 e n x0 x1 x2 s:=by intros;kernel_rfl
theorem s144_eq:∀e n x0 x1 s,qau cf144 e n [x0,x1] s=s144 e n x0 x1 s:=by intros;kernel_rfl
theorem s145_eq:∀e n x0 s,qau cf145 e n [x0] s=s145 e n x0 s:=by intros;kernel_rfl
theorem s146_eq:∀e n x0 x1 s,qau cf146 e n [x0,x1] s=s146 e n x0 x1 s:=by intros;kernel_rfl
theorem s147_eq:∀e n s,qau cf147 e n [] s=s147 e n s:=by intros;kernel_rfl
theorem s148_eq:∀e n x0 x1 x2 s,qau cf148 e n [x0,x1,x2] s=s148 e n x0 x1 x2 s:=by intros;kernel_rfl
theorem s149_eq:∀e n x0 s,qau cf149 e n [x0] s=s149 e n x0 s:=by intros;kernel_rfl
theorem s150_eq:∀e n x0 s,qau cf150 e n [x0] s=s150 e n x0 s:=by intros;kernel_rfl
theorem s151_eq:∀e n x0 x1 s,qau cf151 e n [x0,x1] s=s151 e n x0 x1 s:=by intros;kernel_rfl
theorem s152_eq:∀e n x0 s,qau cf152 e n [x0] s=s152 e n x0 s:=by intros;kernel_rfl
theorem s153_eq:∀e n x0 s,qau cf153 e n [x0] s=s153 e n x0 s:=by intros;kernel_rfl
theorem s154_eq:∀e n x0 s,qau cf154 e n [x0] s=s154 e n x0 s:=by intros;kernel_rfl
theorem s155_eq:∀e n x0 s,qau cf155 e n [x0] s=s155 e n x0 s:=by intros;kernel_rfl
theorem s156_eq:∀e n x0 s,qau cf156 e n [x0] s=s156 e n x0 s:=by intros;kernel_rfl
theorem s157_eq:∀e n x0 s,qau cf157 e n [x0] s=s157 e n x0 s:=by intros;kernel_rfl
theorem s158_eq:∀e n x0 x1 x2 s,qau cf158 e n [x0,x1,x2] s=s158 e n x0 x1 x2 s:=by intros;kernel_rfl
theorem s159_eq:∀e n x0 x1 s,qau cf159 e n [x0,x1] s=s159 e n x0 x1 s:=by intros;kernel_rfl
theorem s160_eq:∀e n x0 s,qau cf160 e n [x0] s=s160 e n x0 s:=by intros;kernel_rfl
theorem s161_eq:∀e n x0 x1 s,qau cf161 e n [x0,x1] s=s161 e n x0 x1 s:=by intros;kernel_rfl
theorem s162_eq:∀e n x0 x1 s,qau cf162 e n [x0,x1] s=s162 e n x0 x1 s:=by intros;kernel_rfl
theorem s163_eq:∀e n x0 x1 s,qau cf163 e n [x0,x1] s=s163 e n x0 x1 s:=by intros;kernel_rfl
theorem s164_eq:∀e n x0 x1 s,qau cf164 e n [x0,x1] s=s164 e n x0 x1 s:=by intros;kernel_rfl
theorem s165_eq:∀e n x0 s,qau cf165 e n [x0] s=s165 e n x0 s:=by intros;kernel_rfl
theorem s167_eq:∀e n x0 x1 x2 s,qau cf167 e n [x0,x1,x2] s=s167 e n x0 x1 x2 s:=by intros;kernel_rfl
theorem s170_eq:∀e n x0 s,qau cf170 e n [x0] s=s170 e n x0 s:=by intros;kernel_rfl
theorem s171_eq:∀e n x0 s,qau cf171 e n [x0] s=s171 e n x0 s:=by intros;kernel_rfl
theorem s172_eq:∀e n x0 x1 x2 s,qau cf172 e n [x0,x1,x2] s=s172 e n x0 x1 x2 s:=by intros;kernel_rfl
theorem s173_eq:∀e n x0 x1 x2 s,qau cf173 e n [x0,x1,x2] s=s173 e n x0 x1 x2 s:=by intros;kernel_rfl
theorem s174_eq:∀e n x0 x1 s,qau cf174 e n [x0,x1] s=s174 e n x0 x1 s:=by intros;kernel_rfl
theorem s175_eq:∀e n x0 s,qau cf175 e n [x0] s=s175 e n x0 s:=by intros;kernel_rfl
theorem s176_eq:∀e n x0 x1 s,qau cf176 e n [x0,x1] s=s176 e n x0 x1 s:=by intros;kernel_rfl
theorem s177_eq:∀e n x0 x1 x2 s,qau cf177 e n [x0,x1,x2] s=s177 e n x0 x1 x2 s:=by intros;kernel_rfl
theorem s178_eq:∀e n x0 x1 x2 s,qau cf178 e n [x0,x1,x2] s=s178 e n x0 x1 x2 s:=by intros;kernel_rfl
theorem s179_eq:∀e n x0 x1 x2 s,qau cf179 e n [x0,x1,x2] s=s179 e n x0 x1 x2 s:=by intros;kernel_rfl
theorem s180_eq:∀e n x0 x1 s,qau cf180 e n [x0,x1] s=s180 e n x0 x1 s:=by intros;kernel_rfl
theorem s181_eq:∀e n x0 x1 s,qau cf181 e n [x0,x1] s=s181 e n x0 x1 s:=by intros;kernel_rfl
theorem s182_eq:∀e n x0 x1 s,qau cf182 e n [x0,x1] s=s182 e n x0 x1 s:=by intros;kernel_rfl
theorem s183_eq:∀e n x0 s,qau cf183 e n [x0] s=s183 e n x0 s:=by intros;kernel_rfl
theorem s184_eq:∀e n x0 x1 s,qau cf184 e n [x0,x1] s=s184 e n x0 x1 s:=by intros;kernel_rfl
theorem s185_eq:∀e n x0 x1 x2 s,qau cf185 e n [x0,x1,x2] s=s185 e n x0 x1 x2 s:=by intros;kernel_rfl
theorem s186_eq:∀e n x0 x1 s,qau cf186 e n [x0,x1] s=s186 e n x0 x1 s:=by intros;kernel_rfl
theorem s187_eq:∀e n x0 s,qau cf187 e n [x0] s=s187 e n x0 s:=by intros;kernel_rfl
theorem s188_eq:∀e n x0 x1 x2 s,qau cf188 e n [x0,x1,x2] s=s188 e n x0 x1 x2 s:=by intros;kernel_rfl
theorem s189_eq:∀e n x0 x1 s,qau cf189 e n [x0,x1] s=s189 e n x0 x1 s:=by intros;kernel_rfl
theorem s190_eq:∀e n x0 x1 s,qau cf190 e n [x0,x1] s=s190 e n x0 x1 s:=by intros;kernel_rfl
theorem s191_eq:∀e n x0 x1 x2 x3 s,qau cf191 e n [x0,x1,x2,x3] s=s191 e n x0 x1 x2 x3 s:=by intros;kernel_rfl
theorem s192_eq:∀e n x0 x1 s,qau cf192 e n [x0,x1] s=s192 e n x0 x1 s:=by intros;kernel_rfl
theorem s193_eq:∀e n x0 s,qau cf193 e n [x0] s=s193 e n x0 s:=by intros;kernel_rfl
theorem s194_eq:∀e n x0 x1 s,qau cf194 e n [x0,x1] s=s194 e n x0 x1 s:=by intros;kernel_rfl
theorem s195_eq:∀e n x0 x1 x2 s,qau cf195 e n [x0,x1,x2] s=s195 e n x0 x1 x2 s:=by intros;kernel_rfl
theorem s196_eq:∀e n x0 x1 s,qau cf196 e n [x0,x1] s=s196 e n x0 x1 s:=by intros;kernel_rfl
theorem s197_eq:∀e n x0 x1 s,qau cf197 e n [x0,x1] s=s197 e n x0 x1 s:=by intros;kernel_rfl
theorem s198_eq:∀e n x0 s,qau cf198 e n [x0] s=s198 e n x0 s:=by intros;kernel_rfl
theorem s199_eq:∀e n x0 x1 x2 s,qau cf199 e n [x0,x1,x2] s=s199 e n x0 x1 x2 s:=by intros;kernel_rfl
theorem s200_eq:∀e n x0 x1 s,qau cf200 e n [x0,x1] s=s200 e n x0 x1 s:=by intros;kernel_rfl
theorem s201_eq:∀e n x0 x1 x2 s,qau cf201 e n [x0,x1,x2] s=s201 e n x0 x1 x2 s:=by intros;kernel_rfl
theorem s202_eq:∀e n x0 x1 x2 s,qau cf202 e n [x0,x1,x2] s=s202 e n x0 x1 x2 s:=by intros;kernel_rfl
theorem s203_eq:∀e n x0 x1 x2 x3 s,qau cf203 e n [x0,x1,x2,x3] s=s203 e n x0 x1 x2 x3 s:=by intros;kernel_rfl
theorem s204_eq:∀e n x0 x1 x2 x3 s,qau cf204 e n [x0,x1,x2,x3] s=s204 e n x0 x1 x2 x3 s:=by intros;kernel_rfl
theorem s205_eq:∀e n x0 x1 x2 s,qau cf205 e n [x0,x1,x2] s=s205 e n x0 x1 x2 s:=by intros;kernel_rfl
theorem s206_eq:∀e n x0 x1 x2 x3 s,qau cf206 e n [x0,x1,x2,x3] s=s206 e n x0 x1 x2 x3 s:=by intros;kernel_rfl
theorem s207_eq:∀e n x0 s,qau cf207 e n [x0] s=s207 e n x0 s:=by intros;kernel_rfl
end Go.AI.Tryz
namespace Go.AI
inductive Tm where
 |mk (k n m i:Int) (ks:List Tm)
namespace Tm
def k:Tm->Int|mk k _ _ _ _=>k
def n:Tm->Int|mk _ n _ _ _=>n
def m:Tm->Int|mk _ _ m _ _=>m
def i:Tm->Int|mk _ _ _ i _=>i
def ks:Tm->List Tm|mk _ _ _ _ ks=>ks
mutual
def cells:Tm->List zP
 |mk k n m i ks=>[.int .u8 k,.int .i64 n,.int .i64 m,.int .i64 i,.sl ks.length (cellsL ks)]
def cellsL:List Tm->List zP
 |[]=>[]
 |t::r=>cells t++cellsL r
end
mutual
def eqb:Tm->Tm->Bool
 |mk k n m i ks,mk k' n' m' i' ks'=>decide (k=k')&&(decide (n=n')&&(decide (m=m')&&(decide (i=i')&&qto ks ks')))
def qto:List Tm->List Tm->Bool
 |[],[]=>true
 |a::r,b::q=>eqb a b&&qto r q
 |_,_=>false
end
mutual
theorem qsw:∀a b:Tm,eqb a b=true↔a=b
 |mk k n m i ks,mk k' n' m' i' ks'=>by
  simp only[eqb,zag,decide_eq_true_eq,qpo ks ks',mk.injEq]
theorem qpo:∀a b:List Tm,qto a b=true↔a=b
 |[],[]=>by simp[qto]
 |[],_::_=>by simp[qto]
 |_::_,[]=>by simp[qto]
 |a::r,b::q=>by simp only[qto,zag,qsw a b,qpo r q,zbo]
end
instance:DecidableEq Tm:=fun a b=>decidable_of_iff _ (qsw a b)
def v (t:Tm):zA:=.agg (t.cells.map .p)
theorem v_mk (k n m i:Int)(ks:List Tm):v (mk k n m i ks)=.agg [u8 k,i64 n,i64 m,i64 i,.p (.sl ks.length (cellsL ks))]:=by
 simp only[v,cells,zam,zbn]
theorem v_eq (t:Tm):v t=.agg [u8 t.k,i64 t.n,i64 t.m,i64 t.i,.p (.sl t.ks.length (cellsL t.ks))]:=by
 cases t;exact v_mk ..
theorem len_cells (t:Tm):t.cells.length=5:=by cases t;rfl
theorem cellsL_append (a b:List Tm):cellsL (a++b)=cellsL a++cellsL b:=by
 induction a with
 |nil=>rfl
 |cons x r ih=>simp only[zaF,cellsL,ih,zaH]
theorem qn0 (l:List Tm):(cellsL l).length=l.length*5:=by
 induction l with
 |nil=>rfl
 |cons x r ih=>simp only[cellsL,zaw,len_cells,ih,zar];omega
theorem qvp (a:List Tm)(t:Tm)(b:List Tm):cut (cellsL (a++t::b)) (a.length*5) 5=some t.cells:=by
 unfold cut
 rw[cellsL_append,qcD,qcE]
 simp only[cellsL]
 have h1:(cellsL a).length=a.length*5:=qn0 a
 rw[List.drop_append_of_le_length (by omega),<-h1,zbb,zaJ,List.take_append_of_le_length (by rw[len_cells];omega)]
 have:Nat.ble ((cellsL a).length+5) (cellsL a++(t.cells++cellsL b)).length=true:=by
  rw[ble_iff]
  simp only[zaw,len_cells]
  omega
 rw[this,cond_true]
 congr 1
 exact List.take_of_length_le (by rw[len_cells];omega)
theorem qgP {l:List Tm}{j:Nat}{t:Tm}(h:l[j]? =some t):cut (cellsL l) (j*5) 5=some t.cells:=by
 obtain⟨hj,e⟩:=zao.1 h
 have:l=l.take j++t::l.drop (j+1):=by
  rw[<-e,<-zaz hj,List.take_append_drop]
 have h2:=qvp (l.take j) t (l.drop (j+1))
 rw[<-this,List.length_take,Nat.min_eq_left (by omega)] at h2
 exact h2
theorem qpp {l:List Tm}{j:Nat}{t:Tm}(h:l[j]? =some t)(f:Nat)(hf:f<5):cut (cellsL l) (j*5+f) 1=(t.cells[f]?).map fun c=>[c]:=by
 have h1:=qgP h
 obtain⟨h2,h3⟩:=qfn h1
 unfold cut
 rw[qcD,qcE]
 have:Nat.ble (j*5+f+1) (cellsL l).length=true:=by rw[ble_iff];omega
 rw[this,cond_true]
 have hf':f<t.cells.length:=by rw[len_cells];exact hf
 rw[zah hf',zab]
 congr 1
 have:(cellsL l).drop (j*5+f)=t.cells[f]::(cellsL l).drop (j*5+f+1):=by
  have hlt:j*5+f<(cellsL l).length:=by omega
  rw[zaz hlt]
  congr 1
  have:=congrArg (fun x=>x[f]?) h3
  simp only[List.getElem?_take,hf,if_true,List.getElem?_drop] at this
  rw[zah hf',zah hlt,zac] at this
  exact this.symm
 rw[this]
 rfl
theorem ia_kid {l:List Tm}{j:Nat}{k:IntKind}(h:j<l.length):iaV 5 (.p (.sl l.length (cellsL l))) (.p (.int k (.ofNat j)))=some (cellsL l,j*5):=qvl h
theorem ld_kid (e:Env)(s:ASt){l:List Tm}{j:Nat}{t:Tm}(h:l[j]? =some t):ldH e s (.elem (cellsL l) (j*5)) (some 5)=some t.v:=by
 rw[qfz]
 simp only[cnt,qgP h,zab,zaa,zA.ofCells]
 rfl
theorem ld_field (e:Env)(s:ASt){l:List Tm}{j:Nat}{t:Tm}(h:l[j]? =some t)(f:Nat)(hf:f<5):ldH e s (.elem (cellsL l) (j*5+f)) none=(t.cells[f]?).map zA.p:=by
 rw[qfz]
 simp only[cnt,qpp h f hf]
 have hf':f<t.cells.length:=by rw[len_cells];exact hf
 rw[zah hf']
 rfl
end Tm
@[simp] theorem qxh (x0:zA):zA.cells (some 1) (.agg [x0])=some [x0]:=rfl
@[simp] theorem qx4 (x0:zA):ldL [x0] 0 (some 1)=some (.agg [x0]):=rfl
@[simp] theorem qdb (x0:zA):ldL [x0] 0 none=some x0:=rfl
@[simp] theorem qwy (x0 y:zA):over [x0] 0 [y]=some [y]:=rfl
@[simp] theorem qfT (x0 x1:zA):zA.cells (some 2) (.agg [x0,x1])=some [x0,x1]:=rfl
@[simp] theorem qsx (x0 x1:zA):ldL [x0,x1] 0 (some 2)=some (.agg [x0,x1]):=rfl
@[simp] theorem qpq (x0 x1:zA):ldL [x0,x1] 0 none=some x0:=rfl
@[simp] theorem qwz (x0 x1 y:zA):over [x0,x1] 0 [y]=some [y,x1]:=rfl
@[simp] theorem qjm (x0 x1:zA):ldL [x0,x1] 1 none=some x1:=rfl
@[simp] theorem qwA (x0 x1 y:zA):over [x0,x1] 1 [y]=some [x0,y]:=rfl
@[simp] theorem qlN (z0 z1 x0 x1:zA):over [z0,z1] 0 [x0,x1]=some [x0,x1]:=rfl
@[simp] theorem qhg (x0 x1 x2:zA):zA.cells (some 3) (.agg [x0,x1,x2])=some [x0,x1,x2]:=rfl
@[simp] theorem qsy (x0 x1 x2:zA):ldL [x0,x1,x2] 0 (some 3)=some (.agg [x0,x1,x2]):=rfl
@[simp] theorem qhh (x0 x1 x2:zA):ldL [x0,x1,x2] 0 none=some x0:=rfl
@[simp] theorem qwB (x0 x1 x2 y:zA):over [x0,x1,x2] 0 [y]=some [y,x1,x2]:=rfl
@[simp] theorem qpr (x0 x1 x2:zA):ldL [x0,x1,x2] 1 none=some x1:=rfl
@[simp] theorem qwC (x0 x1 x2 y:zA):over [x0,x1,x2] 1 [y]=some [x0,y,x2]:=rfl
@[simp] theorem qtp (x0 x1 x2:zA):ldL [x0,x1,x2] 2 none=some x2:=rfl
@[simp] theorem qwD (x0 x1 x2 y:zA):over [x0,x1,x2] 2 [y]=some [x0,x1,y]:=rfl
@[simp] theorem qlO (z0 z1 z2 x0 x1 x2:zA):over [z0,z1,z2] 0 [x0,x1,x2]=some [x0,x1,x2]:=rfl
@[simp] theorem qaV (x0 x1 x2 x3:zA):zA.cells (some 4) (.agg [x0,x1,x2,x3])=some [x0,x1,x2,x3]:=rfl
@[simp] theorem qbE (x0 x1 x2 x3:zA):ldL [x0,x1,x2,x3] 0 (some 4)=some (.agg [x0,x1,x2,x3]):=rfl
@[simp] theorem qbW (x0 x1 x2 x3:zA):ldL [x0,x1,x2,x3] 0 none=some x0:=rfl
@[simp] theorem qgC (x0 x1 x2 x3 y:zA):over [x0,x1,x2,x3] 0 [y]=some [y,x1,x2,x3]:=rfl
@[simp] theorem qlP (x0 x1 x2 x3:zA):ldL [x0,x1,x2,x3] 1 none=some x1:=rfl
@[simp] theorem qwE (x0 x1 x2 x3 y:zA):over [x0,x1,x2,x3] 1 [y]=some [x0,y,x2,x3]:=rfl
@[simp] theorem qhi (x0 x1 x2 x3:zA):ldL [x0,x1,x2,x3] 2 none=some x2:=rfl
@[simp] theorem qrx (x0 x1 x2 x3 y:zA):over [x0,x1,x2,x3] 2 [y]=some [x0,x1,y,x3]:=rfl
@[simp] theorem qjn (x0 x1 x2 x3:zA):ldL [x0,x1,x2,x3] 3 none=some x3:=rfl
@[simp] theorem qwF (x0 x1 x2 x3 y:zA):over [x0,x1,x2,x3] 3 [y]=some [x0,x1,x2,y]:=rfl
@[simp] theorem qdc (z0 z1 z2 z3 x0 x1 x2 x3:zA):over [z0,z1,z2,z3] 0 [x0,x1,x2,x3]=some [x0,x1,x2,x3]:=rfl
@[simp] theorem qa0 (x0 x1 x2 x3 x4:zA):zA.cells (some 5) (.agg [x0,x1,x2,x3,x4])=some [x0,x1,x2,x3,x4]:=rfl
@[simp] theorem qb7 (x0 x1 x2 x3 x4:zA):ldL [x0,x1,x2,x3,x4] 0 (some 5)=some (.agg [x0,x1,x2,x3,x4]):=rfl
@[simp] theorem qbK (x0 x1 x2 x3 x4:zA):ldL [x0,x1,x2,x3,x4] 0 none=some x0:=rfl
@[simp] theorem qwG (x0 x1 x2 x3 x4 y:zA):over [x0,x1,x2,x3,x4] 0 [y]=some [y,x1,x2,x3,x4]:=rfl
@[simp] theorem qcU (x0 x1 x2 x3 x4:zA):ldL [x0,x1,x2,x3,x4] 1 none=some x1:=rfl
@[simp] theorem qwH (x0 x1 x2 x3 x4 y:zA):over [x0,x1,x2,x3,x4] 1 [y]=some [x0,y,x2,x3,x4]:=rfl
@[simp] theorem qdd (x0 x1 x2 x3 x4:zA):ldL [x0,x1,x2,x3,x4] 2 none=some x2:=rfl
@[simp] theorem qwI (x0 x1 x2 x3 x4 y:zA):over [x0,x1,x2,x3,x4] 2 [y]=some [x0,x1,y,x3,x4]:=rfl
@[simp] theorem qes (x0 x1 x2 x3 x4:zA):ldL [x0,x1,x2,x3,x4] 3 none=some x3:=rfl
@[simp] theorem qwJ (x0 x1 x2 x3 x4 y:zA):over [x0,x1,x2,x3,x4] 3 [y]=some [x0,x1,x2,y,x4]:=rfl
@[simp] theorem qbH (x0 x1 x2 x3 x4:zA):ldL [x0,x1,x2,x3,x4] 4 none=some x4:=rfl
@[simp] theorem qmY (x0 x1 x2 x3 x4 y:zA):over [x0,x1,x2,x3,x4] 4 [y]=some [x0,x1,x2,x3,y]:=rfl
@[simp] theorem qhj (z0 z1 z2 z3 z4 x0 x1 x2 x3 x4:zA):over [z0,z1,z2,z3,z4] 0 [x0,x1,x2,x3,x4]=some [x0,x1,x2,x3,x4]:=rfl
@[simp] theorem qps (x0 x1 x2 x3 x4 x5 x6:zA):zA.cells (some 7) (.agg [x0,x1,x2,x3,x4,x5,x6])=some [x0,x1,x2,x3,x4,x5,x6]:=rfl
@[simp] theorem qvq (x0 x1 x2 x3 x4 x5 x6:zA):ldL [x0,x1,x2,x3,x4,x5,x6] 0 (some 7)=some (.agg [x0,x1,x2,x3,x4,x5,x6]):=rfl
@[simp] theorem qxi (x0 x1 x2 x3 x4 x5 x6:zA):ldL [x0,x1,x2,x3,x4,x5,x6] 0 none=some x0:=rfl
@[simp] theorem qwK (x0 x1 x2 x3 x4 x5 x6 y:zA):over [x0,x1,x2,x3,x4,x5,x6] 0 [y]=some [y,x1,x2,x3,x4,x5,x6]:=rfl
@[simp] theorem qxj (x0 x1 x2 x3 x4 x5 x6:zA):ldL [x0,x1,x2,x3,x4,x5,x6] 1 none=some x1:=rfl
@[simp] theorem qwL (x0 x1 x2 x3 x4 x5 x6 y:zA):over [x0,x1,x2,x3,x4,x5,x6] 1 [y]=some [x0,y,x2,x3,x4,x5,x6]:=rfl
@[simp] theorem qxk (x0 x1 x2 x3 x4 x5 x6:zA):ldL [x0,x1,x2,x3,x4,x5,x6] 2 none=some x2:=rfl
@[simp] theorem qwM (x0 x1 x2 x3 x4 x5 x6 y:zA):over [x0,x1,x2,x3,x4,x5,x6] 2 [y]=some [x0,x1,y,x3,x4,x5,x6]:=rfl
@[simp] theorem qxl (x0 x1 x2 x3 x4 x5 x6:zA):ldL [x0,x1,x2,x3,x4,x5,x6] 3 none=some x3:=rfl
@[simp] theorem qwN (x0 x1 x2 x3 x4 x5 x6 y:zA):over [x0,x1,x2,x3,x4,x5,x6] 3 [y]=some [x0,x1,x2,y,x4,x5,x6]:=rfl
@[simp] theorem qxm (x0 x1 x2 x3 x4 x5 x6:zA):ldL [x0,x1,x2,x3,x4,x5,x6] 4 none=some x4:=rfl
@[simp] theorem qwO (x0 x1 x2 x3 x4 x5 x6 y:zA):over [x0,x1,x2,x3,x4,x5,x6] 4 [y]=some [x0,x1,x2,x3,y,x5,x6]:=rfl
@[simp] theorem qxn (x0 x1 x2 x3 x4 x5 x6:zA):ldL [x0,x1,x2,x3,x4,x5,x6] 5 none=some x5:=rfl
@[simp] theorem qwP (x0 x1 x2 x3 x4 x5 x6 y:zA):over [x0,x1,x2,x3,x4,x5,x6] 5 [y]=some [x0,x1,x2,x3,x4,y,x6]:=rfl
@[simp] theorem qxo (x0 x1 x2 x3 x4 x5 x6:zA):ldL [x0,x1,x2,x3,x4,x5,x6] 6 none=some x6:=rfl
@[simp] theorem qwQ (x0 x1 x2 x3 x4 x5 x6 y:zA):over [x0,x1,x2,x3,x4,x5,x6] 6 [y]=some [x0,x1,x2,x3,x4,x5,y]:=rfl
@[simp] theorem qpt (z0 z1 z2 z3 z4 z5 z6 x0 x1 x2 x3 x4 x5 x6:zA):over [z0,z1,z2,z3,z4,z5,z6] 0 [x0,x1,x2,x3,x4,x5,x6]=some [x0,x1,x2,x3,x4,x5,x6]:=rfl
@[simp] theorem qbU (b:Bool):zA.cells none (.p (.bool b))=some [.p (.bool b)]:=rfl
@[simp] theorem qby (k:IntKind) (n:Int):zA.cells none (.p (.int k n))=some [.p (.int k n)]:=rfl
@[simp] theorem qtq (s:ByteArray):zA.cells none (.p (.str s))=some [.p (.str s)]:=rfl
@[simp] theorem quJ (n:Nat) (cs:List zP):zA.cells none (.p (.sl n cs))=some [.p (.sl n cs)]:=rfl
@[simp] theorem qjo (n:Nat) (cs:List zP) (t:Tk):zA.cells none (.sl n cs t)=some [.sl n cs t]:=rfl
theorem qaf (k:IntKind)(a b:Int):qcc .eql k a b=some (.bool (decide (a=b))):=by simp only[qcc,qcG]
theorem qa1 (k:IntKind)(a b:Int):qcc .neq k a b=some (.bool (!decide (a=b))):=by simp only[qcc,qcG]
theorem qao (k:IntKind)(a b:Int):qcc .lss k a b=some (.bool (decide (a<b))):=by simp only[qcc,qdo]
theorem qaG (k:IntKind)(a b:Int):qcc .gtr k a b=some (.bool (decide (b<a))):=by simp only[qcc,qdo]
theorem qbl (k:IntKind)(a b:Int):qcc .leq k a b=some (.bool (!decide (b<a))):=by simp only[qcc,qdo]
theorem qa7 (k:IntKind)(a b:Int):qcc .geq k a b=some (.bool (!decide (a<b))):=by simp only[qcc,qdo]
theorem qaw (k:IntKind)(a b:Int):qcc .add k a b=some (.int k (qbb k (a+b))):=rfl
theorem qa2 (k:IntKind)(a b:Int):qcc .sub k a b=some (.int k (qbb k (a-b))):=rfl
theorem qpu (k:IntKind)(a b:Int):qcc .mul k a b=some (.int k (qbb k (a*b))):=rfl
theorem qet (k:IntKind)(a b:Int)(h:b≠0):qcc .rem k a b=some (.int k (a.tmod b)):=by
 simp only[qcc,qcG,h,decide_false,cond_false]
theorem qbu {a:Int}(h1: -9223372036854775808<=a)(h2:a<=9223372036854775807):qbb .i64 a=a:=by
 rw[qeF]
 exact IntWalk.i64_in _ (by omega)
def PC (CP:Nat->Option CF)(f:Nat)(args:List zA)(r:zA):Prop:=Ev fun n=>∀E s,cl (qag CP n E) f args s=some (r,s)
theorem PC.of {CP:Nat->Option CF}{f np:Nat}{cf:CF}{args args':List zA}{r r':zA}(hcf:CP f=some cf)(hfl:flP cf np=true)(hl:args.length=np)(ha:args.all qbF=true)(hargs:args.map qaD=args')
  (hv:qaD r=r')(hpl:∀lo,qeh lo r'=true)(hb:Ev fun n=>∀E s,s.heap=[]->s.toks=[]->∃s',qau cf (qag CP n E) n args' s=some (r,s')):PC CP f args r':=by
 refine Ev.succ (hb.mono fun n h E s=>?_)
 obtain⟨s',h⟩:=h (s.heap++E) {s with heap:=[],toks:=[]} rfl rfl
 rw[qb4]
 exact qhc hcf hfl hl ha hargs h hv (hpl _)
end Go.AI
namespace Go.AI
theorem Ev.all {α:Type}{P:α->Nat->Prop}:∀(l:List α),(∀x∈l,Ev (P x))->Ev fun n=>∀x∈l,P x n
 |[],_=>Ev.of fun n x h=>by cases h
 |a::r,h=>((h a (zau ..)).and (Ev.all r fun x hx=>h x (zax _ hx))).mono fun n k x hx=>by
  rcases zaA.1 hx with rfl|hx
  ·exact k.1
  ·exact k.2 x hx
theorem Tm.ind {Q:Tm->Prop}(h:∀k n m i ks,(∀t∈ks,Q t)->Q (.mk k n m i ks))(t:Tm):Q t:=
 Tm.rec (motive_1:=Q) (motive_2:=fun ks=>∀t∈ks,Q t) h (fun t ht=>by cases ht) (fun a r ha hr t ht=>by
  rcases zaA.1 ht with rfl|ht
  ·exact ha
  ·exact hr t ht) t
inductive Tm.Ok:Tm->Prop where
 |mk {k n m i:Int} {ks:List Tm} (hk:0<=k/\k<256) (hn: -9223372036854775808<=n/\n<=9223372036854775807) (hm: -9223372036854775808<=m/\m<=9223372036854775807) (hi: -9223372036854775808<=i/\i<=9223372036854775807) (hl:ks.length<=maxLen) (h:∀t∈ks,Ok t):Ok (.mk k n m i ks)
theorem Tm.Ok.kids {t:Tm}(h:t.Ok):∀u∈t.ks,u.Ok:=by cases h with|mk _ _ _ _ _ h=>exact h
theorem Tm.Ok.len {t:Tm}(h:t.Ok):t.ks.length<=maxLen:=by cases h with|mk _ _ _ _ hl _=>exact hl
theorem qbM:maxLen=9223372036854775807:=by decide
theorem qak (t:Tm):qbF t.v=true:=by rw[Tm.v_eq];rfl
theorem qai (t:Tm):qaD t.v=t.v:=by rw[Tm.v_eq];rfl
theorem qaM (lo:Nat)(t:Tm):qeh lo t.v=true:=by rw[Tm.v_eq];rfl
end Go.AI
namespace Go.AI.Tryz
open Classical
theorem qn1 (n:Nat)(E:qaR)(az bs:List Tm)(hl:az.length=bs.length)(hb:az.length<=9223372036854775807)(k1 n1 m1 i1 k2 n2 m2 i2:zA)
  (hc:∀(j:Nat) ta tb,az[j]? =some ta->bs[j]? =some tb->∀s,cl (qag CP n E) 19 [ta.v,tb.v] s=some (bl (decide (ta=tb)),s))(s:ASt)(m:Nat)(hm:az.length<m):
  s19_0 (qag CP n E) m [k1,n1,m1,i1,.p (.sl az.length (Tm.cellsL az))] [k2,n2,m2,i2,.p (.sl bs.length (Tm.cellsL bs))] (i64 0) s=some (bl (decide (az=bs)),s):=by
 unfold s19_0
 generalize hF:(fun(h8:zA->ASt->Res) (x6:zA) (s7:ASt)=>_)=F
 have key:∀(d k j:Nat),j+d=az.length->d<k->lp (fun _ _=>none) F k (i64 (.ofNat j)) s=some (bl (decide (az.drop j=bs.drop j)),s):=by
  intro d
  induction d with
  |zero=>
   intro k j h hk
   obtain⟨k,rfl⟩:∃m,k=m+1:=⟨k-1,by omega⟩
   rw[qa6]
   generalize lp _ F k=L
   subst hF
   have h1:az.drop j=[]:=List.drop_eq_nil_of_le (by omega)
   have h2:bs.drop j=[]:=List.drop_eq_nil_of_le (by omega)
   have h3:¬(Int.ofNat j<Int.ofNat az.length):=by simp only[zaf];omega
   simp only[qbH,zaa,qbq,qad,qao,zab,h3,decide_false,qaa,cond_false,h1,h2,decide_true]
  |succ d ih=>
   intro k j h hk
   obtain⟨k,rfl⟩:∃m,k=m+1:=⟨k-1,by omega⟩
   have ih1:=ih k (j+1) (by omega) (by omega)
   rw[qa6]
   generalize lp _ F k=L at ih1⊢
   subst hF
   have h3:Int.ofNat j<Int.ofNat az.length:=by simp only[zaf];omega
   have ha:az[j]? =some az[j]:=zah (by omega)
   have hbj:bs[j]? =some (bs[j]'(by omega)):=zah (by omega)
   have w:qbb .i64 (Int.ofNat j+1)=Int.ofNat (j+1):=qbu (by simp only[zaf];omega) (by simp only[zaf];omega)
   simp only[qbH,zaa,qbq,qad,qao,qaw,zab,h3,decide_true,qaa,cond_true,Tm.ia_kid (show j<az.length by omega),Tm.ia_kid (show j<bs.length by omega),qab,Tm.ld_kid _ _ ha,Tm.ld_kid _ _ hbj,hc j _ _ ha hbj,qam,w]
   rw[zaz (show j<az.length by omega),zaz (show j<bs.length by omega)]
   by_cases e:az[j]=bs[j]'(by omega)
   ·simp only[e,decide_true,zak,cond_false,zbo,true_and]
    exact ih1
   ·simp only[e,decide_false,zal,cond_true,zbo,false_and]
 exact key az.length m 0 (by omega) hm
theorem qmZ (a:Tm):∀(b:Tm),a.Ok->PC CP 19 [a.v,b.v] (bl (decide (a=b))):=by
 induction a using Tm.ind with
 |h k1 n1 m1 i1 az ih=>
  intro b oka
  cases b with
  |mk k2 n2 m2 i2 bs=>
  have hev:Ev fun n=>∀x∈az.zip bs,∀E s,cl (qag CP n E) 19 [x.1.v,x.2.v] s=some (bl (decide (x.1=x.2)),s):=
   Ev.all (az.zip bs) fun x hx=>ih x.1 (List.of_mem_zip hx).1 x.2 (oka.kids _ (List.of_mem_zip hx).1)
  have hlen:=oka.len
  refine PC.of (cf:=cf19) (np:=2) (args':=[Tm.v (.mk k1 n1 m1 i1 az),Tm.v (.mk k2 n2 m2 i2 bs)]) (r:=bl (decide (Tm.mk k1 n1 m1 i1 az=Tm.mk k2 n2 m2 i2 bs))) (by kernel_rfl) (by kernel_rfl) rfl (by simp only[zap,qak];rfl) (by simp only[zam,qai];rfl) rfl (fun _=>rfl) ?_
  refine(hev.and (Ev.ge (az.length+1))).mono fun n ⟨hn,hm⟩ E s _ _=>⟨s,(s19_eq _ _ _ _ _).trans ?_⟩
  unfold s19 s19_1
  simp only[Tm.v_mk,qa0,qbK,qcU,qdd,qes,qbH,zaa,qad,qa1,zab,qaj,qaa,cond_true,qbq,Tm.mk.injEq]
  by_cases h1:k1=k2
  ·by_cases h2:n1=n2
   ·by_cases h3:m1=m2
    ·by_cases h4:i1=i2
     ·by_cases h5:az.length=bs.length
      ·have:=qn1 n E az bs h5 (by have:=qbM;simp only[Tm.ks] at hlen;omega) (u8 k1) (i64 n1) (i64 m1) (i64 i1) (u8 k2) (i64 n2) (i64 m2) (i64 i2) (fun j ta tb ha hb s=>hn (ta,tb) (by
        rw[List.mem_iff_getElem?]
        exact⟨j,by rw[List.getElem?_zip_eq_some];exact⟨ha,hb⟩⟩) E s) s n hm
       simp only[h1,h2,h3,h4,h5,decide_true,zak,cond_false,true_and] at this⊢
       exact this
      ·have h6:¬(Int.ofNat az.length=Int.ofNat bs.length):=by simp only[zaf];omega
       have h7:az≠bs:=fun e=>h5 (by rw[e])
       simp only[h1,h2,h3,h4,h6,h7,decide_true,decide_false,zak,zal,cond_false,cond_true,true_and]
     ·simp only[h1,h2,h3,h4,decide_true,decide_false,zak,zal,cond_false,cond_true,true_and,false_and]
    ·simp only[h1,h2,h3,decide_true,decide_false,zak,zal,cond_false,cond_true,true_and,false_and]
   ·simp only[h1,h2,decide_true,decide_false,zak,zal,cond_false,cond_true,true_and,false_and]
  ·simp only[h1,decide_false,zal,cond_true,false_and]
end Go.AI.Tryz
namespace Go.AI
theorem qck {T:Type}(z:T)(F:T->T)(len:Nat)(ap:Nat->T->Res)(R:Nat->Res)(hs:∀j L,j<len->ap (j+1) L=R (j+1)->ap j (F L)=R j)(he:∀L,ap len (F L)=R len):
  ∀k j,j<=len->len-j<k->ap j (lp z F k)=R j
 |0,j,_,hk=>by omega
 |k+1,j,hj,hk=>by
  rw[qa6]
  rcases zbi j len with h|h
  ·exact hs j _ h (qck z F len ap R hs he k (j+1) (by omega) (by omega))
  ·have:j=len:=by omega
   subst this
   exact he _
theorem of_lt {a b:Nat}:(Int.ofNat a<Int.ofNat b)↔a<b:=by simp only[zaf];omega
theorem qaN {j:Nat}(h:j<9223372036854775807):qbb .i64 (Int.ofNat j+1)=Int.ofNat (j+1):=qbu (by simp only[zaf];omega) (by simp only[zaf];omega)
mutual
def Tm.size:Tm->Nat
 |.mk _ _ _ _ ks=>1+sizeL ks
def Tm.sizeL:List Tm->Nat
 |[]=>0
 |t::r=>Tm.size t+sizeL r
end
def qlm (c:Tm->Nat)(most:Nat):Nat->List Tm->Nat
 |a,[]=>a
 |a,t::r=>if a<=most then qlm c most (a+c t) r else a
def qhk (most:Nat):Nat->Tm->Nat
 |0,_=>most+1
 |d+1,t=>qlm (qhk most d) most 1 t.ks
theorem qpv {c:Tm->Nat}{most b:Nat}(hc:∀t,c t<=b):∀(ks:List Tm) (a:Nat),qlm c most a ks<=max a (most+b)
 |[],a=>by simp only[qlm];omega
 |t::r,a=>by
  simp only[qlm]
  split
  ·have:=qpv (most:=most) hc r (a+c t)
   have:=hc t
   omega
  ·omega
theorem qpw (most:Nat):∀(d:Nat) (t:Tm),qhk most d t<=(most+1)*(d+1)
 |0,t=>by simp only[qhk];omega
 |d+1,t=>by
  simp only[qhk]
  have:=qpv (most:=most) (fun t=>qpw most d t) t.ks 1
  have e:(most+1)*(d+1+1)=(most+1)*(d+1)+(most+1):=Nat.mul_succ _ _
  rw[e]
  omega
theorem qkQ {c:Tm->Nat}{most:Nat}:∀(ks:List Tm) (a:Nat),(∀t∈ks,c t<=most->c t=t.size)->(∀t∈ks,1<=c t)->qlm c most a ks<=most->qlm c most a ks=a+Tm.sizeL ks
 |[],a,_,_,_=>by simp only[qlm,Tm.sizeL];omega
 |t::r,a,h,h1,hm=>by
  simp only[qlm] at hm⊢
  split at hm
  ·rename_i ha
   rw[if_pos ha]
   have ge:∀(ks:List Tm) (a:Nat),a<=qlm c most a ks:=by
    intro ks
    induction ks with
    |nil=>intro a;exact zan _
    |cons u r ih=>
     intro a
     simp only[qlm]
     split
     ·have:=ih (a+c u);omega
     ·exact zan _
   have:=ge r (a+c t)
   have hct:=h t (zau ..) (by omega)
   rw[qkQ r _ (fun u hu=>h u (zax _ hu)) (fun u hu=>h1 u (zax _ hu)) hm,hct]
   simp only[Tm.sizeL];omega
  ·omega
end Go.AI
namespace Go.AI.Tryz
theorem qvr:∀(d:Nat),d<=200->∀(t:Tm),t.Ok->PC CP 64 [t.v,i64 700,i64 (.ofNat d)] (i64 (.ofNat (qhk 700 d t)))
 |0,_,t,ok=>by
  refine PC.of (cf:=cf64) (np:=3) (args':=[t.v,i64 700,i64 (.ofNat 0)]) (r:=i64 (.ofNat 701)) (by kernel_rfl) (by kernel_rfl) rfl (by simp only[zap,qak];rfl) (by simp only[zam,qai];rfl) rfl (fun _=>rfl) (Ev.of fun n E s _ _=>⟨s,(s64_eq _ _ _ _ _ _).trans ?_⟩)
  unfold s64
  simp only[Tm.v_eq,qa0,zaa,qad,qaf,zab]
  rfl
 |d+1,hd,t,ok=>by
  have hev:Ev fun n=>∀x∈t.ks,∀E s,cl (qag CP n E) 64 [x.v,i64 700,i64 (.ofNat d)] s=some (i64 (.ofNat (qhk 700 d x)),s):=Ev.all t.ks fun x hx=>qvr d (by omega) x (ok.kids x hx)
  have hlen:=ok.len
  rw[qbM] at hlen
  refine PC.of (cf:=cf64) (np:=3) (args':=[t.v,i64 700,i64 (.ofNat (d+1))]) (r:=i64 (.ofNat (qhk 700 (d+1) t))) (by kernel_rfl) (by kernel_rfl) rfl (by simp only[zap,qak];rfl) (by simp only[zam,qai];rfl) rfl (fun _=>rfl) ?_
  refine(hev.and (Ev.ge (t.ks.length+1))).mono fun n ⟨hn,hm⟩ E s _ _=>⟨s,(s64_eq _ _ _ _ _ _).trans ?_⟩
  unfold s64
  have h0:¬(Int.ofNat (d+1)=0):=by simp only[zaf];omega
  simp only[Tm.v_eq,qa0,zaa,qad,qaf,zab,h0,decide_false,qaa,cond_false]
  unfold s64_1
  generalize hF:(fun(h10:zA->zA->ASt->Res) (x7 x8:zA) (s9:ASt)=>_)=F
  let acc:Nat->Nat:=fun j=>1+((t.ks.take j).map (qhk 700 d)).sum
  have hb:∀x:Tm,qhk 700 d x<=701*201:=fun x=>zbf (qpw 700 d x) (Nat.mul_le_mul (zan _) (by omega))
  refine qck _ F t.ks.length (fun j L=>L (i64 (.ofNat (acc j))) (i64 (.ofNat j)) s) (fun j=>some (i64 (.ofNat (qlm (qhk 700 d) 700 (acc j) (t.ks.drop j))),s)) (fun j L hj ih=>?_) (fun L=>?_) n 0 (zaY _) (by omega)
  ·subst hF
   simp only
   unfold s64_0
   have hk:t.ks[j]? =some t.ks[j]:=zah hj
   have hacc:acc (j+1)=acc j+qhk 700 d t.ks[j]:=by
    simp only[acc]
    rw[List.take_succ_eq_append_getElem hj,List.map_append,List.sum_append]
    simp only[zam,zbn,List.sum_cons,List.sum_nil]
    omega
   have hdr:t.ks.drop j=t.ks[j]::t.ks.drop (j+1):=zaz hj
   simp only[qaj,qbH,zaa,qbq,qad,qao,qbl,qa2,qaw,zab,of_lt.2 hj,decide_true,qaa,cond_true,Tm.ia_kid hj,qab,Tm.ld_kid _ _ hk]
   by_cases h7:acc j<=700
   ·have h8:¬((700:Int)<Int.ofNat (acc j)):=by simp only[zaf];omega
    have w1:qbb .i64 (Int.ofNat (d+1)-1)=Int.ofNat d:=by
     rw[qbu (by simp only[zaf];omega) (by simp only[zaf];omega)]
     simp only[zaf];omega
    have w2:qbb .i64 (Int.ofNat (acc j)+Int.ofNat (qhk 700 d t.ks[j]))=Int.ofNat (acc (j+1)):=by
     have:=hb t.ks[j]
     rw[qbu (by simp only[zaf];omega) (by simp only[zaf];omega),hacc]
     simp only[zaf];omega
    simp only[h8,decide_false,zal,cond_true,w1,hn t.ks[j] (za4 hj) E s,qab,qad,qaw,zab,zaa,w2,qaN (show j<9223372036854775807 by omega)]
    rw[hdr]
    simp only[qlm]
    rw[if_pos h7,<-hacc]
    exact ih
   ·have h8:(700:Int)<Int.ofNat (acc j):=by simp only[zaf];omega
    simp only[h8,decide_true,zak,cond_false]
    rw[hdr]
    simp only[qlm]
    rw[if_neg h7]
  ·subst hF
   simp only
   unfold s64_0
   have h3:¬(Int.ofNat t.ks.length<Int.ofNat t.ks.length):=fun h=>zaX _ (of_lt.1 h)
   simp only[qaj,qbH,zaa,qbq,qad,qao,zab,h3,decide_false,qaa,cond_false]
   rw[zbb]
   rfl
end Go.AI.Tryz
namespace Go.AI
theorem qfU (e:Env){sz b:Nat}{new:List zP}{y:zA}(s:ASt)(hy:qdE y=some (1,new))(hl:new.length=sz)(hb:b<=140737488355328):
  ap e sz b (.sl 0 [] .full) y s=some (.sl 1 new (.own s.ntok),{s with ntok:=s.ntok+1,toks:=(s.ntok,1,sz)::s.toks}):=by
 unfold ap stV
 have h1:Nat.ble ((0+1)*b) 140737488355328=true:=ble_iff.2 (by omega)
 have h2:Nat.beq new.length (1*sz)=true:=qaE (by omega)
 have h3:Nat.beq ([]:List zP).length (0*sz)=true:=qaE (by simp)
 simp only[qaJ,Arg.ev,hy,zaa,h1,h2,h3,zat,cond_true]
 rfl
theorem qpx (e:Env){sz b n t:Nat}{cs new:List zP}{y:zA}(s:ASt)(hy:qdE y=some (1,new))(hl:new.length=sz)(hb:(n+1)*b<=140737488355328)(ts:List (Nat×Nat×Nat)):
  ap e sz b (.sl n cs (.own t)) y {s with toks:=(t,n,sz)::ts}=some (.sl (n+1) (cs++new) (.own t),{s with toks:=(t,n+1,sz)::ts}):=by
 unfold ap stV
 have h1:Nat.ble ((n+1)*b) 140737488355328=true:=ble_iff.2 hb
 have h2:Nat.beq new.length (1*sz)=true:=qaE (by omega)
 have h3:qas ((t,n,sz)::ts) t=some (n,sz):=by rw[qap,if_pos rfl]
 have h4:(Nat.beq n n&&Nat.beq sz sz)=true:=by rw[qaE rfl,qaE rfl];rfl
 have h5:qaK ((t,n,sz)::ts) t (n+1,sz)=some ((t,n+1,sz)::ts):=by
  simp only[qaK,qaE rfl,cond_true]
 simp only[qaJ,Arg.ev,hy,zaa,h1,h2,zat,cond_true,h3,h4,h5,zab]
 rfl
def qb0 (f:Nat->List zP)(tok:Nat):Nat->zA
 |0=> .sl 0 [] .full
 |j+1=> .sl (j+1) (f (j+1)) (.own tok)
def qc6 (s:ASt)(sz:Nat):Nat->ASt
 |0=>s
 |j+1=>{s with ntok:=s.ntok+1,toks:=(s.ntok,j+1,sz)::s.toks}
theorem qeV (e:Env){sz b:Nat}{f:Nat->List zP}{new:List zP}{y:zA}(s:ASt)(j:Nat)(hy:qdE y=some (1,new))(hl:new.length=sz)(hb:(j+1)*b<=140737488355328)(hf:f (j+1)=(if j=0 then[] else f j)++new):
  ap e sz b (qb0 f s.ntok j) y (qc6 s sz j)=some (qb0 f s.ntok (j+1),qc6 s sz (j+1)):=by
 cases j with
 |zero=>
  show ap e sz b (.sl 0 [] .full) y s=_
  rw[qfU e s hy hl (by omega)]
  simp only[qb0,qc6,hf,if_true,zaJ]
 |succ j=>
  have:=qpx e {s with ntok:=s.ntok+1} (t:=s.ntok) (n:=j+1) (cs:=f (j+1)) (b:=b) hy hl hb s.toks
  simp only[qb0,qc6]
  rw[hf,if_neg (by omega)]
  exact this
theorem qcV (f:Nat->List zP)(tok j:Nat)(h0:f 0=[]):qcj (qb0 f tok j)=.p (.sl j (f j)):=by
 cases j with
 |zero=>rw[h0];rfl
 |succ j=>rfl
theorem qwR (t:Tm)(zs:List zP)(hz:zs.length=5):ms 1 zs [(0,some 5,.c t.v)]=some (.sl 1 t.cells .full):=by
 unfold ms pu
 rw[Tm.v_eq]
 obtain⟨k,n,m,i,ks⟩:=t
 simp only[qaF,qgn,Arg.ev,qa0,zaa,qhM,zA.pure1,zab]
 unfold over
 have:Nat.ble (0+5) zs.length=true:=ble_iff.2 (by omega)
 simp only[zar,zaB,this,cond_true,zaa,zab]
 rw[qcD,qcE]
 simp only[List.take_zero,zaJ]
 rw[List.drop_eq_nil_of_le (by omega)]
 rfl
theorem qbL {ks:List Tm}{j:Nat}(hj:j<ks.length):Tm.cellsL (ks.take (j+1))=(if j=0 then[] else Tm.cellsL (ks.take j))++ks[j].cells:=by
 rw[List.take_succ_eq_append_getElem hj,Tm.cellsL_append]
 simp only[Tm.cellsL,zbg]
 cases j with
 |zero=>rfl
 |succ j=>rfl
theorem Tm.sizeL_mem {ks:List Tm}{t:Tm}(h:t∈ks):t.size<=sizeL ks:=by
 induction ks with
 |nil=>cases h
 |cons a r ih=>
  simp only[sizeL]
  rcases zaA.1 h with rfl|h
  ·omega
  ·have:=ih h;omega
theorem Tm.size_pos (t:Tm):1<=t.size:=by cases t;simp only[size];omega
theorem Tm.len_le_size (ks:List Tm):ks.length<=sizeL ks:=by
 induction ks with
 |nil=>exact zaY _
 |cons a r ih=>simp only[zar,sizeL];have:=a.size_pos;omega
theorem Tm.size_ks (t:Tm):t.size=1+sizeL t.ks:=by cases t;rfl
end Go.AI
namespace Go.AI.Tryz
theorem qsz (t:Tm):t.size<=1000000->PC CP 15 [t.v] t.v:=by
 induction t using Tm.ind with
 |h k0 n0 m0 i0 ks ih=>
  intro hsz
  have hks:Tm.sizeL ks<=1000000:=by rw[Tm.size_ks] at hsz;simp only[Tm.ks] at hsz;omega
  have hlen:ks.length<=1000000:=zbf (Tm.len_le_size ks) hks
  have hev:Ev fun n=>∀x∈ks,∀E s,cl (qag CP n E) 15 [x.v] s=some (x.v,s):=Ev.all ks fun x hx=>ih x hx (zbf (Tm.sizeL_mem hx) hks)
  let f:Nat->List zP:=fun j=>Tm.cellsL (ks.take j)
  have hfl:f ks.length=Tm.cellsL ks:=by simp only[f,List.take_length]
  let r:ASt->zA:=fun s=> .agg [u8 k0,i64 n0,i64 m0,i64 i0,qb0 f s.ntok ks.length]
  have her:∀s,qaD (r s)=Tm.v (.mk k0 n0 m0 i0 ks):=by
   intro s
   rw[Tm.v_mk,<-hfl,<-qcV f s.ntok ks.length rfl]
   rfl
  refine Ev.succ ((hev.and (Ev.ge (ks.length+1))).mono fun n ⟨hn,hm⟩ E s=>?_)
  rw[qb4]
  refine qhc (cf:=cf15) (np:=1) (args':=[Tm.v (.mk k0 n0 m0 i0 ks)]) (v:=r {s with heap:=[],toks:=[]}) (s':=qc6 {s with heap:=[],toks:=[]} 5 ks.length) (by kernel_rfl) (by kernel_rfl) rfl (by simp only[zap,qak];rfl) (by simp only[zam,qai];rfl) ((s15_eq _ _ _ _).trans ?_) (her _) (qaM _ _)
  generalize hs:({s with heap:=[],toks:=[]}:ASt)=s0
  generalize s.heap++E=E'
  unfold s15
  simp only[Tm.v_mk,qa0,qb7,qhj,qmY,qjo,zaa]
  unfold s15_0
  generalize hF:(fun(h13:zA->List zA->List zA->List zA->ASt->Res) (x8:zA) (c9 c10 c11:List zA) (s12:ASt)=>_)=F
  refine qck _ F ks.length (fun j L=>L (i64 (.ofNat j)) [u8 k0,i64 n0,i64 m0,i64 i0,.p (.sl ks.length (Tm.cellsL ks))] [u8 0,i64 0,i64 0,i64 0,.sl 0 [] .full] [u8 k0,i64 n0,i64 m0,i64 i0,qb0 f s0.ntok j] (qc6 s0 5 j)) (fun _=>some (r s0,qc6 s0 5 ks.length)) (fun j L hj ih=>?_) (fun L=>?_) n 0 (zaY _) (by omega)
  ·subst hF
   have hk:ks[j]? =some ks[j]:=zah hj
   have hcv:zA.cells none (qb0 f s0.ntok (j+1))=some [qb0 f s0.ntok (j+1)]:=rfl
   have hap:=qeV (qag CP n E') (b:=56) (f:=f) (y:=.sl 1 ks[j].cells .full) s0 j rfl (Tm.len_cells _) (by omega) (qbL hj)
   simp only[qbH,zaa,qbq,qad,qao,qaw,zab,of_lt.2 hj,decide_true,qaa,cond_true,Tm.ia_kid hj,qab,Tm.ld_kid _ _ hk,hn ks[j] (za4 hj),qwR _ [.int .u8 0,.int .i64 0,.int .i64 0,.int .i64 0,.sl 0 []] rfl,hap,hcv,qmY,qaN (show j<9223372036854775807 by omega)]
   exact ih
  ·subst hF
   have h3:¬(Int.ofNat ks.length<Int.ofNat ks.length):=fun h=>zaX _ (of_lt.1 h)
   simp only[qbH,zaa,qbq,qad,qao,zab,h3,decide_false,qaa,cond_false,qb7,qa0,qhj]
   rfl
end Go.AI.Tryz
namespace Go.AI
def qaQ {α:Type}(c:α->List zP):List α->List zP
 |[]=>[]
 |a::r=>c a++qaQ c r
section
variable {α:Type} {c:α->List zP} {sz:Nat} (hc:∀a,(c a).length=sz)
include hc
theorem qd4 (l:List α):(qaQ c l).length=l.length*sz:=by
 induction l with
 |nil=>simp[qaQ]
 |cons a r ih=>simp only[qaQ,zaw,hc,ih,zar,Nat.add_mul,Nat.one_mul];omega
omit hc in
theorem qff (a b:List α):qaQ c (a++b)=qaQ c a++qaQ c b:=by
 induction a with
 |nil=>rfl
 |cons x r ih=>simp only[zaF,qaQ,ih,zaH]
theorem qhl {l:List α}{j:Nat}{a:α}(h:l[j]? =some a):(qaQ c l).drop (j*sz)=c a++qaQ c (l.drop (j+1)):=by
 obtain⟨hj,e⟩:=zao.1 h
 have h1:l=l.take j++a::l.drop (j+1):=by
  rw[<-e,<-zaz hj,List.take_append_drop]
 have h2:qaQ c l=qaQ c (l.take j)++(c a++qaQ c (l.drop (j+1))):=by
  conv=>lhs;rw[h1]
  rw[qff];rfl
 have h3:(qaQ c (l.take j)).length=j*sz:=by rw[qd4 hc,List.length_take,Nat.min_eq_left (by omega)]
 rw[h2,List.drop_append_of_le_length (by omega),<-h3,zbb,zaJ]
theorem qpy {l:List α}{j:Nat}(h:j<l.length):j*sz+sz<=(qaQ c l).length:=by
 rw[qd4 hc]
 have:=Nat.mul_le_mul_right sz (show j+1<=l.length by omega)
 rw[Nat.add_mul,Nat.one_mul] at this
 exact this
theorem qtr {l:List α}{j:Nat}{a:α}(h:l[j]? =some a):cut (qaQ c l) (j*sz) sz=some (c a):=by
 unfold cut
 obtain⟨hj,_⟩:=zao.1 h
 have:=qpy hc hj
 rw[qcD,qcE,qhl hc h,ble_iff.2 this,cond_true,List.take_append_of_le_length (by rw[hc];exact zan _),List.take_of_length_le (by rw[hc];exact zan _)]
theorem qry {l:List α}{j:Nat}{a:α}(h:l[j]? =some a)(f:Nat)(hf:f<sz):cut (qaQ c l) (j*sz+f) 1=(c a)[f]?.map fun x=>[x]:=by
 unfold cut
 obtain⟨hj,_⟩:=zao.1 h
 have:=qpy hc hj
 have hf':f<(c a).length:=by rw[hc];exact hf
 rw[qcD,qcE,<-List.drop_drop,qhl hc h,ble_iff.2 (by omega),cond_true,List.drop_append_of_le_length (by omega),zaz hf',zah hf']
 rfl
theorem qdr (e:Env)(s:ASt){l:List α}{j:Nat}{a:α}(h:l[j]? =some a):ldH e s (.elem (qaQ c l) (j*sz)) (some sz)=some (.agg ((c a).map .p)):=by
 rw[qfz]
 simp only[cnt,qtr hc h,zab,zaa,zA.ofCells]
theorem qjp (e:Env)(s:ASt){l:List α}{j:Nat}{a:α}(h:l[j]? =some a)(f:Nat)(hf:f<sz):ldH e s (.elem (qaQ c l) (j*sz+f)) none=(c a)[f]?.map .p:=by
 rw[qfz]
 simp only[cnt,qry hc h f hf]
 have hf':f<(c a).length:=by rw[hc];exact hf
 rw[zah hf']
 rfl
theorem qeu (e:Env)(s:ASt){l:List α}{j:Nat}{a:α}(h:l[j]? =some a)(hz:0<sz):ldH e s (.elem (qaQ c l) (j*sz)) none=(c a)[0]?.map .p:=qjp hc e s h 0 hz
end
theorem qbR {α:Type}{c:α->List zP}{sz:Nat}{l:List α}{j:Nat}{k:IntKind}(h:j<l.length):iaV sz (.p (.sl l.length (qaQ c l))) (.p (.int k (.ofNat j)))=some (qaQ c l,j*sz):=qvl h
theorem qbQ {α:Type}{c:α->List zP}{l:List α}{j:Nat}(hj:j<l.length):qaQ c (l.take (j+1))=(if j=0 then[] else qaQ c (l.take j))++c l[j]:=by
 rw[List.take_succ_eq_append_getElem hj,qff]
 simp only[qaQ,zbg]
 cases j with
 |zero=>rfl
 |succ j=>rfl
structure Bs where
 cell:Bool
 n:Int
structure Ty where
 ps:List Bs
 res:Bs
structure Ar where
 ids:List Ty
 root:Bs
 jumps:Bool
namespace Bs
def cells (b:Bs):List zP:=[.bool b.cell,.int .i64 b.n]
def v (b:Bs):zA:=.agg [bl b.cell,i64 b.n]
def Ok (b:Bs):Prop:= -9223372036854775808<=b.n/\b.n<=9223372036854775807
theorem len (b:Bs):b.cells.length=2:=rfl
end Bs
namespace Ty
def cells (t:Ty):List zP:=[.sl t.ps.length (qaQ Bs.cells t.ps),.bool t.res.cell,.int .i64 t.res.n]
def v (t:Ty):zA:=.agg [.p (.sl t.ps.length (qaQ Bs.cells t.ps)),bl t.res.cell,i64 t.res.n]
def Ok (t:Ty):Prop:=t.ps.length<=maxLen/\(∀b∈t.ps,b.Ok)/\t.res.Ok
theorem len (t:Ty):t.cells.length=3:=rfl
end Ty
namespace Ar
def cells (a:Ar):List zP:=[.sl a.ids.length (qaQ Ty.cells a.ids),.bool a.root.cell,.int .i64 a.root.n,.bool a.jumps]
def v (a:Ar):zA:=.agg [.p (.sl a.ids.length (qaQ Ty.cells a.ids)),bl a.root.cell,i64 a.root.n,bl a.jumps]
def Ok (a:Ar):Prop:=a.ids.length<=maxLen/\(∀t∈a.ids,t.Ok)/\a.root.Ok
end Ar
@[simp] theorem qlQ (a b c:zA):ldL [a,b,c] 1 (some 2)=some (.agg [b,c]):=rfl
@[simp] theorem qlR (a b c d:zA):ldL [a,b,c,d] 1 (some 2)=some (.agg [b,c]):=rfl
theorem ge1 (a b:Int):qcc .geq .i64 a b=some (.bool (decide (b<=a))):=by
 rw[qa7]
 congr 2
 by_cases h:a<b
 ·rw[decide_eq_true h,decide_eq_false (by omega)];rfl
 ·rw[decide_eq_false h,decide_eq_true (by omega)];rfl
theorem le1 (a b:Int):qcc .leq .i64 a b=some (.bool (decide (a<=b))):=by
 rw[qbl]
 congr 2
 by_cases h:b<a
 ·rw[decide_eq_true h,decide_eq_false (by omega)];rfl
 ·rw[decide_eq_false h,decide_eq_true (by omega)];rfl
def qbg (b:Bs):Bool:=decide (1<=b.n)&&decide (b.n<=64)
def qcr (t:Ty):Bool:=qbg t.res&&(t.ps.all qbg&&(t.ps.isEmpty||!t.res.cell))
end Go.AI
namespace Go.AI.Tryz
theorem qjq (b:Bs):PC CP 103 [b.v] (bl (qbg b)):=by
 refine PC.of (cf:=cf103) (np:=1) (args':=[b.v]) (r:=bl (qbg b)) (by kernel_rfl) (by kernel_rfl) rfl rfl rfl rfl (fun _=>rfl) (Ev.of fun n E s _ _=>⟨s,(s103_eq _ _ _ _).trans ?_⟩)
 unfold s103 s103_0
 simp only[Bs.v,qfT,qjm,zaa,qad,ge1,le1,zab,qaj,qaa,qbg]
 cases decide (1<=b.n)<;>rfl
theorem in_c (x a b:Int):PC CP 167 [i64 x,i64 a,i64 b] (bl (decide (a<=x)&&decide (x<=b))):=by
 refine PC.of (cf:=cf167) (np:=3) (args':=[i64 x,i64 a,i64 b]) (r:=bl (decide (a<=x)&&decide (x<=b))) (by kernel_rfl) (by kernel_rfl) rfl rfl rfl rfl (fun _=>rfl) (Ev.of fun n E s _ _=>⟨s,(s167_eq _ _ _ _ _ _).trans ?_⟩)
 unfold s167 s167_0
 simp only[zaa,qad,ge1,le1,zab,qaj,qaa]
 cases decide (a<=x)<;>rfl
theorem qhm (b:Bs):PC CP 112 [b.v] (bl (qbg b)):=by
 refine PC.of (cf:=cf112) (np:=1) (args':=[b.v]) (r:=bl (qbg b)) (by kernel_rfl) (by kernel_rfl) rfl rfl rfl rfl (fun _=>rfl) ((in_c b.n 1 64).mono fun n h E s _ _=>⟨s,(s112_eq _ _ _ _).trans ?_⟩)
 unfold s112
 simp only[Bs.v,qfT,qjm,zaa,h,qab,qbg]
def qbo {α:Type}(p:α->Bool)(l:List α)(j:Nat):Int:=match (l.drop j).findIdx? p with|some i=> .ofNat (j+i)|none=> -1
theorem qjr {α:Type}(p:α->Bool)(l:List α):(0<=qbo p l 0)↔l.any p=true:=by
 simp only[qbo,List.drop_zero]
 cases h:l.findIdx? p with
 |none=>
  rw[List.findIdx?_eq_none_iff] at h
  simp only[Int.reduceNeg,Int.neg_nonneg,List.any_eq_true]
  constructor
  ·intro h2;omega
  ·rintro ⟨x,hx,hpx⟩
   have:=h x hx
   rw[this] at hpx;cases hpx
 |some i=>
  have:=List.findIdx?_eq_some_iff_getElem.1 h
  obtain⟨hi,hpi,_⟩:=this
  simp only[List.any_eq_true]
  exact⟨fun _=>⟨_,za4 hi,hpi⟩,fun _=>by simp only[zaf];omega⟩
theorem qiy {α:Type}{c:α->List zP}{sz:Nat}(hc:∀a,(c a).length=sz)(e:Env)(s:ASt)(f:zA)(l:List α)(p:α->Bool)(hl:l.length<=9223372036854775807)(hp:∀a∈l,clv e f [.agg ((c a).map .p)] s=some (bl (p a),s))(n:Nat)(hn:l.length<n):
  lp (fun _ _=>none) (fun h6 x4 s5=>
 (bn .lss x4 (i64 (.ofNat l.length))).bind fun x7=>
 qae x7 (qac (iaV sz (.p (.sl l.length (qaQ c l))) x4) fun q8 o9=>
 (ldH e s5 (.elem q8 o9) (some sz)).bind fun x10=>
 qac (clv e f [x10] s5) fun x11 s12=>
 qae x11 (some (x4,s12))
 ((bn .add x4 (i64 1)).bind fun x13=>
 h6 x13 s12))
 (some ((i64 (-1)),s5))) n (i64 (.ofNat 0)) s=some (i64 (qbo p l 0),s):=by
 generalize hF:(fun(h6:zA->ASt->Res) (x4:zA) (s5:ASt)=>_)=F
 refine qck _ F l.length (fun j L=>L (i64 (.ofNat j)) s) (fun j=>some (i64 (qbo p l j),s)) (fun j L hj ih=>?_) (fun L=>?_) n 0 (zaY _) (by omega)
 ·subst hF
  have hk:l[j]? =some l[j]:=zah hj
  simp only[zaa,qad,qao,qaw,zab,of_lt.2 hj,decide_true,qaa,cond_true,qbR hj,qab,qdr hc _ _ hk,hp _ (za4 hj),qaN (show j<9223372036854775807 by omega)]
  have hdr:l.drop j=l[j]::l.drop (j+1):=zaz hj
  cases hb:p l[j] with
  |true=>
   simp only[cond_true,qbo,hdr,List.findIdx?_cons,hb,if_true,zbk]
  |false=>
   simp only[cond_false]
   rw[ih]
   simp only[qbo,hdr,List.findIdx?_cons,hb,if_false,zai]
   cases(l.drop (j+1)).findIdx? p with
   |none=>rfl
   |some i=>
    simp only[zab]
    rw[show j+1+i=j+(i+1) by omega]
 ·subst hF
  have h3:¬(Int.ofNat l.length<Int.ofNat l.length):=fun h=>zaX _ (of_lt.1 h)
  simp only[zaa,qad,qao,zab,h3,decide_false,qaa,cond_false,qbo,zbb,List.findIdx?_nil]
end Go.AI.Tryz
namespace Go.AI
theorem PC.ofI {CP:Nat->Option CF}{f np:Nat}{cf:CF}{args args':List zA}{r r':zA}(hcf:CP f=some cf)(hfl:flI cf np=true)(hl:args.length=np)(ha:args.all qbF=true)(hargs:args.map qaD=args')
  (hv:qaD r=r')(hpl:qmj r'=true)(hb:Ev fun n=>∀E s,qau cf (qag CP n E) n args' s=some (r,s)):PC CP f args r':=by
 refine Ev.succ (hb.mono fun n h E s=>?_)
 rw[qb4]
 exact qfy hcf hfl hl ha hargs (h E s) hv hpl
theorem qvs (CP:Nat->Option CF){n:Nat}(hn:1<=n)(E:qaR)(f:Nat)(x:zA)(s:ASt):clv (qag CP n E) (.p (.func f [] [])) [x] s=cl (qag CP n E) f [x] s:=by
 obtain⟨m,rfl⟩:∃m,n=m+1:=⟨n-1,by omega⟩
 rw[qhd,qfe,qb4]
 rfl
theorem qfV {x:Int}{b:Bool}(h:0<=x↔b=true):decide (0<=x)=b:=by
 cases b with
 |true=>exact decide_eq_true (h.2 rfl)
 |false=>exact decide_eq_false fun k=>by cases h.1 k
end Go.AI
namespace Go.AI.Tryz
theorem c160 (b:Bs):PC CP 160 [b.v] (bl (!qbg b)):=by
 refine PC.of (cf:=cf160) (np:=1) (args':=[b.v]) (r:=bl (!qbg b)) (by kernel_rfl) (by kernel_rfl) rfl rfl rfl rfl (fun _=>rfl) ((qjq b).mono fun n h E s _ _=>⟨s,(s160_eq _ _ _ _).trans ?_⟩)
 unfold s160
 have h':=fun E s=>h E s
 simp only[Bs.v] at h'⊢
 simp only[qfT,qsx,zaa,h',qab,qam]
theorem c192 (l:List Bs)(hl:l.length<=maxLen):PC CP 192 [.p (.sl l.length (qaQ Bs.cells l)),.p (.func 160 [] [])] (i64 (qbo (fun b=>!qbg b) l 0)):=by
 have hev:Ev fun n=>∀b∈l,∀E s,cl (qag CP n E) 160 [b.v] s=some (bl (!qbg b),s):=Ev.all l fun b _=>c160 b
 rw[qbM] at hl
 refine PC.ofI (cf:=cf192) (np:=2) (args':=[.p (.sl l.length (qaQ Bs.cells l)),.p (.func 160 [] [])]) (r:=i64 (qbo (fun b=>!qbg b) l 0)) (by kernel_rfl) (by kernel_rfl) rfl rfl rfl rfl rfl ((hev.and (Ev.ge (l.length+1))).mono fun n ⟨hn,hm⟩ E s=>(s192_eq _ _ _ _ _).trans ?_)
 unfold s192 s192_0
 rw[qbq,zaa]
 exact qiy (c:=Bs.cells) (sz:=2) (fun _=>rfl) (qag CP n E) s (.p (.func 160 [] [])) l (fun b=>!qbg b) (by omega) (fun a ha=>(qvs CP (by omega) E 160 _ s).trans (hn a ha E s)) n (by omega)
theorem c161 (l:List Bs)(hl:l.length<=maxLen):PC CP 161 [.p (.sl l.length (qaQ Bs.cells l)),.p (.func 160 [] [])] (bl (l.any fun b=>!qbg b)):=by
 refine PC.ofI (cf:=cf161) (np:=2) (args':=[.p (.sl l.length (qaQ Bs.cells l)),.p (.func 160 [] [])]) (r:=bl (l.any fun b=>!qbg b)) (by kernel_rfl) (by kernel_rfl) rfl rfl rfl rfl rfl ((c192 l hl).mono fun n h E s=>(s161_eq _ _ _ _ _).trans ?_)
 unfold s161
 simp only[h,qab,qad,ge1,zab,zaa,qfV (qjr _ l)]
theorem qrz (t:Ty)(hl:t.ps.length<=maxLen):PC CP 101 [t.v] (bl (qcr t)):=by
 refine PC.of (cf:=cf101) (np:=1) (args':=[t.v]) (r:=bl (qcr t)) (by kernel_rfl) (by kernel_rfl) rfl rfl rfl rfl (fun _=>rfl) (((qjq t.res).and (c161 t.ps hl)).mono fun n ⟨h1,h2⟩ E s _ _=>⟨s,(s101_eq _ _ _ _).trans ?_⟩)
 have h1':=fun E s=>h1 E s
 simp only[Bs.v] at h1'
 have h0:Int.ofNat t.ps.length=0↔t.ps.isEmpty=true:=by
  rw[List.isEmpty_iff,<-za1]
  simp only[zaf];omega
 have h3:(t.ps.any fun b=>!qbg b)=!(t.ps.all qbg):=by rw[List.any_eq_not_all_not];simp
 unfold s101 s101_0
 simp only[Ty.v,qhg,qlQ,qhh,qpr,zaa,h1',h2,qab,qaj,qaa,qam,qbq,qad,qaf,zab,h3,Bool.not_not,qcr]
 cases qbg t.res with
 |false=>rfl
 |true=>
  cases t.ps.all qbg with
  |false=>rfl
  |true=>
   cases he:t.ps.isEmpty with
   |true=>rw[decide_eq_true (h0.2 he)];rfl
   |false=>rw[decide_eq_false (fun e=>by rw[h0.1 e] at he;cases he)];rfl
end Go.AI.Tryz
namespace Go.AI
def qbX (a:Ar):Int:=
 if decide (8<a.ids.length)||a.ids.any (fun t=>decide (5<t.ps.length)) then 5
 else if !qbg a.root||a.ids.any (fun t=>!qcr t) then 4 else 0
end Go.AI
namespace Go.AI.Tryz
theorem c99 (t:Ty):PC CP 99 [t.v] (bl (decide (5<t.ps.length))):=by
 refine PC.of (cf:=cf99) (np:=1) (args':=[t.v]) (r:=bl (decide (5<t.ps.length))) (by kernel_rfl) (by kernel_rfl) rfl rfl rfl rfl (fun _=>rfl) (Ev.of fun n E s _ _=>⟨s,(s99_eq _ _ _ _).trans ?_⟩)
 unfold s99
 have:((5:Int)<Int.ofNat t.ps.length)=(5<t.ps.length):=by simp only[zaf,eq_iff_iff];omega
 simp only[Ty.v,qhg,qhh,zaa,qbq,qad,qaG,zab,this]
theorem c100 (t:Ty)(hl:t.ps.length<=maxLen):PC CP 100 [t.v] (bl (!qcr t)):=by
 refine PC.of (cf:=cf100) (np:=1) (args':=[t.v]) (r:=bl (!qcr t)) (by kernel_rfl) (by kernel_rfl) rfl rfl rfl rfl (fun _=>rfl) ((qrz t hl).mono fun n h E s _ _=>⟨s,(s100_eq _ _ _ _).trans ?_⟩)
 have h':=fun E s=>h E s
 unfold s100
 simp only[Ty.v] at h'⊢
 simp only[qhg,qsy,zaa,h',qab,qam]
theorem c162 (f:Nat)(p:Ty->Bool)(l:List Ty)(hl:l.length<=maxLen)(hf:∀t∈l,PC CP f [t.v] (bl (p t))):PC CP 162 [.p (.sl l.length (qaQ Ty.cells l)),.p (.func f [] [])] (i64 (qbo p l 0)):=by
 have hev:Ev fun n=>∀t∈l,∀E s,cl (qag CP n E) f [t.v] s=some (bl (p t),s):=Ev.all l hf
 rw[qbM] at hl
 refine PC.ofI (cf:=cf162) (np:=2) (args':=[.p (.sl l.length (qaQ Ty.cells l)),.p (.func f [] [])]) (r:=i64 (qbo p l 0)) (by kernel_rfl) (by kernel_rfl) rfl rfl rfl rfl rfl ((hev.and (Ev.ge (l.length+1))).mono fun n ⟨hn,hm⟩ E s=>(s162_eq _ _ _ _ _).trans ?_)
 unfold s162 s162_0
 rw[qbq,zaa]
 exact qiy (c:=Ty.cells) (sz:=3) (fun _=>rfl) (qag CP n E) s (.p (.func f [] [])) l p (by omega) (fun a ha=>(qvs CP (by omega) E f _ s).trans (hn a ha E s)) n (by omega)
theorem qwS (f:Nat)(p:Ty->Bool)(l:List Ty)(hl:l.length<=maxLen)(hf:∀t∈l,PC CP f [t.v] (bl (p t))):PC CP 102 [.p (.sl l.length (qaQ Ty.cells l)),.p (.func f [] [])] (bl (l.any p)):=by
 refine PC.ofI (cf:=cf102) (np:=2) (args':=[.p (.sl l.length (qaQ Ty.cells l)),.p (.func f [] [])]) (r:=bl (l.any p)) (by kernel_rfl) (by kernel_rfl) rfl rfl rfl rfl rfl ((c162 f p l hl hf).mono fun n h E s=>(s102_eq _ _ _ _ _).trans ?_)
 unfold s102
 simp only[h,qab,qad,ge1,zab,zaa,qfV (qjr p l)]
theorem qkR (a:Ar)(ok:a.Ok):PC CP 56 [a.v] (i64 (qbX a)):=by
 refine PC.of (cf:=cf56) (np:=1) (args':=[a.v]) (r:=i64 (qbX a)) (by kernel_rfl) (by kernel_rfl) rfl rfl rfl rfl (fun _=>rfl)
  (((qjq a.root).and ((qwS 99 (fun t=>decide (5<t.ps.length)) a.ids ok.1 fun t _=>c99 t).and (qwS 100 (fun t=>!qcr t) a.ids ok.1 fun t ht=>c100 t (ok.2.1 t ht).1))).mono fun n ⟨h1,h2,h3⟩ E s _ _=>⟨s,(s56_eq _ _ _ _).trans ?_⟩)
 have h1':=fun E s=>h1 E s
 simp only[Bs.v] at h1'
 have e:((8:Int)<Int.ofNat a.ids.length)=(8<a.ids.length):=by simp only[zaf,eq_iff_iff];omega
 unfold s56 s56_1 s56_0
 simp only[Ar.v,qaV,qlR,qbW,zaa,h1',h2,h3,qab,qaj,qaa,qam,qbq,qad,qaG,zab,e,qbX]
 cases decide (8<a.ids.length) with
 |true=>rfl
 |false=>
  cases a.ids.any (fun t=>decide (5<t.ps.length)) with
  |true=>rfl
  |false=>
   cases qbg a.root with
   |false=>rfl
   |true=>
    cases a.ids.any (fun t=>!qcr t)<;>rfl
def qn2 (a:Ar):Bool:=decide (a.ids.length<=20)&&a.ids.all fun t=>decide (t.ps.length<=20)
theorem qlS (a:Ar)(ok:a.Ok):PC CP 38 [a.v] (bl (qn2 a)):=by
 refine PC.of (cf:=cf38) (np:=1) (args':=[a.v]) (r:=bl (qn2 a)) (by kernel_rfl) (by kernel_rfl) rfl rfl rfl rfl (fun _=>rfl) ((Ev.ge (a.ids.length+1)).mono fun n hm E s _ _=>⟨s,(s38_eq _ _ _ _).trans ?_⟩)
 have e:((20:Int)<Int.ofNat a.ids.length)=(20<a.ids.length):=by simp only[zaf,eq_iff_iff];omega
 unfold s38
 simp only[Ar.v,qaV,qbW,zaa,qaa,qbq,qad,qaG,zab,e,qn2]
 by_cases h:20<a.ids.length
 ·rw[decide_eq_true h,decide_eq_false (show¬a.ids.length<=20 by omega)];rfl
 ·rw[decide_eq_false h,decide_eq_true (show a.ids.length≤20 by omega),cond_false,zay]
  unfold s38_0
  generalize hF:(fun(h7:zA->Res) (x6:zA)=>_)=F
  refine qck _ F a.ids.length (fun j L=>L (i64 (.ofNat j))) (fun j=>some (bl ((a.ids.drop j).all fun t=>decide (t.ps.length<=20)),s)) (fun j L hj ih=>?_) (fun L=>?_) n 0 (zaY _) (by omega)
  ·subst hF
   have hk:a.ids[j]? =some a.ids[j]:=zah hj
   have hdr:a.ids.drop j=a.ids[j]::a.ids.drop (j+1):=zaz hj
   have hld:ldH (qag CP n E) s (.elem (qaQ Ty.cells a.ids) (j*3)) none=some (.p (.sl a.ids[j].ps.length (qaQ Bs.cells a.ids[j].ps))):=qeu (c:=Ty.cells) (sz:=3) (fun _=>rfl) _ s hk (by omega)
   have e2:((20:Int)<Int.ofNat a.ids[j].ps.length)=(20<a.ids[j].ps.length):=by simp only[zaf,eq_iff_iff];omega
   simp only[qbW,zaa,qbq,qad,qao,qaG,qaw,zab,of_lt.2 hj,decide_true,qaa,cond_true,qbR hj,qab,hld,e2,qaN (show j<9223372036854775807 by omega),hdr,zap]
   by_cases h2:20<a.ids[j].ps.length
   ·rw[decide_eq_true h2,decide_eq_false (show¬a.ids[j].ps.length<=20 by omega)];rfl
   ·rw[decide_eq_false h2,decide_eq_true (show a.ids[j].ps.length≤20 by omega),cond_false,zay]
    exact ih
  ·subst hF
   have h3:¬(Int.ofNat a.ids.length<Int.ofNat a.ids.length):=fun h=>zaX _ (of_lt.1 h)
   simp only[qbW,zaa,qbq,qad,qao,zab,h3,decide_false,qaa,cond_false,zbb]
   rfl
end Go.AI.Tryz
namespace Go.AI.Tryz
theorem qpz (t:Ty)(hl:t.ps.length<=maxLen):PC CP 111 [t.v] (bl (qcr t)):=by
 have hev:Ev fun n=>∀b∈t.ps,∀E s,cl (qag CP n E) 112 [b.v] s=some (bl (qbg b),s):=Ev.all t.ps fun b _=>qhm b
 rw[qbM] at hl
 refine PC.of (cf:=cf111) (np:=1) (args':=[t.v]) (r:=bl (qcr t)) (by kernel_rfl) (by kernel_rfl) rfl rfl rfl rfl (fun _=>rfl) (((qhm t.res).and (hev.and (Ev.ge (t.ps.length+1)))).mono fun n ⟨h1,h2,hm⟩ E s _ _=>⟨s,(s111_eq _ _ _ _).trans ?_⟩)
 have h1':=fun E s=>h1 E s
 simp only[Bs.v] at h1'
 have h0:Int.ofNat t.ps.length=0↔t.ps.isEmpty=true:=by
  rw[List.isEmpty_iff,<-za1]
  simp only[zaf];omega
 unfold s111
 simp only[Ty.v,qhg,zaa]
 unfold s111_1
 generalize hF:(fun(h5:zA->ASt->Res) (x3:zA) (s4:ASt)=>_)=F
 have key:∀b:Bool,cond b (some (bl (qbg t.res&&(t.ps.isEmpty||!t.res.cell)),s)) (some (bl false,s))=some (bl (b&&(qbg t.res&&(t.ps.isEmpty||!t.res.cell))),s):=fun b=>by cases b<;>rfl
 have fin:qcr t=(t.ps.all qbg&&(qbg t.res&&(t.ps.isEmpty||!t.res.cell))):=by
  unfold qcr
  cases qbg t.res<;>cases t.ps.all qbg<;>rfl
 rw[fin]
 refine qck _ F t.ps.length (fun j L=>L (i64 (.ofNat j)) s) (fun j=>some (bl ((t.ps.drop j).all qbg&&(qbg t.res&&(t.ps.isEmpty||!t.res.cell))),s)) (fun j L hj ih=>?_) (fun L=>?_) n 0 (zaY _) (by omega)
 ·subst hF
  have hk:t.ps[j]? =some t.ps[j]:=zah hj
  have hdr:t.ps.drop j=t.ps[j]::t.ps.drop (j+1):=zaz hj
  have hld:ldH (qag CP n E) s (.elem (qaQ Bs.cells t.ps) (j*2)) (some 2)=some t.ps[j].v:=qdr (c:=Bs.cells) (sz:=2) (fun _=>rfl) _ s hk
  simp only[qhh,zaa,qbq,qad,qao,qaw,zab,of_lt.2 hj,decide_true,qaa,cond_true,qbR hj,qab,hld,h2 _ (za4 hj),qam,qaN (show j<9223372036854775807 by omega),hdr,zap]
  cases qbg t.ps[j] with
  |false=>rfl
  |true=>
   simp only[zak,cond_false,zay]
   exact ih
 ·subst hF
  have h3:¬(Int.ofNat t.ps.length<Int.ofNat t.ps.length):=fun h=>zaX _ (of_lt.1 h)
  unfold s111_0
  simp only[qhh,qpr,qlQ,zaa,qbq,qad,qao,qaf,zab,h3,decide_false,qaa,cond_false,zbb,List.all_nil,zay,h1',qab,qam,qaj]
  cases qbg t.res with
  |false=>rfl
  |true=>
   cases he:t.ps.isEmpty with
   |true=>rw[decide_eq_true (h0.2 he)];rfl
   |false=>rw[decide_eq_false (fun e=>by rw[h0.1 e] at he;cases he)];rfl
theorem qjs (a:Ar)(ok:a.Ok):PC CP 62 [a.v] (i64 (qbX a)):=by
 have hev:Ev fun n=>∀t∈a.ids,∀E s,cl (qag CP n E) 111 [t.v] s=some (bl (qcr t),s):=Ev.all a.ids fun t ht=>qpz t (ok.2.1 t ht).1
 have hl:=ok.1
 rw[qbM] at hl
 refine PC.of (cf:=cf62) (np:=1) (args':=[a.v]) (r:=i64 (qbX a)) (by kernel_rfl) (by kernel_rfl) rfl rfl rfl rfl (fun _=>rfl) (((qhm a.root).and (hev.and (Ev.ge (a.ids.length+1)))).mono fun n ⟨h1,h2,hm⟩ E s _ _=>⟨s,(s62_eq _ _ _ _).trans ?_⟩)
 have h1':=fun E s=>h1 E s
 simp only[Bs.v] at h1'
 have e:((8:Int)<Int.ofNat a.ids.length)=(8<a.ids.length):=by simp only[zaf,eq_iff_iff];omega
 unfold s62
 simp only[Ar.v,qaV,qbW,zaa,qaa,qbq,qad,qaG,zab,e,qbX]
 cases decide (8<a.ids.length) with
 |true=>rfl
 |false=>
 simp only[cond_false,za6]
 have loop2:s62_0 (qag CP n E) n [.p (.sl a.ids.length (qaQ Ty.cells a.ids)),bl a.root.cell,i64 a.root.n,bl a.jumps] (i64 0) s=some (i64 (if(!qbg a.root||a.ids.any fun t=>!qcr t)=true then 4 else 0),s):=by
  unfold s62_0
  generalize hF:(fun(h20:zA->ASt->Res) (x18:zA) (s19:ASt)=>_)=F
  refine qck _ F a.ids.length (fun j L=>L (i64 (.ofNat j)) s) (fun j=>some (i64 (if(!qbg a.root||(a.ids.drop j).any fun t=>!qcr t)=true then 4 else 0),s)) (fun j L hj ih=>?_) (fun L=>?_) n 0 (zaY _) (by omega)
  ·subst hF
   have hk:a.ids[j]? =some a.ids[j]:=zah hj
   have hdr:a.ids.drop j=a.ids[j]::a.ids.drop (j+1):=zaz hj
   have hld:ldH (qag CP n E) s (.elem (qaQ Ty.cells a.ids) (j*3)) (some 3)=some a.ids[j].v:=qdr (c:=Ty.cells) (sz:=3) (fun _=>rfl) _ s hk
   simp only[qbW,zaa,qbq,qad,qao,qaw,zab,of_lt.2 hj,decide_true,qaa,cond_true,qbR hj,qab,hld,h2 _ (za4 hj),qam,qaN (show j<9223372036854775807 by omega),hdr,List.any_cons]
   cases qcr a.ids[j] with
   |false=>
    cases qbg a.root<;>rfl
   |true=>
    simp only[zak,cond_false,za6]
    exact ih
  ·subst hF
   have h3:¬(Int.ofNat a.ids.length<Int.ofNat a.ids.length):=fun h=>zaX _ (of_lt.1 h)
   simp only[qbW,qlR,zaa,qbq,qad,qao,zab,h3,decide_false,qaa,cond_false,zbb,List.any_nil,Bool.or_false,h1',qab,qam]
   cases qbg a.root<;>rfl
 unfold s62_1
 generalize hF:(fun(h7:zA->Res) (x6:zA)=>_)=F
 refine qck _ F a.ids.length (fun j L=>L (i64 (.ofNat j))) (fun j=>some (i64 (if((a.ids.drop j).any fun t=>decide (5<t.ps.length))=true then 5 else if(!qbg a.root||a.ids.any fun t=>!qcr t)=true then 4 else 0),s)) (fun j L hj ih=>?_) (fun L=>?_) n 0 (zaY _) (by omega)
 ·subst hF
  have hk:a.ids[j]? =some a.ids[j]:=zah hj
  have hdr:a.ids.drop j=a.ids[j]::a.ids.drop (j+1):=zaz hj
  have hld:ldH (qag CP n E) s (.elem (qaQ Ty.cells a.ids) (j*3)) none=some (.p (.sl a.ids[j].ps.length (qaQ Bs.cells a.ids[j].ps))):=qeu (c:=Ty.cells) (sz:=3) (fun _=>rfl) _ s hk (by omega)
  have e2:((5:Int)<Int.ofNat a.ids[j].ps.length)=(5<a.ids[j].ps.length):=by simp only[zaf,eq_iff_iff];omega
  simp only[qbW,zaa,qbq,qad,qao,qaG,qaw,zab,of_lt.2 hj,decide_true,qaa,cond_true,qbR hj,qab,hld,e2,qaN (show j<9223372036854775807 by omega),hdr,List.any_cons]
  cases decide (5<a.ids[j].ps.length) with
  |true=>rfl
  |false=>
   simp only[cond_false,za6]
   exact ih
 ·subst hF
  have h3:¬(Int.ofNat a.ids.length<Int.ofNat a.ids.length):=fun h=>zaX _ (of_lt.1 h)
  simp only[qbW,zaa,qbq,qad,qao,zab,h3,decide_false,qaa,cond_false,zbb,List.any_nil,loop2]
  rfl
end Go.AI.Tryz
namespace Go.AI
theorem qvt (e:Env){sz b m:Nat}{cs:List zP}(s:ASt)(hl:cs.length=m*sz)(hb:m*b<=140737488355328):∃tk s',ap e sz b (.sl 0 [] .full) (.p (.sl m cs)) s=some (.sl m cs tk,s'):=by
 unfold ap stV
 have h1:Nat.ble ((0+m)*b) 140737488355328=true:=ble_iff.2 (by rw[zaK];exact hb)
 have h2:Nat.beq cs.length (m*sz)=true:=qaE hl
 have h3:Nat.beq ([]:List zP).length (0*sz)=true:=qaE (by simp)
 simp only[qaJ,Arg.ev,qdE,zaa,h1,h2,h3,zat,cond_true]
 cases m with
 |zero=>
  rw[Nat.zero_mul] at hl
  have:cs=[]:=za1.1 hl
  subst this
  exact⟨.full,s,rfl⟩
 |succ m=>
  refine⟨.own s.ntok,{s with ntok:=s.ntok+1,toks:=(s.ntok,m+1,sz)::s.toks},?_⟩
  simp only[Nat.beq,cond_false,zaK,zaJ]
theorem qfW (x:zP):qov (.p x) (.p x)=true:=qio x
end Go.AI
namespace Go.AI.Tryz
theorem qn3 (t:Ty)(hl:t.ps.length<=1000000):PC CP 43 [t.v] t.v:=by
 refine Ev.succ (Ev.of fun n E s=>?_)
 rw[qb4]
 obtain⟨tk,s',hap⟩:=qvt (qag CP n (s.heap++E)) (sz:=2) (b:=16) {s with heap:=[],toks:=[]} (qd4 (c:=Bs.cells) (fun _=>rfl) t.ps) (by omega)
 refine qhc (cf:=cf43) (np:=1) (args':=[t.v]) (v:=.agg [.sl t.ps.length (qaQ Bs.cells t.ps) tk,bl t.res.cell,i64 t.res.n]) (s':=s') (by kernel_rfl) (by kernel_rfl) rfl rfl rfl ((s43_eq _ _ _ _).trans ?_) rfl rfl
 unfold s43
 have h1:ms 0 [] []=some (.sl 0 [] .full):=rfl
 have h2:∀x y z:zA,cut [x,y,z] 1 2=some [y,z]:=fun _ _ _=>rfl
 have h3:∀x y z:zA,bd [.sl 0 [] .full,bl false,i64 0] [(0,none,.c (.sl t.ps.length (qaQ Bs.cells t.ps) tk)),(1,some 2,.c (.agg [y,z]))]=some (.agg [.sl t.ps.length (qaQ Bs.cells t.ps) tk,y,z]):=fun _ _ _=>rfl
 simp only[Ty.v,qhg,qsy,qlQ,qhh,qlO,zaa,h1,hap,qab,h2,h3 un,qaT,qdn,qfW,zat]
theorem qxp (t:Ty)(zs:List zP)(hz:zs.length=3):ms 1 zs [(0,some 3,.c t.v)]=some (.sl 1 t.cells .full):=by
 match zs,hz with
 |[a,b,c],_=>rfl
theorem qts (a:Ar)(h1:a.ids.length<=1000000)(h2:∀t∈a.ids,t.ps.length<=1000000):PC CP 14 [a.v] a.v:=by
 have hev:Ev fun n=>∀x∈a.ids,∀E s,cl (qag CP n E) 43 [x.v] s=some (x.v,s):=Ev.all a.ids fun x hx=>qn3 x (h2 x hx)
 let f:Nat->List zP:=fun j=>qaQ Ty.cells (a.ids.take j)
 have hfl:f a.ids.length=qaQ Ty.cells a.ids:=by simp only[f,List.take_length]
 let r:ASt->zA:=fun s=> .agg [qb0 f s.ntok a.ids.length,bl a.root.cell,i64 a.root.n,bl a.jumps]
 have her:∀s,qaD (r s)=a.v:=by
  intro s
  unfold Ar.v
  rw[<-hfl,<-qcV f s.ntok a.ids.length rfl]
  rfl
 refine Ev.succ ((hev.and (Ev.ge (a.ids.length+1))).mono fun n ⟨hn,hm⟩ E s=>?_)
 rw[qb4]
 refine qhc (cf:=cf14) (np:=1) (args':=[a.v]) (v:=r {s with heap:=[],toks:=[]}) (s':=qc6 {s with heap:=[],toks:=[]} 3 a.ids.length) (by kernel_rfl) (by kernel_rfl) rfl rfl rfl ((s14_eq _ _ _ _).trans ?_) (her _) rfl
 generalize hs:({s with heap:=[],toks:=[]}:ASt)=s0
 generalize s.heap++E=E'
 have hbd:∀x y z:zA,bd [.sl 0 [] .full,bl false,i64 0,bl false] [(1,some 2,.c (.agg [x,y])),(3,none,.c (bl a.jumps))]=some (.agg [.sl 0 [] .full,x,y,bl a.jumps]):=fun _ _ _=>rfl
 have hj4:∀x y z w:zA,ldL [x,y,z,w] 3 none=some w:=fun _ _ _ _=>rfl
 unfold s14
 simp only[Ar.v,qaV,qlR,hj4,hbd _ _ un,qdc,zaa]
 unfold s14_0
 generalize hF:(fun(h13:zA->List zA->List zA->List zA->ASt->Res) (x8:zA) (c9 c10 c11:List zA) (s12:ASt)=>_)=F
 refine qck _ F a.ids.length (fun j L=>L (i64 (.ofNat j)) [.p (.sl a.ids.length (qaQ Ty.cells a.ids)),bl a.root.cell,i64 a.root.n,bl a.jumps] [.sl 0 [] .full,bl false,i64 0,bl false] [qb0 f s0.ntok j,bl a.root.cell,i64 a.root.n,bl a.jumps] (qc6 s0 3 j)) (fun _=>some (r s0,qc6 s0 3 a.ids.length)) (fun j L hj ih=>?_) (fun L=>?_) n 0 (zaY _) (by omega)
 ·subst hF
  have hk:a.ids[j]? =some a.ids[j]:=zah hj
  have hld:∀s,ldH (qag CP n E') s (.elem (qaQ Ty.cells a.ids) (j*3)) (some 3)=some a.ids[j].v:=fun s=>qdr (c:=Ty.cells) (sz:=3) (fun _=>rfl) _ s hk
  have hcv:zA.cells none (qb0 f s0.ntok (j+1))=some [qb0 f s0.ntok (j+1)]:=rfl
  have hap:=qeV (qag CP n E') (b:=40) (f:=f) (y:=.sl 1 a.ids[j].cells .full) s0 j rfl (Ty.len _) (by omega) (qbQ hj)
  simp only[qbW,zaa,qbq,qad,qao,qaw,zab,of_lt.2 hj,decide_true,qaa,cond_true,qbR hj,qab,hld,hn a.ids[j] (za4 hj),qxp _ [.sl 0 [],.bool false,.int .i64 0] rfl,hap,hcv,qgC,qaN (show j<9223372036854775807 by omega)]
  exact ih
 ·subst hF
  have h3:¬(Int.ofNat a.ids.length<Int.ofNat a.ids.length):=fun h=>zaX _ (of_lt.1 h)
  simp only[qbW,zaa,qbq,qad,qao,zab,h3,decide_false,qaa,cond_false,qbE,qaV,qdc]
  rfl
end Go.AI.Tryz
namespace Go.AI
theorem Tm.size_eq (t:Tm):t.size=1+Tm.sizeL t.ks:=by cases t;simp only[Tm.size,Tm.ks]
theorem qsA (a b:Nat):mm false (i64 (.ofNat a)) (i64 (.ofNat b))=some (i64 (.ofNat (min a b))):=by
 unfold mm pu
 simp only[qaF,Arg.ev,qdo,cond_false,of_lt]
 rcases zbi b a with h|h
 ·have e:min a b=b:=by omega
  simp only[h,decide_true,cond_true,e]
 ·have e:min a b=a:=by omega
  have h':¬b<a:=by omega
  simp only[h',decide_false,cond_false,e]
theorem qiz {l:List Tm}{j:Nat}(h:j<l.length):Tm.sizeL (l.drop j)=l[j].size+Tm.sizeL (l.drop (j+1)):=by
 rw[zaz h,Tm.sizeL]
end Go.AI
namespace Go.AI.Tryz
theorem qpA (t:Tm):t.Ok->PC CP 32 [t.v] (i64 (.ofNat (min 601 t.size))):=by
 induction t using Tm.ind with
 |h k n m i ks ihk=>
  intro ok
  have ihk':∀x∈(Tm.mk k n m i ks).ks,x.Ok->PC CP 32 [x.v] (i64 (.ofNat (min 601 x.size))):=ihk
  clear ihk
  generalize Tm.mk k n m i ks=t at ok ihk'⊢
  have hev:Ev fun n=>∀x∈t.ks,∀E s,cl (qag CP n E) 32 [x.v] s=some (i64 (.ofNat (min 601 x.size)),s):=Ev.all t.ks fun x hx=>ihk' x hx (ok.kids x hx)
  have hlen:=ok.len
  rw[qbM] at hlen
  refine PC.of (cf:=cf32) (np:=1) (args':=[t.v]) (r:=i64 (.ofNat (min 601 t.size))) (by kernel_rfl) (by kernel_rfl) rfl (by simp only[zap,qak];rfl) (by simp only[zam,qai];rfl) rfl (fun _=>rfl) ?_
  refine(hev.and (Ev.ge (t.ks.length+1))).mono fun n ⟨hn,hm⟩ E s _ _=>⟨s,(s32_eq _ _ _ _).trans ?_⟩
  unfold s32
  simp only[Tm.v_eq,qa0,zaa]
  unfold s32_1
  generalize hF:(fun(h6:zA->zA->ASt->Res) (x3 x4:zA) (s5:ASt)=>_)=F
  let acc:Nat->Nat:=fun j=>1+((t.ks.take j).map fun x=>min 601 x.size).sum
  have hal:∀j,acc j<=1+601*j:=by
   intro j
   induction j with
   |zero=>simp only[acc,List.take_zero,zbn,List.sum_nil];omega
   |succ j ih=>
    rcases zbi j t.ks.length with h|h
    ·simp only[acc] at ih⊢
     rw[List.take_succ_eq_append_getElem h,List.map_append,List.sum_append]
     simp only[zam,zbn,List.sum_cons,List.sum_nil]
     omega
    ·simp only[acc] at ih⊢
     rw[List.take_of_length_le (by omega)]
     rw[List.take_of_length_le (by omega)] at ih
     omega
  have hend:i64 (.ofNat (min 601 t.size))=i64 (.ofNat (min 601 (acc 0+Tm.sizeL (t.ks.drop 0)))):=by
   rw[t.size_eq]
   rfl
  rw[hend]
  refine qck _ F t.ks.length (fun j L=>L (i64 (.ofNat (acc j))) (i64 (.ofNat j)) s) (fun j=>some (i64 (.ofNat (min 601 (acc j+Tm.sizeL (t.ks.drop j)))),s)) (fun j L hj ih=>?_) (fun L=>?_) n 0 (zaY _) (by omega)
  ·subst hF
   simp only
   unfold s32_0
   have hk:t.ks[j]? =some t.ks[j]:=zah hj
   have hacc:acc (j+1)=acc j+min 601 t.ks[j].size:=by
    simp only[acc]
    rw[List.take_succ_eq_append_getElem hj,List.map_append,List.sum_append]
    simp only[zam,zbn,List.sum_cons,List.sum_nil]
    omega
   simp only[qaj,qbH,zaa,qbq,qad,qao,qbl,qaw,zab,of_lt.2 hj,decide_true,qaa,cond_true,Tm.ia_kid hj,qab,Tm.ld_kid _ _ hk]
   by_cases h7:acc j<=600
   ·have h8:¬((600:Int)<Int.ofNat (acc j)):=by simp only[zaf];omega
    have w2:qbb .i64 (Int.ofNat (acc j)+Int.ofNat (min 601 t.ks[j].size))=Int.ofNat (acc (j+1)):=by
     rw[qbu (by simp only[zaf];omega) (by simp only[zaf];omega),hacc]
     simp only[zaf];omega
    simp only[h8,decide_false,zal,cond_true,hn t.ks[j] (za4 hj) E s,qab,qad,qaw,zab,zaa,w2,qaN (show j<9223372036854775807 by omega)]
    rw[qiz hj]
    have:min 601 (acc j+(t.ks[j].size+Tm.sizeL (t.ks.drop (j+1))))=min 601 (acc (j+1)+Tm.sizeL (t.ks.drop (j+1))):=by rw[hacc];omega
    rw[this]
    exact ih
   ·have h8:(600:Int)<Int.ofNat (acc j):=by simp only[zaf];omega
    have hm1:mm false (i64 (.ofNat (acc j))) (i64 601)=some (i64 (.ofNat (min 601 (acc j+Tm.sizeL (t.ks.drop j))))):=by
     have e1:min 601 (acc j+Tm.sizeL (t.ks.drop j))=min (acc j) 601:=by omega
     rw[e1]
     exact qsA _ 601
    simp only[h8,decide_true,zak,cond_false,hm1,zaa]
  ·subst hF
   simp only
   unfold s32_0
   have h3:¬(Int.ofNat t.ks.length<Int.ofNat t.ks.length):=fun h=>zaX _ (of_lt.1 h)
   have hm1:mm false (i64 (.ofNat (acc t.ks.length))) (i64 601)=some (i64 (.ofNat (min 601 (acc t.ks.length)))):=by
    rw[Nat.min_comm]
    exact qsA _ 601
   simp only[qaj,qbH,zaa,qbq,qad,qao,zab,h3,decide_false,qaa,cond_false,hm1]
   rw[zbb]
   rfl
end Go.AI.Tryz
namespace Go.AI
mutual
def Tm.cnt2:Tm->Nat
 |.mk _ _ _ _ ks=>Tm.cnt2L 1 ks
def Tm.cnt2L:Nat->List Tm->Nat
 |a,[]=>a
 |a,t::r=>if 600<a then a else Tm.cnt2L (a+Tm.cnt2 t) r
end
theorem Tm.cnt2_eq (t:Tm):t.cnt2=Tm.cnt2L 1 t.ks:=by cases t;simp only[Tm.cnt2,Tm.ks]
def Cok (t:Tm):Prop:=t.cnt2<=t.size/\(t.size<=600->t.cnt2=t.size)/\(600<t.size->600<t.cnt2)
theorem Tm.cnt2L_ok:∀(l:List Tm) (a:Nat),(∀t∈l,Cok t)->Tm.cnt2L a l<=a+Tm.sizeL l/\(a+Tm.sizeL l<=600->Tm.cnt2L a l=a+Tm.sizeL l)/\(600<a+Tm.sizeL l->600<Tm.cnt2L a l)
 |[],a,_=>by simp only[Tm.cnt2L,Tm.sizeL];omega
 |t::r,a,h=>by
  obtain⟨h1,h2,h3⟩:=h t (zau ..)
  obtain⟨i1,i2,i3⟩:=Tm.cnt2L_ok r (a+t.cnt2) fun u hu=>h u (zax _ hu)
  simp only[Tm.cnt2L,Tm.sizeL]
  split
  ·omega
  ·refine⟨by omega,fun h=>?_,fun h=>?_⟩
   ·have:=h2 (by omega)
    have:=i2 (by omega)
    omega
   ·rcases zbi 600 t.size with g|g
    ·have:=h3 g
     exact i3 (by omega)
    ·have:=h2 g
     exact i3 (by omega)
theorem Tm.cnt2_ok (t:Tm):Cok t:=by
 induction t using Tm.ind with
 |h k n m i ks ih=>
  have:=Tm.cnt2L_ok ks 1 ih
  unfold Cok
  simp only[Tm.cnt2,Tm.size]
  exact this
theorem Tm.size_kid {l:List Tm}{x:Tm}(h:x∈l):x.size<=Tm.sizeL l:=by
 induction l with
 |nil=>cases h
 |cons a r ih=>
  simp only[Tm.sizeL]
  rcases zaA.1 h with rfl|h
  ·omega
  ·have:=ih h;omega
end Go.AI
namespace Go.AI.Tryz
theorem qrA (t:Tm):t.Ok->t.size<=1000000000->PC CP 57 [t.v] (i64 (.ofNat t.cnt2)):=by
 induction t using Tm.ind with
 |h k n m i ks ihk=>
  intro ok hsz
  have ihk':∀x∈(Tm.mk k n m i ks).ks,x.Ok->x.size<=1000000000->PC CP 57 [x.v] (i64 (.ofNat x.cnt2)):=ihk
  clear ihk
  generalize Tm.mk k n m i ks=t at ok ihk' hsz⊢
  have hks:∀x∈t.ks,x.size<=1000000000:=fun x hx=>by have:=Tm.size_kid hx;rw[t.size_eq] at hsz;omega
  have hev:Ev fun n=>∀x∈t.ks,∀E s,cl (qag CP n E) 57 [x.v] s=some (i64 (.ofNat x.cnt2),s):=Ev.all t.ks fun x hx=>ihk' x hx (ok.kids x hx) (hks x hx)
  have hlen:=ok.len
  rw[qbM] at hlen
  refine PC.of (cf:=cf57) (np:=1) (args':=[t.v]) (r:=i64 (.ofNat t.cnt2)) (by kernel_rfl) (by kernel_rfl) rfl (by simp only[zap,qak];rfl) (by simp only[zam,qai];rfl) rfl (fun _=>rfl) ?_
  refine(hev.and (Ev.ge (t.ks.length+1))).mono fun n ⟨hn,hm⟩ E s _ _=>⟨s,(s57_eq _ _ _ _).trans ?_⟩
  unfold s57
  simp only[Tm.v_eq,qa0,zaa,qbH,qbq,qaj]
  unfold s57_1
  generalize hF:(fun(h17:zA->zA->Nat->List zA->List zA->ASt->Res) (x11 x12:zA) (g13:Nat) (c14 c15:List zA) (s16:ASt)=>_)=F
  have hend:i64 (.ofNat t.cnt2)=i64 (.ofNat (Tm.cnt2L 1 (t.ks.drop 0))):=by
   rw[t.cnt2_eq]
   rfl
  rw[hend]
  have key:∀k (j a g:Nat) (c:List zA),j<=t.ks.length->t.ks.length-j<k->a+Tm.sizeL (t.ks.drop j)<=1000000000->lp (fun _ _ _ _ _ _=>none) F k (i64 (.ofNat a)) (i64 (.ofNat j)) g [u8 t.k,i64 t.n,i64 t.m,i64 t.i,.p (.sl t.ks.length (Tm.cellsL t.ks))] c s=some (i64 (.ofNat (Tm.cnt2L a (t.ks.drop j))),s):=by
   intro k
   induction k with
   |zero=>intro j a g c _ h;omega
   |succ k ih=>
    intro j a g c hj hk hs
    rw[qa6]
    generalize lp _ _ k=L at ih⊢
    subst hF
    rcases zbi j t.ks.length with h|h
    ·have hkj:t.ks[j]? =some t.ks[j]:=zah h
     rw[qiz h] at hs
     have hc:=(t.ks[j].cnt2_ok).1
     rw[zaz h,Tm.cnt2L]
     simp only[qad,qao,qaG,qaw,zab,zaa,of_lt.2 h,decide_true,qaa,cond_true,Tm.ia_kid h,qab,Tm.ld_kid _ _ hkj,Tm.v_eq t.ks[j],qa0,qhj,za8]
     by_cases h7:600<a
     ·have h8:(600:Int)<Int.ofNat a:=by simp only[zaf];omega
      simp only[h8,h7,decide_true,cond_true,if_true]
      rfl
     ·have h8:¬((600:Int)<Int.ofNat a):=by simp only[zaf];omega
      have hn':=hn t.ks[j] (za4 h) E s
      rw[Tm.v_eq] at hn'
      have w2:qbb .i64 (Int.ofNat a+Int.ofNat t.ks[j].cnt2)=Int.ofNat (a+t.ks[j].cnt2):=by
       rw[qbu (by simp only[zaf];omega) (by simp only[zaf];omega)]
       simp only[zaf];omega
      simp only[h8,h7,decide_false,cond_false,qb7,zaa,hn',qab,qad,qaw,zab,w2,qaN (show j<9223372036854775807 by omega),if_false]
      exact ih (j+1) _ _ _ (by omega) (by omega) (by omega)
    ·have:j=t.ks.length:=by omega
     subst this
     have h3:¬(Int.ofNat t.ks.length<Int.ofNat t.ks.length):=fun h=>zaX _ (of_lt.1 h)
     simp only[qad,qao,zab,zaa,h3,decide_false,qaa,cond_false]
     rw[zbb]
     rfl
  refine key n 0 1 0 [] (zaY _) (by omega) ?_
  rw[t.size_eq] at hsz
  exact hsz
end Go.AI.Tryz
namespace Go.AI
def qlT (t:Tm):Bool:=decide (qhk 700 200 t<=700)
end Go.AI
namespace Go.AI.Tryz
def qn4 (a:Ar)(t:Tm):Bool:=qn2 a&&qlT t&&(decide (t.size<=60)||decide (600<t.size))
theorem qtt (t:Tm)(ok:t.Ok):PC CP 39 [t.v] (bl (qlT t)):=by
 refine PC.of (cf:=cf39) (np:=1) (args':=[t.v]) (r:=bl (qlT t)) (by kernel_rfl) (by kernel_rfl) rfl (by simp only[zap,qak];rfl) (by simp only[zam,qai];rfl) rfl (fun _=>rfl) ((qvr 200 (by decide) t ok).mono fun n h E s _ _=>⟨s,(s39_eq _ _ _ _).trans ?_⟩)
 have h':=h E s
 unfold s39
 have e:(!decide ((700:Int)<Int.ofNat (qhk 700 200 t)))=qlT t:=by
  unfold qlT
  rcases zbi 700 (qhk 700 200 t) with g|g
  ·have g':(700:Int)<Int.ofNat (qhk 700 200 t):=by simp only[zaf];omega
   simp only[g',decide_true,zak]
   exact(decide_eq_false (by omega)).symm
  ·have g':¬((700:Int)<Int.ofNat (qhk 700 200 t)):=by simp only[zaf];omega
   simp only[g',decide_false,zal]
   exact(decide_eq_true g).symm
 simp only[Tm.v_eq] at h'⊢
 simp only[qa0,qb7,zaa]
 rw[show(i64 200:zA)=i64 (.ofNat 200) from rfl,h']
 simp only[qab,qad,qbl,zab,zaa,e]
theorem qvu (a:Ar)(t:Tm)(oa:a.Ok)(ok:t.Ok):PC CP 11 [a.v,t.v] (bl (qn4 a t)):=by
 refine PC.of (cf:=cf11) (np:=2) (args':=[a.v,t.v]) (r:=bl (qn4 a t)) (by kernel_rfl) (by kernel_rfl) rfl (by simp only[zap,qak];rfl) (by simp only[zam,qai];rfl) rfl (fun _=>rfl) (((qlS a oa).and ((qtt t ok).and (qpA t ok))).mono fun n ⟨h1,h2,h3⟩ E s _ _=>⟨s,(s11_eq _ _ _ _ _).trans ?_⟩)
 have h1':=h1 E s
 have h2':=h2 E s
 have h3':=h3 E s
 unfold s11
 simp only[Tm.v_eq,Ar.v] at h1' h2' h3'⊢
 simp only[qa0,qaV,qb7,qbE,zaa,h1',h2',qab,qam,qaa,qaj]
 unfold s11_1 s11_0
 unfold qn4
 cases qn2 a
 ·rfl
 ·cases qlT t
  ·rfl
  ·simp only[zak,cond_false,qaa,qb7,zaa,h3',qab,qaj,qad,qbl,qaG,zab,zay]
   rcases zbi 60 t.size with g|g
   ·have e1:(60:Int)<Int.ofNat (min 601 t.size):=by simp only[zaf];omega
    have e2:decide ((600:Int)<Int.ofNat (min 601 t.size))=decide (600<t.size):=by
     simp only[zaf]
     exact decide_eq_decide.2 (by omega)
    have e3:¬t.size<=60:=by omega
    simp only[e1,decide_true,zak,cond_false,e2,e3,decide_false,za6]
   ·have e1:¬(60:Int)<Int.ofNat (min 601 t.size):=by simp only[zaf];omega
    simp only[e1,decide_false,zal,cond_true,g,decide_true,zbl]
end Go.AI.Tryz
