/- Part 5 of what YtlnejpgfiopjjaaGreatDuels leans on. -/
import Derived.Test.YtlnejpgfiopjjaaGreatChecked
import Derived.KernelRfl
import Derived.WalkKit
import Derived.WalkSpells
import Derived.WalkLawsBesides
import Derived.Test.YtlnejpgfiopjjaaGreatDuelsL1
import Derived.Test.YtlnejpgfiopjjaaGreatDuelsL2
import Derived.Test.YtlnejpgfiopjjaaGreatDuelsL3
import Derived.Test.YtlnejpgfiopjjaaGreatDuels1
set_option linter.all false
namespace LM.GZ
open Go LM Go.Proofs Go.RowKit
def HC:Hints:={ fresh:=[(99,1),(118,1)] }
def progC:List (Nat × LFunc):=[(99,cloneF (some 3) 56 [(.c (.str [])),(.c (.str [])),.nil]),(118,cloneF none 8 [(.c (.int .i64 0))])]
theorem mixed:Tryz.prog.follows .mixedOrders=true:=by kernel_rfl
theorem k99:cFunc Tryz.prog HC 99=some (cloneF (some 3) 56 [(.c (.str [])),(.c (.str [])),.nil]):=by kernel_rfl
theorem k118:cFunc Tryz.prog HC 118=some (cloneF none 8 [(.c (.int .i64 0))]):=by kernel_rfl
theorem okC:ProgOk Tryz.prog HC (mixL progC []):=mix_ok (L:=progC) (S:=[]) ⟨k99,k118,trivial⟩ trivial (fun _ _ h=>by simp[HC,lookupPrim] at h) (fun _ _ _ h=>by simp[HC,lookupPrim] at h) mixed
set_option maxRecDepth 100000 in
set_option maxHeartbeats 4000000 in
theorem nil99 (c:Nat) (w:World):Calls Tryz.prog 99 #[.slice none 0 c] w fun e w'=>e=.returned (.slice none 0 0)∧w'=w:=by
 go_enter Tryz.func99,Tryz.ntmps99
 go_wp2
 simp only[binOp,Sem.run_bind,LM.equal_nil Tryz.underlying30,Result.andThen_ok,Sem.run_pure,Option.isNone]
 go_wp2
 all_goals go_ret
 all_goals exact⟨rfl,rfl⟩
set_option maxRecDepth 100000 in
set_option maxHeartbeats 4000000 in
theorem emp99 (a:Addr) (c:Nat) (w:World):Calls Tryz.prog 99 #[.slice (some a) 0 c] w fun e w'=>∃ a',e=.returned (.slice a' 0 0)∧∃ o,w'=w.alloc o:=by
 go_enter Tryz.func99,Tryz.ntmps99
 go_wp2
 simp only[binOp,Sem.run_bind,LM.equal_nil Tryz.underlying30,Result.andThen_ok,Sem.run_pure,Option.isNone]
 go_wp2
 go_ret
 exact⟨_,rfl,_,rfl⟩
theorem fok99:FprimOk Tryz.prog 99 (cloneP (some 3) 56):=clone_fprim (cFunc_enters k99) okC (f:=99) (prog:=mixL progC []) rfl nil99 emp99
set_option maxRecDepth 100000 in
set_option maxHeartbeats 4000000 in
theorem nil118 (c:Nat) (w:World):Calls Tryz.prog 118 #[.slice none 0 c] w fun e w'=>e=.returned (.slice none 0 0)∧w'=w:=by
 go_enter Tryz.func118,Tryz.ntmps118
 go_wp2
 simp only[binOp,Sem.run_bind,LM.equal_nil Tryz.underlying45,Result.andThen_ok,Sem.run_pure,Option.isNone]
 go_wp2
 all_goals go_ret
 all_goals exact⟨rfl,rfl⟩
set_option maxRecDepth 100000 in
set_option maxHeartbeats 4000000 in
theorem emp118 (a:Addr) (c:Nat) (w:World):Calls Tryz.prog 118 #[.slice (some a) 0 c] w fun e w'=>∃ a',e=.returned (.slice a' 0 0)∧∃ o,w'=w.alloc o:=by
 go_enter Tryz.func118,Tryz.ntmps118
 go_wp2
 simp only[binOp,Sem.run_bind,LM.equal_nil Tryz.underlying45,Result.andThen_ok,Sem.run_pure,Option.isNone]
 go_wp2
 go_ret
 exact⟨_,rfl,_,rfl⟩
theorem fok118:FprimOk Tryz.prog 118 (cloneP none 8):=clone_fprim (cFunc_enters k118) okC (f:=118) (prog:=mixL progC []) rfl nil118 emp118
def HA:Hints:={ shared:=[77,170,68,141,189,190,213,257,136,187,211,212,256,293,181,209,254,255,292,301,98,164,169,203,242,150,152,196,197,198,215,216,217,218,219,220,221,222,223,224,225,226,227,228,229,230,231,232,233,234,235,236,237,258,259,260,261,262,263,264,265,266,267,268,269,270,271,272,273,274,275,276,294,296,173,162,163,284,299],live:=[217,275,276,197,198,215],fresh:=[(193,2),(194,2),(195,2)],constLit:=[(6,105)],openLit:=[(109,17),(12,20),(20,25),(20,38),(20,9),(20,10)],nilVar:=[(47,7)],noGc:=[(47,6),(87,2)],rowNew:=[(81,4)],rowTmp:=[(81,4),(216,1000000),(258,1),(259,1),(260,1),(261,1),(262,1),(263,1),(264,1),(265,1),(266,0),(267,1),(268,1),(269,1),(270,1),(271,0),(272,1),(272,6),(273,1),(274,1),(294,1),(296,0)],fprims:=[(99,1,cloneP (some 3) 56),(118,1,cloneP none 8)] }
theorem fpA:∀ f k g,lookupPrim f HA.fprims=some (k,g)→FprimOk Tryz.prog f g:=by
 intro f k g h
 simp only[HA,lookupPrim] at h
 by_cases e:99=f
 ·rw[if_pos e] at h; subst e; simp only[Option.some.injEq,Prod.mk.injEq] at h; obtain⟨rfl,rfl⟩:=h; exact fok99
 rw[if_neg e] at h; clear e
 by_cases e:118=f
 ·rw[if_pos e] at h; subst e; simp only[Option.some.injEq,Prod.mk.injEq] at h; obtain⟨rfl,rfl⟩:=h; exact fok118
 rw[if_neg e] at h; clear e
 cases h
theorem l81:cFunc Tryz.prog HA 81=some lf81:=by kernel_rfl
theorem l196:cFunc Tryz.prog HA 196=some lf196:=by kernel_rfl
theorem a3:cFunc Tryz.prog HA 3=decF F3∧(decF F3).isSome=true:=⟨by kernel_rfl,by kernel_rfl⟩
theorem a9:cFunc Tryz.prog HA 9=decF F9∧(decF F9).isSome=true:=⟨by kernel_rfl,by kernel_rfl⟩
theorem a11:cFunc Tryz.prog HA 11=decF F11∧(decF F11).isSome=true:=⟨by kernel_rfl,by kernel_rfl⟩
theorem a12:cFunc Tryz.prog HA 12=decF F12∧(decF F12).isSome=true:=⟨by kernel_rfl,by kernel_rfl⟩
theorem a13:cFunc Tryz.prog HA 13=decF F13∧(decF F13).isSome=true:=⟨by kernel_rfl,by kernel_rfl⟩
theorem a14:cFunc Tryz.prog HA 14=decF F14∧(decF F14).isSome=true:=⟨by kernel_rfl,by kernel_rfl⟩
theorem a26:cFunc Tryz.prog HA 26=decF F26∧(decF F26).isSome=true:=⟨by kernel_rfl,by kernel_rfl⟩
theorem a52:cFunc Tryz.prog HA 52=decF F52∧(decF F52).isSome=true:=⟨by kernel_rfl,by kernel_rfl⟩
theorem a56:cFunc Tryz.prog HA 56=decF F56∧(decF F56).isSome=true:=⟨by kernel_rfl,by kernel_rfl⟩
theorem a57:cFunc Tryz.prog HA 57=decF F57∧(decF F57).isSome=true:=⟨by kernel_rfl,by kernel_rfl⟩
theorem a58:cFunc Tryz.prog HA 58=decF F58∧(decF F58).isSome=true:=⟨by kernel_rfl,by kernel_rfl⟩
theorem a59:cFunc Tryz.prog HA 59=decF F59∧(decF F59).isSome=true:=⟨by kernel_rfl,by kernel_rfl⟩
theorem a60:cFunc Tryz.prog HA 60=decF F60∧(decF F60).isSome=true:=⟨by kernel_rfl,by kernel_rfl⟩
theorem a61:cFunc Tryz.prog HA 61=decF F61∧(decF F61).isSome=true:=⟨by kernel_rfl,by kernel_rfl⟩
theorem a62:cFunc Tryz.prog HA 62=decF F62∧(decF F62).isSome=true:=⟨by kernel_rfl,by kernel_rfl⟩
theorem a63:cFunc Tryz.prog HA 63=decF F63∧(decF F63).isSome=true:=⟨by kernel_rfl,by kernel_rfl⟩
theorem a64:cFunc Tryz.prog HA 64=decF F64∧(decF F64).isSome=true:=⟨by kernel_rfl,by kernel_rfl⟩
theorem a65:cFunc Tryz.prog HA 65=decF F65∧(decF F65).isSome=true:=⟨by kernel_rfl,by kernel_rfl⟩
theorem a73:cFunc Tryz.prog HA 73=decF F73∧(decF F73).isSome=true:=⟨by kernel_rfl,by kernel_rfl⟩
theorem a75:cFunc Tryz.prog HA 75=decF F75∧(decF F75).isSome=true:=⟨by kernel_rfl,by kernel_rfl⟩
theorem a80:cFunc Tryz.prog HA 80=decF F80∧(decF F80).isSome=true:=⟨by kernel_rfl,by kernel_rfl⟩
theorem a82:cFunc Tryz.prog HA 82=decF F82∧(decF F82).isSome=true:=⟨by kernel_rfl,by kernel_rfl⟩
theorem a85:cFunc Tryz.prog HA 85=decF F85∧(decF F85).isSome=true:=⟨by kernel_rfl,by kernel_rfl⟩
theorem a86:cFunc Tryz.prog HA 86=decF F86∧(decF F86).isSome=true:=⟨by kernel_rfl,by kernel_rfl⟩
theorem a96:cFunc Tryz.prog HA 96=decF F96∧(decF F96).isSome=true:=⟨by kernel_rfl,by kernel_rfl⟩
theorem a98:cFunc Tryz.prog HA 98=decF F98∧(decF F98).isSome=true:=⟨by kernel_rfl,by kernel_rfl⟩
theorem a117:cFunc Tryz.prog HA 117=decF F117∧(decF F117).isSome=true:=⟨by kernel_rfl,by kernel_rfl⟩
theorem a120:cFunc Tryz.prog HA 120=decF F120∧(decF F120).isSome=true:=⟨by kernel_rfl,by kernel_rfl⟩
theorem a123:cFunc Tryz.prog HA 123=decF F123∧(decF F123).isSome=true:=⟨by kernel_rfl,by kernel_rfl⟩
theorem a124:cFunc Tryz.prog HA 124=decF F124∧(decF F124).isSome=true:=⟨by kernel_rfl,by kernel_rfl⟩
theorem a125:cFunc Tryz.prog HA 125=decF F125∧(decF F125).isSome=true:=⟨by kernel_rfl,by kernel_rfl⟩
theorem a126:cFunc Tryz.prog HA 126=decF F126∧(decF F126).isSome=true:=⟨by kernel_rfl,by kernel_rfl⟩
theorem a127:cFunc Tryz.prog HA 127=decF F127∧(decF F127).isSome=true:=⟨by kernel_rfl,by kernel_rfl⟩
theorem a132:cFunc Tryz.prog HA 132=decF F132∧(decF F132).isSome=true:=⟨by kernel_rfl,by kernel_rfl⟩
theorem a133:cFunc Tryz.prog HA 133=decF F133∧(decF F133).isSome=true:=⟨by kernel_rfl,by kernel_rfl⟩
theorem a134:cFunc Tryz.prog HA 134=decF F134∧(decF F134).isSome=true:=⟨by kernel_rfl,by kernel_rfl⟩
theorem a135:cFunc Tryz.prog HA 135=decF F135∧(decF F135).isSome=true:=⟨by kernel_rfl,by kernel_rfl⟩
theorem a136:cFunc Tryz.prog HA 136=decF F136∧(decF F136).isSome=true:=⟨by kernel_rfl,by kernel_rfl⟩
theorem a137:cFunc Tryz.prog HA 137=decF F137∧(decF F137).isSome=true:=⟨by kernel_rfl,by kernel_rfl⟩
theorem a138:cFunc Tryz.prog HA 138=decF F138∧(decF F138).isSome=true:=⟨by kernel_rfl,by kernel_rfl⟩
theorem a148:cFunc Tryz.prog HA 148=decF F148∧(decF F148).isSome=true:=⟨by kernel_rfl,by kernel_rfl⟩
theorem a149:cFunc Tryz.prog HA 149=decF F149∧(decF F149).isSome=true:=⟨by kernel_rfl,by kernel_rfl⟩
theorem a150:cFunc Tryz.prog HA 150=decF F150∧(decF F150).isSome=true:=⟨by kernel_rfl,by kernel_rfl⟩
theorem a151:cFunc Tryz.prog HA 151=decF F151∧(decF F151).isSome=true:=⟨by kernel_rfl,by kernel_rfl⟩
theorem a152:cFunc Tryz.prog HA 152=decF F152∧(decF F152).isSome=true:=⟨by kernel_rfl,by kernel_rfl⟩
theorem a153:cFunc Tryz.prog HA 153=decF F153∧(decF F153).isSome=true:=⟨by kernel_rfl,by kernel_rfl⟩
theorem a154:cFunc Tryz.prog HA 154=decF F154∧(decF F154).isSome=true:=⟨by kernel_rfl,by kernel_rfl⟩
theorem a155:cFunc Tryz.prog HA 155=decF F155∧(decF F155).isSome=true:=⟨by kernel_rfl,by kernel_rfl⟩
theorem a156:cFunc Tryz.prog HA 156=decF F156∧(decF F156).isSome=true:=⟨by kernel_rfl,by kernel_rfl⟩
theorem a157:cFunc Tryz.prog HA 157=decF F157∧(decF F157).isSome=true:=⟨by kernel_rfl,by kernel_rfl⟩
theorem a158:cFunc Tryz.prog HA 158=decF F158∧(decF F158).isSome=true:=⟨by kernel_rfl,by kernel_rfl⟩
theorem a164:cFunc Tryz.prog HA 164=decF F164∧(decF F164).isSome=true:=⟨by kernel_rfl,by kernel_rfl⟩
theorem a176:cFunc Tryz.prog HA 176=decF F176∧(decF F176).isSome=true:=⟨by kernel_rfl,by kernel_rfl⟩
theorem a177:cFunc Tryz.prog HA 177=decF F177∧(decF F177).isSome=true:=⟨by kernel_rfl,by kernel_rfl⟩
theorem a183:cFunc Tryz.prog HA 183=decF F183∧(decF F183).isSome=true:=⟨by kernel_rfl,by kernel_rfl⟩
theorem a184:cFunc Tryz.prog HA 184=decF F184∧(decF F184).isSome=true:=⟨by kernel_rfl,by kernel_rfl⟩
theorem a185:cFunc Tryz.prog HA 185=decF F185∧(decF F185).isSome=true:=⟨by kernel_rfl,by kernel_rfl⟩
theorem a186:cFunc Tryz.prog HA 186=decF F186∧(decF F186).isSome=true:=⟨by kernel_rfl,by kernel_rfl⟩
theorem a187:cFunc Tryz.prog HA 187=decF F187∧(decF F187).isSome=true:=⟨by kernel_rfl,by kernel_rfl⟩
theorem a191:cFunc Tryz.prog HA 191=decF F191∧(decF F191).isSome=true:=⟨by kernel_rfl,by kernel_rfl⟩
theorem a192:cFunc Tryz.prog HA 192=decF F192∧(decF F192).isSome=true:=⟨by kernel_rfl,by kernel_rfl⟩
theorem a193:cFunc Tryz.prog HA 193=decF F193∧(decF F193).isSome=true:=⟨by kernel_rfl,by kernel_rfl⟩
theorem a194:cFunc Tryz.prog HA 194=decF F194∧(decF F194).isSome=true:=⟨by kernel_rfl,by kernel_rfl⟩
theorem a195:cFunc Tryz.prog HA 195=decF F195∧(decF F195).isSome=true:=⟨by kernel_rfl,by kernel_rfl⟩
theorem a197:cFunc Tryz.prog HA 197=decF F197∧(decF F197).isSome=true:=⟨by kernel_rfl,by kernel_rfl⟩
theorem a198:cFunc Tryz.prog HA 198=decF F198∧(decF F198).isSome=true:=⟨by kernel_rfl,by kernel_rfl⟩
theorem a199:cFunc Tryz.prog HA 199=decF F199∧(decF F199).isSome=true:=⟨by kernel_rfl,by kernel_rfl⟩
theorem a200:cFunc Tryz.prog HA 200=decF F200∧(decF F200).isSome=true:=⟨by kernel_rfl,by kernel_rfl⟩
theorem a210:cFunc Tryz.prog HA 210=decF F210∧(decF F210).isSome=true:=⟨by kernel_rfl,by kernel_rfl⟩
theorem a211:cFunc Tryz.prog HA 211=decF F211∧(decF F211).isSome=true:=⟨by kernel_rfl,by kernel_rfl⟩
theorem a212:cFunc Tryz.prog HA 212=decF F212∧(decF F212).isSome=true:=⟨by kernel_rfl,by kernel_rfl⟩
theorem a214:cFunc Tryz.prog HA 214=decF F214∧(decF F214).isSome=true:=⟨by kernel_rfl,by kernel_rfl⟩
theorem a215:cFunc Tryz.prog HA 215=decF F215∧(decF F215).isSome=true:=⟨by kernel_rfl,by kernel_rfl⟩
theorem a216:cFunc Tryz.prog HA 216=decF F216∧(decF F216).isSome=true:=⟨by kernel_rfl,by kernel_rfl⟩
theorem a217:cFunc Tryz.prog HA 217=decF F217∧(decF F217).isSome=true:=⟨by kernel_rfl,by kernel_rfl⟩
theorem a218:cFunc Tryz.prog HA 218=decF F218∧(decF F218).isSome=true:=⟨by kernel_rfl,by kernel_rfl⟩
theorem a219:cFunc Tryz.prog HA 219=decF F219∧(decF F219).isSome=true:=⟨by kernel_rfl,by kernel_rfl⟩
theorem a220:cFunc Tryz.prog HA 220=decF F220∧(decF F220).isSome=true:=⟨by kernel_rfl,by kernel_rfl⟩
theorem a221:cFunc Tryz.prog HA 221=decF F221∧(decF F221).isSome=true:=⟨by kernel_rfl,by kernel_rfl⟩
theorem a222:cFunc Tryz.prog HA 222=decF F222∧(decF F222).isSome=true:=⟨by kernel_rfl,by kernel_rfl⟩
theorem a223:cFunc Tryz.prog HA 223=decF F223∧(decF F223).isSome=true:=⟨by kernel_rfl,by kernel_rfl⟩
theorem a224:cFunc Tryz.prog HA 224=decF F224∧(decF F224).isSome=true:=⟨by kernel_rfl,by kernel_rfl⟩
theorem a225:cFunc Tryz.prog HA 225=decF F225∧(decF F225).isSome=true:=⟨by kernel_rfl,by kernel_rfl⟩
theorem a226:cFunc Tryz.prog HA 226=decF F226∧(decF F226).isSome=true:=⟨by kernel_rfl,by kernel_rfl⟩
theorem a227:cFunc Tryz.prog HA 227=decF F227∧(decF F227).isSome=true:=⟨by kernel_rfl,by kernel_rfl⟩
theorem a228:cFunc Tryz.prog HA 228=decF F228∧(decF F228).isSome=true:=⟨by kernel_rfl,by kernel_rfl⟩
theorem a229:cFunc Tryz.prog HA 229=decF F229∧(decF F229).isSome=true:=⟨by kernel_rfl,by kernel_rfl⟩
theorem a230:cFunc Tryz.prog HA 230=decF F230∧(decF F230).isSome=true:=⟨by kernel_rfl,by kernel_rfl⟩
theorem a231:cFunc Tryz.prog HA 231=decF F231∧(decF F231).isSome=true:=⟨by kernel_rfl,by kernel_rfl⟩
theorem a232:cFunc Tryz.prog HA 232=decF F232∧(decF F232).isSome=true:=⟨by kernel_rfl,by kernel_rfl⟩
theorem a233:cFunc Tryz.prog HA 233=decF F233∧(decF F233).isSome=true:=⟨by kernel_rfl,by kernel_rfl⟩
theorem a234:cFunc Tryz.prog HA 234=decF F234∧(decF F234).isSome=true:=⟨by kernel_rfl,by kernel_rfl⟩
theorem a235:cFunc Tryz.prog HA 235=decF F235∧(decF F235).isSome=true:=⟨by kernel_rfl,by kernel_rfl⟩
theorem a236:cFunc Tryz.prog HA 236=decF F236∧(decF F236).isSome=true:=⟨by kernel_rfl,by kernel_rfl⟩
theorem a237:cFunc Tryz.prog HA 237=decF F237∧(decF F237).isSome=true:=⟨by kernel_rfl,by kernel_rfl⟩
theorem a238:cFunc Tryz.prog HA 238=decF F238∧(decF F238).isSome=true:=⟨by kernel_rfl,by kernel_rfl⟩
theorem a239:cFunc Tryz.prog HA 239=decF F239∧(decF F239).isSome=true:=⟨by kernel_rfl,by kernel_rfl⟩
theorem a240:cFunc Tryz.prog HA 240=decF F240∧(decF F240).isSome=true:=⟨by kernel_rfl,by kernel_rfl⟩
theorem a241:cFunc Tryz.prog HA 241=decF F241∧(decF F241).isSome=true:=⟨by kernel_rfl,by kernel_rfl⟩
theorem a256:cFunc Tryz.prog HA 256=decF F256∧(decF F256).isSome=true:=⟨by kernel_rfl,by kernel_rfl⟩
theorem a258:cFunc Tryz.prog HA 258=decF F258∧(decF F258).isSome=true:=⟨by kernel_rfl,by kernel_rfl⟩
theorem a259:cFunc Tryz.prog HA 259=decF F259∧(decF F259).isSome=true:=⟨by kernel_rfl,by kernel_rfl⟩
theorem a260:cFunc Tryz.prog HA 260=decF F260∧(decF F260).isSome=true:=⟨by kernel_rfl,by kernel_rfl⟩
theorem a261:cFunc Tryz.prog HA 261=decF F261∧(decF F261).isSome=true:=⟨by kernel_rfl,by kernel_rfl⟩
theorem a262:cFunc Tryz.prog HA 262=decF F262∧(decF F262).isSome=true:=⟨by kernel_rfl,by kernel_rfl⟩
theorem a263:cFunc Tryz.prog HA 263=decF F263∧(decF F263).isSome=true:=⟨by kernel_rfl,by kernel_rfl⟩
theorem a264:cFunc Tryz.prog HA 264=decF F264∧(decF F264).isSome=true:=⟨by kernel_rfl,by kernel_rfl⟩
theorem a265:cFunc Tryz.prog HA 265=decF F265∧(decF F265).isSome=true:=⟨by kernel_rfl,by kernel_rfl⟩
theorem a266:cFunc Tryz.prog HA 266=decF F266∧(decF F266).isSome=true:=⟨by kernel_rfl,by kernel_rfl⟩
theorem a267:cFunc Tryz.prog HA 267=decF F267∧(decF F267).isSome=true:=⟨by kernel_rfl,by kernel_rfl⟩
theorem a268:cFunc Tryz.prog HA 268=decF F268∧(decF F268).isSome=true:=⟨by kernel_rfl,by kernel_rfl⟩
theorem a269:cFunc Tryz.prog HA 269=decF F269∧(decF F269).isSome=true:=⟨by kernel_rfl,by kernel_rfl⟩
theorem a270:cFunc Tryz.prog HA 270=decF F270∧(decF F270).isSome=true:=⟨by kernel_rfl,by kernel_rfl⟩
theorem a271:cFunc Tryz.prog HA 271=decF F271∧(decF F271).isSome=true:=⟨by kernel_rfl,by kernel_rfl⟩
theorem a272:cFunc Tryz.prog HA 272=decF F272∧(decF F272).isSome=true:=⟨by kernel_rfl,by kernel_rfl⟩
theorem a273:cFunc Tryz.prog HA 273=decF F273∧(decF F273).isSome=true:=⟨by kernel_rfl,by kernel_rfl⟩
theorem a274:cFunc Tryz.prog HA 274=decF F274∧(decF F274).isSome=true:=⟨by kernel_rfl,by kernel_rfl⟩
theorem a275:cFunc Tryz.prog HA 275=decF F275∧(decF F275).isSome=true:=⟨by kernel_rfl,by kernel_rfl⟩
theorem a276:cFunc Tryz.prog HA 276=decF F276∧(decF F276).isSome=true:=⟨by kernel_rfl,by kernel_rfl⟩
theorem a277:cFunc Tryz.prog HA 277=decF F277∧(decF F277).isSome=true:=⟨by kernel_rfl,by kernel_rfl⟩
theorem a278:cFunc Tryz.prog HA 278=decF F278∧(decF F278).isSome=true:=⟨by kernel_rfl,by kernel_rfl⟩
theorem a293:cFunc Tryz.prog HA 293=decF F293∧(decF F293).isSome=true:=⟨by kernel_rfl,by kernel_rfl⟩
theorem a294:cFunc Tryz.prog HA 294=decF F294∧(decF F294).isSome=true:=⟨by kernel_rfl,by kernel_rfl⟩
theorem a295:cFunc Tryz.prog HA 295=decF F295∧(decF F295).isSome=true:=⟨by kernel_rfl,by kernel_rfl⟩
theorem a296:cFunc Tryz.prog HA 296=decF F296∧(decF F296).isSome=true:=⟨by kernel_rfl,by kernel_rfl⟩
theorem a297:cFunc Tryz.prog HA 297=decF F297∧(decF F297).isSome=true:=⟨by kernel_rfl,by kernel_rfl⟩
theorem a10:cFunc Tryz.prog HA 10=decF F10∧(decF F10).isSome=true:=⟨by kernel_rfl,by kernel_rfl⟩
theorem a99:cFunc Tryz.prog HA 99=decF (.fprim 1 (cloneP (some 3) 56))∧(decF (.fprim 1 (cloneP (some 3) 56))).isSome=true:=⟨rfl,rfl⟩
theorem a118:cFunc Tryz.prog HA 118=decF (.fprim 1 (cloneP none 8))∧(decF (.fprim 1 (cloneP none 8))).isSome=true:=⟨rfl,rfl⟩
def tableA:List (Nat × SFunc):=table0++[(10,F10)]
set_option maxRecDepth 100000 in
theorem tabA:TabOk Tryz.prog HA tableA:=TabOk.append (l:=table0) ⟨a3,a9,a11,a12,a13,a14,a26,a52,a56,a57,a58,a59,a60,a61,a62,a63,a64,a65,a73,a75,a80,a82,a85,a86,a96,a98,a99,a117,a118,a120,a123,a124,a125,a126,a127,a132,a133,a134,a135,a136,a137,a138,a148,a149,a150,a151,a152,a153,a154,a155,a156,a157,a158,a164,a176,a177,a183,a184,a185,a186,a187,a191,a192,a193,a194,a195,a197,a198,a199,a200,a210,a211,a212,a214,a215,a216,a217,a218,a219,a220,a221,a222,a223,a224,a225,a226,a227,a228,a229,a230,a231,a232,a233,a234,a235,a236,a237,a238,a239,a240,a241,a256,a258,a259,a260,a261,a262,a263,a264,a265,a266,a267,a268,a269,a270,a271,a272,a273,a274,a275,a276,a277,a278,a293,a294,a295,a296,a297,trivial⟩ ⟨a10,trivial⟩
def progQ:Nat→Option LFunc:=mixL lprog tableA
theorem okA:ProgOk Tryz.prog HA progQ:=mix_ok ⟨l81,l196,trivial⟩ tabA (fun _ _ h=>by simp[HA,lookupPrim] at h) fpA mixed
theorem readA:Readable (lookupPrim · tableA):=tab_readable tabA
instance:Has (lookupPrim · tableA):=⟨fun _ _ h=>lookup_append h⟩
set_option maxRecDepth 100000 in
theorem fn_Q {f:Nat} {args:List CV} {v:CV} (h:fn (lookupPrim · tableA) f args=some v):∃ n,pcall progQ n f args=some v:=fn_mix readA (by
 intro f x hx
 simp only[lprog,lookupPrim] at hx
 by_cases e:81=f
 ·subst e; rfl
 rw[if_neg e] at hx; clear e
 by_cases e:196=f
 ·subst e; rfl
 rw[if_neg e] at hx; clear e
 cases hx) h
theorem en10:Enters Tryz.prog 10:=tab_enters a10 rfl rfl
theorem en81:Enters Tryz.prog 81:=cFunc_enters l81
def primsF:List (Nat × (List CV→Option CV)):=[(81,(fun args=>pcall progQ 3000 81 args))]
def HF:Hints:={ HA with prims:=primsF }
theorem prF:∀ f g,lookupPrim f HF.prims=some g→PrimOk Tryz.prog f g:=by
 intro f g h
 simp only[HF,primsF,lookupPrim] at h
 by_cases e:81=f
 ·rw[if_pos e] at h; subst e; simp only[Option.some.injEq] at h; subst h; exact primOk_of_pcall okA en81
 rw[if_neg e] at h; clear e
 cases h
def tableF:List (Nat × SFunc):=tableA++[(81,.prim (fun args=>pcall progQ 3000 81 args))]
set_option maxRecDepth 100000 in
theorem tabF:TabOk Tryz.prog HF tableF:=TabOk.append (l:=tableA) (tabA.prims rfl (by kernel_rfl)) ⟨⟨rfl,rfl⟩,trivial⟩
def progS:Nat→Option SFunc:=fun f=>lookupPrim f tableF
def progF:Nat→Option LFunc:=progL progS
theorem okF:ProgOk Tryz.prog HF progF:=tab_ok tabF prF fpA mixed
theorem readF:Readable progS:=tab_readable tabF
end LM.GZ
