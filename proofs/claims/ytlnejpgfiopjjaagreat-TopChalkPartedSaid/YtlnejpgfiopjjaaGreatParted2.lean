/- Part 5 of what YtlnejpgfiopjjaaGreatParted leans on. -/
import Derived.Test.YtlnejpgfiopjjaaGreatChecked
import Derived.KernelRfl
import Derived.WalkKit
import Derived.WalkSpells
import Derived.WalkLawsBesides
import Derived.Test.YtlnejpgfiopjjaaGreatPartedL1
import Derived.Test.YtlnejpgfiopjjaaGreatPartedL2
import Derived.Test.YtlnejpgfiopjjaaGreatPartedL3
import Derived.Test.YtlnejpgfiopjjaaGreatParted1
set_option linter.all false
namespace LM.GZ
open Go LM Go.Proofs Go.RowKit
def HC:Hints:={ fresh:=[(99,1),(118,1)] }
def vF:List (Nat × LFunc):=[(99,nx (some 3) 56 [(.c (.str [])),(.c (.str [])),.nil]),(118,nx none 8 [(.c (.int .i64 0))])]
theorem mixed:Tryz.prog.follows .mixedOrders=true:=by kernel_rfl
theorem k99:cFunc Tryz.prog HC 99=some (nx (some 3) 56 [(.c (.str [])),(.c (.str [])),.nil]):=by kernel_rfl
theorem WQ:cFunc Tryz.prog HC 118=some (nx none 8 [(.c (.int .i64 0))]):=by kernel_rfl
theorem okC:ProgOk Tryz.prog HC (j9 vF []):=yX (L:=vF) (S:=[]) ⟨k99,WQ,trivial⟩ trivial (fun _ _ h=>by simp[HC,lookupPrim] at h) (fun _ _ _ h=>by simp[HC,lookupPrim] at h) mixed
set_option maxRecDepth 100000 in
set_option maxHeartbeats 4000000 in
theorem Yd (c:Nat) (w:World):Calls Tryz.prog 99 #[.slice none 0 c] w fun e w'=>e=.returned (.slice none 0 0)∧w'=w:=by
 go_enter Tryz.func99,Tryz.ntmps99
 go_wp2
 simp only[binOp,Sem.run_bind,LM.equal_nil Tryz.underlying30,Result.andThen_ok,Sem.run_pure,Option.isNone]
 go_wp2
 all_goals go_ret
 all_goals exact⟨rfl,rfl⟩
set_option maxRecDepth 100000 in
set_option maxHeartbeats 4000000 in
theorem YX (a:Addr) (c:Nat) (w:World):Calls Tryz.prog 99 #[.slice (some a) 0 c] w fun e w'=>∃ a',e=.returned (.slice a' 0 0)∧∃ o,w'=w.alloc o:=by
 go_enter Tryz.func99,Tryz.ntmps99
 go_wp2
 simp only[binOp,Sem.run_bind,LM.equal_nil Tryz.underlying30,Result.andThen_ok,Sem.run_pure,Option.isNone]
 go_wp2
 go_ret
 exact⟨_,rfl,_,rfl⟩
theorem Ys:FprimOk Tryz.prog 99 (dp (some 3) 56):=oM (kf k99) okC (f:=99) (prog:=j9 vF []) rfl Yd YX
set_option maxRecDepth 100000 in
set_option maxHeartbeats 4000000 in
theorem TT (c:Nat) (w:World):Calls Tryz.prog 118 #[.slice none 0 c] w fun e w'=>e=.returned (.slice none 0 0)∧w'=w:=by
 go_enter Tryz.func118,Tryz.ntmps118
 go_wp2
 simp only[binOp,Sem.run_bind,LM.equal_nil Tryz.underlying45,Result.andThen_ok,Sem.run_pure,Option.isNone]
 go_wp2
 all_goals go_ret
 all_goals exact⟨rfl,rfl⟩
set_option maxRecDepth 100000 in
set_option maxHeartbeats 4000000 in
theorem Uw (a:Addr) (c:Nat) (w:World):Calls Tryz.prog 118 #[.slice (some a) 0 c] w fun e w'=>∃ a',e=.returned (.slice a' 0 0)∧∃ o,w'=w.alloc o:=by
 go_enter Tryz.func118,Tryz.ntmps118
 go_wp2
 simp only[binOp,Sem.run_bind,LM.equal_nil Tryz.underlying45,Result.andThen_ok,Sem.run_pure,Option.isNone]
 go_wp2
 go_ret
 exact⟨_,rfl,_,rfl⟩
theorem T6:FprimOk Tryz.prog 118 (dp none 8):=oM (kf WQ) okC (f:=118) (prog:=j9 vF []) rfl TT Uw
def HA:Hints:={ shared:=[77,170,68,141,189,190,213,257,136,187,211,212,256,293,181,209,254,255,292,301,98,164,169,203,242,150,152,196,197,198,215,216,217,218,219,220,221,222,223,224,225,226,227,228,229,230,231,232,233,234,235,236,237,258,259,260,261,262,263,264,265,266,267,268,269,270,271,272,273,274,275,276,294,296,173,162,163,284,299],live:=[217,275,276,197,198,215],fresh:=[(193,2),(194,2),(195,2)],constLit:=[(6,105)],openLit:=[(109,17),(12,20),(20,25),(20,38),(20,9),(20,10)],nilVar:=[(47,7)],noGc:=[(47,6),(87,2)],rowNew:=[(81,4)],rowTmp:=[(81,4),(216,1000000),(258,1),(259,1),(260,1),(261,1),(262,1),(263,1),(264,1),(265,1),(266,0),(267,1),(268,1),(269,1),(270,1),(271,0),(272,1),(272,6),(273,1),(274,1),(294,1),(296,0)],fprims:=[(99,1,dp (some 3) 56),(118,1,dp none 8)] }
theorem fpA:∀ f k g,lookupPrim f HA.fprims=some (k,g)→FprimOk Tryz.prog f g:=by
 intro f k g h
 simp only[HA,lookupPrim] at h
 by_cases e:99=f
 ·rw[if_pos e] at h; subst e; simp only[Option.some.injEq,Prod.mk.injEq] at h; obtain⟨rfl,rfl⟩:=h; exact Ys
 rw[if_neg e] at h; clear e
 by_cases e:118=f
 ·rw[if_pos e] at h; subst e; simp only[Option.some.injEq,Prod.mk.injEq] at h; obtain⟨rfl,rfl⟩:=h; exact T6
 rw[if_neg e] at h; clear e
 cases h
theorem l81:cFunc Tryz.prog HA 81=some Ow:=by kernel_rfl
theorem ab4:cFunc Tryz.prog HA 196=some Hm:=by kernel_rfl
theorem a4:cFunc Tryz.prog HA 4=aa F4∧(aa F4).isSome=true:=⟨by kernel_rfl,by kernel_rfl⟩
theorem a11:cFunc Tryz.prog HA 11=aa F11∧(aa F11).isSome=true:=⟨by kernel_rfl,by kernel_rfl⟩
theorem a12:cFunc Tryz.prog HA 12=aa F12∧(aa F12).isSome=true:=⟨by kernel_rfl,by kernel_rfl⟩
theorem a14:cFunc Tryz.prog HA 14=aa F14∧(aa F14).isSome=true:=⟨by kernel_rfl,by kernel_rfl⟩
theorem a15:cFunc Tryz.prog HA 15=aa F15∧(aa F15).isSome=true:=⟨by kernel_rfl,by kernel_rfl⟩
theorem a16:cFunc Tryz.prog HA 16=aa F16∧(aa F16).isSome=true:=⟨by kernel_rfl,by kernel_rfl⟩
theorem a17:cFunc Tryz.prog HA 17=aa F17∧(aa F17).isSome=true:=⟨by kernel_rfl,by kernel_rfl⟩
theorem a18:cFunc Tryz.prog HA 18=aa F18∧(aa F18).isSome=true:=⟨by kernel_rfl,by kernel_rfl⟩
theorem a19:cFunc Tryz.prog HA 19=aa F19∧(aa F19).isSome=true:=⟨by kernel_rfl,by kernel_rfl⟩
theorem a20:cFunc Tryz.prog HA 20=aa F20∧(aa F20).isSome=true:=⟨by kernel_rfl,by kernel_rfl⟩
theorem a21:cFunc Tryz.prog HA 21=aa F21∧(aa F21).isSome=true:=⟨by kernel_rfl,by kernel_rfl⟩
theorem a22:cFunc Tryz.prog HA 22=aa F22∧(aa F22).isSome=true:=⟨by kernel_rfl,by kernel_rfl⟩
theorem a23:cFunc Tryz.prog HA 23=aa F23∧(aa F23).isSome=true:=⟨by kernel_rfl,by kernel_rfl⟩
theorem a24:cFunc Tryz.prog HA 24=aa F24∧(aa F24).isSome=true:=⟨by kernel_rfl,by kernel_rfl⟩
theorem a25:cFunc Tryz.prog HA 25=aa F25∧(aa F25).isSome=true:=⟨by kernel_rfl,by kernel_rfl⟩
theorem a26:cFunc Tryz.prog HA 26=aa F26∧(aa F26).isSome=true:=⟨by kernel_rfl,by kernel_rfl⟩
theorem a27:cFunc Tryz.prog HA 27=aa F27∧(aa F27).isSome=true:=⟨by kernel_rfl,by kernel_rfl⟩
theorem a36:cFunc Tryz.prog HA 36=aa F36∧(aa F36).isSome=true:=⟨by kernel_rfl,by kernel_rfl⟩
theorem a52:cFunc Tryz.prog HA 52=aa F52∧(aa F52).isSome=true:=⟨by kernel_rfl,by kernel_rfl⟩
theorem a56:cFunc Tryz.prog HA 56=aa F56∧(aa F56).isSome=true:=⟨by kernel_rfl,by kernel_rfl⟩
theorem a57:cFunc Tryz.prog HA 57=aa F57∧(aa F57).isSome=true:=⟨by kernel_rfl,by kernel_rfl⟩
theorem a58:cFunc Tryz.prog HA 58=aa F58∧(aa F58).isSome=true:=⟨by kernel_rfl,by kernel_rfl⟩
theorem a59:cFunc Tryz.prog HA 59=aa F59∧(aa F59).isSome=true:=⟨by kernel_rfl,by kernel_rfl⟩
theorem a60:cFunc Tryz.prog HA 60=aa F60∧(aa F60).isSome=true:=⟨by kernel_rfl,by kernel_rfl⟩
theorem a61:cFunc Tryz.prog HA 61=aa F61∧(aa F61).isSome=true:=⟨by kernel_rfl,by kernel_rfl⟩
theorem a63:cFunc Tryz.prog HA 63=aa F63∧(aa F63).isSome=true:=⟨by kernel_rfl,by kernel_rfl⟩
theorem a64:cFunc Tryz.prog HA 64=aa F64∧(aa F64).isSome=true:=⟨by kernel_rfl,by kernel_rfl⟩
theorem a65:cFunc Tryz.prog HA 65=aa F65∧(aa F65).isSome=true:=⟨by kernel_rfl,by kernel_rfl⟩
theorem a66:cFunc Tryz.prog HA 66=aa F66∧(aa F66).isSome=true:=⟨by kernel_rfl,by kernel_rfl⟩
theorem a67:cFunc Tryz.prog HA 67=aa F67∧(aa F67).isSome=true:=⟨by kernel_rfl,by kernel_rfl⟩
theorem a68:cFunc Tryz.prog HA 68=aa F68∧(aa F68).isSome=true:=⟨by kernel_rfl,by kernel_rfl⟩
theorem a69:cFunc Tryz.prog HA 69=aa F69∧(aa F69).isSome=true:=⟨by kernel_rfl,by kernel_rfl⟩
theorem a70:cFunc Tryz.prog HA 70=aa F70∧(aa F70).isSome=true:=⟨by kernel_rfl,by kernel_rfl⟩
theorem a71:cFunc Tryz.prog HA 71=aa F71∧(aa F71).isSome=true:=⟨by kernel_rfl,by kernel_rfl⟩
theorem a72:cFunc Tryz.prog HA 72=aa F72∧(aa F72).isSome=true:=⟨by kernel_rfl,by kernel_rfl⟩
theorem a73:cFunc Tryz.prog HA 73=aa F73∧(aa F73).isSome=true:=⟨by kernel_rfl,by kernel_rfl⟩
theorem a74:cFunc Tryz.prog HA 74=aa F74∧(aa F74).isSome=true:=⟨by kernel_rfl,by kernel_rfl⟩
theorem a75:cFunc Tryz.prog HA 75=aa F75∧(aa F75).isSome=true:=⟨by kernel_rfl,by kernel_rfl⟩
theorem a76:cFunc Tryz.prog HA 76=aa F76∧(aa F76).isSome=true:=⟨by kernel_rfl,by kernel_rfl⟩
theorem a77:cFunc Tryz.prog HA 77=aa F77∧(aa F77).isSome=true:=⟨by kernel_rfl,by kernel_rfl⟩
theorem a78:cFunc Tryz.prog HA 78=aa F78∧(aa F78).isSome=true:=⟨by kernel_rfl,by kernel_rfl⟩
theorem a79:cFunc Tryz.prog HA 79=aa F79∧(aa F79).isSome=true:=⟨by kernel_rfl,by kernel_rfl⟩
theorem a80:cFunc Tryz.prog HA 80=aa F80∧(aa F80).isSome=true:=⟨by kernel_rfl,by kernel_rfl⟩
theorem a82:cFunc Tryz.prog HA 82=aa F82∧(aa F82).isSome=true:=⟨by kernel_rfl,by kernel_rfl⟩
theorem a85:cFunc Tryz.prog HA 85=aa F85∧(aa F85).isSome=true:=⟨by kernel_rfl,by kernel_rfl⟩
theorem a86:cFunc Tryz.prog HA 86=aa F86∧(aa F86).isSome=true:=⟨by kernel_rfl,by kernel_rfl⟩
theorem a96:cFunc Tryz.prog HA 96=aa F96∧(aa F96).isSome=true:=⟨by kernel_rfl,by kernel_rfl⟩
theorem a98:cFunc Tryz.prog HA 98=aa F98∧(aa F98).isSome=true:=⟨by kernel_rfl,by kernel_rfl⟩
theorem Xe:cFunc Tryz.prog HA 117=aa NY∧(aa NY).isSome=true:=⟨by kernel_rfl,by kernel_rfl⟩
theorem Wz:cFunc Tryz.prog HA 120=aa Bl∧(aa Bl).isSome=true:=⟨by kernel_rfl,by kernel_rfl⟩
theorem Ww:cFunc Tryz.prog HA 123=aa zY∧(aa zY).isSome=true:=⟨by kernel_rfl,by kernel_rfl⟩
theorem Vp:cFunc Tryz.prog HA 124=aa Mb∧(aa Mb).isSome=true:=⟨by kernel_rfl,by kernel_rfl⟩
theorem WA:cFunc Tryz.prog HA 125=aa A7∧(aa A7).isSome=true:=⟨by kernel_rfl,by kernel_rfl⟩
theorem Ve:cFunc Tryz.prog HA 126=aa Bo∧(aa Bo).isSome=true:=⟨by kernel_rfl,by kernel_rfl⟩
theorem Wr:cFunc Tryz.prog HA 127=aa OT∧(aa OT).isSome=true:=⟨by kernel_rfl,by kernel_rfl⟩
theorem Wy:cFunc Tryz.prog HA 132=aa AW∧(aa AW).isSome=true:=⟨by kernel_rfl,by kernel_rfl⟩
theorem Sx:cFunc Tryz.prog HA 133=aa v8∧(aa v8).isSome=true:=⟨by kernel_rfl,by kernel_rfl⟩
theorem SH:cFunc Tryz.prog HA 134=aa NK∧(aa NK).isSome=true:=⟨by kernel_rfl,by kernel_rfl⟩
theorem Wd:cFunc Tryz.prog HA 135=aa MH∧(aa MH).isSome=true:=⟨by kernel_rfl,by kernel_rfl⟩
theorem S8:cFunc Tryz.prog HA 136=aa MQ∧(aa MQ).isSome=true:=⟨by kernel_rfl,by kernel_rfl⟩
theorem SV:cFunc Tryz.prog HA 137=aa ML∧(aa ML).isSome=true:=⟨by kernel_rfl,by kernel_rfl⟩
theorem Vf:cFunc Tryz.prog HA 138=aa L6∧(aa L6).isSome=true:=⟨by kernel_rfl,by kernel_rfl⟩
theorem UH:cFunc Tryz.prog HA 139=aa zh∧(aa zh).isSome=true:=⟨by kernel_rfl,by kernel_rfl⟩
theorem Uo:cFunc Tryz.prog HA 140=aa vS∧(aa vS).isSome=true:=⟨by kernel_rfl,by kernel_rfl⟩
theorem WK:cFunc Tryz.prog HA 141=aa y4∧(aa y4).isSome=true:=⟨by kernel_rfl,by kernel_rfl⟩
theorem TB:cFunc Tryz.prog HA 142=aa wl∧(aa wl).isSome=true:=⟨by kernel_rfl,by kernel_rfl⟩
theorem Uz:cFunc Tryz.prog HA 143=aa Bb∧(aa Bb).isSome=true:=⟨by kernel_rfl,by kernel_rfl⟩
theorem V6:cFunc Tryz.prog HA 144=aa Bh∧(aa Bh).isSome=true:=⟨by kernel_rfl,by kernel_rfl⟩
theorem Ul:cFunc Tryz.prog HA 145=aa yA∧(aa yA).isSome=true:=⟨by kernel_rfl,by kernel_rfl⟩
theorem WP:cFunc Tryz.prog HA 146=aa wM∧(aa wM).isSome=true:=⟨by kernel_rfl,by kernel_rfl⟩
theorem UK:cFunc Tryz.prog HA 147=aa BC∧(aa BC).isSome=true:=⟨by kernel_rfl,by kernel_rfl⟩
theorem Xk:cFunc Tryz.prog HA 148=aa zX∧(aa zX).isSome=true:=⟨by kernel_rfl,by kernel_rfl⟩
theorem WS:cFunc Tryz.prog HA 149=aa xY∧(aa xY).isSome=true:=⟨by kernel_rfl,by kernel_rfl⟩
theorem V9:cFunc Tryz.prog HA 150=aa zC∧(aa zC).isSome=true:=⟨by kernel_rfl,by kernel_rfl⟩
theorem Tw:cFunc Tryz.prog HA 151=aa xA∧(aa xA).isSome=true:=⟨by kernel_rfl,by kernel_rfl⟩
theorem UN:cFunc Tryz.prog HA 152=aa xL∧(aa xL).isSome=true:=⟨by kernel_rfl,by kernel_rfl⟩
theorem SN:cFunc Tryz.prog HA 153=aa Bn∧(aa Bn).isSome=true:=⟨by kernel_rfl,by kernel_rfl⟩
theorem VV:cFunc Tryz.prog HA 154=aa xO∧(aa xO).isSome=true:=⟨by kernel_rfl,by kernel_rfl⟩
theorem SJ:cFunc Tryz.prog HA 155=aa z7∧(aa z7).isSome=true:=⟨by kernel_rfl,by kernel_rfl⟩
theorem ST:cFunc Tryz.prog HA 156=aa yS∧(aa yS).isSome=true:=⟨by kernel_rfl,by kernel_rfl⟩
theorem Vr:cFunc Tryz.prog HA 157=aa wB∧(aa wB).isSome=true:=⟨by kernel_rfl,by kernel_rfl⟩
theorem Vj:cFunc Tryz.prog HA 158=aa wG∧(aa wG).isSome=true:=⟨by kernel_rfl,by kernel_rfl⟩
theorem UL:cFunc Tryz.prog HA 164=aa Oc∧(aa Oc).isSome=true:=⟨by kernel_rfl,by kernel_rfl⟩
theorem Vm:cFunc Tryz.prog HA 176=aa wN∧(aa wN).isSome=true:=⟨by kernel_rfl,by kernel_rfl⟩
theorem U6:cFunc Tryz.prog HA 177=aa Bp∧(aa Bp).isSome=true:=⟨by kernel_rfl,by kernel_rfl⟩
theorem Xo:cFunc Tryz.prog HA 183=aa L4∧(aa L4).isSome=true:=⟨by kernel_rfl,by kernel_rfl⟩
theorem U8:cFunc Tryz.prog HA 184=aa zd∧(aa zd).isSome=true:=⟨by kernel_rfl,by kernel_rfl⟩
theorem Vq:cFunc Tryz.prog HA 185=aa M2∧(aa M2).isSome=true:=⟨by kernel_rfl,by kernel_rfl⟩
theorem Wg:cFunc Tryz.prog HA 186=aa Oi∧(aa Oi).isSome=true:=⟨by kernel_rfl,by kernel_rfl⟩
theorem WX:cFunc Tryz.prog HA 187=aa NP∧(aa NP).isSome=true:=⟨by kernel_rfl,by kernel_rfl⟩
theorem We:cFunc Tryz.prog HA 188=aa vZ∧(aa vZ).isSome=true:=⟨by kernel_rfl,by kernel_rfl⟩
theorem SL:cFunc Tryz.prog HA 189=aa AI∧(aa AI).isSome=true:=⟨by kernel_rfl,by kernel_rfl⟩
theorem Wo:cFunc Tryz.prog HA 191=aa xx∧(aa xx).isSome=true:=⟨by kernel_rfl,by kernel_rfl⟩
theorem TW:cFunc Tryz.prog HA 192=aa wz∧(aa wz).isSome=true:=⟨by kernel_rfl,by kernel_rfl⟩
theorem UA:cFunc Tryz.prog HA 193=aa wi∧(aa wi).isSome=true:=⟨by kernel_rfl,by kernel_rfl⟩
theorem W3:cFunc Tryz.prog HA 194=aa Ah∧(aa Ah).isSome=true:=⟨by kernel_rfl,by kernel_rfl⟩
theorem Ui:cFunc Tryz.prog HA 195=aa v5∧(aa v5).isSome=true:=⟨by kernel_rfl,by kernel_rfl⟩
theorem Xi:cFunc Tryz.prog HA 197=aa zS∧(aa zS).isSome=true:=⟨by kernel_rfl,by kernel_rfl⟩
theorem WJ:cFunc Tryz.prog HA 198=aa wS∧(aa wS).isSome=true:=⟨by kernel_rfl,by kernel_rfl⟩
theorem WV:cFunc Tryz.prog HA 199=aa A8∧(aa A8).isSome=true:=⟨by kernel_rfl,by kernel_rfl⟩
theorem U1:cFunc Tryz.prog HA 200=aa zD∧(aa zD).isSome=true:=⟨by kernel_rfl,by kernel_rfl⟩
theorem S2:cFunc Tryz.prog HA 210=aa AA∧(aa AA).isSome=true:=⟨by kernel_rfl,by kernel_rfl⟩
theorem TO:cFunc Tryz.prog HA 211=aa Md∧(aa Md).isSome=true:=⟨by kernel_rfl,by kernel_rfl⟩
theorem Wp:cFunc Tryz.prog HA 214=aa wd∧(aa wd).isSome=true:=⟨by kernel_rfl,by kernel_rfl⟩
theorem Tq:cFunc Tryz.prog HA 215=aa wA∧(aa wA).isSome=true:=⟨by kernel_rfl,by kernel_rfl⟩
theorem Tx:cFunc Tryz.prog HA 216=aa yg∧(aa yg).isSome=true:=⟨by kernel_rfl,by kernel_rfl⟩
theorem VR:cFunc Tryz.prog HA 217=aa xP∧(aa xP).isSome=true:=⟨by kernel_rfl,by kernel_rfl⟩
theorem T2:cFunc Tryz.prog HA 218=aa y5∧(aa y5).isSome=true:=⟨by kernel_rfl,by kernel_rfl⟩
theorem U9:cFunc Tryz.prog HA 219=aa wg∧(aa wg).isSome=true:=⟨by kernel_rfl,by kernel_rfl⟩
theorem WW:cFunc Tryz.prog HA 220=aa yq∧(aa yq).isSome=true:=⟨by kernel_rfl,by kernel_rfl⟩
theorem Wx:cFunc Tryz.prog HA 221=aa yF∧(aa yF).isSome=true:=⟨by kernel_rfl,by kernel_rfl⟩
theorem VT:cFunc Tryz.prog HA 222=aa zK∧(aa zK).isSome=true:=⟨by kernel_rfl,by kernel_rfl⟩
theorem Te:cFunc Tryz.prog HA 223=aa w6∧(aa w6).isSome=true:=⟨by kernel_rfl,by kernel_rfl⟩
theorem Vi:cFunc Tryz.prog HA 224=aa Ab∧(aa Ab).isSome=true:=⟨by kernel_rfl,by kernel_rfl⟩
theorem Tv:cFunc Tryz.prog HA 225=aa yR∧(aa yR).isSome=true:=⟨by kernel_rfl,by kernel_rfl⟩
theorem Vk:cFunc Tryz.prog HA 226=aa y7∧(aa y7).isSome=true:=⟨by kernel_rfl,by kernel_rfl⟩
theorem Tk:cFunc Tryz.prog HA 227=aa As∧(aa As).isSome=true:=⟨by kernel_rfl,by kernel_rfl⟩
theorem Th:cFunc Tryz.prog HA 228=aa xN∧(aa xN).isSome=true:=⟨by kernel_rfl,by kernel_rfl⟩
theorem Xf:cFunc Tryz.prog HA 229=aa xI∧(aa xI).isSome=true:=⟨by kernel_rfl,by kernel_rfl⟩
theorem Sv:cFunc Tryz.prog HA 230=aa xd∧(aa xd).isSome=true:=⟨by kernel_rfl,by kernel_rfl⟩
theorem W4:cFunc Tryz.prog HA 231=aa xT∧(aa xT).isSome=true:=⟨by kernel_rfl,by kernel_rfl⟩
theorem U3:cFunc Tryz.prog HA 232=aa yj∧(aa yj).isSome=true:=⟨by kernel_rfl,by kernel_rfl⟩
theorem SM:cFunc Tryz.prog HA 233=aa AN∧(aa AN).isSome=true:=⟨by kernel_rfl,by kernel_rfl⟩
theorem WF:cFunc Tryz.prog HA 234=aa zb∧(aa zb).isSome=true:=⟨by kernel_rfl,by kernel_rfl⟩
theorem Wu:cFunc Tryz.prog HA 235=aa we∧(aa we).isSome=true:=⟨by kernel_rfl,by kernel_rfl⟩
theorem SF:cFunc Tryz.prog HA 236=aa Ac∧(aa Ac).isSome=true:=⟨by kernel_rfl,by kernel_rfl⟩
theorem UP:cFunc Tryz.prog HA 237=aa yO∧(aa yO).isSome=true:=⟨by kernel_rfl,by kernel_rfl⟩
theorem W7:cFunc Tryz.prog HA 238=aa v7∧(aa v7).isSome=true:=⟨by kernel_rfl,by kernel_rfl⟩
theorem Vu:cFunc Tryz.prog HA 239=aa AR∧(aa AR).isSome=true:=⟨by kernel_rfl,by kernel_rfl⟩
theorem Ti:cFunc Tryz.prog HA 240=aa zO∧(aa zO).isSome=true:=⟨by kernel_rfl,by kernel_rfl⟩
theorem VF:cFunc Tryz.prog HA 241=aa Bj∧(aa Bj).isSome=true:=⟨by kernel_rfl,by kernel_rfl⟩
theorem Xd:cFunc Tryz.prog HA 258=aa Bx∧(aa Bx).isSome=true:=⟨by kernel_rfl,by kernel_rfl⟩
theorem Vc:cFunc Tryz.prog HA 264=aa wZ∧(aa wZ).isSome=true:=⟨by kernel_rfl,by kernel_rfl⟩
theorem Xb:cFunc Tryz.prog HA 267=aa zH∧(aa zH).isSome=true:=⟨by kernel_rfl,by kernel_rfl⟩
theorem Sq:cFunc Tryz.prog HA 268=aa vY∧(aa vY).isSome=true:=⟨by kernel_rfl,by kernel_rfl⟩
theorem SY:cFunc Tryz.prog HA 269=aa yG∧(aa yG).isSome=true:=⟨by kernel_rfl,by kernel_rfl⟩
theorem TJ:cFunc Tryz.prog HA 275=aa xf∧(aa xf).isSome=true:=⟨by kernel_rfl,by kernel_rfl⟩
theorem U7:cFunc Tryz.prog HA 276=aa AV∧(aa AV).isSome=true:=⟨by kernel_rfl,by kernel_rfl⟩
theorem Tg:cFunc Tryz.prog HA 277=aa xM∧(aa xM).isSome=true:=⟨by kernel_rfl,by kernel_rfl⟩
theorem U0:cFunc Tryz.prog HA 278=aa wE∧(aa wE).isSome=true:=⟨by kernel_rfl,by kernel_rfl⟩
theorem Xq:cFunc Tryz.prog HA 294=aa wu∧(aa wu).isSome=true:=⟨by kernel_rfl,by kernel_rfl⟩
theorem T4:cFunc Tryz.prog HA 296=aa Aa∧(aa Aa).isSome=true:=⟨by kernel_rfl,by kernel_rfl⟩
theorem Wi:cFunc Tryz.prog HA 297=aa wk∧(aa wk).isSome=true:=⟨by kernel_rfl,by kernel_rfl⟩
theorem a10:cFunc Tryz.prog HA 10=aa F10∧(aa F10).isSome=true:=⟨by kernel_rfl,by kernel_rfl⟩
theorem a99:cFunc Tryz.prog HA 99=aa (.fprim 1 (dp (some 3) 56))∧(aa (.fprim 1 (dp (some 3) 56))).isSome=true:=⟨rfl,rfl⟩
theorem VJ:cFunc Tryz.prog HA 118=aa (.fprim 1 (dp none 8))∧(aa (.fprim 1 (dp none 8))).isSome=true:=⟨rfl,rfl⟩
def tableA:List (Nat × SFunc):=table0++[(10,F10)]
set_option maxRecDepth 100000 in
theorem tabA:TabOk Tryz.prog HA tableA:=TabOk.append (l:=table0) ⟨a4,a11,a12,a14,a15,a16,a17,a18,a19,a20,a21,a22,a23,a24,a25,a26,a27,a36,a52,a56,a57,a58,a59,a60,a61,a63,a64,a65,a66,a67,a68,a69,a70,a71,a72,a73,a74,a75,a76,a77,a78,a79,a80,a82,a85,a86,a96,a98,a99,Xe,VJ,Wz,Ww,Vp,WA,Ve,Wr,Wy,Sx,SH,Wd,S8,SV,Vf,UH,Uo,WK,TB,Uz,V6,Ul,WP,UK,Xk,WS,V9,Tw,UN,SN,VV,SJ,ST,Vr,Vj,UL,Vm,U6,Xo,U8,Vq,Wg,WX,We,SL,Wo,TW,UA,W3,Ui,Xi,WJ,WV,U1,S2,TO,Wp,Tq,Tx,VR,T2,U9,WW,Wx,VT,Te,Vi,Tv,Vk,Tk,Th,Xf,Sv,W4,U3,SM,WF,Wu,SF,UP,W7,Vu,Ti,VF,Xd,Vc,Xb,Sq,SY,TJ,U7,Tg,U0,Xq,T4,Wi,trivial⟩ ⟨a10,trivial⟩
def fT:Nat→Option LFunc:=j9 lprog tableA
theorem okA:ProgOk Tryz.prog HA fT:=yX ⟨l81,ab4,trivial⟩ tabA (fun _ _ h=>by simp[HA,lookupPrim] at h) fpA mixed
theorem O1:b5 (lookupPrim · tableA):=gQ tabA
instance:Has (lookupPrim · tableA):=⟨fun _ _ h=>iX h⟩
set_option maxRecDepth 100000 in
theorem af5 {f:Nat} {args:List CV} {v:CV} (h:fn (lookupPrim · tableA) f args=some v):∃ n,pcall fT n f args=some v:=Td O1 (by
 intro f x hx
 simp only[lprog,lookupPrim] at hx
 by_cases e:81=f
 ·subst e; rfl
 rw[if_neg e] at hx; clear e
 by_cases e:196=f
 ·subst e; rfl
 rw[if_neg e] at hx; clear e
 cases hx) h
theorem Z7:Enters Tryz.prog 10:=G4 a10 rfl rfl
theorem Nv:Enters Tryz.prog 81:=kf l81
def Ji:List (Nat × (List CV→Option CV)):=[(81,(fun args=>pcall fT 3000 81 args))]
def HF:Hints:={ HA with prims:=Ji }
theorem prF:∀ f g,lookupPrim f HF.prims=some g→PrimOk Tryz.prog f g:=by
 intro f g h
 simp only[HF,Ji,lookupPrim] at h
 by_cases e:81=f
 ·rw[if_pos e] at h; subst e; simp only[Option.some.injEq] at h; subst h; exact kw okA Nv
 rw[if_neg e] at h; clear e
 cases h
def IB:List (Nat × SFunc):=tableA++[(81,.prim (fun args=>pcall fT 3000 81 args))]
set_option maxRecDepth 100000 in
theorem Xm:TabOk Tryz.prog HF IB:=TabOk.append (l:=tableA) (tabA.prims rfl (by kernel_rfl)) ⟨⟨rfl,rfl⟩,trivial⟩
def O0:Nat→Option SFunc:=fun f=>lookupPrim f IB
def YY:Nat→Option LFunc:=progL O0
theorem okF:ProgOk Tryz.prog HF YY:=xD Xm prF fpA mixed
theorem af4:b5 O0:=gQ Xm
end LM.GZ
