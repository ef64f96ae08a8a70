/- Part 6 of what YtlnejpgfiopjjaaGreatParted leans on. -/
import Derived.Test.YtlnejpgfiopjjaaGreatPartedL1
import Derived.Test.YtlnejpgfiopjjaaGreatPartedL2
import Derived.Test.YtlnejpgfiopjjaaGreatPartedL3
import Derived.Test.YtlnejpgfiopjjaaGreatParted1
import Derived.Test.YtlnejpgfiopjjaaGreatParted2
set_option linter.all false
namespace LM.GZ
open Go LM Go.Proofs Go.RowKit
def Lc:List (Nat × (List CV→Option CV)):=[(81,(fun args=>pcall fT 3000 81 args))]
def HG:Hints:={ HA with prims:=Lc }
theorem prG:∀ f g,lookupPrim f HG.prims=some g→PrimOk Tryz.prog f g:=by
 intro f g h
 simp only[HG,Lc,lookupPrim] at h
 by_cases e:81=f
 ·rw[if_pos e] at h; subst e; simp only[Option.some.injEq] at h; subst h; exact kw okA Nv
 rw[if_neg e] at h; clear e
 cases h
def IU:List (Nat × SFunc):=[(81,.prim (fun args=>pcall fT 3000 81 args))]++tableA.filter (fun x=>!([]:List Nat).contains x.1)
set_option maxRecDepth 100000 in
theorem V3:TabOk Tryz.prog HG IU:=TabOk.append ⟨⟨rfl,rfl⟩,trivial⟩ ((tabA.filter (fun x=>!([]:List Nat).contains x.1)).prims rfl (by kernel_rfl))
def kE:Nat→Option SFunc:=fun f=>lookupPrim f IU
theorem okG:ProgOk Tryz.prog HG (progL kE):=xD V3 prG fpA mixed
theorem Zk:b5 kE:=gQ V3
noncomputable def Io:List (Nat × (List CV→Option CV)):=[(10,(iY (progL kE) 10)),(81,(iY fT 81))]
noncomputable def H0:Hints:={ HA with prims:=Io }
theorem pr0:∀ f g,lookupPrim f H0.prims=some g→PrimOk Tryz.prog f g:=by
 intro f g h
 simp only[H0,Io,lookupPrim] at h
 by_cases e:10=f
 ·rw[if_pos e] at h; subst e; simp only[Option.some.injEq] at h; subst h; exact re okG Z7
 rw[if_neg e] at h; clear e
 by_cases e:81=f
 ·rw[if_pos e] at h; subst e; simp only[Option.some.injEq] at h; subst h; exact re okA Nv
 rw[if_neg e] at h; clear e
 cases h
set_option maxRecDepth 100000 in
theorem tab0:TabOk Tryz.prog H0 table0:=TabOk.prims (H:=HA) rfl (l:=table0) ⟨a4,a11,a12,a14,a15,a16,a17,a18,a19,a20,a21,a22,a23,a24,a25,a26,a27,a36,a52,a56,a57,a58,a59,a60,a61,a63,a64,a65,a66,a67,a68,a69,a70,a71,a72,a73,a74,a75,a76,a77,a78,a79,a80,a82,a85,a86,a96,a98,a99,Xe,VJ,Wz,Ww,Vp,WA,Ve,Wr,Wy,Sx,SH,Wd,S8,SV,Vf,UH,Uo,WK,TB,Uz,V6,Ul,WP,UK,Xk,WS,V9,Tw,UN,SN,VV,SJ,ST,Vr,Vj,UL,Vm,U6,Xo,U8,Vq,Wg,WX,We,SL,Wo,TW,UA,W3,Ui,Xi,WJ,WV,U1,S2,TO,Wp,Tq,Tx,VR,T2,U9,WW,Wx,VT,Te,Vi,Tv,Vk,Tk,Th,Xf,Sv,W4,U3,SM,WF,Wu,SF,UP,W7,Vu,Ti,VF,Xd,Vc,Xb,Sq,SY,TJ,U7,Tg,U0,Xq,T4,Wi,trivial⟩ (by kernel_rfl)
theorem adm:cFunc Tryz.prog H0 10=aa (.prim (iY (progL kE) 10))∧(aa (.prim (iY (progL kE) 10))).isSome=true:=⟨rfl,rfl⟩
theorem abu:cFunc Tryz.prog H0 81=aa (.prim (iY fT 81))∧(aa (.prim (iY fT 81))).isSome=true:=⟨rfl,rfl⟩
noncomputable def aaP:List (Nat × SFunc):=[(10,.prim (iY (progL kE) 10)),(81,.prim (iY fT 81))]
noncomputable def O9:List (Nat × SFunc):=table0++aaP
noncomputable def prog:Nat→Option SFunc:=fun f=>lookupPrim f O9
theorem HO:TabOk Tryz.prog H0 O9:=tab0.append ⟨adm,abu,trivial⟩
theorem ok:ProgOk Tryz.prog H0 (progL prog):=xD HO pr0 fpA mixed
theorem readable:b5 prog:=gQ HO
instance:Has prog:=⟨fun _ _ h=>iX h⟩
set_option maxRecDepth 100000 in
theorem Lv:∀ f,f ∈ [10,81]→∃ g,prog f=some (.prim g):=by
 intro f h
 simp only[List.mem_cons,List.not_mem_nil,or_false] at h
 rcases h with rfl | rfl<;>exact⟨_,rfl⟩
instance:HasP prog:=⟨Lv⟩
set_option maxRecDepth 100000 in
theorem Vg {n:Nat} {args:List CV} {v:CV} (h:pcall (progL kE) n 10 args=some v):fn prog 10 args=some v:=Dl h
set_option maxRecDepth 100000 in
theorem SB {n:Nat} {args:List CV} {v:CV} (h:pcall fT n 81 args=some v):fn prog 81 args=some v:=Dl h
end LM.GZ
