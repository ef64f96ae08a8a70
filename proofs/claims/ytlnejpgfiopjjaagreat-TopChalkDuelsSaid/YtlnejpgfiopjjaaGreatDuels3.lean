/- Part 6 of what YtlnejpgfiopjjaaGreatDuels leans on. -/
import Derived.Test.YtlnejpgfiopjjaaGreatDuelsL1
import Derived.Test.YtlnejpgfiopjjaaGreatDuelsL2
import Derived.Test.YtlnejpgfiopjjaaGreatDuelsL3
import Derived.Test.YtlnejpgfiopjjaaGreatDuels1
import Derived.Test.YtlnejpgfiopjjaaGreatDuels2
set_option linter.all false
namespace LM.GZ
open Go LM Go.Proofs Go.RowKit
def primsG:List (Nat × (List CV→Option CV)):=[(81,(fun args=>pcall progQ 3000 81 args))]
def HG:Hints:={ HA with prims:=primsG }
theorem prG:∀ f g,lookupPrim f HG.prims=some g→PrimOk Tryz.prog f g:=by
 intro f g h
 simp only[HG,primsG,lookupPrim] at h
 by_cases e:81=f
 ·rw[if_pos e] at h; subst e; simp only[Option.some.injEq] at h; subst h; exact primOk_of_pcall okA en81
 rw[if_neg e] at h; clear e
 cases h
def tableG:List (Nat × SFunc):=[(81,.prim (fun args=>pcall progQ 3000 81 args))]++tableA.filter (fun x=>!([]:List Nat).contains x.1)
set_option maxRecDepth 100000 in
theorem tabG:TabOk Tryz.prog HG tableG:=TabOk.append ⟨⟨rfl,rfl⟩,trivial⟩ ((tabA.filter (fun x=>!([]:List Nat).contains x.1)).prims rfl (by kernel_rfl))
def progG:Nat→Option SFunc:=fun f=>lookupPrim f tableG
theorem okG:ProgOk Tryz.prog HG (progL progG):=tab_ok tabG prG fpA mixed
theorem readG:Readable progG:=tab_readable tabG
noncomputable def prims0:List (Nat × (List CV→Option CV)):=[(10,(limP (progL progG) 10)),(81,(limP progQ 81))]
noncomputable def H0:Hints:={ HA with prims:=prims0 }
theorem pr0:∀ f g,lookupPrim f H0.prims=some g→PrimOk Tryz.prog f g:=by
 intro f g h
 simp only[H0,prims0,lookupPrim] at h
 by_cases e:10=f
 ·rw[if_pos e] at h; subst e; simp only[Option.some.injEq] at h; subst h; exact primOk_lim okG en10
 rw[if_neg e] at h; clear e
 by_cases e:81=f
 ·rw[if_pos e] at h; subst e; simp only[Option.some.injEq] at h; subst h; exact primOk_lim okA en81
 rw[if_neg e] at h; clear e
 cases h
set_option maxRecDepth 100000 in
theorem tab0:TabOk Tryz.prog H0 table0:=TabOk.prims (H:=HA) rfl (l:=table0) ⟨a3,a9,a11,a12,a13,a14,a26,a52,a56,a57,a58,a59,a60,a61,a62,a63,a64,a65,a73,a75,a80,a82,a85,a86,a96,a98,a99,a117,a118,a120,a123,a124,a125,a126,a127,a132,a133,a134,a135,a136,a137,a138,a148,a149,a150,a151,a152,a153,a154,a155,a156,a157,a158,a164,a176,a177,a183,a184,a185,a186,a187,a191,a192,a193,a194,a195,a197,a198,a199,a200,a210,a211,a212,a214,a215,a216,a217,a218,a219,a220,a221,a222,a223,a224,a225,a226,a227,a228,a229,a230,a231,a232,a233,a234,a235,a236,a237,a238,a239,a240,a241,a256,a258,a259,a260,a261,a262,a263,a264,a265,a266,a267,a268,a269,a270,a271,a272,a273,a274,a275,a276,a277,a278,a293,a294,a295,a296,a297,trivial⟩ (by kernel_rfl)
theorem c10k:cFunc Tryz.prog H0 10=decF (.prim (limP (progL progG) 10))∧(decF (.prim (limP (progL progG) 10))).isSome=true:=⟨rfl,rfl⟩
theorem c81k:cFunc Tryz.prog H0 81=decF (.prim (limP progQ 81))∧(decF (.prim (limP progQ 81))).isSome=true:=⟨rfl,rfl⟩
noncomputable def tabP:List (Nat × SFunc):=[(10,.prim (limP (progL progG) 10)),(81,.prim (limP progQ 81))]
noncomputable def table:List (Nat × SFunc):=table0++tabP
noncomputable def prog:Nat→Option SFunc:=fun f=>lookupPrim f table
theorem tabAll:TabOk Tryz.prog H0 table:=tab0.append ⟨c10k,c81k,trivial⟩
theorem ok:ProgOk Tryz.prog H0 (progL prog):=tab_ok tabAll pr0 fpA mixed
theorem readable:Readable prog:=tab_readable tabAll
instance:Has prog:=⟨fun _ _ h=>lookup_append h⟩
set_option maxRecDepth 100000 in
theorem mem_prims:∀ f,f ∈ [10,81]→∃ g,prog f=some (.prim g):=by
 intro f h
 simp only[List.mem_cons,List.not_mem_nil,or_false] at h
 rcases h with rfl | rfl<;>exact⟨_,rfl⟩
instance:HasP prog:=⟨mem_prims⟩
set_option maxRecDepth 100000 in
theorem g10_of {n:Nat} {args:List CV} {v:CV} (h:pcall (progL progG) n 10 args=some v):fn prog 10 args=some v:=limP_of h
set_option maxRecDepth 100000 in
theorem g81_of {n:Nat} {args:List CV} {v:CV} (h:pcall progQ n 81 args=some v):fn prog 81 args=some v:=limP_of h
end LM.GZ
