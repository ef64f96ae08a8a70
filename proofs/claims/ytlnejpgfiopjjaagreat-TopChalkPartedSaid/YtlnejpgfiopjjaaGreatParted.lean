/- TopChalkParted returns true for every input, and each argument reads afterwards as it read before; no condition beyond the statement's own. -/
import Derived.Test.YtlnejpgfiopjjaaGreatPartedL1
import Derived.Test.YtlnejpgfiopjjaaGreatPartedL2
import Derived.Test.YtlnejpgfiopjjaaGreatPartedL3
import Derived.Test.YtlnejpgfiopjjaaGreatParted1
import Derived.Test.YtlnejpgfiopjjaaGreatParted2
import Derived.Test.YtlnejpgfiopjjaaGreatParted3
import Derived.Test.YtlnejpgfiopjjaaGreatParted4
import Derived.Test.YtlnejpgfiopjjaaGreatParted5
import Derived.Test.YtlnejpgfiopjjaaGreatParted6
set_option linter.all false
namespace Go.Proofs.YtlnejpgfiopjjaaGreat
open Go.ChangeShapes Go.WideShapes Go.ChangeAt Go.RowKit
theorem typed_stt (x:LM.CV) (h:LM.Typed (.agg [.str,.str,.int .i64]) x):∃ r:LM.GZ.J.Stt,x=r.enc∧(r.ok):=by
 simp only[LM.Typed] at h
 obtain⟨cs,rfl,h⟩:=h
 rcases cs with _ | ⟨a,_ | ⟨b,_ | ⟨c,_ | ⟨_,_⟩⟩⟩⟩<;>simp only[LM.TypedL,and_true,and_false] at h
 obtain⟨q1,q2,q3⟩:=h
 obtain⟨a,rfl,ha⟩:=typed_str q1
 obtain⟨b,rfl,hb⟩:=typed_str q2
 obtain⟨w,rfl,_⟩:=typed_int q3
 exact⟨⟨a,b,w⟩,rfl,ha,hb⟩
theorem parted_law (vs:List LM.CV) (h:LM.TypedL [.slice 40 (.agg [.str,.str,.int .i64])] vs):∃ n,LM.pcall (LM.progL LM.GZ.prog) n 4 vs=some (.bool true):=by
 rcases vs with _ | ⟨v1,_ | ⟨_,_⟩⟩<;>simp only[LM.TypedL,and_true,and_false] at h
 obtain⟨l,rfl,hl,hs⟩:=typed_slice (p:=fun r:LM.GZ.J.Stt=>r.ok) typed_stt h
 exact LM.fn_pcall LM.GZ.readable (LM.GZ.S4 LM.GZ.beh_le LM.GZ.S10 (fun n hn=>LM.GZ.S20 n hn) l hl hs)
set_option maxRecDepth 100000 in
theorem parted_lifted (os:Os) (started:os.Started) (H:Type) (enc:TypeId × Value→H) :
  ReturnsInHanded {} Tryz.checked os 4 .any (Rows.topChalkPartedSpec.pre6 enc Tryz.prog Tryz.f4 Rows.topChalkPartedRow.domain false) (Rows.topChalkPartedSpec.post enc Tryz.prog Tryz.f4 false true false false):=by
 refine returnsInHanded_of_change_sized (C:=Tryz.checked) own_knob started (by kernel_rfl) Tryz.func4
  (ChangeSpec.witness6 (enc:=enc) (C:=Tryz.checked) false ⟨#[],#[.slice none 0 0],[]⟩ 8 (by kernel_rfl) (by kernel_rfl) (by kernel_rfl) (by kernel_rfl)) ?_
 intro W base args ds gs before hval hW _ hsz _
 exact LM.law_contract LM.GZ.ok laid_out maps_rowed slices_full (by decide +kernel) (cs:=[.slice 40 (.agg [.str,.str,.int .i64])]) (by kernel_rfl) (tb:=4) (by kernel_rfl) (by kernel_rfl) rfl (fun ds hd=>by
  have hd3:ds.length=1:=hd.trans (by kernel_rfl)
  rcases ds with _ | ⟨d1,_ | ⟨_,_⟩⟩<;>first | rfl | simp at hd3) parted_law base args ds gs before hval hW hsz
theorem topChalkParted:Rows.TopChalkPartedSaid :=
 OpenClaim.holds_of_wide (p:=Tryz.pinned) (s:=Rows.topChalkPartedSpec) (c:=Rows.topChalkPartedRow) 4 Tryz.f4 rfl rfl rfl rfl rfl rfl rfl ⟨rfl,rfl,rfl,rfl,rfl⟩ rfl rfl rfl rfl rfl (by kernel_rfl) Tryz.func4 (by kernel_rfl)
  (of_decide_eq_true (by kernel_rfl)) (by unfold Func.isWrapper; first | (rw[if_pos (by decide +kernel)]; kernel_rfl) | (rw[if_neg (by decide +kernel)]; exact⟨rfl,rfl⟩))
  (fun os started H enc _=>parted_lifted os started H enc)
end Go.Proofs.YtlnejpgfiopjjaaGreat
