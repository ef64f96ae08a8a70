/- TopChalkDuels returns true for every input, and each argument reads afterwards as it read before; no condition beyond the statement's own. -/
import Derived.Test.YtlnejpgfiopjjaaGreatDuelsL1
import Derived.Test.YtlnejpgfiopjjaaGreatDuelsL2
import Derived.Test.YtlnejpgfiopjjaaGreatDuelsL3
import Derived.Test.YtlnejpgfiopjjaaGreatDuels1
import Derived.Test.YtlnejpgfiopjjaaGreatDuels2
import Derived.Test.YtlnejpgfiopjjaaGreatDuels3
import Derived.Test.YtlnejpgfiopjjaaGreatDuels4
import Derived.Test.YtlnejpgfiopjjaaGreatDuels5
import Derived.Test.YtlnejpgfiopjjaaGreatDuels6
set_option linter.all false
namespace Go.Proofs.YtlnejpgfiopjjaaGreat
open Go.ChangeShapes Go.WideShapes Go.ChangeAt Go.RowKit
theorem duels_law (vs:List LM.CV) (h:LM.TypedL [.agg [.int .i64,.int .i64],.agg [.int .i64,.int .i64]] vs):∃ n,LM.pcall (LM.progL LM.GZ.prog) n 3 vs=some (.bool true):=by
 rcases vs with _ | ⟨v1,_ | ⟨v2,_ | ⟨_,_⟩⟩⟩<;>simp only[LM.TypedL,and_true,and_false] at h
 obtain⟨h1,h2⟩:=h
 simp only[LM.Typed] at h1 h2
 obtain⟨c1,rfl,h1⟩:=h1
 obtain⟨c2,rfl,h2⟩:=h2
 rcases c1 with _ | ⟨a1,_ | ⟨a2,_ | ⟨_,_⟩⟩⟩<;>simp only[LM.TypedL,and_true,and_false] at h1
 rcases c2 with _ | ⟨b1,_ | ⟨b2,_ | ⟨_,_⟩⟩⟩<;>simp only[LM.TypedL,and_true,and_false] at h2
 obtain⟨q1,q2⟩:=h1
 obtain⟨q3,q4⟩:=h2
 obtain⟨ra,rfl,_⟩:=typed_int q1
 obtain⟨ta,rfl,_⟩:=typed_int q2
 obtain⟨rb,rfl,_⟩:=typed_int q3
 obtain⟨tb,rfl,_⟩:=typed_int q4
 exact LM.fn_pcall LM.GZ.readable (LM.GZ.S3 LM.GZ.beh_prog LM.GZ.S10 ra ta rb tb)
set_option maxRecDepth 100000 in
theorem duels_lifted (os:Os) (started:os.Started) (H:Type) (enc:TypeId × Value→H) :
  ReturnsInHanded {} Tryz.checked os 3 .any (Rows.topChalkDuelsSpec.pre6 enc Tryz.prog Tryz.f3 Rows.topChalkDuelsRow.domain false) (Rows.topChalkDuelsSpec.post enc Tryz.prog Tryz.f3 false true false false):=by
 refine returnsInHanded_of_change_sized (C:=Tryz.checked) own_knob started (by kernel_rfl) Tryz.func3
  (ChangeSpec.witness6 (enc:=enc) (C:=Tryz.checked) false ⟨#[],#[.agg #[.int .i64 0,.int .i64 0],.agg #[.int .i64 0,.int .i64 0]],[]⟩ 8 (by kernel_rfl) (by kernel_rfl) (by kernel_rfl) (by kernel_rfl)) ?_
 intro W base args ds gs before hval hW _ hsz _
 exact LM.law_contract LM.GZ.ok laid_out maps_rowed slices_full (by decide +kernel) (cs:=[.agg [.int .i64,.int .i64],.agg [.int .i64,.int .i64]]) (by kernel_rfl) (tb:=4) (by kernel_rfl) (by kernel_rfl) rfl (fun ds hd=>by
  have hd3:ds.length=2:=hd.trans (by kernel_rfl)
  rcases ds with _ | ⟨d1,_ | ⟨d2,_ | ⟨_,_⟩⟩⟩<;>first | rfl | simp at hd3) duels_law base args ds gs before hval hW hsz
theorem topChalkDuels:Rows.TopChalkDuelsSaid :=
 OpenClaim.holds_of_wide (p:=Tryz.pinned) (s:=Rows.topChalkDuelsSpec) (c:=Rows.topChalkDuelsRow) 3 Tryz.f3 rfl rfl rfl rfl rfl rfl rfl ⟨rfl,rfl,rfl,rfl,rfl⟩ rfl rfl rfl rfl rfl (by kernel_rfl) Tryz.func3 (by kernel_rfl)
  (of_decide_eq_true (by kernel_rfl)) (by unfold Func.isWrapper; first | (rw[if_pos (by decide +kernel)]; kernel_rfl) | (rw[if_neg (by decide +kernel)]; exact⟨rfl,rfl⟩))
  (fun os started H enc _=>duels_lifted os started H enc)
end Go.Proofs.YtlnejpgfiopjjaaGreat
