/- FnSafely: The law FnSafely answers true at every text of bytes. No condition. -/
import Derived.Test.YthfnndblgbjniaaGreatA0
import Derived.Test.YthfnndblgbjniaaGreatP98
set_option linter.unusedVariables false
set_option linter.unusedSimpArgs false
namespace Go.Proofs.YthfnndblgbjniaaGreat
open Go.ChangeShapes Go.WideShapes Go.ChangeAt Go.RowKit Go.Joins Go.Sx
theorem all_Safely(ha:List cR)(h:E4 Tryz.prog Tryz.f3.params.toList ha):ar 3 ha [.one (B true)]:=by
 rw[Tryz.params3]at h
 match ha,h with
 | [a0],⟨bJ,_⟩=>
  obtain⟨cE,rfl,dn,w0⟩:=aCn bJ;exact ay0 cE w0
set_option maxRecDepth 100000 in
theorem lifted_Safely(os:Os)(started:os.Started)(H:Type)(enc:TypeId×Value->H):
  ReturnsInHanded {} Tryz.checked os 3 .any (Rows.fnSafelySpec.pre6 enc Tryz.prog Tryz.f3 Rows.fnSafelyRow.domain false) (Rows.fnSafelySpec.post enc Tryz.prog Tryz.f3 false true false false):=by
 refine returnsInHanded_of_change (C:=Tryz.checked) Tryz.own started (by kernel_rfl) Tryz.func3
  (ChangeSpec.witness6 (enc:=enc) (C:=Tryz.checked) false ⟨#[],#[.slice none 0 0],[]⟩ 8 (by kernel_rfl) (by kernel_rfl) (by kernel_rfl) (by kernel_rfl)) ?_
 intro W base args ds gs before ae4 vr aFt _;exact azN (fno:=3) Tryz.laidOut (tb:=4) (by kernel_rfl) Tryz.underlying4 (by kernel_rfl) (by kernel_rfl) rfl ae4 vr (fun h=>by obtain⟨a0,rfl⟩:=afw (l:=ds) h;exact⟨rfl,rfl,rfl⟩) (fun x ag=>by cases ag) all_Safely
theorem places_Safely:(Rows.fnSafelyRow.inPlace==Tryz.prog.inPlace 3)=true:=by kernel_rfl
theorem follows_Safely:(Rows.fnSafelyRow.unfollowed==Tryz.prog.unfollowed 3)=true:=by kernel_rfl
theorem recurs_Safely:(Rows.fnSafelyRow.recurses==Tryz.prog.recurses 3)=true:=by kernel_rfl
theorem namedVars_Safely:(Rows.fnSafelyRow.named==Tryz.prog.varsNamed 3)=true:=by kernel_rfl
theorem loopsKeys_Safely:((Rows.fnSafelyRow.loops==(Tryz.f3.params.toList++Rows.fnSafelySpec.plain.varTypes Tryz.prog).any (Tryz.prog.loopsFrom ·))&&(Rows.fnSafelyRow.wideKeys==(Tryz.f3.params.toList++Rows.fnSafelySpec.plain.varTypes Tryz.prog++Tryz.f3.resultTypes.toList).any (Tryz.prog.wideKeysFrom ·)))=true:=by kernel_rfl
theorem joined_Safely:joinedFacts Tryz.prog 3 Tryz.f3 Rows.fnSafelySpec Rows.fnSafelyRow=true:=
 azR (by kernel_rfl) Tryz.laidOut azS (by kernel_rfl) places_Safely follows_Safely recurs_Safely namedVars_Safely (by kernel_rfl) loopsKeys_Safely (by kernel_rfl)
  (by rw[azT];rfl) (by kernel_rfl) azU (by rw[azV];rfl) (by rw[aBm];rfl) (by kernel_rfl) (by kernel_rfl)
theorem holds_Safely:Rows.FnSafelySaid:=
 OpenClaim.holds_of_wide 3 Tryz.f3 rfl rfl rfl rfl rfl rfl rfl ⟨rfl,rfl,rfl,rfl,rfl⟩ rfl rfl rfl rfl rfl (by kernel_rfl) Tryz.func3 joined_Safely
  (of_decide_eq_true (by kernel_rfl)) (by unfold Func.isWrapper;first | (rw[bq (by decide +kernel)];kernel_rfl) | (rw[bD (by decide +kernel)];exact⟨rfl,rfl⟩))
  (fun os started H enc _=>lifted_Safely os started H enc)
#print axioms holds_Safely
end Go.Proofs.YthfnndblgbjniaaGreat
