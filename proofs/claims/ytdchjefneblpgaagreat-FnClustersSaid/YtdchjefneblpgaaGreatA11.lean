/- FnClusters: The law FnClusters answers true at every text of bytes. No condition. -/
import Derived.Test.YtdchjefneblpgaaGreatA0
import Derived.Test.YtdchjefneblpgaaGreatP124
set_option linter.unusedVariables false
set_option linter.unusedSimpArgs false
namespace Go.Proofs.YtdchjefneblpgaaGreat
open Go.ChangeShapes Go.WideShapes Go.ChangeAt Go.RowKit Go.Joins Go.Sx
theorem all_Clusters(gz:List cQ)(h:Dd Tryz.prog Tryz.f7.params.toList gz):aw 7 gz [.one (B true)]:=by
 rw[Tryz.params7]at h
 match gz,h with
 | [a0],⟨bg,_⟩=>
  obtain⟨cR,rfl,gh,w0⟩:=ane bg;exact ar2 cR w0
set_option maxRecDepth 100000 in
theorem lifted_Clusters(os:Os)(started:os.Started)(H:Type)(enc:TypeId×Value->H):
  ReturnsInHanded {} Tryz.checked os 7 .any (Rows.fnClustersSpec.pre6 enc Tryz.prog Tryz.f7 Rows.fnClustersRow.domain false) (Rows.fnClustersSpec.post enc Tryz.prog Tryz.f7 false true false false):=by
 refine returnsInHanded_of_change (C:=Tryz.checked) Tryz.own started (by kernel_rfl) Tryz.func7
  (ChangeSpec.witness6 (enc:=enc) (C:=Tryz.checked) false ⟨#[],#[.slice none 0 0],[]⟩ 8 (by kernel_rfl) (by kernel_rfl) (by kernel_rfl) (by kernel_rfl)) ?_
 intro W base args ds gs before ace tS azd _;exact asX (fno:=7) Tryz.laidOut (tb:=4) (by kernel_rfl) Tryz.underlying4 (by kernel_rfl) (by kernel_rfl) rfl ace tS (fun h=>by obtain⟨a0,rfl⟩:=acC (l:=ds) h;exact⟨rfl,rfl,rfl⟩) (fun x aa=>by cases aa) all_Clusters
theorem places_Clusters:(Rows.fnClustersRow.inPlace==Tryz.prog.inPlace 7)=true:=by kernel_rfl
theorem follows_Clusters:(Rows.fnClustersRow.unfollowed==Tryz.prog.unfollowed 7)=true:=by kernel_rfl
theorem recurs_Clusters:(Rows.fnClustersRow.recurses==Tryz.prog.recurses 7)=true:=by kernel_rfl
theorem namedVars_Clusters:(Rows.fnClustersRow.named==Tryz.prog.varsNamed 7)=true:=by kernel_rfl
theorem loopsKeys_Clusters:((Rows.fnClustersRow.loops==(Tryz.f7.params.toList++Rows.fnClustersSpec.plain.varTypes Tryz.prog).any (Tryz.prog.loopsFrom ·))&&(Rows.fnClustersRow.wideKeys==(Tryz.f7.params.toList++Rows.fnClustersSpec.plain.varTypes Tryz.prog++Tryz.f7.resultTypes.toList).any (Tryz.prog.wideKeysFrom ·)))=true:=by kernel_rfl
theorem joined_Clusters:joinedFacts Tryz.prog 7 Tryz.f7 Rows.fnClustersSpec Rows.fnClustersRow=true:=
 as2 (by kernel_rfl) Tryz.laidOut as3 (by kernel_rfl) places_Clusters follows_Clusters recurs_Clusters namedVars_Clusters (by kernel_rfl) loopsKeys_Clusters (by kernel_rfl)
  (by rw[as4];rfl) (by kernel_rfl) as5 (by rw[as6];rfl) (by rw[as7];rfl) (by kernel_rfl) (by kernel_rfl)
theorem holds_Clusters:Rows.FnClustersSaid:=
 OpenClaim.holds_of_wide 7 Tryz.f7 rfl rfl rfl rfl rfl rfl rfl ⟨rfl,rfl,rfl,rfl,rfl⟩ rfl rfl rfl rfl rfl (by kernel_rfl) Tryz.func7 joined_Clusters
  (of_decide_eq_true (by kernel_rfl)) (by unfold Func.isWrapper;first | (rw[bi (by decide +kernel)];kernel_rfl) | (rw[ba (by decide +kernel)];exact⟨rfl,rfl⟩))
  (fun os started H enc _=>lifted_Clusters os started H enc)
#print axioms holds_Clusters
end Go.Proofs.YtdchjefneblpgaaGreat
