import Derived.Test.YthfnndblgbjniaaGreatDoorT1
set_option linter.unusedVariables false
set_option linter.unusedSimpArgs false
namespace Go.Proofs.YthfnndblgbjniaaGreatDoor
open Go.Sx Go.RowKit
theorem Tryz.own:ownKnob Tryz.prog.godebug=none:=by kernel_rfl
theorem Tryz.laidOut:laidOutB Tryz.prog=true:=by kernel_rfl
theorem apL{P:Program}{t e:TypeId}{ds:List D}(hu:P.underlying t=some (.slice e))(h:j3 P t ds):∃es,ds=[.J (P.cellsOf e) es]/\es.length<=maxLen/\∀x∈es,j3 P e x:=by
 cases h<;>simp_all
theorem RG{α:Type}(f:α->List D)(W:α->Prop):∀{es:List (List D)},(∀ds∈es,∃a,ds=f a/\W a)->∃xs:List α,es=xs.map f/\∀a∈xs,W a
 | [],_=>⟨[],rfl,by simp⟩
 | ds::es,h=>by
  obtain⟨a,rfl,aj⟩:=h ds (by simp);obtain⟨xs,rfl,xp⟩:=RG f W (es:=es) fun x aq=>h x (by simp[aq])
  refine⟨a::xs,rfl,fun b ay=>?_⟩;rcases eK.1 ay with rfl | ay
  ·exact aj
  exact xp b ay
theorem apM{α:Type}(f:α->List D)(W:α->Prop){P:Program}{t e:TypeId}{k:Nat}(hu:P.underlying t=some (.slice e))(ba:P.cellsOf e=k)(xc:∀ds,j3 P e ds->∃a,ds=f a/\W a){ds:List D}(h:j3 P t ds):
  ∃xs:List α,ds=[.J k (xs.map f)]/\(xs.length:Int)<=9223372036854775807/\∀a∈xs,W a:=by
 obtain⟨es,rfl,ar,he⟩:=apL hu h;obtain⟨xs,rfl,xp⟩:=RG f W fun ds eU=>xc ds (he ds eU)
 refine⟨xs,by rw[ba],?_,xp⟩;have hm:maxLen=9223372036854775807:=rfl;rw[cr]at ar;omega
theorem Z6{α:Type}{l:List α}(h:l.length=1):∃a0,l=[a0]:=by
 match l,h with
 | [a0],_=>exact⟨a0,rfl⟩
