import Derived.Test.YthfnndblgbjniaaGreatDoorT1
set_option linter.unusedVariables false
set_option linter.unusedSimpArgs false
namespace Go.Proofs.YthfnndblgbjniaaGreatDoor
open Go.Sx Go.RowKit
theorem Tryz.own:ownKnob Tryz.prog.godebug=none:=by kernel_rfl
theorem Tryz.laidOut:laidOutB Tryz.prog=true:=by kernel_rfl
theorem ajq{P:Program}{t e:TypeId}{ds:List D}(hu:P.underlying t=some (.slice e))(h:iF P t ds):∃es,ds=[.J (P.cellsOf e) es]/\es.length<=maxLen/\∀x∈es,iF P e x:=by
 cases h<;>simp_all
theorem OP{α:Type}(f:α->List D)(W:α->Prop):∀{es:List (List D)},(∀ds∈es,∃a,ds=f a/\W a)->∃xs:List α,es=xs.map f/\∀a∈xs,W a
 | [],_=>⟨[],rfl,by simp⟩
 | ds::es,h=>by
  obtain⟨a,rfl,ai⟩:=h ds (by simp);obtain⟨xs,rfl,x8⟩:=OP f W (es:=es) fun x ao=>h x (by simp[ao])
  refine⟨a::xs,rfl,fun b aw=>?_⟩;rcases ep.1 aw with rfl | aw
  ·exact ai
  exact x8 b aw
theorem ajr{α:Type}(f:α->List D)(W:α->Prop){P:Program}{t e:TypeId}{k:Nat}(hu:P.underlying t=some (.slice e))(bc:P.cellsOf e=k)(vH:∀ds,iF P e ds->∃a,ds=f a/\W a){ds:List D}(h:iF P t ds):
  ∃xs:List α,ds=[.J k (xs.map f)]/\(xs.length:Int)<=9223372036854775807/\∀a∈xs,W a:=by
 obtain⟨es,rfl,au,he⟩:=ajq hu h;obtain⟨xs,rfl,x8⟩:=OP f W fun ds er=>vH ds (he ds er)
 refine⟨xs,by rw[bc],?_,x8⟩;have hm:maxLen=9223372036854775807:=rfl;rw[cr]at au;omega
theorem Xf{α:Type}{l:List α}(h:l.length=1):∃a0,l=[a0]:=by
 match l,h with
 | [a0],_=>exact⟨a0,rfl⟩
