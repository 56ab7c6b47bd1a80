import Derived.Test.YtdchjefneblpgaaGreatT1
set_option linter.unusedVariables false
set_option linter.unusedSimpArgs false
namespace Go.Proofs.YtdchjefneblpgaaGreat
open Go.Sx Go.RowKit
theorem Tryz.own:ownKnob Tryz.prog.godebug=none:=by kernel_rfl
theorem Tryz.laidOut:laidOutB Tryz.prog=true:=by kernel_rfl
theorem aw8{P:Program}{t e:TypeId}{ds:List D}(hu:P.underlying t=some (.slice e))(h:kH P t ds):∃es,ds=[.J (P.cellsOf e) es]/\es.length<=maxLen/\∀x∈es,kH P e x:=by
 cases h<;>simp_all
theorem UD{α:Type}(f:α->List D)(W:α->Prop):∀{es:List (List D)},(∀ds∈es,∃a,ds=f a/\W a)->∃xs:List α,es=xs.map f/\∀a∈xs,W a
 | [],_=>⟨[],rfl,by simp⟩
 | ds::es,h=>by
  obtain⟨a,rfl,ak⟩:=h ds (by simp);obtain⟨xs,rfl,sa⟩:=UD f W (es:=es) fun x ah=>h x (by simp[ah])
  refine⟨a::xs,rfl,fun b av=>?_⟩;rcases eP.1 av with rfl | av
  ·exact ak
  exact sa b av
theorem aw9{α:Type}(f:α->List D)(W:α->Prop){P:Program}{t e:TypeId}{k:Nat}(hu:P.underlying t=some (.slice e))(hk:P.cellsOf e=k)(uR:∀ds,kH P e ds->∃a,ds=f a/\W a){ds:List D}(h:kH P t ds):
  ∃xs:List α,ds=[.J k (xs.map f)]/\(xs.length:Int)<=9223372036854775807/\∀a∈xs,W a:=by
 obtain⟨es,rfl,ap,he⟩:=aw8 hu h;obtain⟨xs,rfl,sa⟩:=UD f W fun ds eR=>uR ds (he ds eR)
 refine⟨xs,by rw[hk],?_,sa⟩;have hm:maxLen=9223372036854775807:=rfl;rw[bl]at ap;omega
theorem adH{α:Type}{l:List α}(h:l.length=1):∃a0,l=[a0]:=by
 match l,h with
 | [a0],_=>exact⟨a0,rfl⟩
