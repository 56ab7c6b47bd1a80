import Derived.Test.YtdchjefneblpgaaT1
set_option linter.unusedVariables false
set_option linter.unusedSimpArgs false
namespace Go.Proofs.Ytdchjefneblpgaa
open Go.Sx Go.RowKit
theorem Try.own:ownKnob Try.prog.godebug=none:=by kernel_rfl
theorem Try.laidOut:laidOutB Try.prog=true:=by kernel_rfl
theorem Sl{P:Program}{t e:TypeId}{ds:List D}(hu:P.underlying t=some (.slice e))(h:hT P t ds):∃es,ds=[.aa (P.cellsOf e) es]/\es.length<=maxLen/\∀x∈es,hT P e x:=by
 cases h<;>simp_all
theorem J7{α:Type}(f:α->List D)(W:α->Prop):∀{es:List (List D)},(∀ds∈es,∃a,ds=f a/\W a)->∃xs:List α,es=xs.map f/\∀a∈xs,W a
 | [],_=>⟨[],rfl,by simp⟩
 | ds::es,h=>by
  obtain⟨a,rfl,aC⟩:=h ds (by simp);obtain⟨xs,rfl,yj⟩:=J7 f W (es:=es) fun x ae=>h x (by simp[ae])
  refine⟨a::xs,rfl,fun b ah=>?_⟩;rcases dj.1 ah with rfl | ah
  ·exact aC
  exact yj b ah
theorem Sm{α:Type}(f:α->List D)(W:α->Prop){P:Program}{t e:TypeId}{k:Nat}(hu:P.underlying t=some (.slice e))(aT:P.cellsOf e=k)(tr:∀ds,hT P e ds->∃a,ds=f a/\W a){ds:List D}(h:hT P t ds):
  ∃xs:List α,ds=[.aa k (xs.map f)]/\(xs.length:Int)<=9223372036854775807/\∀a∈xs,W a:=by
 obtain⟨es,rfl,ak,he⟩:=Sl hu h;obtain⟨xs,rfl,yj⟩:=J7 f W fun ds dM=>tr ds (he ds dM)
 refine⟨xs,by rw[aT],?_,yj⟩;have hm:maxLen=9223372036854775807:=rfl;rw[br]at ak;omega
theorem Rg{α:Type}{l:List α}(h:l.length=1):∃a0,l=[a0]:=by
 match l,h with
 | [a0],_=>exact⟨a0,rfl⟩
