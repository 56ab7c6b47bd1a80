import Derived.Test.YtdchjefneblpgaaGreatT1
set_option linter.unusedVariables false
set_option linter.unusedSimpArgs false
namespace Go.Proofs.YtdchjefneblpgaaGreat
open Go.Sx Go.RowKit
theorem Tryz.own:ownKnob Tryz.prog.godebug=none:=by kernel_rfl
theorem Tryz.laidOut:laidOutB Tryz.prog=true:=by kernel_rfl
theorem akK{P:Program}{t e:TypeId}{ds:List D}(hu:P.underlying t=some (.slice e))(h:jy P t ds):∃es,ds=[.J (P.cellsOf e) es]/\es.length<=maxLen/\∀x∈es,jy P e x:=by
 cases h<;>simp_all
theorem PY{α:Type}(f:α->List D)(W:α->Prop):∀{es:List (List D)},(∀ds∈es,∃a,ds=f a/\W a)->∃xs:List α,es=xs.map f/\∀a∈xs,W a
 | [],_=>⟨[],rfl,by simp⟩
 | ds::es,h=>by
  obtain⟨a,rfl,ah⟩:=h ds (by simp);obtain⟨xs,rfl,wO⟩:=PY f W (es:=es) fun x ag=>h x (by simp[ag])
  refine⟨a::xs,rfl,fun b ar=>?_⟩;rcases eu.1 ar with rfl | ar
  ·exact ah
  exact wO b ar
theorem akL{α:Type}(f:α->List D)(W:α->Prop){P:Program}{t e:TypeId}{k:Nat}(hu:P.underlying t=some (.slice e))(hk:P.cellsOf e=k)(sP:∀ds,jy P e ds->∃a,ds=f a/\W a){ds:List D}(h:jy P t ds):
  ∃xs:List α,ds=[.J k (xs.map f)]/\(xs.length:Int)<=9223372036854775807/\∀a∈xs,W a:=by
 obtain⟨es,rfl,al,he⟩:=akK hu h;obtain⟨xs,rfl,wO⟩:=PY f W fun ds ek=>sP ds (he ds ek)
 refine⟨xs,by rw[hk],?_,wO⟩;have hm:maxLen=9223372036854775807:=rfl;rw[bk]at al;omega
theorem YF{α:Type}{l:List α}(h:l.length=1):∃a0,l=[a0]:=by
 match l,h with
 | [a0],_=>exact⟨a0,rfl⟩
