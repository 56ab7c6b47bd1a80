import Derived.Test.YtdchjefneblpgaaGreatT1
set_option linter.unusedVariables false
set_option linter.unusedSimpArgs false
namespace Go.Proofs.YtdchjefneblpgaaGreat
open Go.Sx Go.RowKit
theorem Tryz.own:ownKnob Tryz.prog.godebug=none:=by kernel_rfl
theorem Tryz.laidOut:laidOutB Tryz.prog=true:=by kernel_rfl
theorem ayd{P:Program}{t e:TypeId}{ds:List D}(hu:P.underlying t=some (.slice e))(h:kP P t ds):∃es,ds=[.J (P.cellsOf e) es]/\es.length<=maxLen/\∀x∈es,kP P e x:=by
 cases h<;>simp_all
theorem Vu{α:Type}(f:α->List D)(W:α->Prop):∀{es:List (List D)},(∀ds∈es,∃a,ds=f a/\W a)->∃xs:List α,es=xs.map f/\∀a∈xs,W a
 | [],_=>⟨[],rfl,by simp⟩
 | ds::es,h=>by
  obtain⟨a,rfl,ae⟩:=h ds (by simp);obtain⟨xs,rfl,zH⟩:=Vu f W (es:=es) fun x aa=>h x (by simp[aa])
  refine⟨a::xs,rfl,fun b aq=>?_⟩;rcases dQ.1 aq with rfl | aq
  ·exact ae
  exact zH b aq
theorem axo{α:Type}(f:α->List D)(W:α->Prop){P:Program}{t e:TypeId}{k:Nat}(hu:P.underlying t=some (.slice e))(hk:P.cellsOf e=k)(zt:∀ds,kP P e ds->∃a,ds=f a/\W a){ds:List D}(h:kP P t ds):
  ∃xs:List α,ds=[.J k (xs.map f)]/\(xs.length:Int)<=9223372036854775807/\∀a∈xs,W a:=by
 obtain⟨es,rfl,aj,he⟩:=ayd hu h;obtain⟨xs,rfl,zH⟩:=Vu f W fun ds e6=>zt ds (he ds e6)
 refine⟨xs,by rw[hk],?_,zH⟩;have hm:maxLen=9223372036854775807:=rfl;rw[cp]at aj;omega
theorem aeR{α:Type}{l:List α}(h:l.length=1):∃a0,l=[a0]:=by
 match l,h with
 | [a0],_=>exact⟨a0,rfl⟩
