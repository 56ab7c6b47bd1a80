import Derived.Test.YthfnndblgbjniaaGreatT1
set_option linter.unusedVariables false
set_option linter.unusedSimpArgs false
namespace Go.Proofs.YthfnndblgbjniaaGreat
open Go.Sx Go.RowKit
theorem Tryz.own:ownKnob Tryz.prog.godebug=none:=by kernel_rfl
theorem Tryz.laidOut:laidOutB Tryz.prog=true:=by kernel_rfl
theorem azP{P:Program}{t e:TypeId}{ds:List D}(hu:P.underlying t=some (.slice e))(h:kN P t ds):∃es,ds=[.J (P.cellsOf e) es]/\es.length<=maxLen/\∀x∈es,kN P e x:=by
 cases h<;>simp_all
theorem U1{α:Type}(f:α->List D)(W:α->Prop):∀{es:List (List D)},(∀ds∈es,∃a,ds=f a/\W a)->∃xs:List α,es=xs.map f/\∀a∈xs,W a
 | [],_=>⟨[],rfl,by simp⟩
 | ds::es,h=>by
  obtain⟨a,rfl,ah⟩:=h ds (by simp);obtain⟨xs,rfl,vG⟩:=U1 f W (es:=es) fun x ag=>h x (by simp[ag])
  refine⟨a::xs,rfl,fun b aw=>?_⟩;rcases ev.1 aw with rfl | aw
  ·exact ah
  exact vG b aw
theorem azQ{α:Type}(f:α->List D)(W:α->Prop){P:Program}{t e:TypeId}{k:Nat}(hu:P.underlying t=some (.slice e))(hk:P.cellsOf e=k)(zm:∀ds,kN P e ds->∃a,ds=f a/\W a){ds:List D}(h:kN P t ds):
  ∃xs:List α,ds=[.J k (xs.map f)]/\(xs.length:Int)<=9223372036854775807/\∀a∈xs,W a:=by
 obtain⟨es,rfl,al,he⟩:=azP hu h;obtain⟨xs,rfl,vG⟩:=U1 f W fun ds fj=>zm ds (he ds fj)
 refine⟨xs,by rw[hk],?_,vG⟩;have hm:maxLen=9223372036854775807:=rfl;rw[b']at al;omega
theorem afw{α:Type}{l:List α}(h:l.length=1):∃a0,l=[a0]:=by
 match l,h with
 | [a0],_=>exact⟨a0,rfl⟩
