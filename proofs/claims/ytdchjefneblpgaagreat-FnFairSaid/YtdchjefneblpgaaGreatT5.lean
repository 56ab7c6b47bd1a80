import Derived.Test.YtdchjefneblpgaaGreatT1
set_option linter.unusedVariables false
set_option linter.unusedSimpArgs false
namespace Go.Proofs.YtdchjefneblpgaaGreat
open Go.Sx Go.RowKit
theorem Tryz.own:ownKnob Tryz.prog.godebug=none:=by kernel_rfl
theorem Tryz.laidOut:laidOutB Tryz.prog=true:=by kernel_rfl
theorem aya{P:Program}{t e:TypeId}{ds:List D}(hu:P.underlying t=some (.slice e))(h:kx P t ds):∃es,ds=[.J (P.cellsOf e) es]/\es.length<=maxLen/\∀x∈es,kx P e x:=by
 cases h<;>simp_all
theorem TL{α:Type}(f:α->List D)(W:α->Prop):∀{es:List (List D)},(∀ds∈es,∃a,ds=f a/\W a)->∃xs:List α,es=xs.map f/\∀a∈xs,W a
 | [],_=>⟨[],rfl,by simp⟩
 | ds::es,h=>by
  obtain⟨a,rfl,ai⟩:=h ds (by simp);obtain⟨xs,rfl,zn⟩:=TL f W (es:=es) fun x af=>h x (by simp[af])
  refine⟨a::xs,rfl,fun b aw=>?_⟩;rcases eH.1 aw with rfl | aw
  ·exact ai
  exact zn b aw
theorem ayb{α:Type}(f:α->List D)(W:α->Prop){P:Program}{t e:TypeId}{k:Nat}(hu:P.underlying t=some (.slice e))(hk:P.cellsOf e=k)(y7:∀ds,kx P e ds->∃a,ds=f a/\W a){ds:List D}(h:kx P t ds):
  ∃xs:List α,ds=[.J k (xs.map f)]/\(xs.length:Int)<=9223372036854775807/\∀a∈xs,W a:=by
 obtain⟨es,rfl,al,he⟩:=aya hu h;obtain⟨xs,rfl,zn⟩:=TL f W fun ds fc=>y7 ds (he ds fc)
 refine⟨xs,by rw[hk],?_,zn⟩;have hm:maxLen=9223372036854775807:=rfl;rw[ct]at al;omega
theorem ad6{α:Type}{l:List α}(h:l.length=1):∃a0,l=[a0]:=by
 match l,h with
 | [a0],_=>exact⟨a0,rfl⟩
