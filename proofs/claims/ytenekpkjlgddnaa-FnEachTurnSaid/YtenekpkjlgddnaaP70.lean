/- A record that goes round and round: 22 steps, seven cells, capped at the end. -/
import Derived.Test.YtenekpkjlgddnaaP22
set_option linter.unusedVariables false
set_option linter.unusedSimpArgs false
namespace Go.Proofs.Ytenekpkjlgddnaa
open Go.Sx Go.RowKit
def turnG(a:Int):Graph:=⟨[⟨1,0,0,[1]⟩,⟨6,0,0,[2]⟩,⟨4,a,0,[3]⟩,⟨7,0,0,[1]⟩],1,1⟩
def turnK(a k:Int)(t:Nat):Int:=(k+a*t) % 100
theorem qcz{a:Int}(ha:1≤a∧a≤5):qaC (turnG a)=true:=by
 have:a=1∨a=2∨a=3∨a=4∨a=5:=by omega
 rcases this with rfl | rfl | rfl | rfl | rfl<;>decide +kernel
theorem qiE(a:Int):(turnG a).sz=8:=rfl
theorem qiF(a k:Int)(t:Nat):0≤turnK a k t∧turnK a k t≤99:=by
 unfold turnK
 omega
theorem qov{a:Int}(ha:1≤a∧a≤5)(k:Int)(t:Nat):(turnK a k t+a).tmod 100=turnK a k (t+1):=by
 have h:=qiF a k t
 rw[Int.tmod_eq_emod_of_nonneg (by omega)]
 unfold turnK
 have:a=1∨a=2∨a=3∨a=4∨a=5:=by omega
 rcases this with rfl | rfl | rfl | rfl | rfl<;>push_cast<;>omega
theorem qow{a:Int}(ha:1≤a∧a≤5)(k:Int){s t:Nat}(hst:s<t)(ht:t≤6):turnK a k s≠turnK a k t:=by
 unfold turnK
 have:a=1∨a=2∨a=3∨a=4∨a=5:=by omega
 rcases this with rfl | rfl | rfl | rfl | rfl<;>omega
theorem qox{k:Int}(a:Int)(hk:0≤k∧k≤99):turnK a k 0=k:=by
 unfold turnK
 simp
 omega
theorem qiG(xs:List Cell)(x:Cell):qbo xs x=true↔x∈xs:=by
 simp only[qbo,zcj,zi]
 constructor
 ·rintro⟨a,ha,rfl⟩;exact ha
 ·exact fun h=>⟨x,h,rfl⟩
theorem qoy{xs:List Cell}{x:Cell}(h:¬x∈xs):(qaW xs x).Perm (x::xs):=by
 unfold qaW
 rw[zo (by rw[qiG];exact h)]
 refine List.perm_middle.trans ?_
 rw[zcb]
def turnR(a k v op:Int)(t:Nat):Record:=⟨op,⟨0,t⟩,turnK a k t,v⟩
def TurnC(a k v:Int)(t:Nat)(cs:List Cell):Prop:=cs.length=t∧∀c∈cs,∃s,s<t∧c=⟨1,0,turnK a k s,v⟩
theorem qcZ{a k v:Int}{t:Nat}(hv:0≤v∧v≤999):qaz (turnK a k t) v=true:=by
 have h:=qiF a k t
 simp only[qaz,inR,zj,zi]
 omega
theorem qeq{a k v op:Int}{t:Nat}(hv:0≤v∧v≤999)(ho:0≤op∧op≤7)(ht:t≤6):qaw (turnR a k v op t)=true:=by
 have h:=qcZ (a:=a) (k:=k) (t:=t) hv
 have hs:qaG ⟨0,t⟩=true:=by
  simp only[qaG,inR,zj,zi]
  omega
 have hi:inR op 0 7=true:=by
  simp only[inR,zi]
  omega
 unfold qaw turnR
 rw[h,hs,hi]
 rfl
theorem qiH(g:Graph):∀(n:Nat) (cs:List Cell) (l:List Record),cpGo g n cs l true=true
 | 0,_,_=>rfl
 | _+1,_,[]=>rfl
 | n+1,cs,r::l=>by simp only[cpGo,Bool.true_or];exact qiH g n _ _
section
variable {a k v : Int} (ha : 1 ≤ a ∧ a ≤ 5) (hv : 0 ≤ v ∧ v ≤ 999)
include ha hv
theorem qoz(cs:List Cell):qar (turnG a) cs (turnR a k v 0 0)=(cs,[turnR a k v 1 0],true):=by
 have h1:=qcz ha
 have h2:=qeq (a:=a) (k:=k) (op:=0) (t:=0) hv (by omega) (by omega)
 have h3:=qcZ (a:=a) (k:=k) (t:=0) hv
 have hx:qas (turnG a) (turnR a k v 0 0).op=some ⟨1,0,0,[1]⟩:=rfl
 have h4:=qeo h1 hx
 unfold qar
 rw[hx]
 simp only[qau,h1,h2]
 have hch:qah ⟨1,0,0,[1]⟩ (turnR a k v 0 0).key (turnR a k v 0 0).val=(turnK a k 0,v,true):=by
  simp only[qah,h4,turnR,h3]
  simp
 rw[hch]
 simp[turnR,qai,sends]
theorem qiI{t:Nat}(ht:t≤6){cs:List Cell}(hc:TurnC a k v t cs):∃cs',TurnC a k v (t+1) cs'∧qar (turnG a) cs (turnR a k v 1 t)=(cs',[turnR a k v 2 t],true):=by
 have h1:=qcz ha
 have h2:=qeq (a:=a) (k:=k) (op:=1) (t:=t) hv (by omega) ht
 have h3:=qcZ (a:=a) (k:=k) (t:=t) hv
 have h4:qaa ⟨6,0,0,[2]⟩=true:=by decide +kernel
 have hn:¬(⟨1,0,turnK a k t,v⟩:Cell)∈cs:=fun h=>by
  obtain⟨s,hs,e⟩:=hc.2 _ h
  simp only[Cell.mk.injEq,true_and,and_true]at e
  exact qow ha k hs ht e.symm
 have hf:qbo cs ⟨1,0,turnK a k t,v⟩=false:=by
  cases h:qbo cs ⟨1,0,turnK a k t,v⟩with
  | false=>rfl
  | true=>exact absurd ((qiG _ _).1 h) hn
 have hp:=qoy hn
 refine⟨qaW cs ⟨1,0,turnK a k t,v⟩,⟨by rw[hp.length_eq,zq,hc.1],fun c hcm=>?_⟩,?_⟩
 ·rcases zL.1 (hp.mem_iff.1 hcm) with rfl | h
  ·exact⟨t,by omega,rfl⟩
  ·obtain⟨s,hs,e⟩:=hc.2 c h
   exact⟨s,by omega,e⟩
 ·have hr:qai 6 cs ⟨1,0,turnK a k t,v⟩=(qaW cs ⟨1,0,turnK a k t,v⟩,true):=by simp[qai,hf]
  have hx:qas (turnG a) (turnR a k v 1 t).op=some ⟨6,0,0,[2]⟩:=rfl
  unfold qar
  rw[hx]
  simp only[qau,h1,h2]
  have hch:qah ⟨6,0,0,[2]⟩ (turnR a k v 1 t).key (turnR a k v 1 t).val=(turnK a k t,v,true):=by
   simp only[qah,h4,turnR,h3]
   simp
  rw[hch]
  simp only[turnR]at hr ⊢
  simp[hr,sends]
theorem qiJ{t:Nat}(ht:t≤6)(cs:List Cell):qar (turnG a) cs (turnR a k v 2 t)=(cs,[⟨3,⟨0,t⟩,turnK a k (t+1),v⟩],true):=by
 have h1:=qcz ha
 have h2:=qeq (a:=a) (k:=k) (op:=2) (t:=t) hv (by omega) ht
 have h3:=qcZ (a:=a) (k:=k) (t:=t) hv
 have hx:qas (turnG a) (turnR a k v 2 t).op=some ⟨4,a,0,[3]⟩:=rfl
 have h4:=qeo h1 hx
 unfold qar
 rw[hx]
 simp only[qau,h1,h2]
 have hch:qah ⟨4,a,0,[3]⟩ (turnR a k v 2 t).key (turnR a k v 2 t).val=(turnK a k (t+1),v,true):=by
  simp only[qah,h4,turnR,h3]
  simp[qov ha]
 rw[hch]
 simp[turnR,qai,sends]
theorem qiK{t:Nat}(ht:t≤6)(cs:List Cell):qar (turnG a) cs ⟨3,⟨0,t⟩,turnK a k (t+1),v⟩=(cs,(if t<6 then [turnR a k v 1 (t+1)] else []),true):=by
 have h1:=qcz ha
 have h3:=qcZ (a:=a) (k:=k) (t:=t+1) hv
 have h2:qaw ⟨3,⟨0,t⟩,turnK a k (t+1),v⟩=true:=by
  simp only[qaw,qaG,h3,inR,zcs,zj,zi]
  omega
 have hx:qas (turnG a) (⟨3,⟨0,t⟩,turnK a k (t+1),v⟩:Record).op=some ⟨7,0,0,[1]⟩:=rfl
 have h4:=qeo h1 hx
 have hs:qaG ⟨0,t⟩=true:=by
  simp only[qaG,inR,zj,zi]
  omega
 unfold qar
 rw[hx]
 simp only[qau,h1,h2]
 have hch:qah ⟨7,0,0,[1]⟩ (turnK a k (t+1)) v=(turnK a k (t+1),v,true):=by
  simp only[qah,h4,h3]
  simp
 rw[hch]
 by_cases h6:t<6
 ·have hn:qat ⟨0,t⟩=(⟨0,(t:Int)+1⟩,true):=by
   unfold qat
   rw[hs,zbl,zap (by dsimp only;omega),zp rfl]
  simp[qai,hn,sends,h6,turnR]
 ·have hn:qat ⟨0,t⟩=(⟨0,t⟩,false):=by
   unfold qat
   rw[hs,zbl,zt (by dsimp only;omega)]
   rfl
  simp[qai,hn,h6]
omit hv in
theorem qdr(t:Nat)(op key:Int)(ho:op=0∨op=1∨op=2):capped (turnG a) ⟨op,⟨0,t⟩,key,v⟩=false:=by
 have h1:=qcz ha
 rcases ho with rfl | rfl | rfl
 ·have hx:qas (turnG a) (⟨0,⟨0,t⟩,key,v⟩:Record).op=some ⟨1,0,0,[1]⟩:=rfl
  unfold capped
  rw[hx]
  simp[qa6]
 ·have hx:qas (turnG a) (⟨1,⟨0,t⟩,key,v⟩:Record).op=some ⟨6,0,0,[2]⟩:=rfl
  unfold capped
  rw[hx]
  simp[qa6]
 ·have hx:qas (turnG a) (⟨2,⟨0,t⟩,key,v⟩:Record).op=some ⟨4,a,0,[3]⟩:=rfl
  unfold capped
  rw[hx]
  simp[qa6]
theorem qiL{t:Nat}(ht:t≤6):capped (turnG a) ⟨3,⟨0,t⟩,turnK a k (t+1),v⟩=!decide (t<6):=by
 have h1:=qcz ha
 have h3:=qcZ (a:=a) (k:=k) (t:=t+1) hv
 have h2:qaw ⟨3,⟨0,t⟩,turnK a k (t+1),v⟩=true:=by
  simp only[qaw,qaG,h3,inR,zcs,zj,zi]
  omega
 have hs:qaG ⟨0,t⟩=true:=by
  simp only[qaG,inR,zj,zi]
  omega
 have hx:qas (turnG a) (⟨3,⟨0,t⟩,turnK a k (t+1),v⟩:Record).op=some ⟨7,0,0,[1]⟩:=rfl
 have hn:(qat ⟨0,t⟩).2=decide (t<6):=by
  unfold qat
  rw[hs,zbl]
  by_cases h6:t<6
  ·rw[zap (by dsimp only;omega),zp rfl,zap h6]
  ·rw[zt (by dsimp only;omega),zt h6]
   rfl
 unfold capped
 rw[hx]
 simp only[qa6,h1,h2]
 rw[hn]
 simp
theorem qiM:∀(m:Nat) {t:Nat} (n:Nat) {cs:List Cell},t+m=6→TurnC a k v t cs→cpGo (turnG a) (n+(3*m+3)) cs [turnR a k v 1 t] false=true
 | m,t,n,cs,hm,hc=>by
  obtain⟨cs',hc',s1⟩:=qiI ha hv (by omega) hc
  have c1:=qdr (v:=v) ha t 1 (turnK a k t) (.inr (.inl rfl))
  have c2:=qdr (v:=v) ha t 2 (turnK a k t) (.inr (.inr rfl))
  have c3:=qiL ha hv (k:=k) (t:=t) (by omega)
  have s2:=qiJ ha hv (k:=k) (t:=t) (by omega) cs'
  have s3:=qiK ha hv (k:=k) (t:=t) (by omega) cs'
  rw[show n+(3*m+3)=n+3*m+1+1+1 by omega]
  simp only[cpGo]
  rw[s1]
  simp only[List.nil_append,cpGo]
  rw[s2]
  simp only[List.nil_append,cpGo]
  rw[show capped (turnG a) (turnR a k v 1 t)=false from c1,show capped (turnG a) (turnR a k v 2 t)=false from c2,c3,s3]
  simp only[List.nil_append,Bool.or_false,zal]
  match m with
  | 0=>
   have:¬t<6:=by omega
   rw[zt this]
   exact qiH _ _ _ _
  | m+1=>
   have h6:t<6:=by omega
   rw[zap h6,zp h6]
   have:=qiM m (t:=t+1) n (by omega) hc'
   rw[show n+3*(m+1)=n+(3*m+3) by omega]
   exact this
end
end Go.Proofs.Ytenekpkjlgddnaa
