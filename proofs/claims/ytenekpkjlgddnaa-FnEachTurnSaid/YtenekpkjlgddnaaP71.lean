/- FnEachTurn: the law's function returns true. -/
import Derived.Test.YtenekpkjlgddnaaP70
import Derived.Test.YtenekpkjlgddnaaP22
import Derived.Test.YtenekpkjlgddnaaP61
import Derived.Test.YtenekpkjlgddnaaC5
import Derived.Test.YtenekpkjlgddnaaGO
set_option linter.unusedVariables false
set_option linter.unusedSimpArgs false
namespace Go.Proofs.Ytenekpkjlgddnaa
open Go.Sx Go.RowKit Go.Proofs.Try
theorem qdt(l2:List (List D))(n3:Int){r:Record}{n:Nat}{cs cs':List Cell}{l':List Record}{c:Bool}(hcs:cs.length≤100)(hn:n<100)(hl:l'.length≤1)
  (hs:qar (turnG (1+n3.tmod 5)) cs r=(cs',l',true)) (hc:capped (turnG (1+n3.tmod 5)) r=c):
  Tr prog (qab f5 0) (qb8 l2 n3 ([r].map Record.e) n false (cs.map Cell.e)) .normal (qb8 l2 n3 (l'.map Record.e) ((n+1:Nat):Int) c (cs'.map Cell.e)):=by
 have hg:(turnG (1+n3.tmod 5)).sz≤8388608:=by rw[qiE];omega
 have s:=qiC (turnG (1+n3.tmod 5)) cs r hg (by omega)
 rw[hs]at s
 have k:=qiN (turnG (1+n3.tmod 5)) r hg
 rw[hc]at k
 exact tr_to (fun q=>qb8 l2 n3 q ((n+1:Nat):Int) c (cs'.map Cell.e)) (qpa ⟨rfl,dT (by omega),rfl,by omega,by simp,rfl,k,by omega,by simp,rfl,s,rfl,dF (by simp<;>omega),by simp<;>omega,by simp<;>omega,qaM _ Record.flat _,⟨by omega,by omega⟩,trivial⟩) (List.nil_append _)
theorem qiV(l2:List (List D)){n3 k v:Int}(ha:1≤1+n3.tmod 5∧1+n3.tmod 5≤5)(hv:0≤v∧v≤999):∀(m:Nat) {t n:Nat} {cs:List Cell},t+m=6→n+3*m=19→TurnC (1+n3.tmod 5) k v t cs→
  ∃cs':List Cell,cs'.length=7∧qam prog (qab f5 0) (qb8 l2 n3 ([turnR (1+n3.tmod 5) k v 1 t].map Record.e) n false (cs.map Cell.e)) (.exit 0) (qgb l2 n3 true 22 (cs'.map Cell.e))
 | m,t,n,cs,hm,hn,hc=>by
  obtain⟨cs',hc',s1⟩:=qiI ha hv (by omega) hc
  have c1:=qdr (v:=v) ha t 1 (turnK (1+n3.tmod 5) k t) (.inr (.inl rfl))
  have c2:=qdr (v:=v) ha t 2 (turnK (1+n3.tmod 5) k t) (.inr (.inr rfl))
  have c3:=qiL ha hv (k:=k) (t:=t) (by omega)
  have s2:=qiJ ha hv (k:=k) (t:=t) (by omega) cs'
  have s3:=qiK ha hv (k:=k) (t:=t) (by omega) cs'
  have e1:=hc.1
  have e2:=hc'.1
  have f1:=qdt l2 n3 (n:=n) (by omega) (by omega) (by simp) s1 c1
  have f2:=qdt l2 n3 (n:=n+1) (by omega) (by omega) (by simp) s2 c2
  match m with
  | 0=>
   have h6:¬t<6:=by omega
   rw[zo h6]at s3
   rw[zt h6]at c3
   have f3:=qdt l2 n3 (n:=n+1+1) (by omega) (by omega) (by simp) s3 c3
   have hn2:n=19:=by omega
   subst hn2
   exact⟨cs',by omega,.more f1 (.more f2 (.more f3 (.last (qaF 0) (qpb ⟨rfl,trivial⟩))))⟩
  | m+1=>
   have h6:t<6:=by omega
   rw[zp h6]at s3
   rw[zap h6]at c3
   have f3:=qdt l2 n3 (n:=n+1+1) (by omega) (by omega) (by simp) s3 c3
   obtain⟨ce,h1,h2⟩:=qiV l2 ha hv m (t:=t+1) (n:=n+1+1+1) (by omega) (by omega) hc'
   exact⟨ce,h1,.more f1 (.more f2 (.more f3 h2))⟩
theorem qpd(b:List Int)(hb:∀a∈b,(fun n=>0≤n∧n≤255) a):Rt 5 [.one (.sl 1 (b.map eU))] [.one (B true)]:=by
 by_cases hbig:(b.length:Int)>1048576
 ·have:=qiU (b.map eU) trivial
  rw[zap (by simpa using hbig)]at this
  exact qo9 ⟨this,rfl,trivial⟩
 have big:=qiU (b.map eU) trivial
 rw[zt (by simpa using hbig)]at big
 obtain⟨ys,y1,y2,draw⟩:=qo8 b ⟨by omega,hb⟩
 match ys,y1 with
 | p0::p1::p2::rest,y1=>
  have q0:=y2 p0 (by simp)
  have q1:=y2 p1 (by simp)
  have q2:=y2 p2 (by simp)
  have ha:1≤1+p0.tmod 5∧1+p0.tmod 5≤5:=by
   rw[Int.tmod_eq_emod_of_nonneg q0.1]
   omega
  have hk:0≤p1.tmod 100∧p1.tmod 100≤99:=by
   rw[Int.tmod_eq_emod_of_nonneg q1.1]
   omega
  have hv:0≤p2.tmod 1000∧p2.tmod 1000≤999:=by
   rw[Int.tmod_eq_emod_of_nonneg q2.1]
   omega
  have s0:=qoz ha hv (k:=p1.tmod 100) []
  have c0:=qdr (v:=p2.tmod 1000) ha 0 0 (turnK (1+p0.tmod 5) (p1.tmod 100) 0) (.inl rfl)
  have hc:TurnC (1+p0.tmod 5) (p1.tmod 100) (p2.tmod 1000) 0 []:=⟨rfl,by simp⟩
  have e0:turnR (1+p0.tmod 5) (p1.tmod 100) (p2.tmod 1000) 0 0=⟨0,⟨0,0⟩,p1.tmod 100,p2.tmod 1000⟩:=by
   unfold turnR
   rw[qox _ hk]
   rfl
  have f0:=qdt ((p0::p1::p2::rest).map eI) p0 (n:=0) (by simp) (by omega) (by simp) s0 c0
  obtain⟨ce,h1,h2⟩:=qiV ((p0::p1::p2::rest).map eI) ha hv (k:=p1.tmod 100) 6 (t:=0) (n:=1) rfl rfl hc
  have al:=qoM (turnG (1+p0.tmod 5)) [⟨0,⟨0,0⟩,p1.tmod 100,p2.tmod 1000⟩] 0 (by rw[qiE];omega) (by simp)
  have st:qcY [⟨0,⟨0,0⟩,p1.tmod 100,p2.tmod 1000⟩] 0=[turnR (1+p0.tmod 5) (p1.tmod 100) (p2.tmod 1000) 0 0]:=by
   have hr:qaw ⟨0,⟨0,0⟩,p1.tmod 100,p2.tmod 1000⟩=true:=e0▸qeq (a:=1+p0.tmod 5) (k:=p1.tmod 100) (op:=0) (t:=0) hv (by omega) (by omega)
   rw[e0]
   simp[qcY,qcX,hr,fresh]
  have cap:qep (turnG (1+p0.tmod 5)) [⟨0,⟨0,0⟩,p1.tmod 100,p2.tmod 1000⟩] 0=true:=by
   unfold qep
   rw[qcz ha,st,zbl]
   have:=qiM ha hv (k:=p1.tmod 100) 6 (t:=0) 19978 rfl hc
   rw[show (20000:Nat)=19978+(3*6+3)+1 by omega]
   simp only[cpGo]
   rw[s0,show capped (turnG (1+p0.tmod 5)) (turnR (1+p0.tmod 5) (p1.tmod 100) (p2.tmod 1000) 0 0)=false from c0]
   exact this
  rw[cap]at al
  rw[e0]at f0
  exact qpc ⟨big,rfl,draw,by omega,by simp<;>omega,rfl,by omega,⟨by omega,by omega⟩,by omega,by simp<;>omega,rfl,by omega,by omega,by simp<;>omega,rfl,by omega,.more f0 h2,rfl,rfl,by simp[h1],by omega,by simp<;>omega,rfl,by omega,by omega,by simp<;>omega,rfl,by omega,al,trivial⟩
end Go.Proofs.Ytenekpkjlgddnaa
