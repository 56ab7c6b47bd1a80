/- FnEpochsApart: the law's function returns true. -/
import Derived.Test.YtdkobdhckkjmeaaGreatP96
import Derived.Test.YtdkobdhckkjmeaaGreatP97
import Derived.Test.YtdkobdhckkjmeaaGreatP61
import Derived.Test.YtdkobdhckkjmeaaGreatQ2
import Derived.Test.YtdkobdhckkjmeaaGreatGK
set_option linter.unusedVariables false
set_option linter.unusedSimpArgs false
namespace Go.Proofs.YtdkobdhckkjmeaaGreat
open Go.Sx Go.RowKit Go.Proofs.Tryz
theorem ofEpoch_own(e:Int)(xs:List Record):qmF e (xs.filter fun r=>r.stamp.epoch==e)=qmF e xs:=by
 simp only[qmF,qa5,List.filter_filter,Bool.and_self]
theorem resultOf_own(g:Graph)(e:Int)(xs:List Record):resultOf g e (xs.filter fun r=>r.stamp.epoch==e)=resultOf g e xs:=by
 unfold resultOf qEu;rw[ofEpoch_own]
theorem own_loop(g:Graph)(xs:List Record)(ps:List Pick)(p:Int)(hl:xs.length≤5):
  qam prog (qaa f5 0) (laws_FnEpochsApart_L0 (g.nodes.map Node.e) g.workers g.cap (xs.map Record.e) (ps.map Pick.e) p 0 []) (.exit 0)
   (laws_FnEpochsApart_X0 (g.nodes.map Node.e) g.workers g.cap (xs.map Record.e) (ps.map Pick.e) p ((xs.filter fun r=>r.stamp.epoch==p.tmod 4).map Record.e)):=by
 let q:=fun r:Record=>r.stamp.epoch==p.tmod 4
 have l:=qao (P:=prog) (c:=(qaa f5 0)) (qaf 0) xs.length (fun i:Nat=>laws_FnEpochsApart_L0 (g.nodes.map Node.e) g.workers g.cap (xs.map Record.e) (ps.map Pick.e) p i (((xs.take i).filter q).map Record.e)) (fun i hi=>by
  obtain⟨a,ha⟩:=qal hi;have hf:=qjx q xs i;have hs:=qe1 q ha;by_cases hp:q a=true
  ·rw[zp hp]at hs;rw[hs,zU];exact laws_FnEpochsApart_L0_s0 ⟨lt1 hi,lt0,lt2 hi,qac Record.e ha,hp,lt0,lt2 hi,qac Record.e ha,by simp;omega,by simp;omega,qat a.flat,up1 hi (by omega),trivial⟩
  ·rw[zo hp,zaa]at hs;rw[hs];exact laws_FnEpochsApart_L0_s1 ⟨lt1 hi,lt0,lt2 hi,qac Record.e ha,zQ.2 hp,up1 hi (by omega),trivial⟩) (laws_FnEpochsApart_L0_x2 ⟨ge1,trivial⟩)
 rwa[zC]at l
theorem right_law{g:Graph}{xs:List Record}(hg:Drawn g)(hx:∀r∈xs,Input r)(hl:xs.length≤5)(ps:List Pick)(hp:ps.length≤81):
  ∃(d:Cluster) (j:Nat),qce (qah (qaI g xs) ps).1 3000=(d,j)∧d.graph=g∧d.workers.length=g.workers.toNat∧d.sz≤1300000∧qai d=true∧
   ∀e:Int,0≤e∧e≤3→∃f:Done,(∀w∈d.workers,qd3 w e=(f,true))∧(f.capped=false→outCells d e=resultOf g e xs):=by
 obtain⟨d,j,e1,_,e2,e3,e4,h⟩:=right_run hg hx hl ps (by omega);have hn:=qkr hg (by omega) hx;have hs:=hg.size;have hz:=qs4 hn;have hz2:=qh0 ps (qaI g xs);have hz3:=qnW (qaV 3000 0 3000).toNat (qah (qaI g xs) ps).1 0;change (qce (qah (qaI g xs) ps).1 3000).1.sz≤_ at hz3;have hb3:(qaV 3000 0 3000).toNat=3000:=by decide
 rw[hb3,e1]at hz3;dsimp only at hz3;exact⟨d,j,e1,e2,e3,by omega,e4,h⟩
theorem law_EpochsApart(b:List Int)(hb:∀a∈b,(fun n=>0≤n∧n≤255) a):Rt 5 [.one (.sl 1 (b.map eU))] [.one (B true)]:=by
 by_cases hbig:(b.length:Int)>1048576
 ·have:=qkF (b.map eU) trivial;rw[zap (by simpa using hbig)]at this;exact laws_FnEpochsApart_p0 ⟨this,rfl,trivial⟩
 have big:=qkF (b.map eU) trivial;rw[zt (by simpa using hbig)]at big;obtain⟨g,xs,ps,hg,⟨x1,x2⟩,⟨p1,p2⟩,draw⟩:=qMS b ⟨by omega,hb⟩;obtain⟨ys,yl,yb,places⟩:=spec_DrawPlaces_ret b ⟨by omega,hb⟩;obtain⟨p,hp⟩:=qal (xs:=ys) (i:=0) (by omega);have hpb:=yb p (qag hp);have he:0≤p.tmod 4∧p.tmod 4≤3:=by
  rw[Int.tmod_eq_emod_of_nonneg hpb.1];omega
 have l0:=own_loop g xs ps p x1;generalize hown:(xs.filter fun r=>r.stamp.epoch==p.tmod 4)=own at l0;have ol:own.length≤5:=by rw[←hown];exact zce (zat ..) x1
 have ox:∀r∈own,Input r:=fun r hr=>by rw[←hown]at hr;exact x2 r ((List.mem_filter.1 hr).1)
 have hn:=qkr hg (by omega) x2;have hno:=qkr hg (by omega) ox;have hs:=hg.size;have hz:=qs4 hn;have hzo:=qs4 hno;have nw:=qs3 g xs (by omega);have nwo:=qs3 g own (by omega);rw[qkk hn]at nw;rw[qkk hno]at nwo;have got:=qs5 g xs;have goto:=qs5 g own;have rp:=qPw (qaI g xs) ps (by omega) got;have hz2:=qh0 ps (qaI g xs);have got2:=(qgG ps (qaI g xs)).got got;have fr:=qPB (qah (qaI g xs) ps).1 3000 (by omega) got2;have fro:=qPB (qaI g own) 3000 (by omega) goto;obtain⟨d,j,e1,e2,e3,e4,e5,h⟩:=right_law hg x2 x1 ps p1;obtain⟨d',j',e1',e2',e3',e4',e5',h'⟩:=right_law hg ox ol [] (by simp);rw[qJB]at e1';rw[e1]at fr;rw[e1']at fro;have hw:=hg.workers;obtain⟨w,h0⟩:=qal (xs:=d.workers) (i:=0) (by omega);obtain⟨w',h0'⟩:=qal (xs:=d'.workers) (i:=0) (by omega);obtain⟨f,f1,f2⟩:=h _ he;obtain⟨f',f1',f2'⟩:=h' _ he;have dn:=quz w (p.tmod 4) (Cluster.worker_sz (by omega) (qag h0));have dn':=quz w' (p.tmod 4) (Cluster.worker_sz (by omega) (qag h0'));rw[f1 w (qag h0)]at dn;rw[f1' w' (qag h0')]at dn';have oc:=impl_OutCells_ret d (p.tmod 4) (by omega);have oc':=impl_OutCells_ret d' (p.tmod 4) (by omega);have fin:Rt 5 [.one (.sl 1 (b.map eU))] [.one (B (((d.workers.map Worker.e).length:Int)==g.workers))]:=by
  have n1:(((d.workers.map Worker.e).length:Int) != g.workers)=false:=by simp;omega
  have n2:(((d'.workers.map Worker.e).length:Int) != g.workers)=false:=by simp;omega
  have z1:(0:Int)<((d.workers.map Worker.e).length:Nat):=by simp;omega
  have z2:(0:Int)<((d'.workers.map Worker.e).length:Nat):=by simp;omega
  have z3:(0:Int)<((ys.map eI).length:Nat):=by simp;omega
  cases c1:f.capped with
  | true=>exact laws_FnEpochsApart_p3 ⟨big,rfl,draw,places,by decide,z3,qac eI (i:=0) hp,by decide,l0,nw,rp,fr,nwo,fro,n1,n2,by decide,z1,qac Worker.e (i:=0) h0,dn,by decide,z2,qac Worker.e (i:=0) h0',dn',rfl,rfl,c1,trivial⟩
  | false=>
   cases c2:f'.capped with
   | true=>exact laws_FnEpochsApart_p4 ⟨big,rfl,draw,places,by decide,z3,qac eI (i:=0) hp,by decide,l0,nw,rp,fr,nwo,fro,n1,n2,by decide,z1,qac Worker.e (i:=0) h0,dn,by decide,z2,qac Worker.e (i:=0) h0',dn',rfl,rfl,c1,c2,trivial⟩
   | false=>
    rw[f2 c1]at oc;rw[f2' c2,←hown,resultOf_own]at oc';have hle:(resultOf g (p.tmod 4) xs).length≤8388608:=by
     rw[←f2 c1];exact outCells_le (by omega)
    exact laws_FnEpochsApart_p5 ⟨big,rfl,draw,places,by decide,z3,qac eI (i:=0) hp,by decide,l0,nw,rp,fr,nwo,fro,n1,n2,by decide,z1,qac Worker.e (i:=0) h0,dn,by decide,z2,qac Worker.e (i:=0) h0',dn',rfl,rfl,c1,c2,oc,oc',qQt _ hle,rfl,trivial⟩
 have:(((d.workers.map Worker.e).length:Int)==g.workers)=true:=by simp;omega
 rwa[this]at fin
end Go.Proofs.YtdkobdhckkjmeaaGreat
