import Derived.Test.YtdkobdhckkjmeaaGreatP17
import Derived.Test.YtdkobdhckkjmeaaGreatP21
set_option linter.unusedVariables false
set_option linter.unusedSimpArgs false
namespace Go.Proofs.YtdkobdhckkjmeaaGreat
open Go.Sx Go.RowKit Go.Proofs.Tryz
def qau(g:Graph)(cs:List Cell)(r:Record):List Cell×List Record×Bool:=match qaP g r.op with | some x=>qas g cs r x | none=>(cs,[],false)
theorem qIJ(g:Graph)(cs:List Cell)(r:Record)(hg:g.sz≤8388608)(hl:cs.length≤8388608):Rt 209 [.agg g.e,.one (.sl 4 (cs.map Cell.e)),.agg r.e] [.one (.sl 4 ((qau g cs r).1.map Cell.e)),.one (.sl 5 ((qau g cs r).2.1.map Record.e)),.one (B (qau g cs r).2.2)]:=by
 unfold qau;cases h:qaP g r.op with
 | some x=>exact qIH g cs r x hg hl h
 | none=>exact qHV ⟨by simp<;>omega,by simp<;>omega,qae _ Cell.flat _,qjB g r.op (⟨0,0,0,[]⟩,false) (by unfold qeh;rw[h]) hg,rfl,trivial⟩
def qbH(g:Graph)(r:Record)(x:Node):Bool:=qaw g&&qaB r&&x.kind==7&&decide (0<x.outs.length)&&!(qaG r.stamp).2
def capped(g:Graph)(r:Record):Bool:=match qaP g r.op with | some x=>qbH g r x | none=>false
theorem qIL(g:Graph)(r:Record)(x:Node)(hg:g.sz≤8388608)(hn:qaP g r.op=some x):Rt 210 [.agg g.e,.agg r.e] [.one (B (qbH g r x))]:=by
 have c1:=qjB g r.op (x,true) (by unfold qeh;rw[hn]) hg;have c2:=qgl r.stamp;have c3:=qjC g hg;rcases ze (qaw g) with h4 | h4
 ·skip
  have c5:=qdQ r;rcases ze (qaB r) with h6 | h6
  ·skip
   rcases ze (x.kind==7) with h7 | h7
   ·skip
    rcases ze (decide ((↑(x.outs.map eI).length:Int)>0)) with h8 | h8
    ·skip
     rw[show qbH g r x=(!((qaG r.stamp).2)) from by grind[qbH]];exact qHP ⟨c1,c2,rfl,c3,h4,c5,h6,h7,h8,trivial⟩
    ·skip
     rw[show qbH g r x=false from by grind[qbH]];exact qHQ ⟨c1,c2,rfl,c3,h4,c5,h6,h7,h8,trivial⟩
   ·skip
    rw[show qbH g r x=false from by grind[qbH]];exact qHR ⟨c1,c2,rfl,c3,h4,c5,h6,h7,trivial⟩
  ·skip
   rw[show qbH g r x=false from by grind[qbH]];exact qHS ⟨c1,c2,rfl,c3,h4,c5,h6,trivial⟩
 ·skip
  rw[show qbH g r x=false from by grind[qbH]];exact qHT ⟨c1,c2,rfl,c3,h4,trivial⟩
theorem qIM(g:Graph)(r:Record)(hg:g.sz≤8388608):Rt 210 [.agg g.e,.agg r.e] [.one (B (capped g r))]:=by
 unfold capped;cases h:qaP g r.op with
 | some x=>exact qIL g r x hg h
 | none=>exact qHU ⟨qjB g r.op (⟨0,0,0,[]⟩,false) (by unfold qeh;rw[h]) hg,qgl r.stamp,rfl,trivial⟩
theorem qm1{g:Graph}(h:qaw g=true){op:Int}{x:Node}(hn:qaP g op=some x):qab x=true:=by
 simp only[qaw,zj,zS]at h;unfold qaP at hn;split at hn
 ·have:=qgc h.2 op.toNat x hn;simp only[qbv,zy,zX]at this;exact this.1.1
 ·cases hn
theorem qIN{x:Node}(h:qab x=true):x.outs.length≤2:=by
 simp only[qab,zj,zi]at h;exact h.1.1.1.2
theorem qIO(kind:Int)(cs:List Cell)(x:Cell):(qaj kind cs x).1.length≤cs.length+1:=by
 have h1:=qqH cs x;have h2:=qqH (cs.filter fun a=>!qaF x a) x;have h3:=zat (fun a=>!qaF x a) cs;unfold qaj;split
 ·split<;>simp<;>omega
 ·split
  ·unfold qba;split<;>simp<;>omega
  ·simp
theorem qIP{g:Graph}(hg:qaw g=true)(cs:List Cell)(r:Record):(qau g cs r).1.length≤cs.length+1∧(qau g cs r).2.1.length≤2:=by
 unfold qau;cases h:qaP g r.op with
 | none=>exact⟨by simp,by simp⟩
 | some x=>
  have hx:=qIN (qm1 hg h);have hr:=qIO x.kind cs ⟨r.op,r.stamp.epoch,r.key,r.val⟩;have hs:∀s k v,(sends x s k v).length≤2:=fun s k v=>by simpa[sends]using hx
  simp only[qas];split
  ·split
   ·exact⟨by simp,by simp⟩
   ·split
    ·exact⟨hr,by simp⟩
    ·split
     ·refine⟨hr,?_⟩;cases (qaG r.stamp).2 with
      | true=>exact hs _ _ _
      | false=>simp
     ·exact⟨hr,hs _ _ _⟩
  ·exact⟨by simp,by simp⟩
end Go.Proofs.YtdkobdhckkjmeaaGreat
namespace Go.Proofs.YtdkobdhckkjmeaaGreat
open Go.Sx Go.RowKit Go.Proofs.Tryz
def qjU(p:Cell×Cell):Bool:=decide (qbg p.1 p.2≥0)
def qbI(xs:List Cell):Bool:=!((xs.zip (xs.drop 1)).any qjU)
theorem qhN{xs:List Cell}{i:Nat}{p:Cell×Cell}(h:(xs.zip (xs.drop 1))[i]?=some p):xs[i]?=some p.1∧xs[i+1]?=some p.2:=by
 rw[List.getElem?_zip_eq_some]at h;obtain⟨h1,h2⟩:=h;rw[zA,Nat.add_comm]at h2;exact⟨h1,h2⟩
theorem qIQ(xs:List Cell)(hl:xs.length≤8388608):Rt 280 [.one (.sl 4 (xs.map Cell.e))] [.one (B (qbI xs))]:=by
 have e0:∀i:Nat,(((i:Int)+1)-1).toNat=i:=fun i=>by omega
 have e1:∀i:Nat,(((i:Int)+1)).toNat=i+1:=fun i=>by omega
 have hz:(xs.zip (xs.drop 1)).length=xs.length-1:=by simp
 have l:=qaW (P:=prog) (c:=(qaa f280 0)) (xs.zip (xs.drop 1)) qjU (fun i=>qej (xs.map Cell.e) ((i:Int)+1)) (X:=fun _ _=>qmL false) qaE (qaf 0)
  (fun i a ha h=>by
   obtain⟨h1,h2⟩:=qhN ha;have hi:=lt_of h2;refine tr_to (qej (xs.map Cell.e)) (qE4 ⟨dT (by simp only[zb];omega),⟨by omega,by omega⟩,by omega,by simp only[zb];omega,by rw[e0,zr,h1];rfl,by omega,by simp only[zb];omega,by rw[e1,zr,h2];rfl,qjx a.1 a.2,h,⟨by omega,by omega⟩,trivial⟩) (by omega))
  (fun i a ha h=>by
   obtain⟨h1,h2⟩:=qhN ha;have hi:=lt_of h2;exact qE3 ⟨dT (by simp only[zb];omega),⟨by omega,by omega⟩,by omega,by simp only[zb];omega,by rw[e0,zr,h1];rfl,by omega,by simp only[zb];omega,by rw[e1,zr,h2];rfl,qjx a.1 a.2,h,trivial⟩)
  (qE5 ⟨dF (by rw[hz];simp only[zb];omega),trivial⟩)
 unfold qbI;rcases l with⟨_,_,h1,h2⟩ | ⟨i,a,_,_,_,_,h1,h2⟩
 ·rw[h1];exact qE7 ⟨h2,trivial⟩
 ·rw[h1];exact qE6 ⟨h2,trivial⟩
theorem qrQ(xs:List Cell)(r:Bool)(h:qbI xs=r)(hl:xs.length≤8388608):Rt 280 [.one (.sl 4 (xs.map Cell.e))] [.one (B r)]:=h▸qIQ xs hl
theorem qIR(xs:List Cell)(hl:xs.length≤8388608):Rt 278 [.one (.sl 4 (xs.map Cell.e))] [.one (B (qbI xs))]:=by
 have e0:∀i:Nat,(((i:Int)+1)-1).toNat=i:=fun i=>by omega
 have e1:∀i:Nat,(((i:Int)+1)).toNat=i+1:=fun i=>by omega
 have hz:(xs.zip (xs.drop 1)).length=xs.length-1:=by simp
 have l:=qaW (P:=prog) (c:=(qaa f278 0)) (xs.zip (xs.drop 1)) qjU (fun i=>qek (xs.map Cell.e) ((i:Int)+1)) (X:=fun _ _=>qmM false) qaE (qaf 0)
  (fun i a ha h=>by
   obtain⟨h1,h2⟩:=qhN ha;have hi:=lt_of h2;refine tr_to (qek (xs.map Cell.e)) (qE9 ⟨dT (by simp only[zb];omega),⟨by omega,by omega⟩,by omega,by simp only[zb];omega,by rw[e0,zr,h1];rfl,by omega,by simp only[zb];omega,by rw[e1,zr,h2];rfl,qjw a.1 a.2,h,⟨by omega,by omega⟩,trivial⟩) (by omega))
  (fun i a ha h=>by
   obtain⟨h1,h2⟩:=qhN ha;have hi:=lt_of h2;exact qE8 ⟨dT (by simp only[zb];omega),⟨by omega,by omega⟩,by omega,by simp only[zb];omega,by rw[e0,zr,h1];rfl,by omega,by simp only[zb];omega,by rw[e1,zr,h2];rfl,qjw a.1 a.2,h,trivial⟩)
  (qFa ⟨dF (by rw[hz];simp only[zb];omega),trivial⟩)
 unfold qbI;rcases l with⟨_,_,h1,h2⟩ | ⟨i,a,_,_,_,_,h1,h2⟩
 ·rw[h1];exact qFc ⟨h2,trivial⟩
 ·rw[h1];exact qFb ⟨h2,trivial⟩
theorem qrR(xs:List Cell)(r:Bool)(h:qbI xs=r)(hl:xs.length≤8388608):Rt 278 [.one (.sl 4 (xs.map Cell.e))] [.one (B r)]:=h▸qIR xs hl
def qbA(g:Graph)(r:Record):Bool:=!qaB r||decide (r.op≥(g.nodes.length:Int))
def qaV(g:Graph)(xs:List Record):Bool:=!(xs.any (qbA g))
theorem qIS{r:Record}(h:qaB r=true):0≤r.op:=by
 simp only[qaB,zj,inR,zi]at h;omega
theorem qIT(g:Graph)(xs:List Record)(hl:xs.length≤8388608):Rt 177 [.agg g.e,.one (.sl 5 (xs.map Record.e))] [.one (B (qaV g xs))]:=by
 have l:=qaW (P:=prog) (c:=(qaa f177 0)) xs (qbA g) (fun i=>qel (g.nodes.map Node.e) g.workers g.cap (xs.map Record.e) i) (X:=fun _ _=>qjI false) qaE (qaf 0)
  (fun i a ha h=>by
   simp only[qbA,zy,zX]at h;have c:=qdQ a;rw[h.1]at c;exact qFf ⟨lt1 (lt_of ha),lt0,lt2 (lt_of ha),qac Record.e ha,c,rfl,lt0,lt2 (lt_of ha),qac Record.e ha,by rw[zb];exact h.2,up1 (lt_of ha) hl,trivial⟩)
  (fun i a ha h=>by
   have c:=qdQ a;cases hr:qaB a with
   | false=>
    rw[hr]at c;exact qFd ⟨lt1 (lt_of ha),lt0,lt2 (lt_of ha),qac Record.e ha,c,rfl,trivial⟩
   | true=>
    rw[hr]at c;simp only[qbA,hr,zZ,zal]at h;exact qFe ⟨lt1 (lt_of ha),lt0,lt2 (lt_of ha),qac Record.e ha,c,rfl,lt0,lt2 (lt_of ha),qac Record.e ha,by rw[zb];exact h,trivial⟩)
  (qFg ⟨ge1,trivial⟩)
 unfold qaV;rcases l with⟨_,_,h1,h2⟩ | ⟨i,a,_,_,_,_,h1,h2⟩
 ·rw[h1];exact qFi ⟨h2,trivial⟩
 ·rw[h1];exact qFh ⟨h2,trivial⟩
theorem qrS{g:Graph}{r:Record}(h:qaB r=true):(qaP g r.op).isSome=!(decide (r.op≥(g.nodes.length:Int))):=by
 have h0:=qIS h;unfold qaP;rw[zp h0];by_cases hc:r.op≥(g.nodes.length:Int)
 ·rw[dT hc,List.getElem?_eq_none (by omega)];rfl
 ·rw[dF hc,zu (by omega)];rfl
theorem qIU(g:Graph)(xs:List Record)(hg:g.sz≤8388608)(hl:xs.length≤8388608):Rt 174 [.agg g.e,.one (.sl 5 (xs.map Record.e))] [.one (B (qaV g xs))]:=by
 have l:=qaW (P:=prog) (c:=(qaa f174 0)) xs (qbA g) (fun i=>qem (xs.map Record.e) i (g.nodes.map Node.e) g.workers g.cap) (X:=fun _ _=>qjJ false) qaE (qaf 0)
  (fun i a ha h=>by
   simp only[qbA,zy,zX]at h;have c:=qds a;rw[h.1]at c;exact qFl ⟨lt1 (lt_of ha),lt0,lt2 (lt_of ha),qac Record.e ha,c,rfl,qgk g a.op true (by rw[qrS h.1,h.2];rfl) hg,rfl,up1 (lt_of ha) hl,trivial⟩)
  (fun i a ha h=>by
   have c:=qds a;cases hr:qaB a with
   | false=>
    rw[hr]at c;exact qFj ⟨lt1 (lt_of ha),lt0,lt2 (lt_of ha),qac Record.e ha,c,rfl,trivial⟩
   | true=>
    rw[hr]at c;simp only[qbA,hr,zZ,zal]at h;exact qFk ⟨lt1 (lt_of ha),lt0,lt2 (lt_of ha),qac Record.e ha,c,rfl,qgk g a.op false (by rw[qrS hr,h];rfl) hg,rfl,trivial⟩)
  (qFm ⟨ge1,trivial⟩)
 unfold qaV;rcases l with⟨_,_,h1,h2⟩ | ⟨i,a,_,_,_,_,h1,h2⟩
 ·rw[h1];exact qFo ⟨h2,trivial⟩
 ·rw[h1];exact qFn ⟨h2,trivial⟩
theorem qfx(g:Graph)(xs:List Record)(r:Bool)(h:qaV g xs=r)(_:g.sz≤8388608)(hl:xs.length≤8388608):Rt 177 [.agg g.e,.one (.sl 5 (xs.map Record.e))] [.one (B r)]:=h▸qIT g xs hl
theorem qfy(g:Graph)(xs:List Record)(r:Bool)(h:qaV g xs=r)(hg:g.sz≤8388608)(hl:xs.length≤8388608):Rt 174 [.agg g.e,.one (.sl 5 (xs.map Record.e))] [.one (B r)]:=h▸qIU g xs hg hl
def qbq(l:Link):Bool:=
 inR l.cap 1 4&&inR l.credits 0 l.cap&&inR l.back 0 l.cap&&(l.credits+l.back+l.queue.length==l.cap)&&inR l.sent 0 1000000000&&decide (0≤l.got)&&(l.got==l.sent-l.queue.length)&&!(l.queue.any fun r=>!qaB r)
theorem qIV(xs:List Record)(hl:xs.length≤8388608):Rt 279 [.one (.sl 5 (xs.map Record.e))] [.one (B (!(xs.any fun r=>!qaB r)))]:=by
 have l:=qaW (P:=prog) (c:=(qaa f279 0)) xs (fun r=>!qaB r) (fun i=>qfn (xs.map Record.e) i) (X:=fun _ _=>qmV false) qaE (qaf 0)
  (fun i a ha h=>qGy ⟨lt1 (lt_of ha),lt0,lt2 (lt_of ha),qac Record.e ha,qds a,h,up1 (lt_of ha) hl,trivial⟩)
  (fun i a ha h=>qGx ⟨lt1 (lt_of ha),lt0,lt2 (lt_of ha),qac Record.e ha,qds a,h,trivial⟩)
  (qGz ⟨ge1,trivial⟩)
 rcases l with⟨_,_,h1,h2⟩ | ⟨i,a,_,_,_,_,h1,h2⟩
 ·rw[h1];exact qGB ⟨h2,trivial⟩
 ·rw[h1];exact qGA ⟨h2,trivial⟩
theorem qjV(l:Link)(hl:l.sz≤8388608)(hgot:l.got≤9223372036854775807):Rt 173 [.agg l.e] [.one (B (qbq l))]:=by
 have hq:l.queue.length≤8388608:=hl;have c1:=qbN l.cap 1 4;have c2:=qbN l.credits 0 l.cap;have c3:=qbN l.back 0 l.cap;have c4:=qbN l.sent 0 1000000000;have c5:=qIV l.queue hq;unfold qbq;cases h1:inR l.cap 1 4 with
 | false=>rw[h1]at c1;exact qGp ⟨c1,rfl,trivial⟩
 | true=>
 cases h2:inR l.credits 0 l.cap with
 | false=>rw[h1]at c1;rw[h2]at c2;exact qGq ⟨c1,rfl,c2,rfl,trivial⟩
 | true=>
 cases h3:inR l.back 0 l.cap with
 | false=>rw[h1]at c1;rw[h2]at c2;rw[h3]at c3;exact qGr ⟨c1,rfl,c2,rfl,c3,rfl,trivial⟩
 | true=>
 have k1:=h1;have k2:=h2;have k3:=h3;simp only[inR,zi]at k1 k2 k3;rw[h1]at c1;rw[h2]at c2;rw[h3]at c3;have u1:inInt .i64 (l.credits+l.back):=⟨by omega,by omega⟩
 have u2:inInt .i64 (l.credits+l.back+(↑(l.queue.map Record.e).length:Int)):=⟨by simp only[zb];omega,by simp only[zb];omega⟩
 cases h4:(l.credits+l.back+(l.queue.length:Int)==l.cap) with
 | false=>exact qGs ⟨c1,rfl,c2,rfl,c3,rfl,u1,u2,by rw[zb];simpa using h4,trivial⟩
 | true=>
 have v4:(l.credits+l.back+(↑(l.queue.map Record.e).length:Int) != l.cap)=false:=by rw[zb];simpa using h4
 cases h5:inR l.sent 0 1000000000 with
 | false=>rw[h5]at c4;exact qGt ⟨c1,rfl,c2,rfl,c3,rfl,u1,u2,v4,c4,rfl,trivial⟩
 | true=>
 have k5:=h5;simp only[inR,zi]at k5;rw[h5]at c4;by_cases h6:l.got<0
 ·rw[dF (show ¬0≤l.got by omega)];exact qGu ⟨c1,rfl,c2,rfl,c3,rfl,u1,u2,v4,c4,rfl,dT h6,trivial⟩
 ·rw[dT (show 0≤l.got by omega)];have u3:inInt .i64 (l.sent-l.got):=⟨by omega,by omega⟩
  ·by_cases h7:l.got=l.sent-(l.queue.length:Int)
   ·rw[show (l.got==l.sent-(l.queue.length:Int))=true from by simpa using h7];exact qGw ⟨c1,rfl,c2,rfl,c3,rfl,u1,u2,v4,c4,rfl,dF h6,u3,by rw[zb];simp;omega,c5,trivial⟩
   ·rw[show (l.got==l.sent-(l.queue.length:Int))=false from by simpa using h7];exact qGv ⟨c1,rfl,c2,rfl,c3,rfl,u1,u2,v4,c4,rfl,dF h6,u3,by rw[zb];simp;omega,trivial⟩
theorem qjW(l:Link)(hl:l.sz≤8388608):Rt 176 [.agg l.e] [.one (B (qbq l))]:=by
 have hq:l.queue.length≤8388608:=hl;have lp:=qaW (P:=prog) (c:=(qaa f176 0)) l.queue (fun r=>!qaB r) (fun i=>qcK l.cap (l.queue.map Record.e) l.credits l.back l.sent l.got i) (X:=fun _ _=>qmU false) qaE (qaf 0)
  (fun i a ha h=>qGf ⟨lt1 (lt_of ha),lt0,lt2 (lt_of ha),qac Record.e ha,qdQ a,h,up1 (lt_of ha) hq,trivial⟩)
  (fun i a ha h=>qGe ⟨lt1 (lt_of ha),lt0,lt2 (lt_of ha),qac Record.e ha,qdQ a,h,trivial⟩)
  (qGg ⟨ge1,trivial⟩)
 unfold qbq;rcases lp with⟨_,_,h0,lp⟩ | ⟨i,a,_,_,_,_,h0,lp⟩
 case inr=>
  rw[h0,zZ,Bool.and_false];exact qGh ⟨lp,trivial⟩
 rw[h0,zbc,zcs];have c1:=qbo l.cap 1 4;have c2:=qbo l.credits 0 l.cap;have c3:=qbo l.back 0 l.cap;have c4:=qbo l.sent 0 1000000000;cases h1:inR l.cap 1 4 with
 | false=>rw[h1]at c1;exact qGo ⟨lp,c1,rfl,trivial⟩
 | true=>
 cases h2:inR l.credits 0 l.cap with
 | false=>rw[h1]at c1;rw[h2]at c2;exact qGn ⟨lp,c1,rfl,c2,rfl,trivial⟩
 | true=>
 cases h3:inR l.back 0 l.cap with
 | false=>rw[h1]at c1;rw[h2]at c2;rw[h3]at c3;exact qGm ⟨lp,c1,rfl,c2,rfl,c3,rfl,trivial⟩
 | true=>
 have k1:=h1;have k2:=h2;have k3:=h3;simp only[inR,zi]at k1 k2 k3;rw[h1]at c1;rw[h2]at c2;rw[h3]at c3;have u1:inInt .i64 (l.credits+l.back):=⟨by omega,by omega⟩
 have u2:inInt .i64 (l.credits+l.back+(↑(l.queue.map Record.e).length:Int)):=⟨by simp only[zb];omega,by simp only[zb];omega⟩
 cases h4:(l.credits+l.back+(l.queue.length:Int)==l.cap) with
 | false=>exact qGl ⟨lp,c1,rfl,c2,rfl,c3,rfl,u1,u2,by rw[zb];exact h4,trivial⟩
 | true=>
 have v4:(l.credits+l.back+(↑(l.queue.map Record.e).length:Int)==l.cap)=true:=by rw[zb];exact h4
 cases h5:inR l.sent 0 1000000000 with
 | false=>rw[h5]at c4;exact qGk ⟨lp,c1,rfl,c2,rfl,c3,rfl,u1,u2,v4,c4,rfl,trivial⟩
 | true=>
 have k5:=h5;simp only[inR,zi]at k5;rw[h5]at c4;have u3:inInt .i64 (l.sent-(↑(l.queue.map Record.e).length:Int)):=⟨by simp only[zb];omega,by simp only[zb];omega⟩
 cases h7:(l.got==l.sent-(l.queue.length:Int)) with
 | false=>
  rw[Bool.and_false];exact qGj ⟨lp,c1,rfl,c2,rfl,c3,rfl,u1,u2,v4,c4,rfl,u3,by rw[zb];exact h7,trivial⟩
 | true=>
  rw[zcs];exact qGi ⟨lp,c1,rfl,c2,rfl,c3,rfl,u1,u2,v4,c4,rfl,u3,by rw[zb];exact h7,trivial⟩
end Go.Proofs.YtdkobdhckkjmeaaGreat
namespace Go.Proofs.YtdkobdhckkjmeaaGreat
open Go.Sx Go.RowKit Go.Proofs.Tryz
def inBad(xs:List Record)(i:Nat)(r:Record):Bool:=
 r.op != 0||r.stamp.turn != 0||(match i with | 0=>false | j+1=>match xs[j]? with | some q=>decide (q.stamp.epoch>r.stamp.epoch) | none=>false)
theorem qrT{xs:List Record}{i:Nat}{a:Record}(ha:xs[i]?=some a)(h:inBad xs i a=true):
  (a.op != 0)=true∨((a.op != 0)=false∧(a.stamp.turn != 0)=true)∨((a.op != 0)=false∧(a.stamp.turn != 0)=false∧∃j b,i=j+1∧xs[j]?=some b∧decide (b.stamp.epoch>a.stamp.epoch)=true):=by
 unfold inBad at h;cases h1:(a.op != 0) with
 | true=>exact .inl rfl
 | false=>
 cases h2:(a.stamp.turn != 0) with
 | true=>exact .inr (.inl ⟨rfl,rfl⟩)
 | false=>
 rw[h1,h2,zal,zal]at h;cases i with
 | zero=>cases h
 | succ j=>
  have hj:j<xs.length:=by have:=lt_of ha;omega
  obtain⟨b,hb⟩:=qal hj;simp only[hb]at h;exact .inr (.inr ⟨rfl,rfl,j,b,rfl,hb,h⟩)
theorem qrU{xs:List Record}{i:Nat}{a:Record}(ha:xs[i]?=some a)(h:inBad xs i a=false):
  (a.op != 0)=false∧(a.stamp.turn != 0)=false∧(i=0∨∃j b,i=j+1∧xs[j]?=some b∧decide (b.stamp.epoch>a.stamp.epoch)=false):=by
 unfold inBad at h;rw[zy,zy]at h;obtain⟨⟨h1,h2⟩,h⟩:=h;refine⟨h1,h2,?_⟩;cases i with
 | zero=>exact .inl rfl
 | succ j=>
  have hj:j<xs.length:=by have:=lt_of ha;omega
  obtain⟨b,hb⟩:=qal hj;simp only[hb]at h;exact .inr ⟨j,b,rfl,hb,h⟩
theorem qjX{α:Type}(f:α→List D){xs:List α}{j:Nat}{b:α}(h:xs[j]?=some b):(xs.map f)[(((j+1:Nat):Int)-1).toNat]?=some (f b):=by
 rw[show (((j+1:Nat):Int)-1)=(j:Int) by omega];exact qac f h
theorem qjY{α β:Type}{f:α→β}{xs:List α}{j:Nat}{b:α}(h:xs[j]?=some b):(((j+1:Nat):Int)-1)<(↑(xs.map f).length:Int):=by
 have:=lt_of h;rw[zb];omega
def qcy(n:Int):Bool:=!inR n (-1000000) 1000000
def qbT(xs:List Done)(i:Nat)(d:Done):Bool:=!inR d.epoch 0 3||(xs.take i).any (fun q=>q.epoch==d.epoch)
theorem len4{α β:Type}{f:α→β}{xs:List α}(h:(xs.length==4)=true):((↑(xs.map f).length:Int) != 4)=false:=by
 rw[zb,eq_of_beq h];rfl
theorem len4'{α β:Type}{f:α→β}{xs:List α}(h:(xs.length==4)=false):((↑(xs.map f).length:Int) != 4)=true:=by
 rw[zb];have:=ne_of_beq_false h;simp only[bne_iff_ne,zcc];omega
def qaJ(g:Graph)(w:Worker):Bool:=
 qaV g w.queue&&(qaV g w.staged&&(qaV g w.inputs&&(qbI w.cells&&((w.sums.length==4)&&((w.black.length==4)&&((w.caps.length==4)&&(!anyI (inBad w.inputs) 0 w.inputs&&(!(w.sums.any qcy)&&!anyI (qbT w.dones) 0 w.dones))))))))
theorem Worker.staged_le{w:Worker}(h:w.sz≤8388608):w.staged.length≤8388608:=by simp only[Worker.sz]at h;omega
theorem Worker.cells_le'{w:Worker}(h:w.sz≤8388608):w.cells.length≤8388608:=by simp only[Worker.sz]at h;omega
theorem Worker.sums_le{w:Worker}(h:w.sz≤8388608):w.sums.length≤8388608:=by simp only[Worker.sz]at h;omega
theorem Worker.dones_le'{w:Worker}(h:w.sz≤8388608):w.dones.length≤8388608:=by simp only[Worker.sz]at h;omega
theorem qIW(w:Worker)(hl:w.inputs.length≤8388608):
  (anyI (inBad w.inputs) 0 w.inputs=false∧qam prog (qaa f175 0) (qcj (w.queue.map Record.e) (w.staged.map Record.e) (w.inputs.map Record.e) (w.cells.map Cell.e) (w.sums.map eI) (w.black.map eB) (w.caps.map eB) (w.dones.map Done.e) 0) (.exit 0) (qhH (w.queue.map Record.e) (w.staged.map Record.e) (w.inputs.map Record.e) (w.cells.map Cell.e) (w.sums.map eI) (w.black.map eB) (w.caps.map eB) (w.dones.map Done.e)))∨
  (anyI (inBad w.inputs) 0 w.inputs=true∧qam prog (qaa f175 0) (qcj (w.queue.map Record.e) (w.staged.map Record.e) (w.inputs.map Record.e) (w.cells.map Cell.e) (w.sums.map eI) (w.black.map eB) (w.caps.map eB) (w.dones.map Done.e) 0) .ret (qhG false)):=
 qdn (P:=prog) (c:=(qaa f175 0)) w.inputs (inBad w.inputs) (fun i=>qcj (w.queue.map Record.e) (w.staged.map Record.e) (w.inputs.map Record.e) (w.cells.map Cell.e) (w.sums.map eI) (w.black.map eB) (w.caps.map eB) (w.dones.map Done.e) i) qaE (qaf 0)
  (fun i a ha h=>by
   have hi:=lt_of ha;obtain⟨h1,h2,rfl | ⟨j,b,rfl,hb,h3⟩⟩:=qrU ha h
   ·exact qFA ⟨lt1 (lt_of ha),lt0,lt2 (lt_of ha),qac Record.e ha,h1,lt0,lt2 (lt_of ha),qac Record.e ha,h2,dF (by omega),up1 (lt_of ha) hl,trivial⟩
   ·exact qFz ⟨lt1 (lt_of ha),lt0,lt2 (lt_of ha),qac Record.e ha,h1,lt0,lt2 (lt_of ha),qac Record.e ha,h2,dT (by omega),⟨by omega,by omega⟩,by omega,qjY hb,qjX Record.e hb,lt0,lt2 (lt_of ha),qac Record.e ha,h3,up1 (lt_of ha) hl,trivial⟩)
  (fun i a ha h=>by
   have hi:=lt_of ha;rcases qrT ha h with h1 | ⟨h1,h2⟩ | ⟨h1,h2,j,b,rfl,hb,h3⟩
   ·exact qFw ⟨lt1 (lt_of ha),lt0,lt2 (lt_of ha),qac Record.e ha,h1,trivial⟩
   ·exact qFx ⟨lt1 (lt_of ha),lt0,lt2 (lt_of ha),qac Record.e ha,h1,lt0,lt2 (lt_of ha),qac Record.e ha,h2,trivial⟩
   ·exact qFy ⟨lt1 (lt_of ha),lt0,lt2 (lt_of ha),qac Record.e ha,h1,lt0,lt2 (lt_of ha),qac Record.e ha,h2,dT (by omega),⟨by omega,by omega⟩,by omega,qjY hb,qjX Record.e hb,lt0,lt2 (lt_of ha),qac Record.e ha,h3,trivial⟩)
  (qFB ⟨ge1,trivial⟩)
theorem qIX(w:Worker)(hl:w.dones.length≤8388608):
  (anyI (qbT w.dones) 0 w.dones=false∧qam prog (qaa f175 2) (qdw (w.queue.map Record.e) (w.staged.map Record.e) (w.inputs.map Record.e) (w.cells.map Cell.e) (w.sums.map eI) (w.black.map eB) (w.caps.map eB) (w.dones.map Done.e) 0) (.exit 4) qmQ)∨
  (anyI (qbT w.dones) 0 w.dones=true∧qam prog (qaa f175 2) (qdw (w.queue.map Record.e) (w.staged.map Record.e) (w.inputs.map Record.e) (w.cells.map Cell.e) (w.sums.map eI) (w.black.map eB) (w.caps.map eB) (w.dones.map Done.e) 0) .ret (qjK false)):=by
 have inner:∀(i:Nat) (a:Done),w.dones[i]?=some a→
   (((w.dones.take i).any (fun q=>q.epoch==a.epoch))=false∧qam prog (qaa f175 3) (qdU (w.queue.map Record.e) (w.staged.map Record.e) (w.inputs.map Record.e) (w.cells.map Cell.e) (w.sums.map eI) (w.black.map eB) (w.caps.map eB) (w.dones.map Done.e) i 0) (.exit 6) (qmP (w.queue.map Record.e) (w.staged.map Record.e) (w.inputs.map Record.e) (w.cells.map Cell.e) (w.sums.map eI) (w.black.map eB) (w.caps.map eB) (w.dones.map Done.e) i))∨
   (((w.dones.take i).any (fun q=>q.epoch==a.epoch))=true∧qam prog (qaa f175 3) (qdU (w.queue.map Record.e) (w.staged.map Record.e) (w.inputs.map Record.e) (w.cells.map Cell.e) (w.sums.map eI) (w.black.map eB) (w.caps.map eB) (w.dones.map Done.e) i 0) .ret (qjL false)):=by
  intro i a ha;have hi:=lt_of ha;have hlen:(w.dones.take i).length=i:=by rw[zay];omega
  have tk:∀{k:Nat} {b:Done},(w.dones.take i)[k]?=some b→k<i∧w.dones[k]?=some b:=fun {k b} h=>by
   have hk:=lt_of h;rw[hlen]at hk;rw[zF,zp hk]at h;exact⟨hk,h⟩
  have l:=qaW (P:=prog) (c:=(qaa f175 3)) (w.dones.take i) (fun q=>q.epoch==a.epoch) (fun k=>qdU (w.queue.map Record.e) (w.staged.map Record.e) (w.inputs.map Record.e) (w.cells.map Cell.e) (w.sums.map eI) (w.black.map eB) (w.caps.map eB) (w.dones.map Done.e) i k) (X:=fun _ _=>qjL false) qaE (qaf 6)
   (fun k b hb h=>by
    obtain⟨hk,hb⟩:=tk hb;exact qFJ ⟨dT (by omega),lt0,lt2 (lt_of hb),qac Done.e hb,lt0,lt2 (lt_of ha),qac Done.e ha,h,up1 (lt_of hb) hl,trivial⟩)
   (fun k b hb h=>by
    obtain⟨hk,hb⟩:=tk hb;exact qFI ⟨dT (by omega),lt0,lt2 (lt_of hb),qac Done.e hb,lt0,lt2 (lt_of ha),qac Done.e ha,h,trivial⟩)
   (qFK ⟨dF (by rw[hlen];omega),trivial⟩)
  rcases l with⟨_,_,h1,h2⟩ | ⟨_,_,_,_,_,_,h1,h2⟩
  ·exact .inl ⟨h1,h2⟩
  ·exact .inr ⟨h1,h2⟩
 exact qdn (P:=prog) (c:=(qaa f175 2)) w.dones (qbT w.dones) (fun i=>qdw (w.queue.map Record.e) (w.staged.map Record.e) (w.inputs.map Record.e) (w.cells.map Cell.e) (w.sums.map eI) (w.black.map eB) (w.caps.map eB) (w.dones.map Done.e) i) qaE (qaf 4)
  (fun i a ha h=>by
   simp only[qbT,zy,zX]at h;rcases inner i a ha with⟨e,l⟩ | ⟨e,l⟩
   ·exact qFM ⟨lt1 (lt_of ha),lt0,lt2 (lt_of ha),qac Done.e ha,qaK _ _ _ true h.1,rfl,l,up1 (lt_of ha) hl,trivial⟩
   ·rw[h.2]at e;cases e)
  (fun i a ha h=>by
   cases h1:inR a.epoch 0 3 with
   | false=>exact qFH ⟨lt1 (lt_of ha),lt0,lt2 (lt_of ha),qac Done.e ha,qaK _ _ _ false h1,rfl,trivial⟩
   | true=>
    simp only[qbT,h1,zZ,zal]at h;rcases inner i a ha with⟨e,l⟩ | ⟨e,l⟩
    ·rw[h]at e;cases e
    ·exact qFL ⟨lt1 (lt_of ha),lt0,lt2 (lt_of ha),qac Done.e ha,qaK _ _ _ true h1,rfl,l,trivial⟩)
  (qFN ⟨ge1,trivial⟩)
theorem qrV(g:Graph)(w:Worker)(hg:g.sz≤8388608)(hw:w.sz≤8388608):Rt 175 [.agg g.e,.agg w.e] [.one (B (qaJ g w))]:=by
 unfold qaJ;cases h1:qaV g w.queue with
 | false=>exact qFp ⟨qfx g _ _ h1 hg (Worker.queue_le hw),rfl,trivial⟩
 | true=>
 have c1:=qfx g _ _ h1 hg (Worker.queue_le hw);cases h2:qaV g w.staged with
 | false=>exact qFq ⟨c1,rfl,qfx g _ _ h2 hg (Worker.staged_le hw),rfl,trivial⟩
 | true=>
 have c2:=qfx g _ _ h2 hg (Worker.staged_le hw);cases h3:qaV g w.inputs with
 | false=>exact qFr ⟨c1,rfl,c2,rfl,qfx g _ _ h3 hg (Worker.inputs_le hw),rfl,trivial⟩
 | true=>
 have c3:=qfx g _ _ h3 hg (Worker.inputs_le hw);cases h4:qbI w.cells with
 | false=>exact qFs ⟨c1,rfl,c2,rfl,c3,rfl,qrQ _ _ h4 (Worker.cells_le' hw),rfl,trivial⟩
 | true=>
 have c4:=qrQ _ _ h4 (Worker.cells_le' hw);cases h5:(w.sums.length==4) with
 | false=>exact qFt ⟨c1,rfl,c2,rfl,c3,rfl,c4,rfl,len4' h5,trivial⟩
 | true=>
 cases h6:(w.black.length==4) with
 | false=>exact qFu ⟨c1,rfl,c2,rfl,c3,rfl,c4,rfl,len4 h5,len4' h6,trivial⟩
 | true=>
 cases h7:(w.caps.length==4) with
 | false=>exact qFv ⟨c1,rfl,c2,rfl,c3,rfl,c4,rfl,len4 h5,len4 h6,len4' h7,trivial⟩
 | true=>
 have hs4:w.sums.length=4:=eq_of_beq h5;rcases qIW w (Worker.inputs_le hw) with⟨h8,l8⟩ | ⟨h8,l8⟩
 case inr=>rw[h8];exact qFC ⟨c1,rfl,c2,rfl,c3,rfl,c4,rfl,len4 h5,len4 h6,len4 h7,l8,trivial⟩
 have l9:=qaW (P:=prog) (c:=(qaa f175 1)) w.sums qcy (fun i=>qen (w.queue.map Record.e) (w.staged.map Record.e) (w.inputs.map Record.e) (w.cells.map Cell.e) (w.sums.map eI) (w.black.map eB) (w.caps.map eB) (w.dones.map Done.e) i) (X:=fun _ _=>qmN false) qaE (qaf 2)
  (fun i a ha h=>qFE ⟨dT (by have:=lt_of ha;omega),lt0,lt2 (lt_of ha),qac eI ha,qaK _ _ _ true (by simpa[qcy]using h),rfl,up1 (lt_of ha) (Worker.sums_le hw),trivial⟩)
  (fun i a ha h=>qFD ⟨dT (by have:=lt_of ha;omega),lt0,lt2 (lt_of ha),qac eI ha,qaK _ _ _ false (by simpa[qcy]using h),rfl,trivial⟩)
  (qFF ⟨dF (by omega),trivial⟩)
 rw[h8];rcases l9 with⟨_,_,h9,l9⟩ | ⟨_,_,_,_,_,_,h9,l9⟩
 case inr=>rw[h9];exact qFG ⟨c1,rfl,c2,rfl,c3,rfl,c4,rfl,len4 h5,len4 h6,len4 h7,l8,l9,trivial⟩
 rw[h9];rcases qIX w (Worker.dones_le' hw) with⟨h10,l10⟩ | ⟨h10,l10⟩
 ·rw[h10];exact qFP ⟨c1,rfl,c2,rfl,c3,rfl,c4,rfl,len4 h5,len4 h6,len4 h7,l8,l9,l10,trivial⟩
 ·rw[h10];exact qFO ⟨c1,rfl,c2,rfl,c3,rfl,c4,rfl,len4 h5,len4 h6,len4 h7,l8,l9,l10,trivial⟩
end Go.Proofs.YtdkobdhckkjmeaaGreat
namespace Go.Proofs.YtdkobdhckkjmeaaGreat
open Go.Sx Go.RowKit Go.Proofs.Tryz
theorem qIY(w:Worker)(hl:w.inputs.length≤8388608):
  (anyI (inBad w.inputs) 0 w.inputs=false∧qam prog (qaa f172 0) (qbS (w.inputs.map Record.e) 0 (w.queue.map Record.e) (w.staged.map Record.e) (w.inputs.map Record.e) (w.cells.map Cell.e) (w.sums.map eI) (w.black.map eB) (w.caps.map eB) (w.dones.map Done.e)) (.exit 0) (qeo (w.queue.map Record.e) (w.staged.map Record.e) (w.inputs.map Record.e) (w.cells.map Cell.e) (w.sums.map eI) (w.black.map eB) (w.caps.map eB) (w.dones.map Done.e)))∨
  (anyI (inBad w.inputs) 0 w.inputs=true∧qam prog (qaa f172 0) (qbS (w.inputs.map Record.e) 0 (w.queue.map Record.e) (w.staged.map Record.e) (w.inputs.map Record.e) (w.cells.map Cell.e) (w.sums.map eI) (w.black.map eB) (w.caps.map eB) (w.dones.map Done.e)) .ret (qhI false)):=
 qdn (P:=prog) (c:=(qaa f172 0)) w.inputs (inBad w.inputs) (fun i=>qbS (w.inputs.map Record.e) i (w.queue.map Record.e) (w.staged.map Record.e) (w.inputs.map Record.e) (w.cells.map Cell.e) (w.sums.map eI) (w.black.map eB) (w.caps.map eB) (w.dones.map Done.e)) qaE (qaf 0)
  (fun i a ha h=>by
   have hi:=lt_of ha;obtain⟨h1,h2,rfl | ⟨j,b,rfl,hb,h3⟩⟩:=qrU ha h
   ·exact qFY ⟨lt1 (lt_of ha),lt0,lt2 (lt_of ha),qac Record.e ha,h1,h2,dF (by omega),up1 (lt_of ha) hl,trivial⟩
   ·exact qFX ⟨lt1 (lt_of ha),lt0,lt2 (lt_of ha),qac Record.e ha,h1,h2,dT (by omega),⟨by omega,by omega⟩,by omega,qjY hb,qjX Record.e hb,h3,up1 (lt_of ha) hl,trivial⟩)
  (fun i a ha h=>by
   have hi:=lt_of ha;rcases qrT ha h with h1 | ⟨h1,h2⟩ | ⟨h1,h2,j,b,rfl,hb,h3⟩
   ·exact qFU ⟨lt1 (lt_of ha),lt0,lt2 (lt_of ha),qac Record.e ha,h1,trivial⟩
   ·exact qFV ⟨lt1 (lt_of ha),lt0,lt2 (lt_of ha),qac Record.e ha,h1,h2,trivial⟩
   ·exact qFW ⟨lt1 (lt_of ha),lt0,lt2 (lt_of ha),qac Record.e ha,h1,h2,dT (by omega),⟨by omega,by omega⟩,by omega,qjY hb,qjX Record.e hb,h3,trivial⟩)
  (qFZ ⟨ge1,trivial⟩)
theorem qrW(xs:List Done)(i:Nat)(e:Int)(r:Bool)(h:(xs.take i).any (fun q=>q.epoch==e)=r)(hl:xs.length≤8388608):Rt 271 [.one (.sl 2 ((xs.map Done.e).take i)),.one (I e)] [.one (B r)]:=by
 have c:=qrh (xs.take i) e (by rw[zay];omega);rw[zcr,h]at c;exact c
theorem qIZ(w:Worker)(hl:w.dones.length≤8388608):
  (anyI (qbT w.dones) 0 w.dones=false∧qam prog (qaa f172 2) (qdx (w.dones.map Done.e) 0 (w.queue.map Record.e) (w.staged.map Record.e) (w.inputs.map Record.e) (w.cells.map Cell.e) (w.sums.map eI) (w.black.map eB) (w.caps.map eB) (w.dones.map Done.e)) (.exit 4) qmT)∨
  (anyI (qbT w.dones) 0 w.dones=true∧qam prog (qaa f172 2) (qdx (w.dones.map Done.e) 0 (w.queue.map Record.e) (w.staged.map Record.e) (w.inputs.map Record.e) (w.cells.map Cell.e) (w.sums.map eI) (w.black.map eB) (w.caps.map eB) (w.dones.map Done.e)) .ret (qjM false)):=
 qdn (P:=prog) (c:=(qaa f172 2)) w.dones (qbT w.dones) (fun i=>qdx (w.dones.map Done.e) i (w.queue.map Record.e) (w.staged.map Record.e) (w.inputs.map Record.e) (w.cells.map Cell.e) (w.sums.map eI) (w.black.map eB) (w.caps.map eB) (w.dones.map Done.e)) qaE (qaf 4)
  (fun i a ha h=>by
   have hi:=lt_of ha;simp only[qbT,zy,zX]at h;exact qGa ⟨lt1 (lt_of ha),lt0,lt2 (lt_of ha),qac Done.e ha,qaO _ _ _ true h.1,rfl,Int.le_refl 0,(lt0:(0:Int)≤(i:Int)),(show (i:Int)≤_ by rw[zb];omega),qrW w.dones i a.epoch false h.2 hl,rfl,up1 (lt_of ha) hl,trivial⟩)
  (fun i a ha h=>by
   have hi:=lt_of ha;cases h1:inR a.epoch 0 3 with
   | false=>exact qF8 ⟨lt1 (lt_of ha),lt0,lt2 (lt_of ha),qac Done.e ha,qaO _ _ _ false h1,rfl,trivial⟩
   | true=>
    simp only[qbT,h1,zZ,zal]at h;exact qF9 ⟨lt1 (lt_of ha),lt0,lt2 (lt_of ha),qac Done.e ha,qaO _ _ _ true h1,rfl,Int.le_refl 0,(lt0:(0:Int)≤(i:Int)),(show (i:Int)≤_ by rw[zb];omega),qrW w.dones i a.epoch true h hl,rfl,trivial⟩)
  (qGb ⟨ge1,trivial⟩)
theorem qjZ(g:Graph)(w:Worker)(hg:g.sz≤8388608)(hw:w.sz≤8388608):Rt 172 [.agg g.e,.agg w.e] [.one (B (qaJ g w))]:=by
 unfold qaJ;cases h1:qaV g w.queue with
 | false=>exact qFQ ⟨qfy g _ _ h1 hg (Worker.queue_le hw),rfl,trivial⟩
 | true=>
 have c1:=qfy g _ _ h1 hg (Worker.queue_le hw);cases h2:qaV g w.staged with
 | false=>exact qFR ⟨c1,rfl,qfy g _ _ h2 hg (Worker.staged_le hw),rfl,trivial⟩
 | true=>
 have c2:=qfy g _ _ h2 hg (Worker.staged_le hw);cases h3:qaV g w.inputs with
 | false=>exact qFS ⟨c1,rfl,c2,rfl,qfy g _ _ h3 hg (Worker.inputs_le hw),rfl,trivial⟩
 | true=>
 have c3:=qfy g _ _ h3 hg (Worker.inputs_le hw);cases h4:qbI w.cells with
 | false=>exact qFT ⟨c1,rfl,c2,rfl,c3,rfl,qrR _ _ h4 (Worker.cells_le' hw),rfl,trivial⟩
 | true=>
 have c4:=qrR _ _ h4 (Worker.cells_le' hw);rcases qIY w (Worker.inputs_le hw) with⟨h8,l8⟩ | ⟨h8,l8⟩
 case inr=>
  rw[h8];simp only[zZ,Bool.false_and,Bool.and_false];exact qF0 ⟨c1,rfl,c2,rfl,c3,rfl,c4,rfl,l8,trivial⟩
 cases h5:(w.sums.length==4) with
 | false=>exact qF1 ⟨c1,rfl,c2,rfl,c3,rfl,c4,rfl,l8,len4' h5,trivial⟩
 | true=>
 cases h6:(w.black.length==4) with
 | false=>exact qF2 ⟨c1,rfl,c2,rfl,c3,rfl,c4,rfl,l8,len4 h5,len4' h6,trivial⟩
 | true=>
 cases h7:(w.caps.length==4) with
 | false=>exact qF3 ⟨c1,rfl,c2,rfl,c3,rfl,c4,rfl,l8,len4 h5,len4 h6,len4' h7,trivial⟩
 | true=>
 have l9:=qaW (P:=prog) (c:=(qaa f172 1)) w.sums qcy (fun i=>qep (w.queue.map Record.e) (w.staged.map Record.e) (w.inputs.map Record.e) (w.cells.map Cell.e) (w.sums.map eI) (w.black.map eB) (w.caps.map eB) (w.dones.map Done.e) i) (X:=fun _ _=>qmR false) qaE (qaf 2)
  (fun i a ha h=>qF5 ⟨lt1 (lt_of ha),lt0,lt2 (lt_of ha),qac eI ha,qaO _ _ _ true (by simpa[qcy]using h),rfl,up1 (lt_of ha) (Worker.sums_le hw),trivial⟩)
  (fun i a ha h=>qF4 ⟨lt1 (lt_of ha),lt0,lt2 (lt_of ha),qac eI ha,qaO _ _ _ false (by simpa[qcy]using h),rfl,trivial⟩)
  (qF6 ⟨ge1,trivial⟩)
 rw[h8];rcases l9 with⟨_,_,h9,l9⟩ | ⟨_,_,_,_,_,_,h9,l9⟩
 case inr=>rw[h9];exact qF7 ⟨c1,rfl,c2,rfl,c3,rfl,c4,rfl,l8,len4 h5,len4 h6,len4 h7,l9,trivial⟩
 rw[h9];rcases qIZ w (Worker.dones_le' hw) with⟨h10,l10⟩ | ⟨h10,l10⟩
 ·rw[h10];exact qGd ⟨c1,rfl,c2,rfl,c3,rfl,c4,rfl,l8,len4 h5,len4 h6,len4 h7,l9,l10,trivial⟩
 ·rw[h10];exact qGc ⟨c1,rfl,c2,rfl,c3,rfl,c4,rfl,l8,len4 h5,len4 h6,len4 h7,l9,l10,trivial⟩
