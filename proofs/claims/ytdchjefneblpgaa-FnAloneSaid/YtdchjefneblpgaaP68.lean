import Derived.Test.YtdchjefneblpgaaP22
import Derived.Test.YtdchjefneblpgaaP108
import Derived.Test.YtdchjefneblpgaaGZ
set_option linter.unusedVariables false
set_option linter.unusedSimpArgs false
namespace Go.Proofs.Ytdchjefneblpgaa
open Go.Sx Go.RowKit Go.Proofs.Try
theorem adt(g:bz)(r:aQ)(b:Bool)(ag:g.sz<=8388608):cv prog 21 [.ro (.agg r.e),.ref [B b] [B (b||dn g r)],.cur g.e g.e] (.vals []):=by
 cases b with
 | true=>exact adr ⟨rfl,aj⟩
 | false=>exact ads ⟨rfl,acf g r ag,aj⟩
theorem M8(g:bz)(ag:g.sz<=8388608)(cb:cz g=true):∀(k n:Nat) (cs:List Cell) (l:List aQ) (b:Bool),n+k=20000->cs.length<=n->l.length<=8388608+2*n->
  dk prog (aF f18 1) (so (g.nodes.map Node.e) (l.map aQ.e) n (cs.map Cell.e) (g.nodes.map Node.e) g.bg g.cap b g.bg g.cap) (.exit 2) (zT (g.nodes.map Node.e) ((d' g k cs l).1.1.map Cell.e) ((n+(d' g k cs l).2:Nat):Int) ((d' g k cs l).1.2.map aQ.e) (qi g k cs l b) g.bg g.cap)
 | 0,n,cs,l,b,aR,iB,ak=>by
  cases l with
  | nil=>exact .last (di 2) (M6 ⟨rfl,aj⟩)
  | cons r l=>exact .last (di 2) (adp ⟨e3 (by simp<;>omega),gG (by omega),aj⟩)
 | k+1,n,cs,[],b,aR,iB,ak=>.last (di 2) (M6 ⟨rfl,aj⟩)
 | k+1,n,cs,r::l,b,aR,iB,ak=>by
  obtain⟨J,U⟩:=yJ cb cs r;have s:=Li g cs r ag (by omega);rw[du]at ak;have dw:=M8 g ag cb k (n+1) (cO g cs r).1 (l++(cO g cs r).2.1) (b||dn g r) (by omega) (by omega) (by rw[mz];omega);simp only[d',qi];rw[show n+((d' g k (cO g cs r).1 (l++(cO g cs r).2.1)).2+1)=n+1+(d' g k (cO g cs r).1 (l++(cO g cs r).2.1)).2 by omega];refine .more (uI (fun q=>so (g.nodes.map Node.e) q ((n+1:Nat):Int) ((cO g cs r).1.map Cell.e) (g.nodes.map Node.e) g.bg g.cap (b||dn g r) g.bg g.cap) (ado ⟨e3 (by simp<;>omega),e3 (by omega),by omega,by simp<;>omega,rfl,adt g r b ag,by omega,by simp<;>omega,rfl,s,by simp,by simp<;>omega,by simp,by simp<;>omega,by simp<;>omega,bW _ aQ.flat _,⟨by omega,by omega⟩,aj⟩) (zG r l _)) dw
theorem adu(g:bz)(xs:List aQ)(ak:xs.length<=8388608):dk prog (aF f18 0) (q' (g.nodes.map Node.e) (xs.map aQ.e) 0 [] (g.nodes.map Node.e) g.bg g.cap false g.bg g.cap) (.exit 0) (Ff (g.nodes.map Node.e) (((xs.filter c8).map fresh).map aQ.e) (g.nodes.map Node.e) g.bg g.cap false g.bg g.cap):=by
 have l:=gx (P:=prog) (c:=(aF f18 0)) (di 0) xs.length (fun i:Nat=>q' (g.nodes.map Node.e) (xs.map aQ.e) i ((((xs.take i).filter c8).map fresh).map aQ.e) (g.nodes.map Node.e) g.bg g.cap false g.bg g.cap) (fun i hi=>by
  obtain⟨a,aC⟩:=cT hi;have bn:=pO c8 xs i;rw[Fw c8 aC];cases hp:c8 a with
  | true=>
   rw[bb rfl];exact ach ⟨dr hi,c1,dh hi,c2 aQ.e aC,zH a true hp,rfl,by simp<;>omega,by simp<;>omega,dt (fresh a).flat,eN hi ak,aj⟩
  | false=>
   rw[aZ (by simp),ja];exact adm ⟨dr hi,c1,dh hi,c2 aQ.e aC,zH a false hp,rfl,eN hi ak,aj⟩) (adn ⟨fb,aj⟩)
 rw[jS]at l;exact l
theorem adv(g:bz)(xs:List aQ)(e:Int)(ag:g.sz<=8388608)(ak:xs.length<=8388608):aA 10 [.agg g.e,.one (.aa 5 (xs.map aQ.e)),.one (I e)] [.one (B (qI g xs e))]:=by
 have c:=wI g ag;unfold qI;cases h:cz g with
 | false=>
  rw[h]at c;exact M7 ⟨acg ⟨c,rfl,aj⟩,aj⟩
 | true=>
  rw[h]at c;have aM:(il e xs).length<=8388608:=k2 (mC ..) ak;have fO:=adu g (il e xs) aM;have ad:=Fv xs e;have jm:=M8 g ag h 20000 0 [] (fW xs e) false rfl (by simp) (by omega);rw[cP]at jm;rw[rl];exact M7 ⟨adq ⟨c,rfl,Lk xs e ak,fO,jm,aj⟩,aj⟩
