import Derived.Test.YtdchjefneblpgaaC0
import Derived.Test.YtdchjefneblpgaaQ2
set_option linter.unusedVariables false
set_option linter.unusedSimpArgs false
namespace Go.Proofs.Ytdchjefneblpgaa
open Go.Sx Go.RowKit Go.Proofs.Try
def ka(xs:List Cell)(x:Cell):Bool:=xs.any fun a=>decide (a=x)
def js(xs:List Cell)(x:Cell):Nat:=(xs.findIdx? fun a=>!decide (eH a x<0)).getD xs.length
def gf(xs:List Cell)(x:Cell):List Cell:=if ka xs x then xs else xs.take (js xs x)++x::xs.drop (js xs x)
theorem DT(xs:List Cell)(x:Cell):js xs x<=xs.length:=by
 unfold js;cases h:xs.findIdx? (fun a=>!decide (eH a x<0)) with
 | none=>simp
 | some i=>
  rw[uN]at h;have:=h.1;simp;omega
theorem DU(xs:List Cell)(x:Cell):(gf xs x).length<=xs.length+1:=by
 unfold gf;split
 ·omega
 have:=DT xs x;simp;omega
theorem LB(xs:List Cell)(x:Cell)(ak:xs.length<=8388608):aA 75 [.one (.aa 4 (xs.map Cell.e)),.agg x.e] [.one (B (ka xs x))]:=by
 have l:=oD (P:=prog) (c:=(aF f75 0)) xs (fun a=>decide (a=x)) (fun i=>sO (xs.map Cell.e) x.op x.aV x.key x.val i) (X:=fun _ _=>Eo true) jo (di 0)
  (fun i a aC h=>Tg ⟨dr (ct aC),c1,dh (ct aC),c2 Cell.e aC,(r9 a x).trans h,eN (ct aC) ak,aj⟩)
  (fun i a aC h=>Tf ⟨dr (ct aC),c1,dh (ct aC),c2 Cell.e aC,(r9 a x).trans h,aj⟩)
  (Th ⟨fb,aj⟩)
 unfold ka;rcases l with⟨_,_,J,U⟩ | ⟨i,a,_,_,_,_,J,U⟩
 ·rw[J];exact UI ⟨U,aj⟩
 rw[J];exact UH ⟨U,aj⟩
theorem LC(xs:List Cell)(x:Cell)(r:Bool)(h:ka xs x=r)(ak:xs.length<=8388608):aA 75 [.one (.aa 4 (xs.map Cell.e)),.agg x.e] [.one (B r)]:=h▸LB xs x ak
def ym(xs:List Cell)(x:Cell):Int:=match xs.findIdx? (fun a=>decide (a=x)) with | some i=>i | none=>-1
theorem T'(xs:List Cell)(x:Cell):decide (ym xs x>=0)=ka xs x:=by
 unfold ym ka;cases h:xs.findIdx? (fun a=>decide (a=x)) with
 | none=>
  have:xs.any (fun a=>decide (a=x))=false:=by
   rw[hP];rw[Az]at h;exact fun a aC=>by simpa using h a aC
  rw[this];rfl
 | some i=>
  rw[uN]at h;obtain⟨hi,U,_⟩:=h;have:xs.any (fun a=>decide (a=x))=true:=oY.2 ⟨_,sX hi,U⟩;rw[this];simp
theorem Ua(xs:List Cell)(x:Cell)(ak:xs.length<=8388608):aA 92 [.one (.aa 4 (xs.map Cell.e)),.agg x.e] [.one (I (ym xs x))]:=by
 have l:=oD (P:=prog) (c:=(aF f92 0)) xs (fun a=>decide (a=x)) (fun i=>sL (xs.map Cell.e) x.op x.aV x.key x.val i) (X:=fun i _=>El i) jo (di 0)
  (fun i a aC h=>T0 ⟨dr (ct aC),c1,dh (ct aC),c2 Cell.e aC,(Lo a x).trans h,eN (ct aC) ak,aj⟩)
  (fun i a aC h=>TZ ⟨dr (ct aC),c1,dh (ct aC),c2 Cell.e aC,(Lo a x).trans h,aj⟩)
  (T1 ⟨fb,aj⟩)
 unfold ym;rcases l with⟨_,J,_,U⟩ | ⟨i,a,_,_,_,J,_,U⟩
 ·simp only[J];exact T3 ⟨U,aj⟩
 simp only[J];exact T2 ⟨U,aj⟩
theorem LD(xs:List Cell)(x:Cell)(ak:xs.length<=8388608):aA 73 [.one (.aa 4 (xs.map Cell.e)),.agg x.e] [.one (B (ka xs x))]:=by
 rw[<-T'];exact TW ⟨TY ⟨Ua xs x ak,aj⟩,aj⟩
theorem LF(xs:List Cell)(x:Cell)(r:Bool)(h:ka xs x=r)(ak:xs.length<=8388608):aA 73 [.one (.aa 4 (xs.map Cell.e)),.agg x.e] [.one (B r)]:=h▸LD xs x ak
theorem r'(xs:List Cell)(ak:xs.length<=8388608):aA 53 [.one (.aa 4 (xs.map Cell.e))] [.one (.aa 4 (xs.map Cell.e))]:=
 TV ⟨by simp;omega,by simp;omega,bW _ Cell.flat _,aj⟩
theorem ui(xs:List Cell)(x:Cell)(ak:xs.length<=8388608):aA 63 [.one (.aa 4 (xs.map Cell.e)),.agg x.e] [.one (.aa 4 ((gf xs x).map Cell.e))]:=by
 unfold gf;cases h:ka xs x with
 | true=>
  rw[bb rfl];exact UJ ⟨LC xs x true h ak,rfl,by simp;omega,by simp;omega,bW _ Cell.flat _,aj⟩
 | false=>
  rw[aZ (by simp)];have l:dk prog (aF f63 0) (r7 (xs.map Cell.e) x.op x.aV x.key x.val 0) (fH.exit 0) (wG (xs.map Cell.e) x.op x.aV x.key x.val (js xs x)):=by
   have l:=oD (P:=prog) (c:=(aF f63 0)) xs (fun a=>!decide (eH a x<0)) (fun i=>r7 (xs.map Cell.e) x.op x.aV x.key x.val i) (X:=fun i _=>wG (xs.map Cell.e) x.op x.aV x.key x.val i) (di 0) (di 0)
    (fun i a aC h=>UK ⟨dr (ct aC),c1,dh (ct aC),c2 Cell.e aC,Lt a x,by simpa using h,eN (ct aC) ak,aj⟩)
    (fun i a aC h=>UL ⟨dr (ct aC),c1,dh (ct aC),c2 Cell.e aC,Lt a x,by simpa using h,aj⟩)
    (UM ⟨fb,aj⟩)
   unfold js;rcases l with⟨_,J,_,U⟩ | ⟨i,a,_,_,_,J,_,U⟩
   ·rw[J];exact U
   rw[J];exact U
  have hp:=DT xs x;generalize js xs x=p at*;refine Uv (UN ⟨LC xs x false h ak,rfl,l,by simp,by simp,by simp;omega,by simp;omega,by simp;omega,?_,by simp;omega,by simp;omega,dt x.flat,by simp,by simp;omega,by simp,by simp;omega,by simp;omega,?_,aj⟩) ?_
  ·simp only[kh,uM,Nat.sub_zero,rn,<-uT];exact bW _ Cell.flat _
  ·simp only[kh,uM,<-uT,<-List.map_drop];exact bW _ Cell.flat _
  simp only[kh,uM,Nat.sub_zero,rn,List.nil_append,<-uT,<-List.map_drop,kg,gE,GM]
  congr 1
  rw[sY (by simp)];rfl
theorem LG(xs:List Cell)(x:Cell)(ak:xs.length<=8388608):aA 72 [.one (.aa 4 (xs.map Cell.e)),.agg x.e] [.one (.aa 4 ((gf xs x).map Cell.e))]:=by
 have c:=r' xs ak;unfold gf;cases h:ka xs x with
 | true=>
  rw[bb rfl];exact T4 ⟨c,LF xs x true h ak,rfl,aj⟩
 | false=>
  rw[aZ (by simp)];have l:dk prog (aF f72 0) (sM (xs.map Cell.e) x.op x.aV x.key x.val (xs.map Cell.e) 0) (fH.exit 0) (wF x.op x.aV x.key x.val (xs.map Cell.e) (js xs x)):=by
   have l:=oD (P:=prog) (c:=(aF f72 0)) xs (fun a=>!decide (eH a x<0)) (fun i=>sM (xs.map Cell.e) x.op x.aV x.key x.val (xs.map Cell.e) i) (X:=fun i _=>wF x.op x.aV x.key x.val (xs.map Cell.e) i) (di 0) (di 0)
    (fun i a aC h=>T5 ⟨dr (ct aC),c1,dh (ct aC),c2 Cell.e aC,Ls a x,by simpa using h,eN (ct aC) ak,aj⟩)
    (fun i a aC h=>T6 ⟨dr (ct aC),c1,dh (ct aC),c2 Cell.e aC,Ls a x,by simpa using h,aj⟩)
    (T7 ⟨fb,aj⟩)
   unfold js;rcases l with⟨_,J,_,U⟩ | ⟨i,a,_,_,_,J,_,U⟩
   ·rw[J];exact U
   rw[J];exact U
  exact Ti ⟨c,LF xs x false h ak,rfl,l,T9 xs x (js xs x) (DT xs x) ak,aj⟩
end Go.Proofs.Ytdchjefneblpgaa
namespace Go.Proofs.Ytdchjefneblpgaa
open Go.Sx Go.RowKit Go.Proofs.Try
def dd(g:bz)(op:Int):Option Node:=if 0<=op then g.nodes[op.toNat]? else none
def h5(g:bz)(x:Cell):Bool:=match dd g x.op with | some n=>n.kind==8 | none=>false
def pP(g:bz)(xs:List Cell):List Cell:=xs.filter (h5 g)
variable{g:bz}{a:Int}{w:Node}
theorem uj(h:dd g a=some w):0<=a/\a<(↑(g.nodes.map Node.e).length:Int)/\(g.nodes.map Node.e)[a.toNat]?=some w.e/\af a 0 (↑(g.nodes.map Node.e).length-1)=true:=by
 unfold dd at h;split at h
 ·have:=(eJ.1 h).1;refine⟨‹_›,by simp;omega,by simp[h],?_⟩;simp only[af,br,cF];omega
 cases h
theorem LH(h:dd g a=none):af a 0 (↑(g.nodes.map Node.e).length-1)=false:=by
 unfold dd at h;simp only[af,br,mG];split at h
 ·rw[List.getElem?_eq_none_iff]at h;omega
 omega
theorem y'(h:dd g a=some w):w∈g.nodes:=by
 unfold dd at h;split at h
 ·exact eD h
 cases h
theorem bz.Rk(h:g.sz<=8388608):g.nodes.length<=8388608:=by simp only[bz.sz,hx]at h;omega
theorem bz.tL(h:g.sz<=8388608)(hw:w∈g.nodes):w.outs.length<=8388608:=by
 have:=J1 (sz:=Node.sz) hw;simp only[bz.sz,hx]at h;have a1:w.outs.length<=w.sz:=by simp only[Node.sz];omega
 omega
theorem za(h:g.sz<=8388608):ap .i64 ((↑(g.nodes.map Node.e).length:Int)-1):=by
 have:=bz.Rk h;exact⟨by simp;omega,by simp;omega⟩
theorem Ub(g:bz)(op:Int)(ag:g.sz<=8388608):aA 37 [.agg g.e,.one (I op)] [.one (B (dd g op).isSome)]:=by
 cases h:dd g op with
 | none=>exact JR ⟨za ag,Ln (LH h),aj⟩
 | some w=>exact JR ⟨za ag,Ln (uj h).2.2.2,aj⟩
theorem uk(g:bz)(op:Int)(r:Bool)(h:(dd g op).isSome=r)(ag:g.sz<=8388608):aA 37 [.agg g.e,.one (I op)] [.one (B r)]:=h▸Ub g op ag
def mm(g:bz)(op:Int):Node×Bool:=match dd g op with | some n=>(n,true) | none=>(⟨0,0,0,[]⟩,false)
theorem Uc(n:Int):∀d∈aY n,∃x,d=.v x:=by
 intro d ay;simp only[aY,dj,nZ,or_false]at ay;subst ay;exact⟨_,rfl⟩
theorem Ud(g:bz)(op:Int)(ag:g.sz<=8388608):aA 39 [.agg g.e,.one (I op)] [.agg (mm g op).1.e,.one (B (mm g op).2)]:=by
 unfold mm;cases h:dd g op with
 | none=>exact UO ⟨za ag,Lm (LH h),rfl,aj⟩
 | some w=>
  obtain⟨J,U,ax,aJ⟩:=uj h;have aM:=bz.tL ag (y' h);exact UP ⟨za ag,Lm aJ,rfl,J,U,ax,by simp;omega,by simp;omega,bW _ Uc _,aj⟩
theorem q6(g:bz)(op:Int)(r:Node×Bool)(h:mm g op=r)(ag:g.sz<=8388608):aA 39 [.agg g.e,.one (I op)] [.agg r.1.e,.one (B r.2)]:=h▸Ud g op ag
theorem LI(g:bz)(xs:List Cell)(ag:g.sz<=8388608)(ak:xs.length<=8388608):aA 24 [.agg g.e,.one (.aa 4 (xs.map Cell.e))] [.one (.aa 4 ((pP g xs).map Cell.e))]:=by
 have l:=gx (P:=prog) (c:=(aF f24 0)) (di 0) xs.length (fun i:Nat=>pN (xs.map Cell.e) i (((xs.take i).filter (h5 g)).map Cell.e) (g.nodes.map Node.e) g.bg g.cap) (fun i hi=>by
  obtain⟨a,aC⟩:=cT hi;have bn:=pO (h5 g) xs i;have ad:=q3 (h5 g) aC;cases h:dd g a.op with
  | none=>
   have hp:h5 g a=false:=by simp[h5,h]
   rw[aZ (by simp[hp]),ja]at ad;rw[ad];exact US ⟨dr hi,c1,dh hi,c2 Cell.e aC,q6 g a.op _ (by unfold mm;rw[h]) ag,rfl,eN hi ak,aj⟩
  | some w=>
   have n:=q6 g a.op (w,true) (by unfold mm;rw[h]) ag;by_cases aT:(w.kind==8)=true
   ·have hp:h5 g a=true:=by simp only[h5,h];exact aT
    rw[bb hp]at ad;rw[ad,kg];exact UQ ⟨dr hi,c1,dh hi,c2 Cell.e aC,n,rfl,aT,c1,dh hi,c2 Cell.e aC,by simp;omega,by simp;omega,dt a.flat,eN hi ak,aj⟩
   have hp:h5 g a=false:=by simp only[h5,h];simpa using aT
   rw[aZ (by simp[hp]),ja]at ad;rw[ad];exact UR ⟨dr hi,c1,dh hi,c2 Cell.e aC,n,rfl,by simpa using aT,eN hi ak,aj⟩) (UT ⟨fb,aj⟩)
 rw[jS]at l;exact UU ⟨l,aj⟩
theorem Ue(g:bz)(xs:List Cell)(ag:g.sz<=8388608)(ak:xs.length<=8388608):aA 23 [.agg g.e,.one (.aa 4 (xs.map Cell.e))] [.one (.aa 4 ((pP g xs).map Cell.e))]:=by
 have l:=gx (P:=prog) (c:=(aF f23 0)) (di 0) xs.length (fun i:Nat=>pM (xs.map Cell.e) i (((xs.take i).filter (h5 g)).map Cell.e) (g.nodes.map Node.e) g.bg g.cap) (fun i hi=>by
  obtain⟨a,aC⟩:=cT hi;have bn:=pO (h5 g) xs i;have ad:=q3 (h5 g) aC;cases h:dd g a.op with
  | none=>
   have hp:h5 g a=false:=by simp[h5,h]
   rw[aZ (by simp[hp]),ja]at ad;rw[ad];exact Tl ⟨dr hi,c1,dh hi,c2 Cell.e aC,uk g a.op false (by rw[h];rfl) ag,rfl,eN hi ak,aj⟩
  | some w=>
   have n:=uk g a.op true (by rw[h];rfl) ag;obtain⟨J,U,ax,aJ⟩:=uj h;by_cases aT:(w.kind==8)=true
   ·have hp:h5 g a=true:=by simp only[h5,h];exact aT
    rw[bb hp]at ad;rw[ad,kg];exact Tj ⟨dr hi,c1,dh hi,c2 Cell.e aC,n,rfl,J,U,ax,aT,by simp;omega,by simp;omega,dt a.flat,eN hi ak,aj⟩
   have hp:h5 g a=false:=by simp only[h5,h];simpa using aT
   rw[aZ (by simp[hp]),ja]at ad;rw[ad];exact Tk ⟨dr hi,c1,dh hi,c2 Cell.e aC,n,rfl,J,U,ax,by simpa using aT,eN hi ak,aj⟩) (Tm ⟨fb,aj⟩)
 rw[jS]at l;exact Tn ⟨l,aj⟩
theorem Uf{xs:List Cell}(h:xs.length<=8388608):(pP g xs).length<=8388608:=k2 (mC ..) h
