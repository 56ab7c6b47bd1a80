import Derived.Test.YtdchjefneblpgaaGreatP17
import Derived.Test.YtdchjefneblpgaaGreatS1
set_option linter.unusedVariables false
set_option linter.unusedSimpArgs false
namespace Go.Proofs.YtdchjefneblpgaaGreat
open Go.Sx Go.RowKit Go.Proofs.Tryz
def dW(g:b0)(cs:List Cell)(r:aE):List Cell×List aE×Bool:=match fK g r.op with | some x=>dS g cs r x | none=>(cs,[],false)
theorem acs(g:b0)(cs:List Cell)(r:aE)(ar:g.sz<=8388608)(aj:cs.length<=8388608):aw 176 [.agg g.e,.one (.J 4 (cs.map Cell.e)),.agg r.e] [.one (.J 4 ((dW g cs r).1.map Cell.e)),.one (.J 5 ((dW g cs r).2.1.map aE.e)),.one (B (dW g cs r).2.2)]:=by
 unfold dW;cases h:fK g r.op with
 | some x=>exact acq g cs r x ar aj h
 | none=>exact abC ⟨by simp<;>omega,by simp<;>omega,cd _ Cell.flat _,Ft g r.op (⟨0,0,0,[]⟩,false) (by unfold ve;rw[h]) ar,rfl,ae⟩
theorem acu(g:b0)(cs:List Cell)(r:aE)(ar:g.sz<=8388608)(aj:cs.length<=8388608):aw 232 [.agg g.e,.one (.J 4 (cs.map Cell.e)),.agg r.e] [.one (.J 4 ((dW g cs r).1.map Cell.e)),.one (.J 5 ((dW g cs r).2.1.map aE.e)),.one (B (dW g cs r).2.2)]:=by
 unfold dW;cases h:fK g r.op with
 | some x=>exact acr g cs r x ar aj h
 | none=>
  have c1:=zb g ar;have c2:=vp r;have cH:=zI g r.op false (by rw[h];rfl) ar;have cQ:=vd cs aj;generalize eo g=eU at*;generalize eD r=fH at*;cases eU with
  | false=>exact S0 ⟨c1,rfl,cQ,ae⟩
  | true=>
   cases fH with
   | false=>exact S1 ⟨c1,rfl,c2,rfl,cQ,ae⟩
   | true=>exact acV ⟨c1,rfl,c2,rfl,cH,rfl,cQ,ae⟩
def kZ(g:b0)(r:aE)(x:Node):Bool:=eo g&&eD r&&x.kind==7&&decide (0<x.outs.length)&&!(eS r.bh).2
def ca(g:b0)(r:aE):Bool:=match fK g r.op with | some x=>kZ g r x | none=>false
theorem acv(g:b0)(r:aE)(x:Node)(ar:g.sz<=8388608)(aK:fK g r.op=some x):aw 177 [.agg g.e,.agg r.e] [.one (B (kZ g r x))]:=by
 have c1:=Ft g r.op (x,true) (by unfold ve;rw[aK]) ar;have c2:=zJ r.bh;have cH:=Fu g ar;rcases cN (eo g) with aF | aF
 ·skip
  have gY:=tW r;rcases cN (eD r) with bb | bb
  ·skip
   rcases cN (x.kind==7) with bN | bN
   ·skip
    rcases cN (decide ((↑(x.outs.map ba).length:Int)>0)) with dj | dj
    ·skip
     rw[show kZ g r x=(!((eS r.bh).2)) from by grind[kZ]];exact abw ⟨c1,c2,rfl,cH,aF,gY,bb,bN,dj,ae⟩
    skip
    rw[show kZ g r x=false from by grind[kZ]];exact abx ⟨c1,c2,rfl,cH,aF,gY,bb,bN,dj,ae⟩
   skip
   rw[show kZ g r x=false from by grind[kZ]];exact aby ⟨c1,c2,rfl,cH,aF,gY,bb,bN,ae⟩
  skip
  rw[show kZ g r x=false from by grind[kZ]];exact abz ⟨c1,c2,rfl,cH,aF,gY,bb,ae⟩
 skip
 rw[show kZ g r x=false from by grind[kZ]];exact abA ⟨c1,c2,rfl,cH,aF,ae⟩
theorem acw(g:b0)(r:aE)(ar:g.sz<=8388608):aw 177 [.agg g.e,.agg r.e] [.one (B (ca g r))]:=by
 unfold ca;cases h:fK g r.op with
 | some x=>exact acv g r x ar h
 | none=>exact abB ⟨Ft g r.op (⟨0,0,0,[]⟩,false) (by unfold ve;rw[h]) ar,zJ r.bh,rfl,ae⟩
theorem MC{g:b0}(h:eo g=true){op:Int}{x:Node}(aK:fK g op=some x):aH x=true:=by
 simp only[eo,b8,gy]at h;unfold fK at aK;split at aK
 ·have:=BW h.2 op.toNat x aK;simp only[jL,fR,jW]at this;exact this.1.1
 cases aK
theorem acx{x:Node}(h:aH x=true):x.outs.length<=2:=by
 simp only[aH,b8,b']at h;exact h.1.1.1.2
theorem acy(kind:Int)(cs:List Cell)(x:Cell):(ct kind cs x).1.length<=cs.length+1:=by
 have h1:=Tw cs x;have U:=Tw (cs.filter fun a=>!eO x a) x;have ax:=qq (fun a=>!eO x a) cs;unfold ct;split
 ·split<;>simp<;>omega
 split
 ·unfold h4;split<;>simp<;>omega
 simp
theorem acz{g:b0}(ar:eo g=true)(cs:List Cell)(r:aE):(dW g cs r).1.length<=cs.length+1/\(dW g cs r).2.1.length<=2:=by
 unfold dW;cases h:fK g r.op with
 | none=>exact⟨by simp,by simp⟩
 | some x=>
  have aa:=acx (MC ar h);have az:=acy x.kind cs ⟨r.op,r.bh.a7,r.key,r.val⟩;have ai:∀s k v,(e3 x s k v).length<=2:=fun s k v=>by simpa[e3]using aa
  simp only[dS];split
  ·split
   ·exact⟨by simp,by simp⟩
   split
   ·exact⟨az,by simp⟩
   split
   ·refine⟨az,?_⟩;cases (eS r.bh).2 with
    | true=>exact ai _ _ _
    | false=>simp
   exact⟨az,ai _ _ _⟩
  exact⟨by simp,by simp⟩
end Go.Proofs.YtdchjefneblpgaaGreat
namespace Go.Proofs.YtdchjefneblpgaaGreat
open Go.Sx Go.RowKit Go.Proofs.Tryz
def l3(e:Int)(xs:List aE):List aE:=xs.filter fun r=>r.bh.a7==e
theorem Tc(xs:List aE)(e:Int)(aj:xs.length<=8388608):aw 116 [.one (.J 5 (xs.map aE.e)),.one (I e)] [.one (.J 5 ((l3 e xs).map aE.e))]:=by
 let p:=fun r:aE=>r.bh.a7==e
 have l:=eR (P:=prog) (c:=(av f116 0)) (cL 0) xs.length (fun i:Nat=>xl (xs.map aE.e) e i (((xs.take i).filter p).map aE.e)) (fun i hi=>by
  obtain⟨a,ad⟩:=dm hi;have bg:=Fl p xs i;have ai:=zD p ad;by_cases hp:p a=true
  ·rw[aZ hp]at ai;rw[ai,jV];exact ap1 ⟨b4 hi,bH,bL hi,bI aE.e ad,hp,bH,bL hi,bI aE.e ad,by simp;omega,by simp;omega,dY a.flat,du hi aj,ae⟩
  rw[a6 hp,jX]at ai;rw[ai];exact ap2 ⟨b4 hi,bH,bL hi,bI aE.e ad,h7.2 hp,du hi aj,ae⟩) (ap3 ⟨ec,ae⟩)
 rw[k6]at l;exact apd ⟨l,ae⟩
theorem Td(xs:List aE)(e:Int)(aj:xs.length<=8388608):aw 182 [.one (.J 5 (xs.map aE.e)),.one (I e)] [.one (.J 5 ((l3 e xs).map aE.e))]:=by
 let p:=fun r:aE=>r.bh.a7==e
 have l:=eR (P:=prog) (c:=(av f182 0)) (cL 0) xs.length (fun i:Nat=>xm (xs.map aE.e) e i (((xs.take i).filter p).map aE.e)) (fun i hi=>by
  obtain⟨a,ad⟩:=dm hi;have bg:=Fl p xs i;have ai:=zD p ad;by_cases hp:p a=true
  ·rw[aZ hp]at ai;rw[ai,jV];exact ape ⟨b4 hi,bH,bL hi,bI aE.e ad,hp,by simp;omega,by simp;omega,dY a.flat,du hi aj,ae⟩
  rw[a6 hp,jX]at ai;rw[ai];exact apf ⟨b4 hi,bH,bL hi,bI aE.e ad,h7.2 hp,du hi aj,ae⟩) (apg ⟨ec,ae⟩)
 rw[k6]at l;exact aph ⟨l,ae⟩
end Go.Proofs.YtdchjefneblpgaaGreat
namespace Go.Proofs.YtdchjefneblpgaaGreat
open Go.Sx Go.RowKit Go.Shelf Go.Lib Go.Sort Go.Proofs.Tryz
instance:Inhabited aE:=⟨(by constructor<;>first | exact (0:Int) | exact⟨0,0⟩)⟩
instance:Inhabited hT:=⟨(by constructor<;>first | exact (0:Int) | exact⟨0,0⟩)⟩
end Go.Proofs.YtdchjefneblpgaaGreat
namespace Go.Proofs.YtdchjefneblpgaaGreat
open Go.Sx Go.RowKit Go.Sort Go.Proofs.Tryz
theorem Fw(xs:List aE)(aj:xs.length<=8388608):aw 233 [.one (.J 5 (xs.map aE.e))] [.one (.J 5 (xs.map aE.e))]:=
 aop ⟨by simp;omega,by simp;omega,cd _ aE.flat _,ae⟩
theorem aU.x5{c:aU}(h:c.sz<=8388608):c.aq.length<=8388608:=by simp only[aU.sz,iV]at h;omega
theorem aU.Ey{c:aU}(h:c.sz<=8388608):c.bK.length<=8388608:=by simp only[aU.sz,iV]at h;omega
end Go.Proofs.YtdchjefneblpgaaGreat
namespace Go.Proofs.YtdchjefneblpgaaGreat
open Go.Sx Go.RowKit Go.Proofs.Tryz
def ew(w:aL)(e:Int):Bool:=w.b1.any fun d=>d.a7==e
theorem aL.OY{w:aL}(h:w.sz<=8388608):w.b1.length<=8388608:=by simp only[aL.sz]at h;omega
theorem aU.x6{c:aU}(h:c.sz<=8388608){w:aL}(aj:w∈c.aq):w.sz<=8388608:=by
 have:=F4 (sz:=aL.sz) aj;simp only[aU.sz,iV]at h;omega
theorem acA(w:aL)(e:Int)(hw:w.sz<=8388608):aw 213 [.agg w.e,.one (I e)] [.one (B (ew w e))]:=by
 have aj:=aL.OY hw;have l:=hv (P:=prog) (c:=(av f213 0)) w.b1 (fun d=>d.a7==e) (fun i=>xn (w.queue.map aE.e) (w.cp.map aE.e) (w.bZ.map aE.e) (w.cells.map Cell.e) (w.bM.map ba) (w.bV.map cI) (w.bm.map cI) (w.b1.map cD.e) e i) (X:=fun _ _=>Mf true) fl (cL 0)
  (fun i a ad h=>apj ⟨b4 (aX ad),bH,bL (aX ad),bI cD.e ad,h,du (aX ad) aj,ae⟩)
  (fun i a ad h=>api ⟨b4 (aX ad),bH,bL (aX ad),bI cD.e ad,h,ae⟩)
  (apk ⟨ec,ae⟩)
 unfold ew;rcases l with⟨_,_,h1,U⟩ | ⟨i,a,_,_,_,_,h1,U⟩
 ·rw[h1];exact apm ⟨U,ae⟩
 rw[h1];exact apl ⟨U,ae⟩
theorem Te(xs:List cD)(e:Int)(aj:xs.length<=8388608):aw 281 [.one (.J 2 (xs.map cD.e)),.one (I e)] [.one (B (xs.any fun d=>d.a7==e))]:=
 apn ⟨ari xs (fun d=>d.a7==e) _ _ aj (by kernel_rfl) (fun x _=>apo trivial),ae⟩
theorem acB(w:aL)(e:Int)(hw:w.sz<=8388608):aw 210 [.agg w.e,.one (I e)] [.one (B (ew w e))]:=
 apq ⟨Te w.b1 e (aL.OY hw),ae⟩
def nV(c:aU)(e:Int):Bool:=c.aq.any fun w=>ew w e
def nc(c:aU)(e:Int):Bool:=c.news.any fun x=>x.a7==e
theorem MD(w:aL)(e:Int)(r:Bool)(h:ew w e=r)(hw:w.sz<=8388608):aw 213 [.agg w.e,.one (I e)] [.one (B r)]:=h▸acA w e hw
theorem Qe{α:Type}{f:α->List D}(xs:List α)(b:Bool)(h:decide (xs.length=0)=b):((↑(xs.map f).length:Int)==0)=b:=by
 subst h;by_cases h:xs.length=0
 ·simp[h]
 rw[show decide (xs.length=0)=false from ee h];simp only[bk,vV,fM];omega
end Go.Proofs.YtdchjefneblpgaaGreat
namespace Go.Proofs.YtdchjefneblpgaaGreat
open Go.Sx Go.RowKit Go.Proofs.Tryz
def vu(op ep key:Int)(a:Cell):Bool:=decide (a.op=op/\a.a7=ep/\a.key=key)
theorem Tf(op ep key:Int):∀(xs:List Cell) (s:Int×Bool),
  ((s.2=true->(xs.foldl (fo op ep key) s).2=true/\(xs.foldl (fo op ep key) s).1<=s.1))/\
  (∀a∈xs,vu op ep key a=true->(xs.foldl (fo op ep key) s).2=true/\(xs.foldl (fo op ep key) s).1<=a.val)
 | [],s=>⟨fun h=>⟨h,Int.le_refl _⟩,by simp⟩
 | x::xs,s=>by
  obtain⟨h1,U⟩:=Tf op ep key xs (fo op ep key s x);rw[List.foldl_cons];have ai:s.2=true->(fo op ep key s x).2=true/\(fo op ep key s x).1<=s.1:=by
   intro h;unfold fo;split
   ·rename_i af;obtain⟨_,_,_,af⟩:=af;refine⟨rfl,?_⟩;rcases af with af | af
    ·rw[h]at af;cases af
    show x.val<=s.1;omega
   exact⟨h,Int.le_refl _⟩
  have aa:vu op ep key x=true->(fo op ep key s x).2=true/\(fo op ep key s x).1<=x.val:=by
   intro h;simp only[vu,b']at h;unfold fo;split
   ·exact⟨rfl,Int.le_refl _⟩
   rename_i af;have ax:¬(s.2=false\/x.val<s.1):=fun aF=>af ⟨h.1,h.2.1,h.2.2,aF⟩
   have aF:s.2=true:=by
    cases e:s.2 with
    | true=>rfl
    | false=>exact absurd (.inl e) ax
   exact⟨aF,by have:¬x.val<s.1:=fun aQ=>ax (.inr aQ);omega⟩
  refine⟨fun h=>?_,fun a ad nC=>?_⟩
  ·obtain⟨ax,aF⟩:=ai h;obtain⟨aQ,bb⟩:=h1 ax;exact⟨aQ,X0 bb aF⟩
  rcases et.1 ad with rfl | ad
  ·obtain⟨ax,aF⟩:=aa nC;obtain⟨aQ,bb⟩:=h1 ax;exact⟨aQ,X0 bb aF⟩
  exact U a ad nC
theorem acC{xs:List Cell}{op ep key:Int}{a:Cell}(ad:a∈xs)(h:vu op ep key a=true):(px xs op ep key).2=true/\(px xs op ep key).1<=a.val:=
 (Tf op ep key xs (0,false)).2 a ad h
def acD(e:Int)(a:Cell):Prop:=a.a7=e/\0<=a.op/\a.op<8/\0<=a.key/\a.key<=99/\0<=a.val/\a.val<=999
def acE(a:Cell):Nat:=a.op.toNat*100+a.key.toNat
structure avY (e:Int) (xs:List Cell):Prop where
 s3:∀a∈xs,acD e a
 apart:(xs.map acE).Nodup
theorem Tg(xs:List Cell)(x:Cell):nO xs x=true<->x∈xs:=by
 simp only[nO,l9,b'];constructor
 ·rintro⟨a,ad,rfl⟩;exact ad
 exact fun h=>⟨x,h,rfl⟩
theorem acF{xs:List Cell}{x:Cell}(ao:(h4 xs x).2=false):(h4 xs x).1=xs:=by
 unfold h4 at ao ⊢;split
 ·rfl
 rename_i af;rw[a6 af]at ao;cases ao
def cellsOf(e:Int)(r:aE):Cell:=⟨0,e,r.key,r.val⟩
def rounds(n:Nat):Nat:=2400000+n
