import Derived.Test.YtdchjefneblpgaaGreatP17
import Derived.Test.YtdchjefneblpgaaGreatS1
set_option linter.unusedVariables false
set_option linter.unusedSimpArgs false
namespace Go.Proofs.YtdchjefneblpgaaGreat
open Go.Sx Go.RowKit Go.Proofs.Tryz
def dh(g:bF)(cs:List Cell)(r:ay):List Cell×List ay×Bool:=match dZ g r.op with | some x=>dY g cs r x | none=>(cs,[],false)
theorem anv(g:bF)(cs:List Cell)(r:ay)(ar:g.sz<=8388608)(aj:cs.length<=8388608):av 176 [.agg g.e,.one (.J 4 (cs.map Cell.e)),.agg r.e] [.one (.J 4 ((dh g cs r).1.map Cell.e)),.one (.J 5 ((dh g cs r).2.1.map ay.e)),.one (B (dh g cs r).2.2)]:=by
 unfold dh;cases h:dZ g r.op with
 | some x=>exact ant g cs r x ar aj h
 | none=>exact amF ⟨by simp<;>omega,by simp<;>omega,dy _ Cell.flat _,wG g r.op (⟨0,0,0,[]⟩,false) (by unfold qI;rw[h]) ar,rfl,ad⟩
theorem anw(g:bF)(cs:List Cell)(r:ay)(ar:g.sz<=8388608)(aj:cs.length<=8388608):av 232 [.agg g.e,.one (.J 4 (cs.map Cell.e)),.agg r.e] [.one (.J 4 ((dh g cs r).1.map Cell.e)),.one (.J 5 ((dh g cs r).2.1.map ay.e)),.one (B (dh g cs r).2.2)]:=by
 unfold dh;cases h:dZ g r.op with
 | some x=>exact anu g cs r x ar aj h
 | none=>
  have c1:=wI g ar;have c2:=rZ r;have cw:=s4 g r.op false (by rw[h];rfl) ar;have cK:=uL cs aj;generalize dg g=eO at*;generalize dM r=fo at*;cases eO with
  | false=>exact VM ⟨c1,rfl,cK,ad⟩
  | true=>
   cases fo with
   | false=>exact VN ⟨c1,rfl,c2,rfl,cK,ad⟩
   | true=>exact anY ⟨c1,rfl,c2,rfl,cw,rfl,cK,ad⟩
def kF(g:bF)(r:ay)(x:Node):Bool:=dg g&&dM r&&x.kind==7&&decide (0<x.outs.length)&&!(eF r.bf).2
def b7(g:bF)(r:ay):Bool:=match dZ g r.op with | some x=>kF g r x | none=>false
theorem anx(g:bF)(r:ay)(x:Node)(ar:g.sz<=8388608)(aP:dZ g r.op=some x):av 177 [.agg g.e,.agg r.e] [.one (B (kF g r x))]:=by
 have c1:=wG g r.op (x,true) (by unfold qI;rw[aP]) ar;have c2:=Ae r.bf;have cw:=CT g ar;rcases cR (dg g) with aI | aI
 ·skip
  have fE:=s8 r;rcases cR (dM r) with bu | bu
  ·skip
   rcases cR (x.kind==7) with bU | bU
   ·skip
    rcases cR (decide ((↑(x.outs.map bd).length:Int)>0)) with cI | cI
    ·skip
     rw[show kF g r x=(!((eF r.bf).2)) from by grind[kF]];exact amz ⟨c1,c2,rfl,cw,aI,fE,bu,bU,cI,ad⟩
    skip
    rw[show kF g r x=false from by grind[kF]];exact amA ⟨c1,c2,rfl,cw,aI,fE,bu,bU,cI,ad⟩
   skip
   rw[show kF g r x=false from by grind[kF]];exact amB ⟨c1,c2,rfl,cw,aI,fE,bu,bU,ad⟩
  skip
  rw[show kF g r x=false from by grind[kF]];exact amC ⟨c1,c2,rfl,cw,aI,fE,bu,ad⟩
 skip
 rw[show kF g r x=false from by grind[kF]];exact amD ⟨c1,c2,rfl,cw,aI,ad⟩
theorem anz(g:bF)(r:ay)(ar:g.sz<=8388608):av 177 [.agg g.e,.agg r.e] [.one (B (b7 g r))]:=by
 unfold b7;cases h:dZ g r.op with
 | some x=>exact anx g r x ar h
 | none=>exact amE ⟨wG g r.op (⟨0,0,0,[]⟩,false) (by unfold qI;rw[h]) ar,Ae r.bf,rfl,ad⟩
theorem Ie{g:bF}(h:dg g=true){op:Int}{x:Node}(aP:dZ g op=some x):aO x=true:=by
 simp only[dg,b9,gQ]at h;unfold dZ at aP;split at aP
 ·have:=AU h.2 op.toNat x aP;simp only[jq,fw,jf]at this;exact this.1.1
 cases aP
theorem Xn{x:Node}(h:aO x=true):x.outs.length<=2:=by
 simp only[aO,b9,cc]at h;exact h.1.1.1.2
theorem anA(kind:Int)(cs:List Cell)(x:Cell):(cm kind cs x).1.length<=cs.length+1:=by
 have h1:=NN cs x;have U:=NN (cs.filter fun a=>!cY x a) x;have aA:=l3 (fun a=>!cY x a) cs;unfold cm;split
 ·split<;>simp<;>omega
 split
 ·unfold e0;split<;>simp<;>omega
 simp
theorem anB{g:bF}(ar:dg g=true)(cs:List Cell)(r:ay):(dh g cs r).1.length<=cs.length+1/\(dh g cs r).2.1.length<=2:=by
 unfold dh;cases h:dZ g r.op with
 | none=>exact⟨by simp,by simp⟩
 | some x=>
  have aa:=Xn (Ie ar h);have aB:=anA x.kind cs ⟨r.op,r.bf.aU,r.key,r.val⟩;have ai:∀s k v,(e4 x s k v).length<=2:=fun s k v=>by simpa[e4]using aa
  simp only[dY];split
  ·split
   ·exact⟨by simp,by simp⟩
   split
   ·exact⟨aB,by simp⟩
   split
   ·refine⟨aB,?_⟩;cases (eF r.bf).2 with
    | true=>exact ai _ _ _
    | false=>simp
   exact⟨aB,ai _ _ _⟩
  exact⟨by simp,by simp⟩
end Go.Proofs.YtdchjefneblpgaaGreat
namespace Go.Proofs.YtdchjefneblpgaaGreat
open Go.Sx Go.RowKit Go.Proofs.Tryz
def iI(e:Int)(xs:List ay):List ay:=xs.filter fun r=>r.bf.aU==e
theorem Xo(xs:List ay)(e:Int)(aj:xs.length<=8388608):av 116 [.one (.J 5 (xs.map ay.e)),.one (I e)] [.one (.J 5 ((iI e xs).map ay.e))]:=by
 let p:=fun r:ay=>r.bf.aU==e
 have l:=dO (P:=prog) (c:=(ap f116 0)) (ci 0) xs.length (fun i:Nat=>yy (xs.map ay.e) e i (((xs.take i).filter p).map ay.e)) (fun i hi=>by
  obtain⟨a,ae⟩:=cV hi;have br:=s0 p xs i;have ai:=pM p ae;by_cases hp:p a=true
  ·rw[bh hp]at ai;rw[ai,gF];exact azU ⟨bT hi,bx,bA hi,bw ay.e ae,hp,bx,bA hi,bw ay.e ae,by simp;omega,by simp;omega,fA a.flat,cP hi aj,ad⟩
  rw[bq hp,gR]at ai;rw[ai];exact azV ⟨bT hi,bx,bA hi,bw ay.e ae,u5.2 hp,cP hi aj,ad⟩) (azW ⟨dq,ad⟩)
 rw[h6]at l;exact azX ⟨l,ad⟩
theorem Ig(xs:List ay)(e:Int)(aj:xs.length<=8388608):av 182 [.one (.J 5 (xs.map ay.e)),.one (I e)] [.one (.J 5 ((iI e xs).map ay.e))]:=by
 let p:=fun r:ay=>r.bf.aU==e
 have l:=dO (P:=prog) (c:=(ap f182 0)) (ci 0) xs.length (fun i:Nat=>yz (xs.map ay.e) e i (((xs.take i).filter p).map ay.e)) (fun i hi=>by
  obtain⟨a,ae⟩:=cV hi;have br:=s0 p xs i;have ai:=pM p ae;by_cases hp:p a=true
  ·rw[bh hp]at ai;rw[ai,gF];exact azY ⟨bT hi,bx,bA hi,bw ay.e ae,hp,by simp;omega,by simp;omega,fA a.flat,cP hi aj,ad⟩
  rw[bq hp,gR]at ai;rw[ai];exact azZ ⟨bT hi,bx,bA hi,bw ay.e ae,u5.2 hp,cP hi aj,ad⟩) (az0 ⟨dq,ad⟩)
 rw[h6]at l;exact az1 ⟨l,ad⟩
end Go.Proofs.YtdchjefneblpgaaGreat
namespace Go.Proofs.YtdchjefneblpgaaGreat
open Go.Sx Go.RowKit Go.Shelf Go.Lib Go.Sort Go.Proofs.Tryz
instance:Inhabited ay:=⟨(by constructor<;>first | exact (0:Int) | exact⟨0,0⟩)⟩
instance:Inhabited hR:=⟨(by constructor<;>first | exact (0:Int) | exact⟨0,0⟩)⟩
end Go.Proofs.YtdchjefneblpgaaGreat
namespace Go.Proofs.YtdchjefneblpgaaGreat
open Go.Sx Go.RowKit Go.Sort Go.Proofs.Tryz
theorem DS(xs:List ay)(aj:xs.length<=8388608):av 233 [.one (.J 5 (xs.map ay.e))] [.one (.J 5 (xs.map ay.e))]:=
 aza ⟨by simp;omega,by simp;omega,dy _ ay.flat _,ad⟩
theorem aV.Ei{c:aV}(h:c.sz<=8388608):c.ao.length<=8388608:=by simp only[aV.sz,fZ]at h;omega
theorem aV.Gm{c:aV}(h:c.sz<=8388608):c.bQ.length<=8388608:=by simp only[aV.sz,fZ]at h;omega
end Go.Proofs.YtdchjefneblpgaaGreat
namespace Go.Proofs.YtdchjefneblpgaaGreat
open Go.Sx Go.RowKit Go.Proofs.Tryz
def eC(w:aN)(e:Int):Bool:=w.b1.any fun d=>d.aU==e
theorem aN.RO{w:aN}(h:w.sz<=8388608):w.b1.length<=8388608:=by simp only[aN.sz]at h;omega
theorem aV.Ej{c:aV}(h:c.sz<=8388608){w:aN}(aj:w∈c.ao):w.sz<=8388608:=by
 have:=AT (sz:=aN.sz) aj;simp only[aV.sz,fZ]at h;omega
theorem anC(w:aN)(e:Int)(hw:w.sz<=8388608):av 213 [.agg w.e,.one (I e)] [.one (B (eC w e))]:=by
 have aj:=aN.RO hw;have l:=hf (P:=prog) (c:=(ap f213 0)) w.b1 (fun d=>d.aU==e) (fun i=>yA (w.queue.map ay.e) (w.cj.map ay.e) (w.bX.map ay.e) (w.cells.map Cell.e) (w.bP.map bd) (w.bV.map cF) (w.bl.map cF) (w.b1.map cz.e) e i) (X:=fun _ _=>Om true) eZ (ci 0)
  (fun i a ae h=>az3 ⟨bT (a6 ae),bx,bA (a6 ae),bw cz.e ae,h,cP (a6 ae) aj,ad⟩)
  (fun i a ae h=>az2 ⟨bT (a6 ae),bx,bA (a6 ae),bw cz.e ae,h,ad⟩)
  (az4 ⟨dq,ad⟩)
 unfold eC;rcases l with⟨_,_,h1,U⟩ | ⟨i,a,_,_,_,_,h1,U⟩
 ·rw[h1];exact az6 ⟨U,ad⟩
 rw[h1];exact az5 ⟨U,ad⟩
theorem Xp(xs:List cz)(e:Int)(aj:xs.length<=8388608):av 281 [.one (.J 2 (xs.map cz.e)),.one (I e)] [.one (B (xs.any fun d=>d.aU==e))]:=
 az7 ⟨afx xs (fun d=>d.aU==e) _ _ aj (by kernel_rfl) (fun x _=>az8 trivial),ad⟩
theorem anD(w:aN)(e:Int)(hw:w.sz<=8388608):av 210 [.agg w.e,.one (I e)] [.one (B (eC w e))]:=
 az9 ⟨Xp w.b1 e (aN.RO hw),ad⟩
theorem anE(e:Int)(xs:List ay):(iI e xs).length<=xs.length:=l3 ..
def oc(c:aV)(e:Int):Bool:=c.ao.any fun w=>eC w e
def nJ(c:aV)(e:Int):Bool:=c.news.any fun x=>x.aU==e
theorem Pc(w:aN)(e:Int)(r:Bool)(h:eC w e=r)(hw:w.sz<=8388608):av 213 [.agg w.e,.one (I e)] [.one (B r)]:=h▸anC w e hw
theorem S2{α:Type}{f:α->List D}(xs:List α)(b:Bool)(h:decide (xs.length=0)=b):((↑(xs.map f).length:Int)==0)=b:=by
 subst h;by_cases h:xs.length=0
 ·simp[h]
 rw[show decide (xs.length=0)=false from dE h];simp only[cp,Bs,lc];omega
end Go.Proofs.YtdchjefneblpgaaGreat
namespace Go.Proofs.YtdchjefneblpgaaGreat
open Go.Sx Go.RowKit Go.Proofs.Tryz
def te(op ep key:Int)(a:Cell):Bool:=decide (a.op=op/\a.aU=ep/\a.key=key)
theorem Xq(op ep key:Int):∀(xs:List Cell) (s:Int×Bool),
  ((s.2=true->(xs.foldl (fj op ep key) s).2=true/\(xs.foldl (fj op ep key) s).1<=s.1))/\
  (∀a∈xs,te op ep key a=true->(xs.foldl (fj op ep key) s).2=true/\(xs.foldl (fj op ep key) s).1<=a.val)
 | [],s=>⟨fun h=>⟨h,Int.le_refl _⟩,by simp⟩
 | x::xs,s=>by
  obtain⟨h1,U⟩:=Xq op ep key xs (fj op ep key s x);rw[List.foldl_cons];have ai:s.2=true->(fj op ep key s x).2=true/\(fj op ep key s x).1<=s.1:=by
   intro h;unfold fj;split
   ·rename_i al;obtain⟨_,_,_,al⟩:=al;refine⟨rfl,?_⟩;rcases al with al | al
    ·rw[h]at al;cases al
    show x.val<=s.1;omega
   exact⟨h,Int.le_refl _⟩
  have aa:te op ep key x=true->(fj op ep key s x).2=true/\(fj op ep key s x).1<=x.val:=by
   intro h;simp only[te,cc]at h;unfold fj;split
   ·exact⟨rfl,Int.le_refl _⟩
   rename_i al;have aA:¬(s.2=false\/x.val<s.1):=fun aI=>al ⟨h.1,h.2.1,h.2.2,aI⟩
   have aI:s.2=true:=by
    cases e:s.2 with
    | true=>rfl
    | false=>exact absurd (.inl e) aA
   exact⟨aI,by have:¬x.val<s.1:=fun a'=>aA (.inr a');omega⟩
  refine⟨fun h=>?_,fun a ae mH=>?_⟩
  ·obtain⟨aA,aI⟩:=ai h;obtain⟨a',bu⟩:=h1 aA;exact⟨a',Br bu aI⟩
  rcases dQ.1 ae with rfl | ae
  ·obtain⟨aA,aI⟩:=aa mH;obtain⟨a',bu⟩:=h1 aA;exact⟨a',Br bu aI⟩
  exact U a ae mH
variable{xs:List Cell}
theorem Xr{op ep key:Int}{a:Cell}(ae:a∈xs)(h:te op ep key a=true):(oT xs op ep key).2=true/\(oT xs op ep key).1<=a.val:=
 (Xq op ep key xs (0,false)).2 a ae h
def yb(e:Int)(a:Cell):Prop:=a.aU=e/\0<=a.op/\a.op<8/\0<=a.key/\a.key<=99/\0<=a.val/\a.val<=999
def tf(a:Cell):Nat:=a.op.toNat*100+a.key.toNat
def u4(a:Cell):Nat:=(1000-a.val).toNat
def lC(xs:List Cell):Nat:=(xs.map u4).sum
structure l5 (e:Int) (xs:List Cell):Prop where
 kR:∀a∈xs,yb e a
 apart:(xs.map tf).Nodup
theorem Pd:∀(n:Nat) (l:List Nat),l.Nodup->(∀x∈l,x<n)->l.length<=n
 | 0,l,_,h=>by
  cases l with
  | nil=>simp
  | cons a l=>exact absurd (h a (by simp)) (by omega)
 | n+1,l,aF,h=>by
  have h1:=Pd n (l.filter fun x=>x != n) (aF.filter _) (by
   intro x aa;rw[List.mem_filter]at aa;have:=h x aa.1;simp only[bne_iff_ne,lc]at aa;omega)
  have U:l.length<=(l.filter fun x=>x != n).length+1:=by
   clear h h1;induction l with
   | nil=>simp
   | cons a l dL=>
    rw[List.nodup_cons]at aF;rw[List.filter_cons];split
    ·have:=dL aF.2;simp only[fO];omega
    rename_i ae;have B4:a=n:=by simpa using ae
    have:l.filter (fun x=>x != n)=l:=by
     rw[List.filter_eq_self];intro x aa;simp only[bne_iff_ne,lc];rintro rfl;exact aF.1 (B4▸aa)
    rw[this,fO];omega
  omega
variable{e:Int}
theorem Xs(h:l5 e xs):lC xs<=800000:=by
 have h1:xs.length<=800:=by
  have:=Pd 800 (xs.map tf) h.apart (by
   intro x aa;obtain⟨a,ae,rfl⟩:=fV.1 aa;obtain⟨_,h1,U,aA,aI,_,_⟩:=h.kR a ae;unfold tf;omega)
  simpa using this
 have U:∀ys:List Cell,(∀a∈ys,yb e a)->lC ys<=1000*ys.length:=by
  intro ys;induction ys with
  | nil=>intro _;simp[lC]
  | cons a ys dL=>
   intro aq;have aA:=dL fun b gj=>aq b (by simp[gj])
   obtain⟨_,_,_,_,_,aI,a'⟩:=aq a (by simp);have hw:u4 a<=1000:=by unfold u4;omega
   simp only[lC,iM,sj,fO]at aA ⊢;omega
 have:=U xs h.kR;omega
theorem Xt(p:Cell->Bool):∀xs:List Cell,lC xs=lC (xs.filter p)+lC (xs.filter fun a=>!p a)
 | []=>by simp[lC]
 | a::xs=>by
  have:=Xt p xs;simp only[lC,List.filter_cons,iM,sj]at this ⊢;cases p a<;>simp<;>omega
theorem Pe(xs:List Cell)(x:Cell):n3 xs x=true<->x∈xs:=by
 simp only[n3,oj,cc];constructor
 ·rintro⟨a,ae,rfl⟩;exact ae
 exact fun h=>⟨x,h,rfl⟩
variable{x:Cell}
theorem anF(h:¬x∈xs):(ie xs x).Perm (x::xs):=by
 unfold ie;rw[bq (by rw[Pe];exact h)];refine List.perm_middle.trans ?_;rw[E1]
theorem anG{ys:List Cell}(h:xs.Perm ys):lC xs=lC ys:=(h.map u4).sum_nat
theorem Ih{a:Cell}(ae:yb e a)(aa:yb e x):cY x a=true<->tf a=tf x:=by
 obtain⟨h1,U,aA,aI,a',_,_⟩:=ae;obtain⟨g1,g2,g3,g4,g5,_,_⟩:=aa;simp only[cY,tf,b9,iL];constructor
 ·rintro⟨⟨bu,_⟩,bU⟩;rw[bu,bU]
 ·intro h;refine⟨⟨?_,?_⟩,?_⟩<;>omega
theorem Xu(aa:yb e x):∀{xs:List Cell},l5 e xs->(xs.filter fun a=>cY x a).length<=1
 | [],_=>by simp
 | a::xs,h=>by
  have aq:l5 e xs:=⟨fun b aq=>h.kR b (by simp[aq]),by have:=h.apart;rw[iM,List.nodup_cons]at this;exact this.2⟩
  have dL:=Xu aa aq;rw[List.filter_cons];split
  ·rename_i ae;have aP:=h.apart;rw[iM,List.nodup_cons]at aP;have e1:xs.filter (fun a=>cY x a)=[]:=by
    rw[List.filter_eq_nil_iff];intro b gj ai;have h1:=(Ih (h.kR a (by simp)) aa).1 ae;have U:=(Ih (h.kR b (by simp[gj])) aa).1 ai;exact aP.1 (fV.2 ⟨b,gj,by rw[U,h1]⟩)
   rw[e1];simp
  exact dL
theorem anH(h:l5 e xs)(aa:yb e x)(aq:(e0 xs x).2=true):l5 e (e0 xs x).1/\lC xs+1<=lC (e0 xs x).1:=by
 unfold e0 at aq ⊢;split at aq
 ·cases aq
 rename_i al;rw[bq al];have iU:¬x∈xs.filter fun a=>!cY x a:=by
  rw[List.mem_filter];rintro⟨_,U⟩;simp[cY]at U
 have hp:=anF iU;have iF:∀a∈xs.filter (fun a=>!cY x a),a∈xs/\cY x a=false:=fun a ae=>by
  rw[List.mem_filter]at ae;exact⟨ae.1,by simpa using ae.2⟩
 refine⟨⟨fun a ae=>?_,?_⟩,?_⟩
 ·rcases dQ.1 (hp.mem_iff.1 ae) with rfl | ae
  ·exact aa
  exact h.kR a (iF a ae).1
 ·have:=(hp.map tf).nodup_iff;rw[this,iM,List.nodup_cons];refine⟨fun hm=>?_,?_⟩
  ·obtain⟨a,ae,ai⟩:=fV.1 hm;have h1:=(Ih (h.kR a (iF a ae).1) aa).2 ai;rw[(iF a ae).2]at h1;cases h1
  exact h.apart.sublist ((List.filter_sublist (l:=xs)).map tf)
 rw[anG hp];have h1:=Xt (fun a=>cY x a) xs;have U:lC (xs.filter fun a=>cY x a)+1<=u4 x:=by
  have aj:=Xu aa h;have bD:∀a∈xs.filter (fun a=>cY x a),u4 a+1<=u4 x:=by
   intro a ae;rw[List.mem_filter]at ae;have ai:te x.op x.aU x.key a=true:=by
    have:=ae.2;simp only[cY,b9,iL]at this;simp only[te,cc];exact⟨this.1.1.symm,this.1.2.symm,this.2.symm⟩
   obtain⟨aA,aI⟩:=Xr ae.1 ai;rw[aA]at al;have a':¬(oT xs x.op x.aU x.key).1<=x.val:=by simpa using al
   obtain⟨_,_,_,_,_,bu,bU⟩:=h.kR a ae.1;obtain⟨_,_,_,_,_,cI,eu⟩:=aa;unfold u4;omega
  obtain⟨_,_,_,_,_,cI,eu⟩:=aa;revert aj bD;cases xs.filter (fun a=>cY x a) with
  | nil=>intro _ _;simp only[lC,List.map_nil,List.sum_nil,u4];omega
  | cons a l=>
   intro aj bD;have:l=[]:=u' (by simp at aj;simp[aj]);subst this;have:=bD a (by simp);simpa[lC]using this
 simp only[lC,iM,sj]at h1 U ⊢;omega
theorem Ii{xs:List Cell}{x:Cell}(aq:(e0 xs x).2=false):(e0 xs x).1=xs:=by
 unfold e0 at aq ⊢;split
 ·rfl
 rename_i al;rw[bq al]at aq;cases aq
theorem Pf(h:l5 e xs):xs.length<=800:=by
 have:=Pd 800 (xs.map tf) h.apart (by
  intro x aa;obtain⟨a,ae,rfl⟩:=fV.1 aa;obtain⟨_,h1,U,aA,aI,_,_⟩:=h.kR a ae;unfold tf;omega)
 simpa using this
theorem Ij(e:Int):l5 e []:=⟨by simp,by simp⟩
def yR(n:Node)(x:Cell)(k v:Int):List Cell:=n.outs.map fun o=>⟨o,x.aU,k,v⟩
def h2(g:bF)(best:List Cell)(x:Cell):List Cell×List Cell:=
 match dZ g x.op with
 | none=>(best,[])
 | some n=>
  if dg g&&aw x.aU 0 3&&ey x.key x.val then
   ((e0 best x).1,if (e0 best x).2&&(b3 n x.key x.val).2.2 then yR n x (b3 n x.key x.val).1 (b3 n x.key x.val).2.1 else [])
  else (best,[])
theorem DT{g:bF}{best:List Cell}(h:l5 e best)(aa:x.aU=e):
  l5 e (h2 g best x).1/\(∀a∈(h2 g best x).2,a.aU=e)/\3*lC best+(h2 g best x).2.length<=3*lC (h2 g best x).1/\(h2 g best x).2.length<=2:=by
 unfold h2;split
 ·exact⟨h,by simp,by simp,by simp⟩
 rename_i n aP;split
 ·rename_i al;simp only[b9]at al;obtain⟨⟨ar,sM⟩,hi⟩:=al;have aW:=Xn (Ie ar aP);have iu:yb e x:=by
   have h1:=xZ aP;have U:g.nodes.length<=8:=by
    simp only[dg,b9,aw,cc]at ar;omega
   simp only[ey,aw,b9,cc,cp]at hi h1;exact⟨aa,by omega,by omega,by omega,by omega,by omega,by omega⟩
  cases aq:(e0 best x).2 with
  | false=>
   rw[Ii aq];exact⟨h,by simp,by simp,by simp⟩
  | true=>
   obtain⟨h1,U⟩:=anH h iu aq;refine⟨h1,?_,?_,?_⟩
   ·intro a ae;simp only[lb]at ae;split at ae
    ·obtain⟨o,_,rfl⟩:=fV.1 ae;exact aa
    cases ae
   ·simp only[lb];split
    ·simp only[yR,cp];omega
    simp only[ej];omega
   simp only[lb];split
   ·simpa[yR]using aW
   simp
 exact⟨h,by simp,by simp,by simp⟩
def vm(g:bF):Nat->List Cell->List Cell->List Cell
 | 0,best,_=>best
 | _+1,best,[]=>best
 | k+1,best,x::l=>vm g k (h2 g best x).1 (l++(h2 g best x).2)
theorem Xv{g:bF}:∀(k:Nat) (best l:List Cell),l5 e best->(∀a∈l,a.aU=e)->l5 e (vm g k best l)
 | 0,_,_,h,_=>h
 | _+1,_,[],h,_=>h
 | k+1,best,x::l,h,aj=>by
  obtain⟨h1,U,_,_⟩:=DT (g:=g) h (aj x (by simp));refine Xv k _ _ h1 fun a ae=>?_
  rcases gg.1 ae with ae | ae
  ·exact aj a (by simp[ae])
  exact U a ae
def tv(best l:List Cell):Nat:=3*(800000-lC best)+l.length
theorem Pg{g:bF}{best l:List Cell}(h:l5 e best)(aa:x.aU=e):tv (h2 g best x).1 (l++(h2 g best x).2)+1<=tv best (x::l):=by
 obtain⟨h1,_,aA,_⟩:=DT (g:=g) h aa;have w1:=Xs h;have hM:=Xs h1;simp only[tv,lH,fO];omega
def cellsOf(e:Int)(r:ay):Cell:=⟨0,e,r.key,r.val⟩
def lS(e:Int)(xs:List ay):List Cell:=((iI e xs).filter dM).map (cellsOf e)
theorem Xw(e:Int)(xs:List ay):(lS e xs).length<=xs.length:=by
 simp only[lS,cp];exact mW (l3 ..) (l3 ..)
theorem Ik{xs:List ay}:∀a∈lS e xs,a.aU=e:=by
 intro a ae;obtain⟨r,_,rfl⟩:=fV.1 ae;rfl
def rounds(n:Nat):Nat:=2400000+n
def r0(g:bF)(e:Int)(xs:List ay):List Cell:=vm g (rounds (lS e xs).length) [] (lS e xs)
theorem Ph{l:List Cell}:tv [] l=rounds l.length:=rfl
theorem Xx(g:bF)(e:Int)(xs:List ay):l5 e (r0 g e xs):=Xv _ _ _ (Ij e) Ik
