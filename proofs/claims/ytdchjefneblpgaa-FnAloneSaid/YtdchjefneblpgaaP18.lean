import Derived.Test.YtdchjefneblpgaaP17
set_option linter.unusedVariables false
set_option linter.unusedSimpArgs false
namespace Go.Proofs.Ytdchjefneblpgaa
open Go.Sx Go.RowKit Go.Proofs.Try
def cO(g:bz)(cs:List Cell)(r:aQ):List Cell×List aQ×Bool:=match dd g r.op with | some x=>cU g cs r x | none=>(cs,[],false)
theorem aaM(g:bz)(cs:List Cell)(r:aQ)(ag:g.sz<=8388608)(ak:cs.length<=8388608):aA 36 [.agg g.e,.one (.aa 4 (cs.map Cell.e)),.agg r.e] [.one (.aa 4 ((cO g cs r).1.map Cell.e)),.one (.aa 5 ((cO g cs r).2.1.map aQ.e)),.one (B (cO g cs r).2.2)]:=by
 unfold cO;cases h:dd g r.op with
 | some x=>exact aaK g cs r x ag ak h
 | none=>exact Yc ⟨by simp<;>omega,by simp<;>omega,bW _ Cell.flat _,q6 g r.op (⟨0,0,0,[]⟩,false) (by unfold mm;rw[h]) ag,rfl,aj⟩
theorem Li(g:bz)(cs:List Cell)(r:aQ)(ag:g.sz<=8388608)(ak:cs.length<=8388608):aA 32 [.agg g.e,.one (.aa 4 (cs.map Cell.e)),.agg r.e] [.one (.aa 4 ((cO g cs r).1.map Cell.e)),.one (.aa 5 ((cO g cs r).2.1.map aQ.e)),.one (B (cO g cs r).2.2)]:=by
 unfold cO;cases h:dd g r.op with
 | some x=>exact aaL g cs r x ag ak h
 | none=>
  have bK:=wI g ag;have cL:=zc r;have cI:=uk g r.op false (by rw[h];rfl) ag;have rF:=r' cs ak;generalize cz g=fU at*;generalize c8 r=fa at*;cases fU with
  | false=>exact K5 ⟨bK,rfl,rF,aj⟩
  | true=>
   cases fa with
   | false=>exact K6 ⟨bK,rfl,cL,rfl,rF,aj⟩
   | true=>exact Z1 ⟨bK,rfl,cL,rfl,cI,rfl,rF,aj⟩
def hK(g:bz)(r:aQ)(x:Node):Bool:=cz g&&c8 r&&x.kind==7&&decide (0<x.outs.length)&&!(dm r.bl).2
def dn(g:bz)(r:aQ):Bool:=match dd g r.op with | some x=>hK g r x | none=>false
theorem aaN(g:bz)(r:aQ)(x:Node)(ag:g.sz<=8388608)(aR:dd g r.op=some x):aA 35 [.agg g.e,.agg r.e] [.one (B (hK g r x))]:=by
 have bK:=q6 g r.op (x,true) (by unfold mm;rw[aR]) ag;have cL:=um r.bl;have cI:=ze g ag;rcases ca (cz g) with aJ | aJ
 ·skip
  have eT:=zb r;rcases ca (c8 r) with bt | bt
  ·skip
   rcases ca (x.kind==7) with bQ | bQ
   ·skip
    rcases ca (decide ((↑(x.outs.map aY).length:Int)>0)) with cZ | cZ
    ·skip
     rw[show hK g r x=(!((dm r.bl).2)) from by grind[hK]];exact X7 ⟨bK,cL,rfl,cI,aJ,eT,bt,bQ,cZ,aj⟩
    skip
    rw[show hK g r x=false from by grind[hK]];exact X8 ⟨bK,cL,rfl,cI,aJ,eT,bt,bQ,cZ,aj⟩
   skip
   rw[show hK g r x=false from by grind[hK]];exact X9 ⟨bK,cL,rfl,cI,aJ,eT,bt,bQ,aj⟩
  skip
  rw[show hK g r x=false from by grind[hK]];exact X' ⟨bK,cL,rfl,cI,aJ,eT,bt,aj⟩
 skip
 rw[show hK g r x=false from by grind[hK]];exact Ya ⟨bK,cL,rfl,cI,aJ,aj⟩
theorem aaO(g:bz)(r:aQ)(ag:g.sz<=8388608):aA 35 [.agg g.e,.agg r.e] [.one (B (dn g r))]:=by
 unfold dn;cases h:dd g r.op with
 | some x=>exact aaN g r x ag h
 | none=>exact Yb ⟨q6 g r.op (⟨0,0,0,[]⟩,false) (by unfold mm;rw[h]) ag,um r.bl,rfl,aj⟩
theorem yI{g:bz}(h:cz g=true){op:Int}{x:Node}(aR:dd g op=some x):av x=true:=by
 simp only[cz,b0,gD]at h;unfold dd at aR;split at aR
 ·have:=ue h.2 op.toNat x aR;simp only[gM,jU,sW]at this;exact this.1.1
 cases aR
theorem Lj{x:Node}(h:av x=true):x.outs.length<=2:=by
 simp only[av,b0,cF]at h;exact h.1.1.1.2
theorem aaP(kind:Int)(cs:List Cell)(x:Cell):(bZ kind cs x).1.length<=cs.length+1:=by
 have J:=DU cs x;have U:=DU (cs.filter fun a=>!ci x a) x;have ax:=mC (fun a=>!ci x a) cs;unfold bZ;split
 ·split<;>simp<;>omega
 split
 ·unfold dO;split<;>simp<;>omega
 simp
theorem yJ{g:bz}(ag:cz g=true)(cs:List Cell)(r:aQ):(cO g cs r).1.length<=cs.length+1/\(cO g cs r).2.1.length<=2:=by
 unfold cO;cases h:dd g r.op with
 | none=>exact⟨by simp,by simp⟩
 | some x=>
  have ae:=Lj (yI ag h);have ar:=aaP x.kind cs ⟨r.op,r.bl.aV,r.key,r.val⟩;have ad:∀s k v,(fu x s k v).length<=2:=fun s k v=>by simpa[fu]using ae
  simp only[cU];split
  ·split
   ·exact⟨by simp,by simp⟩
   split
   ·exact⟨ar,by simp⟩
   split
   ·refine⟨ar,?_⟩;cases (dm r.bl).2 with
    | true=>exact ad _ _ _
    | false=>simp
   exact⟨ar,ad _ _ _⟩
  exact⟨by simp,by simp⟩
end Go.Proofs.Ytdchjefneblpgaa
namespace Go.Proofs.Ytdchjefneblpgaa
open Go.Sx Go.RowKit Go.Proofs.Try
def il(e:Int)(xs:List aQ):List aQ:=xs.filter fun r=>r.bl.aV==e
theorem Lk(xs:List aQ)(e:Int)(ak:xs.length<=8388608):aA 30 [.one (.aa 5 (xs.map aQ.e)),.one (I e)] [.one (.aa 5 ((il e xs).map aQ.e))]:=by
 let p:=fun r:aQ=>r.bl.aV==e
 have l:=gx (P:=prog) (c:=(aF f30 0)) (di 0) xs.length (fun i:Nat=>sJ (xs.map aQ.e) e i (((xs.take i).filter p).map aQ.e)) (fun i hi=>by
  obtain⟨a,aC⟩:=cT hi;have bn:=pO p xs i;have ad:=q3 p aC;by_cases hp:p a=true
  ·rw[bb hp]at ad;rw[ad,kg];exact TM ⟨dr hi,c1,dh hi,c2 aQ.e aC,hp,by simp;omega,by simp;omega,dt a.flat,eN hi ak,aj⟩
  rw[aZ hp,ja]at ad;rw[ad];exact TN ⟨dr hi,c1,dh hi,c2 aQ.e aC,Oy.2 hp,eN hi ak,aj⟩) (TO ⟨fb,aj⟩)
 rw[jS]at l;exact TP ⟨l,aj⟩
end Go.Proofs.Ytdchjefneblpgaa
namespace Go.Proofs.Ytdchjefneblpgaa
open Go.Sx Go.RowKit Go.Proofs.Try
def oJ(op ep key:Int)(a:Cell):Bool:=decide (a.op=op/\a.aV=ep/\a.key=key)
theorem Ll(op ep key:Int):∀(xs:List Cell) (s:Int×Bool),
  ((s.2=true->(xs.foldl (dT op ep key) s).2=true/\(xs.foldl (dT op ep key) s).1<=s.1))/\
  (∀a∈xs,oJ op ep key a=true->(xs.foldl (dT op ep key) s).2=true/\(xs.foldl (dT op ep key) s).1<=a.val)
 | [],s=>⟨fun h=>⟨h,Int.le_refl _⟩,by simp⟩
 | x::xs,s=>by
  obtain⟨J,U⟩:=Ll op ep key xs (dT op ep key s x);rw[List.foldl_cons];have ad:s.2=true->(dT op ep key s x).2=true/\(dT op ep key s x).1<=s.1:=by
   intro h;unfold dT;split
   ·rename_i ai;obtain⟨_,_,_,ai⟩:=ai;refine⟨rfl,?_⟩;rcases ai with ai | ai
    ·rw[h]at ai;cases ai
    show x.val<=s.1;omega
   exact⟨h,Int.le_refl _⟩
  have ae:oJ op ep key x=true->(dT op ep key s x).2=true/\(dT op ep key s x).1<=x.val:=by
   intro h;simp only[oJ,cF]at h;unfold dT;split
   ·exact⟨rfl,Int.le_refl _⟩
   rename_i ai;have ax:¬(s.2=false\/x.val<s.1):=fun aJ=>ai ⟨h.1,h.2.1,h.2.2,aJ⟩
   have aJ:s.2=true:=by
    cases e:s.2 with
    | true=>rfl
    | false=>exact absurd (.inl e) ax
   exact⟨aJ,by have:¬x.val<s.1:=fun a1=>ax (.inr a1);omega⟩
  refine⟨fun h=>?_,fun a aC l6=>?_⟩
  ·obtain⟨ax,aJ⟩:=ad h;obtain⟨a1,bt⟩:=J ax;exact⟨a1,uO bt aJ⟩
  rcases dj.1 aC with rfl | aC
  ·obtain⟨ax,aJ⟩:=ae l6;obtain⟨a1,bt⟩:=J ax;exact⟨a1,uO bt aJ⟩
  exact U a aC l6
variable{xs:List Cell}
theorem KN{op ep key:Int}{a:Cell}(aC:a∈xs)(h:oJ op ep key a=true):(kN xs op ep key).2=true/\(kN xs op ep key).1<=a.val:=
 (Ll op ep key xs (0,false)).2 a aC h
def si(e:Int)(a:Cell):Prop:=a.aV=e/\0<=a.op/\a.op<8/\0<=a.key/\a.key<=99/\0<=a.val/\a.val<=999
def oK(a:Cell):Nat:=a.op.toNat*100+a.key.toNat
def p7(a:Cell):Nat:=(1000-a.val).toNat
def im(xs:List Cell):Nat:=(xs.map p7).sum
structure jc (e:Int) (xs:List Cell):Prop where
 lO:∀a∈xs,si e a
 apart:(xs.map oK).Nodup
theorem Ft:∀(n:Nat) (l:List Nat),l.Nodup->(∀x∈l,x<n)->l.length<=n
 | 0,l,_,h=>by
  cases l with
  | nil=>simp
  | cons a l=>exact absurd (h a (by simp)) (by omega)
 | n+1,l,ay,h=>by
  have J:=Ft n (l.filter fun x=>x != n) (ay.filter _) (by
   intro x ae;rw[List.mem_filter]at ae;have:=h x ae.1;simp only[bne_iff_ne,ki]at ae;omega)
  have U:l.length<=(l.filter fun x=>x != n).length+1:=by
   clear h J;induction l with
   | nil=>simp
   | cons a l dw=>
    rw[List.nodup_cons]at ay;rw[List.filter_cons];split
    ·have:=dw ay.2;simp only[du];omega
    rename_i aC;have vm:a=n:=by simpa using aC
    have:l.filter (fun x=>x != n)=l:=by
     rw[List.filter_eq_self];intro x ae;simp only[bne_iff_ne,ki];rintro rfl;exact ay.1 (vm▸ae)
    rw[this,du];omega
  omega
variable{e:Int}
theorem KO(h:jc e xs):im xs<=800000:=by
 have J:xs.length<=800:=by
  have:=Ft 800 (xs.map oK) h.apart (by
   intro x ae;obtain⟨a,aC,rfl⟩:=eC.1 ae;obtain⟨_,J,U,ax,aJ,_,_⟩:=h.lO a aC;unfold oK;omega)
  simpa using this
 have U:∀ys:List Cell,(∀a∈ys,si e a)->im ys<=1000*ys.length:=by
  intro ys;induction ys with
  | nil=>intro _;simp[im]
  | cons a ys dw=>
   intro ah;have ax:=dw fun b dX=>ah b (by simp[dX])
   obtain⟨_,_,_,_,_,aJ,a1⟩:=ah a (by simp);have hw:p7 a<=1000:=by unfold p7;omega
   simp only[im,gE,qa,du]at ax ⊢;omega
 have:=U xs h.lO;omega
theorem KP(p:Cell->Bool):∀xs:List Cell,im xs=im (xs.filter p)+im (xs.filter fun a=>!p a)
 | []=>by simp[im]
 | a::xs=>by
  have:=KP p xs;simp only[im,List.filter_cons,gE,qa]at this ⊢;cases p a<;>simp<;>omega
theorem yK(xs:List Cell)(x:Cell):ka xs x=true<->x∈xs:=by
 simp only[ka,oY,cF];constructor
 ·rintro⟨a,aC,rfl⟩;exact aC
 exact fun h=>⟨x,h,rfl⟩
variable{x:Cell}
theorem KQ(h:¬x∈xs):(gf xs x).Perm (x::xs):=by
 unfold gf;rw[aZ (by rw[yK];exact h)];refine List.perm_middle.trans ?_;rw[AD]
theorem aaQ{ys:List Cell}(h:xs.Perm ys):im xs=im ys:=(h.map p7).sum_nat
theorem yL{a:Cell}(aC:si e a)(ae:si e x):ci x a=true<->oK a=oK x:=by
 obtain⟨J,U,ax,aJ,a1,_,_⟩:=aC;obtain⟨g1,g2,g3,g4,g5,_,_⟩:=ae;simp only[ci,oK,b0,fR];constructor
 ·rintro⟨⟨bt,_⟩,bQ⟩;rw[bt,bQ]
 ·intro h;refine⟨⟨?_,?_⟩,?_⟩<;>omega
theorem KR(ae:si e x):∀{xs:List Cell},jc e xs->(xs.filter fun a=>ci x a).length<=1
 | [],_=>by simp
 | a::xs,h=>by
  have ah:jc e xs:=⟨fun b ah=>h.lO b (by simp[ah]),by have:=h.apart;rw[gE,List.nodup_cons]at this;exact this.2⟩
  have dw:=KR ae ah;rw[List.filter_cons];split
  ·rename_i aC;have aR:=h.apart;rw[gE,List.nodup_cons]at aR;have aK:xs.filter (fun a=>ci x a)=[]:=by
    rw[List.filter_eq_nil_iff];intro b dX ad;have J:=(yL (h.lO a (by simp)) ae).1 aC;have U:=(yL (h.lO b (by simp[dX])) ae).1 ad;exact aR.1 (eC.2 ⟨b,dX,by rw[U,J]⟩)
   rw[aK];simp
  exact dw
theorem aaR(h:jc e xs)(ae:si e x)(ah:(dO xs x).2=true):jc e (dO xs x).1/\im xs+1<=im (dO xs x).1:=by
 unfold dO at ah ⊢;split at ah
 ·cases ah
 rename_i ai;rw[aZ ai];have ih:¬x∈xs.filter fun a=>!ci x a:=by
  rw[List.mem_filter];rintro⟨_,U⟩;simp[ci]at U
 have hp:=KQ ih;have gb:∀a∈xs.filter (fun a=>!ci x a),a∈xs/\ci x a=false:=fun a aC=>by
  rw[List.mem_filter]at aC;exact⟨aC.1,by simpa using aC.2⟩
 refine⟨⟨fun a aC=>?_,?_⟩,?_⟩
 ·rcases dj.1 (hp.mem_iff.1 aC) with rfl | aC
  ·exact ae
  exact h.lO a (gb a aC).1
 ·have:=(hp.map oK).nodup_iff;rw[this,gE,List.nodup_cons];refine⟨fun hm=>?_,?_⟩
  ·obtain⟨a,aC,ad⟩:=eC.1 hm;have J:=(yL (h.lO a (gb a aC).1) ae).2 ad;rw[(gb a aC).2]at J;cases J
  exact h.apart.sublist ((List.filter_sublist (l:=xs)).map oK)
 rw[aaQ hp];have J:=KP (fun a=>ci x a) xs;have U:im (xs.filter fun a=>ci x a)+1<=p7 x:=by
  have ak:=KR ae h;have a8:∀a∈xs.filter (fun a=>ci x a),p7 a+1<=p7 x:=by
   intro a aC;rw[List.mem_filter]at aC;have ad:oJ x.op x.aV x.key a=true:=by
    have:=aC.2;simp only[ci,b0,fR]at this;simp only[oJ,cF];exact⟨this.1.1.symm,this.1.2.symm,this.2.symm⟩
   obtain⟨ax,aJ⟩:=KN aC.1 ad;rw[ax]at ai;have a1:¬(kN xs x.op x.aV x.key).1<=x.val:=by simpa using ai
   obtain⟨_,_,_,_,_,bt,bQ⟩:=h.lO a aC.1;obtain⟨_,_,_,_,_,cZ,dQ⟩:=ae;unfold p7;omega
  obtain⟨_,_,_,_,_,cZ,dQ⟩:=ae;revert ak a8;cases xs.filter (fun a=>ci x a) with
  | nil=>intro _ _;simp only[im,List.map_nil,List.sum_nil,p7];omega
  | cons a l=>
   intro ak a8;have:l=[]:=rm (by simp at ak;simp[ak]);subst this;have:=a8 a (by simp);simpa[im]using this
 simp only[im,gE,qa]at J U ⊢;omega
theorem yM{xs:List Cell}{x:Cell}(ah:(dO xs x).2=false):(dO xs x).1=xs:=by
 unfold dO at ah ⊢;split
 ·rfl
 rename_i ai;rw[aZ ai]at ah;cases ah
theorem KS(h:jc e xs):xs.length<=800:=by
 have:=Ft 800 (xs.map oK) h.apart (by
  intro x ae;obtain⟨a,aC,rfl⟩:=eC.1 ae;obtain⟨_,J,U,ax,aJ,_,_⟩:=h.lO a aC;unfold oK;omega)
 simpa using this
theorem Fu(e:Int):jc e []:=⟨by simp,by simp⟩
def uD(n:Node)(x:Cell)(k v:Int):List Cell:=n.outs.map fun o=>⟨o,x.aV,k,v⟩
def gX(g:bz)(best:List Cell)(x:Cell):List Cell×List Cell:=
 match dd g x.op with
 | none=>(best,[])
 | some n=>
  if cz g&&af x.aV 0 3&&c9 x.key x.val then
   ((dO best x).1,if (dO best x).2&&(bL n x.key x.val).2.2 then uD n x (bL n x.key x.val).1 (bL n x.key x.val).2.1 else [])
  else (best,[])
theorem yN{g:bz}{best:List Cell}(h:jc e best)(ae:x.aV=e):
  jc e (gX g best x).1/\(∀a∈(gX g best x).2,a.aV=e)/\3*im best+(gX g best x).2.length<=3*im (gX g best x).1/\(gX g best x).2.length<=2:=by
 unfold gX;split
 ·exact⟨h,by simp,by simp,by simp⟩
 rename_i n aR;split
 ·rename_i ai;simp only[b0]at ai;obtain⟨⟨ag,og⟩,hi⟩:=ai;have aM:=Lj (yI ag aR);have l3:si e x:=by
   have J:=uj aR;have U:g.nodes.length<=8:=by
    simp only[cz,b0,af,cF]at ag;omega
   simp only[c9,af,b0,cF,br]at hi J;exact⟨ae,by omega,by omega,by omega,by omega,by omega,by omega⟩
  cases ah:(dO best x).2 with
  | false=>
   rw[yM ah];exact⟨h,by simp,by simp,by simp⟩
  | true=>
   obtain⟨J,U⟩:=aaR h l3 ah;refine⟨J,?_,?_,?_⟩
   ·intro a aC;simp only[rl]at aC;split at aC
    ·obtain⟨o,_,rfl⟩:=eC.1 aC;exact ae
    cases aC
   ·simp only[rl];split
    ·simp only[uD,br];omega
    simp only[bG];omega
   simp only[rl];split
   ·simpa[uD]using aM
   simp
 exact⟨h,by simp,by simp,by simp⟩
def ql(g:bz):Nat->List Cell->List Cell->List Cell
 | 0,best,_=>best
 | _+1,best,[]=>best
 | k+1,best,x::l=>ql g k (gX g best x).1 (l++(gX g best x).2)
theorem KT{g:bz}:∀(k:Nat) (best l:List Cell),jc e best->(∀a∈l,a.aV=e)->jc e (ql g k best l)
 | 0,_,_,h,_=>h
 | _+1,_,[],h,_=>h
 | k+1,best,x::l,h,ak=>by
  obtain⟨J,U,_,_⟩:=yN (g:=g) h (ak x (by simp));refine KT k _ _ J fun a aC=>?_
  rcases hA.1 aC with aC | aC
  ·exact ak a (by simp[aC])
  exact U a aC
def p4(best l:List Cell):Nat:=3*(800000-im best)+l.length
theorem KU{g:bz}{best l:List Cell}(h:jc e best)(ae:x.aV=e):p4 (gX g best x).1 (l++(gX g best x).2)+1<=p4 best (x::l):=by
 obtain⟨J,_,ax,_⟩:=yN (g:=g) h ae;have w1:=KO h;have ke:=KO J;simp only[p4,mz,du];omega
def cellsOf(e:Int)(r:aQ):Cell:=⟨0,e,r.key,r.val⟩
def h8(e:Int)(xs:List aQ):List Cell:=((il e xs).filter c8).map (cellsOf e)
theorem aaS(e:Int)(xs:List aQ):(h8 e xs).length<=xs.length:=by
 simp only[h8,br];exact k2 (mC ..) (mC ..)
theorem yO{xs:List aQ}:∀a∈h8 e xs,a.aV=e:=by
 intro a aC;obtain⟨r,_,rfl⟩:=eC.1 aC;rfl
def rounds(n:Nat):Nat:=2400000+n
def nM(g:bz)(e:Int)(xs:List aQ):List Cell:=ql g (rounds (h8 e xs).length) [] (h8 e xs)
theorem KV{l:List Cell}:p4 [] l=rounds l.length:=rfl
theorem KW(g:bz)(e:Int)(xs:List aQ):jc e (nM g e xs):=KT _ _ _ (Fu e) yO
