import Derived.Test.YtdchjefneblpgaaGreatC0
import Derived.Test.YtdchjefneblpgaaGreatS1
set_option linter.unusedVariables false
set_option linter.unusedSimpArgs false
namespace Go.Proofs.YtdchjefneblpgaaGreat
open Go.Sx Go.RowKit Go.Proofs.Tryz
def p4(e:Int)(xs:List aA):List aA:=xs.filter fun r=>r.bx.bf==e
theorem QZ(xs:List aA)(e:Int)(ak:xs.length<=8388608):av 116 [.one (.J 5 (xs.map aA.e)),.one (I e)] [.one (.J 5 ((p4 e xs).map aA.e))]:=by
 let p:=fun r:aA=>r.bx.bf==e
 have l:=e7 (P:=prog) (c:=(ar f116 0)) (cM 0) xs.length (fun i:Nat=>vT (xs.map aA.e) e i (((xs.take i).filter p).map aA.e)) (fun i hi=>by
  obtain⟨a,aj⟩:=cY hi;have bY:=Ru p xs i;have ai:=Is p aj;by_cases hp:p a=true
  ·rw[br hp]at ai;rw[ai,ha];exact anA ⟨cf hi,bG,bL hi,bF aA.e aj,hp,bG,bL hi,bF aA.e aj,by simp;omega,by simp;omega,dG a.flat,dw hi ak,aa⟩
  rw[bg hp,lu]at ai;rw[ai];exact anB ⟨cf hi,bG,bL hi,bF aA.e aj,lr.2 hp,dw hi ak,aa⟩) (anC ⟨dU,aa⟩)
 rw[k1]at l;exact anD ⟨l,aa⟩
end Go.Proofs.YtdchjefneblpgaaGreat
namespace Go.Proofs.YtdchjefneblpgaaGreat
open Go.Sx Go.RowKit Go.Shelf Go.Lib Go.Sort Go.Proofs.Tryz
instance:Inhabited aA:=⟨(by constructor<;>first | exact (0:Int) | exact⟨0,0⟩)⟩
instance:Inhabited gr:=⟨(by constructor<;>first | exact (0:Int) | exact⟨0,0⟩)⟩
end Go.Proofs.YtdchjefneblpgaaGreat
namespace Go.Proofs.YtdchjefneblpgaaGreat
open Go.Sx Go.RowKit Go.Sort Go.Proofs.Tryz
def Q0(s:gr):List Int:=[s.bf,s.dS]
def Aw(r:aA):List Int:=[r.bx.bf,r.bx.dS,r.op,r.key,r.val]
def Dj(a b:gr):Int:=jm (Q0 a) (Q0 b)
def hj(a b:aA):Int:=jm (Aw a) (Aw b)
theorem Ue:SWO (ltOf hj):=aoD Aw 5 fun _=>rfl
theorem ar7(x y:aA):ltOf hj x y=false->ltOf hj y x=false->x=y:=
 aoE Aw 5 (fun _=>rfl) (fun a b h=>by
  obtain⟨_,⟨_,_⟩,_,_⟩:=a;obtain⟨_,⟨_,_⟩,_,_⟩:=b;simp[Aw]at h;simp[h]) x y
theorem aq4(d:Int):kr [d]=d:=by
 rw[vg];split
 ·rename_i h;rw[h];rfl
 rfl
theorem Q1(a b:gr):Dj a b=kr [gw a.bf b.bf,gw a.dS b.dS]:=rfl
theorem aq5(a b:aA):hj a b=kr [Dj a.bx b.bx,gw a.op b.op,gw a.key b.key,gw a.val b.val]:=by
 rw[Q1,QK];rfl
theorem aq6(a b:gr):av 314 [.agg a.e,.agg b.e] [.one (I (Dj a b))]:=by
 have cn:=sh a.bf b.bf;have ca:=sh a.dS b.dS;rw[Q1,vg,aq4];split
 ·rename_i h;rw[h]at cn;exact amr ⟨cn,rfl,ca,aa⟩
 rename_i h;exact amq ⟨cn,by simpa using h,aa⟩
theorem Q2(a b:aA):av 264 [.agg a.e,.agg b.e] [.one (I (hj a b))]:=by
 have cn:=aq6 a.bx b.bx;have ca:=sh a.op b.op;have cB:=sh a.key b.key;have e6:=sh a.val b.val;rw[aq5];generalize Dj a.bx b.bx=k0 at*;generalize gw a.op b.op=ij at*;generalize gw a.key b.key=qh at*;generalize gw a.val b.val=o4 at*;have l:=hh (P:=prog) (c:=(ar f264 0)) [k0,ij,qh,o4] (fun d=>d != 0) (fun i=>vS k0 ij qh o4 i) (X:=fun _ d=>Kf d) fi (cM 0)
  (fun i d aE h=>amt ⟨dZ (by have:=a6 aE;simp at this;omega),bG,by have:=a6 aE;simp at this ⊢;omega,bF a8 aE,h,⟨by omega,by have:=a6 aE;simp at this;omega⟩,aa⟩)
  (fun i d aE h=>ams ⟨dZ (by have:=a6 aE;simp at this;omega),bG,by have:=a6 aE;simp at this ⊢;omega,bF a8 aE,h,bG,by have:=a6 aE;simp at this ⊢;omega,bF a8 aE,aa⟩)
  (amu ⟨rfl,aa⟩)
 unfold kr;rcases l with⟨h1,_,_,U⟩ | ⟨i,a,_,_,h1,_,_,U⟩
 ·rw[h1];exact amw ⟨cn,ca,cB,e6,U,aa⟩
 rw[h1];exact amv ⟨cn,ca,cB,e6,U,aa⟩
theorem Q3(x:aA)(S R:List aA)(n:Int)(ak:S.length+R.length+1<=8388608):∀(k:Nat) (y:aA),k<=S.length->∃e9,c0 prog (ar f165 1)
  (tI n k ((S.take k++y::(S.drop k++R)).map aA.e) x.op x.bx.bf x.bx.dS x.key x.val) (.exit 2)
  (De n ((S.take (kQ (ltOf hj) x S k)++e9::(S.drop (kQ (ltOf hj) x S k)++R)).map aA.e) (kQ (ltOf hj) x S k:Nat) x.op x.bx.bf x.bx.dS x.key x.val)
 | 0,y,_=>⟨y,.last (cM 2) (alZ ⟨eD (by simp),aa⟩)⟩
 | k+1,y,hk=>by
  obtain⟨z,bd⟩:=cY (xs:=S) (i:=k) (by omega);have e1:(((k+1:Nat):Int)-1).toNat=k:=by omega
  have fW:((S.take (k+1)++y::(S.drop (k+1)++R)).map aA.e)[(((k+1:Nat):Int)-1).toNat]?=some z.e:=by
   rw[e1,dd,x' (by simp;omega),j1,br (by omega),bd];rfl
  have Gj:((S.take (k+1)++y::(S.drop (k+1)++R)).map aA.e)[(((k+1:Nat):Int)).toNat]?=some y.e:=by
   rw[l0,dd,sD (by simp;omega)];simp[lx,Nat.min_eq_left hk]
  have hlen:(↑((S.take (k+1)++y::(S.drop (k+1)++R)).map aA.e).length:Int)=S.length+R.length+1:=by simp;omega
  have kK:az .i64 (((k+1:Nat):Int)-1):=⟨by omega,by omega⟩
  have Nr:decide (((k+1:Nat):Int)>0)=true:=dZ (by omega);simp only[kQ,bd];by_cases ah:ltOf hj x z=true
  ·rw[br ah];obtain⟨e9,bn⟩:=Q3 x S R n ak k z (by omega);refine⟨e9,.more ?_ bn⟩;have pv:decide (hj x z<0)=true:=ah;refine wb (fun l=>tI n k l x.op x.bx.bf x.bx.dS x.key x.val) (wb (fun i=>tI n i _ x.op x.bx.bf x.bx.dS x.key x.val) (alX ⟨Nr,kK,by omega,by omega,fW,Q2 x z,pv,kK,by omega,by omega,fW,by omega,by omega,Gj,kK,aa⟩) (by omega:((k+1:Nat):Int)-1=k)) ?_;show List.set _ _ z.e=_;rw[l0,<-iB]
   congr 1
   rw[List.set_append_right _ _ (by simp;omega)];have lM:S[k]'(a6 bd)=z:=by have:=bd;rw[gp (a6 bd)]at this;exact eL this
   simp only[lx,Nat.min_eq_left hk,Nat.sub_self,List.set_cons_zero];rw[List.take_succ_eq_append_getElem (a6 bd),lM,<-List.getElem_cons_drop (a6 bd),lM];simp
  rw[bg ah];have pv:decide (hj x z<0)=false:=by simpa[ltOf]using ah
  exact⟨y,.last (cM 2) (alY ⟨Nr,kK,by omega,by omega,fW,Q2 x z,pv,aa⟩)⟩
theorem aq7(xs:List aA)(ak:xs.length<=8388608):av 165 [.one (.J 5 (xs.map aA.e))] [.one (.J 5 ((kh (ltOf hj) xs).map aA.e))]:=by
 have hlen:∀ys:List aA,(kh (ltOf hj) ys).length=ys.length:=fun ys=>by simp[kh,Jz]
 let f:=fun i:Nat=>oY i ((kh (ltOf hj) (xs.take i)++xs.drop i).map aA.e)
 have step:∀i,1<=i->i<xs.length->fz prog (ar f165 0) (f i) .normal (f (i+1)):=by
  intro i _ hi;obtain⟨x,ag⟩:=cY hi;have Yf:xs[i]=x:=by rw[gp hi]at ag;exact eL ag
  have yG:(kh (ltOf hj) (xs.take i)).length=i:=by rw[hlen,lx];omega
  have bz:∀S:List aA,S.length=i->S++xs.drop i=S.take i++x::(S.drop i++xs.drop (i+1)):=by
   intro S h;rw[ya (l:=S) (by omega),List.drop_eq_nil_of_le (show S.length<=i by omega),List.nil_append,<-List.getElem_cons_drop hi,Yf]
  show fz _ _ (oY i _) _ (oY (i+1:Nat) _);rw[aoH ag,oE,yG,bz _ yG];generalize kh (ltOf hj) (xs.take i)=S at*;have bC:S.length+(xs.drop (i+1)).length+1=xs.length:=by simp;omega
  obtain⟨e9,bn⟩:=Q3 x S (xs.drop (i+1)) i (by omega) i x (by omega);have hp:=Km (ltOf hj) x S i;generalize kQ (ltOf hj) x S i=p at*;have fW:((S.take i++x::(S.drop i++xs.drop (i+1))).map aA.e)[((i:Nat):Int).toNat]?=some x.e:=by
   rw[l0,dd,sD (by simp;omega)];simp[lx,Nat.min_eq_left (show i<=S.length by omega)]
  have Gj:((S.take p++e9::(S.drop p++xs.drop (i+1))).map aA.e)[((p:Nat):Int).toNat]?=some e9.e:=by
   rw[l0,dd,sD (by simp;omega)];simp[lx,Nat.min_eq_left (show p<=S.length by omega)]
  have qC:(↑((S.take i++x::(S.drop i++xs.drop (i+1))).map aA.e).length:Int)=xs.length:=by simp;omega
  have da:(↑((S.take p++e9::(S.drop p++xs.drop (i+1))).map aA.e).length:Int)=xs.length:=by simp;omega
  refine wb (oY ((i+1:Nat):Int)) (al0 ⟨dZ (by omega),by omega,by omega,fW,bn,by omega,by omega,Gj,⟨by omega,by omega⟩,aa⟩) ?_;show List.set _ _ x.e=_;rw[l0,<-iB]
  congr 1
  rw[List.set_append_right _ _ (by simp;omega)];simp[lx,Nat.min_eq_left (show p<=S.length by omega)]
 have l:c0 prog (ar f165 0) (oY 1 (xs.map aA.e)) (.exit 0) (Df ((kh (ltOf hj) xs).map aA.e)):=by
  rcases Nat.eq_zero_or_pos xs.length with bJ | bJ
  ·have ag:xs=[]:=ug bJ;rw[ag];exact .last (cM 0) (Rk ⟨rfl,aa⟩)
  have e:=aks (P:=prog) (c:=(ar f165 0)) (cM 0) 1 xs.length f bJ step (stE:=Df ((kh (ltOf hj) xs).map aA.e)) (by
   show fz _ _ (oY _ _) _ _;rw[k1,List.drop_length,lu];exact Rk ⟨eD (by rw[bm,hlen];omega),aa⟩)
  have e1:kh (ltOf hj) (xs.take 1)++xs.drop 1=xs:=by
   obtain⟨a,ys,rfl⟩:=List.exists_cons_of_length_pos bJ;rfl
  have e2:f 1=oY 1 (xs.map aA.e):=by
   show oY _ _=_;rw[e1];rfl
  rw[e2]at e;exact e
 exact al1 ⟨by simp;omega,by simp;omega,cr _ aA.flat _,l,aa⟩
theorem CL(xs:List aA)(ak:xs.length<=8388608):av 233 [.one (.J 5 (xs.map aA.e))] [.one (.J 5 (xs.map aA.e))]:=
 amK ⟨by simp;omega,by simp;omega,cr _ aA.flat _,aa⟩
theorem aq8{xs:List aA}:(kh (ltOf hj) xs).length=xs.length:=by simp[kh,Jz]
def lG(w:aP):List aA:=w.queue++w.cg
def nT(c:bb):List aA:=c.ay.flatMap lG++c.bV.flatMap bt.queue
def nU(c:bb):List aA:=kh (ltOf hj) (nT c)
theorem JH{α β:Type}(f:α->List β)(sz:α->Nat)(h:∀a,(f a).length<=sz a):∀xs:List α,(xs.flatMap f).length<=(xs.map sz).sum
 | []=>by simp
 | a::xs=>by
  have:=JH f sz h xs;have:=h a;simp only[List.flatMap_cons,hs,l2,uo];omega
theorem Q4{α β:Type}(f:α->List β)(xs:List α)(i:Nat):((xs.take i).flatMap f).length<=(xs.flatMap f).length:=by
 have:xs.flatMap f=(xs.take i).flatMap f++(xs.drop i).flatMap f:=by rw[<-List.flatMap_append,Fi]
 rw[this,hs];omega
theorem Q5{α β:Type}(f:α->List β){xs:List α}{i:Nat}{a:α}(h:xs[i]?=some a):(xs.take (i+1)).flatMap f=(xs.take i).flatMap f++f a:=by
 simp[sE,h]
variable{c:bb}
theorem bb.Ud(h:c.sz<=8388608):(c.ay.flatMap lG).length+(c.ay.flatMap aP.b8).length+(c.bV.flatMap bt.queue).length<=8388608:=by
 have h1:=JH (fun w=>lG w++w.b8) aP.sz (fun w=>by simp only[aP.sz,lG,hs];omega) c.ay;have U:=JH bt.queue bt.sz (fun l=>by simp only[bt.sz];omega) c.bV;have ax:(c.ay.flatMap fun w=>lG w++w.b8).length=(c.ay.flatMap lG).length+(c.ay.flatMap aP.b8).length:=by
  generalize c.ay=ws;induction ws with
  | nil=>rfl
  | cons w ws dE=>simp only[List.flatMap_cons,hs,dE];omega
 simp only[bb.sz,eZ]at h;omega
theorem Q6(h:c.sz<=8388608):(nT c).length+(c.ay.flatMap aP.b8).length<=8388608:=by
 have:=bb.Ud h;simp only[nT,hs];omega
theorem aq9(c:bb):(nU c).length=(nT c).length:=aq8
theorem Q7(h:c.sz<=8388608):(nU c).length<=8388608:=by
 have:=Q6 h;rw[aq9];omega
theorem bb.x3(h:c.sz<=8388608):c.ay.length<=8388608:=by simp only[bb.sz,eZ]at h;omega
theorem bb.zl(h:c.sz<=8388608):c.bV.length<=8388608:=by simp only[bb.sz,eZ]at h;omega
theorem Ax(c:bb)(ah:c.sz<=8388608):av 38 [.agg c.e] [.one (.J 5 ((nU c).map aA.e))]:=by
 have atH:=bb.Ud ah;have eP:=e7 (P:=prog) (c:=(ar f38 0)) (cM 0) c.ay.length (fun i:Nat=>xF (c.aF.nodes.map Node.e) c.aF.ay c.aF.cap (c.ay.map aP.e) (c.bV.map bt.e) (c.tokens.map b2.e) (c.news.map cb.e) i (((c.ay.take i).flatMap lG).map aA.e)) (fun i hi=>by
  obtain⟨w,hw⟩:=cY hi;have h1:=Q5 lG hw;have U:=Q4 lG c.ay (i+1);have aK:((c.ay.take i).flatMap lG).length+w.queue.length+w.cg.length<=8388608:=by
   rw[h1,hs,lG,hs]at U;omega
  refine wb (xF _ _ _ _ _ _ _ _) (al2 ⟨cf hi,bG,bL hi,bF aP.e hw,by simp only[bm];omega,by simp only[bm];omega,cr _ aA.flat _,bG,bL hi,bF aP.e hw,by simp only[bm,hs];omega,by simp only[bm,hs];omega,cr _ aA.flat _,dw hi (bb.x3 ah),aa⟩) ?_;rw[h1,lG];simp only[ha,re]) (al3 ⟨dU,aa⟩)
 have hD:=e7 (P:=prog) (c:=(ar f38 1)) (cM 2) c.bV.length (fun i:Nat=>xG (c.aF.nodes.map Node.e) c.aF.ay c.aF.cap (c.ay.map aP.e) (c.bV.map bt.e) (c.tokens.map b2.e) (c.news.map cb.e) i ((c.ay.flatMap lG++(c.bV.take i).flatMap bt.queue).map aA.e)) (fun i hi=>by
  obtain⟨l,s0⟩:=cY hi;have h1:=Q5 bt.queue s0;have U:=Q4 bt.queue c.bV (i+1);have aK:(c.ay.flatMap lG).length+((c.bV.take i).flatMap bt.queue).length+l.queue.length<=8388608:=by
   rw[h1,hs]at U;omega
  refine wb (xG _ _ _ _ _ _ _ _) (al4 ⟨cf hi,bG,bL hi,bF bt.e s0,by simp only[bm,hs];omega,by simp only[bm,hs];omega,cr _ aA.flat _,dw hi (bb.zl ah),aa⟩) ?_;rw[h1];simp only[ha,re]) (al5 ⟨dU,aa⟩)
 rw[k1]at eP hD;simp only[List.take_zero,Fk,lu]at eP hD;exact al6 ⟨eP,hD,aq7 (nT c) (by have:=Q6 ah;omega),aa⟩
end Go.Proofs.YtdchjefneblpgaaGreat
namespace Go.Proofs.YtdchjefneblpgaaGreat
open Go.Sx Go.RowKit Go.Proofs.Tryz
def i'(w:aP)(e:Int):Bool:=w.b'.any fun d=>d.bf==e
theorem aP.Wi{w:aP}(h:w.sz<=8388608):w.b'.length<=8388608:=by simp only[aP.sz]at h;omega
theorem bb.Ez{c:bb}(h:c.sz<=8388608){w:aP}(ak:w∈c.ay):w.sz<=8388608:=by
 have:=C1 (sz:=aP.sz) ak;simp only[bb.sz,eZ]at h;omega
theorem ara(w:aP)(e:Int)(hw:w.sz<=8388608):av 213 [.agg w.e,.one (I e)] [.one (B (i' w e))]:=by
 have ak:=aP.Wi hw;have l:=hh (P:=prog) (c:=(ar f213 0)) w.b' (fun d=>d.bf==e) (fun i=>vU (w.queue.map aA.e) (w.cg.map aA.e) (w.b8.map aA.e) (w.cells.map Cell.e) (w.bH.map a8) (w.bU.map cu) (w.bK.map cu) (w.b'.map cD.e) e i) (X:=fun _ _=>Kg true) fi (cM 0)
  (fun i a aj h=>anF ⟨cf (a6 aj),bG,bL (a6 aj),bF cD.e aj,h,dw (a6 aj) ak,aa⟩)
  (fun i a aj h=>anE ⟨cf (a6 aj),bG,bL (a6 aj),bF cD.e aj,h,aa⟩)
  (anG ⟨dU,aa⟩)
 unfold i';rcases l with⟨_,_,h1,U⟩ | ⟨i,a,_,_,_,_,h1,U⟩
 ·rw[h1];exact anI ⟨U,aa⟩
 rw[h1];exact anH ⟨U,aa⟩
theorem Zj(xs:List cD)(e:Int)(ak:xs.length<=8388608):av 281 [.one (.J 2 (xs.map cD.e)),.one (I e)] [.one (B (xs.any fun d=>d.bf==e))]:=
 anJ ⟨aoK xs (fun d=>d.bf==e) _ _ ak (by kernel_rfl) (fun x _=>anK trivial),aa⟩
def x1(c:bb)(e:Int):Bool:=c.ay.any fun w=>i' w e
def ra(c:bb)(e:Int):Bool:=c.news.any fun x=>x.bf==e
theorem JI(w:aP)(e:Int)(r:Bool)(h:i' w e=r)(hw:w.sz<=8388608):av 213 [.agg w.e,.one (I e)] [.one (B r)]:=h▸ara w e hw
theorem Oc{α:Type}{f:α->List D}(xs:List α)(b:Bool)(h:decide (xs.length=0)=b):((↑(xs.map f).length:Int)==0)=b:=by
 subst h;by_cases h:xs.length=0
 ·simp[h]
 rw[show decide (xs.length=0)=false from eD h];simp only[bm,wh,gM];omega
