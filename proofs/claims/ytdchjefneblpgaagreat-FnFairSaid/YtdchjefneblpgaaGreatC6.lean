import Derived.Test.YtdchjefneblpgaaGreatC0
import Derived.Test.YtdchjefneblpgaaGreatS1
set_option linter.unusedVariables false
set_option linter.unusedSimpArgs false
namespace Go.Proofs.YtdchjefneblpgaaGreat
open Go.Sx Go.RowKit Go.Proofs.Tryz
def l3(e:Int)(xs:List az):List az:=xs.filter fun r=>r.bi.a8==e
theorem UJ(xs:List az)(e:Int)(al:xs.length<=8388608):aq 116 [.one (.J 5 (xs.map az.e)),.one (I e)] [.one (.J 5 ((l3 e xs).map az.e))]:=by
 let p:=fun r:az=>r.bi.a8==e
 have l:=dY (P:=prog) (c:=(ap f116 0)) (cn 0) xs.length (fun i:Nat=>xf (xs.map az.e) e i (((xs.take i).filter p).map az.e)) (fun i hi=>by
  obtain⟨a,ai⟩:=c4 hi;have bF:=Hf p xs i;have ao:=Ag p ai;by_cases hp:p a=true
  ·rw[bn hp]at ao;rw[ao,gi];exact ayx ⟨b5 hi,bA,bH hi,bC az.e ai,hp,bA,bH hi,bC az.e ai,by simp;omega,by simp;omega,fE a.flat,db hi al,aa⟩
  rw[bw hp,io]at ao;rw[ao];exact ayy ⟨b5 hi,bA,bH hi,bC az.e ai,uF.2 hp,db hi al,aa⟩) (ayz ⟨dw,aa⟩)
 rw[kS]at l;exact ayA ⟨l,aa⟩
theorem UK(xs:List az)(e:Int)(al:xs.length<=8388608):aq 182 [.one (.J 5 (xs.map az.e)),.one (I e)] [.one (.J 5 ((l3 e xs).map az.e))]:=by
 let p:=fun r:az=>r.bi.a8==e
 have l:=dY (P:=prog) (c:=(ap f182 0)) (cn 0) xs.length (fun i:Nat=>xg (xs.map az.e) e i (((xs.take i).filter p).map az.e)) (fun i hi=>by
  obtain⟨a,ai⟩:=c4 hi;have bF:=Hf p xs i;have ao:=Ag p ai;by_cases hp:p a=true
  ·rw[bn hp]at ao;rw[ao,gi];exact ayB ⟨b5 hi,bA,bH hi,bC az.e ai,hp,by simp;omega,by simp;omega,fE a.flat,db hi al,aa⟩
  rw[bw hp,io]at ao;rw[ao];exact ayC ⟨b5 hi,bA,bH hi,bC az.e ai,uF.2 hp,db hi al,aa⟩) (ayD ⟨dw,aa⟩)
 rw[kS]at l;exact ayE ⟨l,aa⟩
end Go.Proofs.YtdchjefneblpgaaGreat
namespace Go.Proofs.YtdchjefneblpgaaGreat
open Go.Sx Go.RowKit Go.Shelf Go.Lib Go.Sort Go.Proofs.Tryz
instance:Inhabited az:=⟨(by constructor<;>first | exact (0:Int) | exact⟨0,0⟩)⟩
instance:Inhabited gC:=⟨(by constructor<;>first | exact (0:Int) | exact⟨0,0⟩)⟩
end Go.Proofs.YtdchjefneblpgaaGreat
namespace Go.Proofs.YtdchjefneblpgaaGreat
open Go.Sx Go.RowKit Go.Sort Go.Proofs.Tryz
def UL(s:gC):List Int:=[s.a8,s.dg]
def UM(r:az):List Int:=[r.bi.a8,r.bi.dg,r.op,r.key,r.val]
def Hi(a b:gC):Int:=oU (UL a) (UL b)
def lC(a b:az):Int:=oU (UM a) (UM b)
theorem aAk(d:Int):mn [d]=d:=by
 rw[x6];split
 ·rename_i h;rw[h];rfl
 rfl
theorem UN(a b:gC):Hi a b=mn [hA a.a8 b.a8,hA a.dg b.dg]:=rfl
theorem aAl(a b:az):lC a b=mn [Hi a.bi b.bi,hA a.op b.op,hA a.key b.key,hA a.val b.val]:=by
 rw[UN,UD];rfl
theorem aAm(a b:gC):aq 314 [.agg a.e,.agg b.e] [.one (I (Hi a b))]:=by
 have cC:=uh a.a8 b.a8;have cg:=uh a.dg b.dg;rw[UN,x6,aAk];split
 ·rename_i h;rw[h]at cC;exact ay7 ⟨cC,rfl,cg,aa⟩
 rename_i h;exact ay6 ⟨cC,by simpa using h,aa⟩
theorem UO(a b:az):aq 264 [.agg a.e,.agg b.e] [.one (I (lC a b))]:=by
 have cC:=aAm a.bi b.bi;have cg:=uh a.op b.op;have cL:=uh a.key b.key;have fo:=uh a.val b.val;rw[aAl];generalize Hi a.bi b.bi=gP at*;generalize hA a.op b.op=gz at*;generalize hA a.key b.key=lI at*;generalize hA a.val b.val=rY at*;have l:=gv (P:=prog) (c:=(ap f264 0)) [gP,gz,lI,rY] (fun d=>d != 0) (fun i=>xe gP gz lI rY i) (X:=fun _ d=>Mz d) e5 (cn 0)
  (fun i d aE h=>ay9 ⟨dh (by have:=a1 aE;simp at this;omega),bA,by have:=a1 aE;simp at this ⊢;omega,bC bc aE,h,⟨by omega,by have:=a1 aE;simp at this;omega⟩,aa⟩)
  (fun i d aE h=>ay8 ⟨dh (by have:=a1 aE;simp at this;omega),bA,by have:=a1 aE;simp at this ⊢;omega,bC bc aE,h,bA,by have:=a1 aE;simp at this ⊢;omega,bC bc aE,aa⟩)
  (aza ⟨rfl,aa⟩)
 unfold mn;rcases l with⟨h1,_,_,U⟩ | ⟨i,a,_,_,h1,_,_,U⟩
 ·rw[h1];exact azc ⟨cC,cg,cL,fo,U,aa⟩
 rw[h1];exact azb ⟨cC,cg,cL,fo,U,aa⟩
theorem Uf(x:az)(S R:List az)(n:Int)(al:S.length+R.length+1<=8388608):∀(k:Nat) (y:az),k<=S.length->∃fW,c8 prog (ap f165 1)
  (vL n k ((S.take k++y::(S.drop k++R)).map az.e) x.op x.bi.a8 x.bi.dg x.key x.val) (.exit 2)
  (Hc n ((S.take (sD (ltOf lC) x S k)++fW::(S.drop (sD (ltOf lC) x S k)++R)).map az.e) (sD (ltOf lC) x S k:Nat) x.op x.bi.a8 x.bi.dg x.key x.val)
 | 0,y,_=>⟨y,.last (cn 2) (azf ⟨ea (by simp),aa⟩)⟩
 | k+1,y,hk=>by
  obtain⟨z,bd⟩:=c4 (xs:=S) (i:=k) (by omega);have e1:(((k+1:Nat):Int)-1).toNat=k:=by omega
  have hJ:((S.take (k+1)++y::(S.drop (k+1)++R)).map az.e)[(((k+1:Nat):Int)-1).toNat]?=some z.e:=by
   rw[e1,dK,AR (by simp;omega),kb,bn (by omega),bd];rfl
  have JT:((S.take (k+1)++y::(S.drop (k+1)++R)).map az.e)[(((k+1:Nat):Int)).toNat]?=some y.e:=by
   rw[kU,dK,wo (by simp;omega)];simp[nS,Nat.min_eq_left hk]
  have hlen:(↑((S.take (k+1)++y::(S.drop (k+1)++R)).map az.e).length:Int)=S.length+R.length+1:=by simp;omega
  have mc:aL .i64 (((k+1:Nat):Int)-1):=⟨by omega,by omega⟩
  have y9:decide (((k+1:Nat):Int)>0)=true:=dh (by omega);simp only[sD,bd];by_cases ak:ltOf lC x z=true
  ·rw[bn ak];obtain⟨fW,bD⟩:=Uf x S R n al k z (by omega);refine⟨fW,.more ?_ bD⟩;have q3:decide (lC x z<0)=true:=ak;refine qC (fun l=>vL n k l x.op x.bi.a8 x.bi.dg x.key x.val) (qC (fun i=>vL n i _ x.op x.bi.a8 x.bi.dg x.key x.val) (azd ⟨y9,mc,by omega,by omega,hJ,UO x z,q3,mc,by omega,by omega,hJ,by omega,by omega,JT,mc,aa⟩) (by omega:((k+1:Nat):Int)-1=k)) ?_;show List.set _ _ z.e=_;rw[kU,<-hE]
   congr 1
   rw[List.set_append_right _ _ (by simp;omega)];have nC:S[k]'(a1 bd)=z:=by have:=bd;rw[iD (a1 bd)]at this;exact gJ this
   simp only[nS,Nat.min_eq_left hk,Nat.sub_self,List.set_cons_zero];rw[List.take_succ_eq_append_getElem (a1 bd),nC,<-List.getElem_cons_drop (a1 bd),nC];simp
  rw[bw ak];have q3:decide (lC x z<0)=false:=by simpa[ltOf]using ak
  exact⟨y,.last (cn 2) (aze ⟨y9,mc,by omega,by omega,hJ,UO x z,q3,aa⟩)⟩
theorem aAn(xs:List az)(al:xs.length<=8388608):aq 165 [.one (.J 5 (xs.map az.e))] [.one (.J 5 ((pM (ltOf lC) xs).map az.e))]:=by
 have hlen:∀ys:List az,(pM (ltOf lC) ys).length=ys.length:=fun ys=>by simp[pM,UI]
 let f:=fun i:Nat=>qv i ((pM (ltOf lC) (xs.take i)++xs.drop i).map az.e)
 have step:∀i,1<=i->i<xs.length->fX prog (ap f165 0) (f i) .normal (f (i+1)):=by
  intro i _ hi;obtain⟨x,af⟩:=c4 hi;have zm:xs[i]=x:=by rw[iD hi]at af;exact gJ af
  have hv:(pM (ltOf lC) (xs.take i)).length=i:=by rw[hlen,nS];omega
  have bE:∀S:List az,S.length=i->S++xs.drop i=S.take i++x::(S.drop i++xs.drop (i+1)):=by
   intro S h;rw[yz (l:=S) (by omega),List.drop_eq_nil_of_le (show S.length<=i by omega),List.nil_append,<-List.getElem_cons_drop hi,zm]
  show fX _ _ (qv i _) _ (qv (i+1:Nat) _);rw[aAL af,w6,hv,bE _ hv];generalize pM (ltOf lC) (xs.take i)=S at*;have bS:S.length+(xs.drop (i+1)).length+1=xs.length:=by simp;omega
  obtain⟨fW,bD⟩:=Uf x S (xs.drop (i+1)) i (by omega) i x (by omega);have hp:=UH (ltOf lC) x S i;generalize sD (ltOf lC) x S i=p at*;have hJ:((S.take i++x::(S.drop i++xs.drop (i+1))).map az.e)[((i:Nat):Int).toNat]?=some x.e:=by
   rw[kU,dK,wo (by simp;omega)];simp[nS,Nat.min_eq_left (show i<=S.length by omega)]
  have JT:((S.take p++fW::(S.drop p++xs.drop (i+1))).map az.e)[((p:Nat):Int).toNat]?=some fW.e:=by
   rw[kU,dK,wo (by simp;omega)];simp[nS,Nat.min_eq_left (show p<=S.length by omega)]
  have iZ:(↑((S.take i++x::(S.drop i++xs.drop (i+1))).map az.e).length:Int)=xs.length:=by simp;omega
  have c3:(↑((S.take p++fW::(S.drop p++xs.drop (i+1))).map az.e).length:Int)=xs.length:=by simp;omega
  refine qC (qv ((i+1:Nat):Int)) (azg ⟨dh (by omega),by omega,by omega,hJ,bD,by omega,by omega,JT,⟨by omega,by omega⟩,aa⟩) ?_;show List.set _ _ x.e=_;rw[kU,<-hE]
  congr 1
  rw[List.set_append_right _ _ (by simp;omega)];simp[nS,Nat.min_eq_left (show p<=S.length by omega)]
 have l:c8 prog (ap f165 0) (qv 1 (xs.map az.e)) (.exit 0) (Hd ((pM (ltOf lC) xs).map az.e)):=by
  rcases Nat.eq_zero_or_pos xs.length with bO | bO
  ·have af:xs=[]:=yA bO;rw[af];exact .last (cn 0) (U4 ⟨rfl,aa⟩)
  have e:=ax9 (P:=prog) (c:=(ap f165 0)) (cn 0) 1 xs.length f bO step (stE:=Hd ((pM (ltOf lC) xs).map az.e)) (by
   show fX _ _ (qv _ _) _ _;rw[kS,List.drop_length,io];exact U4 ⟨ea (by rw[ct,hlen];omega),aa⟩)
  have e1:pM (ltOf lC) (xs.take 1)++xs.drop 1=xs:=by
   obtain⟨a,ys,rfl⟩:=List.exists_cons_of_length_pos bO;rfl
  have e2:f 1=qv 1 (xs.map az.e):=by
   show qv _ _=_;rw[e1];rfl
  rw[e2]at e;exact e
 exact azh ⟨by simp;omega,by simp;omega,dz _ az.flat _,l,aa⟩
theorem Hj(xs:List az)(al:xs.length<=8388608):aq 233 [.one (.J 5 (xs.map az.e))] [.one (.J 5 (xs.map az.e))]:=
 axw ⟨by simp;omega,by simp;omega,dz _ az.flat _,aa⟩
def nz(w:aK):List az:=w.queue++w.b8
def An(c:aT):List az:=c.ar.flatMap nz++c.bJ.flatMap bm.queue
def Mc(c:aT):List az:=pM (ltOf lC) (An c)
theorem NG{α β:Type}(f:α->List β)(sz:α->Nat)(h:∀a,(f a).length<=sz a):∀xs:List α,(xs.flatMap f).length<=(xs.map sz).sum
 | []=>by simp
 | a::xs=>by
  have:=NG f sz h xs;have:=h a;simp only[List.flatMap_cons,hs,lN,wx];omega
theorem Ug{α β:Type}(f:α->List β)(xs:List α)(i:Nat):((xs.take i).flatMap f).length<=(xs.flatMap f).length:=by
 have:xs.flatMap f=(xs.take i).flatMap f++(xs.drop i).flatMap f:=by rw[<-List.flatMap_append,Ep]
 rw[this,hs];omega
theorem Uh{α β:Type}(f:α->List β){xs:List α}{i:Nat}{a:α}(h:xs[i]?=some a):(xs.take (i+1)).flatMap f=(xs.take i).flatMap f++f a:=by
 simp[qH,h]
variable{c:aT}
theorem aT.Zm(h:c.sz<=8388608):(c.ar.flatMap nz).length+(c.ar.flatMap aK.bR).length+(c.bJ.flatMap bm.queue).length<=8388608:=by
 have h1:=NG (fun w=>nz w++w.bR) aK.sz (fun w=>by simp only[aK.sz,nz,hs];omega) c.ar;have U:=NG bm.queue bm.sz (fun l=>by simp only[bm.sz];omega) c.bJ;have aA:(c.ar.flatMap fun w=>nz w++w.bR).length=(c.ar.flatMap nz).length+(c.ar.flatMap aK.bR).length:=by
  generalize c.ar=ws;induction ws with
  | nil=>rfl
  | cons w ws eg=>simp only[List.flatMap_cons,hs,eg];omega
 simp only[aT.sz,fs]at h;omega
theorem aAo(h:c.sz<=8388608):(An c).length+(c.ar.flatMap aK.bR).length<=8388608:=by
 have:=aT.Zm h;simp only[An,hs];omega
theorem aT.wk(h:c.sz<=8388608):c.ar.length<=8388608:=by simp only[aT.sz,fs]at h;omega
theorem aT.B4(h:c.sz<=8388608):c.bJ.length<=8388608:=by simp only[aT.sz,fs]at h;omega
theorem aAp(c:aT)(ak:c.sz<=8388608):aq 38 [.agg c.e] [.one (.J 5 ((Mc c).map az.e))]:=by
 have aDu:=aT.Zm ak;have eF:=dY (P:=prog) (c:=(ap f38 0)) (cn 0) c.ar.length (fun i:Nat=>Aj (c.ay.nodes.map Node.e) c.ay.ar c.ay.cap (c.ar.map aK.e) (c.bJ.map bm.e) (c.tokens.map bP.e) (c.news.map bT.e) i (((c.ar.take i).flatMap nz).map az.e)) (fun i hi=>by
  obtain⟨w,hw⟩:=c4 hi;have h1:=Uh nz hw;have U:=Ug nz c.ar (i+1);have aJ:((c.ar.take i).flatMap nz).length+w.queue.length+w.b8.length<=8388608:=by
   rw[h1,hs,nz,hs]at U;omega
  refine qC (Aj _ _ _ _ _ _ _ _) (ays ⟨b5 hi,bA,bH hi,bC aK.e hw,by simp only[ct];omega,by simp only[ct];omega,dz _ az.flat _,bA,bH hi,bC aK.e hw,by simp only[ct,hs];omega,by simp only[ct,hs];omega,dz _ az.flat _,db hi (aT.wk ak),aa⟩) ?_;rw[h1,nz];simp only[gi,nT]) (ayt ⟨dw,aa⟩)
 have hz:=dY (P:=prog) (c:=(ap f38 1)) (cn 2) c.bJ.length (fun i:Nat=>Ak (c.ay.nodes.map Node.e) c.ay.ar c.ay.cap (c.ar.map aK.e) (c.bJ.map bm.e) (c.tokens.map bP.e) (c.news.map bT.e) i ((c.ar.flatMap nz++(c.bJ.take i).flatMap bm.queue).map az.e)) (fun i hi=>by
  obtain⟨l,lp⟩:=c4 hi;have h1:=Uh bm.queue lp;have U:=Ug bm.queue c.bJ (i+1);have aJ:(c.ar.flatMap nz).length+((c.bJ.take i).flatMap bm.queue).length+l.queue.length<=8388608:=by
   rw[h1,hs]at U;omega
  refine qC (Ak _ _ _ _ _ _ _ _) (ayu ⟨b5 hi,bA,bH hi,bC bm.e lp,by simp only[ct,hs];omega,by simp only[ct,hs];omega,dz _ az.flat _,db hi (aT.B4 ak),aa⟩) ?_;rw[h1];simp only[gi,nT]) (ayv ⟨dw,aa⟩)
 rw[kS]at eF hz;simp only[List.take_zero,yC,io]at eF hz;exact ayw ⟨eF,hz,aAn (An c) (by have:=aAo ak;omega),aa⟩
end Go.Proofs.YtdchjefneblpgaaGreat
namespace Go.Proofs.YtdchjefneblpgaaGreat
open Go.Sx Go.RowKit Go.Proofs.Tryz
def ev(w:aK)(e:Int):Bool:=w.bZ.any fun d=>d.a8==e
theorem aK.QU{w:aK}(h:w.sz<=8388608):w.bZ.length<=8388608:=by simp only[aK.sz]at h;omega
theorem aT.yt{c:aT}(h:c.sz<=8388608){w:aK}(al:w∈c.ar):w.sz<=8388608:=by
 have:=Af (sz:=aK.sz) al;simp only[aT.sz,fs]at h;omega
theorem NH(w:aK)(e:Int)(hw:w.sz<=8388608):aq 213 [.agg w.e,.one (I e)] [.one (B (ev w e))]:=by
 have al:=aK.QU hw;have l:=gv (P:=prog) (c:=(ap f213 0)) w.bZ (fun d=>d.a8==e) (fun i=>xh (w.queue.map az.e) (w.b8.map az.e) (w.bR.map az.e) (w.cells.map Cell.e) (w.bB.map bc) (w.bL.map cv) (w.bj.map cv) (w.bZ.map cx.e) e i) (X:=fun _ _=>MA true) e5 (cn 0)
  (fun i a ai h=>ayG ⟨b5 (a1 ai),bA,bH (a1 ai),bC cx.e ai,h,db (a1 ai) al,aa⟩)
  (fun i a ai h=>ayF ⟨b5 (a1 ai),bA,bH (a1 ai),bC cx.e ai,h,aa⟩)
  (ayH ⟨dw,aa⟩)
 unfold ev;rcases l with⟨_,_,h1,U⟩ | ⟨i,a,_,_,_,_,h1,U⟩
 ·rw[h1];exact ayJ ⟨U,aa⟩
 rw[h1];exact ayI ⟨U,aa⟩
theorem Ui(xs:List cx)(e:Int)(al:xs.length<=8388608):aq 281 [.one (.J 2 (xs.map cx.e)),.one (I e)] [.one (B (xs.any fun d=>d.a8==e))]:=
 ayK ⟨aAR xs (fun d=>d.a8==e) _ _ al (by kernel_rfl) (fun x _=>ayL trivial),aa⟩
theorem Uj(w:aK)(e:Int)(hw:w.sz<=8388608):aq 210 [.agg w.e,.one (I e)] [.one (B (ev w e))]:=
 ayM ⟨Ui w.bZ e (aK.QU hw),aa⟩
def nO(c:aT)(e:Int):Bool:=c.ar.any fun w=>ev w e
def nj(c:aT)(e:Int):Bool:=c.news.any fun x=>x.a8==e
theorem NI(w:aK)(e:Int)(r:Bool)(h:ev w e=r)(hw:w.sz<=8388608):aq 213 [.agg w.e,.one (I e)] [.one (B r)]:=h▸NH w e hw
theorem R8{α:Type}{f:α->List D}(xs:List α)(b:Bool)(h:decide (xs.length=0)=b):((↑(xs.map f).length:Int)==0)=b:=by
 subst h;by_cases h:xs.length=0
 ·simp[h]
 rw[show decide (xs.length=0)=false from ea h];simp only[ct,AS,l6];omega
