import Derived.Test.YthfnndblgbjniaaGreatP86
set_option linter.unusedVariables false
set_option linter.unusedSimpArgs false
namespace Go.Proofs.YthfnndblgbjniaaGreat
open Go.Sx Go.RowKit Go.Proofs.Tryz
theorem aaq(g:bX)(xs:List az)(w:Int):∀n:Nat,(pL g xs w n).Pairwise (fun a b=>a.bl.ba<=b.bl.ba)/\∀r∈pL g xs w n,r.bl.ba<n
 | 0=>⟨List.Pairwise.nil,fun r aC=>by grind[pL]⟩
 | n+1=>by
  obtain⟨h1,U⟩:=aaq g xs w n;have aA:∀r∈zN g xs w (n:Nat),r.bl.ba=(n:Nat):=fun r aC=>by
   simp_all[zN,List.mem_filter,cu,kq]
  rw[YV];refine⟨List.pairwise_append.2 ⟨h1,?_,fun a ah b aw=>?_⟩,fun r aC=>?_⟩
  ·simp_all[List.pairwise_of_forall_mem_list,Int.le_refl]
  ·grind
  grind
theorem aar{α:Type}{R:α->α->Prop}:∀{xs:List α},xs.Pairwise R->∀{j:Nat} {a b:α},xs[j]?=some a->xs[j+1]?=some b->R a b
 | [],_,_,_,_,h,_=>by simp at h
 | x::xs,hp,0,a,b,h1,U=>by
  obtain rfl:x=a:=by grind
  exact (List.pairwise_cons.1 hp).1 b (cD (i:=0) (by grind))
 | x::xs,hp,j+1,a,b,h1,U=>aar (List.pairwise_cons.1 hp).2 (j:=j) (by grind) (by grind)
variable{g:bX}{xs:List az}
theorem ayq(h:l9 g xs=true)(w:Int):fb g (lu (own g xs w))=true:=by
 obtain⟨h1,_,aA⟩:=AW.1 h;have al:1<=(g.nodes.length:Int):=by
  simp_all[ej,cu,ax,cj]
 have R3:∀r∈own g xs w,eO r=true/\r.op=0/\r.bl.dc=0:=fun r aC=>by
  rw[fx]at aA;have:=aA r (HK aC).1;simp only[ta,o5,gp,bne_iff_ne,lZ,not_or,Bool.not_eq_false,Decidable.not_not]at this;grind
 refine iB.2 ⟨rfl,rfl,?_,rfl,rfl,rfl,rfl,?_,rfl,rfl⟩
 ·simp only[gJ,gp,fx,lu];intro r aC;obtain⟨cA,bm,_⟩:=R3 r aC;simp only[kl,cA,bm,hy,hn,cj];omega
 refine Ak fun i a ah=>?_
 change (own g xs w)[i]?=some a at ah;obtain⟨_,bm,eK⟩:=R3 a (cD ah);cases i with
 | zero=>grind[my]
 | succ j=>
  unfold my;rw[bm,eK];change (match (own g xs w)[j]? with | some q=>decide (q.bl.ba>a.bl.ba) | none=>false)=false;cases aH:(own g xs w)[j]? with
  | none=>rfl
  | some q=>
   have:=aar (aaq g xs w 4).1 aH ah;grind
theorem ayr(h:l9 g xs=true):cx (eL g xs)=true:=by
 obtain⟨h1,_,_⟩:=AW.1 h;have aW:=iz h1;have ai:1<=g.cap/\g.cap<=4:=by
  simp_all[ej,cu,ax,cj]
 have ff:gd g.cap 1 4=g.cap:=by simp_all[gd,bD]
 refine fp.2 ⟨h1,?_,?_,rfl,?_,?_,?_,rfl⟩
 ·grind[eL,z1]
 ·simp only[eL,List.length_replicate,Int.natCast_mul];grind
 ·rw[fx];intro x ag;obtain⟨i,hi⟩:=List.getElem?_of_mem ag;obtain⟨rfl,_⟩:=HL hi;grind[eL,ayq,decide]
 ·refine Ak fun i l al=>?_
  have:=List.eq_of_mem_replicate (cD al);subst this;refine oO.2 ⟨n4.2 ⟨?_,?_,?_,?_,rfl,?_,rfl,rfl⟩,?_,rfl,fun _=>rfl⟩
  ·simp_all[k7,ax,cj]
  ·simp only[k7,ff,ax,cj];omega
  ·simp only[k7,ff,ax,cj];omega
  ·grind[k7,ew]
  ·grind[k7]
  simp only[k7,ff];rfl
 rw[fx];intro t bK;have:=List.eq_of_mem_replicate bK;subst this;rw[show lP (eL g xs).au.aq Ea=false from s7.2 ⟨⟨by decide,by change (0:Int)<=g.aq-1;omega⟩,fun _=>rfl,by decide⟩];decide
theorem aas{α:Type}{f:α->Int}:∀{xs:List α},(∀x∈xs,f x=0)->(xs.map f).sum=0
 | [],_=>rfl
 | a::xs,h=>by
  rw[mg,w4,h a (h2 ..),aas fun x ag=>h x (gE _ ag)];rfl
theorem iP.new(h:l9 g xs=true):iP 0 (eL g xs):=by
 have hw:∀x∈(eL g xs).aq,∃w:Nat,x=lu (own g xs w):=fun x ag=>by
  obtain⟨i,hi⟩:=List.getElem?_of_mem ag;exact⟨i,(HL hi).1⟩
 have jn:∀l∈(eL g xs).bn,l=k7 g.cap:=fun l al=>List.eq_of_mem_replicate al
 have zero:∀(k:Nat),(List.replicate 4 (0:Int)).getD k 0=0:=fun k=>by
  grind
 refine⟨ayr h,⟨fun i x ag=>?_,fun i l al=>?_⟩,⟨fun x ag k=>?_,fun l al=>?_,fun t bK ay=>?_⟩,fun e he=>⟨?_,fun t bK ay=>?_,fun hQ=>?_⟩⟩
 ·obtain⟨rfl,_⟩:=HL ag;exact⟨fun r aC=>by grind[lu],fun r aC=>(HK aC).2⟩
 ·rw[jn l (cD al)];grind[k7]
 ·grind[lu]
 ·rw[jn l al];exact Int.le_refl _
 ·rw[List.eq_of_mem_replicate bK]at ay;cases ay
 ·have h1:gR e (eL g xs) (eL g xs).aq.length=0:=by
   refine aas fun x ag=>?_
   obtain⟨w,rfl⟩:=hw x (sl ag);exact zero _
  have U:iW e (eL g xs)=0:=by
   unfold iW da;simp_all[Dy,iy,eL,hF,k7]
  grind
 ·obtain⟨_,_,U⟩:=x8 bK;rw[List.eq_of_mem_replicate (cD U)]at ay;cases ay
 exfalso;have h1:jA (eL g xs) e=false:=by
  grind[jA,fx,eD,lu]
 grind[kI,eL]
theorem iP.drawn(h:l9 g xs=true)(l:List b7)(al:l.length<=200000):iP l.length (dg (eL g xs) l).1:=by
 have:=(iP.new h).run (c:=eL g xs) l (by omega);grind
end Go.Proofs.YthfnndblgbjniaaGreat
namespace Go.Proofs.YthfnndblgbjniaaGreat
open Go.Sx Go.RowKit Go.Proofs.Tryz
def nz(c:aO)(b:Bool):List D:=[.J 4 (c.au.nodes.map Node.e),I c.au.aq,I c.au.cap,.J 8 (c.aq.map aK.e),.J 6 (c.bn.map bj.e),.J 5 (c.tokens.map bQ.e),.J 3 (c.news.map bT.e),B b]
abbrev gf(c:aO):List D:=nz c (cx c)
theorem HO(w:aK)(e:Int)(r:Bool)(h:eD w e=r)(hw:w.sz<=8388608):ar 31 [.agg w.e,.one (I e)] [.one (B r)]:=h▸Xw w e hw
theorem HP(c:aO)(ai:c.sz<=8388608)(hw:fE c):b4 prog 97 [.ro (.agg c.e)] (.new (gf c)):=
 asf ⟨ati c ai,WU c ai hw,aa⟩
variable{i:Nat}
theorem PE{α:Type}{f:α->List D}{xs:List α}{a:α}:(xs.map f).set i (f a)=(xs.set i a).map f:=List.map_set.symm
variable{c:aO}{x:aK}
theorem mI{i:Int}(h:cd c i=some x):0<=i/\i<(↑(c.aq.map aK.e).length:Int)/\(c.aq.map aK.e)[i.toNat]?=some x.e:=by
 obtain⟨h1,U,aA⟩:=eR h;exact⟨h1,by rw[b'];omega,bS aK.e aA⟩
theorem nx{i:Int}(h:cd c i=some x)(ai:c.sz<=8388608):x.sz<=8388608:=aO.Qo ai (cD (eR h).2.2)
theorem ays{l:List bT}(hi:i<l.length):([]++((l.map bT.e).drop 0).take (((some (i:Int)).getD (↑(l.map bT.e).length:Int)).toNat-0)++((l.map bT.e).drop ((some ((i:Int)+1)).getD 0).toNat).take ((l.map bT.e).length-((some ((i:Int)+1)).getD 0).toNat))=(cutAt l i).map bT.e:=by
 have e1:((i:Int)+1).toNat=i+1:=by omega
 simp only[cutAt,lW,lz,Nat.sub_zero,yY,List.nil_append,e1,gi,q3,List.map_drop]
 congr 1
 rw[yS (by simp)]
theorem aat{l:List bT}:((l.map bT.e).drop ((some ((i:Int)+1)).getD 0).toNat).take ((l.map bT.e).length-((some ((i:Int)+1)).getD 0).toNat)=(l.drop (i+1)).map bT.e:=by
 have e1:((i:Int)+1).toNat=i+1:=by omega
 simp only[lW,e1,List.map_drop];rw[yS (by simp)]
theorem PF(h:cx c=true){n:bT}(aW:c.news[i]?=some n){w:Int}(hw:(n.dest==w)=true):∃x,cd c w=some x:=by
 have aw:=OA h aW;simp only[lQ,ax,fC,jC,cj]at aw;have U:=(fp.1 h).2.1;have e:=eq_of_beq hw;exact pY (by omega) (by omega)
theorem HQ{α:Type}{f:α->List D}(h:∀a,∀d∈f a,∃x,d=.v x){l:List (List D)}{xs:List α}(al:l=xs.map f):Flat l:=al▸dt f h xs
theorem aau{w:Int}{n:bT}(h1:c.news.findIdx? (fun n=>n.dest==w)=some i)(bY:cx c=true)(aW:c.news[i]?=some n)(ag:cd c w=some x):jT c w=(gg (setW c w (eg x n)) (cutAt c.news i),true):=by
 unfold jT;simp only[h1,bY,gy,aW,ag]
theorem ayt(c:aO)(w:Int)(ai:c.sz<=8388608):b4 prog 148 [.ref (gf c) (gf (jT c w).1),.ro (.one (I w))] (.vals [.one (B (jT c w).2)]):=by
 have al:=x6 ai;have FI:=fun h=>YF (c:=c) (w:=w) h
 cases bY:cx c with
 | false=>
  have e:jT c w=(c,false):=by
   unfold jT;split<;>simp[bY]
  rw[e];simp only[gf,bY];cases aW:c.news with
  | nil=>
   have l:c8 prog (ap f148 0) (r8 w 0 (c.au.nodes.map Node.e) c.au.aq c.au.cap (c.aq.map aK.e) (c.bn.map bj.e) (c.tokens.map bQ.e) (c.news.map bT.e) false) (.exit 0) _:=.last (cn 0) (Yb ⟨by simp[aW],aa⟩);exact OJ ⟨l,aa⟩
  | cons a l=>
   have l:c8 prog (ap f148 0) (r8 w 0 (c.au.nodes.map Node.e) c.au.aq c.au.cap (c.aq.map aK.e) (c.bn.map bj.e) (c.tokens.map bQ.e) (c.news.map bT.e) false) (.exit 0) _:=.last (cn 0) (asj ⟨dh (by simp[aW]<;>omega),rfl,aa⟩);exact OJ ⟨l,aa⟩
 | true=>
  have FI:=FI bY;have l:=gl (P:=prog) (c:=(ap f148 0)) c.news (fun n=>n.dest==w) (fun i=>r8 w i (c.au.nodes.map Node.e) c.au.aq c.au.cap (c.aq.map aK.e) (c.bn.map bj.e) (c.tokens.map bQ.e) (c.news.map bT.e) true)
   (X:=fun i n=>match cd c w with
    | some x=>H8 true (c.au.nodes.map Node.e) c.au.aq c.au.cap ((setW c w (eg x n)).aq.map aK.e) (c.bn.map bj.e) (c.tokens.map bQ.e) ((cutAt c.news i).map bT.e) true
    | none=>⟨[],[]⟩) eC (cn 0)
   (fun i a ah h=>asg ⟨bV (aY ah),rfl,bx,bH (aY ah),bA bT.e ah,by simp only[bne,h];rfl,c0 (aY ah) al,aa⟩)
   (fun i a ah h=>by
    obtain⟨x,ag⟩:=PF bY ah h;have hi:=aY ah;obtain⟨w0,w1,ik⟩:=mI ag;have ao:=nx ag ai;simp only[ag];rw[<-ays hi];cases aE:eD x a.ba with
    | true=>
     rw[show eg x a=x by unfold eg;rw[aE];rfl,uD ag];exact asi ⟨bV hi,rfl,bx,bH hi,bA bT.e ah,by simp only[bne,h];rfl,by simp,by simp,by simp;omega,by simp;omega,by simp;omega,HQ (xs:=c.news.take i) bT.flat (by simp),c0 hi al,by simp;omega,by simp;omega,by simp,by simp;omega,by simp;omega,HQ (xs:=c.news.drop (i+1)) bT.flat aat,w0,w1,ik,Nt x a.ba true aE ao,rfl,aa⟩
    | false=>
     have rr:x.b0.length<=8388608:=by simp only[aK.sz]at ao;omega
     have e2:(setW c w (eg x a)).aq.map aK.e=(c.aq.map aK.e).set w.toNat (told x a.ba a.cr).e:=by
      rw[show eg x a=told x a.ba a.cr by unfold eg;rw[aE];rfl];exact PE.symm
     rw[e2];have ch:(told x a.ba a.cr).e=[.J 5 (x.queue.map az.e),.J 5 (x.b9.map az.e),.J 5 (x.bM.map az.e),.J 4 (x.cells.map Cell.e),.J 1 (x.bB.map bd),.J 1 (x.bN.map cG),.J 1 (x.bk.map cG),.J 2 (x.b0.map cS.e++[[I a.ba,B a.cr]])]:=by
      simp only[told,aK.e,gi];rfl
     rw[ch];exact ash ⟨bV hi,rfl,bx,bH hi,bA bT.e ah,by simp only[bne,h];rfl,by simp,by simp,by simp;omega,by simp;omega,by simp;omega,HQ (xs:=c.news.take i) bT.flat (by simp),c0 hi al,by simp;omega,by simp;omega,by simp,by simp;omega,by simp;omega,HQ (xs:=c.news.drop (i+1)) bT.flat aat,w0,w1,ik,Nt x a.ba false aE ao,rfl,w0,w1,ik,by simp;omega,by simp;omega,ik,rfl,gb (cS.flat ⟨a.ba,a.cr⟩),rfl,rfl,rfl,rfl,rfl,rfl,rfl,rfl,rfl,rfl,rfl,w0,w1,ik,rfl,aa⟩)
   (Yb ⟨dq,aa⟩)
  rcases l with⟨_,h1,_,U⟩ | ⟨i,a,ah,hp,_,h1,_,U⟩
  ·have e:jT c w=(c,false):=by unfold jT;simp only[h1]
   rw[e];simp only[gf,bY];exact OJ ⟨U,aa⟩
  obtain⟨x,ag⟩:=PF bY ah hp;rw[aau h1 bY ah ag]at FI ⊢;simp only[ag]at U;simp only[gf,bY,FI];exact asl ⟨U,aa⟩
theorem ayu(c:aO)(w:Int)(ai:c.sz<=8388608)(hw:fE c):ar 94 [.agg c.e,.one (I w)] [.agg (jT c w).1.e,.one (B (jT c w).2)]:=by
 have al:=x6 ai;have cF:=v' c ai;have lL:=V9 c.news (fun n=>n.dest==w) 136 [.ptr [I w]] al (by kernel_rfl) (fun x _=>asm trivial);have ok:=DJ c ai hw;unfold kA at lL;cases h1:c.news.findIdx? (fun n=>n.dest==w) with
 | none=>
  simp only[h1]at lL;rw[show jT c w=(c,false) by unfold jT;simp only[h1]];exact asn ⟨cF,lL,dh (by omega),aa⟩
 | some i=>
  simp only[h1]at lL;cases bY:cx c with
  | false=>
   rw[bY]at ok;rw[show jT c w=(c,false) by unfold jT;simp[h1,bY]];exact aso ⟨cF,lL,ea (by omega),ok,rfl,aa⟩
  | true=>
   rw[bY]at ok;obtain⟨hi,hp,_⟩:=u9.1 h1;have ah:c.news[i]?=some c.news[i]:=gU hi;generalize c.news[i]=a at ah hp;obtain⟨x,ag⟩:=PF bY ah hp;obtain⟨w0,w1,ik⟩:=mI ag;have ao:=nx ag ai;rw[aau h1 bY ah ag];have dl:=atm c.news i (i+1) (by omega) (by omega);rw[show (((i+1:Nat):Int))=(i:Int)+1 by omega]at dl;cases aE:eD x a.ba with
   | true=>
    rw[show eg x a=x by unfold eg;rw[aE];rfl,uD ag];exact asq ⟨cF,lL,ea (by omega),ok,rfl,bx,bH hi,bA bT.e ah,c0 hi al,dl,w0,w1,ik,HO x a.ba true aE ao,rfl,aa⟩
   | false=>
    have rr:x.b0.length<=8388608:=by simp only[aK.sz]at ao;omega
    have e2:(setW c w (eg x a)).aq.map aK.e=(c.aq.map aK.e).set w.toNat (told x a.ba a.cr).e:=by
     rw[show eg x a=told x a.ba a.cr by unfold eg;rw[aE];rfl];exact PE.symm
    have ch:(told x a.ba a.cr).e=[.J 5 (x.queue.map az.e),.J 5 (x.b9.map az.e),.J 5 (x.bM.map az.e),.J 4 (x.cells.map Cell.e),.J 1 (x.bB.map bd),.J 1 (x.bN.map cG),.J 1 (x.bk.map cG),.J 2 (x.b0.map cS.e++[[I a.ba,B a.cr]])]:=by
     simp only[told,aK.e,gi];rfl
    have dS:(gg (setW c w (eg x a)) (cutAt c.news i)).e=[.J 4 (c.au.nodes.map Node.e),I c.au.aq,I c.au.cap,.J 8 ((c.aq.map aK.e).set w.toNat (told x a.ba a.cr).e),.J 6 (c.bn.map bj.e),.J 5 (c.tokens.map bQ.e),.J 3 ((cutAt c.news i).map bT.e)]:=by
     rw[<-e2];rfl
    rw[dS,ch];exact asp ⟨cF,lL,ea (by omega),ok,rfl,bx,bH hi,bA bT.e ah,c0 hi al,dl,w0,w1,ik,HO x a.ba false aE ao,rfl,w0,w1,ik,by simp;omega,by simp;omega,ik,rfl,gb (cS.flat ⟨a.ba,a.cr⟩),rfl,rfl,rfl,rfl,rfl,rfl,rfl,rfl,w0,w1,ik,rfl,aa⟩
end Go.Proofs.YthfnndblgbjniaaGreat
namespace Go.Proofs.YthfnndblgbjniaaGreat
open Go.Sx Go.RowKit Go.Proofs.Tryz
theorem RJ(a b:Nat):(((a:Int)+(b:Int))==0)=(a+b==0):=by
 rw[Bool.eq_iff_iff];simp only[kq];omega
theorem ayv(w:aK)(e:Int)(hw:w.sz<=8388608):ar 201 [.agg w.e,.one (I e)] [.one (B (x7 w e))]:=by
 have al:w.bM.length<=8388608:=by simp only[aK.sz]at hw;omega
 have l:=gl (P:=prog) (c:=(ap f201 0)) w.bM (fun r=>decide (r.bl.ba<=e)) (fun i=>yd (w.queue.map az.e) (w.b9.map az.e) (w.bM.map az.e) (w.cells.map Cell.e) (w.bB.map bd) (w.bN.map cG) (w.bk.map cG) (w.b0.map cS.e) e i) (X:=fun _ _=>OK true) eC (cn 0)
  (fun i a ah h=>atV ⟨bV (aY ah),bx,bH (aY ah),bA az.e ah,h,c0 (aY ah) al,aa⟩)
  (fun i a ah h=>atU ⟨bV (aY ah),bx,bH (aY ah),bA az.e ah,h,aa⟩)
  (as5 ⟨dq,aa⟩)
 unfold x7;rcases l with⟨_,_,h1,U⟩ | ⟨i,a,_,_,_,_,h1,U⟩
 ·rw[h1];exact as7 ⟨U,aa⟩
 rw[h1];exact as6 ⟨U,aa⟩
theorem axW(w:aK)(e:Int)(hw:w.sz<=8388608):ar 173 [.agg w.e,.one (I e)] [.one (B (x7 w e))]:=by
 have al:w.bM.length<=8388608:=by simp only[aK.sz]at hw;omega
 exact atb ⟨V8 w.bM (fun r=>decide (r.bl.ba<=e)) 195 [.ptr [I e]] al (by kernel_rfl) (fun x _=>atc trivial),aa⟩
theorem axX(w:aK)(e:Int)(hw:w.sz<=8388608):ar 202 [.agg w.e,.one (I e)] [.one (I ((↑((hF e w.queue).map az.e).length:Int)+(↑((hF e w.b9).map az.e).length:Int)))]:=by
 simp only[aK.sz]at hw;have cA:(hF e w.queue).length<=w.queue.length:=o2 _ _;have bm:(hF e w.b9).length<=w.b9.length:=o2 _ _;exact ata ⟨C1 w.queue e (by omega),C1 w.b9 e (by omega),⟨by simp only[b'];omega,by simp only[b'];omega⟩,aa⟩
theorem axY(w:aK)(e:Int)(hw:w.sz<=8388608):ar 185 [.agg w.e,.one (I e)] [.one (B (kG w e))]:=by
 have o:=ayv w e hw;unfold kG;cases h:x7 w e with
 | true=>rw[h]at o;exact as9 ⟨o,rfl,aa⟩
 | false=>
  rw[h]at o;have a:=axX w e hw;rw[b',b']at a;have b:=as8 ⟨o,rfl,a,aa⟩;rw[RJ]at b;exact b
theorem axZ(w:aK)(e:Int)(hw:w.sz<=8388608):ar 174 [.agg w.e,.one (I e)] [.one (I ((↑((hF e w.queue).map az.e).length:Int)+(↑((hF e w.b9).map az.e).length:Int)))]:=by
 simp only[aK.sz]at hw;have cA:(hF e w.queue).length<=w.queue.length:=o2 _ _;have bm:(hF e w.b9).length<=w.b9.length:=o2 _ _;exact atf ⟨C2 w.queue e (by omega),C2 w.b9 e (by omega),⟨by simp only[b'];omega,by simp only[b'];omega⟩,aa⟩
theorem ax0(w:aK)(e:Int)(hw:w.sz<=8388608):ar 135 [.agg w.e,.one (I e)] [.one (B (kG w e))]:=by
 have o:=axW w e hw;unfold kG;cases h:x7 w e with
 | true=>rw[h]at o;exact ate ⟨o,rfl,aa⟩
 | false=>
  rw[h]at o;have a:=axZ w e hw;rw[b',b']at a;have b:=atd ⟨o,rfl,a,aa⟩;rw[RJ]at b;exact b
theorem aav(w:aK)(e:Int)(r:Bool)(h:kG w e=r)(hw:w.sz<=8388608):ar 185 [.agg w.e,.one (I e)] [.one (B r)]:=h▸axY w e hw
theorem ZL(w:aK)(e:Int)(r:Bool)(h:kG w e=r)(hw:w.sz<=8388608):ar 135 [.agg w.e,.one (I e)] [.one (B r)]:=h▸ax0 w e hw
end Go.Proofs.YthfnndblgbjniaaGreat
namespace Go.Proofs.YthfnndblgbjniaaGreat
open Go.Sx Go.RowKit Go.Proofs.Tryz
variable{c:aO}{i:Int}
theorem ZM{t:bQ}(h:hZ c i=some t):0<=i/\i<(↑(c.tokens.map bQ.e).length:Int)/\(c.tokens.map bQ.e)[i.toNat]?=some t.e:=by
 obtain⟨h1,U,aA⟩:=x8 h;exact⟨h1,by rw[b'];omega,bS bQ.e aA⟩
variable{e:Int}
theorem zE{xs:List Int}(aJ:xs.length=4)(he:0<=e/\e<=3):e<(↑(xs.map bd).length:Int)/\(xs.map bd)[e.toNat]?=some [I (xs.getD e.toNat 0)]:=by
 have al:e.toNat<xs.length:=by omega
 refine⟨by rw[b'];omega,?_⟩;rw[dI,gU al,ly,gU al];rfl
theorem sw{xs:List Bool}(aJ:xs.length=4)(he:0<=e/\e<=3):e<(↑(xs.map cG).length:Int)/\(xs.map cG)[e.toNat]?=some [B (xs.getD e.toNat false)]:=by
 have al:e.toNat<xs.length:=by omega
 refine⟨by rw[b'];omega,?_⟩;rw[dI,gU al,ly,gU al];rfl
variable{l:List (List D)}{a:List D}
theorem h8(bJ:0<=i)(h:i<(↑l.length:Int)):(l.set i.toNat a)[i.toNat]?=some a:=List.getElem?_set_self (by omega)
theorem vn{b:List D}(bJ:0<=i)(h:i<(↑l.length:Int)):((l.set i.toNat a).set i.toNat b)[i.toNat]?=some b:=by rw[qZ];exact h8 bJ h
theorem vo{b d:List D}(bJ:0<=i)(h:i<(↑l.length:Int)):(((l.set i.toNat a).set i.toNat b).set i.toNat d)[i.toNat]?=some d:=by rw[qZ,qZ];exact h8 bJ h
theorem HR(x:aK)(e:Int):(eB x e).e=[.J 5 (x.queue.map az.e),.J 5 (x.b9.map az.e),.J 5 (x.bM.map az.e),.J 4 (x.cells.map Cell.e),.J 1 (x.bB.map bd),.J 1 ((x.bN.map cG).set e.toNat [B false]),.J 1 (x.bk.map cG),.J 2 (x.b0.map cS.e)]:=by
 simp only[eB,aK.e,hL];rfl
theorem ZN(x:aK)(e:Int)(b:Bool):(told x e b).e=[.J 5 (x.queue.map az.e),.J 5 (x.b9.map az.e),.J 5 (x.bM.map az.e),.J 4 (x.cells.map Cell.e),.J 1 (x.bB.map bd),.J 1 (x.bN.map cG),.J 1 (x.bk.map cG),.J 2 (x.b0.map cS.e++[[I e,B b]])]:=by
 simp only[told,aK.e,gi];rfl
theorem ZO(c:aO)(e p:Int)(t:bQ)(y:aK):(setW (cL c e t) p y).e=[.J 4 (c.au.nodes.map Node.e),I c.au.aq,I c.au.cap,.J 8 ((c.aq.map aK.e).set p.toNat y.e),.J 6 (c.bn.map bj.e),.J 5 ((c.tokens.map bQ.e).set e.toNat t.e),.J 3 (c.news.map bT.e)]:=by
 simp only[setW,cL,aO.e,hL]
theorem PG(c:aO)(e:Int)(t:bQ):(cL c e t).e=[.J 4 (c.au.nodes.map Node.e),I c.au.aq,I c.au.cap,.J 8 (c.aq.map aK.e),.J 6 (c.bn.map bj.e),.J 5 ((c.tokens.map bQ.e).set e.toNat t.e),.J 3 (c.news.map bT.e)]:=by
 simp only[cL,aO.e,hL]
theorem ZP(c:aO)(e p:Int)(t:bQ)(y:aK)(b:Bool):nz (setW (cL c e t) p y) b=[.J 4 (c.au.nodes.map Node.e),I c.au.aq,I c.au.cap,.J 8 ((c.aq.map aK.e).set p.toNat y.e),.J 6 (c.bn.map bj.e),.J 5 ((c.tokens.map bQ.e).set e.toNat t.e),.J 3 (c.news.map bT.e),B b]:=by
 simp only[setW,cL,nz,hL]
theorem ax1(c:aO)(e:Int)(t:bQ)(b:Bool):nz (cL c e t) b=[.J 4 (c.au.nodes.map Node.e),I c.au.aq,I c.au.cap,.J 8 (c.aq.map aK.e),.J 6 (c.bn.map bj.e),.J 5 ((c.tokens.map bQ.e).set e.toNat t.e),.J 3 (c.news.map bT.e),B b]:=by
 simp only[cL,nz,hL]
theorem PH(n:Nat)(e:Int)(b:Bool):gv (n+1) e b=gv n e b++[⟨(n:Int)+1,e,b⟩]:=by simp[gv,List.range_succ]
theorem PI(n:Nat)(e:Int)(b:Bool):(gv n e b).length=n:=by simp[gv]
theorem ZQ{cE x:aK}{t:bQ}(ok:cx c=true)(he:ax e 0 3=true)(bJ:cd c 0=some cE)(bK:hZ c e=some t)(aE:eD cE e=false)(ag:cd c t.place=some x):iA c e=dF c e t x:=by
 unfold iA;simp only[ok,he,Bool.and_self,gy,bJ,bK,aE,oc,mh,ag]
theorem ZR(ok:cx c=true)(he:ax e 0 3=true):∃cE t x,cd c 0=some cE/\hZ c e=some t/\cd c t.place=some x/\0<c.aq.length/\c.aq.length<=4/\
  (0<=t.place/\t.place<=3)/\(t.going=false->t.place=0)/\(-1000000<=t.sum/\t.sum<=1000000)/\x.bB.length=4/\x.bN.length=4/\x.bk.length=4/\(-1000000<=x.bB.getD e.toNat 0/\x.bB.getD e.toNat 0<=1000000):=by
 obtain⟨h1,U,aA,aJ,a7,bw,b1,dA⟩:=fp.1 ok;have aW:=iz h1;obtain⟨cE,bJ⟩:=pY (c:=c) (i:=0) (by omega) (by omega);obtain⟨t,bK⟩:=Yu ok he;obtain⟨t1,t2,t3⟩:=s7.1 (Am ok bK);obtain⟨x,ag⟩:=pY (c:=c) (i:=t.place) (by omega) (by omega);obtain⟨_,_,_,_,ke,pE,k0,_,uq,_⟩:=iB.1 (jU ok ag);refine⟨cE,t,x,bJ,bK,ag,by omega,by omega,by omega,t2,t3,ke,pE,k0,?_⟩;simp only[ax,cj]at he;have al:e.toNat<x.bB.length:=by omega
 rw[fx]at uq;have:=uq _ (p9 al);rw[ly,gU al,lW];simpa only[oN,gp,jC,ax,cj,wZ,Bool.not_not,Bool.not_eq_eq_eq_not,hy,kK,Classical.not_not]using this
theorem ZS(c:aO)(e:Int)(x:aK)(r:Bool)(bJ:cd c 0=some x)(aE:eD x e=r)(ai:c.sz<=8388608):ar 184 [.agg c.e,.one (I e)] [.one (B r)]:=by
 obtain⟨w0,w1,ik⟩:=mI bJ;exact atT ⟨dh (by omega),w0,w1,ik,Nt x e r aE (nx bJ ai),aa⟩
theorem ax2(c:aO)(b:Bool)(x:aK)(e:Int)(cap:Bool)(bJ:cd c 0=some x)(aJ:c.aq.length<=4)(ai:c.sz<=8388608):
  b4 prog 186 [.ref (nz c b) (nz (gg (setW c 0 (told x e cap)) (c.news++gv (c.aq.length-1) e cap)) b),.ro (.one (I e)),.ro (.one (B cap))] (.vals []):=by
 obtain⟨w0,w1,ik⟩:=mI bJ;have aW:=x6 ai;have ao:=nx bJ ai;have rr:x.b0.length<=8388608:=by simp only[aK.sz]at ao;omega
 have hlen:=(eR bJ).2.1;have vr:((setW c 0 (told x e cap)).aq.map aK.e).length=c.aq.length:=by simp[setW]
 have l:=er (P:=prog) (c:=(ap f186 0)) (cn 0) (c.aq.length-1) (fun i:Nat=>DW e cap ((i:Int)+1) (c.au.nodes.map Node.e) c.au.aq c.au.cap ((setW c 0 (told x e cap)).aq.map aK.e) (c.bn.map bj.e) (c.tokens.map bQ.e) ((c.news++gv i e cap).map bT.e) b) (fun i hi=>by
  have hm:=PI i e cap;rw[PH,<-mO,gi (l₂:=[_])];exact asr ⟨dh (by rw[vr];omega),by simp;omega,by simp;omega,gb (bT.flat ⟨(i:Int)+1,e,cap⟩),⟨by omega,by omega⟩,aa⟩) (ass ⟨ea (by rw[vr];omega),aa⟩)
 have e2:(setW c 0 (told x e cap)).aq.map aK.e=(c.aq.map aK.e).set 0 [.J 5 (x.queue.map az.e),.J 5 (x.b9.map az.e),.J 5 (x.bM.map az.e),.J 4 (x.cells.map Cell.e),.J 1 (x.bB.map bd),.J 1 (x.bN.map cG),.J 1 (x.bk.map cG),.J 2 (x.b0.map cS.e++[[I e,B cap]])]:=by
  rw[<-ZN];exact PE.symm
 have bE:gv 0 e cap=[]:=rfl;rw[e2,bE,iO]at l;have hz:nz (gg (setW c 0 (told x e cap)) (c.news++gv (c.aq.length-1) e cap)) b=[.J 4 (c.au.nodes.map Node.e),I c.au.aq,I c.au.cap,.J 8 ((setW c 0 (told x e cap)).aq.map aK.e),.J 6 (c.bn.map bj.e),.J 5 (c.tokens.map bQ.e),.J 3 ((c.news++gv (c.aq.length-1) e cap).map bT.e),B b]:=rfl;rw[hz,e2];exact ast ⟨by omega,w1,ik,by simp;omega,by simp;omega,ik,rfl,gb (cS.flat ⟨e,cap⟩),rfl,rfl,rfl,rfl,rfl,rfl,rfl,by omega,w1,ik,rfl,l,aa⟩
theorem ax3(c:aO)(e:Int)(ai:c.sz<=8388608):b4 prog 147 [.ref (gf c) (gf (iA c e).1),.ro (.one (I e))] (.vals [.one (B (iA c e).2)]):=by
 have post:=fun h=>YE (c:=c) (e:=e) h
 cases ok:cx c with
 | false=>
  rw[show iA c e=(c,false) by unfold iA;simp[ok]];simp only[gf,ok];exact asu ⟨rfl,aa⟩
 | true=>
 replace post:=post ok;cases he:ax e 0 3 with
 | false=>
  rw[show iA c e=(c,false) by unfold iA;simp[he]];simp only[gf,ok];exact arU ⟨rfl,fm _ _ _ _ he,rfl,aa⟩
 | true=>
 have he:=he;obtain⟨cE,t,x,bJ,bK,ag,zt,vB,vE,Ks,aeT,rG,tW,zk,vG⟩:=ZR ok he;have rv:0<=e/\e<=3:=by simpa only[ax,cj]using he
 obtain⟨ct,dM,dy⟩:=ZM bK;obtain⟨c6,de,cq⟩:=mI ag;obtain⟨aEw,oZ,o0⟩:=mI bJ;obtain⟨jX,jY⟩:=zE rG rv;obtain⟨kf,iH⟩:=sw tW rv;obtain⟨tL,tM⟩:=sw zk rv;have dO:=nx ag ai;have rr:x.b0.length<=8388608:=by simp only[aK.sz]at dO;omega
 have B4:(↑(c.aq.map aK.e).length:Int)=(c.aq.length:Int):=by rw[b']
 cases aE:eD cE e with
 | true=>
  rw[show iA c e=(c,false) by unfold iA;simp only[ok,he,Bool.and_self,gy,bJ,bK,aE]];simp only[gf,ok];exact arV ⟨rfl,fm _ _ _ _ he,rfl,ZS c e cE true bJ aE ai,rfl,aa⟩
 | false=>
 rw[ZQ ok he bJ bK aE ag]at post ⊢;have rd:=ZS c e cE false bJ aE ai;have jg:=fm _ _ _ _ he;cases hp:kG x e with
 | false=>
  rw[show dF c e t x=(c,false) by unfold dF;simp[hp]];simp only[gf,ok];exact arW ⟨rfl,jg,rfl,rd,rfl,ct,dM,dy,c6,de,cq,aav x e _ hp dO,rfl,aa⟩
 | true=>
 have iZ:=aav x e _ hp dO;have iu:aL .i64 (t.sum+x.bB.getD e.toNat 0):=⟨by omega,by omega⟩
 simp only[gf,ok,post];clear post;obtain⟨Iv,mf,ts,tb,eS⟩:=t;dsimp only at*;cases Iv with
 | false=>
  obtain rfl:mf=0:=Ks rfl;rw[show dF c e ⟨false,0,ts,tb,eS⟩ x=(setW (cL c e ⟨true,(c.aq.length:Int)-1,0,false,x.bk.getD e.toNat false⟩) 0 (eB x e),true) by simp only[dF,hp,gy,o3]];dsimp only;rw[ZP,HR,<-B4];exact arX ⟨rfl,jg,rfl,rd,rfl,ct,dM,dy,c6,de,cq,iZ,rfl,ct,jX,jY,iu,rfl,⟨by omega,by omega⟩,ct,tL,tM,ct,dM,dy,by omega,de,cq,ct,kf,iH,cq,rfl,rfl,rfl,rfl,rfl,aa⟩
 | true=>
 by_cases mv:0<mf
 case pos=>
  have j5:decide (mf>0)=true:=dh mv;cases aC:ax (ts+x.bB.getD e.toNat 0) (-1000000) 1000000 with
  | false=>
   rw[show dF c e ⟨true,mf,ts,tb,eS⟩ x=(c,false) by simp only[dF,hp,gy,hy,oc,mh,mv,aC]];exact arY ⟨rfl,jg,rfl,rd,rfl,ct,dM,dy,c6,de,cq,iZ,rfl,ct,jX,jY,iu,rfl,j5,fm _ _ _ _ aC,rfl,aa⟩
  | true=>
   have e1:dF c e ⟨true,mf,ts,tb,eS⟩ x=(setW (cL c e ⟨true,mf-1,ts+x.bB.getD e.toNat 0,tb||x.bN.getD e.toNat false,eS||x.bk.getD e.toNat false⟩) mf (eB x e),true):=by
    simp only[dF,hp,gy,hy,oc,mh,mv,aC]
   rw[e1];dsimp only;rw[ZP,HR];have wr:=fm _ _ _ _ aC;cases tb with
   | true=>
    cases eS with
    | true=>exact arZ ⟨rfl,jg,rfl,rd,rfl,ct,dM,dy,c6,de,cq,iZ,rfl,ct,jX,jY,iu,rfl,j5,wr,rfl,⟨by omega,by omega⟩,rfl,rfl,ct,dM,dy,c6,de,cq,ct,kf,iH,cq,rfl,rfl,rfl,rfl,rfl,aa⟩
    | false=>exact ar0 ⟨rfl,jg,rfl,rd,rfl,ct,dM,dy,c6,de,cq,iZ,rfl,ct,jX,jY,iu,rfl,j5,wr,rfl,⟨by omega,by omega⟩,rfl,rfl,ct,tL,tM,ct,dM,dy,c6,de,cq,ct,kf,iH,cq,rfl,rfl,rfl,rfl,rfl,aa⟩
   | false=>
    cases eS with
    | true=>exact ar1 ⟨rfl,jg,rfl,rd,rfl,ct,dM,dy,c6,de,cq,iZ,rfl,ct,jX,jY,iu,rfl,j5,wr,rfl,⟨by omega,by omega⟩,rfl,ct,kf,iH,rfl,ct,dM,dy,c6,de,cq,ct,kf,iH,cq,rfl,rfl,rfl,rfl,rfl,rfl,rfl,aa⟩
    | false=>exact ar2 ⟨rfl,jg,rfl,rd,rfl,ct,dM,dy,c6,de,cq,iZ,rfl,ct,jX,jY,iu,rfl,j5,wr,rfl,⟨by omega,by omega⟩,rfl,ct,kf,iH,rfl,ct,tL,tM,ct,dM,dy,c6,de,cq,ct,kf,iH,cq,rfl,rfl,rfl,rfl,rfl,rfl,rfl,aa⟩
 case neg=>
  obtain rfl:mf=0:=by omega
  have j5:decide ((0:Int)>0)=false:=rfl;have e1:=fun b=>ax1 c e ⟨false,0,ts,tb,eS⟩ b
  have ends:=fun cap=>ax2 (cL c e ⟨false,0,ts,tb,eS⟩) true x e cap (DM.trans ag) vB (by rw[H6];exact ai)
  rw[e1]at ends;cases tb with
  | true=>
   rw[show dF c e ⟨true,0,ts,true,eS⟩ x=(cL c e ⟨false,0,ts,true,eS⟩,true) by simp[dF,hp]];dsimp only;rw[e1];exact aty ⟨rfl,jg,rfl,rd,rfl,ct,dM,dy,c6,de,cq,iZ,rfl,ct,jX,jY,iu,rfl,j5,ct,dM,dy,rfl,aa⟩
  | false=>
  cases hk:x.bN.getD e.toNat false with
  | true=>
   rw[hk]at iH;rw[show dF c e ⟨true,0,ts,false,eS⟩ x=(cL c e ⟨false,0,ts,false,eS⟩,true) by unfold dF;simp only[hp,hk];rfl];dsimp only;rw[e1];exact atx ⟨rfl,jg,rfl,rd,rfl,ct,dM,dy,c6,de,cq,iZ,rfl,ct,jX,jY,iu,rfl,j5,ct,dM,dy,rfl,ct,kf,iH,rfl,aa⟩
  | false=>
  rw[hk]at iH;cases bb:(ts+x.bB.getD e.toNat 0==0) with
  | false=>
   rw[show dF c e ⟨true,0,ts,false,eS⟩ x=(cL c e ⟨false,0,ts,false,eS⟩,true) by unfold dF;simp only[hp,hk,bb];rfl];dsimp only;rw[e1];exact atw ⟨rfl,jg,rfl,rd,rfl,ct,dM,dy,c6,de,cq,iZ,rfl,ct,jX,jY,iu,rfl,j5,ct,dM,dy,rfl,ct,kf,iH,rfl,bb,aa⟩
  | true=>
  rw[show dF c e ⟨true,0,ts,false,eS⟩ x=(gg (setW (cL c e ⟨false,0,ts,false,eS⟩) 0 (told x e (eS||x.bk.getD e.toNat false))) (c.news++gv (c.aq.length-1) e (eS||x.bk.getD e.toNat false)),true) by unfold dF;simp only[hp,hk,bb];rfl];cases eS with
  | true=>exact ar3 ⟨rfl,jg,rfl,rd,rfl,ct,dM,dy,c6,de,cq,iZ,rfl,ct,jX,jY,iu,rfl,j5,ct,dM,dy,rfl,ct,kf,iH,rfl,bb,rfl,ends true,aa⟩
  | false=>exact atv ⟨rfl,jg,rfl,rd,rfl,ct,dM,dy,c6,de,cq,iZ,rfl,ct,jX,jY,iu,rfl,j5,ct,dM,dy,rfl,ct,kf,iH,rfl,bb,rfl,ct,tL,tM,ends _,aa⟩
theorem ax4(c:aO)(e:Int)(W T:List (List D))(hlen:0<c.aq.length)(aJ:c.aq.length<=4)(ai:c.sz<=8388608):c8 prog (ap f93 0) (An e 1 (c.au.nodes.map Node.e) c.au.aq c.au.cap W (c.bn.map bj.e) T (c.news.map bT.e) 0 0 (c.au.nodes.map Node.e) c.au.aq c.au.cap (c.aq.map aK.e) (c.bn.map bj.e) (c.tokens.map bQ.e) (c.news.map bT.e)) (.exit 1) (Ao (c.au.nodes.map Node.e) c.au.aq c.au.cap W (c.bn.map bj.e) T ((c.news++gv (c.aq.length-1) e true).map bT.e) 0 0):=by
 have aW:=x6 ai;have l:=er (P:=prog) (c:=(ap f93 0)) (cn 1) (c.aq.length-1) (fun i:Nat=>An e ((i:Int)+1) (c.au.nodes.map Node.e) c.au.aq c.au.cap W (c.bn.map bj.e) T ((c.news++gv i e true).map bT.e) 0 0 (c.au.nodes.map Node.e) c.au.aq c.au.cap (c.aq.map aK.e) (c.bn.map bj.e) (c.tokens.map bQ.e) (c.news.map bT.e)) (fun i hi=>by
  have hm:=PI i e true;rw[PH,<-mO,gi (l₂:=[_])];exact atJ ⟨dh (by simp;omega),by simp;omega,by simp;omega,gb (bT.flat ⟨(i:Int)+1,e,true⟩),⟨by omega,by omega⟩,aa⟩) (atK ⟨ea (by simp;omega),aa⟩)
 have bE:gv 0 e true=[]:=rfl;rw[bE,iO]at l;exact l
theorem ax5(c:aO)(e:Int)(cap:Bool)(W T:List (List D))(hlen:0<c.aq.length)(aJ:c.aq.length<=4)(ai:c.sz<=8388608):c8 prog (ap f93 0) (Ap e cap 1 (c.au.nodes.map Node.e) c.au.aq c.au.cap W (c.bn.map bj.e) T (c.news.map bT.e) 0 0 (c.au.nodes.map Node.e) c.au.aq c.au.cap (c.aq.map aK.e) (c.bn.map bj.e) (c.tokens.map bQ.e) (c.news.map bT.e)) (.exit 1) (Ao (c.au.nodes.map Node.e) c.au.aq c.au.cap W (c.bn.map bj.e) T ((c.news++gv (c.aq.length-1) e cap).map bT.e) 0 0):=by
 have aW:=x6 ai;have l:=er (P:=prog) (c:=(ap f93 0)) (cn 1) (c.aq.length-1) (fun i:Nat=>Ap e cap ((i:Int)+1) (c.au.nodes.map Node.e) c.au.aq c.au.cap W (c.bn.map bj.e) T ((c.news++gv i e cap).map bT.e) 0 0 (c.au.nodes.map Node.e) c.au.aq c.au.cap (c.aq.map aK.e) (c.bn.map bj.e) (c.tokens.map bQ.e) (c.news.map bT.e)) (fun i hi=>by
  have hm:=PI i e cap;rw[PH,<-mO,gi (l₂:=[_])];exact atM ⟨dh (by simp;omega),by simp;omega,by simp;omega,gb (bT.flat ⟨(i:Int)+1,e,cap⟩),⟨by omega,by omega⟩,aa⟩) (atN ⟨ea (by simp;omega),aa⟩)
 have bE:gv 0 e cap=[]:=rfl;rw[bE,iO]at l;exact l
theorem ay6(c:aO)(e:Int)(ai:c.sz<=8388608)(hw:fE c):ar 93 [.agg c.e,.one (I e)] [.agg (iA c e).1.e,.one (B (iA c e).2)]:=by
 have cF:=v' c ai;have mB:=DJ c ai hw;cases ok:cx c with
 | false=>
  rw[ok]at mB;rw[show iA c e=(c,false) by unfold iA;simp[ok]];exact atz ⟨cF,mB,rfl,aa⟩
 | true=>
 rw[ok]at mB;cases he:ax e 0 3 with
 | false=>
  rw[show iA c e=(c,false) by unfold iA;simp[he]];exact atA ⟨cF,mB,rfl,fY _ he,rfl,aa⟩
 | true=>
 have he:=he;obtain⟨cE,t,x,bJ,bK,ag,zt,vB,vE,Ks,aeT,rG,tW,zk,vG⟩:=ZR ok he;have rv:0<=e/\e<=3:=by simpa only[ax,cj]using he
 obtain⟨ct,dM,dy⟩:=ZM bK;obtain⟨c6,de,cq⟩:=mI ag;obtain⟨aEw,oZ,o0⟩:=mI bJ;obtain⟨jX,jY⟩:=zE rG rv;obtain⟨kf,iH⟩:=sw tW rv;obtain⟨tL,tM⟩:=sw zk rv;have dO:=nx ag ai;have rr:x.b0.length<=8388608:=by simp only[aK.sz]at dO;omega
 have B4:(↑(c.aq.map aK.e).length:Int)=(c.aq.length:Int):=by rw[b']
 have jg:=fY _ he;cases aE:eD cE e with
 | true=>
  rw[show iA c e=(c,false) by unfold iA;simp only[ok,he,Bool.and_self,gy,bJ,bK,aE]];exact atB ⟨cF,mB,rfl,jg,rfl,by omega,oZ,o0,HO cE e true aE (nx bJ ai),rfl,aa⟩
 | false=>
 have dp:=HO cE e false aE (nx bJ ai);rw[ZQ ok he bJ bK aE ag];cases hp:kG x e with
 | false=>
  rw[show dF c e t x=(c,false) by unfold dF;simp[hp]];exact atC ⟨cF,mB,rfl,jg,rfl,by omega,oZ,o0,dp,rfl,ct,dM,dy,c6,de,cq,ZL x e _ hp dO,rfl,aa⟩
 | true=>
 have iZ:=ZL x e _ hp dO;have iu:aL .i64 (t.sum+x.bB.getD e.toNat 0):=⟨by omega,by omega⟩
 obtain⟨Iv,mf,ts,tb,eS⟩:=t;dsimp only at*;cases Iv with
 | false=>
  obtain rfl:mf=0:=Ks rfl;rw[show dF c e ⟨false,0,ts,tb,eS⟩ x=(setW (cL c e ⟨true,(c.aq.length:Int)-1,0,false,x.bk.getD e.toNat false⟩) 0 (eB x e),true) by simp only[dF,hp,gy,o3]];dsimp only;rw[ZO,HR,<-B4];exact atD ⟨cF,mB,rfl,jg,rfl,by omega,oZ,o0,dp,rfl,ct,dM,dy,c6,de,cq,iZ,rfl,dy,rfl,cq,ct,tL,tM,⟨by omega,by omega⟩,dy,cq,ct,kf,iH,cq,rfl,rfl,rfl,aa⟩
 | true=>
 by_cases mv:0<mf
 case pos=>
  have j5:decide (mf>0)=true:=dh mv;cases aC:ax (ts+x.bB.getD e.toNat 0) (-1000000) 1000000 with
  | false=>
   rw[show dF c e ⟨true,mf,ts,tb,eS⟩ x=(c,false) by simp only[dF,hp,gy,hy,oc,mh,mv,aC]];exact atE ⟨cF,mB,rfl,jg,rfl,by omega,oZ,o0,dp,rfl,ct,dM,dy,c6,de,cq,iZ,rfl,dy,rfl,dy,j5,dy,cq,ct,jX,jY,iu,fY _ aC,rfl,aa⟩
  | true=>
   have e1:dF c e ⟨true,mf,ts,tb,eS⟩ x=(setW (cL c e ⟨true,mf-1,ts+x.bB.getD e.toNat 0,tb||x.bN.getD e.toNat false,eS||x.bk.getD e.toNat false⟩) mf (eB x e),true):=by
    simp only[dF,hp,gy,hy,oc,mh,mv,aC]
   rw[e1];dsimp only;rw[ZO,HR];have wr:=fY _ aC;have cA:aL .i64 (mf-1):=⟨by omega,by omega⟩
   cases tb with
   | true=>
    cases eS with
    | true=>
     have key:=atF ⟨cF,mB,rfl,jg,rfl,by omega,oZ,o0,dp,rfl,ct,dM,dy,c6,de,cq,iZ,rfl,dy,rfl,dy,j5,dy,cq,ct,jX,jY,iu,wr,rfl,dy,cq,ct,jX,jY,iu,dy,h8 ct dM,rfl,h8 ct dM,vn ct dM,rfl,vn ct dM,cq,ct,kf,iH,cq,rfl,rfl,rfl,vo ct dM,cA,vo ct dM,aa⟩;simp only[qZ]at key;exact key
    | false=>
     have key:=atG ⟨cF,mB,rfl,jg,rfl,by omega,oZ,o0,dp,rfl,ct,dM,dy,c6,de,cq,iZ,rfl,dy,rfl,dy,j5,dy,cq,ct,jX,jY,iu,wr,rfl,dy,cq,ct,jX,jY,iu,dy,h8 ct dM,rfl,h8 ct dM,vn ct dM,rfl,cq,ct,tL,tM,vn ct dM,cq,ct,kf,iH,cq,rfl,rfl,rfl,vo ct dM,cA,vo ct dM,aa⟩;simp only[qZ]at key;exact key
   | false=>
    cases eS with
    | true=>
     have key:=atH ⟨cF,mB,rfl,jg,rfl,by omega,oZ,o0,dp,rfl,ct,dM,dy,c6,de,cq,iZ,rfl,dy,rfl,dy,j5,dy,cq,ct,jX,jY,iu,wr,rfl,dy,cq,ct,jX,jY,iu,dy,h8 ct dM,rfl,cq,ct,kf,iH,h8 ct dM,vn ct dM,rfl,vn ct dM,cq,ct,kf,iH,cq,rfl,rfl,rfl,rfl,rfl,vo ct dM,cA,vo ct dM,aa⟩;simp only[qZ]at key;exact key
    | false=>
     have key:=atI ⟨cF,mB,rfl,jg,rfl,by omega,oZ,o0,dp,rfl,ct,dM,dy,c6,de,cq,iZ,rfl,dy,rfl,dy,j5,dy,cq,ct,jX,jY,iu,wr,rfl,dy,cq,ct,jX,jY,iu,dy,h8 ct dM,rfl,cq,ct,kf,iH,h8 ct dM,vn ct dM,rfl,cq,ct,tL,tM,vn ct dM,cq,ct,kf,iH,cq,rfl,rfl,rfl,rfl,rfl,vo ct dM,cA,vo ct dM,aa⟩;simp only[qZ]at key;exact key
 case neg=>
  obtain rfl:mf=0:=by omega
  have j5:decide ((0:Int)>0)=false:=rfl;cases tb with
  | true=>
   rw[show dF c e ⟨true,0,ts,true,eS⟩ x=(cL c e ⟨false,0,ts,true,eS⟩,true) by simp[dF,hp]];dsimp only;rw[PG];exact atS ⟨cF,mB,rfl,jg,rfl,by omega,oZ,o0,dp,rfl,ct,dM,dy,c6,de,cq,iZ,rfl,dy,rfl,dy,j5,dy,h8 ct dM,rfl,aa⟩
  | false=>
  cases hk:x.bN.getD e.toNat false with
  | true=>
   rw[hk]at iH;rw[show dF c e ⟨true,0,ts,false,eS⟩ x=(cL c e ⟨false,0,ts,false,eS⟩,true) by unfold dF;simp only[hp,hk];rfl];dsimp only;rw[PG];exact atQ ⟨cF,mB,rfl,jg,rfl,by omega,oZ,o0,dp,rfl,ct,dM,dy,c6,de,cq,iZ,rfl,dy,rfl,dy,j5,dy,h8 ct dM,rfl,cq,ct,kf,iH,rfl,aa⟩
  | false=>
  rw[hk]at iH;cases bb:(ts+x.bB.getD e.toNat 0==0) with
  | false=>
   rw[show dF c e ⟨true,0,ts,false,eS⟩ x=(cL c e ⟨false,0,ts,false,eS⟩,true) by unfold dF;simp only[hp,hk,bb];rfl];dsimp only;rw[PG];exact atP ⟨cF,mB,rfl,jg,rfl,by omega,oZ,o0,dp,rfl,ct,dM,dy,c6,de,cq,iZ,rfl,dy,rfl,dy,j5,dy,h8 ct dM,rfl,cq,ct,kf,iH,rfl,h8 ct dM,cq,ct,jX,jY,iu,bb,aa⟩
  | true=>
  rw[show dF c e ⟨true,0,ts,false,eS⟩ x=(gg (setW (cL c e ⟨false,0,ts,false,eS⟩) 0 (told x e (eS||x.bk.getD e.toNat false))) (c.news++gv (c.aq.length-1) e (eS||x.bk.getD e.toNat false)),true) by unfold dF;simp only[hp,hk,bb];rfl];have dS:∀cap,(gg (setW (cL c e ⟨false,0,ts,false,eS⟩) 0 (told x e cap)) (c.news++gv (c.aq.length-1) e cap)).e=[.J 4 (c.au.nodes.map Node.e),I c.au.aq,I c.au.cap,.J 8 ((c.aq.map aK.e).set 0 [.J 5 (x.queue.map az.e),.J 5 (x.b9.map az.e),.J 5 (x.bM.map az.e),.J 4 (x.cells.map Cell.e),.J 1 (x.bB.map bd),.J 1 (x.bN.map cG),.J 1 (x.bk.map cG),.J 2 (x.b0.map cS.e++[[I e,B cap]])]),.J 6 (c.bn.map bj.e),.J 5 ((c.tokens.map bQ.e).set e.toNat (bQ.e ⟨false,0,ts,false,eS⟩)),.J 3 ((c.news++gv (c.aq.length-1) e cap).map bT.e)]:=fun cap=>by
   rw[<-ZN];simp only[gg,setW,cL,aO.e,hL];rfl
  cases eS with
  | true=>
   dsimp only[Bool.true_or];rw[dS];exact atL ⟨cF,mB,rfl,jg,rfl,by omega,oZ,o0,dp,rfl,ct,dM,dy,c6,de,cq,iZ,rfl,dy,rfl,dy,j5,dy,h8 ct dM,rfl,cq,ct,kf,iH,rfl,h8 ct dM,cq,ct,jX,jY,iu,bb,h8 ct dM,rfl,cq,by simp;omega,by simp;omega,cq,rfl,rfl,rfl,gb (cS.flat ⟨e,true⟩),cq,rfl,ax4 c e _ _ zt vB ai,aa⟩
  | false=>
   dsimp only[hn];rw[dS];exact atO ⟨cF,mB,rfl,jg,rfl,by omega,oZ,o0,dp,rfl,ct,dM,dy,c6,de,cq,iZ,rfl,dy,rfl,dy,j5,dy,h8 ct dM,rfl,cq,ct,kf,iH,rfl,h8 ct dM,cq,ct,jX,jY,iu,bb,h8 ct dM,rfl,cq,ct,tL,tM,cq,by simp;omega,by simp;omega,cq,rfl,rfl,rfl,gb (cS.flat ⟨e,_⟩),cq,rfl,ax5 c e _ _ _ zt vB ai,aa⟩
