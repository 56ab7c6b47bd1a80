import Derived.Test.YtdchjefneblpgaaGreatGV
import Derived.Test.YtdchjefneblpgaaGreatP42
set_option linter.unusedVariables false
set_option linter.unusedSimpArgs false
namespace Go.Proofs.YtdchjefneblpgaaGreat
open Go.Sx Go.RowKit Go.Proofs.Tryz
theorem AF(xs:List Int):Flat (xs.map bh):=ch bh (fun _ _ aG=>⟨_,List.mem_singleton.1 aG⟩) xs
theorem AE(xs:List Bool):Flat (xs.map cD):=ch cD (fun _ _ aG=>⟨_,List.mem_singleton.1 aG⟩) xs
theorem cR.flat(r:cR):∀d∈r.e,∃x,d=.v x:=by
 intro d aG;simp only[cR.e,eP,nZ,or_false]at aG;rcases aG with rfl | rfl<;>exact⟨_,rfl⟩
theorem b1.flat(r:b1):∀d∈r.e,∃x,d=.v x:=by
 intro d aG;simp only[b1.e,eP,nZ,or_false]at aG;rcases aG with rfl | rfl | rfl<;>exact⟨_,rfl⟩
theorem b4.flat(r:b4):∀d∈r.e,∃x,d=.v x:=by
 intro d aG;simp only[b4.e,eP,nZ,or_false]at aG;rcases aG with rfl | rfl | rfl | rfl | rfl<;>exact⟨_,rfl⟩
theorem zN{α:Type}{f:α->List D}{xs:List α}{i:Nat}{a:α}(h:xs[i]?=some a):(xs.take (i+1)).map f=(xs.take i).map f++[f a]:=by simp[uq,h]
theorem nl{l:List (List D)}{k m:Nat}(h:l.length*k<=m):(([]:List (List D)).length+l.length)*k<=m:=by simpa using h
theorem kX{l:List (List D)}{m:Nat}(h:l.length<=m):([]:List (List D)).length+l.length<=m:=by simpa using h
theorem b9.Sa{g:b9}(h:g.sz<=8388608){x:Node}(ah:x∈g.nodes):x.sz<=8388608:=F8 (sz:=Node.sz) (xs:=g.nodes) (m:=8388608) (by simp only[b9.sz]at h;omega) ah
theorem b9.Sb{g:b9}(h:g.sz<=8388608):g.nodes.length<=8388608:=by simp only[b9.sz,fs]at h;omega
variable{c:a'}
theorem a'.O4(h:c.sz<=8388608){w:aP}(hw:w∈c.az):w.sz<=8388608:=F8 (sz:=aP.sz) (xs:=c.az) (m:=8388608) (by simp only[a'.sz]at h;omega) hw
theorem a'.Kl(h:c.sz<=8388608){w:bw}(hw:w∈c.bP):w.sz<=8388608:=F8 (sz:=bw.sz) (xs:=c.bP) (m:=8388608) (by simp only[a'.sz]at h;omega) hw
theorem a'.oc(h:c.sz<=8388608):c.aE.sz<=8388608:=by simp only[a'.sz]at h;omega
theorem aqJ(x:Node)(h:x.sz<=8388608):al 276 [.agg x.e] [.agg x.e]:=by
 simp only[Node.sz]at h;exact aox ⟨nl (by simp;omega),kX (by simp;omega),AF _,aa⟩
theorem GI(x:bw)(h:x.sz<=8388608):al 256 [.agg x.e] [.agg x.e]:=
 aoB ⟨yW x.queue h,aa⟩
theorem GJ(x:bw)(h:x.sz<=8388608):al 279 [.agg x.e] [.agg x.e]:=by
 simp only[bw.sz]at h;exact an8 ⟨nl (by simp;omega),kX (by simp;omega),ch _ aq.flat _,aa⟩
theorem zO(x:aP)(h:x.sz<=8388608):al 255 [.agg x.e] [.agg x.e]:=by
 simp only[aP.sz]at h;exact aoC ⟨yW x.queue (by omega),yW x.cj (by omega),yW x.bO (by omega),vD x.cells (by omega),nl (by simp;omega),kX (by simp;omega),AF _,nl (by simp;omega),kX (by simp;omega),AE _,nl (by simp;omega),kX (by simp;omega),AE _,nl (by simp;omega),kX (by simp;omega),ch _ cR.flat _,aa⟩
theorem zP(x:aP)(h:x.sz<=8388608):al 174 [.agg x.e] [.agg x.e]:=by
 simp only[aP.sz]at h;exact aoc ⟨nl (by simp;omega),kX (by simp;omega),ch _ aq.flat _,nl (by simp;omega),kX (by simp;omega),ch _ aq.flat _,nl (by simp;omega),kX (by simp;omega),ch _ aq.flat _,nl (by simp;omega),kX (by simp;omega),ch _ Cell.flat _,nl (by simp;omega),kX (by simp;omega),AF _,nl (by simp;omega),kX (by simp;omega),AE _,nl (by simp;omega),kX (by simp;omega),AE _,nl (by simp;omega),kX (by simp;omega),ch _ cR.flat _,aa⟩
theorem aqK(g:b9)(ay:g.sz<=8388608):al 181 [.agg g.e] [.agg g.e]:=by
 have aX:=b9.Sb ay;have l:=fC (P:=prog) (c:=(ar f181 0)) (cH 0) g.nodes.length (fun i:Nat=>CR (g.nodes.map Node.e) i ((g.nodes.take i).map Node.e) g.az g.cap 0 0) (fun i hi=>by
  obtain⟨a,ak⟩:=c9 hi;rw[zN ak];exact aoy ⟨b5 hi,bD,bK hi,bE Node.e ak,aqJ a (b9.Sa ay (eD ak)),by simp;omega,by simp;omega,dj hi aX,aa⟩) (aoz ⟨dT,aa⟩)
 rw[k5]at l;exact aoA ⟨l,aa⟩
theorem W3(g:b9)(ay:g.sz<=8388608):al 123 [.agg g.e] [.agg g.e]:=by
 have aX:=b9.Sb ay;have l:=fC (P:=prog) (c:=(ar f123 0)) (cH 0) g.nodes.length (fun i:Nat=>Ci i ((g.nodes.take i).map Node.e) g.az g.cap 0 0 (g.nodes.map Node.e) g.az g.cap) (fun i hi=>by
  obtain⟨a,ak⟩:=c9 hi;have ao:=b9.Sa ay (eD ak);simp only[Node.sz]at ao;rw[zN ak];exact an9 ⟨b5 hi,bD,bK hi,bE Node.e ak,nl (by simp;omega),kX (by simp;omega),AF _,by simp;omega,by simp;omega,dj hi aX,aa⟩) (aoa ⟨dT,aa⟩)
 rw[k5]at l;exact aob ⟨l,aa⟩
theorem vp(c:a')(aj:c.sz<=8388608):al 144 [.agg c.e] [.agg c.e]:=by
 have hw:=a'.x5 aj;have ap:=a'.yR aj;have bT:c.tokens.length<=8388608:=by simp only[a'.sz,fs]at aj;omega
 have ah:c.news.length<=8388608:=by simp only[a'.sz,fs]at aj;omega
 have ea:=fC (P:=prog) (c:=(ar f144 0)) (cH 0) c.az.length (fun i:Nat=>CS (c.az.map aP.e) i (c.aE.nodes.map Node.e) c.aE.az c.aE.cap ((c.az.take i).map aP.e) (c.tokens.map b4.e) (c.news.map b1.e) 0 0 (c.aE.nodes.map Node.e) c.aE.az c.aE.cap (c.az.map aP.e) (c.bP.map bw.e) (c.tokens.map b4.e) (c.news.map b1.e)) (fun i hi=>by
  obtain⟨a,ak⟩:=c9 hi;rw[zN ak];exact an3 ⟨b5 hi,bD,bK hi,bE aP.e ak,zO a (a'.O4 aj (eD ak)),by simp;omega,by simp;omega,dj hi hw,aa⟩) (an4 ⟨dT,aa⟩)
 have gr:=fC (P:=prog) (c:=(ar f144 1)) (cH 2) c.bP.length (fun i:Nat=>Ch (c.bP.map bw.e) i (c.aE.nodes.map Node.e) c.aE.az c.aE.cap (c.az.map aP.e) ((c.bP.take i).map bw.e) (c.tokens.map b4.e) (c.news.map b1.e) 0 0) (fun i hi=>by
  obtain⟨a,ak⟩:=c9 hi;rw[zN ak];exact an5 ⟨b5 hi,bD,bK hi,bE bw.e ak,GI a (a'.Kl aj (eD ak)),by simp;omega,by simp;omega,dj hi ap,aa⟩) (an6 ⟨dT,aa⟩)
 rw[k5]at ea gr;exact an7 ⟨aqK c.aE (a'.oc aj),nl (by simp;omega),kX (by simp;omega),ch _ b4.flat _,nl (by simp;omega),kX (by simp;omega),ch _ b1.flat _,ea,gr,aa⟩
theorem aqL(c:a')(aj:c.sz<=8388608):al 186 [.agg c.e] [.agg c.e]:=by
 have hw:=a'.x5 aj;have ap:=a'.yR aj;have bT:c.tokens.length<=8388608:=by simp only[a'.sz,fs]at aj;omega
 have ah:c.news.length<=8388608:=by simp only[a'.sz,fs]at aj;omega
 have ea:=fC (P:=prog) (c:=(ar f186 0)) (cH 0) c.az.length (fun i:Nat=>Cj i (c.aE.nodes.map Node.e) c.aE.az c.aE.cap ((c.az.take i).map aP.e) (c.tokens.map b4.e) (c.news.map b1.e) 0 0 (c.aE.nodes.map Node.e) c.aE.az c.aE.cap (c.az.map aP.e) (c.bP.map bw.e) (c.tokens.map b4.e) (c.news.map b1.e)) (fun i hi=>by
  obtain⟨a,ak⟩:=c9 hi;rw[zN ak];exact apE ⟨b5 hi,bD,bK hi,bE aP.e ak,zP a (a'.O4 aj (eD ak)),by simp;omega,by simp;omega,dj hi hw,aa⟩) (apF ⟨dT,aa⟩)
 have gr:=fC (P:=prog) (c:=(ar f186 1)) (cH 2) c.bP.length (fun i:Nat=>Ck i (c.aE.nodes.map Node.e) c.aE.az c.aE.cap (c.az.map aP.e) ((c.bP.take i).map bw.e) (c.tokens.map b4.e) (c.news.map b1.e) 0 0 (c.aE.nodes.map Node.e) c.aE.az c.aE.cap (c.az.map aP.e) (c.bP.map bw.e) (c.tokens.map b4.e) (c.news.map b1.e)) (fun i hi=>by
  obtain⟨a,ak⟩:=c9 hi;rw[zN ak];exact apG ⟨b5 hi,bD,bK hi,bE bw.e ak,GJ a (a'.Kl aj (eD ak)),by simp;omega,by simp;omega,dj hi ap,aa⟩) (apH ⟨dT,aa⟩)
 rw[k5]at ea gr;exact apI ⟨W3 c.aE (a'.oc aj),nl (by simp;omega),kX (by simp;omega),ch _ b4.flat _,nl (by simp;omega),kX (by simp;omega),ch _ b1.flat _,ea,gr,aa⟩
end Go.Proofs.YtdchjefneblpgaaGreat
namespace Go.Proofs.YtdchjefneblpgaaGreat
open Go.Sx Go.RowKit Go.Proofs.Tryz
def ng(c:a')(b:Bool):List D:=[.J 4 (c.aE.nodes.map Node.e),I c.aE.az,I c.aE.cap,.J 8 (c.az.map aP.e),.J 6 (c.bP.map bw.e),.J 5 (c.tokens.map b4.e),.J 3 (c.news.map b1.e),B b]
abbrev gd(c:a'):List D:=ng c (cU c)
theorem GK(w:aP)(e:Int)(r:Bool)(h:ja w e=r)(hw:w.sz<=8388608):al 210 [.agg w.e,.one (I e)] [.one (B r)]:=h▸azw w e hw
theorem GL(c:a')(aj:c.sz<=8388608)(hw:gl c):bW prog 127 [.ro (.agg c.e)] (.new (gd c)):=
 apJ ⟨aqL c aj,WG c aj hw,aa⟩
variable{i:Nat}
theorem NC{α:Type}{f:α->List D}{xs:List α}{a:α}:(xs.map f).set i (f a)=(xs.set i a).map f:=List.map_set.symm
variable{c:a'}{x:aP}
theorem mw{i:Int}(h:dh c i=some x):0<=i/\i<(↑(c.az.map aP.e).length:Int)/\(c.az.map aP.e)[i.toNat]?=some x.e:=by
 obtain⟨h1,U,ax⟩:=hS h;exact⟨h1,by rw[bl];omega,bN aP.e ax⟩
theorem nd{i:Int}(h:dh c i=some x)(aj:c.sz<=8388608):x.sz<=8388608:=a'.O4 aj (eD (hS h).2.2)
theorem aqM{l:List b1}(hi:i<l.length):([]++((l.map b1.e).drop 0).take (((some (i:Int)).getD (↑(l.map b1.e).length:Int)).toNat-0)++((l.map b1.e).drop ((some ((i:Int)+1)).getD 0).toNat).take ((l.map b1.e).length-((some ((i:Int)+1)).getD 0).toNat))=(cutAt l i).map b1.e:=by
 have e1:((i:Int)+1).toNat=i+1:=by omega
 simp only[cutAt,il,k7,Nat.sub_zero,uu,List.nil_append,e1,fQ,pJ,List.map_drop]
 congr 1
 rw[sS (by simp)]
theorem W4{l:List b1}:((l.map b1.e).drop ((some ((i:Int)+1)).getD 0).toNat).take ((l.map b1.e).length-((some ((i:Int)+1)).getD 0).toNat)=(l.drop (i+1)).map b1.e:=by
 have e1:((i:Int)+1).toNat=i+1:=by omega
 simp only[il,e1,List.map_drop];rw[sS (by simp)]
theorem ND(h:cU c=true){n:b1}(aX:c.news[i]?=some n){w:Int}(hw:(n.dest==w)=true):∃x,dh c w=some x:=by
 have av:=V5 h aX;simp only[l4,aw,hG,ln,cV]at av;have U:=(ix.1 h).2.1;have e:=eq_of_beq hw;exact CD (by omega) (by omega)
theorem GM{α:Type}{f:α->List D}(h:∀a,∀d∈f a,∃x,d=.v x){l:List (List D)}{xs:List α}(ap:l=xs.map f):Flat l:=ap▸ch f h xs
theorem W5{w:Int}{n:b1}(h1:c.news.findIdx? (fun n=>n.dest==w)=some i)(cF:cU c=true)(aX:c.news[i]?=some n)(ah:dh c w=some x):kx c w=(iL (setW c w (gh x n)) (cutAt c.news i),true):=by
 unfold kx;simp only[h1,cF,fX,aX,ah]
theorem aqN(c:a')(w:Int)(aj:c.sz<=8388608):bW prog 247 [.ref (gd c) (gd (kx c w).1),.ro (.one (I w))] (.vals [.one (B (kx c w).2)]):=by
 have ap:=xM aj;have Ep:=fun h=>aln (c:=c) (w:=w) h
 cases cF:cU c with
 | false=>
  have e:kx c w=(c,false):=by
   unfold kx;split<;>simp[cF]
  rw[e];simp only[gd,cF];cases aX:c.news with
  | nil=>
   have l:c5 prog (ar f247 0) (rq w 0 (c.aE.nodes.map Node.e) c.aE.az c.aE.cap (c.az.map aP.e) (c.bP.map bw.e) (c.tokens.map b4.e) (c.news.map b1.e) false) (.exit 0) _:=.last (cH 0) (W0 ⟨by simp[aX],aa⟩);exact NA ⟨l,aa⟩
  | cons a l=>
   have l:c5 prog (ar f247 0) (rq w 0 (c.aE.nodes.map Node.e) c.aE.az c.aE.cap (c.az.map aP.e) (c.bP.map bw.e) (c.tokens.map b4.e) (c.news.map b1.e) false) (.exit 0) _:=.last (cH 0) (apN ⟨dt (by simp[aX]<;>omega),rfl,aa⟩);exact NA ⟨l,aa⟩
 | true=>
  have Ep:=Ep cF;have l:=gN (P:=prog) (c:=(ar f247 0)) c.news (fun n=>n.dest==w) (fun i=>rq w i (c.aE.nodes.map Node.e) c.aE.az c.aE.cap (c.az.map aP.e) (c.bP.map bw.e) (c.tokens.map b4.e) (c.news.map b1.e) true)
   (X:=fun i n=>match dh c w with
    | some x=>GH true (c.aE.nodes.map Node.e) c.aE.az c.aE.cap ((setW c w (gh x n)).az.map aP.e) (c.bP.map bw.e) (c.tokens.map b4.e) ((cutAt c.news i).map b1.e) true
    | none=>⟨[],[]⟩) e0 (cH 0)
   (fun i a ak h=>apK ⟨b5 (aT ak),rfl,bD,bK (aT ak),bE b1.e ak,by simp only[bne,h];rfl,dj (aT ak) ap,aa⟩)
   (fun i a ak h=>by
    obtain⟨x,ah⟩:=ND cF ak h;have hi:=aT ak;obtain⟨w0,w1,hE⟩:=mw ah;have ao:=nd ah aj;simp only[ah];rw[<-aqM hi];cases aG:ja x a.bd with
    | true=>
     rw[show gh x a=x by unfold gh;rw[aG];rfl,tW ah];exact apM ⟨b5 hi,rfl,bD,bK hi,bE b1.e ak,by simp only[bne,h];rfl,by simp,by simp,by simp;omega,by simp;omega,by simp;omega,GM (xs:=c.news.take i) b1.flat (by simp),dj hi ap,by simp;omega,by simp;omega,by simp,by simp;omega,by simp;omega,GM (xs:=c.news.drop (i+1)) b1.flat W4,w0,w1,hE,Mk x a.bd true aG ao,rfl,aa⟩
    | false=>
     have qR:x.b8.length<=8388608:=by simp only[aP.sz]at ao;omega
     have e2:(setW c w (gh x a)).az.map aP.e=(c.az.map aP.e).set w.toNat (told x a.bd a.du).e:=by
      rw[show gh x a=told x a.bd a.du by unfold gh;rw[aG];rfl];exact NC.symm
     rw[e2];have cg:(told x a.bd a.du).e=[.J 5 (x.queue.map aq.e),.J 5 (x.cj.map aq.e),.J 5 (x.bO.map aq.e),.J 4 (x.cells.map Cell.e),.J 1 (x.bL.map bh),.J 1 (x.bU.map cD),.J 1 (x.bx.map cD),.J 2 (x.b8.map cR.e++[[I a.bd,B a.du]])]:=by
      simp only[told,aP.e,fQ];rfl
     rw[cg];exact apL ⟨b5 hi,rfl,bD,bK hi,bE b1.e ak,by simp only[bne,h];rfl,by simp,by simp,by simp;omega,by simp;omega,by simp;omega,GM (xs:=c.news.take i) b1.flat (by simp),dj hi ap,by simp;omega,by simp;omega,by simp,by simp;omega,by simp;omega,GM (xs:=c.news.drop (i+1)) b1.flat W4,w0,w1,hE,Mk x a.bd false aG ao,rfl,w0,w1,hE,by simp;omega,by simp;omega,hE,rfl,dD (cR.flat ⟨a.bd,a.du⟩),rfl,rfl,rfl,rfl,rfl,rfl,rfl,rfl,rfl,rfl,rfl,w0,w1,hE,rfl,aa⟩)
   (W0 ⟨dT,aa⟩)
  rcases l with⟨_,h1,_,U⟩ | ⟨i,a,ak,hp,_,h1,_,U⟩
  ·have e:kx c w=(c,false):=by unfold kx;simp only[h1]
   rw[e];simp only[gd,cF];exact NA ⟨U,aa⟩
  obtain⟨x,ah⟩:=ND cF ak hp;rw[W5 h1 cF ak ah]at Ep ⊢;simp only[ah]at U;simp only[gd,cF,Ep];exact apO ⟨U,aa⟩
theorem aqO(c:a')(w:Int)(aj:c.sz<=8388608)(hw:gl c):al 224 [.agg c.e,.one (I w)] [.agg (kx c w).1.e,.one (B (kx c w).2)]:=by
 have ap:=xM aj;have cB:=vp c aj;have lD:=azT c.news (fun n=>n.dest==w) 295 [.ptr [I w]] ap (by kernel_rfl) (fun x _=>apP trivial);have ok:=Gl c aj hw;unfold mN at lD;cases h1:c.news.findIdx? (fun n=>n.dest==w) with
 | none=>
  simp only[h1]at lD;rw[show kx c w=(c,false) by unfold kx;simp only[h1]];exact apQ ⟨cB,lD,dt (by omega),aa⟩
 | some i=>
  simp only[h1]at lD;cases cF:cU c with
  | false=>
   rw[cF]at ok;rw[show kx c w=(c,false) by unfold kx;simp[h1,cF]];exact apR ⟨cB,lD,dQ (by omega),ok,rfl,aa⟩
  | true=>
   rw[cF]at ok;obtain⟨hi,hp,_⟩:=qs.1 h1;have ak:c.news[i]?=some c.news[i]:=fJ hi;generalize c.news[i]=a at ak hp;obtain⟨x,ah⟩:=ND cF ak hp;obtain⟨w0,w1,hE⟩:=mw ah;have ao:=nd ah aj;rw[W5 h1 cF ak ah];have dl:=aA2 c.news i (i+1) (by omega) (by omega);rw[show (((i+1:Nat):Int))=(i:Int)+1 by omega]at dl;cases aG:ja x a.bd with
   | true=>
    rw[show gh x a=x by unfold gh;rw[aG];rfl,tW ah];exact apT ⟨cB,lD,dQ (by omega),ok,rfl,bD,bK hi,bE b1.e ak,dj hi ap,dl,w0,w1,hE,GK x a.bd true aG ao,rfl,aa⟩
   | false=>
    have qR:x.b8.length<=8388608:=by simp only[aP.sz]at ao;omega
    have e2:(setW c w (gh x a)).az.map aP.e=(c.az.map aP.e).set w.toNat (told x a.bd a.du).e:=by
     rw[show gh x a=told x a.bd a.du by unfold gh;rw[aG];rfl];exact NC.symm
    have cg:(told x a.bd a.du).e=[.J 5 (x.queue.map aq.e),.J 5 (x.cj.map aq.e),.J 5 (x.bO.map aq.e),.J 4 (x.cells.map Cell.e),.J 1 (x.bL.map bh),.J 1 (x.bU.map cD),.J 1 (x.bx.map cD),.J 2 (x.b8.map cR.e++[[I a.bd,B a.du]])]:=by
     simp only[told,aP.e,fQ];rfl
    have eo:(iL (setW c w (gh x a)) (cutAt c.news i)).e=[.J 4 (c.aE.nodes.map Node.e),I c.aE.az,I c.aE.cap,.J 8 ((c.az.map aP.e).set w.toNat (told x a.bd a.du).e),.J 6 (c.bP.map bw.e),.J 5 (c.tokens.map b4.e),.J 3 ((cutAt c.news i).map b1.e)]:=by
     rw[<-e2];rfl
    rw[eo,cg];exact apS ⟨cB,lD,dQ (by omega),ok,rfl,bD,bK hi,bE b1.e ak,dj hi ap,dl,w0,w1,hE,GK x a.bd false aG ao,rfl,w0,w1,hE,by simp;omega,by simp;omega,hE,rfl,dD (cR.flat ⟨a.bd,a.du⟩),rfl,rfl,rfl,rfl,rfl,rfl,rfl,rfl,w0,w1,hE,rfl,aa⟩
end Go.Proofs.YtdchjefneblpgaaGreat
namespace Go.Proofs.YtdchjefneblpgaaGreat
open Go.Sx Go.RowKit Go.Proofs.Tryz
theorem QD(a b:Nat):(((a:Int)+(b:Int))==0)=(a+b==0):=by
 rw[Bool.eq_iff_iff];simp only[dE];omega
theorem aqP(w:aP)(e:Int)(hw:w.sz<=8388608):al 342 [.agg w.e,.one (I e)] [.one (B (xN w e))]:=by
 have ap:w.bO.length<=8388608:=by simp only[aP.sz]at hw;omega
 have l:=gN (P:=prog) (c:=(ar f342 0)) w.bO (fun r=>decide (r.bq.bd<=e)) (fun i=>xS (w.queue.map aq.e) (w.cj.map aq.e) (w.bO.map aq.e) (w.cells.map Cell.e) (w.bL.map bh) (w.bU.map cD) (w.bx.map cD) (w.b8.map cR.e) e i) (X:=fun _ _=>NB true) e0 (cH 0)
  (fun i a ak h=>ao6 ⟨b5 (aT ak),bD,bK (aT ak),bE aq.e ak,h,dj (aT ak) ap,aa⟩)
  (fun i a ak h=>ao5 ⟨b5 (aT ak),bD,bK (aT ak),bE aq.e ak,h,aa⟩)
  (ao7 ⟨dT,aa⟩)
 unfold xN;rcases l with⟨_,_,h1,U⟩ | ⟨i,a,_,_,_,_,h1,U⟩
 ·rw[h1];exact ao9 ⟨U,aa⟩
 rw[h1];exact ao8 ⟨U,aa⟩
theorem aqQ(w:aP)(e:Int)(hw:w.sz<=8388608):al 331 [.agg w.e,.one (I e)] [.one (B (xN w e))]:=by
 have ap:w.bO.length<=8388608:=by simp only[aP.sz]at hw;omega
 exact aqE ⟨azQ w.bO (fun r=>decide (r.bq.bd<=e)) 353 [.ptr [I e]] ap (by kernel_rfl) (fun x _=>aqF trivial),aa⟩
theorem aqR(w:aP)(e:Int)(hw:w.sz<=8388608):al 343 [.agg w.e,.one (I e)] [.one (I ((↑((mS e w.queue).map aq.e).length:Int)+(↑((mS e w.cj).map aq.e).length:Int)))]:=by
 simp only[aP.sz]at hw;have cG:(mS e w.queue).length<=w.queue.length:=qw _ _;have bM:(mS e w.cj).length<=w.cj.length:=qw _ _;exact apc ⟨Vv w.queue e (by omega),Vv w.cj e (by omega),⟨by simp only[bl];omega,by simp only[bl];omega⟩,aa⟩
theorem aqS(w:aP)(e:Int)(hw:w.sz<=8388608):al 316 [.agg w.e,.one (I e)] [.one (B (k1 w e))]:=by
 have o:=aqP w e hw;unfold k1;cases h:xN w e with
 | true=>rw[h]at o;exact apb ⟨o,rfl,aa⟩
 | false=>
  rw[h]at o;have a:=aqR w e hw;rw[bl,bl]at a;have b:=apa ⟨o,rfl,a,aa⟩;rw[QD]at b;exact b
theorem aqT(w:aP)(e:Int)(hw:w.sz<=8388608):al 332 [.agg w.e,.one (I e)] [.one (I ((↑((mS e w.queue).map aq.e).length:Int)+(↑((mS e w.cj).map aq.e).length:Int)))]:=by
 simp only[aP.sz]at hw;have cG:(mS e w.queue).length<=w.queue.length:=qw _ _;have bM:(mS e w.cj).length<=w.cj.length:=qw _ _;exact aqI ⟨Vw w.queue e (by omega),Vw w.cj e (by omega),⟨by simp only[bl];omega,by simp only[bl];omega⟩,aa⟩
theorem aqU(w:aP)(e:Int)(hw:w.sz<=8388608):al 294 [.agg w.e,.one (I e)] [.one (B (k1 w e))]:=by
 have o:=aqQ w e hw;unfold k1;cases h:xN w e with
 | true=>rw[h]at o;exact aqH ⟨o,rfl,aa⟩
 | false=>
  rw[h]at o;have a:=aqT w e hw;rw[bl,bl]at a;have b:=aqG ⟨o,rfl,a,aa⟩;rw[QD]at b;exact b
theorem W6(w:aP)(e:Int)(r:Bool)(h:k1 w e=r)(hw:w.sz<=8388608):al 316 [.agg w.e,.one (I e)] [.one (B r)]:=h▸aqS w e hw
theorem W7(w:aP)(e:Int)(r:Bool)(h:k1 w e=r)(hw:w.sz<=8388608):al 294 [.agg w.e,.one (I e)] [.one (B r)]:=h▸aqU w e hw
