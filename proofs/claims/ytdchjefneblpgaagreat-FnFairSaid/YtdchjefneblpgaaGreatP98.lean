import Derived.Test.YtdchjefneblpgaaGreatP89
import Derived.Test.YtdchjefneblpgaaGreatGJ
set_option linter.unusedVariables false
set_option linter.unusedSimpArgs false
namespace Go.Proofs.YtdchjefneblpgaaGreat
open Go.Sx Go.RowKit Go.Proofs.Tryz
theorem Zh{P:kv}:∀(m:Nat) {S:Int} {c:aT} (k:Nat),Live P S c->S+44*m<=200000->Live P (S+44*m) (eG m c k).1/\fR P (eG m c k).1<=fR P c
 | 0,S,c,k,h,_=>⟨h.mono (by omega),fg _⟩
 | m+1,S,c,k,h,hv=>by
  obtain⟨_,E1⟩:=Pe (iR (fz.1 h.run.all.ok).1);have h1:Live P (S+44) (gG c).1:=(h.runs (ff c) (by omega)).mono (by omega);have sC:fR P (gG c).1<=fR P c:=Pf (ff c) h.run (by omega);unfold eG;split
  ·exact⟨h1.mono (by omega),sC⟩
  obtain⟨U,Le⟩:=Zh m (k+1) h1 (by omega);exact⟨U.mono (by omega),mF Le sC⟩
theorem Grown.fair{g:bV}{xs:List az}{c:aT}(h:∃(P:kv) (S:Int),P.xs=xs/\Live P S c/\S<=50000/\fR P c<=xs.length*554)(ax:kW g)(af:∀r∈xs,Input r)(bF:xs.length<=5)(va:c.ay=g)(n:Int)(aZ:n<=200):Grown g xs (jj c n).1:=by
 obtain⟨P,S,uY,h1,U,aA⟩:=h;have aw:(fT n 0 3000).toNat<=200:=by
  unfold fT;split<;>(try split)<;>(try split)<;>omega
 obtain⟨hz,mm⟩:=Zh (fT n 0 3000).toNat 0 h1 (by omega);exact⟨ax,af,bF,⟨P,_,uY,hz.mono (T:=60000) (by omega),by omega,mF mm aA⟩,(DA _ c 0).ay.trans va⟩
end Go.Proofs.YtdchjefneblpgaaGreat
namespace Go.Proofs.YtdchjefneblpgaaGreat
open Go.Sx Go.RowKit Go.Proofs.Tryz
theorem avO(b:List Int)(c:dW)(ak:c.ok b):∃(d:dW) (g:bV) (xs:List az) (x:aT),d.ok b/\Grown g xs x/\fa x/\x.sz<=8000/\b2 prog 166 [.cur (c.e b) (d.e b)] (.vals [.agg x.e]):=by
 obtain⟨d1,g,cC,ax,bx⟩:=Ng b c ak;obtain⟨d2,xs,cg,gP,gz,b0⟩:=Nf b d1 cC;obtain⟨d3,cz,cL,sC,_,ci⟩:=VF b d2 40 (by omega) cg;obtain⟨d4,f,fo,eA⟩:=Ax b d3 4 cL (by omega);have aZ:=Gz ax (by omega) gz;have ao:=ax.size;have bd:=Y' aZ;have nw:=Y9 g xs (by omega);rw[OI aZ]at nw;have cW:=Za g xs;have hQ:=YT (eP g xs) cz (by omega) cW;have qh:=CA cz (eP g xs);have Jl:=(zT cz (eP g xs)).cW cW;have va:=(zT cz (eP g xs)).ay;obtain⟨P,uY,al⟩:=Live.new ax gz gP;subst uY;have BJ:=YC aZ gz;have c3:=al.runs cz (by omega);have RC:=mF (Pf cz al.run (by omega)) BJ;generalize cU (eP g P.xs) cz=o at*;cases f with
 | false=>exact⟨d4,g,P.xs,o.1,fo,⟨ax,gz,gP,⟨P,_,rfl,c3.mono (T:=60000) (by omega),by omega,RC⟩,va⟩,Jl,by omega,XX ⟨bx,b0,nw,Gr ⟨ci,hQ,aa⟩,eA,rfl,aa⟩⟩
 | true=>
  obtain⟨d5,n,rr,ac5,j7⟩:=ek b d4 12 fo (by omega);have cZ:=DB o.1 n (by omega) Jl;have br:=Grown.fair (g:=g) ⟨P,_,rfl,c3.mono (T:=50000) (by omega),by omega,RC⟩ ax gz gP va n (by omega);have aw:(fT n 0 3000).toNat<=11:=by
   unfold fT;split<;>(try split)<;>(try split)<;>omega
  have RX:=Gx (fT n 0 3000).toNat o.1 0;have abR:fa (jj o.1 n).1:=(DA (fT n 0 3000).toNat o.1 0).cW Jl;have adQ:(jj o.1 n).1.sz<=8000:=by unfold jj;omega
  exact⟨d5,g,P.xs,(jj o.1 n).1,rr,br,abR,adQ,XW ⟨bx,b0,nw,Gr ⟨ci,hQ,aa⟩,eA,rfl,XV ⟨j7,cZ,aa⟩,aa⟩⟩
theorem avP(b:List Int)(aw:Bytes b):∃(g:bV) (xs:List az) (x:aT),Grown g xs x/\fa x/\x.sz<=8000/\aq 39 [.one (.J 1 (b.map hY))] [.agg x.e]:=by
 obtain⟨c,ak,gH⟩:=Hs b aw;obtain⟨d,g,xs,x,_,h1,U,aA,bx⟩:=avO b c ak;exact⟨g,xs,x,h1,U,aA,arQ ⟨gH,bx,aa⟩⟩
theorem Grown.run{g:bV}{xs:List az}{x:aT}(h:Grown g xs x):∃(d:aT) (j:Nat) (P:kv) (T:Int),jj x 3000=(d,j)/\j<3000/\Live P T d/\T<=200000/\d.ay=x.ay/\AW d/\∀p∈ff d,(cY d p).2=false:=by
 obtain⟨P,S,uY,al,hv,BJ⟩:=h.live;obtain⟨d,j,T,e⟩:=avN h.drawn h.input h.few uY al hv BJ;exact⟨d,j,P,T,e⟩
end Go.Proofs.YtdchjefneblpgaaGreat
namespace Go.Proofs.YtdchjefneblpgaaGreat
open Go.Sx Go.RowKit Go.Proofs.Tryz
def oB(c:aT)(e:Int):Bool:=!(c.ar.any fun w=>!ev w e)
theorem avQ(c:aT)(e:Int)(ak:c.sz<=8388608):aq 205 [.agg c.e,.one (I e)] [.one (B (oB c e))]:=by
 have al:=aT.wk ak;have l:=gv (P:=prog) (c:=(ap f205 0)) c.ar (fun w=>!ev w e) (fun i=>x8 (c.ay.nodes.map Node.e) c.ay.ar c.ay.cap (c.ar.map aK.e) (c.bJ.map bm.e) (c.tokens.map bP.e) (c.news.map bT.e) e i) (X:=fun _ _=>NU false) e5 (cn 0)
  (fun i a ai h=>afn ⟨b5 (a1 ai),bA,bH (a1 ai),bC aK.e ai,NH a e (aT.yt ak (c9 ai)),h,db (a1 ai) al,aa⟩)
  (fun i a ai h=>afm ⟨b5 (a1 ai),bA,bH (a1 ai),bC aK.e ai,NH a e (aT.yt ak (c9 ai)),h,aa⟩)
  (afo ⟨dw,aa⟩)
 unfold oB;rcases l with⟨_,_,h1,U⟩ | ⟨i,a,_,_,_,_,h1,U⟩
 ·rw[h1];exact afq ⟨U,aa⟩
 rw[h1];exact afp ⟨U,aa⟩
theorem avR(c:aT)(e:Int)(ak:c.sz<=8388608):aq 203 [.agg c.e,.one (I e)] [.one (B (oB c e))]:=
 afr ⟨aAN c.ar (fun w=>!ev w e) _ _ (aT.wk ak) (by kernel_rfl) (fun x af=>afs ⟨Uj x e (aT.yt ak af),aa⟩),aa⟩
def pE(f:Int->Bool):Nat->Int
 | 0=>0
 | n+1=>pE f n+(if f n then 1 else 0)
theorem Pg(f:Int->Bool):∀n,0<=pE f n/\pE f n<=n
 | 0=>by simp[pE]
 | n+1=>by
  have:=Pg f n;simp only[pE];split<;>omega
def HO(c:aT):Int:=pE (oB c) 4
theorem Zi(c:aT)(e:Int)(r:Bool)(h:oB c e=r)(ak:c.sz<=8388608):aq 205 [.agg c.e,.one (I e)] [.one (B r)]:=h▸avQ c e ak
theorem avS(c:aT)(ak:c.sz<=8388608):aq 69 [.agg c.e] [.one (I (HO c))]:=by
 have l:=dY (P:=prog) (c:=(ap f69 0)) (cn 0) 4 (fun i:Nat=>x' (c.ay.nodes.map Node.e) c.ay.ar c.ay.cap (c.ar.map aK.e) (c.bJ.map bm.e) (c.tokens.map bP.e) (c.news.map bT.e) i (pE (oB c) i)) (fun i hi=>by
  have aw:=Pg (oB c) i;by_cases h:oB c i=true
  ·simp only[pE,bn h];exact ag4 ⟨by simp only[ck];omega,Zi c i true h ak,rfl,⟨by omega,by omega⟩,⟨by omega,by omega⟩,aa⟩
  simp only[pE,bw h,Int.add_zero];exact ag5 ⟨by simp only[ck];omega,Zi c i false (by simpa using h) ak,rfl,⟨by omega,by omega⟩,aa⟩) (ag6 ⟨by simp,aa⟩)
 exact ag7 ⟨l,aa⟩
theorem Zj(c:aT)(e:Int)(r:Bool)(h:oB c e=r)(ak:c.sz<=8388608):aq 203 [.agg c.e,.one (I e)] [.one (B r)]:=h▸avR c e ak
theorem Zk(c:aT)(ak:c.sz<=8388608):aq 67 [.agg c.e] [.one (I (HO c))]:=by
 have l:=dY (P:=prog) (c:=(ap f67 0)) (cn 0) 4 (fun i:Nat=>ya (c.ay.nodes.map Node.e) c.ay.ar c.ay.cap (c.ar.map aK.e) (c.bJ.map bm.e) (c.tokens.map bP.e) (c.news.map bT.e) i (pE (oB c) i)) (fun i hi=>by
  have aw:=Pg (oB c) i;by_cases h:oB c i=true
  ·simp only[pE,bn h];exact ag8 ⟨by simp only[ck];omega,Zj c i true h ak,rfl,⟨by omega,by omega⟩,⟨by omega,by omega⟩,aa⟩
  simp only[pE,bw h,Int.add_zero];exact ag9 ⟨by simp only[ck];omega,Zj c i false (by simpa using h) ak,rfl,⟨by omega,by omega⟩,aa⟩) (aha ⟨by simp,aa⟩)
 exact ahb ⟨l,aa⟩
def wM(w:aK)(n:Nat):List Int:=((List.range n).map fun i:Nat=>(i:Int)).filter fun e=>(mZ w e).1.cf
def rT(c:aT):List Int:=match c.ar with | []=>[] | w::_=>wM w 4
theorem Ph(w:aK)(n:Nat):(wM w n).length<=n:=mF (pT ..) (by simp)
theorem avT(c:aT):(rT c).length<=4:=by
 unfold rT;split
 ·simp
 exact Ph ..
theorem Zl(w:aK)(n:Nat):wM w (n+1)=wM w n++(if (mZ w n).1.cf then [(n:Int)] else []):=by
 simp only[wM,List.range_succ,gi,List.filter_append,lN,List.map_nil]
 congr 1
 simp only[List.filter_cons,List.filter_nil]
theorem avU{w:aK}{e:Int}(h:(mZ w e).1.cf=true):(mZ w e).2=true:=by
 unfold mZ at h ⊢;split
 ·rfl
 rename_i U;rw[U]at h;cases h
theorem avV(c:aT)(ak:c.sz<=8388608):aq 72 [.agg c.e] [.one (.J 1 ((rT c).map bc))]:=by
 cases hw:c.ar with
 | nil=>
  simp only[rT,aT.e,hw];exact V' ⟨(by exact c8.last (cn 0) (agX ⟨rfl,rfl,aa⟩)),aa⟩
 | cons w ws=>
  have Kl:w.sz<=8388608:=by
   have h1:=ak;simp only[aT.sz,fs]at h1;have:=Af (sz:=aK.sz) (xs:=c.ar) (a:=w) (by rw[hw];exact hU);omega
  have l:=dY (P:=prog) (c:=(ap f72 0)) (cn 0) 4 (fun i:Nat=>sS i ((wM w i).map bc) (c.ay.nodes.map Node.e) c.ay.ar c.ay.cap (c.ar.map aK.e) (c.bJ.map bm.e) (c.tokens.map bP.e) (c.news.map bT.e)) (fun i hi=>by
   have bF:=Ph w i;have ao:=Zl w i;have aE:=ahk w i Kl;have ax:(c.ar.map aK.e)[(0:Nat)]?=some w.e:=by rw[hw];rfl
   have hle:decide ((i:Int)<=3)=true:=by simp only[ck];omega
   have y9:decide ((↑(c.ar.map aK.e).length:Int)>0)=true:=by rw[hw];simp
   have u9:0<(↑(c.ar.map aK.e).length:Int):=by rw[hw];simp
   by_cases hp:(mZ w i).1.cf=true
   ·rw[bn hp]at ao;rw[ao,gi];exact agU ⟨hle,y9,by omega,u9,ax,aE,avU hp,hp,by simp;omega,by simp;omega,fE (NN _),⟨by omega,by omega⟩,aa⟩
   rw[bw hp,io]at ao;rw[ao];by_cases U:(mZ w i).2=true
   ·exact agV ⟨hle,y9,by omega,u9,ax,aE,U,uF.2 hp,⟨by omega,by omega⟩,aa⟩
   exact agW ⟨hle,y9,by omega,u9,ax,aE,uF.2 U,⟨by omega,by omega⟩,aa⟩) (agY ⟨rfl,aa⟩)
  simp only[rT,hw];rw[hw]at l;simp only[aT.e,hw];exact V' ⟨l,aa⟩
theorem avW(c:aT)(ak:c.sz<=8388608):aq 71 [.agg c.e] [.one (.J 1 ((rT c).map bc))]:=by
 cases hw:c.ar with
 | nil=>
  simp only[rT,aT.e,hw];exact agZ ⟨rfl,aa⟩
 | cons w ws=>
  have Kl:w.sz<=8388608:=by
   have h1:=ak;simp only[aT.sz,fs]at h1;have:=Af (sz:=aK.sz) (xs:=c.ar) (a:=w) (by rw[hw];exact hU);omega
  have l:=dY (P:=prog) (c:=(ap f71 0)) (cn 0) 4 (fun i:Nat=>x9 i ((wM w i).map bc) (c.ay.nodes.map Node.e) c.ay.ar c.ay.cap (c.ar.map aK.e) (c.bJ.map bm.e) (c.tokens.map bP.e) (c.news.map bT.e)) (fun i hi=>by
   have bF:=Ph w i;have ao:=Zl w i;have aE:=ahl w i Kl;have ax:(c.ar.map aK.e)[(0:Nat)]?=some w.e:=by rw[hw];rfl
   have hle:decide ((i:Int)<=3)=true:=by simp only[ck];omega
   have u9:0<(↑(c.ar.map aK.e).length:Int):=by rw[hw];simp
   by_cases hp:(mZ w i).1.cf=true
   ·rw[bn hp]at ao;rw[ao,gi];exact ag0 ⟨hle,by omega,u9,ax,aE,hp,by simp;omega,by simp;omega,fE (NN _),⟨by omega,by omega⟩,aa⟩
   rw[bw hp,io]at ao;rw[ao];exact ag1 ⟨hle,by omega,u9,ax,aE,uF.2 hp,⟨by omega,by omega⟩,aa⟩) (ag2 ⟨rfl,aa⟩)
  have cX:((↑(c.ar.map aK.e).length:Int)==0)=false:=by rw[hw];simp;omega
  simp only[rT,hw];rw[hw]at l cX;simp only[aT.e,hw];exact ag3 ⟨cX,l,aa⟩
end Go.Proofs.YtdchjefneblpgaaGreat
namespace Go.Proofs.YtdchjefneblpgaaGreat
open Go.Sx Go.RowKit Go.Proofs.Tryz
end Go.Proofs.YtdchjefneblpgaaGreat
namespace Go.Proofs.YtdchjefneblpgaaGreat
open Go.Sx Go.RowKit Go.Proofs.Tryz
end Go.Proofs.YtdchjefneblpgaaGreat
namespace Go.Proofs.YtdchjefneblpgaaGreat
open Go.Sx Go.RowKit Go.Proofs.Tryz
theorem avX(c:aT)(jx:Int):nV c (jj c jx).1:=DA _ _ _
theorem Pj(c:aT)(jx:Int):(jj c jx).1.sz<=c.sz+1200000:=by
 obtain⟨m,hm,aw⟩:=OD jx;unfold jj;rw[hm,kU];have:=Gx m c 0;omega
end Go.Proofs.YtdchjefneblpgaaGreat
namespace Go.Proofs.YtdchjefneblpgaaGreat
open Go.Sx Go.RowKit Go.Proofs.Tryz
theorem wF.cW{c:aT}(h:wF c):fa c:=fun l al=>(h.l l al).2
theorem avY(b:List Int)(aw:Bytes b):∃x:aT,(wF x/\x.sz<=8400)/\aq 63 [.one (.J 1 (b.map hY))] [.agg x.e]:=by
 obtain⟨c,ak,gH⟩:=Hs b aw;obtain⟨d,x,_,af,bx⟩:=OJ b c ak;exact⟨x,af,arS ⟨gH,bx,aa⟩⟩
end Go.Proofs.YtdchjefneblpgaaGreat
namespace Go.Proofs.YtdchjefneblpgaaGreat
open Go.Sx Go.RowKit Go.Proofs.Tryz
theorem avZ{d:aT}(h:AW d):HO d=4:=by
 have k:∀e:Int,0<=e/\e<=3->oB d e=true:=fun e he=>by
  unfold oB;rw[hb,ft];intro x af;rw[h.done e he x af];simp
 unfold HO;simp only[pE];rw[k _ (by omega),k _ (by omega),k _ (by omega),k _ (by omega)];rfl
theorem av0{d:aT}(h:AW d):Mc d=[]:=by
 have e:An d=[]:=by
  unfold An;rw[List.append_eq_nil_iff,List.flatMap_eq_nil_iff,List.flatMap_eq_nil_iff];refine⟨fun x af=>?_,fun l al=>h.still.2.1 l al⟩;obtain⟨h1,U,_⟩:=h.still.1 x af;unfold nz;rw[h1,U];rfl
 unfold Mc;rw[e];rfl
theorem avw(b:List Int)(aw:Bytes b):∃x:aT,x.sz<=1300000/\aq 202 [.one (.J 1 (b.map hY))] [.agg x.e]:=by
 obtain⟨c,ak,gH⟩:=Hs b aw;obtain⟨d1,x,cC,⟨aZ,bd⟩,bx⟩:=OJ b c ak;obtain⟨d2,f,cg,b0⟩:=Ax b d1 2 cC (by omega);cases f with
 | true=>
  have cZ:=DB x 300 (by omega) aZ.cW;have qh:=Pj x 300;exact⟨_,by omega,arU ⟨gH,bx,b0,rfl,cZ,aa⟩⟩
 | false=>exact⟨x,by omega,arV ⟨gH,bx,b0,rfl,aa⟩⟩
theorem avx(b:List Int)(aw:Bytes b):∃(x:aT) (m:Int),(wF x/\x.sz<=8400)/\aq 62 [.one (.J 1 (b.map hY))] [.agg x.e,.one (I m)]:=by
 obtain⟨c,ak,gH⟩:=Hs b aw;obtain⟨d1,x,cC,af,bx⟩:=OJ b c ak;obtain⟨d2,m,cg,_,b0⟩:=mu b d1 [300,300,20,1,0,-1] cC (by simp);exact⟨x,m,af,arT ⟨gH,bx,b0,aa⟩⟩
theorem avy(b:List Int)(aw:∀a∈b,(fun n=>0<=n/\n<=255) a):aq 8 [.one (.J 1 (b.map hY))] [.one (B true)]:=by
 by_cases E3:(b.length:Int)>1048576
 ·have:=UR (b.map hY) trivial;rw[lg (by simpa using E3)]at this;exact avz ⟨this,rfl,aa⟩
 have big:=UR (b.map hY) trivial;rw[oL (by simpa using E3)]at big;have sc:Bytes b:=⟨by omega,aw⟩
 obtain⟨g,xs,x,va,cW,dM,draw⟩:=avP b sc;obtain⟨d,j,P,T,e1,e2,al,iX,hj,u5,iJ⟩:=va.run;obtain⟨u,m,⟨Sd,aEi⟩,abE⟩:=avx b sc;obtain⟨v,⟨Se,aEj⟩,abF⟩:=avY b sc;obtain⟨y,aEk,abG⟩:=avw b sc;have ET:=YZ x 3000 (by omega) cW;have wO:=DB x 3000 (by omega) cW;have bd:=Pj x 3000;have Jk:=(avX x 3000).cW cW;rw[e1]at ET wO bd Jk;dsimp only at ET wO bd Jk;have aEg:=Pj u m;have aEh:=Gw v;have dT:=avt d (by omega) Jk;have kk:Gy d=false:=by
  unfold Gy;rw[ft];intro p hp;rw[iJ p hp];simp
 rw[kk]at dT;have QW:=Zk d (by omega);rw[avZ u5]at QW;have pn:=aAp d (by omega);rw[av0 u5]at pn;have yp:aq 70 [.one (.J 1 ((rT y).map bc)),.one (.J 1 ((rT y).map bc))] [.one (B true)]:=Oc (rT y) (mF (avT y) (by omega));exact avA ⟨big,rfl,draw,ET,wO,by simp,Od d (by omega),rfl,abE,YZ u m (by omega) Sd.cW,DB u m (by omega) Sd.cW,abF,YV v (by omega) Se.cW,avs v (by omega) Se.cW,arR ⟨abG,aa⟩,by simp,Od (jj u m).1 (by omega),rfl,by simp,Od (gG v).1 (by omega),rfl,dh (by omega),QW,rfl,pn,rfl,dT,rfl,Zk y (by omega),avS y (by omega),by simp,avW y (by omega),avV y (by omega),yp,aa⟩
