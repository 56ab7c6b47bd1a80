import Derived.Test.YthfnndblgbjniaaGreatP89
import Derived.Test.YthfnndblgbjniaaGreatP79
import Derived.Test.YthfnndblgbjniaaGreatGJ
set_option linter.unusedVariables false
set_option linter.unusedSimpArgs false
namespace Go.Proofs.YthfnndblgbjniaaGreat
open Go.Sx Go.RowKit Go.Proofs.Tryz
theorem Z3{P:kM}:∀(m:Nat) {S:Int} {c:aO} (k:Nat),Live P S c->S+44*m<=200000->Live P (S+44*m) (gK m c k).1/\fW P (gK m c k).1<=fW P c
 | 0,S,c,k,h,_=>⟨h.mono (by omega),fi _⟩
 | m+1,S,c,k,h,fF=>by
  obtain⟨_,Fx⟩:=PL (iz (fp.1 h.run.all.ok).1);have h1:Live P (S+44) (jf c).1:=(h.runs (fB c) (by omega)).mono (by omega);have sZ:fW P (jf c).1<=fW P c:=PM (fB c) h.run (by omega);unfold gK;split
  ·exact⟨h1.mono (by omega),sZ⟩
  obtain⟨U,LS⟩:=Z3 m (k+1) h1 (by omega);exact⟨U.mono (by omega),nD LS sZ⟩
theorem Grown.fair{g:bX}{xs:List az}{c:aO}(h:∃(P:kM) (S:Int),P.xs=xs/\Live P S c/\S<=50000/\fW P c<=xs.length*554)(ay:la g)(ag:∀r∈xs,Input r)(bI:xs.length<=5)(zo:c.au=g)(n:Int)(aW:n<=200):Grown g xs (lr c n).1:=by
 obtain⟨P,S,tV,h1,U,aA⟩:=h;have aw:(gd n 0 3000).toNat<=200:=by
  unfold gd;split<;>(try split)<;>(try split)<;>omega
 obtain⟨eX,nT⟩:=Z3 (gd n 0 3000).toNat 0 h1 (by omega);exact⟨ay,ag,bI,⟨P,_,tV,eX.mono (T:=60000) (by omega),by omega,nD nT aA⟩,(Im _ c 0).au.trans zo⟩
end Go.Proofs.YthfnndblgbjniaaGreat
namespace Go.Proofs.YthfnndblgbjniaaGreat
open Go.Sx Go.RowKit Go.Proofs.Tryz
theorem azo(b:List Int)(c:dY)(ai:c.ok b):∃(d:dY) (g:bX) (xs:List az) (x:aO),d.ok b/\Grown g xs x/\fE x/\x.sz<=8000/\b4 prog 53 [.cur (c.e b) (d.e b)] (.vals [.agg x.e]):=by
 obtain⟨d1,g,cy,ay,bC⟩:=Oj b c ai;obtain⟨d2,xs,ci,gY,gN,b2⟩:=Oi b d1 cy;obtain⟨d3,cz,cI,sZ,_,cg⟩:=UO b d2 40 (by omega) ci;obtain⟨d4,f,fs,eG⟩:=AS b d3 4 cI (by omega);have aW:=GR ay (by omega) gN;have ao:=ay.size;have bb:=Z9 aW;have nw:=Pv g xs (by omega);rw[HI aW]at nw;have db:=Pw g xs;have hY:=YN (eL g xs) cz (by omega) db;have qy:=DN cz (eL g xs);have JT:=(DO cz (eL g xs)).db db;have zo:=(DO cz (eL g xs)).au;obtain⟨P,tV,al⟩:=Live.new ay gN gY;subst tV;have B9:=aap aW gN;have c4:=al.runs cz (by omega);have SK:=nD (PM cz al.run (by omega)) B9;generalize dg (eL g P.xs) cz=o at*;cases f with
 | false=>exact⟨d4,g,P.xs,o.1,fs,⟨ay,gN,gY,⟨P,_,rfl,c4.mono (T:=60000) (by omega),by omega,SK⟩,zo⟩,JT,by omega,XT ⟨bC,b2,nw,Ie ⟨cg,hY,aa⟩,eG,rfl,aa⟩⟩
 | true=>
  obtain⟨d5,n,rO,aeq,km⟩:=ei b d4 12 fs (by omega);have cY:=Qc o.1 n (by omega) JT;have bz:=Grown.fair (g:=g) ⟨P,_,rfl,c4.mono (T:=50000) (by omega),by omega,SK⟩ ay gN gY zo n (by omega);have aw:(gd n 0 3000).toNat<=11:=by
   unfold gd;split<;>(try split)<;>(try split)<;>omega
  have S6:=Il (gd n 0 3000).toNat o.1 0;have ade:fE (lr o.1 n).1:=(Im (gd n 0 3000).toNat o.1 0).db JT;have aff:(lr o.1 n).1.sz<=8000:=by unfold lr;omega
  exact⟨d5,g,P.xs,(lr o.1 n).1,rO,bz,ade,aff,XS ⟨bC,b2,nw,Ie ⟨cg,hY,aa⟩,eG,rfl,XR ⟨km,cY,aa⟩,aa⟩⟩
theorem azp(b:List Int)(aw:Bytes b):∃(g:bX) (xs:List az) (x:aO),Grown g xs x/\fE x/\x.sz<=8000/\ar 20 [.one (.J 1 (b.map h6))] [.agg x.e]:=by
 obtain⟨c,ai,gw⟩:=GN b aw;obtain⟨d,g,xs,x,_,h1,U,aA,bC⟩:=azo b c ai;exact⟨g,xs,x,h1,U,aA,avJ ⟨gw,bC,aa⟩⟩
theorem Grown.run{g:bX}{xs:List az}{x:aO}(h:Grown g xs x):∃(d:aO) (j:Nat) (P:kM) (T:Int),lr x 3000=(d,j)/\j<3000/\Live P T d/\T<=200000/\d.au=x.au/\Jr d/\∀p∈fB d,(cX d p).2=false:=by
 obtain⟨P,S,tV,al,fF,B9⟩:=h.live;obtain⟨d,j,T,e⟩:=azn h.drawn h.input h.few tV al fF B9;exact⟨d,j,P,T,e⟩
end Go.Proofs.YthfnndblgbjniaaGreat
namespace Go.Proofs.YthfnndblgbjniaaGreat
open Go.Sx Go.RowKit Go.Proofs.Tryz
theorem azq{c:aO}(h:cx c=true):nH c:=by
 obtain⟨ay,_,_,_,_,al,_⟩:=fp.1 h;have aW:=iz ay;refine⟨⟨by omega,by omega⟩,fun l hm=>?_⟩;obtain⟨i,hi⟩:=List.getElem?_of_mem hm;obtain⟨k,_⟩:=oO.1 (Al al hi);obtain⟨cA,_,_,_,ke,_,k0,_⟩:=n4.1 k;simp only[ax,cj]at cA ke;exact⟨⟨by omega,by omega⟩,by omega⟩
theorem azr{S:Int}{c:aO}(h:iP S c)(fF:S<=200000)(ai:c.sz<=8388608):ar 8 [.agg c.e] [.one (B true)]:=by
 have:=WV c ai (azq h.ok);rwa[h.safe fF]at this
end Go.Proofs.YthfnndblgbjniaaGreat
namespace Go.Proofs.YthfnndblgbjniaaGreat
open Go.Sx Go.RowKit Go.Proofs.Tryz
theorem aO.aaN{c:aO}{k:Nat}(h:c.sz<=k){w:aK}(hw:w∈c.aq):w.sz<=k:=Du (sz:=aK.sz) (xs:=c.aq) (m:=k) (by simp only[aO.sz]at h;omega) hw
theorem azs(b:List Int)(aw:Bytes b):∃x:aO,(nH x/\x.sz<=8400)/\ar 5 [.one (.J 1 (b.map h6))] [.agg x.e]:=by
 obtain⟨c,ai,gw⟩:=GN b aw;obtain⟨d,x,_,ag,bC⟩:=Px b c ai;exact⟨x,ag,avL ⟨gw,bC,aa⟩⟩
theorem azt(b:List Int)(aw:Bytes b):∃(x:aO) (e:Int),x.sz<=8400/\ar 68 [.one (.J 1 (b.map h6))] [.agg x.e,.one (I e)]:=by
 obtain⟨c,ai,gw⟩:=GN b aw;obtain⟨d1,x,cy,⟨aW,bb⟩,bC⟩:=Px b c ai;obtain⟨d3,v,cI,bF,cg⟩:=ei b d1 6 cy (by omega);exact⟨x,v-1,bb,avE ⟨gw,bC,cg,⟨by omega,by omega⟩,aa⟩⟩
def mz(ws:List aK):Nat:=(ws.map fun w=>w.bM.length).sum
theorem azu{ws:List aK}{k:Nat}(h:∀w∈ws,w.sz<=k):mz ws<=ws.length*k:=
 Dy fun w hw=>by have:=h w hw;simp only[aK.sz]at this;omega
theorem Z4:∀{ws:List aK},mz ws≠0->∃x∈ws,x.bM≠[]
 | [],h=>absurd rfl h
 | w::ws,h=>by
  by_cases hw:w.bM=[]
  ·have bJ:mz ws≠0:=fun q=>h (by
    unfold mz at q ⊢;simp[hw,q])
   obtain⟨x,ag,k⟩:=Z4 bJ;exact⟨x,gE _ ag,k⟩
  exact⟨w,h2 ..,hw⟩
theorem azv{ws:List aK}{i:Nat}{w:aK}(h:ws[i]?=some w):mz (ws.take (i+1))=mz (ws.take i)+w.bM.length:=by
 unfold mz;rw[o4,h];simp
theorem ayW(x:aO)(bb:x.sz<=8000)(n:Nat)(aW:n<=8388608):
  c8 prog (ap f3 0) (zO (x.au.nodes.map Node.e) x.au.aq x.au.cap (x.aq.map aK.e) (x.bn.map bj.e) (x.tokens.map bQ.e) (x.news.map bT.e) 0 n) (.exit 0)
   (Ma (x.au.nodes.map Node.e) x.au.aq x.au.cap (x.aq.map aK.e) (x.bn.map bj.e) (x.tokens.map bQ.e) (x.news.map bT.e) ((n+mz x.aq:Nat):Int)):=by
 have ui:x.aq.length<=8000:=by
  have:=N3 (sz:=aK.sz) (xs:=x.aq) (m:=8000) (by simp only[aO.sz]at bb;omega);exact this
 have l:=er (P:=prog) (c:=(ap f3 0)) (cn 0) x.aq.length (fun i:Nat=>zO (x.au.nodes.map Node.e) x.au.aq x.au.cap (x.aq.map aK.e) (x.bn.map bj.e) (x.tokens.map bQ.e) (x.news.map bT.e) i ((n+mz (x.aq.take i):Nat):Int)) (fun i hi=>by
  obtain⟨a,ah⟩:=c5 hi;have ao:=azv ah;have aw:mz (x.aq.take i)<=(x.aq.take i).length*8000:=azu fun w hw=>aO.aaN bb (sl hw)
  have hS:(x.aq.take i).length<=i:=by rw[nC];omega
  have BO:mz (x.aq.take i)<=8000*8000:=nD aw (hI _ (by omega));have Fw:a.bM.length<=8000:=by
   have:=aO.aaN bb (cD ah);simp only[aK.sz]at this;omega
  have RW:((n+mz (x.aq.take (i+1)):Nat):Int)=((n+mz (x.aq.take i):Nat):Int)+((a.bM.map az.e).length:Int):=by
   rw[ao,b'];omega
  rw[RW];exact ay2 ⟨bV hi,bx,bH hi,bA aK.e ah,⟨by rw[b'];omega,by rw[b'];omega⟩,c0 hi (by omega),aa⟩) (ay3 ⟨dq,aa⟩)
 rw[jh]at l;exact l
def zM:bX:=⟨[⟨1,0,0,[]⟩],1,1⟩
theorem ayX:l9 zM []=true:=by decide +kernel
theorem ayY:yg (eL zM [])=true:=by decide +kernel
theorem ayZ:o9 [.agg [.J 4 [[I 1,I 0,I 0,.v (.slice none 0 0)]],I 1,I 1],.one (.v (.slice none 0 0))] [.agg zM.e,.one (.J 5 (([]:List az).map az.e))]:=
 .cons (.agg (.cons (.J 4 (.cons (.cons (.refl _) (.cons (.refl _) (.cons (.refl _) (.cons (.nil 1) .nil)))) .nil)) (lb.refl _))) (.cons (.one (.nil 5)) .nil)
theorem ay0(b:List Int)(aw:∀a∈b,(fun n=>0<=n/\n<=255) a):ar 3 [.one (.J 1 (b.map h6))] [.one (B true)]:=by
 by_cases Fy:(b.length:Int)>1048576
 ·have:=Z5 (b.map h6) trivial;rw[k' (by simpa using Fy)]at this;exact ay1 ⟨this,rfl,aa⟩
 have big:=Z5 (b.map h6) trivial;rw[o8 (by simpa using Fy)]at big;have qm:Bytes b:=⟨by omega,aw⟩
 obtain⟨c,⟨jN,aGP⟩,l1⟩:=azs b qm;obtain⟨x,e,aGR,acZ⟩:=ax8 b qm;have RU:=avK ⟨acZ,aa⟩;obtain⟨y,f,aGS,ac0⟩:=azt b qm;have RV:=avM ⟨avD ⟨ac0,aa⟩,aa⟩;obtain⟨g,xs,d,bz,db,aEz,qd⟩:=azp b qm;obtain⟨P,S,tV,al,fF,_⟩:=bz.live;have inv:=al.run.all;have vE:(nn d).length<=8388608:=Ns (by omega);have l:=ayW d aEz (nn d).length vE;have uc:(((nn d).map az.e).length:Int)=((nn d).length:Nat):=by simp
 have nw:=(Pv zM [] (by decide)).args ayZ;rw[HI ayX]at nw;have mV:=Qd (eL zM []) (by decide +kernel) (Pw zM []);rw[ayY]at mV;have iZ:=Xt d (by omega);have aaD:=azr inv (by omega) (by omega);have q1:=WV c (by omega) jN;have ie:=arj c (by omega) jN;have rT:=Nv x e (by omega);have Tv:=Nu x e (by omega);have Tw:=Ph y f (by omega);have Tx:=Pg y f (by omega);have Ty:=W1 c (by omega) jN;have Tz:=W0 c (by omega) jN;have TA:=W7 c (by omega) jN;have Ts:=W6 c (by omega) jN;have Tt:=Qd c (by omega) jN.db;have Tu:=axs c (by omega) jN.db;by_cases bJ:(nn d).length+mz d.aq=0
 ·have z:(((((nn d).length+mz d.aq:Nat):Int))==0)=true:=by rw[bJ];rfl
  exact ay4 ⟨big,rfl,l1,RU,RV,q1,ie,by simp,rT,Tv,by simp,Tw,Tx,by simp,Ty,Tz,by simp,TA,Ts,by simp,Tt,Tu,by simp,qd,iZ,uc▸l,nw,aaD,rfl,z,mV,aa⟩
 have z:(((((nn d).length+mz d.aq:Nat):Int))==0)=false:=by simp;omega
 have RP:=Qd d (by omega) db;rw[azd inv (by omega) (by
  by_cases h1:mz d.aq=0
  ·left;intro q;rw[Xs,q]at bJ;exact bJ (by rw[h1];rfl)
  exact .inr (Z4 h1))]at RP
 exact ay5 ⟨big,rfl,l1,RU,RV,q1,ie,by simp,rT,Tv,by simp,Tw,Tx,by simp,Ty,Tz,by simp,TA,Ts,by simp,Tt,Tu,by simp,qd,iZ,uc▸l,nw,aaD,rfl,z,RP,rfl,mV,aa⟩
