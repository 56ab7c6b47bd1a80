import Derived.Test.YtdchjefneblpgaaGreatP119
import Derived.Test.YtdchjefneblpgaaGreatGQ
set_option linter.unusedVariables false
set_option linter.unusedSimpArgs false
namespace Go.Proofs.YtdchjefneblpgaaGreat
open Go.Sx Go.RowKit Go.Proofs.Tryz
def k6(s:bD):Bool:=aW s.a8 0 3&&aW s.cD 0 6
def iO(k v:Int):Bool:=aW k 0 99&&aW v 0 999
def fZ(r:aA):Bool:=aW r.op 0 7&&k6 r.bc&&iO r.key r.val
def gI(s:bD):bD×Bool:=if k6 s&&decide (s.cD<6) then (⟨s.a8,s.cD+1⟩,true) else (s,false)
def less(a b:Int):Int:=if b<a then b else a
def ez(x:Node):Bool:=
 if x.kind=2 then aW x.a 0 999&&x.b==0
 else if x.kind=3 then aW x.a 1 10&&aW x.b 0 (IntKind.i64.wrap (x.a-1))
 else if x.kind=4 then aW x.a 0 99&&x.b==0
 else aW x.kind 1 8&&x.a==0&&x.b==0
def qf(l:List Int):Bool:=!(l.any fun k=>!aW k 0 7)
def fj(l:List Int):Bool:=decide (l.length=2/\l[0]?=l[1]?)
def bM(x:Node):Bool:=ez x&&decide (x.outs.length<=2)&&!(x.kind==8&&decide (0<x.outs.length))&&!fj x.outs&&qf x.outs
theorem look{α:Type}{xs:List α}{i:Int}(bm:0<=i)(h1:i<xs.length):∃a,xs[i.toNat]?=some a:=dv (by omega)
theorem eP{α:Type}{xs:List α}{i:Nat}{a:α}(f:α->List D)(h:xs[i]?=some a):(xs.map f)[i]?=some (f a):=by simp[h]
theorem uz(x:Node)(aa:x.outs.length<=2):((qf x.outs&&!fj x.outs)=false/\dd prog (az f243 0) (h5 x.kind x.a x.b (x.outs.map cv) 0) .ret (qz false))\/((qf x.outs&&!fj x.outs)=true/\dd prog (az f243 0) (h5 x.kind x.a x.b (x.outs.map cv) 0) (.exit 1) rE):=by
 obtain⟨Of,a,b,outs⟩:=x;have cl:=fun k=>iN k 0 7
 match outs,aa with
 | [],_=>exact .inr ⟨rfl,.last (cL 1) (Kc ⟨rfl,aj⟩)⟩
 | [k],_=>
  cases h1:aW k 0 7 with
  | false=>exact .inl ⟨by simp[qf,h1],.last hd (Kb ⟨rfl,by omega,by simp,rfl,cl k,by rw[h1];rfl,aj⟩)⟩
  | true=>
   refine .inr ⟨by simp[qf,fj,h1],.more (RO ⟨rfl,by omega,by simp,rfl,cl k,by rw[h1];rfl,rfl,⟨by omega,by omega⟩,aj⟩) (.last (cL 1) (Kc ⟨rfl,aj⟩))⟩
 | [k,m],_=>
  cases h1:aW k 0 7 with
  | false=>exact .inl ⟨by simp[qf,h1],.last hd (Kb ⟨rfl,by omega,by simp,rfl,cl k,by rw[h1];rfl,aj⟩)⟩
  | true=>
   have first:fP prog (az f243 0) (h5 Of a b ([k,m].map cv) 0) .normal (h5 Of a b ([k,m].map cv) (0+1)):=RO ⟨rfl,by omega,by simp,rfl,cl k,by rw[h1];rfl,rfl,⟨by omega,by omega⟩,aj⟩
   cases U:aW m 0 7 with
   | false=>exact .inl ⟨by simp[qf,h1,U],.more first (.last hd (Kb ⟨rfl,by omega,by simp,rfl,cl m,by rw[U];rfl,aj⟩))⟩
   | true=>
    cases au:(k==m) with
    | true=>exact .inl ⟨by simp[qf,fj,h1,U]at au ⊢;exact au,.more first (.last hd (aba ⟨rfl,by omega,by simp,rfl,cl m,by rw[U];rfl,rfl,by omega,by simp,rfl,by omega,by simp,rfl,au,aj⟩))⟩
    | false=>exact .inr ⟨by simp[qf,fj,h1,U]at au ⊢;exact au,.more first (.more (abb ⟨rfl,by omega,by simp,rfl,cl m,by rw[U];rfl,rfl,by omega,by simp,rfl,by omega,by simp,rfl,au,⟨by omega,by omega⟩,aj⟩) (.last (cL 1) (Kc ⟨rfl,aj⟩)))⟩
theorem RP(s:bD):aK 244 [.agg s.e] [.one (B (k6 s))]:=by
 have c1:=iN s.a8 0 3;cases U:(aW s.a8 0 3) with
 | true=>
  have eb:=iN s.cD 0 6;rw[show k6 s=aW s.cD 0 6 from by grind[k6]];exact Z1 ⟨c1,U,eb,aj⟩
 | false=>
  rw[show k6 s=false from by grind[k6]];exact Z2 ⟨c1,U,aj⟩
theorem s0(r:aA):aK 122 [.agg r.e] [.one (B (fZ r))]:=by
 have c1:=iN r.op 0 7;cases U:(aW r.op 0 7) with
 | true=>
  have eb:=RP r.bc;cases aH:(k6 r.bc) with
  | true=>
   have ll:=iN r.key 0 99;cases br:(aW r.key 0 99) with
   | true=>
    have Wo:=iN r.val 0 999;rw[show fZ r=aW r.val 0 999 from by grind[fZ,iO]];exact ZX ⟨c1,U,eb,aH,ll,br,Wo,aj⟩
   | false=>
    rw[show fZ r=false from by grind[fZ,iO]];exact ZY ⟨c1,U,eb,aH,ll,br,aj⟩
  | false=>
   rw[show fZ r=false from by grind[fZ,iO]];exact ZZ ⟨c1,U,eb,aH,aj⟩
 | false=>
  rw[show fZ r=false from by grind[fZ,iO]];exact Z0 ⟨c1,U,aj⟩
theorem yb(s:bD):aK 270 [.agg s.e] [.agg ((gI s).1).e,.one (B ((gI s).2))]:=by
 have c1:=RP s;cases U:(k6 s) with
 | true=>
  cases au:(decide (s.cD>=6)) with
  | true=>
   rw[show gI s=(s,false) from by grind[gI,k6,aW]];exact Z4 ⟨c1,(by rw[U];rfl),au,aj⟩
  | false=>
   rw[show gI s=((⟨s.a8,s.cD+1⟩:bD),true) from by grind[gI,k6,aW]];exact Zv ⟨c1,(by rw[U];rfl),au,(by grind[k6,aW,bf]),aj⟩
 | false=>
  rw[show gI s=(s,false) from by grind[gI,k6,aW]];exact Z3 ⟨c1,(by rw[U];rfl),aj⟩
theorem aaR(a b:Int):aK 323 [.one (I a),.one (I b)] [.one (I (less a b))]:=by
 cases h1:(decide (b<a)) with
 | true=>
  rw[show less a b=b from by grind[less]];exact ZD ⟨h1,aj⟩
 | false=>
  rw[show less a b=a from by grind[less]];exact ZE ⟨h1,aj⟩
theorem RQ(x:Node)(aa:x.outs.length<=8388608):aK 243 [.agg x.e] [.one (B (bM x))]:=by
 cases h1:(x.kind==2) with
 | true=>
  have c2:=iN x.a 0 999;have eb:=iN x.kind 1 8;cases aH:(aW x.kind 1 8) with
  | true=>
   cases ba:(aW x.a 0 999) with
   | true=>
    cases br:(x.b==0) with
    | true=>
     cases b7:(decide ((↑(x.outs.map cv).length:Int)>2)) with
     | true=>
      rw[show bM x=false from by grind[bM,ez,fj,aW]];exact aa8 ⟨h1,c2,eb,(by rw[aH];rfl),(by rw[ba];rfl),(by rw[br];rfl),b7,aj⟩
     | false=>
      cases dV:(x.kind==8) with
      | true=>
       cases e5:(decide ((↑(x.outs.map cv).length:Int)>0)) with
       | true=>
        rw[show bM x=false from by grind[bM,ez,fj,aW]];exact aa9 ⟨h1,c2,eb,(by rw[aH];rfl),(by rw[ba];rfl),(by rw[br];rfl),b7,dV,e5,aj⟩
       | false=>
        rcases uz x (by grind) with⟨fv,l⟩ | ⟨fv,l⟩
        ·skip
         rw[show bM x=false from by grind[bM,ez,fj,aW]];exact abd ⟨h1,c2,eb,(by rw[aH];rfl),(by rw[ba];rfl),(by rw[br];rfl),b7,dV,e5,l,aj⟩
        skip
        rw[show bM x=true from by grind[bM,ez,fj,aW]];exact abe ⟨h1,c2,eb,(by rw[aH];rfl),(by rw[ba];rfl),(by rw[br];rfl),b7,dV,e5,l,aj⟩
      | false=>
       rcases uz x (by grind) with⟨fv,l⟩ | ⟨fv,l⟩
       ·skip
        rw[show bM x=false from by grind[bM,ez,fj,aW]];exact abf ⟨h1,c2,eb,(by rw[aH];rfl),(by rw[ba];rfl),(by rw[br];rfl),b7,dV,l,aj⟩
       skip
       rw[show bM x=true from by grind[bM,ez,fj,aW]];exact abg ⟨h1,c2,eb,(by rw[aH];rfl),(by rw[ba];rfl),(by rw[br];rfl),b7,dV,l,aj⟩
    | false=>
     rw[show bM x=false from by grind[bM,ez,fj,aW]];exact aa7 ⟨h1,c2,eb,(by rw[aH];rfl),(by rw[ba];rfl),(by rw[br];rfl),aj⟩
   | false=>
    rw[show bM x=false from by grind[bM,ez,fj,aW]];exact aa6 ⟨h1,c2,eb,(by rw[aH];rfl),(by rw[ba];rfl),aj⟩
  | false=>
   rw[show bM x=false from by grind[bM,ez,fj,aW]];exact aa5 ⟨h1,c2,eb,(by rw[aH];rfl),aj⟩
 | false=>
  cases ek:(x.kind==3) with
  | true=>
   have r9:=iN x.a 1 10;have ob:=iN x.b 0 (IntKind.i64.wrap (x.a-1));have o2:=iN x.kind 1 8;cases lo:(aW x.kind 1 8) with
   | true=>
    cases oc:(aW x.a 1 10) with
    | true=>
     cases vk:(aW x.b 0 (IntKind.i64.wrap (x.a-1))) with
     | true=>
      cases qZ:(decide ((↑(x.outs.map cv).length:Int)>2)) with
      | true=>
       rw[show bM x=false from by grind[bM,ez,fj,aW]];exact abk ⟨h1,ek,r9,ob,o2,(by rw[lo];rfl),(by rw[oc];rfl),(by rw[vk];rfl),qZ,aj⟩
      | false=>
       cases mz:(x.kind==8) with
       | true=>
        cases Gt:(decide ((↑(x.outs.map cv).length:Int)>0)) with
        | true=>
         rw[show bM x=false from by grind[bM,ez,fj,aW]];exact abl ⟨h1,ek,r9,ob,o2,(by rw[lo];rfl),(by rw[oc];rfl),(by rw[vk];rfl),qZ,mz,Gt,aj⟩
        | false=>
         rcases uz x (by grind) with⟨fv,l⟩ | ⟨fv,l⟩
         ·skip
          rw[show bM x=false from by grind[bM,ez,fj,aW]];exact abm ⟨h1,ek,r9,ob,o2,(by rw[lo];rfl),(by rw[oc];rfl),(by rw[vk];rfl),qZ,mz,Gt,l,aj⟩
         skip
         rw[show bM x=true from by grind[bM,ez,fj,aW]];exact abn ⟨h1,ek,r9,ob,o2,(by rw[lo];rfl),(by rw[oc];rfl),(by rw[vk];rfl),qZ,mz,Gt,l,aj⟩
       | false=>
        rcases uz x (by grind) with⟨fv,l⟩ | ⟨fv,l⟩
        ·skip
         rw[show bM x=false from by grind[bM,ez,fj,aW]];exact abo ⟨h1,ek,r9,ob,o2,(by rw[lo];rfl),(by rw[oc];rfl),(by rw[vk];rfl),qZ,mz,l,aj⟩
        skip
        rw[show bM x=true from by grind[bM,ez,fj,aW]];exact abp ⟨h1,ek,r9,ob,o2,(by rw[lo];rfl),(by rw[oc];rfl),(by rw[vk];rfl),qZ,mz,l,aj⟩
     | false=>
      rw[show bM x=false from by grind[bM,ez,fj,aW]];exact abj ⟨h1,ek,r9,ob,o2,(by rw[lo];rfl),(by rw[oc];rfl),(by rw[vk];rfl),aj⟩
    | false=>
     rw[show bM x=false from by grind[bM,ez,fj,aW]];exact abi ⟨h1,ek,r9,ob,o2,(by rw[lo];rfl),(by rw[oc];rfl),aj⟩
   | false=>
    rw[show bM x=false from by grind[bM,ez,fj,aW]];exact abh ⟨h1,ek,r9,ob,o2,(by rw[lo];rfl),aj⟩
  | false=>
   cases hr:(x.kind==4) with
   | true=>
    have nq:=iN x.a 0 99;have r':=iN x.kind 1 8;cases nv:(aW x.kind 1 8) with
    | true=>
     cases tF:(aW x.a 0 99) with
     | true=>
      cases pT:(x.b==0) with
      | true=>
       cases pU:(decide ((↑(x.outs.map cv).length:Int)>2)) with
       | true=>
        rw[show bM x=false from by grind[bM,ez,fj,aW]];exact abu ⟨h1,ek,hr,nq,r',(by rw[nv];rfl),(by rw[tF];rfl),(by rw[pT];rfl),pU,aj⟩
       | false=>
        cases zz:(x.kind==8) with
        | true=>
         cases vl:(decide ((↑(x.outs.map cv).length:Int)>0)) with
         | true=>
          rw[show bM x=false from by grind[bM,ez,fj,aW]];exact abv ⟨h1,ek,hr,nq,r',(by rw[nv];rfl),(by rw[tF];rfl),(by rw[pT];rfl),pU,zz,vl,aj⟩
         | false=>
          rcases uz x (by grind) with⟨fv,l⟩ | ⟨fv,l⟩
          ·skip
           rw[show bM x=false from by grind[bM,ez,fj,aW]];exact abw ⟨h1,ek,hr,nq,r',(by rw[nv];rfl),(by rw[tF];rfl),(by rw[pT];rfl),pU,zz,vl,l,aj⟩
          skip
          rw[show bM x=true from by grind[bM,ez,fj,aW]];exact aaF ⟨h1,ek,hr,nq,r',(by rw[nv];rfl),(by rw[tF];rfl),(by rw[pT];rfl),pU,zz,vl,l,aj⟩
        | false=>
         rcases uz x (by grind) with⟨fv,l⟩ | ⟨fv,l⟩
         ·skip
          rw[show bM x=false from by grind[bM,ez,fj,aW]];exact aaG ⟨h1,ek,hr,nq,r',(by rw[nv];rfl),(by rw[tF];rfl),(by rw[pT];rfl),pU,zz,l,aj⟩
         skip
         rw[show bM x=true from by grind[bM,ez,fj,aW]];exact aaH ⟨h1,ek,hr,nq,r',(by rw[nv];rfl),(by rw[tF];rfl),(by rw[pT];rfl),pU,zz,l,aj⟩
      | false=>
       rw[show bM x=false from by grind[bM,ez,fj,aW]];exact abt ⟨h1,ek,hr,nq,r',(by rw[nv];rfl),(by rw[tF];rfl),(by rw[pT];rfl),aj⟩
     | false=>
      rw[show bM x=false from by grind[bM,ez,fj,aW]];exact abr ⟨h1,ek,hr,nq,r',(by rw[nv];rfl),(by rw[tF];rfl),aj⟩
    | false=>
     rw[show bM x=false from by grind[bM,ez,fj,aW]];exact abq ⟨h1,ek,hr,nq,r',(by rw[nv];rfl),aj⟩
   | false=>
    have sa:=iN x.kind 1 8;cases sl:(aW x.kind 1 8) with
    | true=>
     cases tG:(x.a==0) with
     | true=>
      cases vm:(x.b==0) with
      | true=>
       cases xx:(decide ((↑(x.outs.map cv).length:Int)>2)) with
       | true=>
        rw[show bM x=false from by grind[bM,ez,fj,aW]];exact aaL ⟨h1,ek,hr,sa,(by rw[sl];rfl),(by rw[tG];rfl),(by rw[vm];rfl),xx,aj⟩
       | false=>
        cases zA:(x.kind==8) with
        | true=>
         cases Gu:(decide ((↑(x.outs.map cv).length:Int)>0)) with
         | true=>
          rw[show bM x=false from by grind[bM,ez,fj,aW]];exact aaM ⟨h1,ek,hr,sa,(by rw[sl];rfl),(by rw[tG];rfl),(by rw[vm];rfl),xx,zA,Gu,aj⟩
         | false=>
          rcases uz x (by grind) with⟨fv,l⟩ | ⟨fv,l⟩
          ·skip
           rw[show bM x=false from by grind[bM,ez,fj,aW]];exact aaN ⟨h1,ek,hr,sa,(by rw[sl];rfl),(by rw[tG];rfl),(by rw[vm];rfl),xx,zA,Gu,l,aj⟩
          skip
          rw[show bM x=true from by grind[bM,ez,fj,aW]];exact aaO ⟨h1,ek,hr,sa,(by rw[sl];rfl),(by rw[tG];rfl),(by rw[vm];rfl),xx,zA,Gu,l,aj⟩
        | false=>
         rcases uz x (by grind) with⟨fv,l⟩ | ⟨fv,l⟩
         ·skip
          rw[show bM x=false from by grind[bM,ez,fj,aW]];exact aaP ⟨h1,ek,hr,sa,(by rw[sl];rfl),(by rw[tG];rfl),(by rw[vm];rfl),xx,zA,l,aj⟩
         skip
         rw[show bM x=true from by grind[bM,ez,fj,aW]];exact aaQ ⟨h1,ek,hr,sa,(by rw[sl];rfl),(by rw[tG];rfl),(by rw[vm];rfl),xx,zA,l,aj⟩
      | false=>
       rw[show bM x=false from by grind[bM,ez,fj,aW]];exact aaK ⟨h1,ek,hr,sa,(by rw[sl];rfl),(by rw[tG];rfl),(by rw[vm];rfl),aj⟩
     | false=>
      rw[show bM x=false from by grind[bM,ez,fj,aW]];exact aaJ ⟨h1,ek,hr,sa,(by rw[sl];rfl),(by rw[tG];rfl),aj⟩
    | false=>
     rw[show bM x=false from by grind[bM,ez,fj,aW]];exact aaI ⟨h1,ek,hr,sa,(by rw[sl];rfl),aj⟩
end Go.Proofs.YtdchjefneblpgaaGreat
namespace Go.Proofs.YtdchjefneblpgaaGreat
open Go.Sx Go.RowKit Go.Proofs.Tryz
def nR(g:bW)(k:Int):Int:=match g.nodes[k.toNat]? with | some y=>y.kind | none=>0
def k7(g:bW)(i:Nat)(x:Node)(k:Int):Bool:=
 decide ((g.nodes.length:Int)<=k)||(if x.kind=7 then decide ((i:Int)<k)||(nR g k != 5&&nR g k != 6) else decide (k<=i))
def l9(g:bW)(i:Nat)(x:Node):Bool:=!bM x||(decide (x.kind=1) != decide ((i:Int)=0))||x.outs.any (k7 g i x)
def fa(g:bW):Bool:=aW g.nodes.length 1 8&&aW g.ap 1 4&&aW g.cap 1 4&&!(anyI (l9 g) 0 g.nodes)
def dc(x:Node)(k v:Int):Int×Int×Bool:=
 if bM x&&iO k v then
  if x.kind=2 then (k,less (v+x.a) 999,true)
  else if x.kind=4 then ((k+x.a).tmod 100,v,true)
  else if x.kind=3 then (k,v,k.tmod x.a==x.b)
  else (k,v,x.kind != 8)
 else (k,v,false)
theorem RR{l:List Int}(h:qf l=true){k:Int}(hk:k∈l):aW k 0 7=true:=by
 simp only[qf,fr,eW]at h;simpa using h k hk
theorem RS(g:bW)(ao:g.sz<=8388608)(i:Nat)(hi:i<8)(x:Node)(aa:g.nodes[i]?=some x)(bH:bM x=true)(j:Nat)(k:Int)(hk:x.outs[j]?=some k)(r:Bool)(ar:k7 g i x k=r):fP prog (az f121 1) (im i (g.nodes.map Node.e) g.ap g.cap x.kind x.a x.b (x.outs.map cv) (j:Int)) (bif r then .ret else .normal) (bif r then rD false else im i (g.nodes.map Node.e) g.ap g.cap x.kind x.a x.b (x.outs.map cv) ((j+1:Nat):Int)):=by
 have aM:=bh hk;have af:x.outs.length<=2:=by grind[bM]
 have oj:aW k 0 7=true:=RR (by grind[bM]) (c8 hk);have fx:x.outs[(j:Int).toNat]?=some k:=by simpa using hk
 have g':decide ((j:Int)<(↑(x.outs.map cv).length:Int))=true:=cg aM;rcases dN (decide (k>=(↑(g.nodes.map Node.e).length:Int))) with h1 | h1
 ·skip
  obtain rfl:r=true:=by rw[<-ar];grind[k7,nR,aW]
  exact ZF ⟨g',(by grind[aW,bf,bM]),(by grind[aW,bf,bM]),(eP cv fx),h1,aj⟩
 skip
 rcases dN (x.kind != 7) with U | U
 ·skip
  rcases dN (decide (k<=(i:Int))) with au | au
  ·skip
   obtain rfl:r=true:=by rw[<-ar];grind[k7,nR,aW]
   exact ZG ⟨g',(by grind[aW,bf,bM]),(by grind[aW,bf,bM]),(eP cv fx),h1,U,au,aj⟩
  skip
  obtain⟨V5,Ac⟩:=look (xs:=g.nodes) (i:=k) (by grind[aW,bf,bM]) (by grind[aW,bf,bM]);rcases dN (x.kind==7) with ba | ba
  ·skip
   rcases dN (decide (k>(i:Int))) with br | br
   ·skip
    obtain rfl:r=true:=by rw[<-ar];grind[k7,nR,aW]
    exact ZH ⟨g',(by grind[aW,bf,bM]),(by grind[aW,bf,bM]),(eP cv fx),h1,U,au,(by grind[aW,bf,bM]),(by grind[aW,bf,bM]),(eP Node.e Ac),ba,br,aj⟩
   skip
   rcases dN (V5.kind != 5) with b7 | b7
   ·skip
    rcases dN (V5.kind != 6) with dV | dV
    ·skip
     obtain rfl:r=true:=by rw[<-ar];grind[k7,nR,aW]
     exact ZI ⟨g',(by grind[aW,bf,bM]),(by grind[aW,bf,bM]),(eP cv fx),h1,U,au,(by grind[aW,bf,bM]),(by grind[aW,bf,bM]),(eP Node.e Ac),ba,br,b7,dV,aj⟩
    skip
    obtain rfl:r=false:=by rw[<-ar];grind[k7,nR,aW]
    exact ZJ ⟨g',(by grind[aW,bf,bM]),(by grind[aW,bf,bM]),(eP cv fx),h1,U,au,(by grind[aW,bf,bM]),(by grind[aW,bf,bM]),(eP Node.e Ac),ba,br,b7,dV,(by grind[aW,bf,bM]),aj⟩
   skip
   obtain rfl:r=false:=by rw[<-ar];grind[k7,nR,aW]
   exact ZK ⟨g',(by grind[aW,bf,bM]),(by grind[aW,bf,bM]),(eP cv fx),h1,U,au,(by grind[aW,bf,bM]),(by grind[aW,bf,bM]),(eP Node.e Ac),ba,br,b7,(by grind[aW,bf,bM]),aj⟩
  skip
  obtain rfl:r=false:=by rw[<-ar];grind[k7,nR,aW]
  exact ZL ⟨g',(by grind[aW,bf,bM]),(by grind[aW,bf,bM]),(eP cv fx),h1,U,au,(by grind[aW,bf,bM]),(by grind[aW,bf,bM]),(eP Node.e Ac),ba,(by grind[aW,bf,bM]),aj⟩
 skip
 obtain⟨V6,Ad⟩:=look (xs:=g.nodes) (i:=k) (by grind[aW,bf,bM]) (by grind[aW,bf,bM]);rcases dN (x.kind==7) with ek | ek
 ·skip
  rcases dN (decide (k>(i:Int))) with ln | ln
  ·skip
   obtain rfl:r=true:=by rw[<-ar];grind[k7,nR,aW]
   exact ZM ⟨g',(by grind[aW,bf,bM]),(by grind[aW,bf,bM]),(eP cv fx),h1,U,(by grind[aW,bf,bM]),(by grind[aW,bf,bM]),(eP Node.e Ad),ek,ln,aj⟩
  skip
  rcases dN (V6.kind != 5) with sk | sk
  ·skip
   rcases dN (V6.kind != 6) with tE | tE
   ·skip
    obtain rfl:r=true:=by rw[<-ar];grind[k7,nR,aW]
    exact ZN ⟨g',(by grind[aW,bf,bM]),(by grind[aW,bf,bM]),(eP cv fx),h1,U,(by grind[aW,bf,bM]),(by grind[aW,bf,bM]),(eP Node.e Ad),ek,ln,sk,tE,aj⟩
   skip
   obtain rfl:r=false:=by rw[<-ar];grind[k7,nR,aW]
   exact ZO ⟨g',(by grind[aW,bf,bM]),(by grind[aW,bf,bM]),(eP cv fx),h1,U,(by grind[aW,bf,bM]),(by grind[aW,bf,bM]),(eP Node.e Ad),ek,ln,sk,tE,(by grind[aW,bf,bM]),aj⟩
  skip
  obtain rfl:r=false:=by rw[<-ar];grind[k7,nR,aW]
  exact ZP ⟨g',(by grind[aW,bf,bM]),(by grind[aW,bf,bM]),(eP cv fx),h1,U,(by grind[aW,bf,bM]),(by grind[aW,bf,bM]),(eP Node.e Ad),ek,ln,sk,(by grind[aW,bf,bM]),aj⟩
 skip
 obtain rfl:r=false:=by rw[<-ar];grind[k7,nR,aW]
 exact ZQ ⟨g',(by grind[aW,bf,bM]),(by grind[aW,bf,bM]),(eP cv fx),h1,U,(by grind[aW,bf,bM]),(by grind[aW,bf,bM]),(eP Node.e Ad),ek,(by grind[aW,bf,bM]),aj⟩
theorem aaS(g:bW)(ao:g.sz<=8388608)(i:Nat)(hi:i<8)(x:Node)(aa:g.nodes[i]?=some x)(bH:bM x=true):
  (x.outs.any (k7 g i x)=true/\dd prog (az f121 1) (im i (g.nodes.map Node.e) g.ap g.cap x.kind x.a x.b (x.outs.map cv) 0) .ret (rD false))\/(x.outs.any (k7 g i x)=false/\dd prog (az f121 1) (im i (g.nodes.map Node.e) g.ap g.cap x.kind x.a x.b (x.outs.map cv) 0) (.exit 2) (J' i (g.nodes.map Node.e) g.ap g.cap)):=by
 have l:=jb (P:=prog) (c:=(az f121 1)) x.outs (k7 g i x) (fun j=>im i (g.nodes.map Node.e) g.ap g.cap x.kind x.a x.b (x.outs.map cv) j) (X:=fun _ _=>rD false) hd (cL 2)
  (fun j k hk h=>RS g ao i hi x aa bH j k hk false h)
  (fun j k hk h=>RS g ao i hi x aa bH j k hk true h)
  (ZR ⟨dH,aj⟩)
 rcases l with⟨_,_,h1,U⟩ | ⟨j,k,_,_,_,_,h1,U⟩
 ·exact .inr ⟨h1,U⟩
 exact .inl ⟨h1,U⟩
theorem RT(g:bW)(ao:g.sz<=8388608)(i:Nat)(hi:i<8)(x:Node)(aa:g.nodes[i]?=some x)(r:Bool)(ar:l9 g i x=r):fP prog (az f121 0) (oQ ((i:Nat):Int) (g.nodes.map Node.e) g.ap g.cap) (bif r then .ret else .normal) (bif r then v7 false else oQ ((i+1:Nat):Int) (g.nodes.map Node.e) g.ap g.cap):=by
 have aM:=bh aa;have aN:=bW.H2 ao (c8 aa);have fx:g.nodes[(i:Int).toNat]?=some x:=by simpa using aa
 have g':decide ((i:Int)<(↑(g.nodes.map Node.e).length:Int))=true:=cg aM;have c1:=RQ x (by grind);rcases dN (bM x) with U | U
 ·skip
  rcases dN ((x.kind==1)==((i:Int)==0)) with au | au
  ·skip
   rcases aaS g ao i hi x aa (by grind) with⟨fv,l⟩ | ⟨fv,l⟩
   ·skip
    obtain rfl:r=true:=by rw[<-ar];grind[l9]
    exact ZS ⟨g',(by grind[aW,bf,bM]),(by grind[aW,bf,bM]),(eP Node.e fx),c1,(by rw[U];rfl),(by rw[au];rfl),l,aj⟩
   skip
   obtain rfl:r=false:=by rw[<-ar];grind[l9]
   exact ZT ⟨g',(by grind[aW,bf,bM]),(by grind[aW,bf,bM]),(eP Node.e fx),c1,(by rw[U];rfl),(by rw[au];rfl),l,(by grind[aW,bf,bM]),aj⟩
  skip
  obtain rfl:r=true:=by rw[<-ar];grind[l9]
  exact aau ⟨g',(by grind[aW,bf,bM]),(by grind[aW,bf,bM]),(eP Node.e fx),c1,(by rw[U];rfl),(by rw[au];rfl),aj⟩
 skip
 obtain rfl:r=true:=by rw[<-ar];grind[l9]
 exact aat ⟨g',(by grind[aW,bf,bM]),(by grind[aW,bf,bM]),(eP Node.e fx),c1,(by rw[U];rfl),aj⟩
theorem aaT(g:bW)(ao:g.sz<=8388608)(dV:g.nodes.length<=8):
  (anyI (l9 g) 0 g.nodes=true/\dd prog (az f121 0) (oQ 0 (g.nodes.map Node.e) g.ap g.cap) .ret (v7 false))\/(anyI (l9 g) 0 g.nodes=false/\dd prog (az f121 0) (oQ 0 (g.nodes.map Node.e) g.ap g.cap) (.exit 0) Ka):=by
 have l:=EN (P:=prog) (c:=(az f121 0)) g.nodes (l9 g) (fun i=>oQ (i:Nat) (g.nodes.map Node.e) g.ap g.cap) (X:=v7 false) hd (cL 0)
  (fun i x aa h=>RT g ao i (by have:=bh aa;omega) x aa false h)
  (fun i x aa h=>RT g ao i (by have:=bh aa;omega) x aa true h)
  (ZU ⟨dH,aj⟩)
 rcases l with⟨h1,U⟩ | ⟨h1,U⟩
 ·exact .inr ⟨h1,U⟩
 exact .inl ⟨h1,U⟩
theorem yc(g:bW)(ao:g.sz<=8388608):aK 121 [.agg g.e] [.one (B (fa g))]:=by
 have c1:=iN (↑(g.nodes.map Node.e).length:Int) 1 8;rcases dN (aW (↑(g.nodes.map Node.e).length:Int) 1 8) with U | U
 ·skip
  have eb:=iN g.ap 1 4;rcases dN (aW g.ap 1 4) with aH | aH
  ·skip
   have ll:=iN g.cap 1 4;rcases dN (aW g.cap 1 4) with br | br
   ·skip
    rcases aaT g ao (by grind[aW]) with⟨fv,l⟩ | ⟨fv,l⟩
    ·skip
     rw[show fa g=false from by grind[fa]];exact ZV ⟨c1,(by rw[U];rfl),eb,(by rw[aH];rfl),ll,(by rw[br];rfl),l,aj⟩
    skip
    rw[show fa g=true from by grind[fa]];exact ZW ⟨c1,(by rw[U];rfl),eb,(by rw[aH];rfl),ll,(by rw[br];rfl),l,aj⟩
   skip
   rw[show fa g=false from by grind[fa]];exact aas ⟨c1,(by rw[U];rfl),eb,(by rw[aH];rfl),ll,(by rw[br];rfl),aj⟩
  skip
  rw[show fa g=false from by grind[fa]];exact aar ⟨c1,(by rw[U];rfl),eb,(by rw[aH];rfl),aj⟩
 skip
 rw[show fa g=false from by grind[fa]];exact aaq ⟨c1,(by rw[U];rfl),aj⟩
theorem aaU(x:Node)(k v:Int)(aa:x.outs.length<=8388608):aK 267 [.agg x.e,.one (I k),.one (I v)] [.one (I ((dc x k v).1)),.one (I ((dc x k v).2.1)),.one (B ((dc x k v).2.2))]:=by
 have c1:=RQ x (by grind);rcases dN (bM x) with U | U
 ·skip
  have eb:=iN k 0 99;rcases dN (aW k 0 99) with aH | aH
  ·skip
   have ll:=iN v 0 999;rcases dN (aW v 0 999) with br | br
   ·skip
    rcases dN (x.kind==2) with b7 | b7
    ·skip
     have sb:=aaR (v+x.a) 999;rw[show dc x k v=(k,less (v+x.a) 999,true) from by grind[dc,iO,less,bM,ez]];exact Zz ⟨c1,(by rw[U];rfl),eb,(by rw[aH];rfl),ll,(by rw[br];rfl),b7,(by grind[bM,ez,aW,bf,iO]),sb,aj⟩
    skip
    rcases dN (x.kind==4) with e5 | e5
    ·skip
     rw[show dc x k v=((k+x.a).tmod 100,v,true) from by grind[dc,iO,less,bM,ez]];exact ZA ⟨c1,(by rw[U];rfl),eb,(by rw[aH];rfl),ll,(by rw[br];rfl),b7,e5,(by grind[bM,ez,aW,bf,iO]),(by grind[bM,ez,aW,bf,iO]),aj⟩
    skip
    rcases dN (x.kind==3) with ek | ek
    ·skip
     rw[show dc x k v=(k,v,k.tmod x.a==x.b) from by grind[dc,iO,less,bM,ez]];exact ZB ⟨c1,(by rw[U];rfl),eb,(by rw[aH];rfl),ll,(by rw[br];rfl),b7,e5,ek,(by grind[bM,ez,aW,bf,iO]),aj⟩
    skip
    rw[show dc x k v=(k,v,x.kind != 8) from by grind[dc,iO,less,bM,ez]];exact ZC ⟨c1,(by rw[U];rfl),eb,(by rw[aH];rfl),ll,(by rw[br];rfl),b7,e5,ek,aj⟩
   skip
   rw[show dc x k v=(k,v,false) from by grind[dc,iO,less,bM,ez]];exact Zy ⟨c1,(by rw[U];rfl),eb,(by rw[aH];rfl),ll,(by rw[br];rfl),aj⟩
  skip
  rw[show dc x k v=(k,v,false) from by grind[dc,iO,less,bM,ez]];exact Zx ⟨c1,(by rw[U];rfl),eb,(by rw[aH];rfl),aj⟩
 skip
 rw[show dc x k v=(k,v,false) from by grind[dc,iO,less,bM,ez]];exact Zw ⟨c1,(by rw[U];rfl),aj⟩
def fT(a b:Cell):Bool:=a.op==b.op&&a.a8==b.a8&&a.key==b.key
def gJ(op ep key:Int)(s:Int×Bool)(a:Cell):Int×Bool:=if a.op=op/\a.a8=ep/\a.key=key/\(s.2=false\/a.val<s.1) then (a.val,true) else s
def rF(xs:List Cell)(op ep key:Int):Int×Bool:=xs.foldl (gJ op ep key) (0,false)
theorem aaV(xs:List Cell)(af:xs.length<=8388608)(op ep key m:Int)(f:Bool)(i:Nat)(a:Cell)(ag:xs[i]?=some a):fP prog (az f324 0) (lz (xs.map Cell.e) op ep key i f m) .normal (lz (xs.map Cell.e) op ep key ((i+1:Nat):Int) (gJ op ep key (m,f) a).2 (gJ op ep key (m,f) a).1):=by
 have aM:=bh ag;have fx:xs[(i:Int).toNat]?=some a:=by simpa using ag
 have g':decide ((i:Int)<(↑(xs.map Cell.e).length:Int))=true:=cg aM;rcases dN (a.op==op) with h1 | h1
 ·skip
  rcases dN (a.a8==ep) with U | U
  ·skip
   rcases dN (a.key==key) with au | au
   ·skip
    rcases dN (f) with aH | aH
    ·skip
     rcases dN (decide (a.val<m)) with ba | ba
     ·skip
      rw[show gJ op ep key (m,f) a=(a.val,true) from by grind[gJ,fT]];exact anH ⟨g',(by grind[bf]),(by grind[bf]),(eP Cell.e fx),h1,U,au,(by rw[aH];rfl),ba,(by grind[bf]),aj⟩
     skip
     rw[show gJ op ep key (m,f) a=(m,f) from by grind[gJ,fT]];exact anI ⟨g',(by grind[bf]),(by grind[bf]),(eP Cell.e fx),h1,U,au,(by rw[aH];rfl),ba,(by grind[bf]),aj⟩
    skip
    rw[show gJ op ep key (m,f) a=(a.val,true) from by grind[gJ,fT]];exact anG ⟨g',(by grind[bf]),(by grind[bf]),(eP Cell.e fx),h1,U,au,(by rw[aH];rfl),(by grind[bf]),aj⟩
   skip
   rw[show gJ op ep key (m,f) a=(m,f) from by grind[gJ,fT]];exact anJ ⟨g',(by grind[bf]),(by grind[bf]),(eP Cell.e fx),h1,U,au,(by grind[bf]),aj⟩
  skip
  rw[show gJ op ep key (m,f) a=(m,f) from by grind[gJ,fT]];exact anK ⟨g',(by grind[bf]),(by grind[bf]),(eP Cell.e fx),h1,U,(by grind[bf]),aj⟩
 skip
 rw[show gJ op ep key (m,f) a=(m,f) from by grind[gJ,fT]];exact anL ⟨g',(by grind[bf]),(by grind[bf]),(eP Cell.e fx),h1,(by grind[bf]),aj⟩
theorem RU(xs:List Cell)(op ep key:Int)(af:xs.length<=8388608):aK 324 [.one (.J 4 (xs.map Cell.e)),.one (I op),.one (I ep),.one (I key)] [.one (I (rF xs op ep key).1),.one (B (rF xs op ep key).2)]:=by
 have l:=ef (P:=prog) (c:=(az f324 0)) (cL 0) xs.length (fun i:Nat=>lz (xs.map Cell.e) op ep key i (jw (gJ op ep key) (0,false) xs i).2 (jw (gJ op ep key) (0,false) xs i).1) (fun i hi=>by
  obtain⟨a,ag⟩:=dv hi;rw[sS ag];exact aaV xs af op ep key _ _ i a ag) (anM ⟨dH,aj⟩)
 rw[AS]at l;exact anN ⟨l,aj⟩
