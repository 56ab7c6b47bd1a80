import Derived.Test.YtdchjefneblpgaaGreatQ2
import Derived.Test.YtdchjefneblpgaaGreatGQ
import Derived.Test.YtdchjefneblpgaaGreatGR
set_option linter.unusedVariables false
set_option linter.unusedSimpArgs false
namespace Go.Proofs.YtdchjefneblpgaaGreat
open Go.Sx Go.RowKit Go.Proofs.Tryz
def h6(s:gC):Bool:=av s.a8 0 3&&av s.dg 0 6
def fy(k v:Int):Bool:=av k 0 99&&av v 0 999
def eJ(r:az):Bool:=av r.op 0 7&&h6 r.bi&&fy r.key r.val
def e9(s:gC):gC×Bool:=if h6 s&&decide (s.dg<6) then (⟨s.a8,s.dg+1⟩,true) else (s,false)
def less(a b:Int):Int:=if b<a then b else a
def bU(x:Node):Bool:=
 if x.kind=2 then av x.a 0 999&&x.b==0
 else if x.kind=3 then av x.a 1 10&&av x.b 0 (IntKind.i64.wrap (x.a-1))
 else if x.kind=4 then av x.a 0 99&&x.b==0
 else av x.kind 1 8&&x.a==0&&x.b==0
def oo(l:List Int):Bool:=!(l.any fun k=>!av k 0 7)
def b3(l:List Int):Bool:=decide (l.length=2/\l[0]?=l[1]?)
def aQ(x:Node):Bool:=bU x&&decide (x.outs.length<=2)&&!(x.kind==8&&decide (0<x.outs.length))&&!b3 x.outs&&oo x.outs
theorem look{α:Type}{xs:List α}{i:Int}(bO:0<=i)(h1:i<xs.length):∃a,xs[i.toNat]?=some a:=c4 (by omega)
theorem bQ{α:Type}{xs:List α}{i:Nat}{a:α}(f:α->List D)(h:xs[i]?=some a):(xs.map f)[i]?=some (f a):=by simp[h]
theorem hN(x:Node)(af:x.outs.length<=8388608):(oo x.outs=false/\c8 prog (ap f273 0) (dO (x.outs.map bc) 0) .ret (gY false))\/(oo x.outs=true/\c8 prog (ap f273 0) (dO (x.outs.map bc) 0) (.exit 1) hr):=by
 have l:=gv (P:=prog) (c:=(ap f273 0)) x.outs (fun k=>!av k 0 7) (fun i=>dO (x.outs.map bc) i) (X:=fun _ _=>gY false) e5 (cn 1)
  (fun i a ai h=>ajo ⟨b5 (a1 ai),bA,bH (a1 ai),bC bc ai,lB a 0 7,h,db (a1 ai) af,aa⟩)
  (fun i a ai h=>ajn ⟨b5 (a1 ai),bA,bH (a1 ai),bC bc ai,lB a 0 7,h,aa⟩)
  (ajp ⟨dw,aa⟩)
 unfold oo;rcases l with⟨_,_,h1,U⟩ | ⟨i,a,_,_,_,_,h1,U⟩
 ·exact .inr ⟨by rw[h1];rfl,U⟩
 exact .inl ⟨by rw[h1];rfl,U⟩
theorem vP(x:Node)(af:x.outs.length<=2):((oo x.outs&&!b3 x.outs)=false/\c8 prog (ap f243 0) (iz x.kind x.a x.b (x.outs.map bc) 0) .ret (rL false))\/((oo x.outs&&!b3 x.outs)=true/\c8 prog (ap f243 0) (iz x.kind x.a x.b (x.outs.map bc) 0) (.exit 1) sW):=by
 obtain⟨R4,a,b,outs⟩:=x;have cl:=fun k=>je k 0 7
 match outs,af with
 | [],_=>exact .inr ⟨rfl,.last (cn 1) (Nn ⟨rfl,aa⟩)⟩
 | [k],_=>
  cases h1:av k 0 7 with
  | false=>exact .inl ⟨by simp[oo,h1],.last e5 (Nl ⟨rfl,by omega,by simp,rfl,cl k,by rw[h1];rfl,aa⟩)⟩
  | true=>
   refine .inr ⟨by simp[oo,b3,h1],.more (VI ⟨rfl,by omega,by simp,rfl,cl k,by rw[h1];rfl,rfl,⟨by omega,by omega⟩,aa⟩) (.last (cn 1) (Nn ⟨rfl,aa⟩))⟩
 | [k,m],_=>
  cases h1:av k 0 7 with
  | false=>exact .inl ⟨by simp[oo,h1],.last e5 (Nl ⟨rfl,by omega,by simp,rfl,cl k,by rw[h1];rfl,aa⟩)⟩
  | true=>
   have first:fX prog (ap f243 0) (iz R4 a b ([k,m].map bc) 0) .normal (iz R4 a b ([k,m].map bc) (0+1)):=VI ⟨rfl,by omega,by simp,rfl,cl k,by rw[h1];rfl,rfl,⟨by omega,by omega⟩,aa⟩
   cases U:av m 0 7 with
   | false=>exact .inl ⟨by simp[oo,h1,U],.more first (.last e5 (Nl ⟨rfl,by omega,by simp,rfl,cl m,by rw[U];rfl,aa⟩))⟩
   | true=>
    cases aA:(k==m) with
    | true=>exact .inl ⟨by simp[oo,b3,h1,U]at aA ⊢;exact aA,.more first (.last e5 (akb ⟨rfl,by omega,by simp,rfl,cl m,by rw[U];rfl,rfl,by omega,by simp,rfl,by omega,by simp,rfl,aA,aa⟩))⟩
    | false=>exact .inr ⟨by simp[oo,b3,h1,U]at aA ⊢;exact aA,.more first (.more (akc ⟨rfl,by omega,by simp,rfl,cl m,by rw[U];rfl,rfl,by omega,by simp,rfl,by omega,by simp,rfl,aA,⟨by omega,by omega⟩,aa⟩) (.last (cn 1) (Nn ⟨rfl,aa⟩)))⟩
theorem VJ(s:gC):aq 244 [.agg s.e] [.one (B (h6 s))]:=by
 have c1:=je s.a8 0 3;cases U:(av s.a8 0 3) with
 | true=>
  have cN:=je s.dg 0 6;rw[show h6 s=av s.dg 0 6 from by grind[h6]];exact aiP ⟨c1,U,cN,aa⟩
 | false=>
  rw[show h6 s=false from by grind[h6]];exact aiQ ⟨c1,U,aa⟩
theorem VK(s:gC):aq 274 [.agg s.e] [.one (B (h6 s))]:=by
 have c1:=lB s.a8 0 3;cases U:(av s.a8 0 3) with
 | true=>
  have cN:=lB s.dg 0 6;rw[show h6 s=av s.dg 0 6 from by grind[h6]];exact aiR ⟨c1,U,cN,aa⟩
 | false=>
  rw[show h6 s=false from by grind[h6]];exact aiS ⟨c1,U,aa⟩
theorem VL(k v:Int):aq 275 [.one (I k),.one (I v)] [.one (B (fy k v))]:=by
 have c1:=lB k 0 99;cases U:(av k 0 99) with
 | true=>
  have cN:=lB v 0 999;rw[show fy k v=av v 0 999 from by grind[fy]];exact aj4 ⟨c1,U,cN,aa⟩
 | false=>
  rw[show fy k v=false from by grind[fy]];exact aj5 ⟨c1,U,aa⟩
theorem uj(r:az):aq 122 [.agg r.e] [.one (B (eJ r))]:=by
 have c1:=je r.op 0 7;cases U:(av r.op 0 7) with
 | true=>
  have cN:=VJ r.bi;cases aJ:(h6 r.bi) with
  | true=>
   have gT:=je r.key 0 99;cases bu:(av r.key 0 99) with
   | true=>
    have I6:=je r.val 0 999;rw[show eJ r=av r.val 0 999 from by grind[eJ,fy]];exact aiI ⟨c1,U,cN,aJ,gT,bu,I6,aa⟩
   | false=>
    rw[show eJ r=false from by grind[eJ,fy]];exact aiJ ⟨c1,U,cN,aJ,gT,bu,aa⟩
  | false=>
   rw[show eJ r=false from by grind[eJ,fy]];exact aiK ⟨c1,U,cN,aJ,aa⟩
 | false=>
  rw[show eJ r=false from by grind[eJ,fy]];exact aiL ⟨c1,U,aa⟩
theorem vQ(r:az):aq 180 [.agg r.e] [.one (B (eJ r))]:=by
 have c1:=lB r.op 0 7;cases U:(av r.op 0 7) with
 | true=>
  have cN:=VK r.bi;cases aJ:(h6 r.bi) with
  | true=>
   have gT:=VL r.key r.val;rw[show eJ r=fy r.key r.val from by grind[eJ,fy]];exact aiM ⟨c1,U,cN,aJ,gT,aa⟩
  | false=>
   rw[show eJ r=false from by grind[eJ,fy]];exact aiN ⟨c1,U,cN,aJ,aa⟩
 | false=>
  rw[show eJ r=false from by grind[eJ,fy]];exact aiO ⟨c1,U,aa⟩
theorem Ay(s:gC):aq 270 [.agg s.e] [.agg ((e9 s).1).e,.one (B ((e9 s).2))]:=by
 have c1:=VJ s;cases U:(h6 s) with
 | true=>
  cases aA:(decide (s.dg>=6)) with
  | true=>
   rw[show e9 s=(s,false) from by grind[e9,h6,av]];exact aiU ⟨c1,(by rw[U];rfl),aA,aa⟩
  | false=>
   rw[show e9 s=((⟨s.a8,s.dg+1⟩:gC),true) from by grind[e9,h6,av]];exact ail ⟨c1,(by rw[U];rfl),aA,(by grind[h6,av,aL]),aa⟩
 | false=>
  rw[show e9 s=(s,false) from by grind[e9,h6,av]];exact aiT ⟨c1,(by rw[U];rfl),aa⟩
theorem No(s:gC):aq 300 [.agg s.e] [.agg ((e9 s).1).e,.one (B ((e9 s).2))]:=by
 have c1:=VK s;cases U:(h6 s) with
 | true=>
  cases aA:(s.dg==6) with
  | true=>
   rw[show e9 s=(s,false) from by grind[e9,h6,av]];exact ain ⟨c1,(by rw[U];rfl),aA,aa⟩
  | false=>
   rw[show e9 s=((⟨s.a8,s.dg+1⟩:gC),true) from by grind[e9,h6,av]];exact aio ⟨c1,(by rw[U];rfl),aA,(by grind[h6,av,aL]),aa⟩
 | false=>
  rw[show e9 s=(s,false) from by grind[e9,h6,av]];exact aim ⟨c1,(by rw[U];rfl),aa⟩
theorem alH(a b:Int):aq 323 [.one (I a),.one (I b)] [.one (I (less a b))]:=by
 cases h1:(decide (b<a)) with
 | true=>
  rw[show less a b=b from by grind[less]];exact aj2 ⟨h1,aa⟩
 | false=>
  rw[show less a b=a from by grind[less]];exact aj3 ⟨h1,aa⟩
theorem VM(x:Node)(af:x.outs.length<=8388608):aq 243 [.agg x.e] [.one (B (aQ x))]:=by
 cases h1:(x.kind==2) with
 | true=>
  have c2:=je x.a 0 999;have cN:=je x.kind 1 8;cases aJ:(av x.kind 1 8) with
  | true=>
   cases a':(av x.a 0 999) with
   | true=>
    cases bu:(x.b==0) with
    | true=>
     cases b1:(decide ((↑(x.outs.map bc).length:Int)>2)) with
     | true=>
      rw[show aQ x=false from by grind[aQ,bU,b3,av]];exact aj9 ⟨h1,c2,cN,(by rw[aJ];rfl),(by rw[a'];rfl),(by rw[bu];rfl),b1,aa⟩
     | false=>
      cases dy:(x.kind==8) with
      | true=>
       cases eu:(decide ((↑(x.outs.map bc).length:Int)>0)) with
       | true=>
        rw[show aQ x=false from by grind[aQ,bU,b3,av]];exact aka ⟨h1,c2,cN,(by rw[aJ];rfl),(by rw[a'];rfl),(by rw[bu];rfl),b1,dy,eu,aa⟩
       | false=>
        rcases vP x (by grind) with⟨cH,l⟩ | ⟨cH,l⟩
        ·skip
         rw[show aQ x=false from by grind[aQ,bU,b3,av]];exact akd ⟨h1,c2,cN,(by rw[aJ];rfl),(by rw[a'];rfl),(by rw[bu];rfl),b1,dy,eu,l,aa⟩
        skip
        rw[show aQ x=true from by grind[aQ,bU,b3,av]];exact ake ⟨h1,c2,cN,(by rw[aJ];rfl),(by rw[a'];rfl),(by rw[bu];rfl),b1,dy,eu,l,aa⟩
      | false=>
       rcases vP x (by grind) with⟨cH,l⟩ | ⟨cH,l⟩
       ·skip
        rw[show aQ x=false from by grind[aQ,bU,b3,av]];exact akf ⟨h1,c2,cN,(by rw[aJ];rfl),(by rw[a'];rfl),(by rw[bu];rfl),b1,dy,l,aa⟩
       skip
       rw[show aQ x=true from by grind[aQ,bU,b3,av]];exact akg ⟨h1,c2,cN,(by rw[aJ];rfl),(by rw[a'];rfl),(by rw[bu];rfl),b1,dy,l,aa⟩
    | false=>
     rw[show aQ x=false from by grind[aQ,bU,b3,av]];exact aj8 ⟨h1,c2,cN,(by rw[aJ];rfl),(by rw[a'];rfl),(by rw[bu];rfl),aa⟩
   | false=>
    rw[show aQ x=false from by grind[aQ,bU,b3,av]];exact aj7 ⟨h1,c2,cN,(by rw[aJ];rfl),(by rw[a'];rfl),aa⟩
  | false=>
   rw[show aQ x=false from by grind[aQ,bU,b3,av]];exact aj6 ⟨h1,c2,cN,(by rw[aJ];rfl),aa⟩
 | false=>
  cases dX:(x.kind==3) with
  | true=>
   have qP:=je x.a 1 10;have oT:=je x.b 0 (IntKind.i64.wrap (x.a-1));have nX:=je x.kind 1 8;cases l':(av x.kind 1 8) with
   | true=>
    cases kh:(av x.a 1 10) with
    | true=>
     cases cG:(av x.b 0 (IntKind.i64.wrap (x.a-1))) with
     | true=>
      cases sb:(decide ((↑(x.outs.map bc).length:Int)>2)) with
      | true=>
       rw[show aQ x=false from by grind[aQ,bU,b3,av]];exact akk ⟨h1,dX,qP,oT,nX,(by rw[l'];rfl),(by rw[kh];rfl),(by rw[cG];rfl),sb,aa⟩
      | false=>
       cases hG:(x.kind==8) with
       | true=>
        cases Jo:(decide ((↑(x.outs.map bc).length:Int)>0)) with
        | true=>
         rw[show aQ x=false from by grind[aQ,bU,b3,av]];exact ajv ⟨h1,dX,qP,oT,nX,(by rw[l'];rfl),(by rw[kh];rfl),(by rw[cG];rfl),sb,hG,Jo,aa⟩
        | false=>
         rcases vP x (by grind) with⟨cH,l⟩ | ⟨cH,l⟩
         ·skip
          rw[show aQ x=false from by grind[aQ,bU,b3,av]];exact ajw ⟨h1,dX,qP,oT,nX,(by rw[l'];rfl),(by rw[kh];rfl),(by rw[cG];rfl),sb,hG,Jo,l,aa⟩
         skip
         rw[show aQ x=true from by grind[aQ,bU,b3,av]];exact ajx ⟨h1,dX,qP,oT,nX,(by rw[l'];rfl),(by rw[kh];rfl),(by rw[cG];rfl),sb,hG,Jo,l,aa⟩
       | false=>
        rcases vP x (by grind) with⟨cH,l⟩ | ⟨cH,l⟩
        ·skip
         rw[show aQ x=false from by grind[aQ,bU,b3,av]];exact ajy ⟨h1,dX,qP,oT,nX,(by rw[l'];rfl),(by rw[kh];rfl),(by rw[cG];rfl),sb,hG,l,aa⟩
        skip
        rw[show aQ x=true from by grind[aQ,bU,b3,av]];exact ajz ⟨h1,dX,qP,oT,nX,(by rw[l'];rfl),(by rw[kh];rfl),(by rw[cG];rfl),sb,hG,l,aa⟩
     | false=>
      rw[show aQ x=false from by grind[aQ,bU,b3,av]];exact akj ⟨h1,dX,qP,oT,nX,(by rw[l'];rfl),(by rw[kh];rfl),(by rw[cG];rfl),aa⟩
    | false=>
     rw[show aQ x=false from by grind[aQ,bU,b3,av]];exact aki ⟨h1,dX,qP,oT,nX,(by rw[l'];rfl),(by rw[kh];rfl),aa⟩
   | false=>
    rw[show aQ x=false from by grind[aQ,bU,b3,av]];exact akh ⟨h1,dX,qP,oT,nX,(by rw[l'];rfl),aa⟩
  | false=>
   cases fv:(x.kind==4) with
   | true=>
    have nY:=je x.a 0 99;have tk:=je x.kind 1 8;cases kC:(av x.kind 1 8) with
    | true=>
     cases n3:(av x.a 0 99) with
     | true=>
      cases qT:(x.b==0) with
      | true=>
       cases qU:(decide ((↑(x.outs.map bc).length:Int)>2)) with
       | true=>
        rw[show aQ x=false from by grind[aQ,bU,b3,av]];exact ajD ⟨h1,dX,fv,nY,tk,(by rw[kC];rfl),(by rw[n3];rfl),(by rw[qT];rfl),qU,aa⟩
       | false=>
        cases tx:(x.kind==8) with
        | true=>
         cases oV:(decide ((↑(x.outs.map bc).length:Int)>0)) with
         | true=>
          rw[show aQ x=false from by grind[aQ,bU,b3,av]];exact ajE ⟨h1,dX,fv,nY,tk,(by rw[kC];rfl),(by rw[n3];rfl),(by rw[qT];rfl),qU,tx,oV,aa⟩
         | false=>
          rcases vP x (by grind) with⟨cH,l⟩ | ⟨cH,l⟩
          ·skip
           rw[show aQ x=false from by grind[aQ,bU,b3,av]];exact ajF ⟨h1,dX,fv,nY,tk,(by rw[kC];rfl),(by rw[n3];rfl),(by rw[qT];rfl),qU,tx,oV,l,aa⟩
          skip
          rw[show aQ x=true from by grind[aQ,bU,b3,av]];exact ajG ⟨h1,dX,fv,nY,tk,(by rw[kC];rfl),(by rw[n3];rfl),(by rw[qT];rfl),qU,tx,oV,l,aa⟩
        | false=>
         rcases vP x (by grind) with⟨cH,l⟩ | ⟨cH,l⟩
         ·skip
          rw[show aQ x=false from by grind[aQ,bU,b3,av]];exact ajH ⟨h1,dX,fv,nY,tk,(by rw[kC];rfl),(by rw[n3];rfl),(by rw[qT];rfl),qU,tx,l,aa⟩
         skip
         rw[show aQ x=true from by grind[aQ,bU,b3,av]];exact ajI ⟨h1,dX,fv,nY,tk,(by rw[kC];rfl),(by rw[n3];rfl),(by rw[qT];rfl),qU,tx,l,aa⟩
      | false=>
       rw[show aQ x=false from by grind[aQ,bU,b3,av]];exact ajC ⟨h1,dX,fv,nY,tk,(by rw[kC];rfl),(by rw[n3];rfl),(by rw[qT];rfl),aa⟩
     | false=>
      rw[show aQ x=false from by grind[aQ,bU,b3,av]];exact ajB ⟨h1,dX,fv,nY,tk,(by rw[kC];rfl),(by rw[n3];rfl),aa⟩
    | false=>
     rw[show aQ x=false from by grind[aQ,bU,b3,av]];exact ajA ⟨h1,dX,fv,nY,tk,(by rw[kC];rfl),aa⟩
   | false=>
    have tm:=je x.kind 1 8;cases tz:(av x.kind 1 8) with
    | true=>
     cases p4:(x.a==0) with
     | true=>
      cases da:(x.b==0) with
      | true=>
       cases yX:(decide ((↑(x.outs.map bc).length:Int)>2)) with
       | true=>
        rw[show aQ x=false from by grind[aQ,bU,b3,av]];exact ajM ⟨h1,dX,fv,tm,(by rw[tz];rfl),(by rw[p4];rfl),(by rw[da];rfl),yX,aa⟩
       | false=>
        cases k3:(x.kind==8) with
        | true=>
         cases mb:(decide ((↑(x.outs.map bc).length:Int)>0)) with
         | true=>
          rw[show aQ x=false from by grind[aQ,bU,b3,av]];exact ajN ⟨h1,dX,fv,tm,(by rw[tz];rfl),(by rw[p4];rfl),(by rw[da];rfl),yX,k3,mb,aa⟩
         | false=>
          rcases vP x (by grind) with⟨cH,l⟩ | ⟨cH,l⟩
          ·skip
           rw[show aQ x=false from by grind[aQ,bU,b3,av]];exact ajO ⟨h1,dX,fv,tm,(by rw[tz];rfl),(by rw[p4];rfl),(by rw[da];rfl),yX,k3,mb,l,aa⟩
          skip
          rw[show aQ x=true from by grind[aQ,bU,b3,av]];exact ajP ⟨h1,dX,fv,tm,(by rw[tz];rfl),(by rw[p4];rfl),(by rw[da];rfl),yX,k3,mb,l,aa⟩
        | false=>
         rcases vP x (by grind) with⟨cH,l⟩ | ⟨cH,l⟩
         ·skip
          rw[show aQ x=false from by grind[aQ,bU,b3,av]];exact ajQ ⟨h1,dX,fv,tm,(by rw[tz];rfl),(by rw[p4];rfl),(by rw[da];rfl),yX,k3,l,aa⟩
         skip
         rw[show aQ x=true from by grind[aQ,bU,b3,av]];exact ajR ⟨h1,dX,fv,tm,(by rw[tz];rfl),(by rw[p4];rfl),(by rw[da];rfl),yX,k3,l,aa⟩
      | false=>
       rw[show aQ x=false from by grind[aQ,bU,b3,av]];exact ajL ⟨h1,dX,fv,tm,(by rw[tz];rfl),(by rw[p4];rfl),(by rw[da];rfl),aa⟩
     | false=>
      rw[show aQ x=false from by grind[aQ,bU,b3,av]];exact ajK ⟨h1,dX,fv,tm,(by rw[tz];rfl),(by rw[p4];rfl),aa⟩
    | false=>
     rw[show aQ x=false from by grind[aQ,bU,b3,av]];exact ajJ ⟨h1,dX,fv,tm,(by rw[tz];rfl),aa⟩
theorem VN(x:Node)(af:x.outs.length<=8388608):aq 273 [.agg x.e] [.one (B (aQ x))]:=by
 cases h1:(x.kind==2) with
 | true=>
  have c2:=lB x.a 0 999;cases aA:(av x.a 0 999) with
  | true=>
   cases aJ:(x.b != 0) with
   | true=>
    rw[show aQ x=false from by grind[aQ,bU,b3,av]];exact ajT ⟨h1,c2,(by rw[aA];rfl),aJ,aa⟩
   | false=>
    cases a':(decide ((↑(x.outs.map bc).length:Int)>2)) with
    | true=>
     rw[show aQ x=false from by grind[aQ,bU,b3,av]];exact ajU ⟨h1,c2,(by rw[aA];rfl),aJ,a',aa⟩
    | false=>
     cases bu:(x.kind==8) with
     | true=>
      cases b1:(decide ((↑(x.outs.map bc).length:Int)>0)) with
      | true=>
       rw[show aQ x=false from by grind[aQ,bU,b3,av]];exact ajl ⟨h1,c2,(by rw[aA];rfl),aJ,a',bu,b1,aa⟩
      | false=>
       cases dy:((↑(x.outs.map bc).length:Int)==2) with
       | true=>
        obtain⟨IK,tO⟩:=c4 (xs:=x.outs) (i:=0) (by grind[av,aL]);obtain⟨Ii,Kp⟩:=c4 (xs:=x.outs) (i:=1) (by grind[av,aL]);cases iH:(IK==Ii) with
        | true=>
         rw[show aQ x=false from by grind[aQ,bU,b3,av]];exact ajm ⟨h1,c2,(by rw[aA];rfl),aJ,a',bu,b1,dy,(by grind[av,aL]),(by grind[av,aL]),(bQ bc tO),(by grind[av,aL]),(by grind[av,aL]),(bQ bc Kp),iH,aa⟩
        | false=>
         rcases hN x af with⟨cH,l⟩ | ⟨cH,l⟩
         ·skip
          rw[show aQ x=false from by grind[aQ,bU,b3,av]];exact ajq ⟨h1,c2,(by rw[aA];rfl),aJ,a',bu,b1,dy,(by grind[av,aL]),(by grind[av,aL]),(bQ bc tO),(by grind[av,aL]),(by grind[av,aL]),(bQ bc Kp),iH,l,aa⟩
         skip
         rw[show aQ x=true from by grind[aQ,bU,b3,av]];exact ajr ⟨h1,c2,(by rw[aA];rfl),aJ,a',bu,b1,dy,(by grind[av,aL]),(by grind[av,aL]),(bQ bc tO),(by grind[av,aL]),(by grind[av,aL]),(bQ bc Kp),iH,l,aa⟩
       | false=>
        rcases hN x af with⟨cH,l⟩ | ⟨cH,l⟩
        ·skip
         rw[show aQ x=false from by grind[aQ,bU,b3,av]];exact ajs ⟨h1,c2,(by rw[aA];rfl),aJ,a',bu,b1,dy,l,aa⟩
        skip
        rw[show aQ x=true from by grind[aQ,bU,b3,av]];exact ajt ⟨h1,c2,(by rw[aA];rfl),aJ,a',bu,b1,dy,l,aa⟩
     | false=>
      cases iW:((↑(x.outs.map bc).length:Int)==2) with
      | true=>
       obtain⟨yv,Ku⟩:=c4 (xs:=x.outs) (i:=0) (by grind[av,aL]);obtain⟨Ij,Kv⟩:=c4 (xs:=x.outs) (i:=1) (by grind[av,aL]);cases kh:(yv==Ij) with
       | true=>
        rw[show aQ x=false from by grind[aQ,bU,b3,av]];exact aju ⟨h1,c2,(by rw[aA];rfl),aJ,a',bu,iW,(by grind[av,aL]),(by grind[av,aL]),(bQ bc Ku),(by grind[av,aL]),(by grind[av,aL]),(bQ bc Kv),kh,aa⟩
       | false=>
        rcases hN x af with⟨cH,l⟩ | ⟨cH,l⟩
        ·skip
         rw[show aQ x=false from by grind[aQ,bU,b3,av]];exact akV ⟨h1,c2,(by rw[aA];rfl),aJ,a',bu,iW,(by grind[av,aL]),(by grind[av,aL]),(bQ bc Ku),(by grind[av,aL]),(by grind[av,aL]),(bQ bc Kv),kh,l,aa⟩
        skip
        rw[show aQ x=true from by grind[aQ,bU,b3,av]];exact akW ⟨h1,c2,(by rw[aA];rfl),aJ,a',bu,iW,(by grind[av,aL]),(by grind[av,aL]),(bQ bc Ku),(by grind[av,aL]),(by grind[av,aL]),(bQ bc Kv),kh,l,aa⟩
      | false=>
       rcases hN x af with⟨cH,l⟩ | ⟨cH,l⟩
       ·skip
        rw[show aQ x=false from by grind[aQ,bU,b3,av]];exact akX ⟨h1,c2,(by rw[aA];rfl),aJ,a',bu,iW,l,aa⟩
       skip
       rw[show aQ x=true from by grind[aQ,bU,b3,av]];exact akY ⟨h1,c2,(by rw[aA];rfl),aJ,a',bu,iW,l,aa⟩
  | false=>
   rw[show aQ x=false from by grind[aQ,bU,b3,av]];exact ajS ⟨h1,c2,(by rw[aA];rfl),aa⟩
 | false=>
  cases cG:(x.kind==3) with
  | true=>
   have mK:=lB x.a 1 10;cases hG:(av x.a 1 10) with
   | true=>
    have jN:=lB x.b 0 (IntKind.i64.wrap (x.a-1));cases fv:(av x.b 0 (IntKind.i64.wrap (x.a-1))) with
    | true=>
     cases p3:(decide ((↑(x.outs.map bc).length:Int)>2)) with
     | true=>
      rw[show aQ x=false from by grind[aQ,bU,b3,av]];exact ak1 ⟨h1,cG,mK,(by rw[hG];rfl),jN,(by rw[fv];rfl),p3,aa⟩
     | false=>
      cases ma:(x.kind==8) with
      | true=>
       cases kC:(decide ((↑(x.outs.map bc).length:Int)>0)) with
       | true=>
        rw[show aQ x=false from by grind[aQ,bU,b3,av]];exact ak2 ⟨h1,cG,mK,(by rw[hG];rfl),jN,(by rw[fv];rfl),p3,ma,kC,aa⟩
       | false=>
        cases n3:((↑(x.outs.map bc).length:Int)==2) with
        | true=>
         obtain⟨D',Kw⟩:=c4 (xs:=x.outs) (i:=0) (by grind[av,aL]);obtain⟨Ea,Kx⟩:=c4 (xs:=x.outs) (i:=1) (by grind[av,aL]);cases tx:(D'==Ea) with
         | true=>
          rw[show aQ x=false from by grind[aQ,bU,b3,av]];exact ak3 ⟨h1,cG,mK,(by rw[hG];rfl),jN,(by rw[fv];rfl),p3,ma,kC,n3,(by grind[av,aL]),(by grind[av,aL]),(bQ bc Kw),(by grind[av,aL]),(by grind[av,aL]),(bQ bc Kx),tx,aa⟩
         | false=>
          rcases hN x af with⟨cH,l⟩ | ⟨cH,l⟩
          ·skip
           rw[show aQ x=false from by grind[aQ,bU,b3,av]];exact ak4 ⟨h1,cG,mK,(by rw[hG];rfl),jN,(by rw[fv];rfl),p3,ma,kC,n3,(by grind[av,aL]),(by grind[av,aL]),(bQ bc Kw),(by grind[av,aL]),(by grind[av,aL]),(bQ bc Kx),tx,l,aa⟩
          skip
          rw[show aQ x=true from by grind[aQ,bU,b3,av]];exact ak5 ⟨h1,cG,mK,(by rw[hG];rfl),jN,(by rw[fv];rfl),p3,ma,kC,n3,(by grind[av,aL]),(by grind[av,aL]),(bQ bc Kw),(by grind[av,aL]),(by grind[av,aL]),(bQ bc Kx),tx,l,aa⟩
        | false=>
         rcases hN x af with⟨cH,l⟩ | ⟨cH,l⟩
         ·skip
          rw[show aQ x=false from by grind[aQ,bU,b3,av]];exact ak6 ⟨h1,cG,mK,(by rw[hG];rfl),jN,(by rw[fv];rfl),p3,ma,kC,n3,l,aa⟩
         skip
         rw[show aQ x=true from by grind[aQ,bU,b3,av]];exact ak7 ⟨h1,cG,mK,(by rw[hG];rfl),jN,(by rw[fv];rfl),p3,ma,kC,n3,l,aa⟩
      | false=>
       cases oV:((↑(x.outs.map bc).length:Int)==2) with
       | true=>
        obtain⟨Io,Ky⟩:=c4 (xs:=x.outs) (i:=0) (by grind[av,aL]);obtain⟨Iz,Kz⟩:=c4 (xs:=x.outs) (i:=1) (by grind[av,aL]);cases p4:(Io==Iz) with
        | true=>
         rw[show aQ x=false from by grind[aQ,bU,b3,av]];exact ak8 ⟨h1,cG,mK,(by rw[hG];rfl),jN,(by rw[fv];rfl),p3,ma,oV,(by grind[av,aL]),(by grind[av,aL]),(bQ bc Ky),(by grind[av,aL]),(by grind[av,aL]),(bQ bc Kz),p4,aa⟩
        | false=>
         rcases hN x af with⟨cH,l⟩ | ⟨cH,l⟩
         ·skip
          rw[show aQ x=false from by grind[aQ,bU,b3,av]];exact ak9 ⟨h1,cG,mK,(by rw[hG];rfl),jN,(by rw[fv];rfl),p3,ma,oV,(by grind[av,aL]),(by grind[av,aL]),(bQ bc Ky),(by grind[av,aL]),(by grind[av,aL]),(bQ bc Kz),p4,l,aa⟩
         skip
         rw[show aQ x=true from by grind[aQ,bU,b3,av]];exact ala ⟨h1,cG,mK,(by rw[hG];rfl),jN,(by rw[fv];rfl),p3,ma,oV,(by grind[av,aL]),(by grind[av,aL]),(bQ bc Ky),(by grind[av,aL]),(by grind[av,aL]),(bQ bc Kz),p4,l,aa⟩
       | false=>
        rcases hN x af with⟨cH,l⟩ | ⟨cH,l⟩
        ·skip
         rw[show aQ x=false from by grind[aQ,bU,b3,av]];exact alb ⟨h1,cG,mK,(by rw[hG];rfl),jN,(by rw[fv];rfl),p3,ma,oV,l,aa⟩
        skip
        rw[show aQ x=true from by grind[aQ,bU,b3,av]];exact alc ⟨h1,cG,mK,(by rw[hG];rfl),jN,(by rw[fv];rfl),p3,ma,oV,l,aa⟩
    | false=>
     rw[show aQ x=false from by grind[aQ,bU,b3,av]];exact ak0 ⟨h1,cG,mK,(by rw[hG];rfl),jN,(by rw[fv];rfl),aa⟩
   | false=>
    rw[show aQ x=false from by grind[aQ,bU,b3,av]];exact akZ ⟨h1,cG,mK,(by rw[hG];rfl),aa⟩
  | false=>
   cases da:(x.kind==4) with
   | true=>
    have nZ:=lB x.a 0 99;cases k3:(av x.a 0 99) with
    | true=>
     cases mb:(x.b != 0) with
     | true=>
      rw[show aQ x=false from by grind[aQ,bU,b3,av]];exact ale ⟨h1,cG,da,nZ,(by rw[k3];rfl),mb,aa⟩
     | false=>
      cases p5:(decide ((↑(x.outs.map bc).length:Int)>2)) with
      | true=>
       rw[show aQ x=false from by grind[aQ,bU,b3,av]];exact alf ⟨h1,cG,da,nZ,(by rw[k3];rfl),mb,p5,aa⟩
      | false=>
       cases qV:(x.kind==8) with
       | true=>
        cases yY:(decide ((↑(x.outs.map bc).length:Int)>0)) with
        | true=>
         rw[show aQ x=false from by grind[aQ,bU,b3,av]];exact alg ⟨h1,cG,da,nZ,(by rw[k3];rfl),mb,p5,qV,yY,aa⟩
        | false=>
         cases Bf:((↑(x.outs.map bc).length:Int)==2) with
         | true=>
          obtain⟨AQ,KA⟩:=c4 (xs:=x.outs) (i:=0) (by grind[av,aL]);obtain⟨IH,KB⟩:=c4 (xs:=x.outs) (i:=1) (by grind[av,aL]);cases Jp:(AQ==IH) with
          | true=>
           rw[show aQ x=false from by grind[aQ,bU,b3,av]];exact alh ⟨h1,cG,da,nZ,(by rw[k3];rfl),mb,p5,qV,yY,Bf,(by grind[av,aL]),(by grind[av,aL]),(bQ bc KA),(by grind[av,aL]),(by grind[av,aL]),(bQ bc KB),Jp,aa⟩
          | false=>
           rcases hN x af with⟨cH,l⟩ | ⟨cH,l⟩
           ·skip
            rw[show aQ x=false from by grind[aQ,bU,b3,av]];exact ali ⟨h1,cG,da,nZ,(by rw[k3];rfl),mb,p5,qV,yY,Bf,(by grind[av,aL]),(by grind[av,aL]),(bQ bc KA),(by grind[av,aL]),(by grind[av,aL]),(bQ bc KB),Jp,l,aa⟩
           skip
           rw[show aQ x=true from by grind[aQ,bU,b3,av]];exact alj ⟨h1,cG,da,nZ,(by rw[k3];rfl),mb,p5,qV,yY,Bf,(by grind[av,aL]),(by grind[av,aL]),(bQ bc KA),(by grind[av,aL]),(by grind[av,aL]),(bQ bc KB),Jp,l,aa⟩
         | false=>
          rcases hN x af with⟨cH,l⟩ | ⟨cH,l⟩
          ·skip
           rw[show aQ x=false from by grind[aQ,bU,b3,av]];exact alk ⟨h1,cG,da,nZ,(by rw[k3];rfl),mb,p5,qV,yY,Bf,l,aa⟩
          skip
          rw[show aQ x=true from by grind[aQ,bU,b3,av]];exact akv ⟨h1,cG,da,nZ,(by rw[k3];rfl),mb,p5,qV,yY,Bf,l,aa⟩
       | false=>
        cases Bg:((↑(x.outs.map bc).length:Int)==2) with
        | true=>
         obtain⟨yx,KC⟩:=c4 (xs:=x.outs) (i:=0) (by grind[av,aL]);obtain⟨yy,KD⟩:=c4 (xs:=x.outs) (i:=1) (by grind[av,aL]);cases Jq:(yx==yy) with
         | true=>
          rw[show aQ x=false from by grind[aQ,bU,b3,av]];exact akw ⟨h1,cG,da,nZ,(by rw[k3];rfl),mb,p5,qV,Bg,(by grind[av,aL]),(by grind[av,aL]),(bQ bc KC),(by grind[av,aL]),(by grind[av,aL]),(bQ bc KD),Jq,aa⟩
         | false=>
          rcases hN x af with⟨cH,l⟩ | ⟨cH,l⟩
          ·skip
           rw[show aQ x=false from by grind[aQ,bU,b3,av]];exact akx ⟨h1,cG,da,nZ,(by rw[k3];rfl),mb,p5,qV,Bg,(by grind[av,aL]),(by grind[av,aL]),(bQ bc KC),(by grind[av,aL]),(by grind[av,aL]),(bQ bc KD),Jq,l,aa⟩
          skip
          rw[show aQ x=true from by grind[aQ,bU,b3,av]];exact aky ⟨h1,cG,da,nZ,(by rw[k3];rfl),mb,p5,qV,Bg,(by grind[av,aL]),(by grind[av,aL]),(bQ bc KC),(by grind[av,aL]),(by grind[av,aL]),(bQ bc KD),Jq,l,aa⟩
        | false=>
         rcases hN x af with⟨cH,l⟩ | ⟨cH,l⟩
         ·skip
          rw[show aQ x=false from by grind[aQ,bU,b3,av]];exact akz ⟨h1,cG,da,nZ,(by rw[k3];rfl),mb,p5,qV,Bg,l,aa⟩
         skip
         rw[show aQ x=true from by grind[aQ,bU,b3,av]];exact akA ⟨h1,cG,da,nZ,(by rw[k3];rfl),mb,p5,qV,Bg,l,aa⟩
    | false=>
     rw[show aQ x=false from by grind[aQ,bU,b3,av]];exact ald ⟨h1,cG,da,nZ,(by rw[k3];rfl),aa⟩
   | false=>
    cases di:(x.kind==1) with
    | true=>
     cases n4:(x.a != 0) with
     | true=>
      rw[show aQ x=false from by grind[aQ,bU,b3,av]];exact akB ⟨h1,cG,da,di,di,n4,aa⟩
     | false=>
      cases oW:(x.b != 0) with
      | true=>
       rw[show aQ x=false from by grind[aQ,bU,b3,av]];exact akC ⟨h1,cG,da,di,di,n4,oW,aa⟩
      | false=>
       cases p6:(decide ((↑(x.outs.map bc).length:Int)>2)) with
       | true=>
        rw[show aQ x=false from by grind[aQ,bU,b3,av]];exact akD ⟨h1,cG,da,di,di,n4,oW,p6,aa⟩
       | false=>
        cases qW:(x.kind==8) with
        | true=>
         cases yZ:(decide ((↑(x.outs.map bc).length:Int)>0)) with
         | true=>
          rw[show aQ x=false from by grind[aQ,bU,b3,av]];exact akE ⟨h1,cG,da,di,di,n4,oW,p6,qW,yZ,aa⟩
         | false=>
          cases Bh:((↑(x.outs.map bc).length:Int)==2) with
          | true=>
           obtain⟨aBM,KE⟩:=c4 (xs:=x.outs) (i:=0) (by grind[av,aL]);obtain⟨aBN,KF⟩:=c4 (xs:=x.outs) (i:=1) (by grind[av,aL]);cases Jr:(aBM==aBN) with
           | true=>
            rw[show aQ x=false from by grind[aQ,bU,b3,av]];exact akF ⟨h1,cG,da,di,di,n4,oW,p6,qW,yZ,Bh,(by grind[av,aL]),(by grind[av,aL]),(bQ bc KE),(by grind[av,aL]),(by grind[av,aL]),(bQ bc KF),Jr,aa⟩
           | false=>
            rcases hN x af with⟨cH,l⟩ | ⟨cH,l⟩
            ·skip
             rw[show aQ x=false from by grind[aQ,bU,b3,av]];exact akG ⟨h1,cG,da,di,di,n4,oW,p6,qW,yZ,Bh,(by grind[av,aL]),(by grind[av,aL]),(bQ bc KE),(by grind[av,aL]),(by grind[av,aL]),(bQ bc KF),Jr,l,aa⟩
            skip
            rw[show aQ x=true from by grind[aQ,bU,b3,av]];exact akH ⟨h1,cG,da,di,di,n4,oW,p6,qW,yZ,Bh,(by grind[av,aL]),(by grind[av,aL]),(bQ bc KE),(by grind[av,aL]),(by grind[av,aL]),(bQ bc KF),Jr,l,aa⟩
          | false=>
           rcases hN x af with⟨cH,l⟩ | ⟨cH,l⟩
           ·skip
            rw[show aQ x=false from by grind[aQ,bU,b3,av]];exact akI ⟨h1,cG,da,di,di,n4,oW,p6,qW,yZ,Bh,l,aa⟩
           skip
           rw[show aQ x=true from by grind[aQ,bU,b3,av]];exact akJ ⟨h1,cG,da,di,di,n4,oW,p6,qW,yZ,Bh,l,aa⟩
        | false=>
         cases Bi:((↑(x.outs.map bc).length:Int)==2) with
         | true=>
          obtain⟨aBO,KG⟩:=c4 (xs:=x.outs) (i:=0) (by grind[av,aL]);obtain⟨aBP,KH⟩:=c4 (xs:=x.outs) (i:=1) (by grind[av,aL]);cases Js:(aBO==aBP) with
          | true=>
           rw[show aQ x=false from by grind[aQ,bU,b3,av]];exact akK ⟨h1,cG,da,di,di,n4,oW,p6,qW,Bi,(by grind[av,aL]),(by grind[av,aL]),(bQ bc KG),(by grind[av,aL]),(by grind[av,aL]),(bQ bc KH),Js,aa⟩
          | false=>
           rcases hN x af with⟨cH,l⟩ | ⟨cH,l⟩
           ·skip
            rw[show aQ x=false from by grind[aQ,bU,b3,av]];exact akL ⟨h1,cG,da,di,di,n4,oW,p6,qW,Bi,(by grind[av,aL]),(by grind[av,aL]),(bQ bc KG),(by grind[av,aL]),(by grind[av,aL]),(bQ bc KH),Js,l,aa⟩
           skip
           rw[show aQ x=true from by grind[aQ,bU,b3,av]];exact akM ⟨h1,cG,da,di,di,n4,oW,p6,qW,Bi,(by grind[av,aL]),(by grind[av,aL]),(bQ bc KG),(by grind[av,aL]),(by grind[av,aL]),(bQ bc KH),Js,l,aa⟩
         | false=>
          rcases hN x af with⟨cH,l⟩ | ⟨cH,l⟩
          ·skip
           rw[show aQ x=false from by grind[aQ,bU,b3,av]];exact akN ⟨h1,cG,da,di,di,n4,oW,p6,qW,Bi,l,aa⟩
          skip
          rw[show aQ x=true from by grind[aQ,bU,b3,av]];exact akO ⟨h1,cG,da,di,di,n4,oW,p6,qW,Bi,l,aa⟩
    | false=>
     cases dQ:(x.kind==5) with
     | true=>
      cases n5:(x.a != 0) with
      | true=>
       rw[show aQ x=false from by grind[aQ,bU,b3,av]];exact akP ⟨h1,cG,da,di,dQ,dQ,n5,aa⟩
      | false=>
       cases oX:(x.b != 0) with
       | true=>
        rw[show aQ x=false from by grind[aQ,bU,b3,av]];exact akQ ⟨h1,cG,da,di,dQ,dQ,n5,oX,aa⟩
       | false=>
        cases mc:(decide ((↑(x.outs.map bc).length:Int)>2)) with
        | true=>
         rw[show aQ x=false from by grind[aQ,bU,b3,av]];exact akR ⟨h1,cG,da,di,dQ,dQ,n5,oX,mc,aa⟩
        | false=>
         cases qX:(x.kind==8) with
         | true=>
          cases y0:(decide ((↑(x.outs.map bc).length:Int)>0)) with
          | true=>
           rw[show aQ x=false from by grind[aQ,bU,b3,av]];exact akS ⟨h1,cG,da,di,dQ,dQ,n5,oX,mc,qX,y0,aa⟩
          | false=>
           cases Bj:((↑(x.outs.map bc).length:Int)==2) with
           | true=>
            obtain⟨aBQ,KI⟩:=c4 (xs:=x.outs) (i:=0) (by grind[av,aL]);obtain⟨aBR,KJ⟩:=c4 (xs:=x.outs) (i:=1) (by grind[av,aL]);cases Jt:(aBQ==aBR) with
            | true=>
             rw[show aQ x=false from by grind[aQ,bU,b3,av]];exact akT ⟨h1,cG,da,di,dQ,dQ,n5,oX,mc,qX,y0,Bj,(by grind[av,aL]),(by grind[av,aL]),(bQ bc KI),(by grind[av,aL]),(by grind[av,aL]),(bQ bc KJ),Jt,aa⟩
            | false=>
             rcases hN x af with⟨cH,l⟩ | ⟨cH,l⟩
             ·skip
              rw[show aQ x=false from by grind[aQ,bU,b3,av]];exact akU ⟨h1,cG,da,di,dQ,dQ,n5,oX,mc,qX,y0,Bj,(by grind[av,aL]),(by grind[av,aL]),(bQ bc KI),(by grind[av,aL]),(by grind[av,aL]),(bQ bc KJ),Jt,l,aa⟩
             skip
             rw[show aQ x=true from by grind[aQ,bU,b3,av]];exact akl ⟨h1,cG,da,di,dQ,dQ,n5,oX,mc,qX,y0,Bj,(by grind[av,aL]),(by grind[av,aL]),(bQ bc KI),(by grind[av,aL]),(by grind[av,aL]),(bQ bc KJ),Jt,l,aa⟩
           | false=>
            rcases hN x af with⟨cH,l⟩ | ⟨cH,l⟩
            ·skip
             rw[show aQ x=false from by grind[aQ,bU,b3,av]];exact akm ⟨h1,cG,da,di,dQ,dQ,n5,oX,mc,qX,y0,Bj,l,aa⟩
            skip
            rw[show aQ x=true from by grind[aQ,bU,b3,av]];exact akn ⟨h1,cG,da,di,dQ,dQ,n5,oX,mc,qX,y0,Bj,l,aa⟩
         | false=>
          cases Bk:((↑(x.outs.map bc).length:Int)==2) with
          | true=>
           obtain⟨aBS,KK⟩:=c4 (xs:=x.outs) (i:=0) (by grind[av,aL]);obtain⟨aBT,KL⟩:=c4 (xs:=x.outs) (i:=1) (by grind[av,aL]);cases Ju:(aBS==aBT) with
           | true=>
            rw[show aQ x=false from by grind[aQ,bU,b3,av]];exact ako ⟨h1,cG,da,di,dQ,dQ,n5,oX,mc,qX,Bk,(by grind[av,aL]),(by grind[av,aL]),(bQ bc KK),(by grind[av,aL]),(by grind[av,aL]),(bQ bc KL),Ju,aa⟩
           | false=>
            rcases hN x af with⟨cH,l⟩ | ⟨cH,l⟩
            ·skip
             rw[show aQ x=false from by grind[aQ,bU,b3,av]];exact akp ⟨h1,cG,da,di,dQ,dQ,n5,oX,mc,qX,Bk,(by grind[av,aL]),(by grind[av,aL]),(bQ bc KK),(by grind[av,aL]),(by grind[av,aL]),(bQ bc KL),Ju,l,aa⟩
            skip
            rw[show aQ x=true from by grind[aQ,bU,b3,av]];exact akq ⟨h1,cG,da,di,dQ,dQ,n5,oX,mc,qX,Bk,(by grind[av,aL]),(by grind[av,aL]),(bQ bc KK),(by grind[av,aL]),(by grind[av,aL]),(bQ bc KL),Ju,l,aa⟩
          | false=>
           rcases hN x af with⟨cH,l⟩ | ⟨cH,l⟩
           ·skip
            rw[show aQ x=false from by grind[aQ,bU,b3,av]];exact akr ⟨h1,cG,da,di,dQ,dQ,n5,oX,mc,qX,Bk,l,aa⟩
           skip
           rw[show aQ x=true from by grind[aQ,bU,b3,av]];exact aks ⟨h1,cG,da,di,dQ,dQ,n5,oX,mc,qX,Bk,l,aa⟩
     | false=>
      cases eM:(x.kind==6) with
      | true=>
       cases n9:(x.a != 0) with
       | true=>
        rw[show aQ x=false from by grind[aQ,bU,b3,av]];exact akt ⟨h1,cG,da,di,dQ,eM,eM,n9,aa⟩
       | false=>
        cases oY:(x.b != 0) with
        | true=>
         rw[show aQ x=false from by grind[aQ,bU,b3,av]];exact aku ⟨h1,cG,da,di,dQ,eM,eM,n9,oY,aa⟩
        | false=>
         cases p7:(decide ((↑(x.outs.map bc).length:Int)>2)) with
         | true=>
          rw[show aQ x=false from by grind[aQ,bU,b3,av]];exact alX ⟨h1,cG,da,di,dQ,eM,eM,n9,oY,p7,aa⟩
         | false=>
          cases qY:(x.kind==8) with
          | true=>
           cases y1:(decide ((↑(x.outs.map bc).length:Int)>0)) with
           | true=>
            rw[show aQ x=false from by grind[aQ,bU,b3,av]];exact alY ⟨h1,cG,da,di,dQ,eM,eM,n9,oY,p7,qY,y1,aa⟩
           | false=>
            cases Bl:((↑(x.outs.map bc).length:Int)==2) with
            | true=>
             obtain⟨aBU,KM⟩:=c4 (xs:=x.outs) (i:=0) (by grind[av,aL]);obtain⟨aBV,KN⟩:=c4 (xs:=x.outs) (i:=1) (by grind[av,aL]);cases Jv:(aBU==aBV) with
             | true=>
              rw[show aQ x=false from by grind[aQ,bU,b3,av]];exact alZ ⟨h1,cG,da,di,dQ,eM,eM,n9,oY,p7,qY,y1,Bl,(by grind[av,aL]),(by grind[av,aL]),(bQ bc KM),(by grind[av,aL]),(by grind[av,aL]),(bQ bc KN),Jv,aa⟩
             | false=>
              rcases hN x af with⟨cH,l⟩ | ⟨cH,l⟩
              ·skip
               rw[show aQ x=false from by grind[aQ,bU,b3,av]];exact al0 ⟨h1,cG,da,di,dQ,eM,eM,n9,oY,p7,qY,y1,Bl,(by grind[av,aL]),(by grind[av,aL]),(bQ bc KM),(by grind[av,aL]),(by grind[av,aL]),(bQ bc KN),Jv,l,aa⟩
              skip
              rw[show aQ x=true from by grind[aQ,bU,b3,av]];exact al1 ⟨h1,cG,da,di,dQ,eM,eM,n9,oY,p7,qY,y1,Bl,(by grind[av,aL]),(by grind[av,aL]),(bQ bc KM),(by grind[av,aL]),(by grind[av,aL]),(bQ bc KN),Jv,l,aa⟩
            | false=>
             rcases hN x af with⟨cH,l⟩ | ⟨cH,l⟩
             ·skip
              rw[show aQ x=false from by grind[aQ,bU,b3,av]];exact al2 ⟨h1,cG,da,di,dQ,eM,eM,n9,oY,p7,qY,y1,Bl,l,aa⟩
             skip
             rw[show aQ x=true from by grind[aQ,bU,b3,av]];exact al3 ⟨h1,cG,da,di,dQ,eM,eM,n9,oY,p7,qY,y1,Bl,l,aa⟩
          | false=>
           cases Bm:((↑(x.outs.map bc).length:Int)==2) with
           | true=>
            obtain⟨aBW,KO⟩:=c4 (xs:=x.outs) (i:=0) (by grind[av,aL]);obtain⟨aBX,KP⟩:=c4 (xs:=x.outs) (i:=1) (by grind[av,aL]);cases Jw:(aBW==aBX) with
            | true=>
             rw[show aQ x=false from by grind[aQ,bU,b3,av]];exact al4 ⟨h1,cG,da,di,dQ,eM,eM,n9,oY,p7,qY,Bm,(by grind[av,aL]),(by grind[av,aL]),(bQ bc KO),(by grind[av,aL]),(by grind[av,aL]),(bQ bc KP),Jw,aa⟩
            | false=>
             rcases hN x af with⟨cH,l⟩ | ⟨cH,l⟩
             ·skip
              rw[show aQ x=false from by grind[aQ,bU,b3,av]];exact al5 ⟨h1,cG,da,di,dQ,eM,eM,n9,oY,p7,qY,Bm,(by grind[av,aL]),(by grind[av,aL]),(bQ bc KO),(by grind[av,aL]),(by grind[av,aL]),(bQ bc KP),Jw,l,aa⟩
             skip
             rw[show aQ x=true from by grind[aQ,bU,b3,av]];exact al6 ⟨h1,cG,da,di,dQ,eM,eM,n9,oY,p7,qY,Bm,(by grind[av,aL]),(by grind[av,aL]),(bQ bc KO),(by grind[av,aL]),(by grind[av,aL]),(bQ bc KP),Jw,l,aa⟩
           | false=>
            rcases hN x af with⟨cH,l⟩ | ⟨cH,l⟩
            ·skip
             rw[show aQ x=false from by grind[aQ,bU,b3,av]];exact al7 ⟨h1,cG,da,di,dQ,eM,eM,n9,oY,p7,qY,Bm,l,aa⟩
            skip
            rw[show aQ x=true from by grind[aQ,bU,b3,av]];exact al8 ⟨h1,cG,da,di,dQ,eM,eM,n9,oY,p7,qY,Bm,l,aa⟩
      | false=>
       cases gd:(x.kind==7) with
       | true=>
        cases n':(x.a != 0) with
        | true=>
         rw[show aQ x=false from by grind[aQ,bU,b3,av]];exact al9 ⟨h1,cG,da,di,dQ,eM,gd,gd,n',aa⟩
        | false=>
         cases oZ:(x.b != 0) with
         | true=>
          rw[show aQ x=false from by grind[aQ,bU,b3,av]];exact ama ⟨h1,cG,da,di,dQ,eM,gd,gd,n',oZ,aa⟩
         | false=>
          cases p8:(decide ((↑(x.outs.map bc).length:Int)>2)) with
          | true=>
           rw[show aQ x=false from by grind[aQ,bU,b3,av]];exact amb ⟨h1,cG,da,di,dQ,eM,gd,gd,n',oZ,p8,aa⟩
          | false=>
           cases qZ:(x.kind==8) with
           | true=>
            cases y2:(decide ((↑(x.outs.map bc).length:Int)>0)) with
            | true=>
             rw[show aQ x=false from by grind[aQ,bU,b3,av]];exact amc ⟨h1,cG,da,di,dQ,eM,gd,gd,n',oZ,p8,qZ,y2,aa⟩
            | false=>
             cases Bn:((↑(x.outs.map bc).length:Int)==2) with
             | true=>
              obtain⟨aBY,KQ⟩:=c4 (xs:=x.outs) (i:=0) (by grind[av,aL]);obtain⟨aBZ,KR⟩:=c4 (xs:=x.outs) (i:=1) (by grind[av,aL]);cases Jx:(aBY==aBZ) with
              | true=>
               rw[show aQ x=false from by grind[aQ,bU,b3,av]];exact amd ⟨h1,cG,da,di,dQ,eM,gd,gd,n',oZ,p8,qZ,y2,Bn,(by grind[av,aL]),(by grind[av,aL]),(bQ bc KQ),(by grind[av,aL]),(by grind[av,aL]),(bQ bc KR),Jx,aa⟩
              | false=>
               rcases hN x af with⟨cH,l⟩ | ⟨cH,l⟩
               ·skip
                rw[show aQ x=false from by grind[aQ,bU,b3,av]];exact ame ⟨h1,cG,da,di,dQ,eM,gd,gd,n',oZ,p8,qZ,y2,Bn,(by grind[av,aL]),(by grind[av,aL]),(bQ bc KQ),(by grind[av,aL]),(by grind[av,aL]),(bQ bc KR),Jx,l,aa⟩
               skip
               rw[show aQ x=true from by grind[aQ,bU,b3,av]];exact amf ⟨h1,cG,da,di,dQ,eM,gd,gd,n',oZ,p8,qZ,y2,Bn,(by grind[av,aL]),(by grind[av,aL]),(bQ bc KQ),(by grind[av,aL]),(by grind[av,aL]),(bQ bc KR),Jx,l,aa⟩
             | false=>
              rcases hN x af with⟨cH,l⟩ | ⟨cH,l⟩
              ·skip
               rw[show aQ x=false from by grind[aQ,bU,b3,av]];exact amg ⟨h1,cG,da,di,dQ,eM,gd,gd,n',oZ,p8,qZ,y2,Bn,l,aa⟩
              skip
              rw[show aQ x=true from by grind[aQ,bU,b3,av]];exact amh ⟨h1,cG,da,di,dQ,eM,gd,gd,n',oZ,p8,qZ,y2,Bn,l,aa⟩
           | false=>
            cases Bo:((↑(x.outs.map bc).length:Int)==2) with
            | true=>
             obtain⟨aBI,Kq⟩:=c4 (xs:=x.outs) (i:=0) (by grind[av,aL]);obtain⟨aBJ,Kr⟩:=c4 (xs:=x.outs) (i:=1) (by grind[av,aL]);cases Jm:(aBI==aBJ) with
             | true=>
              rw[show aQ x=false from by grind[aQ,bU,b3,av]];exact ami ⟨h1,cG,da,di,dQ,eM,gd,gd,n',oZ,p8,qZ,Bo,(by grind[av,aL]),(by grind[av,aL]),(bQ bc Kq),(by grind[av,aL]),(by grind[av,aL]),(bQ bc Kr),Jm,aa⟩
             | false=>
              rcases hN x af with⟨cH,l⟩ | ⟨cH,l⟩
              ·skip
               rw[show aQ x=false from by grind[aQ,bU,b3,av]];exact amj ⟨h1,cG,da,di,dQ,eM,gd,gd,n',oZ,p8,qZ,Bo,(by grind[av,aL]),(by grind[av,aL]),(bQ bc Kq),(by grind[av,aL]),(by grind[av,aL]),(bQ bc Kr),Jm,l,aa⟩
              skip
              rw[show aQ x=true from by grind[aQ,bU,b3,av]];exact amk ⟨h1,cG,da,di,dQ,eM,gd,gd,n',oZ,p8,qZ,Bo,(by grind[av,aL]),(by grind[av,aL]),(bQ bc Kq),(by grind[av,aL]),(by grind[av,aL]),(bQ bc Kr),Jm,l,aa⟩
            | false=>
             rcases hN x af with⟨cH,l⟩ | ⟨cH,l⟩
             ·skip
              rw[show aQ x=false from by grind[aQ,bU,b3,av]];exact aml ⟨h1,cG,da,di,dQ,eM,gd,gd,n',oZ,p8,qZ,Bo,l,aa⟩
             skip
             rw[show aQ x=true from by grind[aQ,bU,b3,av]];exact amm ⟨h1,cG,da,di,dQ,eM,gd,gd,n',oZ,p8,qZ,Bo,l,aa⟩
       | false=>
        cases mN:(x.kind==8) with
        | true=>
         cases tw:(x.a != 0) with
         | true=>
          rw[show aQ x=false from by grind[aQ,bU,b3,av]];exact alx ⟨h1,cG,da,di,dQ,eM,gd,mN,tw,aa⟩
         | false=>
          cases uW:(x.b != 0) with
          | true=>
           rw[show aQ x=false from by grind[aQ,bU,b3,av]];exact aly ⟨h1,cG,da,di,dQ,eM,gd,mN,tw,uW,aa⟩
          | false=>
           cases wQ:(decide ((↑(x.outs.map bc).length:Int)>2)) with
           | true=>
            rw[show aQ x=false from by grind[aQ,bU,b3,av]];exact alz ⟨h1,cG,da,di,dQ,eM,gd,mN,tw,uW,wQ,aa⟩
           | false=>
            cases yW:(decide ((↑(x.outs.map bc).length:Int)>0)) with
            | true=>
             rw[show aQ x=false from by grind[aQ,bU,b3,av]];exact alA ⟨h1,cG,da,di,dQ,eM,gd,mN,tw,uW,wQ,mN,yW,aa⟩
            | false=>
             cases Bc:((↑(x.outs.map bc).length:Int)==2) with
             | true=>
              obtain⟨aBK,Ks⟩:=c4 (xs:=x.outs) (i:=0) (by grind[av,aL]);obtain⟨aBL,Kt⟩:=c4 (xs:=x.outs) (i:=1) (by grind[av,aL]);cases Jn:(aBK==aBL) with
              | true=>
               rw[show aQ x=false from by grind[aQ,bU,b3,av]];exact alB ⟨h1,cG,da,di,dQ,eM,gd,mN,tw,uW,wQ,mN,yW,Bc,(by grind[av,aL]),(by grind[av,aL]),(bQ bc Ks),(by grind[av,aL]),(by grind[av,aL]),(bQ bc Kt),Jn,aa⟩
              | false=>
               rcases hN x af with⟨cH,l⟩ | ⟨cH,l⟩
               ·skip
                rw[show aQ x=false from by grind[aQ,bU,b3,av]];exact alC ⟨h1,cG,da,di,dQ,eM,gd,mN,tw,uW,wQ,mN,yW,Bc,(by grind[av,aL]),(by grind[av,aL]),(bQ bc Ks),(by grind[av,aL]),(by grind[av,aL]),(bQ bc Kt),Jn,l,aa⟩
               skip
               rw[show aQ x=true from by grind[aQ,bU,b3,av]];exact alD ⟨h1,cG,da,di,dQ,eM,gd,mN,tw,uW,wQ,mN,yW,Bc,(by grind[av,aL]),(by grind[av,aL]),(bQ bc Ks),(by grind[av,aL]),(by grind[av,aL]),(bQ bc Kt),Jn,l,aa⟩
             | false=>
              rcases hN x af with⟨cH,l⟩ | ⟨cH,l⟩
              ·skip
               rw[show aQ x=false from by grind[aQ,bU,b3,av]];exact alE ⟨h1,cG,da,di,dQ,eM,gd,mN,tw,uW,wQ,mN,yW,Bc,l,aa⟩
              skip
              rw[show aQ x=true from by grind[aQ,bU,b3,av]];exact alF ⟨h1,cG,da,di,dQ,eM,gd,mN,tw,uW,wQ,mN,yW,Bc,l,aa⟩
        | false=>
         rw[show aQ x=false from by grind[aQ,bU,b3,av]];exact alG ⟨h1,cG,da,di,dQ,eM,gd,mN,aa⟩
