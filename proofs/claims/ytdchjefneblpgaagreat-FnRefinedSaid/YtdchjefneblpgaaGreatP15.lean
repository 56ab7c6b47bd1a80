import Derived.Test.YtdchjefneblpgaaGreatQ2
import Derived.Test.YtdchjefneblpgaaGreatGQ
import Derived.Test.YtdchjefneblpgaaGreatGR
set_option linter.unusedVariables false
set_option linter.unusedSimpArgs false
namespace Go.Proofs.YtdchjefneblpgaaGreat
open Go.Sx Go.RowKit Go.Proofs.Tryz
def iw(s:gz):Bool:=aw s.bd 0 3&&aw s.dC 0 6
def fD(k v:Int):Bool:=aw k 0 99&&aw v 0 999
def fE(r:aq):Bool:=aw r.op 0 7&&iw r.bq&&fD r.key r.val
def fl(s:gz):gz×Bool:=if iw s&&decide (s.dC<6) then (⟨s.bd,s.dC+1⟩,true) else (s,false)
def less(a b:Int):Int:=if b<a then b else a
def bR(x:Node):Bool:=
 if x.kind=2 then aw x.a 0 999&&x.b==0
 else if x.kind=3 then aw x.a 1 10&&aw x.b 0 (IntKind.i64.wrap (x.a-1))
 else if x.kind=4 then aw x.a 0 99&&x.b==0
 else aw x.kind 1 8&&x.a==0&&x.b==0
def ov(l:List Int):Bool:=!(l.any fun k=>!aw k 0 7)
def b3(l:List Int):Bool:=decide (l.length=2/\l[0]?=l[1]?)
def aM(x:Node):Bool:=bR x&&decide (x.outs.length<=2)&&!(x.kind==8&&decide (0<x.outs.length))&&!b3 x.outs&&ov x.outs
theorem look{α:Type}{xs:List α}{i:Int}(bG:0<=i)(h1:i<xs.length):∃a,xs[i.toNat]?=some a:=c9 (by omega)
theorem bN{α:Type}{xs:List α}{i:Nat}{a:α}(f:α->List D)(h:xs[i]?=some a):(xs.map f)[i]?=some (f a):=by simp[h]
theorem h4(x:Node)(ah:x.outs.length<=8388608):(ov x.outs=false/\c5 prog (ar f273 0) (dR (x.outs.map bh) 0) .ret (hl false))\/(ov x.outs=true/\c5 prog (ar f273 0) (dR (x.outs.map bh) 0) (.exit 1) hB):=by
 have l:=gN (P:=prog) (c:=(ar f273 0)) x.outs (fun k=>!aw k 0 7) (fun i=>dR (x.outs.map bh) i) (X:=fun _ _=>hl false) e0 (cH 1)
  (fun i a ak h=>aiM ⟨b5 (aT ak),bD,bK (aT ak),bE bh ak,lH a 0 7,h,dj (aT ak) ah,aa⟩)
  (fun i a ak h=>aiL ⟨b5 (aT ak),bD,bK (aT ak),bE bh ak,lH a 0 7,h,aa⟩)
  (aiN ⟨dT,aa⟩)
 unfold ov;rcases l with⟨_,_,h1,U⟩ | ⟨i,a,_,_,_,_,h1,U⟩
 ·exact .inr ⟨by rw[h1];rfl,U⟩
 exact .inl ⟨by rw[h1];rfl,U⟩
theorem vF(x:Node)(ah:x.outs.length<=2):((ov x.outs&&!b3 x.outs)=false/\c5 prog (ar f243 0) (iJ x.kind x.a x.b (x.outs.map bh) 0) .ret (rh false))\/((ov x.outs&&!b3 x.outs)=true/\c5 prog (ar f243 0) (iJ x.kind x.a x.b (x.outs.map bh) 0) (.exit 1) sD):=by
 obtain⟨R5,a,b,outs⟩:=x;have cl:=fun k=>jy k 0 7
 match outs,ah with
 | [],_=>exact .inr ⟨rfl,.last (cH 1) (Me ⟨rfl,aa⟩)⟩
 | [k],_=>
  cases h1:aw k 0 7 with
  | false=>exact .inl ⟨by simp[ov,h1],.last e0 (Md ⟨rfl,by omega,by simp,rfl,cl k,by rw[h1];rfl,aa⟩)⟩
  | true=>
   refine .inr ⟨by simp[ov,b3,h1],.more (UQ ⟨rfl,by omega,by simp,rfl,cl k,by rw[h1];rfl,rfl,⟨by omega,by omega⟩,aa⟩) (.last (cH 1) (Me ⟨rfl,aa⟩))⟩
 | [k,m],_=>
  cases h1:aw k 0 7 with
  | false=>exact .inl ⟨by simp[ov,h1],.last e0 (Md ⟨rfl,by omega,by simp,rfl,cl k,by rw[h1];rfl,aa⟩)⟩
  | true=>
   have first:fT prog (ar f243 0) (iJ R5 a b ([k,m].map bh) 0) .normal (iJ R5 a b ([k,m].map bh) (0+1)):=UQ ⟨rfl,by omega,by simp,rfl,cl k,by rw[h1];rfl,rfl,⟨by omega,by omega⟩,aa⟩
   cases U:aw m 0 7 with
   | false=>exact .inl ⟨by simp[ov,h1,U],.more first (.last e0 (Md ⟨rfl,by omega,by simp,rfl,cl m,by rw[U];rfl,aa⟩))⟩
   | true=>
    cases ax:(k==m) with
    | true=>exact .inl ⟨by simp[ov,b3,h1,U]at ax ⊢;exact ax,.more first (.last e0 (ahi ⟨rfl,by omega,by simp,rfl,cl m,by rw[U];rfl,rfl,by omega,by simp,rfl,by omega,by simp,rfl,ax,aa⟩))⟩
    | false=>exact .inr ⟨by simp[ov,b3,h1,U]at ax ⊢;exact ax,.more first (.more (ahj ⟨rfl,by omega,by simp,rfl,cl m,by rw[U];rfl,rfl,by omega,by simp,rfl,by omega,by simp,rfl,ax,⟨by omega,by omega⟩,aa⟩) (.last (cH 1) (Me ⟨rfl,aa⟩)))⟩
theorem UR(s:gz):al 244 [.agg s.e] [.one (B (iw s))]:=by
 have c1:=jy s.bd 0 3;cases U:(aw s.bd 0 3) with
 | true=>
  have cM:=jy s.dC 0 6;rw[show iw s=aw s.dC 0 6 from by grind[iw]];exact ahC ⟨c1,U,cM,aa⟩
 | false=>
  rw[show iw s=false from by grind[iw]];exact ahD ⟨c1,U,aa⟩
theorem US(s:gz):al 274 [.agg s.e] [.one (B (iw s))]:=by
 have c1:=lH s.bd 0 3;cases U:(aw s.bd 0 3) with
 | true=>
  have cM:=lH s.dC 0 6;rw[show iw s=aw s.dC 0 6 from by grind[iw]];exact ahE ⟨c1,U,cM,aa⟩
 | false=>
  rw[show iw s=false from by grind[iw]];exact ahF ⟨c1,U,aa⟩
theorem UT(k v:Int):al 275 [.one (I k),.one (I v)] [.one (B (fD k v))]:=by
 have c1:=lH k 0 99;cases U:(aw k 0 99) with
 | true=>
  have cM:=lH v 0 999;rw[show fD k v=aw v 0 999 from by grind[fD]];exact ahb ⟨c1,U,cM,aa⟩
 | false=>
  rw[show fD k v=false from by grind[fD]];exact ahc ⟨c1,U,aa⟩
theorem tV(r:aq):al 122 [.agg r.e] [.one (B (fE r))]:=by
 have c1:=jy r.op 0 7;cases U:(aw r.op 0 7) with
 | true=>
  have cM:=UR r.bq;cases aF:(iw r.bq) with
  | true=>
   have hf:=jy r.key 0 99;cases bB:(aw r.key 0 99) with
   | true=>
    have Il:=jy r.val 0 999;rw[show fE r=aw r.val 0 999 from by grind[fE,fD]];exact af4 ⟨c1,U,cM,aF,hf,bB,Il,aa⟩
   | false=>
    rw[show fE r=false from by grind[fE,fD]];exact af5 ⟨c1,U,cM,aF,hf,bB,aa⟩
  | false=>
   rw[show fE r=false from by grind[fE,fD]];exact ahx ⟨c1,U,cM,aF,aa⟩
 | false=>
  rw[show fE r=false from by grind[fE,fD]];exact ahy ⟨c1,U,aa⟩
theorem vG(r:aq):al 180 [.agg r.e] [.one (B (fE r))]:=by
 have c1:=lH r.op 0 7;cases U:(aw r.op 0 7) with
 | true=>
  have cM:=US r.bq;cases aF:(iw r.bq) with
  | true=>
   have hf:=UT r.key r.val;rw[show fE r=fD r.key r.val from by grind[fE,fD]];exact ahz ⟨c1,U,cM,aF,hf,aa⟩
  | false=>
   rw[show fE r=false from by grind[fE,fD]];exact ahA ⟨c1,U,cM,aF,aa⟩
 | false=>
  rw[show fE r=false from by grind[fE,fD]];exact ahB ⟨c1,U,aa⟩
theorem y0(s:gz):al 270 [.agg s.e] [.agg ((fl s).1).e,.one (B ((fl s).2))]:=by
 have c1:=UR s;cases U:(iw s) with
 | true=>
  cases ax:(decide (s.dC>=6)) with
  | true=>
   rw[show fl s=(s,false) from by grind[fl,iw,aw]];exact ahH ⟨c1,(by rw[U];rfl),ax,aa⟩
  | false=>
   rw[show fl s=((⟨s.bd,s.dC+1⟩:gz),true) from by grind[fl,iw,aw]];exact ahI ⟨c1,(by rw[U];rfl),ax,(by grind[iw,aw,aD]),aa⟩
 | false=>
  rw[show fl s=(s,false) from by grind[fl,iw,aw]];exact ahG ⟨c1,(by rw[U];rfl),aa⟩
theorem Mf(s:gz):al 300 [.agg s.e] [.agg ((fl s).1).e,.one (B ((fl s).2))]:=by
 have c1:=US s;cases U:(iw s) with
 | true=>
  cases ax:(s.dC==6) with
  | true=>
   rw[show fl s=(s,false) from by grind[fl,iw,aw]];exact ahK ⟨c1,(by rw[U];rfl),ax,aa⟩
  | false=>
   rw[show fl s=((⟨s.bd,s.dC+1⟩:gz),true) from by grind[fl,iw,aw]];exact ahL ⟨c1,(by rw[U];rfl),ax,(by grind[iw,aw,aD]),aa⟩
 | false=>
  rw[show fl s=(s,false) from by grind[fl,iw,aw]];exact ahJ ⟨c1,(by rw[U];rfl),aa⟩
theorem ai3(a b:Int):al 323 [.one (I a),.one (I b)] [.one (I (less a b))]:=by
 cases h1:(decide (b<a)) with
 | true=>
  rw[show less a b=b from by grind[less]];exact ag9 ⟨h1,aa⟩
 | false=>
  rw[show less a b=a from by grind[less]];exact aha ⟨h1,aa⟩
theorem UU(x:Node)(ah:x.outs.length<=8388608):al 243 [.agg x.e] [.one (B (aM x))]:=by
 cases h1:(x.kind==2) with
 | true=>
  have c2:=jy x.a 0 999;have cM:=jy x.kind 1 8;cases aF:(aw x.kind 1 8) with
  | true=>
   cases aZ:(aw x.a 0 999) with
   | true=>
    cases bB:(x.b==0) with
    | true=>
     cases bS:(decide ((↑(x.outs.map bh).length:Int)>2)) with
     | true=>
      rw[show aM x=false from by grind[aM,bR,b3,aw]];exact ahg ⟨h1,c2,cM,(by rw[aF];rfl),(by rw[aZ];rfl),(by rw[bB];rfl),bS,aa⟩
     | false=>
      cases dv:(x.kind==8) with
      | true=>
       cases eu:(decide ((↑(x.outs.map bh).length:Int)>0)) with
       | true=>
        rw[show aM x=false from by grind[aM,bR,b3,aw]];exact ahh ⟨h1,c2,cM,(by rw[aF];rfl),(by rw[aZ];rfl),(by rw[bB];rfl),bS,dv,eu,aa⟩
       | false=>
        rcases vF x (by grind) with⟨cz,l⟩ | ⟨cz,l⟩
        ·skip
         rw[show aM x=false from by grind[aM,bR,b3,aw]];exact ahk ⟨h1,c2,cM,(by rw[aF];rfl),(by rw[aZ];rfl),(by rw[bB];rfl),bS,dv,eu,l,aa⟩
        skip
        rw[show aM x=true from by grind[aM,bR,b3,aw]];exact ahl ⟨h1,c2,cM,(by rw[aF];rfl),(by rw[aZ];rfl),(by rw[bB];rfl),bS,dv,eu,l,aa⟩
      | false=>
       rcases vF x (by grind) with⟨cz,l⟩ | ⟨cz,l⟩
       ·skip
        rw[show aM x=false from by grind[aM,bR,b3,aw]];exact ahm ⟨h1,c2,cM,(by rw[aF];rfl),(by rw[aZ];rfl),(by rw[bB];rfl),bS,dv,l,aa⟩
       skip
       rw[show aM x=true from by grind[aM,bR,b3,aw]];exact ahn ⟨h1,c2,cM,(by rw[aF];rfl),(by rw[aZ];rfl),(by rw[bB];rfl),bS,dv,l,aa⟩
    | false=>
     rw[show aM x=false from by grind[aM,bR,b3,aw]];exact ahf ⟨h1,c2,cM,(by rw[aF];rfl),(by rw[aZ];rfl),(by rw[bB];rfl),aa⟩
   | false=>
    rw[show aM x=false from by grind[aM,bR,b3,aw]];exact ahe ⟨h1,c2,cM,(by rw[aF];rfl),(by rw[aZ];rfl),aa⟩
  | false=>
   rw[show aM x=false from by grind[aM,bR,b3,aw]];exact ahd ⟨h1,c2,cM,(by rw[aF];rfl),aa⟩
 | false=>
  cases dW:(x.kind==3) with
  | true=>
   have qC:=jy x.a 1 10;have oV:=jy x.b 0 (IntKind.i64.wrap (x.a-1));have n2:=jy x.kind 1 8;cases mf:(aw x.kind 1 8) with
   | true=>
    cases kn:(aw x.a 1 10) with
    | true=>
     cases cE:(aw x.b 0 (IntKind.i64.wrap (x.a-1))) with
     | true=>
      cases rZ:(decide ((↑(x.outs.map bh).length:Int)>2)) with
      | true=>
       rw[show aM x=false from by grind[aM,bR,b3,aw]];exact ahr ⟨h1,dW,qC,oV,n2,(by rw[mf];rfl),(by rw[kn];rfl),(by rw[cE];rfl),rZ,aa⟩
      | false=>
       cases hZ:(x.kind==8) with
       | true=>
        cases IF:(decide ((↑(x.outs.map bh).length:Int)>0)) with
        | true=>
         rw[show aM x=false from by grind[aM,bR,b3,aw]];exact ahs ⟨h1,dW,qC,oV,n2,(by rw[mf];rfl),(by rw[kn];rfl),(by rw[cE];rfl),rZ,hZ,IF,aa⟩
        | false=>
         rcases vF x (by grind) with⟨cz,l⟩ | ⟨cz,l⟩
         ·skip
          rw[show aM x=false from by grind[aM,bR,b3,aw]];exact aht ⟨h1,dW,qC,oV,n2,(by rw[mf];rfl),(by rw[kn];rfl),(by rw[cE];rfl),rZ,hZ,IF,l,aa⟩
         skip
         rw[show aM x=true from by grind[aM,bR,b3,aw]];exact ahu ⟨h1,dW,qC,oV,n2,(by rw[mf];rfl),(by rw[kn];rfl),(by rw[cE];rfl),rZ,hZ,IF,l,aa⟩
       | false=>
        rcases vF x (by grind) with⟨cz,l⟩ | ⟨cz,l⟩
        ·skip
         rw[show aM x=false from by grind[aM,bR,b3,aw]];exact ahv ⟨h1,dW,qC,oV,n2,(by rw[mf];rfl),(by rw[kn];rfl),(by rw[cE];rfl),rZ,hZ,l,aa⟩
        skip
        rw[show aM x=true from by grind[aM,bR,b3,aw]];exact ahw ⟨h1,dW,qC,oV,n2,(by rw[mf];rfl),(by rw[kn];rfl),(by rw[cE];rfl),rZ,hZ,l,aa⟩
     | false=>
      rw[show aM x=false from by grind[aM,bR,b3,aw]];exact ahq ⟨h1,dW,qC,oV,n2,(by rw[mf];rfl),(by rw[kn];rfl),(by rw[cE];rfl),aa⟩
    | false=>
     rw[show aM x=false from by grind[aM,bR,b3,aw]];exact ahp ⟨h1,dW,qC,oV,n2,(by rw[mf];rfl),(by rw[kn];rfl),aa⟩
   | false=>
    rw[show aM x=false from by grind[aM,bR,b3,aw]];exact aho ⟨h1,dW,qC,oV,n2,(by rw[mf];rfl),aa⟩
  | false=>
   cases fv:(x.kind==4) with
   | true=>
    have n3:=jy x.a 0 99;have s5:=jy x.kind 1 8;cases kL:(aw x.kind 1 8) with
    | true=>
     cases od:(aw x.a 0 99) with
     | true=>
      cases qG:(x.b==0) with
      | true=>
       cases qH:(decide ((↑(x.outs.map bh).length:Int)>2)) with
       | true=>
        rw[show aM x=false from by grind[aM,bR,b3,aw]];exact ag0 ⟨h1,dW,fv,n3,s5,(by rw[kL];rfl),(by rw[od];rfl),(by rw[qG];rfl),qH,aa⟩
       | false=>
        cases tf:(x.kind==8) with
        | true=>
         cases oZ:(decide ((↑(x.outs.map bh).length:Int)>0)) with
         | true=>
          rw[show aM x=false from by grind[aM,bR,b3,aw]];exact ag1 ⟨h1,dW,fv,n3,s5,(by rw[kL];rfl),(by rw[od];rfl),(by rw[qG];rfl),qH,tf,oZ,aa⟩
         | false=>
          rcases vF x (by grind) with⟨cz,l⟩ | ⟨cz,l⟩
          ·skip
           rw[show aM x=false from by grind[aM,bR,b3,aw]];exact ag2 ⟨h1,dW,fv,n3,s5,(by rw[kL];rfl),(by rw[od];rfl),(by rw[qG];rfl),qH,tf,oZ,l,aa⟩
          skip
          rw[show aM x=true from by grind[aM,bR,b3,aw]];exact ag3 ⟨h1,dW,fv,n3,s5,(by rw[kL];rfl),(by rw[od];rfl),(by rw[qG];rfl),qH,tf,oZ,l,aa⟩
        | false=>
         rcases vF x (by grind) with⟨cz,l⟩ | ⟨cz,l⟩
         ·skip
          rw[show aM x=false from by grind[aM,bR,b3,aw]];exact ag4 ⟨h1,dW,fv,n3,s5,(by rw[kL];rfl),(by rw[od];rfl),(by rw[qG];rfl),qH,tf,l,aa⟩
         skip
         rw[show aM x=true from by grind[aM,bR,b3,aw]];exact ag5 ⟨h1,dW,fv,n3,s5,(by rw[kL];rfl),(by rw[od];rfl),(by rw[qG];rfl),qH,tf,l,aa⟩
      | false=>
       rw[show aM x=false from by grind[aM,bR,b3,aw]];exact agZ ⟨h1,dW,fv,n3,s5,(by rw[kL];rfl),(by rw[od];rfl),(by rw[qG];rfl),aa⟩
     | false=>
      rw[show aM x=false from by grind[aM,bR,b3,aw]];exact agY ⟨h1,dW,fv,n3,s5,(by rw[kL];rfl),(by rw[od];rfl),aa⟩
    | false=>
     rw[show aM x=false from by grind[aM,bR,b3,aw]];exact agX ⟨h1,dW,fv,n3,s5,(by rw[kL];rfl),aa⟩
   | false=>
    have s6:=jy x.kind 1 8;cases tg:(aw x.kind 1 8) with
    | true=>
     cases pQ:(x.a==0) with
     | true=>
      cases c8:(x.b==0) with
      | true=>
       cases yq:(decide ((↑(x.outs.map bh).length:Int)>2)) with
       | true=>
        rw[show aM x=false from by grind[aM,bR,b3,aw]];exact aiA ⟨h1,dW,fv,s6,(by rw[tg];rfl),(by rw[pQ];rfl),(by rw[c8];rfl),yq,aa⟩
       | false=>
        cases k':(x.kind==8) with
        | true=>
         cases mh:(decide ((↑(x.outs.map bh).length:Int)>0)) with
         | true=>
          rw[show aM x=false from by grind[aM,bR,b3,aw]];exact aiB ⟨h1,dW,fv,s6,(by rw[tg];rfl),(by rw[pQ];rfl),(by rw[c8];rfl),yq,k',mh,aa⟩
         | false=>
          rcases vF x (by grind) with⟨cz,l⟩ | ⟨cz,l⟩
          ·skip
           rw[show aM x=false from by grind[aM,bR,b3,aw]];exact aiC ⟨h1,dW,fv,s6,(by rw[tg];rfl),(by rw[pQ];rfl),(by rw[c8];rfl),yq,k',mh,l,aa⟩
          skip
          rw[show aM x=true from by grind[aM,bR,b3,aw]];exact aiD ⟨h1,dW,fv,s6,(by rw[tg];rfl),(by rw[pQ];rfl),(by rw[c8];rfl),yq,k',mh,l,aa⟩
        | false=>
         rcases vF x (by grind) with⟨cz,l⟩ | ⟨cz,l⟩
         ·skip
          rw[show aM x=false from by grind[aM,bR,b3,aw]];exact aiE ⟨h1,dW,fv,s6,(by rw[tg];rfl),(by rw[pQ];rfl),(by rw[c8];rfl),yq,k',l,aa⟩
         skip
         rw[show aM x=true from by grind[aM,bR,b3,aw]];exact aiF ⟨h1,dW,fv,s6,(by rw[tg];rfl),(by rw[pQ];rfl),(by rw[c8];rfl),yq,k',l,aa⟩
      | false=>
       rw[show aM x=false from by grind[aM,bR,b3,aw]];exact aiz ⟨h1,dW,fv,s6,(by rw[tg];rfl),(by rw[pQ];rfl),(by rw[c8];rfl),aa⟩
     | false=>
      rw[show aM x=false from by grind[aM,bR,b3,aw]];exact aiy ⟨h1,dW,fv,s6,(by rw[tg];rfl),(by rw[pQ];rfl),aa⟩
    | false=>
     rw[show aM x=false from by grind[aM,bR,b3,aw]];exact ag6 ⟨h1,dW,fv,s6,(by rw[tg];rfl),aa⟩
theorem UW(x:Node)(ah:x.outs.length<=8388608):al 273 [.agg x.e] [.one (B (aM x))]:=by
 cases h1:(x.kind==2) with
 | true=>
  have c2:=lH x.a 0 999;cases ax:(aw x.a 0 999) with
  | true=>
   cases aF:(x.b != 0) with
   | true=>
    rw[show aM x=false from by grind[aM,bR,b3,aw]];exact aiH ⟨h1,c2,(by rw[ax];rfl),aF,aa⟩
   | false=>
    cases aZ:(decide ((↑(x.outs.map bh).length:Int)>2)) with
    | true=>
     rw[show aM x=false from by grind[aM,bR,b3,aw]];exact aiI ⟨h1,c2,(by rw[ax];rfl),aF,aZ,aa⟩
    | false=>
     cases bB:(x.kind==8) with
     | true=>
      cases bS:(decide ((↑(x.outs.map bh).length:Int)>0)) with
      | true=>
       rw[show aM x=false from by grind[aM,bR,b3,aw]];exact aiJ ⟨h1,c2,(by rw[ax];rfl),aF,aZ,bB,bS,aa⟩
      | false=>
       cases dv:((↑(x.outs.map bh).length:Int)==2) with
       | true=>
        obtain⟨HR,tx⟩:=c9 (xs:=x.outs) (i:=0) (by grind[aw,aD]);obtain⟨Hm,JI⟩:=c9 (xs:=x.outs) (i:=1) (by grind[aw,aD]);cases iS:(HR==Hm) with
        | true=>
         rw[show aM x=false from by grind[aM,bR,b3,aw]];exact aiK ⟨h1,c2,(by rw[ax];rfl),aF,aZ,bB,bS,dv,(by grind[aw,aD]),(by grind[aw,aD]),(bN bh tx),(by grind[aw,aD]),(by grind[aw,aD]),(bN bh JI),iS,aa⟩
        | false=>
         rcases h4 x ah with⟨cz,l⟩ | ⟨cz,l⟩
         ·skip
          rw[show aM x=false from by grind[aM,bR,b3,aw]];exact aiO ⟨h1,c2,(by rw[ax];rfl),aF,aZ,bB,bS,dv,(by grind[aw,aD]),(by grind[aw,aD]),(bN bh tx),(by grind[aw,aD]),(by grind[aw,aD]),(bN bh JI),iS,l,aa⟩
         skip
         rw[show aM x=true from by grind[aM,bR,b3,aw]];exact aiP ⟨h1,c2,(by rw[ax];rfl),aF,aZ,bB,bS,dv,(by grind[aw,aD]),(by grind[aw,aD]),(bN bh tx),(by grind[aw,aD]),(by grind[aw,aD]),(bN bh JI),iS,l,aa⟩
       | false=>
        rcases h4 x ah with⟨cz,l⟩ | ⟨cz,l⟩
        ·skip
         rw[show aM x=false from by grind[aM,bR,b3,aw]];exact aiQ ⟨h1,c2,(by rw[ax];rfl),aF,aZ,bB,bS,dv,l,aa⟩
        skip
        rw[show aM x=true from by grind[aM,bR,b3,aw]];exact aiR ⟨h1,c2,(by rw[ax];rfl),aF,aZ,bB,bS,dv,l,aa⟩
     | false=>
      cases jq:((↑(x.outs.map bh).length:Int)==2) with
      | true=>
       obtain⟨Hn,JN⟩:=c9 (xs:=x.outs) (i:=0) (by grind[aw,aD]);obtain⟨Db,JO⟩:=c9 (xs:=x.outs) (i:=1) (by grind[aw,aD]);cases kn:(Hn==Db) with
       | true=>
        rw[show aM x=false from by grind[aM,bR,b3,aw]];exact aiS ⟨h1,c2,(by rw[ax];rfl),aF,aZ,bB,jq,(by grind[aw,aD]),(by grind[aw,aD]),(bN bh JN),(by grind[aw,aD]),(by grind[aw,aD]),(bN bh JO),kn,aa⟩
       | false=>
        rcases h4 x ah with⟨cz,l⟩ | ⟨cz,l⟩
        ·skip
         rw[show aM x=false from by grind[aM,bR,b3,aw]];exact aiT ⟨h1,c2,(by rw[ax];rfl),aF,aZ,bB,jq,(by grind[aw,aD]),(by grind[aw,aD]),(bN bh JN),(by grind[aw,aD]),(by grind[aw,aD]),(bN bh JO),kn,l,aa⟩
        skip
        rw[show aM x=true from by grind[aM,bR,b3,aw]];exact aiU ⟨h1,c2,(by rw[ax];rfl),aF,aZ,bB,jq,(by grind[aw,aD]),(by grind[aw,aD]),(bN bh JN),(by grind[aw,aD]),(by grind[aw,aD]),(bN bh JO),kn,l,aa⟩
      | false=>
       rcases h4 x ah with⟨cz,l⟩ | ⟨cz,l⟩
       ·skip
        rw[show aM x=false from by grind[aM,bR,b3,aw]];exact aiV ⟨h1,c2,(by rw[ax];rfl),aF,aZ,bB,jq,l,aa⟩
       skip
       rw[show aM x=true from by grind[aM,bR,b3,aw]];exact aiW ⟨h1,c2,(by rw[ax];rfl),aF,aZ,bB,jq,l,aa⟩
  | false=>
   rw[show aM x=false from by grind[aM,bR,b3,aw]];exact aiG ⟨h1,c2,(by rw[ax];rfl),aa⟩
 | false=>
  cases cE:(x.kind==3) with
  | true=>
   have mE:=lH x.a 1 10;cases hZ:(aw x.a 1 10) with
   | true=>
    have jZ:=lH x.b 0 (IntKind.i64.wrap (x.a-1));cases fv:(aw x.b 0 (IntKind.i64.wrap (x.a-1))) with
    | true=>
     cases pP:(decide ((↑(x.outs.map bh).length:Int)>2)) with
     | true=>
      rw[show aM x=false from by grind[aM,bR,b3,aw]];exact ah8 ⟨h1,cE,mE,(by rw[hZ];rfl),jZ,(by rw[fv];rfl),pP,aa⟩
     | false=>
      cases mg:(x.kind==8) with
      | true=>
       cases kL:(decide ((↑(x.outs.map bh).length:Int)>0)) with
       | true=>
        rw[show aM x=false from by grind[aM,bR,b3,aw]];exact ah9 ⟨h1,cE,mE,(by rw[hZ];rfl),jZ,(by rw[fv];rfl),pP,mg,kL,aa⟩
       | false=>
        cases od:((↑(x.outs.map bh).length:Int)==2) with
        | true=>
         obtain⟨Hq,JP⟩:=c9 (xs:=x.outs) (i:=0) (by grind[aw,aD]);obtain⟨Af,JQ⟩:=c9 (xs:=x.outs) (i:=1) (by grind[aw,aD]);cases tf:(Hq==Af) with
         | true=>
          rw[show aM x=false from by grind[aM,bR,b3,aw]];exact aia ⟨h1,cE,mE,(by rw[hZ];rfl),jZ,(by rw[fv];rfl),pP,mg,kL,od,(by grind[aw,aD]),(by grind[aw,aD]),(bN bh JP),(by grind[aw,aD]),(by grind[aw,aD]),(bN bh JQ),tf,aa⟩
         | false=>
          rcases h4 x ah with⟨cz,l⟩ | ⟨cz,l⟩
          ·skip
           rw[show aM x=false from by grind[aM,bR,b3,aw]];exact aib ⟨h1,cE,mE,(by rw[hZ];rfl),jZ,(by rw[fv];rfl),pP,mg,kL,od,(by grind[aw,aD]),(by grind[aw,aD]),(bN bh JP),(by grind[aw,aD]),(by grind[aw,aD]),(bN bh JQ),tf,l,aa⟩
          skip
          rw[show aM x=true from by grind[aM,bR,b3,aw]];exact aic ⟨h1,cE,mE,(by rw[hZ];rfl),jZ,(by rw[fv];rfl),pP,mg,kL,od,(by grind[aw,aD]),(by grind[aw,aD]),(bN bh JP),(by grind[aw,aD]),(by grind[aw,aD]),(bN bh JQ),tf,l,aa⟩
        | false=>
         rcases h4 x ah with⟨cz,l⟩ | ⟨cz,l⟩
         ·skip
          rw[show aM x=false from by grind[aM,bR,b3,aw]];exact aid ⟨h1,cE,mE,(by rw[hZ];rfl),jZ,(by rw[fv];rfl),pP,mg,kL,od,l,aa⟩
         skip
         rw[show aM x=true from by grind[aM,bR,b3,aw]];exact aie ⟨h1,cE,mE,(by rw[hZ];rfl),jZ,(by rw[fv];rfl),pP,mg,kL,od,l,aa⟩
      | false=>
       cases oZ:((↑(x.outs.map bh).length:Int)==2) with
       | true=>
        obtain⟨Dj,JR⟩:=c9 (xs:=x.outs) (i:=0) (by grind[aw,aD]);obtain⟨Dn,JS⟩:=c9 (xs:=x.outs) (i:=1) (by grind[aw,aD]);cases pQ:(Dj==Dn) with
        | true=>
         rw[show aM x=false from by grind[aM,bR,b3,aw]];exact aif ⟨h1,cE,mE,(by rw[hZ];rfl),jZ,(by rw[fv];rfl),pP,mg,oZ,(by grind[aw,aD]),(by grind[aw,aD]),(bN bh JR),(by grind[aw,aD]),(by grind[aw,aD]),(bN bh JS),pQ,aa⟩
        | false=>
         rcases h4 x ah with⟨cz,l⟩ | ⟨cz,l⟩
         ·skip
          rw[show aM x=false from by grind[aM,bR,b3,aw]];exact aih ⟨h1,cE,mE,(by rw[hZ];rfl),jZ,(by rw[fv];rfl),pP,mg,oZ,(by grind[aw,aD]),(by grind[aw,aD]),(bN bh JR),(by grind[aw,aD]),(by grind[aw,aD]),(bN bh JS),pQ,l,aa⟩
         skip
         rw[show aM x=true from by grind[aM,bR,b3,aw]];exact aii ⟨h1,cE,mE,(by rw[hZ];rfl),jZ,(by rw[fv];rfl),pP,mg,oZ,(by grind[aw,aD]),(by grind[aw,aD]),(bN bh JR),(by grind[aw,aD]),(by grind[aw,aD]),(bN bh JS),pQ,l,aa⟩
       | false=>
        rcases h4 x ah with⟨cz,l⟩ | ⟨cz,l⟩
        ·skip
         rw[show aM x=false from by grind[aM,bR,b3,aw]];exact aij ⟨h1,cE,mE,(by rw[hZ];rfl),jZ,(by rw[fv];rfl),pP,mg,oZ,l,aa⟩
        skip
        rw[show aM x=true from by grind[aM,bR,b3,aw]];exact aik ⟨h1,cE,mE,(by rw[hZ];rfl),jZ,(by rw[fv];rfl),pP,mg,oZ,l,aa⟩
    | false=>
     rw[show aM x=false from by grind[aM,bR,b3,aw]];exact ah7 ⟨h1,cE,mE,(by rw[hZ];rfl),jZ,(by rw[fv];rfl),aa⟩
   | false=>
    rw[show aM x=false from by grind[aM,bR,b3,aw]];exact aiX ⟨h1,cE,mE,(by rw[hZ];rfl),aa⟩
  | false=>
   cases c8:(x.kind==4) with
   | true=>
    have n4:=lH x.a 0 99;cases k':(aw x.a 0 99) with
    | true=>
     cases mh:(x.b != 0) with
     | true=>
      rw[show aM x=false from by grind[aM,bR,b3,aw]];exact aim ⟨h1,cE,c8,n4,(by rw[k'];rfl),mh,aa⟩
     | false=>
      cases pR:(decide ((↑(x.outs.map bh).length:Int)>2)) with
      | true=>
       rw[show aM x=false from by grind[aM,bR,b3,aw]];exact ain ⟨h1,cE,c8,n4,(by rw[k'];rfl),mh,pR,aa⟩
      | false=>
       cases qI:(x.kind==8) with
       | true=>
        cases yr:(decide ((↑(x.outs.map bh).length:Int)>0)) with
        | true=>
         rw[show aM x=false from by grind[aM,bR,b3,aw]];exact aio ⟨h1,cE,c8,n4,(by rw[k'];rfl),mh,pR,qI,yr,aa⟩
        | false=>
         cases AK:((↑(x.outs.map bh).length:Int)==2) with
         | true=>
          obtain⟨HL,JT⟩:=c9 (xs:=x.outs) (i:=0) (by grind[aw,aD]);obtain⟨HM,JU⟩:=c9 (xs:=x.outs) (i:=1) (by grind[aw,aD]);cases IG:(HL==HM) with
          | true=>
           rw[show aM x=false from by grind[aM,bR,b3,aw]];exact aip ⟨h1,cE,c8,n4,(by rw[k'];rfl),mh,pR,qI,yr,AK,(by grind[aw,aD]),(by grind[aw,aD]),(bN bh JT),(by grind[aw,aD]),(by grind[aw,aD]),(bN bh JU),IG,aa⟩
          | false=>
           rcases h4 x ah with⟨cz,l⟩ | ⟨cz,l⟩
           ·skip
            rw[show aM x=false from by grind[aM,bR,b3,aw]];exact aiq ⟨h1,cE,c8,n4,(by rw[k'];rfl),mh,pR,qI,yr,AK,(by grind[aw,aD]),(by grind[aw,aD]),(bN bh JT),(by grind[aw,aD]),(by grind[aw,aD]),(bN bh JU),IG,l,aa⟩
           skip
           rw[show aM x=true from by grind[aM,bR,b3,aw]];exact air ⟨h1,cE,c8,n4,(by rw[k'];rfl),mh,pR,qI,yr,AK,(by grind[aw,aD]),(by grind[aw,aD]),(bN bh JT),(by grind[aw,aD]),(by grind[aw,aD]),(bN bh JU),IG,l,aa⟩
         | false=>
          rcases h4 x ah with⟨cz,l⟩ | ⟨cz,l⟩
          ·skip
           rw[show aM x=false from by grind[aM,bR,b3,aw]];exact ais ⟨h1,cE,c8,n4,(by rw[k'];rfl),mh,pR,qI,yr,AK,l,aa⟩
          skip
          rw[show aM x=true from by grind[aM,bR,b3,aw]];exact ait ⟨h1,cE,c8,n4,(by rw[k'];rfl),mh,pR,qI,yr,AK,l,aa⟩
       | false=>
        cases AL:((↑(x.outs.map bh).length:Int)==2) with
        | true=>
         obtain⟨HN,JV⟩:=c9 (xs:=x.outs) (i:=0) (by grind[aw,aD]);obtain⟨Ah,JW⟩:=c9 (xs:=x.outs) (i:=1) (by grind[aw,aD]);cases IH:(HN==Ah) with
         | true=>
          rw[show aM x=false from by grind[aM,bR,b3,aw]];exact aiu ⟨h1,cE,c8,n4,(by rw[k'];rfl),mh,pR,qI,AL,(by grind[aw,aD]),(by grind[aw,aD]),(bN bh JV),(by grind[aw,aD]),(by grind[aw,aD]),(bN bh JW),IH,aa⟩
         | false=>
          rcases h4 x ah with⟨cz,l⟩ | ⟨cz,l⟩
          ·skip
           rw[show aM x=false from by grind[aM,bR,b3,aw]];exact aiv ⟨h1,cE,c8,n4,(by rw[k'];rfl),mh,pR,qI,AL,(by grind[aw,aD]),(by grind[aw,aD]),(bN bh JV),(by grind[aw,aD]),(by grind[aw,aD]),(bN bh JW),IH,l,aa⟩
          skip
          rw[show aM x=true from by grind[aM,bR,b3,aw]];exact aiw ⟨h1,cE,c8,n4,(by rw[k'];rfl),mh,pR,qI,AL,(by grind[aw,aD]),(by grind[aw,aD]),(bN bh JV),(by grind[aw,aD]),(by grind[aw,aD]),(bN bh JW),IH,l,aa⟩
        | false=>
         rcases h4 x ah with⟨cz,l⟩ | ⟨cz,l⟩
         ·skip
          rw[show aM x=false from by grind[aM,bR,b3,aw]];exact aix ⟨h1,cE,c8,n4,(by rw[k'];rfl),mh,pR,qI,AL,l,aa⟩
         skip
         rw[show aM x=true from by grind[aM,bR,b3,aw]];exact ahX ⟨h1,cE,c8,n4,(by rw[k'];rfl),mh,pR,qI,AL,l,aa⟩
    | false=>
     rw[show aM x=false from by grind[aM,bR,b3,aw]];exact ail ⟨h1,cE,c8,n4,(by rw[k'];rfl),aa⟩
   | false=>
    cases dk:(x.kind==1) with
    | true=>
     cases oe:(x.a != 0) with
     | true=>
      rw[show aM x=false from by grind[aM,bR,b3,aw]];exact ahY ⟨h1,cE,c8,dk,dk,oe,aa⟩
     | false=>
      cases o0:(x.b != 0) with
      | true=>
       rw[show aM x=false from by grind[aM,bR,b3,aw]];exact ahZ ⟨h1,cE,c8,dk,dk,oe,o0,aa⟩
      | false=>
       cases pS:(decide ((↑(x.outs.map bh).length:Int)>2)) with
       | true=>
        rw[show aM x=false from by grind[aM,bR,b3,aw]];exact ah0 ⟨h1,cE,c8,dk,dk,oe,o0,pS,aa⟩
       | false=>
        cases qJ:(x.kind==8) with
        | true=>
         cases yt:(decide ((↑(x.outs.map bh).length:Int)>0)) with
         | true=>
          rw[show aM x=false from by grind[aM,bR,b3,aw]];exact ah1 ⟨h1,cE,c8,dk,dk,oe,o0,pS,qJ,yt,aa⟩
         | false=>
          cases AM:((↑(x.outs.map bh).length:Int)==2) with
          | true=>
           obtain⟨aBR,JX⟩:=c9 (xs:=x.outs) (i:=0) (by grind[aw,aD]);obtain⟨aBS,JY⟩:=c9 (xs:=x.outs) (i:=1) (by grind[aw,aD]);cases II:(aBR==aBS) with
           | true=>
            rw[show aM x=false from by grind[aM,bR,b3,aw]];exact ah2 ⟨h1,cE,c8,dk,dk,oe,o0,pS,qJ,yt,AM,(by grind[aw,aD]),(by grind[aw,aD]),(bN bh JX),(by grind[aw,aD]),(by grind[aw,aD]),(bN bh JY),II,aa⟩
           | false=>
            rcases h4 x ah with⟨cz,l⟩ | ⟨cz,l⟩
            ·skip
             rw[show aM x=false from by grind[aM,bR,b3,aw]];exact ah3 ⟨h1,cE,c8,dk,dk,oe,o0,pS,qJ,yt,AM,(by grind[aw,aD]),(by grind[aw,aD]),(bN bh JX),(by grind[aw,aD]),(by grind[aw,aD]),(bN bh JY),II,l,aa⟩
            skip
            rw[show aM x=true from by grind[aM,bR,b3,aw]];exact ah4 ⟨h1,cE,c8,dk,dk,oe,o0,pS,qJ,yt,AM,(by grind[aw,aD]),(by grind[aw,aD]),(bN bh JX),(by grind[aw,aD]),(by grind[aw,aD]),(bN bh JY),II,l,aa⟩
          | false=>
           rcases h4 x ah with⟨cz,l⟩ | ⟨cz,l⟩
           ·skip
            rw[show aM x=false from by grind[aM,bR,b3,aw]];exact ah5 ⟨h1,cE,c8,dk,dk,oe,o0,pS,qJ,yt,AM,l,aa⟩
           skip
           rw[show aM x=true from by grind[aM,bR,b3,aw]];exact ah6 ⟨h1,cE,c8,dk,dk,oe,o0,pS,qJ,yt,AM,l,aa⟩
        | false=>
         cases AN:((↑(x.outs.map bh).length:Int)==2) with
         | true=>
          obtain⟨aBT,JZ⟩:=c9 (xs:=x.outs) (i:=0) (by grind[aw,aD]);obtain⟨aBU,J0⟩:=c9 (xs:=x.outs) (i:=1) (by grind[aw,aD]);cases IJ:(aBT==aBU) with
          | true=>
           rw[show aM x=false from by grind[aM,bR,b3,aw]];exact ajy ⟨h1,cE,c8,dk,dk,oe,o0,pS,qJ,AN,(by grind[aw,aD]),(by grind[aw,aD]),(bN bh JZ),(by grind[aw,aD]),(by grind[aw,aD]),(bN bh J0),IJ,aa⟩
          | false=>
           rcases h4 x ah with⟨cz,l⟩ | ⟨cz,l⟩
           ·skip
            rw[show aM x=false from by grind[aM,bR,b3,aw]];exact ajz ⟨h1,cE,c8,dk,dk,oe,o0,pS,qJ,AN,(by grind[aw,aD]),(by grind[aw,aD]),(bN bh JZ),(by grind[aw,aD]),(by grind[aw,aD]),(bN bh J0),IJ,l,aa⟩
           skip
           rw[show aM x=true from by grind[aM,bR,b3,aw]];exact ajA ⟨h1,cE,c8,dk,dk,oe,o0,pS,qJ,AN,(by grind[aw,aD]),(by grind[aw,aD]),(bN bh JZ),(by grind[aw,aD]),(by grind[aw,aD]),(bN bh J0),IJ,l,aa⟩
         | false=>
          rcases h4 x ah with⟨cz,l⟩ | ⟨cz,l⟩
          ·skip
           rw[show aM x=false from by grind[aM,bR,b3,aw]];exact ajB ⟨h1,cE,c8,dk,dk,oe,o0,pS,qJ,AN,l,aa⟩
          skip
          rw[show aM x=true from by grind[aM,bR,b3,aw]];exact ajC ⟨h1,cE,c8,dk,dk,oe,o0,pS,qJ,AN,l,aa⟩
    | false=>
     cases dU:(x.kind==5) with
     | true=>
      cases og:(x.a != 0) with
      | true=>
       rw[show aM x=false from by grind[aM,bR,b3,aw]];exact ajD ⟨h1,cE,c8,dk,dU,dU,og,aa⟩
      | false=>
       cases o1:(x.b != 0) with
       | true=>
        rw[show aM x=false from by grind[aM,bR,b3,aw]];exact ajE ⟨h1,cE,c8,dk,dU,dU,og,o1,aa⟩
       | false=>
        cases mi:(decide ((↑(x.outs.map bh).length:Int)>2)) with
        | true=>
         rw[show aM x=false from by grind[aM,bR,b3,aw]];exact ajF ⟨h1,cE,c8,dk,dU,dU,og,o1,mi,aa⟩
        | false=>
         cases qK:(x.kind==8) with
         | true=>
          cases yu:(decide ((↑(x.outs.map bh).length:Int)>0)) with
          | true=>
           rw[show aM x=false from by grind[aM,bR,b3,aw]];exact ajG ⟨h1,cE,c8,dk,dU,dU,og,o1,mi,qK,yu,aa⟩
          | false=>
           cases AO:((↑(x.outs.map bh).length:Int)==2) with
           | true=>
            obtain⟨aBV,J1⟩:=c9 (xs:=x.outs) (i:=0) (by grind[aw,aD]);obtain⟨aBW,J2⟩:=c9 (xs:=x.outs) (i:=1) (by grind[aw,aD]);cases IK:(aBV==aBW) with
            | true=>
             rw[show aM x=false from by grind[aM,bR,b3,aw]];exact ajH ⟨h1,cE,c8,dk,dU,dU,og,o1,mi,qK,yu,AO,(by grind[aw,aD]),(by grind[aw,aD]),(bN bh J1),(by grind[aw,aD]),(by grind[aw,aD]),(bN bh J2),IK,aa⟩
            | false=>
             rcases h4 x ah with⟨cz,l⟩ | ⟨cz,l⟩
             ·skip
              rw[show aM x=false from by grind[aM,bR,b3,aw]];exact ajI ⟨h1,cE,c8,dk,dU,dU,og,o1,mi,qK,yu,AO,(by grind[aw,aD]),(by grind[aw,aD]),(bN bh J1),(by grind[aw,aD]),(by grind[aw,aD]),(bN bh J2),IK,l,aa⟩
             skip
             rw[show aM x=true from by grind[aM,bR,b3,aw]];exact ajJ ⟨h1,cE,c8,dk,dU,dU,og,o1,mi,qK,yu,AO,(by grind[aw,aD]),(by grind[aw,aD]),(bN bh J1),(by grind[aw,aD]),(by grind[aw,aD]),(bN bh J2),IK,l,aa⟩
           | false=>
            rcases h4 x ah with⟨cz,l⟩ | ⟨cz,l⟩
            ·skip
             rw[show aM x=false from by grind[aM,bR,b3,aw]];exact ajK ⟨h1,cE,c8,dk,dU,dU,og,o1,mi,qK,yu,AO,l,aa⟩
            skip
            rw[show aM x=true from by grind[aM,bR,b3,aw]];exact ajL ⟨h1,cE,c8,dk,dU,dU,og,o1,mi,qK,yu,AO,l,aa⟩
         | false=>
          cases AP:((↑(x.outs.map bh).length:Int)==2) with
          | true=>
           obtain⟨aBX,J3⟩:=c9 (xs:=x.outs) (i:=0) (by grind[aw,aD]);obtain⟨aBY,J4⟩:=c9 (xs:=x.outs) (i:=1) (by grind[aw,aD]);cases IL:(aBX==aBY) with
           | true=>
            rw[show aM x=false from by grind[aM,bR,b3,aw]];exact ajM ⟨h1,cE,c8,dk,dU,dU,og,o1,mi,qK,AP,(by grind[aw,aD]),(by grind[aw,aD]),(bN bh J3),(by grind[aw,aD]),(by grind[aw,aD]),(bN bh J4),IL,aa⟩
           | false=>
            rcases h4 x ah with⟨cz,l⟩ | ⟨cz,l⟩
            ·skip
             rw[show aM x=false from by grind[aM,bR,b3,aw]];exact ajN ⟨h1,cE,c8,dk,dU,dU,og,o1,mi,qK,AP,(by grind[aw,aD]),(by grind[aw,aD]),(bN bh J3),(by grind[aw,aD]),(by grind[aw,aD]),(bN bh J4),IL,l,aa⟩
            skip
            rw[show aM x=true from by grind[aM,bR,b3,aw]];exact ajO ⟨h1,cE,c8,dk,dU,dU,og,o1,mi,qK,AP,(by grind[aw,aD]),(by grind[aw,aD]),(bN bh J3),(by grind[aw,aD]),(by grind[aw,aD]),(bN bh J4),IL,l,aa⟩
          | false=>
           rcases h4 x ah with⟨cz,l⟩ | ⟨cz,l⟩
           ·skip
            rw[show aM x=false from by grind[aM,bR,b3,aw]];exact ajP ⟨h1,cE,c8,dk,dU,dU,og,o1,mi,qK,AP,l,aa⟩
           skip
           rw[show aM x=true from by grind[aM,bR,b3,aw]];exact ajQ ⟨h1,cE,c8,dk,dU,dU,og,o1,mi,qK,AP,l,aa⟩
     | false=>
      cases eQ:(x.kind==6) with
      | true=>
       cases oh:(x.a != 0) with
       | true=>
        rw[show aM x=false from by grind[aM,bR,b3,aw]];exact ajR ⟨h1,cE,c8,dk,dU,eQ,eQ,oh,aa⟩
       | false=>
        cases o2:(x.b != 0) with
        | true=>
         rw[show aM x=false from by grind[aM,bR,b3,aw]];exact ajS ⟨h1,cE,c8,dk,dU,eQ,eQ,oh,o2,aa⟩
        | false=>
         cases pT:(decide ((↑(x.outs.map bh).length:Int)>2)) with
         | true=>
          rw[show aM x=false from by grind[aM,bR,b3,aw]];exact ajT ⟨h1,cE,c8,dk,dU,eQ,eQ,oh,o2,pT,aa⟩
         | false=>
          cases qL:(x.kind==8) with
          | true=>
           cases yv:(decide ((↑(x.outs.map bh).length:Int)>0)) with
           | true=>
            rw[show aM x=false from by grind[aM,bR,b3,aw]];exact ajU ⟨h1,cE,c8,dk,dU,eQ,eQ,oh,o2,pT,qL,yv,aa⟩
           | false=>
            cases AQ:((↑(x.outs.map bh).length:Int)==2) with
            | true=>
             obtain⟨aBZ,J5⟩:=c9 (xs:=x.outs) (i:=0) (by grind[aw,aD]);obtain⟨aB0,J6⟩:=c9 (xs:=x.outs) (i:=1) (by grind[aw,aD]);cases IM:(aBZ==aB0) with
             | true=>
              rw[show aM x=false from by grind[aM,bR,b3,aw]];exact ajV ⟨h1,cE,c8,dk,dU,eQ,eQ,oh,o2,pT,qL,yv,AQ,(by grind[aw,aD]),(by grind[aw,aD]),(bN bh J5),(by grind[aw,aD]),(by grind[aw,aD]),(bN bh J6),IM,aa⟩
             | false=>
              rcases h4 x ah with⟨cz,l⟩ | ⟨cz,l⟩
              ·skip
               rw[show aM x=false from by grind[aM,bR,b3,aw]];exact ajW ⟨h1,cE,c8,dk,dU,eQ,eQ,oh,o2,pT,qL,yv,AQ,(by grind[aw,aD]),(by grind[aw,aD]),(bN bh J5),(by grind[aw,aD]),(by grind[aw,aD]),(bN bh J6),IM,l,aa⟩
              skip
              rw[show aM x=true from by grind[aM,bR,b3,aw]];exact ajX ⟨h1,cE,c8,dk,dU,eQ,eQ,oh,o2,pT,qL,yv,AQ,(by grind[aw,aD]),(by grind[aw,aD]),(bN bh J5),(by grind[aw,aD]),(by grind[aw,aD]),(bN bh J6),IM,l,aa⟩
            | false=>
             rcases h4 x ah with⟨cz,l⟩ | ⟨cz,l⟩
             ·skip
              rw[show aM x=false from by grind[aM,bR,b3,aw]];exact ai8 ⟨h1,cE,c8,dk,dU,eQ,eQ,oh,o2,pT,qL,yv,AQ,l,aa⟩
             skip
             rw[show aM x=true from by grind[aM,bR,b3,aw]];exact ai9 ⟨h1,cE,c8,dk,dU,eQ,eQ,oh,o2,pT,qL,yv,AQ,l,aa⟩
          | false=>
           cases AR:((↑(x.outs.map bh).length:Int)==2) with
           | true=>
            obtain⟨aB1,J7⟩:=c9 (xs:=x.outs) (i:=0) (by grind[aw,aD]);obtain⟨aB2,J8⟩:=c9 (xs:=x.outs) (i:=1) (by grind[aw,aD]);cases IN:(aB1==aB2) with
            | true=>
             rw[show aM x=false from by grind[aM,bR,b3,aw]];exact aja ⟨h1,cE,c8,dk,dU,eQ,eQ,oh,o2,pT,qL,AR,(by grind[aw,aD]),(by grind[aw,aD]),(bN bh J7),(by grind[aw,aD]),(by grind[aw,aD]),(bN bh J8),IN,aa⟩
            | false=>
             rcases h4 x ah with⟨cz,l⟩ | ⟨cz,l⟩
             ·skip
              rw[show aM x=false from by grind[aM,bR,b3,aw]];exact ajb ⟨h1,cE,c8,dk,dU,eQ,eQ,oh,o2,pT,qL,AR,(by grind[aw,aD]),(by grind[aw,aD]),(bN bh J7),(by grind[aw,aD]),(by grind[aw,aD]),(bN bh J8),IN,l,aa⟩
             skip
             rw[show aM x=true from by grind[aM,bR,b3,aw]];exact ajc ⟨h1,cE,c8,dk,dU,eQ,eQ,oh,o2,pT,qL,AR,(by grind[aw,aD]),(by grind[aw,aD]),(bN bh J7),(by grind[aw,aD]),(by grind[aw,aD]),(bN bh J8),IN,l,aa⟩
           | false=>
            rcases h4 x ah with⟨cz,l⟩ | ⟨cz,l⟩
            ·skip
             rw[show aM x=false from by grind[aM,bR,b3,aw]];exact ajd ⟨h1,cE,c8,dk,dU,eQ,eQ,oh,o2,pT,qL,AR,l,aa⟩
            skip
            rw[show aM x=true from by grind[aM,bR,b3,aw]];exact aje ⟨h1,cE,c8,dk,dU,eQ,eQ,oh,o2,pT,qL,AR,l,aa⟩
      | false=>
       cases gm:(x.kind==7) with
       | true=>
        cases oi:(x.a != 0) with
        | true=>
         rw[show aM x=false from by grind[aM,bR,b3,aw]];exact ajf ⟨h1,cE,c8,dk,dU,eQ,gm,gm,oi,aa⟩
        | false=>
         cases o3:(x.b != 0) with
         | true=>
          rw[show aM x=false from by grind[aM,bR,b3,aw]];exact ajg ⟨h1,cE,c8,dk,dU,eQ,gm,gm,oi,o3,aa⟩
         | false=>
          cases pU:(decide ((↑(x.outs.map bh).length:Int)>2)) with
          | true=>
           rw[show aM x=false from by grind[aM,bR,b3,aw]];exact ajh ⟨h1,cE,c8,dk,dU,eQ,gm,gm,oi,o3,pU,aa⟩
          | false=>
           cases qM:(x.kind==8) with
           | true=>
            cases yw:(decide ((↑(x.outs.map bh).length:Int)>0)) with
            | true=>
             rw[show aM x=false from by grind[aM,bR,b3,aw]];exact aji ⟨h1,cE,c8,dk,dU,eQ,gm,gm,oi,o3,pU,qM,yw,aa⟩
            | false=>
             cases AS:((↑(x.outs.map bh).length:Int)==2) with
             | true=>
              obtain⟨aB3,J9⟩:=c9 (xs:=x.outs) (i:=0) (by grind[aw,aD]);obtain⟨aB4,J'⟩:=c9 (xs:=x.outs) (i:=1) (by grind[aw,aD]);cases IP:(aB3==aB4) with
              | true=>
               rw[show aM x=false from by grind[aM,bR,b3,aw]];exact ajj ⟨h1,cE,c8,dk,dU,eQ,gm,gm,oi,o3,pU,qM,yw,AS,(by grind[aw,aD]),(by grind[aw,aD]),(bN bh J9),(by grind[aw,aD]),(by grind[aw,aD]),(bN bh J'),IP,aa⟩
              | false=>
               rcases h4 x ah with⟨cz,l⟩ | ⟨cz,l⟩
               ·skip
                rw[show aM x=false from by grind[aM,bR,b3,aw]];exact ajk ⟨h1,cE,c8,dk,dU,eQ,gm,gm,oi,o3,pU,qM,yw,AS,(by grind[aw,aD]),(by grind[aw,aD]),(bN bh J9),(by grind[aw,aD]),(by grind[aw,aD]),(bN bh J'),IP,l,aa⟩
               skip
               rw[show aM x=true from by grind[aM,bR,b3,aw]];exact ajl ⟨h1,cE,c8,dk,dU,eQ,gm,gm,oi,o3,pU,qM,yw,AS,(by grind[aw,aD]),(by grind[aw,aD]),(bN bh J9),(by grind[aw,aD]),(by grind[aw,aD]),(bN bh J'),IP,l,aa⟩
             | false=>
              rcases h4 x ah with⟨cz,l⟩ | ⟨cz,l⟩
              ·skip
               rw[show aM x=false from by grind[aM,bR,b3,aw]];exact ajm ⟨h1,cE,c8,dk,dU,eQ,gm,gm,oi,o3,pU,qM,yw,AS,l,aa⟩
              skip
              rw[show aM x=true from by grind[aM,bR,b3,aw]];exact ajn ⟨h1,cE,c8,dk,dU,eQ,gm,gm,oi,o3,pU,qM,yw,AS,l,aa⟩
           | false=>
            cases AT:((↑(x.outs.map bh).length:Int)==2) with
            | true=>
             obtain⟨aBN,JJ⟩:=c9 (xs:=x.outs) (i:=0) (by grind[aw,aD]);obtain⟨aBO,JK⟩:=c9 (xs:=x.outs) (i:=1) (by grind[aw,aD]);cases ID:(aBN==aBO) with
             | true=>
              rw[show aM x=false from by grind[aM,bR,b3,aw]];exact ajo ⟨h1,cE,c8,dk,dU,eQ,gm,gm,oi,o3,pU,qM,AT,(by grind[aw,aD]),(by grind[aw,aD]),(bN bh JJ),(by grind[aw,aD]),(by grind[aw,aD]),(bN bh JK),ID,aa⟩
             | false=>
              rcases h4 x ah with⟨cz,l⟩ | ⟨cz,l⟩
              ·skip
               rw[show aM x=false from by grind[aM,bR,b3,aw]];exact ajp ⟨h1,cE,c8,dk,dU,eQ,gm,gm,oi,o3,pU,qM,AT,(by grind[aw,aD]),(by grind[aw,aD]),(bN bh JJ),(by grind[aw,aD]),(by grind[aw,aD]),(bN bh JK),ID,l,aa⟩
              skip
              rw[show aM x=true from by grind[aM,bR,b3,aw]];exact ajq ⟨h1,cE,c8,dk,dU,eQ,gm,gm,oi,o3,pU,qM,AT,(by grind[aw,aD]),(by grind[aw,aD]),(bN bh JJ),(by grind[aw,aD]),(by grind[aw,aD]),(bN bh JK),ID,l,aa⟩
            | false=>
             rcases h4 x ah with⟨cz,l⟩ | ⟨cz,l⟩
             ·skip
              rw[show aM x=false from by grind[aM,bR,b3,aw]];exact ajr ⟨h1,cE,c8,dk,dU,eQ,gm,gm,oi,o3,pU,qM,AT,l,aa⟩
             skip
             rw[show aM x=true from by grind[aM,bR,b3,aw]];exact ajs ⟨h1,cE,c8,dk,dU,eQ,gm,gm,oi,o3,pU,qM,AT,l,aa⟩
       | false=>
        cases mI:(x.kind==8) with
        | true=>
         cases te:(x.a != 0) with
         | true=>
          rw[show aM x=false from by grind[aM,bR,b3,aw]];exact ajt ⟨h1,cE,c8,dk,dU,eQ,gm,mI,te,aa⟩
         | false=>
          cases uK:(x.b != 0) with
          | true=>
           rw[show aM x=false from by grind[aM,bR,b3,aw]];exact aju ⟨h1,cE,c8,dk,dU,eQ,gm,mI,te,uK,aa⟩
          | false=>
           cases wy:(decide ((↑(x.outs.map bh).length:Int)>2)) with
           | true=>
            rw[show aM x=false from by grind[aM,bR,b3,aw]];exact ajv ⟨h1,cE,c8,dk,dU,eQ,gm,mI,te,uK,wy,aa⟩
           | false=>
            cases yp:(decide ((↑(x.outs.map bh).length:Int)>0)) with
            | true=>
             rw[show aM x=false from by grind[aM,bR,b3,aw]];exact ajw ⟨h1,cE,c8,dk,dU,eQ,gm,mI,te,uK,wy,mI,yp,aa⟩
            | false=>
             cases AH:((↑(x.outs.map bh).length:Int)==2) with
             | true=>
              obtain⟨aBP,JL⟩:=c9 (xs:=x.outs) (i:=0) (by grind[aw,aD]);obtain⟨aBQ,JM⟩:=c9 (xs:=x.outs) (i:=1) (by grind[aw,aD]);cases IE:(aBP==aBQ) with
              | true=>
               rw[show aM x=false from by grind[aM,bR,b3,aw]];exact ajx ⟨h1,cE,c8,dk,dU,eQ,gm,mI,te,uK,wy,mI,yp,AH,(by grind[aw,aD]),(by grind[aw,aD]),(bN bh JL),(by grind[aw,aD]),(by grind[aw,aD]),(bN bh JM),IE,aa⟩
              | false=>
               rcases h4 x ah with⟨cz,l⟩ | ⟨cz,l⟩
               ·skip
                rw[show aM x=false from by grind[aM,bR,b3,aw]];exact aiY ⟨h1,cE,c8,dk,dU,eQ,gm,mI,te,uK,wy,mI,yp,AH,(by grind[aw,aD]),(by grind[aw,aD]),(bN bh JL),(by grind[aw,aD]),(by grind[aw,aD]),(bN bh JM),IE,l,aa⟩
               skip
               rw[show aM x=true from by grind[aM,bR,b3,aw]];exact aiZ ⟨h1,cE,c8,dk,dU,eQ,gm,mI,te,uK,wy,mI,yp,AH,(by grind[aw,aD]),(by grind[aw,aD]),(bN bh JL),(by grind[aw,aD]),(by grind[aw,aD]),(bN bh JM),IE,l,aa⟩
             | false=>
              rcases h4 x ah with⟨cz,l⟩ | ⟨cz,l⟩
              ·skip
               rw[show aM x=false from by grind[aM,bR,b3,aw]];exact ai0 ⟨h1,cE,c8,dk,dU,eQ,gm,mI,te,uK,wy,mI,yp,AH,l,aa⟩
              skip
              rw[show aM x=true from by grind[aM,bR,b3,aw]];exact ai1 ⟨h1,cE,c8,dk,dU,eQ,gm,mI,te,uK,wy,mI,yp,AH,l,aa⟩
        | false=>
         rw[show aM x=false from by grind[aM,bR,b3,aw]];exact ai2 ⟨h1,cE,c8,dk,dU,eQ,gm,mI,aa⟩
