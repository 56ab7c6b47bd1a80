import Derived.Test.YthfnndblgbjniaaGreatDoorQ2
import Derived.Test.YthfnndblgbjniaaGreatDoorGQ
import Derived.Test.YthfnndblgbjniaaGreatDoorGR
set_option linter.unusedVariables false
set_option linter.unusedSimpArgs false
namespace Go.Proofs.YthfnndblgbjniaaGreatDoor
open Go.Sx Go.RowKit Go.Proofs.Tryz
def hK(s:gY):Bool:=av s.bh 0 3&&av s.ei 0 6
def fq(k v:Int):Bool:=av k 0 99&&av v 0 999
def fb(r:aD):Bool:=av r.op 0 7&&hK r.bw&&fq r.key r.val
def e5(s:gY):gY×Bool:=if hK s&&decide (s.ei<6) then (⟨s.bh,s.ei+1⟩,true) else (s,false)
def less(a b:Int):Int:=if b<a then b else a
def bP(x:Node):Bool:=
 if x.kind=2 then av x.a 0 999&&x.b==0
 else if x.kind=3 then av x.a 1 10&&av x.b 0 (IntKind.i64.wrap (x.a-1))
 else if x.kind=4 then av x.a 0 99&&x.b==0
 else av x.kind 1 8&&x.a==0&&x.b==0
def nt(l:List Int):Bool:=!(l.any fun k=>!av k 0 7)
def b2(l:List Int):Bool:=decide (l.length=2/\l[0]?=l[1]?)
def aQ(x:Node):Bool:=bP x&&decide (x.outs.length<=2)&&!(x.kind==8&&decide (0<x.outs.length))&&!b2 x.outs&&nt x.outs
theorem look{α:Type}{xs:List α}{i:Int}(b4:0<=i)(U:i<xs.length):∃a,xs[i.toNat]?=some a:=c2 (by omega)
theorem bN{α:Type}{xs:List α}{i:Nat}{a:α}(f:α->List D)(h:xs[i]?=some a):(xs.map f)[i]?=some (f a):=by simp[h]
theorem hg(x:Node)(aq:x.outs.length<=8388608):(nt x.outs=false/\c6 prog (ap f128 0) (dJ (x.outs.map bb) 0) .ret (gq false))\/(nt x.outs=true/\c6 prog (ap f128 0) (dJ (x.outs.map bb) 0) (.exit 1) gJ):=by
 have l:=gI (P:=prog) (c:=(ap f128 0)) x.outs (fun k=>!av k 0 7) (fun i=>dJ (x.outs.map bb) i) (X:=fun _ _=>gq false) ff (cy 1)
  (fun i a aj h=>aaz ⟨cc (a7 aj),bB,bI (a7 aj),bC bb aj,kA a 0 7,h,dc (a7 aj) aq,ad⟩)
  (fun i a aj h=>aay ⟨cc (a7 aj),bB,bI (a7 aj),bC bb aj,kA a 0 7,h,ad⟩)
  (aaA ⟨dG,ad⟩)
 unfold nt;rcases l with⟨_,_,U,aa⟩ | ⟨i,a,_,_,_,_,U,aa⟩
 ·exact .inr ⟨by rw[U];rfl,aa⟩
 exact .inl ⟨by rw[U];rfl,aa⟩
theorem uz(x:Node)(aq:x.outs.length<=2):((nt x.outs&&!b2 x.outs)=false/\c6 prog (ap f183 0) (hT x.kind x.a x.b (x.outs.map bb) 0) .ret (qx false))\/((nt x.outs&&!b2 x.outs)=true/\c6 prog (ap f183 0) (hT x.kind x.a x.b (x.outs.map bb) 0) (.exit 1) ry):=by
 obtain⟨Pb,a,b,outs⟩:=x;have a8:=fun k=>h3 k 0 7
 match outs,aq with
 | [],_=>exact .inr ⟨rfl,.last (cy 1) (LA ⟨rfl,ad⟩)⟩
 | [k],_=>
  cases U:av k 0 7 with
  | false=>exact .inl ⟨by simp[nt,U],.last ff (Ly ⟨rfl,by omega,by simp,rfl,a8 k,by rw[U];rfl,ad⟩)⟩
  | true=>
   refine .inr ⟨by simp[nt,b2,U],.more (Sb ⟨rfl,by omega,by simp,rfl,a8 k,by rw[U];rfl,rfl,⟨by omega,by omega⟩,ad⟩) (.last (cy 1) (LA ⟨rfl,ad⟩))⟩
 | [k,m],_=>
  cases U:av k 0 7 with
  | false=>exact .inl ⟨by simp[nt,U],.last ff (Ly ⟨rfl,by omega,by simp,rfl,a8 k,by rw[U];rfl,ad⟩)⟩
  | true=>
   have first:gP prog (ap f183 0) (hT Pb a b ([k,m].map bb) 0) .normal (hT Pb a b ([k,m].map bb) (0+1)):=Sb ⟨rfl,by omega,by simp,rfl,a8 k,by rw[U];rfl,rfl,⟨by omega,by omega⟩,ad⟩
   cases aa:av m 0 7 with
   | false=>exact .inl ⟨by simp[nt,U,aa],.more first (.last ff (Ly ⟨rfl,by omega,by simp,rfl,a8 m,by rw[aa];rfl,ad⟩))⟩
   | true=>
    cases aB:(k==m) with
    | true=>exact .inl ⟨by simp[nt,b2,U,aa]at aB ⊢;exact aB,.more first (.last ff (avs ⟨rfl,by omega,by simp,rfl,a8 m,by rw[aa];rfl,rfl,by omega,by simp,rfl,by omega,by simp,rfl,aB,ad⟩))⟩
    | false=>exact .inr ⟨by simp[nt,b2,U,aa]at aB ⊢;exact aB,.more first (.more (avt ⟨rfl,by omega,by simp,rfl,a8 m,by rw[aa];rfl,rfl,by omega,by simp,rfl,by omega,by simp,rfl,aB,⟨by omega,by omega⟩,ad⟩) (.last (cy 1) (LA ⟨rfl,ad⟩)))⟩
theorem Sc(s:gY):al 201 [.agg s.e] [.one (B (hK s))]:=by
 have bK:=h3 s.bh 0 3;cases aa:(av s.bh 0 3) with
 | true=>
  have cG:=h3 s.ei 0 6;rw[show hK s=av s.ei 0 6 from by grind[hK]];exact awm ⟨bK,aa,cG,ad⟩
 | false=>
  rw[show hK s=false from by grind[hK]];exact awn ⟨bK,aa,ad⟩
theorem Sd(s:gY):al 180 [.agg s.e] [.one (B (hK s))]:=by
 have bK:=kA s.bh 0 3;cases aa:(av s.bh 0 3) with
 | true=>
  have cG:=kA s.ei 0 6;rw[show hK s=av s.ei 0 6 from by grind[hK]];exact awo ⟨bK,aa,cG,ad⟩
 | false=>
  rw[show hK s=false from by grind[hK]];exact awp ⟨bK,aa,ad⟩
theorem Se(k v:Int):al 181 [.one (I k),.one (I v)] [.one (B (fq k v))]:=by
 have bK:=kA k 0 99;cases aa:(av k 0 99) with
 | true=>
  have cG:=kA v 0 999;rw[show fq k v=av v 0 999 from by grind[fq]];exact avV ⟨bK,aa,cG,ad⟩
 | false=>
  rw[show fq k v=false from by grind[fq]];exact avW ⟨bK,aa,ad⟩
theorem s5(r:aD):al 167 [.agg r.e] [.one (B (fb r))]:=by
 have bK:=h3 r.op 0 7;cases aa:(av r.op 0 7) with
 | true=>
  have cG:=Sc r.bw;cases aJ:(hK r.bw) with
  | true=>
   have gm:=h3 r.key 0 99;cases bF:(av r.key 0 99) with
   | true=>
    have GC:=h3 r.val 0 999;rw[show fb r=av r.val 0 999 from by grind[fb,fq]];exact awf ⟨bK,aa,cG,aJ,gm,bF,GC,ad⟩
   | false=>
    rw[show fb r=false from by grind[fb,fq]];exact awg ⟨bK,aa,cG,aJ,gm,bF,ad⟩
  | false=>
   rw[show fb r=false from by grind[fb,fq]];exact awh ⟨bK,aa,cG,aJ,ad⟩
 | false=>
  rw[show fb r=false from by grind[fb,fq]];exact awi ⟨bK,aa,ad⟩
theorem tV(r:aD):al 131 [.agg r.e] [.one (B (fb r))]:=by
 have bK:=kA r.op 0 7;cases aa:(av r.op 0 7) with
 | true=>
  have cG:=Sd r.bw;cases aJ:(hK r.bw) with
  | true=>
   have gm:=Se r.key r.val;rw[show fb r=fq r.key r.val from by grind[fb,fq]];exact awj ⟨bK,aa,cG,aJ,gm,ad⟩
  | false=>
   rw[show fb r=false from by grind[fb,fq]];exact awk ⟨bK,aa,cG,aJ,ad⟩
 | false=>
  rw[show fb r=false from by grind[fb,fq]];exact awl ⟨bK,aa,ad⟩
theorem xI(s:gY):al 198 [.agg s.e] [.agg ((e5 s).1).e,.one (B ((e5 s).2))]:=by
 have bK:=Sc s;cases aa:(hK s) with
 | true=>
  cases aB:(decide (s.ei>=6)) with
  | true=>
   rw[show e5 s=(s,false) from by grind[e5,hK,av]];exact avB ⟨bK,(by rw[aa];rfl),aB,ad⟩
  | false=>
   rw[show e5 s=((⟨s.bh,s.ei+1⟩:gY),true) from by grind[e5,hK,av]];exact avC ⟨bK,(by rw[aa];rfl),aB,(by grind[hK,av,aK]),ad⟩
 | false=>
  rw[show e5 s=(s,false) from by grind[e5,hK,av]];exact awq ⟨bK,(by rw[aa];rfl),ad⟩
theorem LB(s:gY):al 190 [.agg s.e] [.agg ((e5 s).1).e,.one (B ((e5 s).2))]:=by
 have bK:=Sd s;cases aa:(hK s) with
 | true=>
  cases aB:(s.ei==6) with
  | true=>
   rw[show e5 s=(s,false) from by grind[e5,hK,av]];exact avE ⟨bK,(by rw[aa];rfl),aB,ad⟩
  | false=>
   rw[show e5 s=((⟨s.bh,s.ei+1⟩:gY),true) from by grind[e5,hK,av]];exact avF ⟨bK,(by rw[aa];rfl),aB,(by grind[hK,av,aK]),ad⟩
 | false=>
  rw[show e5 s=(s,false) from by grind[e5,hK,av]];exact avD ⟨bK,(by rw[aa];rfl),ad⟩
theorem adb(a b:Int):al 213 [.one (I a),.one (I b)] [.one (I (less a b))]:=by
 cases U:(decide (b<a)) with
 | true=>
  rw[show less a b=b from by grind[less]];exact avT ⟨U,ad⟩
 | false=>
  rw[show less a b=a from by grind[less]];exact avU ⟨U,ad⟩
theorem Sf(x:Node)(aq:x.outs.length<=8388608):al 183 [.agg x.e] [.one (B (aQ x))]:=by
 cases U:(x.kind==2) with
 | true=>
  have ct:=h3 x.a 0 999;have cG:=h3 x.kind 1 8;cases aJ:(av x.kind 1 8) with
  | true=>
   cases a6:(av x.a 0 999) with
   | true=>
    cases bF:(x.b==0) with
    | true=>
     cases bY:(decide ((↑(x.outs.map bb).length:Int)>2)) with
     | true=>
      rw[show aQ x=false from by grind[aQ,bP,b2,av]];exact av0 ⟨U,ct,cG,(by rw[aJ];rfl),(by rw[a6];rfl),(by rw[bF];rfl),bY,ad⟩
     | false=>
      cases dy:(x.kind==8) with
      | true=>
       cases eg:(decide ((↑(x.outs.map bb).length:Int)>0)) with
       | true=>
        rw[show aQ x=false from by grind[aQ,bP,b2,av]];exact avr ⟨U,ct,cG,(by rw[aJ];rfl),(by rw[a6];rfl),(by rw[bF];rfl),bY,dy,eg,ad⟩
       | false=>
        rcases uz x (by grind) with⟨cB,l⟩ | ⟨cB,l⟩
        ·skip
         rw[show aQ x=false from by grind[aQ,bP,b2,av]];exact avu ⟨U,ct,cG,(by rw[aJ];rfl),(by rw[a6];rfl),(by rw[bF];rfl),bY,dy,eg,l,ad⟩
        skip
        rw[show aQ x=true from by grind[aQ,bP,b2,av]];exact avv ⟨U,ct,cG,(by rw[aJ];rfl),(by rw[a6];rfl),(by rw[bF];rfl),bY,dy,eg,l,ad⟩
      | false=>
       rcases uz x (by grind) with⟨cB,l⟩ | ⟨cB,l⟩
       ·skip
        rw[show aQ x=false from by grind[aQ,bP,b2,av]];exact avw ⟨U,ct,cG,(by rw[aJ];rfl),(by rw[a6];rfl),(by rw[bF];rfl),bY,dy,l,ad⟩
       skip
       rw[show aQ x=true from by grind[aQ,bP,b2,av]];exact avx ⟨U,ct,cG,(by rw[aJ];rfl),(by rw[a6];rfl),(by rw[bF];rfl),bY,dy,l,ad⟩
    | false=>
     rw[show aQ x=false from by grind[aQ,bP,b2,av]];exact avZ ⟨U,ct,cG,(by rw[aJ];rfl),(by rw[a6];rfl),(by rw[bF];rfl),ad⟩
   | false=>
    rw[show aQ x=false from by grind[aQ,bP,b2,av]];exact avY ⟨U,ct,cG,(by rw[aJ];rfl),(by rw[a6];rfl),ad⟩
  | false=>
   rw[show aQ x=false from by grind[aQ,bP,b2,av]];exact avX ⟨U,ct,cG,(by rw[aJ];rfl),ad⟩
 | false=>
  cases dH:(x.kind==3) with
  | true=>
   have pI:=h3 x.a 1 10;have n0:=h3 x.b 0 (IntKind.i64.wrap (x.a-1));have mS:=h3 x.kind 1 8;cases lm:(av x.kind 1 8) with
   | true=>
    cases jK:(av x.a 1 10) with
    | true=>
     cases cA:(av x.b 0 (IntKind.i64.wrap (x.a-1))) with
     | true=>
      cases qX:(decide ((↑(x.outs.map bb).length:Int)>2)) with
      | true=>
       rw[show aQ x=false from by grind[aQ,bP,b2,av]];exact aaV ⟨U,dH,pI,n0,mS,(by rw[lm];rfl),(by rw[jK];rfl),(by rw[cA];rfl),qX,ad⟩
      | false=>
       cases g':(x.kind==8) with
       | true=>
        cases GY:(decide ((↑(x.outs.map bb).length:Int)>0)) with
        | true=>
         rw[show aQ x=false from by grind[aQ,bP,b2,av]];exact aaW ⟨U,dH,pI,n0,mS,(by rw[lm];rfl),(by rw[jK];rfl),(by rw[cA];rfl),qX,g',GY,ad⟩
        | false=>
         rcases uz x (by grind) with⟨cB,l⟩ | ⟨cB,l⟩
         ·skip
          rw[show aQ x=false from by grind[aQ,bP,b2,av]];exact aaX ⟨U,dH,pI,n0,mS,(by rw[lm];rfl),(by rw[jK];rfl),(by rw[cA];rfl),qX,g',GY,l,ad⟩
         skip
         rw[show aQ x=true from by grind[aQ,bP,b2,av]];exact aaY ⟨U,dH,pI,n0,mS,(by rw[lm];rfl),(by rw[jK];rfl),(by rw[cA];rfl),qX,g',GY,l,ad⟩
       | false=>
        rcases uz x (by grind) with⟨cB,l⟩ | ⟨cB,l⟩
        ·skip
         rw[show aQ x=false from by grind[aQ,bP,b2,av]];exact aaZ ⟨U,dH,pI,n0,mS,(by rw[lm];rfl),(by rw[jK];rfl),(by rw[cA];rfl),qX,g',l,ad⟩
        skip
        rw[show aQ x=true from by grind[aQ,bP,b2,av]];exact aa0 ⟨U,dH,pI,n0,mS,(by rw[lm];rfl),(by rw[jK];rfl),(by rw[cA];rfl),qX,g',l,ad⟩
     | false=>
      rw[show aQ x=false from by grind[aQ,bP,b2,av]];exact avA ⟨U,dH,pI,n0,mS,(by rw[lm];rfl),(by rw[jK];rfl),(by rw[cA];rfl),ad⟩
    | false=>
     rw[show aQ x=false from by grind[aQ,bP,b2,av]];exact avz ⟨U,dH,pI,n0,mS,(by rw[lm];rfl),(by rw[jK];rfl),ad⟩
   | false=>
    rw[show aQ x=false from by grind[aQ,bP,b2,av]];exact avy ⟨U,dH,pI,n0,mS,(by rw[lm];rfl),ad⟩
  | false=>
   cases fa:(x.kind==4) with
   | true=>
    have mT:=h3 x.a 0 99;have r2:=h3 x.kind 1 8;cases j6:(av x.kind 1 8) with
    | true=>
     cases mY:(av x.a 0 99) with
     | true=>
      cases pM:(x.b==0) with
      | true=>
       cases pN:(decide ((↑(x.outs.map bb).length:Int)>2)) with
       | true=>
        rw[show aQ x=false from by grind[aQ,bP,b2,av]];exact aa4 ⟨U,dH,fa,mT,r2,(by rw[j6];rfl),(by rw[mY];rfl),(by rw[pM];rfl),pN,ad⟩
       | false=>
        cases sc:(x.kind==8) with
        | true=>
         cases n1:(decide ((↑(x.outs.map bb).length:Int)>0)) with
         | true=>
          rw[show aQ x=false from by grind[aQ,bP,b2,av]];exact aa5 ⟨U,dH,fa,mT,r2,(by rw[j6];rfl),(by rw[mY];rfl),(by rw[pM];rfl),pN,sc,n1,ad⟩
         | false=>
          rcases uz x (by grind) with⟨cB,l⟩ | ⟨cB,l⟩
          ·skip
           rw[show aQ x=false from by grind[aQ,bP,b2,av]];exact aa6 ⟨U,dH,fa,mT,r2,(by rw[j6];rfl),(by rw[mY];rfl),(by rw[pM];rfl),pN,sc,n1,l,ad⟩
          skip
          rw[show aQ x=true from by grind[aQ,bP,b2,av]];exact aa7 ⟨U,dH,fa,mT,r2,(by rw[j6];rfl),(by rw[mY];rfl),(by rw[pM];rfl),pN,sc,n1,l,ad⟩
        | false=>
         rcases uz x (by grind) with⟨cB,l⟩ | ⟨cB,l⟩
         ·skip
          rw[show aQ x=false from by grind[aQ,bP,b2,av]];exact aa8 ⟨U,dH,fa,mT,r2,(by rw[j6];rfl),(by rw[mY];rfl),(by rw[pM];rfl),pN,sc,l,ad⟩
         skip
         rw[show aQ x=true from by grind[aQ,bP,b2,av]];exact aa9 ⟨U,dH,fa,mT,r2,(by rw[j6];rfl),(by rw[mY];rfl),(by rw[pM];rfl),pN,sc,l,ad⟩
      | false=>
       rw[show aQ x=false from by grind[aQ,bP,b2,av]];exact aa3 ⟨U,dH,fa,mT,r2,(by rw[j6];rfl),(by rw[mY];rfl),(by rw[pM];rfl),ad⟩
     | false=>
      rw[show aQ x=false from by grind[aQ,bP,b2,av]];exact aa2 ⟨U,dH,fa,mT,r2,(by rw[j6];rfl),(by rw[mY];rfl),ad⟩
    | false=>
     rw[show aQ x=false from by grind[aQ,bP,b2,av]];exact aa1 ⟨U,dH,fa,mT,r2,(by rw[j6];rfl),ad⟩
   | false=>
    have r3:=h3 x.kind 1 8;cases sd:(av x.kind 1 8) with
    | true=>
     cases oX:(x.a==0) with
     | true=>
      cases cZ:(x.b==0) with
      | true=>
       cases w3:(decide ((↑(x.outs.map bb).length:Int)>2)) with
       | true=>
        rw[show aQ x=false from by grind[aQ,bP,b2,av]];exact abe ⟨U,dH,fa,r3,(by rw[sd];rfl),(by rw[oX];rfl),(by rw[cZ];rfl),w3,ad⟩
       | false=>
        cases kp:(x.kind==8) with
        | true=>
         cases lo:(decide ((↑(x.outs.map bb).length:Int)>0)) with
         | true=>
          rw[show aQ x=false from by grind[aQ,bP,b2,av]];exact abf ⟨U,dH,fa,r3,(by rw[sd];rfl),(by rw[oX];rfl),(by rw[cZ];rfl),w3,kp,lo,ad⟩
         | false=>
          rcases uz x (by grind) with⟨cB,l⟩ | ⟨cB,l⟩
          ·skip
           rw[show aQ x=false from by grind[aQ,bP,b2,av]];exact abg ⟨U,dH,fa,r3,(by rw[sd];rfl),(by rw[oX];rfl),(by rw[cZ];rfl),w3,kp,lo,l,ad⟩
          skip
          rw[show aQ x=true from by grind[aQ,bP,b2,av]];exact abh ⟨U,dH,fa,r3,(by rw[sd];rfl),(by rw[oX];rfl),(by rw[cZ];rfl),w3,kp,lo,l,ad⟩
        | false=>
         rcases uz x (by grind) with⟨cB,l⟩ | ⟨cB,l⟩
         ·skip
          rw[show aQ x=false from by grind[aQ,bP,b2,av]];exact abi ⟨U,dH,fa,r3,(by rw[sd];rfl),(by rw[oX];rfl),(by rw[cZ];rfl),w3,kp,l,ad⟩
         skip
         rw[show aQ x=true from by grind[aQ,bP,b2,av]];exact abj ⟨U,dH,fa,r3,(by rw[sd];rfl),(by rw[oX];rfl),(by rw[cZ];rfl),w3,kp,l,ad⟩
      | false=>
       rw[show aQ x=false from by grind[aQ,bP,b2,av]];exact abd ⟨U,dH,fa,r3,(by rw[sd];rfl),(by rw[oX];rfl),(by rw[cZ];rfl),ad⟩
     | false=>
      rw[show aQ x=false from by grind[aQ,bP,b2,av]];exact abb ⟨U,dH,fa,r3,(by rw[sd];rfl),(by rw[oX];rfl),ad⟩
    | false=>
     rw[show aQ x=false from by grind[aQ,bP,b2,av]];exact aba ⟨U,dH,fa,r3,(by rw[sd];rfl),ad⟩
theorem Sg(x:Node)(aq:x.outs.length<=8388608):al 128 [.agg x.e] [.one (B (aQ x))]:=by
 cases U:(x.kind==2) with
 | true=>
  have ct:=kA x.a 0 999;cases aB:(av x.a 0 999) with
  | true=>
   cases aJ:(x.b != 0) with
   | true=>
    rw[show aQ x=false from by grind[aQ,bP,b2,av]];exact abl ⟨U,ct,(by rw[aB];rfl),aJ,ad⟩
   | false=>
    cases a6:(decide ((↑(x.outs.map bb).length:Int)>2)) with
    | true=>
     rw[show aQ x=false from by grind[aQ,bP,b2,av]];exact aav ⟨U,ct,(by rw[aB];rfl),aJ,a6,ad⟩
    | false=>
     cases bF:(x.kind==8) with
     | true=>
      cases bY:(decide ((↑(x.outs.map bb).length:Int)>0)) with
      | true=>
       rw[show aQ x=false from by grind[aQ,bP,b2,av]];exact aaw ⟨U,ct,(by rw[aB];rfl),aJ,a6,bF,bY,ad⟩
      | false=>
       cases dy:((↑(x.outs.map bb).length:Int)==2) with
       | true=>
        obtain⟨Gd,ss⟩:=c2 (xs:=x.outs) (i:=0) (by grind[av,aK]);obtain⟨BH,HY⟩:=c2 (xs:=x.outs) (i:=1) (by grind[av,aK]);cases h0:(Gd==BH) with
        | true=>
         rw[show aQ x=false from by grind[aQ,bP,b2,av]];exact aax ⟨U,ct,(by rw[aB];rfl),aJ,a6,bF,bY,dy,(by grind[av,aK]),(by grind[av,aK]),(bN bb ss),(by grind[av,aK]),(by grind[av,aK]),(bN bb HY),h0,ad⟩
        | false=>
         rcases hg x aq with⟨cB,l⟩ | ⟨cB,l⟩
         ·skip
          rw[show aQ x=false from by grind[aQ,bP,b2,av]];exact aaB ⟨U,ct,(by rw[aB];rfl),aJ,a6,bF,bY,dy,(by grind[av,aK]),(by grind[av,aK]),(bN bb ss),(by grind[av,aK]),(by grind[av,aK]),(bN bb HY),h0,l,ad⟩
         skip
         rw[show aQ x=true from by grind[aQ,bP,b2,av]];exact aaC ⟨U,ct,(by rw[aB];rfl),aJ,a6,bF,bY,dy,(by grind[av,aK]),(by grind[av,aK]),(bN bb ss),(by grind[av,aK]),(by grind[av,aK]),(bN bb HY),h0,l,ad⟩
       | false=>
        rcases hg x aq with⟨cB,l⟩ | ⟨cB,l⟩
        ·skip
         rw[show aQ x=false from by grind[aQ,bP,b2,av]];exact aaD ⟨U,ct,(by rw[aB];rfl),aJ,a6,bF,bY,dy,l,ad⟩
        skip
        rw[show aQ x=true from by grind[aQ,bP,b2,av]];exact aaE ⟨U,ct,(by rw[aB];rfl),aJ,a6,bF,bY,dy,l,ad⟩
     | false=>
      cases ig:((↑(x.outs.map bb).length:Int)==2) with
      | true=>
       obtain⟨FO,H4⟩:=c2 (xs:=x.outs) (i:=0) (by grind[av,aK]);obtain⟨FP,H5⟩:=c2 (xs:=x.outs) (i:=1) (by grind[av,aK]);cases jK:(FO==FP) with
       | true=>
        rw[show aQ x=false from by grind[aQ,bP,b2,av]];exact aaF ⟨U,ct,(by rw[aB];rfl),aJ,a6,bF,ig,(by grind[av,aK]),(by grind[av,aK]),(bN bb H4),(by grind[av,aK]),(by grind[av,aK]),(bN bb H5),jK,ad⟩
       | false=>
        rcases hg x aq with⟨cB,l⟩ | ⟨cB,l⟩
        ·skip
         rw[show aQ x=false from by grind[aQ,bP,b2,av]];exact aaG ⟨U,ct,(by rw[aB];rfl),aJ,a6,bF,ig,(by grind[av,aK]),(by grind[av,aK]),(bN bb H4),(by grind[av,aK]),(by grind[av,aK]),(bN bb H5),jK,l,ad⟩
        skip
        rw[show aQ x=true from by grind[aQ,bP,b2,av]];exact aaH ⟨U,ct,(by rw[aB];rfl),aJ,a6,bF,ig,(by grind[av,aK]),(by grind[av,aK]),(bN bb H4),(by grind[av,aK]),(by grind[av,aK]),(bN bb H5),jK,l,ad⟩
      | false=>
       rcases hg x aq with⟨cB,l⟩ | ⟨cB,l⟩
       ·skip
        rw[show aQ x=false from by grind[aQ,bP,b2,av]];exact aaI ⟨U,ct,(by rw[aB];rfl),aJ,a6,bF,ig,l,ad⟩
       skip
       rw[show aQ x=true from by grind[aQ,bP,b2,av]];exact aaJ ⟨U,ct,(by rw[aB];rfl),aJ,a6,bF,ig,l,ad⟩
  | false=>
   rw[show aQ x=false from by grind[aQ,bP,b2,av]];exact abk ⟨U,ct,(by rw[aB];rfl),ad⟩
 | false=>
  cases cA:(x.kind==3) with
  | true=>
   have lR:=kA x.a 1 10;cases g':(av x.a 1 10) with
   | true=>
    have jd:=kA x.b 0 (IntKind.i64.wrap (x.a-1));cases fa:(av x.b 0 (IntKind.i64.wrap (x.a-1))) with
    | true=>
     cases oW:(decide ((↑(x.outs.map bb).length:Int)>2)) with
     | true=>
      rw[show aQ x=false from by grind[aQ,bP,b2,av]];exact aaM ⟨U,cA,lR,(by rw[g'];rfl),jd,(by rw[fa];rfl),oW,ad⟩
     | false=>
      cases ln:(x.kind==8) with
      | true=>
       cases j6:(decide ((↑(x.outs.map bb).length:Int)>0)) with
       | true=>
        rw[show aQ x=false from by grind[aQ,bP,b2,av]];exact aaN ⟨U,cA,lR,(by rw[g'];rfl),jd,(by rw[fa];rfl),oW,ln,j6,ad⟩
       | false=>
        cases mY:((↑(x.outs.map bb).length:Int)==2) with
        | true=>
         obtain⟨BP,H6⟩:=c2 (xs:=x.outs) (i:=0) (by grind[av,aK]);obtain⟨BQ,H7⟩:=c2 (xs:=x.outs) (i:=1) (by grind[av,aK]);cases sc:(BP==BQ) with
         | true=>
          rw[show aQ x=false from by grind[aQ,bP,b2,av]];exact aaO ⟨U,cA,lR,(by rw[g'];rfl),jd,(by rw[fa];rfl),oW,ln,j6,mY,(by grind[av,aK]),(by grind[av,aK]),(bN bb H6),(by grind[av,aK]),(by grind[av,aK]),(bN bb H7),sc,ad⟩
         | false=>
          rcases hg x aq with⟨cB,l⟩ | ⟨cB,l⟩
          ·skip
           rw[show aQ x=false from by grind[aQ,bP,b2,av]];exact aaP ⟨U,cA,lR,(by rw[g'];rfl),jd,(by rw[fa];rfl),oW,ln,j6,mY,(by grind[av,aK]),(by grind[av,aK]),(bN bb H6),(by grind[av,aK]),(by grind[av,aK]),(bN bb H7),sc,l,ad⟩
          skip
          rw[show aQ x=true from by grind[aQ,bP,b2,av]];exact aaQ ⟨U,cA,lR,(by rw[g'];rfl),jd,(by rw[fa];rfl),oW,ln,j6,mY,(by grind[av,aK]),(by grind[av,aK]),(bN bb H6),(by grind[av,aK]),(by grind[av,aK]),(bN bb H7),sc,l,ad⟩
        | false=>
         rcases hg x aq with⟨cB,l⟩ | ⟨cB,l⟩
         ·skip
          rw[show aQ x=false from by grind[aQ,bP,b2,av]];exact aaR ⟨U,cA,lR,(by rw[g'];rfl),jd,(by rw[fa];rfl),oW,ln,j6,mY,l,ad⟩
         skip
         rw[show aQ x=true from by grind[aQ,bP,b2,av]];exact aaS ⟨U,cA,lR,(by rw[g'];rfl),jd,(by rw[fa];rfl),oW,ln,j6,mY,l,ad⟩
      | false=>
       cases n1:((↑(x.outs.map bb).length:Int)==2) with
       | true=>
        obtain⟨FU,H8⟩:=c2 (xs:=x.outs) (i:=0) (by grind[av,aK]);obtain⟨F5,H9⟩:=c2 (xs:=x.outs) (i:=1) (by grind[av,aK]);cases oX:(FU==F5) with
        | true=>
         rw[show aQ x=false from by grind[aQ,bP,b2,av]];exact aaT ⟨U,cA,lR,(by rw[g'];rfl),jd,(by rw[fa];rfl),oW,ln,n1,(by grind[av,aK]),(by grind[av,aK]),(bN bb H8),(by grind[av,aK]),(by grind[av,aK]),(bN bb H9),oX,ad⟩
        | false=>
         rcases hg x aq with⟨cB,l⟩ | ⟨cB,l⟩
         ·skip
          rw[show aQ x=false from by grind[aQ,bP,b2,av]];exact aaU ⟨U,cA,lR,(by rw[g'];rfl),jd,(by rw[fa];rfl),oW,ln,n1,(by grind[av,aK]),(by grind[av,aK]),(bN bb H8),(by grind[av,aK]),(by grind[av,aK]),(bN bb H9),oX,l,ad⟩
         skip
         rw[show aQ x=true from by grind[aQ,bP,b2,av]];exact aal ⟨U,cA,lR,(by rw[g'];rfl),jd,(by rw[fa];rfl),oW,ln,n1,(by grind[av,aK]),(by grind[av,aK]),(bN bb H8),(by grind[av,aK]),(by grind[av,aK]),(bN bb H9),oX,l,ad⟩
       | false=>
        rcases hg x aq with⟨cB,l⟩ | ⟨cB,l⟩
        ·skip
         rw[show aQ x=false from by grind[aQ,bP,b2,av]];exact aam ⟨U,cA,lR,(by rw[g'];rfl),jd,(by rw[fa];rfl),oW,ln,n1,l,ad⟩
        skip
        rw[show aQ x=true from by grind[aQ,bP,b2,av]];exact aan ⟨U,cA,lR,(by rw[g'];rfl),jd,(by rw[fa];rfl),oW,ln,n1,l,ad⟩
    | false=>
     rw[show aQ x=false from by grind[aQ,bP,b2,av]];exact aaL ⟨U,cA,lR,(by rw[g'];rfl),jd,(by rw[fa];rfl),ad⟩
   | false=>
    rw[show aQ x=false from by grind[aQ,bP,b2,av]];exact aaK ⟨U,cA,lR,(by rw[g'];rfl),ad⟩
  | false=>
   cases cZ:(x.kind==4) with
   | true=>
    have mU:=kA x.a 0 99;cases kp:(av x.a 0 99) with
    | true=>
     cases lo:(x.b != 0) with
     | true=>
      rw[show aQ x=false from by grind[aQ,bP,b2,av]];exact aap ⟨U,cA,cZ,mU,(by rw[kp];rfl),lo,ad⟩
     | false=>
      cases oY:(decide ((↑(x.outs.map bb).length:Int)>2)) with
      | true=>
       rw[show aQ x=false from by grind[aQ,bP,b2,av]];exact aaq ⟨U,cA,cZ,mU,(by rw[kp];rfl),lo,oY,ad⟩
      | false=>
       cases pO:(x.kind==8) with
       | true=>
        cases w4:(decide ((↑(x.outs.map bb).length:Int)>0)) with
        | true=>
         rw[show aQ x=false from by grind[aQ,bP,b2,av]];exact aar ⟨U,cA,cZ,mU,(by rw[kp];rfl),lo,oY,pO,w4,ad⟩
        | false=>
         cases y1:((↑(x.outs.map bb).length:Int)==2) with
         | true=>
          obtain⟨Gc,H'⟩:=c2 (xs:=x.outs) (i:=0) (by grind[av,aK]);obtain⟨B2,Ia⟩:=c2 (xs:=x.outs) (i:=1) (by grind[av,aK]);cases GZ:(Gc==B2) with
          | true=>
           rw[show aQ x=false from by grind[aQ,bP,b2,av]];exact aas ⟨U,cA,cZ,mU,(by rw[kp];rfl),lo,oY,pO,w4,y1,(by grind[av,aK]),(by grind[av,aK]),(bN bb H'),(by grind[av,aK]),(by grind[av,aK]),(bN bb Ia),GZ,ad⟩
          | false=>
           rcases hg x aq with⟨cB,l⟩ | ⟨cB,l⟩
           ·skip
            rw[show aQ x=false from by grind[aQ,bP,b2,av]];exact aat ⟨U,cA,cZ,mU,(by rw[kp];rfl),lo,oY,pO,w4,y1,(by grind[av,aK]),(by grind[av,aK]),(bN bb H'),(by grind[av,aK]),(by grind[av,aK]),(bN bb Ia),GZ,l,ad⟩
           skip
           rw[show aQ x=true from by grind[aQ,bP,b2,av]];exact aau ⟨U,cA,cZ,mU,(by rw[kp];rfl),lo,oY,pO,w4,y1,(by grind[av,aK]),(by grind[av,aK]),(bN bb H'),(by grind[av,aK]),(by grind[av,aK]),(bN bb Ia),GZ,l,ad⟩
         | false=>
          rcases hg x aq with⟨cB,l⟩ | ⟨cB,l⟩
          ·skip
           rw[show aQ x=false from by grind[aQ,bP,b2,av]];exact abX ⟨U,cA,cZ,mU,(by rw[kp];rfl),lo,oY,pO,w4,y1,l,ad⟩
          skip
          rw[show aQ x=true from by grind[aQ,bP,b2,av]];exact abY ⟨U,cA,cZ,mU,(by rw[kp];rfl),lo,oY,pO,w4,y1,l,ad⟩
       | false=>
        cases y2:((↑(x.outs.map bb).length:Int)==2) with
        | true=>
         obtain⟨wK,Ib⟩:=c2 (xs:=x.outs) (i:=0) (by grind[av,aK]);obtain⟨yB,Ic⟩:=c2 (xs:=x.outs) (i:=1) (by grind[av,aK]);cases G0:(wK==yB) with
         | true=>
          rw[show aQ x=false from by grind[aQ,bP,b2,av]];exact abZ ⟨U,cA,cZ,mU,(by rw[kp];rfl),lo,oY,pO,y2,(by grind[av,aK]),(by grind[av,aK]),(bN bb Ib),(by grind[av,aK]),(by grind[av,aK]),(bN bb Ic),G0,ad⟩
         | false=>
          rcases hg x aq with⟨cB,l⟩ | ⟨cB,l⟩
          ·skip
           rw[show aQ x=false from by grind[aQ,bP,b2,av]];exact ab0 ⟨U,cA,cZ,mU,(by rw[kp];rfl),lo,oY,pO,y2,(by grind[av,aK]),(by grind[av,aK]),(bN bb Ib),(by grind[av,aK]),(by grind[av,aK]),(bN bb Ic),G0,l,ad⟩
          skip
          rw[show aQ x=true from by grind[aQ,bP,b2,av]];exact ab1 ⟨U,cA,cZ,mU,(by rw[kp];rfl),lo,oY,pO,y2,(by grind[av,aK]),(by grind[av,aK]),(bN bb Ib),(by grind[av,aK]),(by grind[av,aK]),(bN bb Ic),G0,l,ad⟩
        | false=>
         rcases hg x aq with⟨cB,l⟩ | ⟨cB,l⟩
         ·skip
          rw[show aQ x=false from by grind[aQ,bP,b2,av]];exact ab2 ⟨U,cA,cZ,mU,(by rw[kp];rfl),lo,oY,pO,y2,l,ad⟩
         skip
         rw[show aQ x=true from by grind[aQ,bP,b2,av]];exact ab3 ⟨U,cA,cZ,mU,(by rw[kp];rfl),lo,oY,pO,y2,l,ad⟩
    | false=>
     rw[show aQ x=false from by grind[aQ,bP,b2,av]];exact aao ⟨U,cA,cZ,mU,(by rw[kp];rfl),ad⟩
   | false=>
    cases c':(x.kind==1) with
    | true=>
     cases mZ:(x.a != 0) with
     | true=>
      rw[show aQ x=false from by grind[aQ,bP,b2,av]];exact ab4 ⟨U,cA,cZ,c',c',mZ,ad⟩
     | false=>
      cases n2:(x.b != 0) with
      | true=>
       rw[show aQ x=false from by grind[aQ,bP,b2,av]];exact ab5 ⟨U,cA,cZ,c',c',mZ,n2,ad⟩
      | false=>
       cases oZ:(decide ((↑(x.outs.map bb).length:Int)>2)) with
       | true=>
        rw[show aQ x=false from by grind[aQ,bP,b2,av]];exact ab6 ⟨U,cA,cZ,c',c',mZ,n2,oZ,ad⟩
       | false=>
        cases pP:(x.kind==8) with
        | true=>
         cases w5:(decide ((↑(x.outs.map bb).length:Int)>0)) with
         | true=>
          rw[show aQ x=false from by grind[aQ,bP,b2,av]];exact ab7 ⟨U,cA,cZ,c',c',mZ,n2,oZ,pP,w5,ad⟩
         | false=>
          cases y3:((↑(x.outs.map bb).length:Int)==2) with
          | true=>
           obtain⟨awT,Ie⟩:=c2 (xs:=x.outs) (i:=0) (by grind[av,aK]);obtain⟨awU,Ig⟩:=c2 (xs:=x.outs) (i:=1) (by grind[av,aK]);cases G1:(awT==awU) with
           | true=>
            rw[show aQ x=false from by grind[aQ,bP,b2,av]];exact ab8 ⟨U,cA,cZ,c',c',mZ,n2,oZ,pP,w5,y3,(by grind[av,aK]),(by grind[av,aK]),(bN bb Ie),(by grind[av,aK]),(by grind[av,aK]),(bN bb Ig),G1,ad⟩
           | false=>
            rcases hg x aq with⟨cB,l⟩ | ⟨cB,l⟩
            ·skip
             rw[show aQ x=false from by grind[aQ,bP,b2,av]];exact ab9 ⟨U,cA,cZ,c',c',mZ,n2,oZ,pP,w5,y3,(by grind[av,aK]),(by grind[av,aK]),(bN bb Ie),(by grind[av,aK]),(by grind[av,aK]),(bN bb Ig),G1,l,ad⟩
            skip
            rw[show aQ x=true from by grind[aQ,bP,b2,av]];exact aca ⟨U,cA,cZ,c',c',mZ,n2,oZ,pP,w5,y3,(by grind[av,aK]),(by grind[av,aK]),(bN bb Ie),(by grind[av,aK]),(by grind[av,aK]),(bN bb Ig),G1,l,ad⟩
          | false=>
           rcases hg x aq with⟨cB,l⟩ | ⟨cB,l⟩
           ·skip
            rw[show aQ x=false from by grind[aQ,bP,b2,av]];exact acb ⟨U,cA,cZ,c',c',mZ,n2,oZ,pP,w5,y3,l,ad⟩
           skip
           rw[show aQ x=true from by grind[aQ,bP,b2,av]];exact acd ⟨U,cA,cZ,c',c',mZ,n2,oZ,pP,w5,y3,l,ad⟩
        | false=>
         cases y4:((↑(x.outs.map bb).length:Int)==2) with
         | true=>
          obtain⟨awV,Ih⟩:=c2 (xs:=x.outs) (i:=0) (by grind[av,aK]);obtain⟨awW,Ii⟩:=c2 (xs:=x.outs) (i:=1) (by grind[av,aK]);cases G2:(awV==awW) with
          | true=>
           rw[show aQ x=false from by grind[aQ,bP,b2,av]];exact ace ⟨U,cA,cZ,c',c',mZ,n2,oZ,pP,y4,(by grind[av,aK]),(by grind[av,aK]),(bN bb Ih),(by grind[av,aK]),(by grind[av,aK]),(bN bb Ii),G2,ad⟩
          | false=>
           rcases hg x aq with⟨cB,l⟩ | ⟨cB,l⟩
           ·skip
            rw[show aQ x=false from by grind[aQ,bP,b2,av]];exact acf ⟨U,cA,cZ,c',c',mZ,n2,oZ,pP,y4,(by grind[av,aK]),(by grind[av,aK]),(bN bb Ih),(by grind[av,aK]),(by grind[av,aK]),(bN bb Ii),G2,l,ad⟩
           skip
           rw[show aQ x=true from by grind[aQ,bP,b2,av]];exact acg ⟨U,cA,cZ,c',c',mZ,n2,oZ,pP,y4,(by grind[av,aK]),(by grind[av,aK]),(bN bb Ih),(by grind[av,aK]),(by grind[av,aK]),(bN bb Ii),G2,l,ad⟩
         | false=>
          rcases hg x aq with⟨cB,l⟩ | ⟨cB,l⟩
          ·skip
           rw[show aQ x=false from by grind[aQ,bP,b2,av]];exact ach ⟨U,cA,cZ,c',c',mZ,n2,oZ,pP,y4,l,ad⟩
          skip
          rw[show aQ x=true from by grind[aQ,bP,b2,av]];exact aci ⟨U,cA,cZ,c',c',mZ,n2,oZ,pP,y4,l,ad⟩
    | false=>
     cases dL:(x.kind==5) with
     | true=>
      cases m':(x.a != 0) with
      | true=>
       rw[show aQ x=false from by grind[aQ,bP,b2,av]];exact acj ⟨U,cA,cZ,c',dL,dL,m',ad⟩
      | false=>
       cases n3:(x.b != 0) with
       | true=>
        rw[show aQ x=false from by grind[aQ,bP,b2,av]];exact ack ⟨U,cA,cZ,c',dL,dL,m',n3,ad⟩
       | false=>
        cases o0:(decide ((↑(x.outs.map bb).length:Int)>2)) with
        | true=>
         rw[show aQ x=false from by grind[aQ,bP,b2,av]];exact acm ⟨U,cA,cZ,c',dL,dL,m',n3,o0,ad⟩
        | false=>
         cases pQ:(x.kind==8) with
         | true=>
          cases w6:(decide ((↑(x.outs.map bb).length:Int)>0)) with
          | true=>
           rw[show aQ x=false from by grind[aQ,bP,b2,av]];exact acn ⟨U,cA,cZ,c',dL,dL,m',n3,o0,pQ,w6,ad⟩
          | false=>
           cases y5:((↑(x.outs.map bb).length:Int)==2) with
           | true=>
            obtain⟨awX,Ij⟩:=c2 (xs:=x.outs) (i:=0) (by grind[av,aK]);obtain⟨awY,Ik⟩:=c2 (xs:=x.outs) (i:=1) (by grind[av,aK]);cases G3:(awX==awY) with
            | true=>
             rw[show aQ x=false from by grind[aQ,bP,b2,av]];exact aco ⟨U,cA,cZ,c',dL,dL,m',n3,o0,pQ,w6,y5,(by grind[av,aK]),(by grind[av,aK]),(bN bb Ij),(by grind[av,aK]),(by grind[av,aK]),(bN bb Ik),G3,ad⟩
            | false=>
             rcases hg x aq with⟨cB,l⟩ | ⟨cB,l⟩
             ·skip
              rw[show aQ x=false from by grind[aQ,bP,b2,av]];exact abx ⟨U,cA,cZ,c',dL,dL,m',n3,o0,pQ,w6,y5,(by grind[av,aK]),(by grind[av,aK]),(bN bb Ij),(by grind[av,aK]),(by grind[av,aK]),(bN bb Ik),G3,l,ad⟩
             skip
             rw[show aQ x=true from by grind[aQ,bP,b2,av]];exact aby ⟨U,cA,cZ,c',dL,dL,m',n3,o0,pQ,w6,y5,(by grind[av,aK]),(by grind[av,aK]),(bN bb Ij),(by grind[av,aK]),(by grind[av,aK]),(bN bb Ik),G3,l,ad⟩
           | false=>
            rcases hg x aq with⟨cB,l⟩ | ⟨cB,l⟩
            ·skip
             rw[show aQ x=false from by grind[aQ,bP,b2,av]];exact abz ⟨U,cA,cZ,c',dL,dL,m',n3,o0,pQ,w6,y5,l,ad⟩
            skip
            rw[show aQ x=true from by grind[aQ,bP,b2,av]];exact abA ⟨U,cA,cZ,c',dL,dL,m',n3,o0,pQ,w6,y5,l,ad⟩
         | false=>
          cases y6:((↑(x.outs.map bb).length:Int)==2) with
          | true=>
           obtain⟨awZ,Il⟩:=c2 (xs:=x.outs) (i:=0) (by grind[av,aK]);obtain⟨aw0,Im⟩:=c2 (xs:=x.outs) (i:=1) (by grind[av,aK]);cases G4:(awZ==aw0) with
           | true=>
            rw[show aQ x=false from by grind[aQ,bP,b2,av]];exact abB ⟨U,cA,cZ,c',dL,dL,m',n3,o0,pQ,y6,(by grind[av,aK]),(by grind[av,aK]),(bN bb Il),(by grind[av,aK]),(by grind[av,aK]),(bN bb Im),G4,ad⟩
           | false=>
            rcases hg x aq with⟨cB,l⟩ | ⟨cB,l⟩
            ·skip
             rw[show aQ x=false from by grind[aQ,bP,b2,av]];exact abC ⟨U,cA,cZ,c',dL,dL,m',n3,o0,pQ,y6,(by grind[av,aK]),(by grind[av,aK]),(bN bb Il),(by grind[av,aK]),(by grind[av,aK]),(bN bb Im),G4,l,ad⟩
            skip
            rw[show aQ x=true from by grind[aQ,bP,b2,av]];exact abD ⟨U,cA,cZ,c',dL,dL,m',n3,o0,pQ,y6,(by grind[av,aK]),(by grind[av,aK]),(bN bb Il),(by grind[av,aK]),(by grind[av,aK]),(bN bb Im),G4,l,ad⟩
          | false=>
           rcases hg x aq with⟨cB,l⟩ | ⟨cB,l⟩
           ·skip
            rw[show aQ x=false from by grind[aQ,bP,b2,av]];exact abE ⟨U,cA,cZ,c',dL,dL,m',n3,o0,pQ,y6,l,ad⟩
           skip
           rw[show aQ x=true from by grind[aQ,bP,b2,av]];exact abF ⟨U,cA,cZ,c',dL,dL,m',n3,o0,pQ,y6,l,ad⟩
     | false=>
      cases ey:(x.kind==6) with
      | true=>
       cases na:(x.a != 0) with
       | true=>
        rw[show aQ x=false from by grind[aQ,bP,b2,av]];exact abG ⟨U,cA,cZ,c',dL,ey,ey,na,ad⟩
       | false=>
        cases n4:(x.b != 0) with
        | true=>
         rw[show aQ x=false from by grind[aQ,bP,b2,av]];exact abH ⟨U,cA,cZ,c',dL,ey,ey,na,n4,ad⟩
        | false=>
         cases o1:(decide ((↑(x.outs.map bb).length:Int)>2)) with
         | true=>
          rw[show aQ x=false from by grind[aQ,bP,b2,av]];exact abI ⟨U,cA,cZ,c',dL,ey,ey,na,n4,o1,ad⟩
         | false=>
          cases pR:(x.kind==8) with
          | true=>
           cases w7:(decide ((↑(x.outs.map bb).length:Int)>0)) with
           | true=>
            rw[show aQ x=false from by grind[aQ,bP,b2,av]];exact abJ ⟨U,cA,cZ,c',dL,ey,ey,na,n4,o1,pR,w7,ad⟩
           | false=>
            cases y7:((↑(x.outs.map bb).length:Int)==2) with
            | true=>
             obtain⟨aw1,Io⟩:=c2 (xs:=x.outs) (i:=0) (by grind[av,aK]);obtain⟨aw2,Ip⟩:=c2 (xs:=x.outs) (i:=1) (by grind[av,aK]);cases G5:(aw1==aw2) with
             | true=>
              rw[show aQ x=false from by grind[aQ,bP,b2,av]];exact abK ⟨U,cA,cZ,c',dL,ey,ey,na,n4,o1,pR,w7,y7,(by grind[av,aK]),(by grind[av,aK]),(bN bb Io),(by grind[av,aK]),(by grind[av,aK]),(bN bb Ip),G5,ad⟩
             | false=>
              rcases hg x aq with⟨cB,l⟩ | ⟨cB,l⟩
              ·skip
               rw[show aQ x=false from by grind[aQ,bP,b2,av]];exact abL ⟨U,cA,cZ,c',dL,ey,ey,na,n4,o1,pR,w7,y7,(by grind[av,aK]),(by grind[av,aK]),(bN bb Io),(by grind[av,aK]),(by grind[av,aK]),(bN bb Ip),G5,l,ad⟩
              skip
              rw[show aQ x=true from by grind[aQ,bP,b2,av]];exact abM ⟨U,cA,cZ,c',dL,ey,ey,na,n4,o1,pR,w7,y7,(by grind[av,aK]),(by grind[av,aK]),(bN bb Io),(by grind[av,aK]),(by grind[av,aK]),(bN bb Ip),G5,l,ad⟩
            | false=>
             rcases hg x aq with⟨cB,l⟩ | ⟨cB,l⟩
             ·skip
              rw[show aQ x=false from by grind[aQ,bP,b2,av]];exact abN ⟨U,cA,cZ,c',dL,ey,ey,na,n4,o1,pR,w7,y7,l,ad⟩
             skip
             rw[show aQ x=true from by grind[aQ,bP,b2,av]];exact abO ⟨U,cA,cZ,c',dL,ey,ey,na,n4,o1,pR,w7,y7,l,ad⟩
          | false=>
           cases y8:((↑(x.outs.map bb).length:Int)==2) with
           | true=>
            obtain⟨aw3,Iq⟩:=c2 (xs:=x.outs) (i:=0) (by grind[av,aK]);obtain⟨aw4,Ir⟩:=c2 (xs:=x.outs) (i:=1) (by grind[av,aK]);cases G6:(aw3==aw4) with
            | true=>
             rw[show aQ x=false from by grind[aQ,bP,b2,av]];exact abP ⟨U,cA,cZ,c',dL,ey,ey,na,n4,o1,pR,y8,(by grind[av,aK]),(by grind[av,aK]),(bN bb Iq),(by grind[av,aK]),(by grind[av,aK]),(bN bb Ir),G6,ad⟩
            | false=>
             rcases hg x aq with⟨cB,l⟩ | ⟨cB,l⟩
             ·skip
              rw[show aQ x=false from by grind[aQ,bP,b2,av]];exact abQ ⟨U,cA,cZ,c',dL,ey,ey,na,n4,o1,pR,y8,(by grind[av,aK]),(by grind[av,aK]),(bN bb Iq),(by grind[av,aK]),(by grind[av,aK]),(bN bb Ir),G6,l,ad⟩
             skip
             rw[show aQ x=true from by grind[aQ,bP,b2,av]];exact abR ⟨U,cA,cZ,c',dL,ey,ey,na,n4,o1,pR,y8,(by grind[av,aK]),(by grind[av,aK]),(bN bb Iq),(by grind[av,aK]),(by grind[av,aK]),(bN bb Ir),G6,l,ad⟩
           | false=>
            rcases hg x aq with⟨cB,l⟩ | ⟨cB,l⟩
            ·skip
             rw[show aQ x=false from by grind[aQ,bP,b2,av]];exact abS ⟨U,cA,cZ,c',dL,ey,ey,na,n4,o1,pR,y8,l,ad⟩
            skip
            rw[show aQ x=true from by grind[aQ,bP,b2,av]];exact abT ⟨U,cA,cZ,c',dL,ey,ey,na,n4,o1,pR,y8,l,ad⟩
      | false=>
       cases fJ:(x.kind==7) with
       | true=>
        cases nc:(x.a != 0) with
        | true=>
         rw[show aQ x=false from by grind[aQ,bP,b2,av]];exact abU ⟨U,cA,cZ,c',dL,ey,fJ,fJ,nc,ad⟩
        | false=>
         cases n5:(x.b != 0) with
         | true=>
          rw[show aQ x=false from by grind[aQ,bP,b2,av]];exact abV ⟨U,cA,cZ,c',dL,ey,fJ,fJ,nc,n5,ad⟩
         | false=>
          cases o2:(decide ((↑(x.outs.map bb).length:Int)>2)) with
          | true=>
           rw[show aQ x=false from by grind[aQ,bP,b2,av]];exact abW ⟨U,cA,cZ,c',dL,ey,fJ,fJ,nc,n5,o2,ad⟩
          | false=>
           cases pS:(x.kind==8) with
           | true=>
            cases w8:(decide ((↑(x.outs.map bb).length:Int)>0)) with
            | true=>
             rw[show aQ x=false from by grind[aQ,bP,b2,av]];exact abm ⟨U,cA,cZ,c',dL,ey,fJ,fJ,nc,n5,o2,pS,w8,ad⟩
            | false=>
             cases y9:((↑(x.outs.map bb).length:Int)==2) with
             | true=>
              obtain⟨aw5,Is⟩:=c2 (xs:=x.outs) (i:=0) (by grind[av,aK]);obtain⟨aw6,It⟩:=c2 (xs:=x.outs) (i:=1) (by grind[av,aK]);cases G7:(aw5==aw6) with
              | true=>
               rw[show aQ x=false from by grind[aQ,bP,b2,av]];exact abn ⟨U,cA,cZ,c',dL,ey,fJ,fJ,nc,n5,o2,pS,w8,y9,(by grind[av,aK]),(by grind[av,aK]),(bN bb Is),(by grind[av,aK]),(by grind[av,aK]),(bN bb It),G7,ad⟩
              | false=>
               rcases hg x aq with⟨cB,l⟩ | ⟨cB,l⟩
               ·skip
                rw[show aQ x=false from by grind[aQ,bP,b2,av]];exact abo ⟨U,cA,cZ,c',dL,ey,fJ,fJ,nc,n5,o2,pS,w8,y9,(by grind[av,aK]),(by grind[av,aK]),(bN bb Is),(by grind[av,aK]),(by grind[av,aK]),(bN bb It),G7,l,ad⟩
               skip
               rw[show aQ x=true from by grind[aQ,bP,b2,av]];exact abp ⟨U,cA,cZ,c',dL,ey,fJ,fJ,nc,n5,o2,pS,w8,y9,(by grind[av,aK]),(by grind[av,aK]),(bN bb Is),(by grind[av,aK]),(by grind[av,aK]),(bN bb It),G7,l,ad⟩
             | false=>
              rcases hg x aq with⟨cB,l⟩ | ⟨cB,l⟩
              ·skip
               rw[show aQ x=false from by grind[aQ,bP,b2,av]];exact abq ⟨U,cA,cZ,c',dL,ey,fJ,fJ,nc,n5,o2,pS,w8,y9,l,ad⟩
              skip
              rw[show aQ x=true from by grind[aQ,bP,b2,av]];exact abr ⟨U,cA,cZ,c',dL,ey,fJ,fJ,nc,n5,o2,pS,w8,y9,l,ad⟩
           | false=>
            cases y':((↑(x.outs.map bb).length:Int)==2) with
            | true=>
             obtain⟨awP,HZ⟩:=c2 (xs:=x.outs) (i:=0) (by grind[av,aK]);obtain⟨awQ,H0⟩:=c2 (xs:=x.outs) (i:=1) (by grind[av,aK]);cases GV:(awP==awQ) with
             | true=>
              rw[show aQ x=false from by grind[aQ,bP,b2,av]];exact abt ⟨U,cA,cZ,c',dL,ey,fJ,fJ,nc,n5,o2,pS,y',(by grind[av,aK]),(by grind[av,aK]),(bN bb HZ),(by grind[av,aK]),(by grind[av,aK]),(bN bb H0),GV,ad⟩
             | false=>
              rcases hg x aq with⟨cB,l⟩ | ⟨cB,l⟩
              ·skip
               rw[show aQ x=false from by grind[aQ,bP,b2,av]];exact abu ⟨U,cA,cZ,c',dL,ey,fJ,fJ,nc,n5,o2,pS,y',(by grind[av,aK]),(by grind[av,aK]),(bN bb HZ),(by grind[av,aK]),(by grind[av,aK]),(bN bb H0),GV,l,ad⟩
              skip
              rw[show aQ x=true from by grind[aQ,bP,b2,av]];exact abv ⟨U,cA,cZ,c',dL,ey,fJ,fJ,nc,n5,o2,pS,y',(by grind[av,aK]),(by grind[av,aK]),(bN bb HZ),(by grind[av,aK]),(by grind[av,aK]),(bN bb H0),GV,l,ad⟩
            | false=>
             rcases hg x aq with⟨cB,l⟩ | ⟨cB,l⟩
             ·skip
              rw[show aQ x=false from by grind[aQ,bP,b2,av]];exact abw ⟨U,cA,cZ,c',dL,ey,fJ,fJ,nc,n5,o2,pS,y',l,ad⟩
             skip
             rw[show aQ x=true from by grind[aQ,bP,b2,av]];exact ac0 ⟨U,cA,cZ,c',dL,ey,fJ,fJ,nc,n5,o2,pS,y',l,ad⟩
       | false=>
        cases lT:(x.kind==8) with
        | true=>
         cases sb:(x.a != 0) with
         | true=>
          rw[show aQ x=false from by grind[aQ,bP,b2,av]];exact ac1 ⟨U,cA,cZ,c',dL,ey,fJ,lT,sb,ad⟩
         | false=>
          cases tA:(x.b != 0) with
          | true=>
           rw[show aQ x=false from by grind[aQ,bP,b2,av]];exact ac2 ⟨U,cA,cZ,c',dL,ey,fJ,lT,sb,tA,ad⟩
          | false=>
           cases u':(decide ((↑(x.outs.map bb).length:Int)>2)) with
           | true=>
            rw[show aQ x=false from by grind[aQ,bP,b2,av]];exact ac3 ⟨U,cA,cZ,c',dL,ey,fJ,lT,sb,tA,u',ad⟩
           | false=>
            cases w2:(decide ((↑(x.outs.map bb).length:Int)>0)) with
            | true=>
             rw[show aQ x=false from by grind[aQ,bP,b2,av]];exact ac4 ⟨U,cA,cZ,c',dL,ey,fJ,lT,sb,tA,u',lT,w2,ad⟩
            | false=>
             cases yY:((↑(x.outs.map bb).length:Int)==2) with
             | true=>
              obtain⟨awR,H2⟩:=c2 (xs:=x.outs) (i:=0) (by grind[av,aK]);obtain⟨awS,H3⟩:=c2 (xs:=x.outs) (i:=1) (by grind[av,aK]);cases GX:(awR==awS) with
              | true=>
               rw[show aQ x=false from by grind[aQ,bP,b2,av]];exact ac5 ⟨U,cA,cZ,c',dL,ey,fJ,lT,sb,tA,u',lT,w2,yY,(by grind[av,aK]),(by grind[av,aK]),(bN bb H2),(by grind[av,aK]),(by grind[av,aK]),(bN bb H3),GX,ad⟩
              | false=>
               rcases hg x aq with⟨cB,l⟩ | ⟨cB,l⟩
               ·skip
                rw[show aQ x=false from by grind[aQ,bP,b2,av]];exact ac6 ⟨U,cA,cZ,c',dL,ey,fJ,lT,sb,tA,u',lT,w2,yY,(by grind[av,aK]),(by grind[av,aK]),(bN bb H2),(by grind[av,aK]),(by grind[av,aK]),(bN bb H3),GX,l,ad⟩
               skip
               rw[show aQ x=true from by grind[aQ,bP,b2,av]];exact ac7 ⟨U,cA,cZ,c',dL,ey,fJ,lT,sb,tA,u',lT,w2,yY,(by grind[av,aK]),(by grind[av,aK]),(bN bb H2),(by grind[av,aK]),(by grind[av,aK]),(bN bb H3),GX,l,ad⟩
             | false=>
              rcases hg x aq with⟨cB,l⟩ | ⟨cB,l⟩
              ·skip
               rw[show aQ x=false from by grind[aQ,bP,b2,av]];exact ac8 ⟨U,cA,cZ,c',dL,ey,fJ,lT,sb,tA,u',lT,w2,yY,l,ad⟩
              skip
              rw[show aQ x=true from by grind[aQ,bP,b2,av]];exact ac9 ⟨U,cA,cZ,c',dL,ey,fJ,lT,sb,tA,u',lT,w2,yY,l,ad⟩
        | false=>
         rw[show aQ x=false from by grind[aQ,bP,b2,av]];exact ada ⟨U,cA,cZ,c',dL,ey,fJ,lT,ad⟩
