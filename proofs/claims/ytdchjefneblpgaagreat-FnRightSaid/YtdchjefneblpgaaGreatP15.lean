import Derived.Test.YtdchjefneblpgaaGreatQ2
import Derived.Test.YtdchjefneblpgaaGreatGQ
import Derived.Test.YtdchjefneblpgaaGreatGR
set_option linter.unusedVariables false
set_option linter.unusedSimpArgs false
namespace Go.Proofs.YtdchjefneblpgaaGreat
open Go.Sx Go.RowKit Go.Proofs.Tryz
def hZ(s:hR):Bool:=aw s.aU 0 3&&aw s.dG 0 6
def ey(k v:Int):Bool:=aw k 0 99&&aw v 0 999
def dM(r:ay):Bool:=aw r.op 0 7&&hZ r.bf&&ey r.key r.val
def eF(s:hR):hR×Bool:=if hZ s&&decide (s.dG<6) then (⟨s.aU,s.dG+1⟩,true) else (s,false)
def less(a b:Int):Int:=if b<a then b else a
def bN(x:Node):Bool:=
 if x.kind=2 then aw x.a 0 999&&x.b==0
 else if x.kind=3 then aw x.a 1 10&&aw x.b 0 (IntKind.i64.wrap (x.a-1))
 else if x.kind=4 then aw x.a 0 99&&x.b==0
 else aw x.kind 1 8&&x.a==0&&x.b==0
def oN(l:List Int):Bool:=!(l.any fun k=>!aw k 0 7)
def bY(l:List Int):Bool:=decide (l.length=2/\l[0]?=l[1]?)
def aO(x:Node):Bool:=bN x&&decide (x.outs.length<=2)&&!(x.kind==8&&decide (0<x.outs.length))&&!bY x.outs&&oN x.outs
theorem look{α:Type}{xs:List α}{i:Int}(bE:0<=i)(h1:i<xs.length):∃a,xs[i.toNat]?=some a:=cV (by omega)
theorem bL{α:Type}{xs:List α}{i:Nat}{a:α}(f:α->List D)(h:xs[i]?=some a):(xs.map f)[i]?=some (f a):=by simp[h]
theorem h0(x:Node)(aa:x.outs.length<=8388608):(oN x.outs=false/\cN prog (ap f273 0) (dP (x.outs.map bd) 0) .ret (hg false))\/(oN x.outs=true/\cN prog (ap f273 0) (dP (x.outs.map bd) 0) (.exit 1) hy):=by
 have l:=hf (P:=prog) (c:=(ap f273 0)) x.outs (fun k=>!aw k 0 7) (fun i=>dP (x.outs.map bd) i) (X:=fun _ _=>hg false) eZ (ci 1)
  (fun i a ae h=>aiL ⟨bT (a6 ae),bx,bA (a6 ae),bw bd ae,lB a 0 7,h,cP (a6 ae) aa,ad⟩)
  (fun i a ae h=>aiK ⟨bT (a6 ae),bx,bA (a6 ae),bw bd ae,lB a 0 7,h,ad⟩)
  (aiM ⟨dq,ad⟩)
 unfold oN;rcases l with⟨_,_,h1,U⟩ | ⟨i,a,_,_,_,_,h1,U⟩
 ·exact .inr ⟨by rw[h1];rfl,U⟩
 exact .inl ⟨by rw[h1];rfl,U⟩
theorem wH(x:Node)(aa:x.outs.length<=2):((oN x.outs&&!bY x.outs)=false/\cN prog (ap f243 0) (iH x.kind x.a x.b (x.outs.map bd) 0) .ret (rY false))\/((oN x.outs&&!bY x.outs)=true/\cN prog (ap f243 0) (iH x.kind x.a x.b (x.outs.map bd) 0) (.exit 1) s7):=by
 obtain⟨SZ,a,b,outs⟩:=x;have cl:=fun k=>iw k 0 7
 match outs,aa with
 | [],_=>exact .inr ⟨rfl,.last (ci 1) (NZ ⟨rfl,ad⟩)⟩
 | [k],_=>
  cases h1:aw k 0 7 with
  | false=>exact .inl ⟨by simp[oN,h1],.last eZ (NY ⟨rfl,by omega,by simp,rfl,cl k,by rw[h1];rfl,ad⟩)⟩
  | true=>
   refine .inr ⟨by simp[oN,bY,h1],.more (VU ⟨rfl,by omega,by simp,rfl,cl k,by rw[h1];rfl,rfl,⟨by omega,by omega⟩,ad⟩) (.last (ci 1) (NZ ⟨rfl,ad⟩))⟩
 | [k,m],_=>
  cases h1:aw k 0 7 with
  | false=>exact .inl ⟨by simp[oN,h1],.last eZ (NY ⟨rfl,by omega,by simp,rfl,cl k,by rw[h1];rfl,ad⟩)⟩
  | true=>
   have first:gi prog (ap f243 0) (iH SZ a b ([k,m].map bd) 0) .normal (iH SZ a b ([k,m].map bd) (0+1)):=VU ⟨rfl,by omega,by simp,rfl,cl k,by rw[h1];rfl,rfl,⟨by omega,by omega⟩,ad⟩
   cases U:aw m 0 7 with
   | false=>exact .inl ⟨by simp[oN,h1,U],.more first (.last eZ (NY ⟨rfl,by omega,by simp,rfl,cl m,by rw[U];rfl,ad⟩))⟩
   | true=>
    cases aA:(k==m) with
    | true=>exact .inl ⟨by simp[oN,bY,h1,U]at aA ⊢;exact aA,.more first (.last eZ (ahh ⟨rfl,by omega,by simp,rfl,cl m,by rw[U];rfl,rfl,by omega,by simp,rfl,by omega,by simp,rfl,aA,ad⟩))⟩
    | false=>exact .inr ⟨by simp[oN,bY,h1,U]at aA ⊢;exact aA,.more first (.more (ahi ⟨rfl,by omega,by simp,rfl,cl m,by rw[U];rfl,rfl,by omega,by simp,rfl,by omega,by simp,rfl,aA,⟨by omega,by omega⟩,ad⟩) (.last (ci 1) (NZ ⟨rfl,ad⟩)))⟩
theorem VV(s:hR):av 244 [.agg s.e] [.one (B (hZ s))]:=by
 have c1:=iw s.aU 0 3;cases U:(aw s.aU 0 3) with
 | true=>
  have cw:=iw s.dG 0 6;rw[show hZ s=aw s.dG 0 6 from by grind[hZ]];exact aga ⟨c1,U,cw,ad⟩
 | false=>
  rw[show hZ s=false from by grind[hZ]];exact agb ⟨c1,U,ad⟩
theorem VW(s:hR):av 274 [.agg s.e] [.one (B (hZ s))]:=by
 have c1:=lB s.aU 0 3;cases U:(aw s.aU 0 3) with
 | true=>
  have cw:=lB s.dG 0 6;rw[show hZ s=aw s.dG 0 6 from by grind[hZ]];exact agc ⟨c1,U,cw,ad⟩
 | false=>
  rw[show hZ s=false from by grind[hZ]];exact agd ⟨c1,U,ad⟩
theorem N0(k v:Int):av 275 [.one (I k),.one (I v)] [.one (B (ey k v))]:=by
 have c1:=lB k 0 99;cases U:(aw k 0 99) with
 | true=>
  have cw:=lB v 0 999;rw[show ey k v=aw v 0 999 from by grind[ey]];exact ah0 ⟨c1,U,cw,ad⟩
 | false=>
  rw[show ey k v=false from by grind[ey]];exact ah1 ⟨c1,U,ad⟩
theorem s8(r:ay):av 122 [.agg r.e] [.one (B (dM r))]:=by
 have c1:=iw r.op 0 7;cases U:(aw r.op 0 7) with
 | true=>
  have cw:=VV r.bf;cases aI:(hZ r.bf) with
  | true=>
   have fE:=iw r.key 0 99;cases bu:(aw r.key 0 99) with
   | true=>
    have JP:=iw r.val 0 999;rw[show dM r=aw r.val 0 999 from by grind[dM,ey]];exact agE ⟨c1,U,cw,aI,fE,bu,JP,ad⟩
   | false=>
    rw[show dM r=false from by grind[dM,ey]];exact agF ⟨c1,U,cw,aI,fE,bu,ad⟩
  | false=>
   rw[show dM r=false from by grind[dM,ey]];exact af5 ⟨c1,U,cw,aI,ad⟩
 | false=>
  rw[show dM r=false from by grind[dM,ey]];exact af6 ⟨c1,U,ad⟩
theorem rZ(r:ay):av 180 [.agg r.e] [.one (B (dM r))]:=by
 have c1:=lB r.op 0 7;cases U:(aw r.op 0 7) with
 | true=>
  have cw:=VW r.bf;cases aI:(hZ r.bf) with
  | true=>
   have fE:=N0 r.key r.val;rw[show dM r=ey r.key r.val from by grind[dM,ey]];exact af7 ⟨c1,U,cw,aI,fE,ad⟩
  | false=>
   rw[show dM r=false from by grind[dM,ey]];exact af8 ⟨c1,U,cw,aI,ad⟩
 | false=>
  rw[show dM r=false from by grind[dM,ey]];exact af9 ⟨c1,U,ad⟩
theorem Ae(s:hR):av 270 [.agg s.e] [.agg ((eF s).1).e,.one (B ((eF s).2))]:=by
 have c1:=VV s;cases U:(hZ s) with
 | true=>
  cases aA:(decide (s.dG>=6)) with
  | true=>
   rw[show eF s=(s,false) from by grind[eF,hZ,aw]];exact ahG ⟨c1,(by rw[U];rfl),aA,ad⟩
  | false=>
   rw[show eF s=((⟨s.aU,s.dG+1⟩:hR),true) from by grind[eF,hZ,aw]];exact ahH ⟨c1,(by rw[U];rfl),aA,(by grind[hZ,aw,aJ]),ad⟩
 | false=>
  rw[show eF s=(s,false) from by grind[eF,hZ,aw]];exact age ⟨c1,(by rw[U];rfl),ad⟩
theorem N1(s:hR):av 300 [.agg s.e] [.agg ((eF s).1).e,.one (B ((eF s).2))]:=by
 have c1:=VW s;cases U:(hZ s) with
 | true=>
  cases aA:(s.dG==6) with
  | true=>
   rw[show eF s=(s,false) from by grind[eF,hZ,aw]];exact ahJ ⟨c1,(by rw[U];rfl),aA,ad⟩
  | false=>
   rw[show eF s=((⟨s.aU,s.dG+1⟩:hR),true) from by grind[eF,hZ,aw]];exact ahK ⟨c1,(by rw[U];rfl),aA,(by grind[hZ,aw,aJ]),ad⟩
 | false=>
  rw[show eF s=(s,false) from by grind[eF,hZ,aw]];exact ahI ⟨c1,(by rw[U];rfl),ad⟩
theorem ajC(a b:Int):av 323 [.one (I a),.one (I b)] [.one (I (less a b))]:=by
 cases h1:(decide (b<a)) with
 | true=>
  rw[show less a b=b from by grind[less]];exact ahY ⟨h1,ad⟩
 | false=>
  rw[show less a b=a from by grind[less]];exact ahZ ⟨h1,ad⟩
theorem VX(x:Node)(aa:x.outs.length<=8388608):av 243 [.agg x.e] [.one (B (aO x))]:=by
 cases h1:(x.kind==2) with
 | true=>
  have c2:=iw x.a 0 999;have cw:=iw x.kind 1 8;cases aI:(aw x.kind 1 8) with
  | true=>
   cases a':(aw x.a 0 999) with
   | true=>
    cases bu:(x.b==0) with
    | true=>
     cases bU:(decide ((↑(x.outs.map bd).length:Int)>2)) with
     | true=>
      rw[show aO x=false from by grind[aO,bN,bY,aw]];exact ah5 ⟨h1,c2,cw,(by rw[aI];rfl),(by rw[a'];rfl),(by rw[bu];rfl),bU,ad⟩
     | false=>
      cases cI:(x.kind==8) with
      | true=>
       cases eu:(decide ((↑(x.outs.map bd).length:Int)>0)) with
       | true=>
        rw[show aO x=false from by grind[aO,bN,bY,aw]];exact ahg ⟨h1,c2,cw,(by rw[aI];rfl),(by rw[a'];rfl),(by rw[bu];rfl),bU,cI,eu,ad⟩
       | false=>
        rcases wH x (by grind) with⟨cC,l⟩ | ⟨cC,l⟩
        ·skip
         rw[show aO x=false from by grind[aO,bN,bY,aw]];exact ahj ⟨h1,c2,cw,(by rw[aI];rfl),(by rw[a'];rfl),(by rw[bu];rfl),bU,cI,eu,l,ad⟩
        skip
        rw[show aO x=true from by grind[aO,bN,bY,aw]];exact ahk ⟨h1,c2,cw,(by rw[aI];rfl),(by rw[a'];rfl),(by rw[bu];rfl),bU,cI,eu,l,ad⟩
      | false=>
       rcases wH x (by grind) with⟨cC,l⟩ | ⟨cC,l⟩
       ·skip
        rw[show aO x=false from by grind[aO,bN,bY,aw]];exact ahl ⟨h1,c2,cw,(by rw[aI];rfl),(by rw[a'];rfl),(by rw[bu];rfl),bU,cI,l,ad⟩
       skip
       rw[show aO x=true from by grind[aO,bN,bY,aw]];exact ahm ⟨h1,c2,cw,(by rw[aI];rfl),(by rw[a'];rfl),(by rw[bu];rfl),bU,cI,l,ad⟩
    | false=>
     rw[show aO x=false from by grind[aO,bN,bY,aw]];exact ah4 ⟨h1,c2,cw,(by rw[aI];rfl),(by rw[a'];rfl),(by rw[bu];rfl),ad⟩
   | false=>
    rw[show aO x=false from by grind[aO,bN,bY,aw]];exact ah3 ⟨h1,c2,cw,(by rw[aI];rfl),(by rw[a'];rfl),ad⟩
  | false=>
   rw[show aO x=false from by grind[aO,bN,bY,aw]];exact ah2 ⟨h1,c2,cw,(by rw[aI];rfl),ad⟩
 | false=>
  cases d':(x.kind==3) with
  | true=>
   have q3:=iw x.a 1 10;have pc:=iw x.b 0 (IntKind.i64.wrap (x.a-1));have ot:=iw x.kind 1 8;cases my:(aw x.kind 1 8) with
   | true=>
    cases kv:(aw x.a 1 10) with
    | true=>
     cases cA:(aw x.b 0 (IntKind.i64.wrap (x.a-1))) with
     | true=>
      cases su:(decide ((↑(x.outs.map bd).length:Int)>2)) with
      | true=>
       rw[show aO x=false from by grind[aO,bN,bY,aw]];exact ahq ⟨h1,d',q3,pc,ot,(by rw[my];rfl),(by rw[kv];rfl),(by rw[cA];rfl),su,ad⟩
      | false=>
       cases hS:(x.kind==8) with
       | true=>
        cases J6:(decide ((↑(x.outs.map bd).length:Int)>0)) with
        | true=>
         rw[show aO x=false from by grind[aO,bN,bY,aw]];exact ahr ⟨h1,d',q3,pc,ot,(by rw[my];rfl),(by rw[kv];rfl),(by rw[cA];rfl),su,hS,J6,ad⟩
        | false=>
         rcases wH x (by grind) with⟨cC,l⟩ | ⟨cC,l⟩
         ·skip
          rw[show aO x=false from by grind[aO,bN,bY,aw]];exact ahs ⟨h1,d',q3,pc,ot,(by rw[my];rfl),(by rw[kv];rfl),(by rw[cA];rfl),su,hS,J6,l,ad⟩
         skip
         rw[show aO x=true from by grind[aO,bN,bY,aw]];exact aht ⟨h1,d',q3,pc,ot,(by rw[my];rfl),(by rw[kv];rfl),(by rw[cA];rfl),su,hS,J6,l,ad⟩
       | false=>
        rcases wH x (by grind) with⟨cC,l⟩ | ⟨cC,l⟩
        ·skip
         rw[show aO x=false from by grind[aO,bN,bY,aw]];exact ahu ⟨h1,d',q3,pc,ot,(by rw[my];rfl),(by rw[kv];rfl),(by rw[cA];rfl),su,hS,l,ad⟩
        skip
        rw[show aO x=true from by grind[aO,bN,bY,aw]];exact ahv ⟨h1,d',q3,pc,ot,(by rw[my];rfl),(by rw[kv];rfl),(by rw[cA];rfl),su,hS,l,ad⟩
     | false=>
      rw[show aO x=false from by grind[aO,bN,bY,aw]];exact ahp ⟨h1,d',q3,pc,ot,(by rw[my];rfl),(by rw[kv];rfl),(by rw[cA];rfl),ad⟩
    | false=>
     rw[show aO x=false from by grind[aO,bN,bY,aw]];exact aho ⟨h1,d',q3,pc,ot,(by rw[my];rfl),(by rw[kv];rfl),ad⟩
   | false=>
    rw[show aO x=false from by grind[aO,bN,bY,aw]];exact ahn ⟨h1,d',q3,pc,ot,(by rw[my];rfl),ad⟩
  | false=>
   cases fp:(x.kind==4) with
   | true=>
    have ou:=iw x.a 0 99;have tI:=iw x.kind 1 8;cases kW:(aw x.kind 1 8) with
    | true=>
     cases oy:(aw x.a 0 99) with
     | true=>
      cases ra:(x.b==0) with
      | true=>
       cases rb:(decide ((↑(x.outs.map bd).length:Int)>2)) with
       | true=>
        rw[show aO x=false from by grind[aO,bN,bY,aw]];exact ahz ⟨h1,d',fp,ou,tI,(by rw[kW];rfl),(by rw[oy];rfl),(by rw[ra];rfl),rb,ad⟩
       | false=>
        cases tV:(x.kind==8) with
        | true=>
         cases pg:(decide ((↑(x.outs.map bd).length:Int)>0)) with
         | true=>
          rw[show aO x=false from by grind[aO,bN,bY,aw]];exact ahA ⟨h1,d',fp,ou,tI,(by rw[kW];rfl),(by rw[oy];rfl),(by rw[ra];rfl),rb,tV,pg,ad⟩
         | false=>
          rcases wH x (by grind) with⟨cC,l⟩ | ⟨cC,l⟩
          ·skip
           rw[show aO x=false from by grind[aO,bN,bY,aw]];exact ahB ⟨h1,d',fp,ou,tI,(by rw[kW];rfl),(by rw[oy];rfl),(by rw[ra];rfl),rb,tV,pg,l,ad⟩
          skip
          rw[show aO x=true from by grind[aO,bN,bY,aw]];exact ahC ⟨h1,d',fp,ou,tI,(by rw[kW];rfl),(by rw[oy];rfl),(by rw[ra];rfl),rb,tV,pg,l,ad⟩
        | false=>
         rcases wH x (by grind) with⟨cC,l⟩ | ⟨cC,l⟩
         ·skip
          rw[show aO x=false from by grind[aO,bN,bY,aw]];exact ahD ⟨h1,d',fp,ou,tI,(by rw[kW];rfl),(by rw[oy];rfl),(by rw[ra];rfl),rb,tV,l,ad⟩
         skip
         rw[show aO x=true from by grind[aO,bN,bY,aw]];exact ahE ⟨h1,d',fp,ou,tI,(by rw[kW];rfl),(by rw[oy];rfl),(by rw[ra];rfl),rb,tV,l,ad⟩
      | false=>
       rw[show aO x=false from by grind[aO,bN,bY,aw]];exact ahy ⟨h1,d',fp,ou,tI,(by rw[kW];rfl),(by rw[oy];rfl),(by rw[ra];rfl),ad⟩
     | false=>
      rw[show aO x=false from by grind[aO,bN,bY,aw]];exact ahx ⟨h1,d',fp,ou,tI,(by rw[kW];rfl),(by rw[oy];rfl),ad⟩
    | false=>
     rw[show aO x=false from by grind[aO,bN,bY,aw]];exact ahw ⟨h1,d',fp,ou,tI,(by rw[kW];rfl),ad⟩
   | false=>
    have tJ:=iw x.kind 1 8;cases tW:(aw x.kind 1 8) with
    | true=>
     cases qd:(x.a==0) with
     | true=>
      cases c9:(x.b==0) with
      | true=>
       cases zf:(decide ((↑(x.outs.map bd).length:Int)>2)) with
       | true=>
        rw[show aO x=false from by grind[aO,bN,bY,aw]];exact ag8 ⟨h1,d',fp,tJ,(by rw[tW];rfl),(by rw[qd];rfl),(by rw[c9];rfl),zf,ad⟩
       | false=>
        cases lo:(x.kind==8) with
        | true=>
         cases mA:(decide ((↑(x.outs.map bd).length:Int)>0)) with
         | true=>
          rw[show aO x=false from by grind[aO,bN,bY,aw]];exact ag9 ⟨h1,d',fp,tJ,(by rw[tW];rfl),(by rw[qd];rfl),(by rw[c9];rfl),zf,lo,mA,ad⟩
         | false=>
          rcases wH x (by grind) with⟨cC,l⟩ | ⟨cC,l⟩
          ·skip
           rw[show aO x=false from by grind[aO,bN,bY,aw]];exact aha ⟨h1,d',fp,tJ,(by rw[tW];rfl),(by rw[qd];rfl),(by rw[c9];rfl),zf,lo,mA,l,ad⟩
          skip
          rw[show aO x=true from by grind[aO,bN,bY,aw]];exact ahb ⟨h1,d',fp,tJ,(by rw[tW];rfl),(by rw[qd];rfl),(by rw[c9];rfl),zf,lo,mA,l,ad⟩
        | false=>
         rcases wH x (by grind) with⟨cC,l⟩ | ⟨cC,l⟩
         ·skip
          rw[show aO x=false from by grind[aO,bN,bY,aw]];exact ahc ⟨h1,d',fp,tJ,(by rw[tW];rfl),(by rw[qd];rfl),(by rw[c9];rfl),zf,lo,l,ad⟩
         skip
         rw[show aO x=true from by grind[aO,bN,bY,aw]];exact ahd ⟨h1,d',fp,tJ,(by rw[tW];rfl),(by rw[qd];rfl),(by rw[c9];rfl),zf,lo,l,ad⟩
      | false=>
       rw[show aO x=false from by grind[aO,bN,bY,aw]];exact ag7 ⟨h1,d',fp,tJ,(by rw[tW];rfl),(by rw[qd];rfl),(by rw[c9];rfl),ad⟩
     | false=>
      rw[show aO x=false from by grind[aO,bN,bY,aw]];exact ag6 ⟨h1,d',fp,tJ,(by rw[tW];rfl),(by rw[qd];rfl),ad⟩
    | false=>
     rw[show aO x=false from by grind[aO,bN,bY,aw]];exact ahF ⟨h1,d',fp,tJ,(by rw[tW];rfl),ad⟩
theorem VY(x:Node)(aa:x.outs.length<=8388608):av 273 [.agg x.e] [.one (B (aO x))]:=by
 cases h1:(x.kind==2) with
 | true=>
  have c2:=lB x.a 0 999;cases aA:(aw x.a 0 999) with
  | true=>
   cases aI:(x.b != 0) with
   | true=>
    rw[show aO x=false from by grind[aO,bN,bY,aw]];exact ahf ⟨h1,c2,(by rw[aA];rfl),aI,ad⟩
   | false=>
    cases a':(decide ((↑(x.outs.map bd).length:Int)>2)) with
    | true=>
     rw[show aO x=false from by grind[aO,bN,bY,aw]];exact aiH ⟨h1,c2,(by rw[aA];rfl),aI,a',ad⟩
    | false=>
     cases bu:(x.kind==8) with
     | true=>
      cases bU:(decide ((↑(x.outs.map bd).length:Int)>0)) with
      | true=>
       rw[show aO x=false from by grind[aO,bN,bY,aw]];exact aiI ⟨h1,c2,(by rw[aA];rfl),aI,a',bu,bU,ad⟩
      | false=>
       cases cI:((↑(x.outs.map bd).length:Int)==2) with
       | true=>
        obtain⟨Js,uk⟩:=cV (xs:=x.outs) (i:=0) (by grind[aw,aJ]);obtain⟨Ez,La⟩:=cV (xs:=x.outs) (i:=1) (by grind[aw,aJ]);cases iT:(Js==Ez) with
        | true=>
         rw[show aO x=false from by grind[aO,bN,bY,aw]];exact aiJ ⟨h1,c2,(by rw[aA];rfl),aI,a',bu,bU,cI,(by grind[aw,aJ]),(by grind[aw,aJ]),(bL bd uk),(by grind[aw,aJ]),(by grind[aw,aJ]),(bL bd La),iT,ad⟩
        | false=>
         rcases h0 x aa with⟨cC,l⟩ | ⟨cC,l⟩
         ·skip
          rw[show aO x=false from by grind[aO,bN,bY,aw]];exact aiN ⟨h1,c2,(by rw[aA];rfl),aI,a',bu,bU,cI,(by grind[aw,aJ]),(by grind[aw,aJ]),(bL bd uk),(by grind[aw,aJ]),(by grind[aw,aJ]),(bL bd La),iT,l,ad⟩
         skip
         rw[show aO x=true from by grind[aO,bN,bY,aw]];exact aiO ⟨h1,c2,(by rw[aA];rfl),aI,a',bu,bU,cI,(by grind[aw,aJ]),(by grind[aw,aJ]),(bL bd uk),(by grind[aw,aJ]),(by grind[aw,aJ]),(bL bd La),iT,l,ad⟩
       | false=>
        rcases h0 x aa with⟨cC,l⟩ | ⟨cC,l⟩
        ·skip
         rw[show aO x=false from by grind[aO,bN,bY,aw]];exact aiP ⟨h1,c2,(by rw[aA];rfl),aI,a',bu,bU,cI,l,ad⟩
        skip
        rw[show aO x=true from by grind[aO,bN,bY,aw]];exact aiQ ⟨h1,c2,(by rw[aA];rfl),aI,a',bu,bU,cI,l,ad⟩
     | false=>
      cases jj:((↑(x.outs.map bd).length:Int)==2) with
      | true=>
       obtain⟨I0,Lf⟩:=cV (xs:=x.outs) (i:=0) (by grind[aw,aJ]);obtain⟨EA,Lg⟩:=cV (xs:=x.outs) (i:=1) (by grind[aw,aJ]);cases kv:(I0==EA) with
       | true=>
        rw[show aO x=false from by grind[aO,bN,bY,aw]];exact aiR ⟨h1,c2,(by rw[aA];rfl),aI,a',bu,jj,(by grind[aw,aJ]),(by grind[aw,aJ]),(bL bd Lf),(by grind[aw,aJ]),(by grind[aw,aJ]),(bL bd Lg),kv,ad⟩
       | false=>
        rcases h0 x aa with⟨cC,l⟩ | ⟨cC,l⟩
        ·skip
         rw[show aO x=false from by grind[aO,bN,bY,aw]];exact aiS ⟨h1,c2,(by rw[aA];rfl),aI,a',bu,jj,(by grind[aw,aJ]),(by grind[aw,aJ]),(bL bd Lf),(by grind[aw,aJ]),(by grind[aw,aJ]),(bL bd Lg),kv,l,ad⟩
        skip
        rw[show aO x=true from by grind[aO,bN,bY,aw]];exact aiT ⟨h1,c2,(by rw[aA];rfl),aI,a',bu,jj,(by grind[aw,aJ]),(by grind[aw,aJ]),(bL bd Lf),(by grind[aw,aJ]),(by grind[aw,aJ]),(bL bd Lg),kv,l,ad⟩
      | false=>
       rcases h0 x aa with⟨cC,l⟩ | ⟨cC,l⟩
       ·skip
        rw[show aO x=false from by grind[aO,bN,bY,aw]];exact aiU ⟨h1,c2,(by rw[aA];rfl),aI,a',bu,jj,l,ad⟩
       skip
       rw[show aO x=true from by grind[aO,bN,bY,aw]];exact aiV ⟨h1,c2,(by rw[aA];rfl),aI,a',bu,jj,l,ad⟩
  | false=>
   rw[show aO x=false from by grind[aO,bN,bY,aw]];exact ahe ⟨h1,c2,(by rw[aA];rfl),ad⟩
 | false=>
  cases cA:(x.kind==3) with
  | true=>
   have m':=lB x.a 1 10;cases hS:(aw x.a 1 10) with
   | true=>
    have j7:=lB x.b 0 (IntKind.i64.wrap (x.a-1));cases fp:(aw x.b 0 (IntKind.i64.wrap (x.a-1))) with
    | true=>
     cases qc:(decide ((↑(x.outs.map bd).length:Int)>2)) with
     | true=>
      rw[show aO x=false from by grind[aO,bN,bY,aw]];exact aiY ⟨h1,cA,m',(by rw[hS];rfl),j7,(by rw[fp];rfl),qc,ad⟩
     | false=>
      cases mz:(x.kind==8) with
      | true=>
       cases kW:(decide ((↑(x.outs.map bd).length:Int)>0)) with
       | true=>
        rw[show aO x=false from by grind[aO,bN,bY,aw]];exact aiZ ⟨h1,cA,m',(by rw[hS];rfl),j7,(by rw[fp];rfl),qc,mz,kW,ad⟩
       | false=>
        cases oy:((↑(x.outs.map bd).length:Int)==2) with
        | true=>
         obtain⟨EG,Lh⟩:=cV (xs:=x.outs) (i:=0) (by grind[aw,aJ]);obtain⟨I5,Li⟩:=cV (xs:=x.outs) (i:=1) (by grind[aw,aJ]);cases tV:(EG==I5) with
         | true=>
          rw[show aO x=false from by grind[aO,bN,bY,aw]];exact ai0 ⟨h1,cA,m',(by rw[hS];rfl),j7,(by rw[fp];rfl),qc,mz,kW,oy,(by grind[aw,aJ]),(by grind[aw,aJ]),(bL bd Lh),(by grind[aw,aJ]),(by grind[aw,aJ]),(bL bd Li),tV,ad⟩
         | false=>
          rcases h0 x aa with⟨cC,l⟩ | ⟨cC,l⟩
          ·skip
           rw[show aO x=false from by grind[aO,bN,bY,aw]];exact ai1 ⟨h1,cA,m',(by rw[hS];rfl),j7,(by rw[fp];rfl),qc,mz,kW,oy,(by grind[aw,aJ]),(by grind[aw,aJ]),(bL bd Lh),(by grind[aw,aJ]),(by grind[aw,aJ]),(bL bd Li),tV,l,ad⟩
          skip
          rw[show aO x=true from by grind[aO,bN,bY,aw]];exact ai2 ⟨h1,cA,m',(by rw[hS];rfl),j7,(by rw[fp];rfl),qc,mz,kW,oy,(by grind[aw,aJ]),(by grind[aw,aJ]),(bL bd Lh),(by grind[aw,aJ]),(by grind[aw,aJ]),(bL bd Li),tV,l,ad⟩
        | false=>
         rcases h0 x aa with⟨cC,l⟩ | ⟨cC,l⟩
         ·skip
          rw[show aO x=false from by grind[aO,bN,bY,aw]];exact ai3 ⟨h1,cA,m',(by rw[hS];rfl),j7,(by rw[fp];rfl),qc,mz,kW,oy,l,ad⟩
         skip
         rw[show aO x=true from by grind[aO,bN,bY,aw]];exact ai4 ⟨h1,cA,m',(by rw[hS];rfl),j7,(by rw[fp];rfl),qc,mz,kW,oy,l,ad⟩
      | false=>
       cases pg:((↑(x.outs.map bd).length:Int)==2) with
       | true=>
        obtain⟨I6,Lj⟩:=cV (xs:=x.outs) (i:=0) (by grind[aw,aJ]);obtain⟨Jg,Lk⟩:=cV (xs:=x.outs) (i:=1) (by grind[aw,aJ]);cases qd:(I6==Jg) with
        | true=>
         rw[show aO x=false from by grind[aO,bN,bY,aw]];exact ai5 ⟨h1,cA,m',(by rw[hS];rfl),j7,(by rw[fp];rfl),qc,mz,pg,(by grind[aw,aJ]),(by grind[aw,aJ]),(bL bd Lj),(by grind[aw,aJ]),(by grind[aw,aJ]),(bL bd Lk),qd,ad⟩
        | false=>
         rcases h0 x aa with⟨cC,l⟩ | ⟨cC,l⟩
         ·skip
          rw[show aO x=false from by grind[aO,bN,bY,aw]];exact ai6 ⟨h1,cA,m',(by rw[hS];rfl),j7,(by rw[fp];rfl),qc,mz,pg,(by grind[aw,aJ]),(by grind[aw,aJ]),(bL bd Lj),(by grind[aw,aJ]),(by grind[aw,aJ]),(bL bd Lk),qd,l,ad⟩
         skip
         rw[show aO x=true from by grind[aO,bN,bY,aw]];exact aih ⟨h1,cA,m',(by rw[hS];rfl),j7,(by rw[fp];rfl),qc,mz,pg,(by grind[aw,aJ]),(by grind[aw,aJ]),(bL bd Lj),(by grind[aw,aJ]),(by grind[aw,aJ]),(bL bd Lk),qd,l,ad⟩
       | false=>
        rcases h0 x aa with⟨cC,l⟩ | ⟨cC,l⟩
        ·skip
         rw[show aO x=false from by grind[aO,bN,bY,aw]];exact aii ⟨h1,cA,m',(by rw[hS];rfl),j7,(by rw[fp];rfl),qc,mz,pg,l,ad⟩
        skip
        rw[show aO x=true from by grind[aO,bN,bY,aw]];exact aij ⟨h1,cA,m',(by rw[hS];rfl),j7,(by rw[fp];rfl),qc,mz,pg,l,ad⟩
    | false=>
     rw[show aO x=false from by grind[aO,bN,bY,aw]];exact aiX ⟨h1,cA,m',(by rw[hS];rfl),j7,(by rw[fp];rfl),ad⟩
   | false=>
    rw[show aO x=false from by grind[aO,bN,bY,aw]];exact aiW ⟨h1,cA,m',(by rw[hS];rfl),ad⟩
  | false=>
   cases c9:(x.kind==4) with
   | true=>
    have ov:=lB x.a 0 99;cases lo:(aw x.a 0 99) with
    | true=>
     cases mA:(x.b != 0) with
     | true=>
      rw[show aO x=false from by grind[aO,bN,bY,aw]];exact ail ⟨h1,cA,c9,ov,(by rw[lo];rfl),mA,ad⟩
     | false=>
      cases qe:(decide ((↑(x.outs.map bd).length:Int)>2)) with
      | true=>
       rw[show aO x=false from by grind[aO,bN,bY,aw]];exact aim ⟨h1,cA,c9,ov,(by rw[lo];rfl),mA,qe,ad⟩
      | false=>
       cases rc:(x.kind==8) with
       | true=>
        cases zg:(decide ((↑(x.outs.map bd).length:Int)>0)) with
        | true=>
         rw[show aO x=false from by grind[aO,bN,bY,aw]];exact ain ⟨h1,cA,c9,ov,(by rw[lo];rfl),mA,qe,rc,zg,ad⟩
        | false=>
         cases BO:((↑(x.outs.map bd).length:Int)==2) with
         | true=>
          obtain⟨EW,Ll⟩:=cV (xs:=x.outs) (i:=0) (by grind[aw,aJ]);obtain⟨EX,Lm⟩:=cV (xs:=x.outs) (i:=1) (by grind[aw,aJ]);cases J7:(EW==EX) with
          | true=>
           rw[show aO x=false from by grind[aO,bN,bY,aw]];exact aio ⟨h1,cA,c9,ov,(by rw[lo];rfl),mA,qe,rc,zg,BO,(by grind[aw,aJ]),(by grind[aw,aJ]),(bL bd Ll),(by grind[aw,aJ]),(by grind[aw,aJ]),(bL bd Lm),J7,ad⟩
          | false=>
           rcases h0 x aa with⟨cC,l⟩ | ⟨cC,l⟩
           ·skip
            rw[show aO x=false from by grind[aO,bN,bY,aw]];exact aip ⟨h1,cA,c9,ov,(by rw[lo];rfl),mA,qe,rc,zg,BO,(by grind[aw,aJ]),(by grind[aw,aJ]),(bL bd Ll),(by grind[aw,aJ]),(by grind[aw,aJ]),(bL bd Lm),J7,l,ad⟩
           skip
           rw[show aO x=true from by grind[aO,bN,bY,aw]];exact aiq ⟨h1,cA,c9,ov,(by rw[lo];rfl),mA,qe,rc,zg,BO,(by grind[aw,aJ]),(by grind[aw,aJ]),(bL bd Ll),(by grind[aw,aJ]),(by grind[aw,aJ]),(bL bd Lm),J7,l,ad⟩
         | false=>
          rcases h0 x aa with⟨cC,l⟩ | ⟨cC,l⟩
          ·skip
           rw[show aO x=false from by grind[aO,bN,bY,aw]];exact air ⟨h1,cA,c9,ov,(by rw[lo];rfl),mA,qe,rc,zg,BO,l,ad⟩
          skip
          rw[show aO x=true from by grind[aO,bN,bY,aw]];exact ais ⟨h1,cA,c9,ov,(by rw[lo];rfl),mA,qe,rc,zg,BO,l,ad⟩
       | false=>
        cases BP:((↑(x.outs.map bd).length:Int)==2) with
        | true=>
         obtain⟨Jq,Ln⟩:=cV (xs:=x.outs) (i:=0) (by grind[aw,aJ]);obtain⟨Jr,Lo⟩:=cV (xs:=x.outs) (i:=1) (by grind[aw,aJ]);cases J8:(Jq==Jr) with
         | true=>
          rw[show aO x=false from by grind[aO,bN,bY,aw]];exact ait ⟨h1,cA,c9,ov,(by rw[lo];rfl),mA,qe,rc,BP,(by grind[aw,aJ]),(by grind[aw,aJ]),(bL bd Ln),(by grind[aw,aJ]),(by grind[aw,aJ]),(bL bd Lo),J8,ad⟩
         | false=>
          rcases h0 x aa with⟨cC,l⟩ | ⟨cC,l⟩
          ·skip
           rw[show aO x=false from by grind[aO,bN,bY,aw]];exact aiu ⟨h1,cA,c9,ov,(by rw[lo];rfl),mA,qe,rc,BP,(by grind[aw,aJ]),(by grind[aw,aJ]),(bL bd Ln),(by grind[aw,aJ]),(by grind[aw,aJ]),(bL bd Lo),J8,l,ad⟩
          skip
          rw[show aO x=true from by grind[aO,bN,bY,aw]];exact aiv ⟨h1,cA,c9,ov,(by rw[lo];rfl),mA,qe,rc,BP,(by grind[aw,aJ]),(by grind[aw,aJ]),(bL bd Ln),(by grind[aw,aJ]),(by grind[aw,aJ]),(bL bd Lo),J8,l,ad⟩
        | false=>
         rcases h0 x aa with⟨cC,l⟩ | ⟨cC,l⟩
         ·skip
          rw[show aO x=false from by grind[aO,bN,bY,aw]];exact aiw ⟨h1,cA,c9,ov,(by rw[lo];rfl),mA,qe,rc,BP,l,ad⟩
         skip
         rw[show aO x=true from by grind[aO,bN,bY,aw]];exact aix ⟨h1,cA,c9,ov,(by rw[lo];rfl),mA,qe,rc,BP,l,ad⟩
    | false=>
     rw[show aO x=false from by grind[aO,bN,bY,aw]];exact aik ⟨h1,cA,c9,ov,(by rw[lo];rfl),ad⟩
   | false=>
    cases di:(x.kind==1) with
    | true=>
     cases oz:(x.a != 0) with
     | true=>
      rw[show aO x=false from by grind[aO,bN,bY,aw]];exact aiy ⟨h1,cA,c9,di,di,oz,ad⟩
     | false=>
      cases ph:(x.b != 0) with
      | true=>
       rw[show aO x=false from by grind[aO,bN,bY,aw]];exact aiz ⟨h1,cA,c9,di,di,oz,ph,ad⟩
      | false=>
       cases qf:(decide ((↑(x.outs.map bd).length:Int)>2)) with
       | true=>
        rw[show aO x=false from by grind[aO,bN,bY,aw]];exact aiA ⟨h1,cA,c9,di,di,oz,ph,qf,ad⟩
       | false=>
        cases re:(x.kind==8) with
        | true=>
         cases zh:(decide ((↑(x.outs.map bd).length:Int)>0)) with
         | true=>
          rw[show aO x=false from by grind[aO,bN,bY,aw]];exact aiB ⟨h1,cA,c9,di,di,oz,ph,qf,re,zh,ad⟩
         | false=>
          cases BQ:((↑(x.outs.map bd).length:Int)==2) with
          | true=>
           obtain⟨aBH,Lp⟩:=cV (xs:=x.outs) (i:=0) (by grind[aw,aJ]);obtain⟨aBI,Lq⟩:=cV (xs:=x.outs) (i:=1) (by grind[aw,aJ]);cases J9:(aBH==aBI) with
           | true=>
            rw[show aO x=false from by grind[aO,bN,bY,aw]];exact aiC ⟨h1,cA,c9,di,di,oz,ph,qf,re,zh,BQ,(by grind[aw,aJ]),(by grind[aw,aJ]),(bL bd Lp),(by grind[aw,aJ]),(by grind[aw,aJ]),(bL bd Lq),J9,ad⟩
           | false=>
            rcases h0 x aa with⟨cC,l⟩ | ⟨cC,l⟩
            ·skip
             rw[show aO x=false from by grind[aO,bN,bY,aw]];exact aiD ⟨h1,cA,c9,di,di,oz,ph,qf,re,zh,BQ,(by grind[aw,aJ]),(by grind[aw,aJ]),(bL bd Lp),(by grind[aw,aJ]),(by grind[aw,aJ]),(bL bd Lq),J9,l,ad⟩
            skip
            rw[show aO x=true from by grind[aO,bN,bY,aw]];exact aiE ⟨h1,cA,c9,di,di,oz,ph,qf,re,zh,BQ,(by grind[aw,aJ]),(by grind[aw,aJ]),(bL bd Lp),(by grind[aw,aJ]),(by grind[aw,aJ]),(bL bd Lq),J9,l,ad⟩
          | false=>
           rcases h0 x aa with⟨cC,l⟩ | ⟨cC,l⟩
           ·skip
            rw[show aO x=false from by grind[aO,bN,bY,aw]];exact aiF ⟨h1,cA,c9,di,di,oz,ph,qf,re,zh,BQ,l,ad⟩
           skip
           rw[show aO x=true from by grind[aO,bN,bY,aw]];exact aiG ⟨h1,cA,c9,di,di,oz,ph,qf,re,zh,BQ,l,ad⟩
        | false=>
         cases BR:((↑(x.outs.map bd).length:Int)==2) with
         | true=>
          obtain⟨aBJ,Lr⟩:=cV (xs:=x.outs) (i:=0) (by grind[aw,aJ]);obtain⟨aBK,Ls⟩:=cV (xs:=x.outs) (i:=1) (by grind[aw,aJ]);cases J':(aBJ==aBK) with
          | true=>
           rw[show aO x=false from by grind[aO,bN,bY,aw]];exact ah6 ⟨h1,cA,c9,di,di,oz,ph,qf,re,BR,(by grind[aw,aJ]),(by grind[aw,aJ]),(bL bd Lr),(by grind[aw,aJ]),(by grind[aw,aJ]),(bL bd Ls),J',ad⟩
          | false=>
           rcases h0 x aa with⟨cC,l⟩ | ⟨cC,l⟩
           ·skip
            rw[show aO x=false from by grind[aO,bN,bY,aw]];exact ah7 ⟨h1,cA,c9,di,di,oz,ph,qf,re,BR,(by grind[aw,aJ]),(by grind[aw,aJ]),(bL bd Lr),(by grind[aw,aJ]),(by grind[aw,aJ]),(bL bd Ls),J',l,ad⟩
           skip
           rw[show aO x=true from by grind[aO,bN,bY,aw]];exact ah8 ⟨h1,cA,c9,di,di,oz,ph,qf,re,BR,(by grind[aw,aJ]),(by grind[aw,aJ]),(bL bd Lr),(by grind[aw,aJ]),(by grind[aw,aJ]),(bL bd Ls),J',l,ad⟩
         | false=>
          rcases h0 x aa with⟨cC,l⟩ | ⟨cC,l⟩
          ·skip
           rw[show aO x=false from by grind[aO,bN,bY,aw]];exact ah9 ⟨h1,cA,c9,di,di,oz,ph,qf,re,BR,l,ad⟩
          skip
          rw[show aO x=true from by grind[aO,bN,bY,aw]];exact aia ⟨h1,cA,c9,di,di,oz,ph,qf,re,BR,l,ad⟩
    | false=>
     cases dS:(x.kind==5) with
     | true=>
      cases oA:(x.a != 0) with
      | true=>
       rw[show aO x=false from by grind[aO,bN,bY,aw]];exact aib ⟨h1,cA,c9,di,dS,dS,oA,ad⟩
      | false=>
       cases pj:(x.b != 0) with
       | true=>
        rw[show aO x=false from by grind[aO,bN,bY,aw]];exact aic ⟨h1,cA,c9,di,dS,dS,oA,pj,ad⟩
       | false=>
        cases qg:(decide ((↑(x.outs.map bd).length:Int)>2)) with
        | true=>
         rw[show aO x=false from by grind[aO,bN,bY,aw]];exact aid ⟨h1,cA,c9,di,dS,dS,oA,pj,qg,ad⟩
        | false=>
         cases rf:(x.kind==8) with
         | true=>
          cases zi:(decide ((↑(x.outs.map bd).length:Int)>0)) with
          | true=>
           rw[show aO x=false from by grind[aO,bN,bY,aw]];exact aie ⟨h1,cA,c9,di,dS,dS,oA,pj,qg,rf,zi,ad⟩
          | false=>
           cases BS:((↑(x.outs.map bd).length:Int)==2) with
           | true=>
            obtain⟨aBL,Lt⟩:=cV (xs:=x.outs) (i:=0) (by grind[aw,aJ]);obtain⟨aBM,Lu⟩:=cV (xs:=x.outs) (i:=1) (by grind[aw,aJ]);cases Ka:(aBL==aBM) with
            | true=>
             rw[show aO x=false from by grind[aO,bN,bY,aw]];exact aif ⟨h1,cA,c9,di,dS,dS,oA,pj,qg,rf,zi,BS,(by grind[aw,aJ]),(by grind[aw,aJ]),(bL bd Lt),(by grind[aw,aJ]),(by grind[aw,aJ]),(bL bd Lu),Ka,ad⟩
            | false=>
             rcases h0 x aa with⟨cC,l⟩ | ⟨cC,l⟩
             ·skip
              rw[show aO x=false from by grind[aO,bN,bY,aw]];exact ajH ⟨h1,cA,c9,di,dS,dS,oA,pj,qg,rf,zi,BS,(by grind[aw,aJ]),(by grind[aw,aJ]),(bL bd Lt),(by grind[aw,aJ]),(by grind[aw,aJ]),(bL bd Lu),Ka,l,ad⟩
             skip
             rw[show aO x=true from by grind[aO,bN,bY,aw]];exact ajI ⟨h1,cA,c9,di,dS,dS,oA,pj,qg,rf,zi,BS,(by grind[aw,aJ]),(by grind[aw,aJ]),(bL bd Lt),(by grind[aw,aJ]),(by grind[aw,aJ]),(bL bd Lu),Ka,l,ad⟩
           | false=>
            rcases h0 x aa with⟨cC,l⟩ | ⟨cC,l⟩
            ·skip
             rw[show aO x=false from by grind[aO,bN,bY,aw]];exact ajJ ⟨h1,cA,c9,di,dS,dS,oA,pj,qg,rf,zi,BS,l,ad⟩
            skip
            rw[show aO x=true from by grind[aO,bN,bY,aw]];exact ajK ⟨h1,cA,c9,di,dS,dS,oA,pj,qg,rf,zi,BS,l,ad⟩
         | false=>
          cases BU:((↑(x.outs.map bd).length:Int)==2) with
          | true=>
           obtain⟨aBN,Lv⟩:=cV (xs:=x.outs) (i:=0) (by grind[aw,aJ]);obtain⟨aBO,Lw⟩:=cV (xs:=x.outs) (i:=1) (by grind[aw,aJ]);cases Kb:(aBN==aBO) with
           | true=>
            rw[show aO x=false from by grind[aO,bN,bY,aw]];exact ajL ⟨h1,cA,c9,di,dS,dS,oA,pj,qg,rf,BU,(by grind[aw,aJ]),(by grind[aw,aJ]),(bL bd Lv),(by grind[aw,aJ]),(by grind[aw,aJ]),(bL bd Lw),Kb,ad⟩
           | false=>
            rcases h0 x aa with⟨cC,l⟩ | ⟨cC,l⟩
            ·skip
             rw[show aO x=false from by grind[aO,bN,bY,aw]];exact ajM ⟨h1,cA,c9,di,dS,dS,oA,pj,qg,rf,BU,(by grind[aw,aJ]),(by grind[aw,aJ]),(bL bd Lv),(by grind[aw,aJ]),(by grind[aw,aJ]),(bL bd Lw),Kb,l,ad⟩
            skip
            rw[show aO x=true from by grind[aO,bN,bY,aw]];exact ajN ⟨h1,cA,c9,di,dS,dS,oA,pj,qg,rf,BU,(by grind[aw,aJ]),(by grind[aw,aJ]),(bL bd Lv),(by grind[aw,aJ]),(by grind[aw,aJ]),(bL bd Lw),Kb,l,ad⟩
          | false=>
           rcases h0 x aa with⟨cC,l⟩ | ⟨cC,l⟩
           ·skip
            rw[show aO x=false from by grind[aO,bN,bY,aw]];exact ajO ⟨h1,cA,c9,di,dS,dS,oA,pj,qg,rf,BU,l,ad⟩
           skip
           rw[show aO x=true from by grind[aO,bN,bY,aw]];exact ajP ⟨h1,cA,c9,di,dS,dS,oA,pj,qg,rf,BU,l,ad⟩
     | false=>
      cases eJ:(x.kind==6) with
      | true=>
       cases oB:(x.a != 0) with
       | true=>
        rw[show aO x=false from by grind[aO,bN,bY,aw]];exact ajQ ⟨h1,cA,c9,di,dS,eJ,eJ,oB,ad⟩
       | false=>
        cases pk:(x.b != 0) with
        | true=>
         rw[show aO x=false from by grind[aO,bN,bY,aw]];exact ajR ⟨h1,cA,c9,di,dS,eJ,eJ,oB,pk,ad⟩
        | false=>
         cases qh:(decide ((↑(x.outs.map bd).length:Int)>2)) with
         | true=>
          rw[show aO x=false from by grind[aO,bN,bY,aw]];exact ajS ⟨h1,cA,c9,di,dS,eJ,eJ,oB,pk,qh,ad⟩
         | false=>
          cases rh:(x.kind==8) with
          | true=>
           cases zj:(decide ((↑(x.outs.map bd).length:Int)>0)) with
           | true=>
            rw[show aO x=false from by grind[aO,bN,bY,aw]];exact ajT ⟨h1,cA,c9,di,dS,eJ,eJ,oB,pk,qh,rh,zj,ad⟩
           | false=>
            cases BV:((↑(x.outs.map bd).length:Int)==2) with
            | true=>
             obtain⟨aBP,Lx⟩:=cV (xs:=x.outs) (i:=0) (by grind[aw,aJ]);obtain⟨aBQ,Ly⟩:=cV (xs:=x.outs) (i:=1) (by grind[aw,aJ]);cases Kc:(aBP==aBQ) with
             | true=>
              rw[show aO x=false from by grind[aO,bN,bY,aw]];exact ajU ⟨h1,cA,c9,di,dS,eJ,eJ,oB,pk,qh,rh,zj,BV,(by grind[aw,aJ]),(by grind[aw,aJ]),(bL bd Lx),(by grind[aw,aJ]),(by grind[aw,aJ]),(bL bd Ly),Kc,ad⟩
             | false=>
              rcases h0 x aa with⟨cC,l⟩ | ⟨cC,l⟩
              ·skip
               rw[show aO x=false from by grind[aO,bN,bY,aw]];exact ajV ⟨h1,cA,c9,di,dS,eJ,eJ,oB,pk,qh,rh,zj,BV,(by grind[aw,aJ]),(by grind[aw,aJ]),(bL bd Lx),(by grind[aw,aJ]),(by grind[aw,aJ]),(bL bd Ly),Kc,l,ad⟩
              skip
              rw[show aO x=true from by grind[aO,bN,bY,aw]];exact ajW ⟨h1,cA,c9,di,dS,eJ,eJ,oB,pk,qh,rh,zj,BV,(by grind[aw,aJ]),(by grind[aw,aJ]),(bL bd Lx),(by grind[aw,aJ]),(by grind[aw,aJ]),(bL bd Ly),Kc,l,ad⟩
            | false=>
             rcases h0 x aa with⟨cC,l⟩ | ⟨cC,l⟩
             ·skip
              rw[show aO x=false from by grind[aO,bN,bY,aw]];exact ajX ⟨h1,cA,c9,di,dS,eJ,eJ,oB,pk,qh,rh,zj,BV,l,ad⟩
             skip
             rw[show aO x=true from by grind[aO,bN,bY,aw]];exact ajY ⟨h1,cA,c9,di,dS,eJ,eJ,oB,pk,qh,rh,zj,BV,l,ad⟩
          | false=>
           cases BW:((↑(x.outs.map bd).length:Int)==2) with
           | true=>
            obtain⟨aBR,LA⟩:=cV (xs:=x.outs) (i:=0) (by grind[aw,aJ]);obtain⟨aBS,LB⟩:=cV (xs:=x.outs) (i:=1) (by grind[aw,aJ]);cases Kd:(aBR==aBS) with
            | true=>
             rw[show aO x=false from by grind[aO,bN,bY,aw]];exact ajZ ⟨h1,cA,c9,di,dS,eJ,eJ,oB,pk,qh,rh,BW,(by grind[aw,aJ]),(by grind[aw,aJ]),(bL bd LA),(by grind[aw,aJ]),(by grind[aw,aJ]),(bL bd LB),Kd,ad⟩
            | false=>
             rcases h0 x aa with⟨cC,l⟩ | ⟨cC,l⟩
             ·skip
              rw[show aO x=false from by grind[aO,bN,bY,aw]];exact aj0 ⟨h1,cA,c9,di,dS,eJ,eJ,oB,pk,qh,rh,BW,(by grind[aw,aJ]),(by grind[aw,aJ]),(bL bd LA),(by grind[aw,aJ]),(by grind[aw,aJ]),(bL bd LB),Kd,l,ad⟩
             skip
             rw[show aO x=true from by grind[aO,bN,bY,aw]];exact aj1 ⟨h1,cA,c9,di,dS,eJ,eJ,oB,pk,qh,rh,BW,(by grind[aw,aJ]),(by grind[aw,aJ]),(bL bd LA),(by grind[aw,aJ]),(by grind[aw,aJ]),(bL bd LB),Kd,l,ad⟩
           | false=>
            rcases h0 x aa with⟨cC,l⟩ | ⟨cC,l⟩
            ·skip
             rw[show aO x=false from by grind[aO,bN,bY,aw]];exact aj2 ⟨h1,cA,c9,di,dS,eJ,eJ,oB,pk,qh,rh,BW,l,ad⟩
            skip
            rw[show aO x=true from by grind[aO,bN,bY,aw]];exact aj3 ⟨h1,cA,c9,di,dS,eJ,eJ,oB,pk,qh,rh,BW,l,ad⟩
      | false=>
       cases gb:(x.kind==7) with
       | true=>
        cases oC:(x.a != 0) with
        | true=>
         rw[show aO x=false from by grind[aO,bN,bY,aw]];exact aj4 ⟨h1,cA,c9,di,dS,eJ,gb,gb,oC,ad⟩
        | false=>
         cases po:(x.b != 0) with
         | true=>
          rw[show aO x=false from by grind[aO,bN,bY,aw]];exact aj5 ⟨h1,cA,c9,di,dS,eJ,gb,gb,oC,po,ad⟩
         | false=>
          cases qi:(decide ((↑(x.outs.map bd).length:Int)>2)) with
          | true=>
           rw[show aO x=false from by grind[aO,bN,bY,aw]];exact aj6 ⟨h1,cA,c9,di,dS,eJ,gb,gb,oC,po,qi,ad⟩
          | false=>
           cases ri:(x.kind==8) with
           | true=>
            cases zk:(decide ((↑(x.outs.map bd).length:Int)>0)) with
            | true=>
             rw[show aO x=false from by grind[aO,bN,bY,aw]];exact ajh ⟨h1,cA,c9,di,dS,eJ,gb,gb,oC,po,qi,ri,zk,ad⟩
            | false=>
             cases BX:((↑(x.outs.map bd).length:Int)==2) with
             | true=>
              obtain⟨aBT,LC⟩:=cV (xs:=x.outs) (i:=0) (by grind[aw,aJ]);obtain⟨aBU,LD⟩:=cV (xs:=x.outs) (i:=1) (by grind[aw,aJ]);cases Ke:(aBT==aBU) with
              | true=>
               rw[show aO x=false from by grind[aO,bN,bY,aw]];exact aji ⟨h1,cA,c9,di,dS,eJ,gb,gb,oC,po,qi,ri,zk,BX,(by grind[aw,aJ]),(by grind[aw,aJ]),(bL bd LC),(by grind[aw,aJ]),(by grind[aw,aJ]),(bL bd LD),Ke,ad⟩
              | false=>
               rcases h0 x aa with⟨cC,l⟩ | ⟨cC,l⟩
               ·skip
                rw[show aO x=false from by grind[aO,bN,bY,aw]];exact ajj ⟨h1,cA,c9,di,dS,eJ,gb,gb,oC,po,qi,ri,zk,BX,(by grind[aw,aJ]),(by grind[aw,aJ]),(bL bd LC),(by grind[aw,aJ]),(by grind[aw,aJ]),(bL bd LD),Ke,l,ad⟩
               skip
               rw[show aO x=true from by grind[aO,bN,bY,aw]];exact ajk ⟨h1,cA,c9,di,dS,eJ,gb,gb,oC,po,qi,ri,zk,BX,(by grind[aw,aJ]),(by grind[aw,aJ]),(bL bd LC),(by grind[aw,aJ]),(by grind[aw,aJ]),(bL bd LD),Ke,l,ad⟩
             | false=>
              rcases h0 x aa with⟨cC,l⟩ | ⟨cC,l⟩
              ·skip
               rw[show aO x=false from by grind[aO,bN,bY,aw]];exact ajl ⟨h1,cA,c9,di,dS,eJ,gb,gb,oC,po,qi,ri,zk,BX,l,ad⟩
              skip
              rw[show aO x=true from by grind[aO,bN,bY,aw]];exact ajm ⟨h1,cA,c9,di,dS,eJ,gb,gb,oC,po,qi,ri,zk,BX,l,ad⟩
           | false=>
            cases BY:((↑(x.outs.map bd).length:Int)==2) with
            | true=>
             obtain⟨aBD,Lb⟩:=cV (xs:=x.outs) (i:=0) (by grind[aw,aJ]);obtain⟨aBE,Lc⟩:=cV (xs:=x.outs) (i:=1) (by grind[aw,aJ]);cases J4:(aBD==aBE) with
             | true=>
              rw[show aO x=false from by grind[aO,bN,bY,aw]];exact ajn ⟨h1,cA,c9,di,dS,eJ,gb,gb,oC,po,qi,ri,BY,(by grind[aw,aJ]),(by grind[aw,aJ]),(bL bd Lb),(by grind[aw,aJ]),(by grind[aw,aJ]),(bL bd Lc),J4,ad⟩
             | false=>
              rcases h0 x aa with⟨cC,l⟩ | ⟨cC,l⟩
              ·skip
               rw[show aO x=false from by grind[aO,bN,bY,aw]];exact ajo ⟨h1,cA,c9,di,dS,eJ,gb,gb,oC,po,qi,ri,BY,(by grind[aw,aJ]),(by grind[aw,aJ]),(bL bd Lb),(by grind[aw,aJ]),(by grind[aw,aJ]),(bL bd Lc),J4,l,ad⟩
              skip
              rw[show aO x=true from by grind[aO,bN,bY,aw]];exact ajp ⟨h1,cA,c9,di,dS,eJ,gb,gb,oC,po,qi,ri,BY,(by grind[aw,aJ]),(by grind[aw,aJ]),(bL bd Lb),(by grind[aw,aJ]),(by grind[aw,aJ]),(bL bd Lc),J4,l,ad⟩
            | false=>
             rcases h0 x aa with⟨cC,l⟩ | ⟨cC,l⟩
             ·skip
              rw[show aO x=false from by grind[aO,bN,bY,aw]];exact ajq ⟨h1,cA,c9,di,dS,eJ,gb,gb,oC,po,qi,ri,BY,l,ad⟩
             skip
             rw[show aO x=true from by grind[aO,bN,bY,aw]];exact ajr ⟨h1,cA,c9,di,dS,eJ,gb,gb,oC,po,qi,ri,BY,l,ad⟩
       | false=>
        cases ng:(x.kind==8) with
        | true=>
         cases tU:(x.a != 0) with
         | true=>
          rw[show aO x=false from by grind[aO,bN,bY,aw]];exact ajs ⟨h1,cA,c9,di,dS,eJ,gb,ng,tU,ad⟩
         | false=>
          cases vr:(x.b != 0) with
          | true=>
           rw[show aO x=false from by grind[aO,bN,bY,aw]];exact ajt ⟨h1,cA,c9,di,dS,eJ,gb,ng,tU,vr,ad⟩
          | false=>
           cases xd:(decide ((↑(x.outs.map bd).length:Int)>2)) with
           | true=>
            rw[show aO x=false from by grind[aO,bN,bY,aw]];exact aju ⟨h1,cA,c9,di,dS,eJ,gb,ng,tU,vr,xd,ad⟩
           | false=>
            cases ze:(decide ((↑(x.outs.map bd).length:Int)>0)) with
            | true=>
             rw[show aO x=false from by grind[aO,bN,bY,aw]];exact ajv ⟨h1,cA,c9,di,dS,eJ,gb,ng,tU,vr,xd,ng,ze,ad⟩
            | false=>
             cases BL:((↑(x.outs.map bd).length:Int)==2) with
             | true=>
              obtain⟨aBF,Ld⟩:=cV (xs:=x.outs) (i:=0) (by grind[aw,aJ]);obtain⟨aBG,Le⟩:=cV (xs:=x.outs) (i:=1) (by grind[aw,aJ]);cases J5:(aBF==aBG) with
              | true=>
               rw[show aO x=false from by grind[aO,bN,bY,aw]];exact ajw ⟨h1,cA,c9,di,dS,eJ,gb,ng,tU,vr,xd,ng,ze,BL,(by grind[aw,aJ]),(by grind[aw,aJ]),(bL bd Ld),(by grind[aw,aJ]),(by grind[aw,aJ]),(bL bd Le),J5,ad⟩
              | false=>
               rcases h0 x aa with⟨cC,l⟩ | ⟨cC,l⟩
               ·skip
                rw[show aO x=false from by grind[aO,bN,bY,aw]];exact ajx ⟨h1,cA,c9,di,dS,eJ,gb,ng,tU,vr,xd,ng,ze,BL,(by grind[aw,aJ]),(by grind[aw,aJ]),(bL bd Ld),(by grind[aw,aJ]),(by grind[aw,aJ]),(bL bd Le),J5,l,ad⟩
               skip
               rw[show aO x=true from by grind[aO,bN,bY,aw]];exact ajy ⟨h1,cA,c9,di,dS,eJ,gb,ng,tU,vr,xd,ng,ze,BL,(by grind[aw,aJ]),(by grind[aw,aJ]),(bL bd Ld),(by grind[aw,aJ]),(by grind[aw,aJ]),(bL bd Le),J5,l,ad⟩
             | false=>
              rcases h0 x aa with⟨cC,l⟩ | ⟨cC,l⟩
              ·skip
               rw[show aO x=false from by grind[aO,bN,bY,aw]];exact ajz ⟨h1,cA,c9,di,dS,eJ,gb,ng,tU,vr,xd,ng,ze,BL,l,ad⟩
              skip
              rw[show aO x=true from by grind[aO,bN,bY,aw]];exact ajA ⟨h1,cA,c9,di,dS,eJ,gb,ng,tU,vr,xd,ng,ze,BL,l,ad⟩
        | false=>
         rw[show aO x=false from by grind[aO,bN,bY,aw]];exact ajB ⟨h1,cA,c9,di,dS,eJ,gb,ng,ad⟩
