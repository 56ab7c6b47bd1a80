import Derived.Test.YthfnndblgbjniaaGreatQ2
import Derived.Test.YthfnndblgbjniaaGreatGQ
import Derived.Test.YthfnndblgbjniaaGreatGR
set_option linter.unusedVariables false
set_option linter.unusedSimpArgs false
namespace Go.Proofs.YthfnndblgbjniaaGreat
open Go.Sx Go.RowKit Go.Proofs.Tryz
def ig(s:gQ):Bool:=ax s.ba 0 3&&ax s.dc 0 6
def fI(k v:Int):Bool:=ax k 0 99&&ax v 0 999
def eO(r:az):Bool:=ax r.op 0 7&&ig r.bl&&fI r.key r.val
def fg(s:gQ):gQ×Bool:=if ig s&&decide (s.dc<6) then (⟨s.ba,s.dc+1⟩,true) else (s,false)
def less(a b:Int):Int:=if b<a then b else a
def bW(x:Node):Bool:=
 if x.kind=2 then ax x.a 0 999&&x.b==0
 else if x.kind=3 then ax x.a 1 10&&ax x.b 0 (IntKind.i64.wrap (x.a-1))
 else if x.kind=4 then ax x.a 0 99&&x.b==0
 else ax x.kind 1 8&&x.a==0&&x.b==0
def oK(l:List Int):Bool:=!(l.any fun k=>!ax k 0 7)
def b5(l:List Int):Bool:=decide (l.length=2/\l[0]?=l[1]?)
def aU(x:Node):Bool:=bW x&&decide (x.outs.length<=2)&&!(x.kind==8&&decide (0<x.outs.length))&&!b5 x.outs&&oK x.outs
theorem look{α:Type}{xs:List α}{i:Int}(bJ:0<=i)(h1:i<xs.length):∃a,xs[i.toNat]?=some a:=c5 (by omega)
theorem bS{α:Type}{xs:List α}{i:Nat}{a:α}(f:α->List D)(h:xs[i]?=some a):(xs.map f)[i]?=some (f a):=by simp[h]
theorem hW(x:Node)(ag:x.outs.length<=8388608):(oK x.outs=false/\c8 prog (ap f113 0) (dP (x.outs.map bd) 0) .ret (hh false))\/(oK x.outs=true/\c8 prog (ap f113 0) (dP (x.outs.map bd) 0) (.exit 1) hx):=by
 have l:=gl (P:=prog) (c:=(ap f113 0)) x.outs (fun k=>!ax k 0 7) (fun i=>dP (x.outs.map bd) i) (X:=fun _ _=>hh false) eC (cn 1)
  (fun i a ah h=>akz ⟨bV (aY ah),bx,bH (aY ah),bA bd ah,lO a 0 7,h,c0 (aY ah) ag,aa⟩)
  (fun i a ah h=>aky ⟨bV (aY ah),bx,bH (aY ah),bA bd ah,lO a 0 7,h,aa⟩)
  (akA ⟨dq,aa⟩)
 unfold oK;rcases l with⟨_,_,h1,U⟩ | ⟨i,a,_,_,_,_,h1,U⟩
 ·exact .inr ⟨by rw[h1];rfl,U⟩
 exact .inl ⟨by rw[h1];rfl,U⟩
theorem wH(x:Node)(ag:x.outs.length<=2):((oK x.outs&&!b5 x.outs)=false/\c8 prog (ap f104 0) (iJ x.kind x.a x.b (x.outs.map bd) 0) .ret (r3 false))\/((oK x.outs&&!b5 x.outs)=true/\c8 prog (ap f104 0) (iJ x.kind x.a x.b (x.outs.map bd) 0) (.exit 1) tq):=by
 obtain⟨Tc,a,b,outs⟩:=x;have cl:=fun k=>js k 0 7
 match outs,ag with
 | [],_=>exact .inr ⟨rfl,.last (cn 1) (Nn ⟨rfl,aa⟩)⟩
 | [k],_=>
  cases h1:ax k 0 7 with
  | false=>exact .inl ⟨by simp[oK,h1],.last eC (Nl ⟨rfl,by omega,by simp,rfl,cl k,by rw[h1];rfl,aa⟩)⟩
  | true=>
   refine .inr ⟨by simp[oK,b5,h1],.more (Wj ⟨rfl,by omega,by simp,rfl,cl k,by rw[h1];rfl,rfl,⟨by omega,by omega⟩,aa⟩) (.last (cn 1) (Nn ⟨rfl,aa⟩))⟩
 | [k,m],_=>
  cases h1:ax k 0 7 with
  | false=>exact .inl ⟨by simp[oK,h1],.last eC (Nl ⟨rfl,by omega,by simp,rfl,cl k,by rw[h1];rfl,aa⟩)⟩
  | true=>
   have first:fS prog (ap f104 0) (iJ Tc a b ([k,m].map bd) 0) .normal (iJ Tc a b ([k,m].map bd) (0+1)):=Wj ⟨rfl,by omega,by simp,rfl,cl k,by rw[h1];rfl,rfl,⟨by omega,by omega⟩,aa⟩
   cases U:ax m 0 7 with
   | false=>exact .inl ⟨by simp[oK,h1,U],.more first (.last eC (Nl ⟨rfl,by omega,by simp,rfl,cl m,by rw[U];rfl,aa⟩))⟩
   | true=>
    cases aA:(k==m) with
    | true=>exact .inl ⟨by simp[oK,b5,h1,U]at aA ⊢;exact aA,.more first (.last eC (ai6 ⟨rfl,by omega,by simp,rfl,cl m,by rw[U];rfl,rfl,by omega,by simp,rfl,by omega,by simp,rfl,aA,aa⟩))⟩
    | false=>exact .inr ⟨by simp[oK,b5,h1,U]at aA ⊢;exact aA,.more first (.more (ai7 ⟨rfl,by omega,by simp,rfl,cl m,by rw[U];rfl,rfl,by omega,by simp,rfl,by omega,by simp,rfl,aA,⟨by omega,by omega⟩,aa⟩) (.last (cn 1) (Nn ⟨rfl,aa⟩)))⟩
theorem Wk(s:gQ):ar 105 [.agg s.e] [.one (B (ig s))]:=by
 have c1:=js s.ba 0 3;cases U:(ax s.ba 0 3) with
 | true=>
  have cP:=js s.dc 0 6;rw[show ig s=ax s.dc 0 6 from by grind[ig]];exact ajq ⟨c1,U,cP,aa⟩
 | false=>
  rw[show ig s=false from by grind[ig]];exact ajr ⟨c1,U,aa⟩
theorem Wl(s:gQ):ar 164 [.agg s.e] [.one (B (ig s))]:=by
 have c1:=lO s.ba 0 3;cases U:(ax s.ba 0 3) with
 | true=>
  have cP:=lO s.dc 0 6;rw[show ig s=ax s.dc 0 6 from by grind[ig]];exact ajs ⟨c1,U,cP,aa⟩
 | false=>
  rw[show ig s=false from by grind[ig]];exact ajt ⟨c1,U,aa⟩
theorem Wm(k v:Int):ar 165 [.one (I k),.one (I v)] [.one (B (fI k v))]:=by
 have c1:=lO k 0 99;cases U:(ax k 0 99) with
 | true=>
  have cP:=lO v 0 999;rw[show fI k v=ax v 0 999 from by grind[fI]];exact aiZ ⟨c1,U,cP,aa⟩
 | false=>
  rw[show fI k v=false from by grind[fI]];exact ai0 ⟨c1,U,aa⟩
theorem uT(r:az):ar 56 [.agg r.e] [.one (B (eO r))]:=by
 have c1:=js r.op 0 7;cases U:(ax r.op 0 7) with
 | true=>
  have cP:=Wk r.bl;cases aJ:(ig r.bl) with
  | true=>
   have hc:=js r.key 0 99;cases bw:(ax r.key 0 99) with
   | true=>
    have JD:=js r.val 0 999;rw[show eO r=ax r.val 0 999 from by grind[eO,fI]];exact ahS ⟨c1,U,cP,aJ,hc,bw,JD,aa⟩
   | false=>
    rw[show eO r=false from by grind[eO,fI]];exact ahT ⟨c1,U,cP,aJ,hc,bw,aa⟩
  | false=>
   rw[show eO r=false from by grind[eO,fI]];exact ajl ⟨c1,U,cP,aJ,aa⟩
 | false=>
  rw[show eO r=false from by grind[eO,fI]];exact ajm ⟨c1,U,aa⟩
theorem wI(r:az):ar 116 [.agg r.e] [.one (B (eO r))]:=by
 have c1:=lO r.op 0 7;cases U:(ax r.op 0 7) with
 | true=>
  have cP:=Wl r.bl;cases aJ:(ig r.bl) with
  | true=>
   have hc:=Wm r.key r.val;rw[show eO r=fI r.key r.val from by grind[eO,fI]];exact ajn ⟨c1,U,cP,aJ,hc,aa⟩
  | false=>
   rw[show eO r=false from by grind[eO,fI]];exact ajo ⟨c1,U,cP,aJ,aa⟩
 | false=>
  rw[show eO r=false from by grind[eO,fI]];exact ajp ⟨c1,U,aa⟩
theorem Aa(s:gQ):ar 200 [.agg s.e] [.agg ((fg s).1).e,.one (B ((fg s).2))]:=by
 have c1:=Wk s;cases U:(ig s) with
 | true=>
  cases aA:(decide (s.dc>=6)) with
  | true=>
   rw[show fg s=(s,false) from by grind[fg,ig,ax]];exact ajv ⟨c1,(by rw[U];rfl),aA,aa⟩
  | false=>
   rw[show fg s=((⟨s.ba,s.dc+1⟩:gQ),true) from by grind[fg,ig,ax]];exact ajw ⟨c1,(by rw[U];rfl),aA,(by grind[ig,ax,aL]),aa⟩
 | false=>
  rw[show fg s=(s,false) from by grind[fg,ig,ax]];exact aju ⟨c1,(by rw[U];rfl),aa⟩
theorem No(s:gQ):ar 194 [.agg s.e] [.agg ((fg s).1).e,.one (B ((fg s).2))]:=by
 have c1:=Wl s;cases U:(ig s) with
 | true=>
  cases aA:(s.dc==6) with
  | true=>
   rw[show fg s=(s,false) from by grind[fg,ig,ax]];exact ajy ⟨c1,(by rw[U];rfl),aA,aa⟩
  | false=>
   rw[show fg s=((⟨s.ba,s.dc+1⟩:gQ),true) from by grind[fg,ig,ax]];exact ajz ⟨c1,(by rw[U];rfl),aA,(by grind[ig,ax,aL]),aa⟩
 | false=>
  rw[show fg s=(s,false) from by grind[fg,ig,ax]];exact ajx ⟨c1,(by rw[U];rfl),aa⟩
theorem akQ(a b:Int):ar 217 [.one (I a),.one (I b)] [.one (I (less a b))]:=by
 cases h1:(decide (b<a)) with
 | true=>
  rw[show less a b=b from by grind[less]];exact aiX ⟨h1,aa⟩
 | false=>
  rw[show less a b=a from by grind[less]];exact aiY ⟨h1,aa⟩
theorem VO(x:Node)(ag:x.outs.length<=8388608):ar 104 [.agg x.e] [.one (B (aU x))]:=by
 cases h1:(x.kind==2) with
 | true=>
  have c2:=js x.a 0 999;have cP:=js x.kind 1 8;cases aJ:(ax x.kind 1 8) with
  | true=>
   cases a7:(ax x.a 0 999) with
   | true=>
    cases bw:(x.b==0) with
    | true=>
     cases b1:(decide ((↑(x.outs.map bd).length:Int)>2)) with
     | true=>
      rw[show aU x=false from by grind[aU,bW,b5,ax]];exact ai4 ⟨h1,c2,cP,(by rw[aJ];rfl),(by rw[a7];rfl),(by rw[bw];rfl),b1,aa⟩
     | false=>
      cases dA:(x.kind==8) with
      | true=>
       cases ez:(decide ((↑(x.outs.map bd).length:Int)>0)) with
       | true=>
        rw[show aU x=false from by grind[aU,bW,b5,ax]];exact ai5 ⟨h1,c2,cP,(by rw[aJ];rfl),(by rw[a7];rfl),(by rw[bw];rfl),b1,dA,ez,aa⟩
       | false=>
        rcases wH x (by grind) with⟨cJ,l⟩ | ⟨cJ,l⟩
        ·skip
         rw[show aU x=false from by grind[aU,bW,b5,ax]];exact ai8 ⟨h1,c2,cP,(by rw[aJ];rfl),(by rw[a7];rfl),(by rw[bw];rfl),b1,dA,ez,l,aa⟩
        skip
        rw[show aU x=true from by grind[aU,bW,b5,ax]];exact ai9 ⟨h1,c2,cP,(by rw[aJ];rfl),(by rw[a7];rfl),(by rw[bw];rfl),b1,dA,ez,l,aa⟩
      | false=>
       rcases wH x (by grind) with⟨cJ,l⟩ | ⟨cJ,l⟩
       ·skip
        rw[show aU x=false from by grind[aU,bW,b5,ax]];exact aja ⟨h1,c2,cP,(by rw[aJ];rfl),(by rw[a7];rfl),(by rw[bw];rfl),b1,dA,l,aa⟩
       skip
       rw[show aU x=true from by grind[aU,bW,b5,ax]];exact ajb ⟨h1,c2,cP,(by rw[aJ];rfl),(by rw[a7];rfl),(by rw[bw];rfl),b1,dA,l,aa⟩
    | false=>
     rw[show aU x=false from by grind[aU,bW,b5,ax]];exact ai3 ⟨h1,c2,cP,(by rw[aJ];rfl),(by rw[a7];rfl),(by rw[bw];rfl),aa⟩
   | false=>
    rw[show aU x=false from by grind[aU,bW,b5,ax]];exact ai2 ⟨h1,c2,cP,(by rw[aJ];rfl),(by rw[a7];rfl),aa⟩
  | false=>
   rw[show aU x=false from by grind[aU,bW,b5,ax]];exact ai1 ⟨h1,c2,cP,(by rw[aJ];rfl),aa⟩
 | false=>
  cases dZ:(x.kind==3) with
  | true=>
   have q8:=js x.a 1 10;have pg:=js x.b 0 (IntKind.i64.wrap (x.a-1));have oh:=js x.kind 1 8;cases mm:(ax x.kind 1 8) with
   | true=>
    cases ku:(ax x.a 1 10) with
    | true=>
     cases cH:(ax x.b 0 (IntKind.i64.wrap (x.a-1))) with
     | true=>
      cases sC:(decide ((↑(x.outs.map bd).length:Int)>2)) with
      | true=>
       rw[show aU x=false from by grind[aU,bW,b5,ax]];exact ajf ⟨h1,dZ,q8,pg,oh,(by rw[mm];rfl),(by rw[ku];rfl),(by rw[cH];rfl),sC,aa⟩
      | false=>
       cases hP:(x.kind==8) with
       | true=>
        cases JW:(decide ((↑(x.outs.map bd).length:Int)>0)) with
        | true=>
         rw[show aU x=false from by grind[aU,bW,b5,ax]];exact ajg ⟨h1,dZ,q8,pg,oh,(by rw[mm];rfl),(by rw[ku];rfl),(by rw[cH];rfl),sC,hP,JW,aa⟩
        | false=>
         rcases wH x (by grind) with⟨cJ,l⟩ | ⟨cJ,l⟩
         ·skip
          rw[show aU x=false from by grind[aU,bW,b5,ax]];exact ajh ⟨h1,dZ,q8,pg,oh,(by rw[mm];rfl),(by rw[ku];rfl),(by rw[cH];rfl),sC,hP,JW,l,aa⟩
         skip
         rw[show aU x=true from by grind[aU,bW,b5,ax]];exact aji ⟨h1,dZ,q8,pg,oh,(by rw[mm];rfl),(by rw[ku];rfl),(by rw[cH];rfl),sC,hP,JW,l,aa⟩
       | false=>
        rcases wH x (by grind) with⟨cJ,l⟩ | ⟨cJ,l⟩
        ·skip
         rw[show aU x=false from by grind[aU,bW,b5,ax]];exact ajj ⟨h1,dZ,q8,pg,oh,(by rw[mm];rfl),(by rw[ku];rfl),(by rw[cH];rfl),sC,hP,l,aa⟩
        skip
        rw[show aU x=true from by grind[aU,bW,b5,ax]];exact ajk ⟨h1,dZ,q8,pg,oh,(by rw[mm];rfl),(by rw[ku];rfl),(by rw[cH];rfl),sC,hP,l,aa⟩
     | false=>
      rw[show aU x=false from by grind[aU,bW,b5,ax]];exact aje ⟨h1,dZ,q8,pg,oh,(by rw[mm];rfl),(by rw[ku];rfl),(by rw[cH];rfl),aa⟩
    | false=>
     rw[show aU x=false from by grind[aU,bW,b5,ax]];exact ajd ⟨h1,dZ,q8,pg,oh,(by rw[mm];rfl),(by rw[ku];rfl),aa⟩
   | false=>
    rw[show aU x=false from by grind[aU,bW,b5,ax]];exact ajc ⟨h1,dZ,q8,pg,oh,(by rw[mm];rfl),aa⟩
  | false=>
   cases fz:(x.kind==4) with
   | true=>
    have oi:=js x.a 0 99;have tJ:=js x.kind 1 8;cases kU:(ax x.kind 1 8) with
    | true=>
     cases ot:(ax x.a 0 99) with
     | true=>
      cases rb:(x.b==0) with
      | true=>
       cases rc:(decide ((↑(x.outs.map bd).length:Int)>2)) with
       | true=>
        rw[show aU x=false from by grind[aU,bW,b5,ax]];exact aiO ⟨h1,dZ,fz,oi,tJ,(by rw[kU];rfl),(by rw[ot];rfl),(by rw[rb];rfl),rc,aa⟩
       | false=>
        cases tT:(x.kind==8) with
        | true=>
         cases ph:(decide ((↑(x.outs.map bd).length:Int)>0)) with
         | true=>
          rw[show aU x=false from by grind[aU,bW,b5,ax]];exact aiP ⟨h1,dZ,fz,oi,tJ,(by rw[kU];rfl),(by rw[ot];rfl),(by rw[rb];rfl),rc,tT,ph,aa⟩
         | false=>
          rcases wH x (by grind) with⟨cJ,l⟩ | ⟨cJ,l⟩
          ·skip
           rw[show aU x=false from by grind[aU,bW,b5,ax]];exact aiQ ⟨h1,dZ,fz,oi,tJ,(by rw[kU];rfl),(by rw[ot];rfl),(by rw[rb];rfl),rc,tT,ph,l,aa⟩
          skip
          rw[show aU x=true from by grind[aU,bW,b5,ax]];exact aiR ⟨h1,dZ,fz,oi,tJ,(by rw[kU];rfl),(by rw[ot];rfl),(by rw[rb];rfl),rc,tT,ph,l,aa⟩
        | false=>
         rcases wH x (by grind) with⟨cJ,l⟩ | ⟨cJ,l⟩
         ·skip
          rw[show aU x=false from by grind[aU,bW,b5,ax]];exact aiS ⟨h1,dZ,fz,oi,tJ,(by rw[kU];rfl),(by rw[ot];rfl),(by rw[rb];rfl),rc,tT,l,aa⟩
         skip
         rw[show aU x=true from by grind[aU,bW,b5,ax]];exact aiT ⟨h1,dZ,fz,oi,tJ,(by rw[kU];rfl),(by rw[ot];rfl),(by rw[rb];rfl),rc,tT,l,aa⟩
      | false=>
       rw[show aU x=false from by grind[aU,bW,b5,ax]];exact aiN ⟨h1,dZ,fz,oi,tJ,(by rw[kU];rfl),(by rw[ot];rfl),(by rw[rb];rfl),aa⟩
     | false=>
      rw[show aU x=false from by grind[aU,bW,b5,ax]];exact aiM ⟨h1,dZ,fz,oi,tJ,(by rw[kU];rfl),(by rw[ot];rfl),aa⟩
    | false=>
     rw[show aU x=false from by grind[aU,bW,b5,ax]];exact aiL ⟨h1,dZ,fz,oi,tJ,(by rw[kU];rfl),aa⟩
   | false=>
    have tK:=js x.kind 1 8;cases tU:(ax x.kind 1 8) with
    | true=>
     cases qh:(x.a==0) with
     | true=>
      cases c':(x.b==0) with
      | true=>
       cases zc:(decide ((↑(x.outs.map bd).length:Int)>2)) with
       | true=>
        rw[show aU x=false from by grind[aU,bW,b5,ax]];exact akn ⟨h1,dZ,fz,tK,(by rw[tU];rfl),(by rw[qh];rfl),(by rw[c'];rfl),zc,aa⟩
       | false=>
        cases lh:(x.kind==8) with
        | true=>
         cases mo:(decide ((↑(x.outs.map bd).length:Int)>0)) with
         | true=>
          rw[show aU x=false from by grind[aU,bW,b5,ax]];exact ako ⟨h1,dZ,fz,tK,(by rw[tU];rfl),(by rw[qh];rfl),(by rw[c'];rfl),zc,lh,mo,aa⟩
         | false=>
          rcases wH x (by grind) with⟨cJ,l⟩ | ⟨cJ,l⟩
          ·skip
           rw[show aU x=false from by grind[aU,bW,b5,ax]];exact akp ⟨h1,dZ,fz,tK,(by rw[tU];rfl),(by rw[qh];rfl),(by rw[c'];rfl),zc,lh,mo,l,aa⟩
          skip
          rw[show aU x=true from by grind[aU,bW,b5,ax]];exact akq ⟨h1,dZ,fz,tK,(by rw[tU];rfl),(by rw[qh];rfl),(by rw[c'];rfl),zc,lh,mo,l,aa⟩
        | false=>
         rcases wH x (by grind) with⟨cJ,l⟩ | ⟨cJ,l⟩
         ·skip
          rw[show aU x=false from by grind[aU,bW,b5,ax]];exact akr ⟨h1,dZ,fz,tK,(by rw[tU];rfl),(by rw[qh];rfl),(by rw[c'];rfl),zc,lh,l,aa⟩
         skip
         rw[show aU x=true from by grind[aU,bW,b5,ax]];exact aks ⟨h1,dZ,fz,tK,(by rw[tU];rfl),(by rw[qh];rfl),(by rw[c'];rfl),zc,lh,l,aa⟩
      | false=>
       rw[show aU x=false from by grind[aU,bW,b5,ax]];exact akm ⟨h1,dZ,fz,tK,(by rw[tU];rfl),(by rw[qh];rfl),(by rw[c'];rfl),aa⟩
     | false=>
      rw[show aU x=false from by grind[aU,bW,b5,ax]];exact akl ⟨h1,dZ,fz,tK,(by rw[tU];rfl),(by rw[qh];rfl),aa⟩
    | false=>
     rw[show aU x=false from by grind[aU,bW,b5,ax]];exact aiU ⟨h1,dZ,fz,tK,(by rw[tU];rfl),aa⟩
theorem VP(x:Node)(ag:x.outs.length<=8388608):ar 113 [.agg x.e] [.one (B (aU x))]:=by
 cases h1:(x.kind==2) with
 | true=>
  have c2:=lO x.a 0 999;cases aA:(ax x.a 0 999) with
  | true=>
   cases aJ:(x.b != 0) with
   | true=>
    rw[show aU x=false from by grind[aU,bW,b5,ax]];exact aku ⟨h1,c2,(by rw[aA];rfl),aJ,aa⟩
   | false=>
    cases a7:(decide ((↑(x.outs.map bd).length:Int)>2)) with
    | true=>
     rw[show aU x=false from by grind[aU,bW,b5,ax]];exact akv ⟨h1,c2,(by rw[aA];rfl),aJ,a7,aa⟩
    | false=>
     cases bw:(x.kind==8) with
     | true=>
      cases b1:(decide ((↑(x.outs.map bd).length:Int)>0)) with
      | true=>
       rw[show aU x=false from by grind[aU,bW,b5,ax]];exact akw ⟨h1,c2,(by rw[aA];rfl),aJ,a7,bw,b1,aa⟩
      | false=>
       cases dA:((↑(x.outs.map bd).length:Int)==2) with
       | true=>
        obtain⟨Jk,uk⟩:=c5 (xs:=x.outs) (i:=0) (by grind[ax,aL]);obtain⟨IP,KZ⟩:=c5 (xs:=x.outs) (i:=1) (by grind[ax,aL]);cases iS:(Jk==IP) with
        | true=>
         rw[show aU x=false from by grind[aU,bW,b5,ax]];exact akx ⟨h1,c2,(by rw[aA];rfl),aJ,a7,bw,b1,dA,(by grind[ax,aL]),(by grind[ax,aL]),(bS bd uk),(by grind[ax,aL]),(by grind[ax,aL]),(bS bd KZ),iS,aa⟩
        | false=>
         rcases hW x ag with⟨cJ,l⟩ | ⟨cJ,l⟩
         ·skip
          rw[show aU x=false from by grind[aU,bW,b5,ax]];exact akB ⟨h1,c2,(by rw[aA];rfl),aJ,a7,bw,b1,dA,(by grind[ax,aL]),(by grind[ax,aL]),(bS bd uk),(by grind[ax,aL]),(by grind[ax,aL]),(bS bd KZ),iS,l,aa⟩
         skip
         rw[show aU x=true from by grind[aU,bW,b5,ax]];exact akC ⟨h1,c2,(by rw[aA];rfl),aJ,a7,bw,b1,dA,(by grind[ax,aL]),(by grind[ax,aL]),(bS bd uk),(by grind[ax,aL]),(by grind[ax,aL]),(bS bd KZ),iS,l,aa⟩
       | false=>
        rcases hW x ag with⟨cJ,l⟩ | ⟨cJ,l⟩
        ·skip
         rw[show aU x=false from by grind[aU,bW,b5,ax]];exact akD ⟨h1,c2,(by rw[aA];rfl),aJ,a7,bw,b1,dA,l,aa⟩
        skip
        rw[show aU x=true from by grind[aU,bW,b5,ax]];exact akE ⟨h1,c2,(by rw[aA];rfl),aJ,a7,bw,b1,dA,l,aa⟩
     | false=>
      cases jl:((↑(x.outs.map bd).length:Int)==2) with
      | true=>
       obtain⟨IQ,K4⟩:=c5 (xs:=x.outs) (i:=0) (by grind[ax,aL]);obtain⟨yR,K5⟩:=c5 (xs:=x.outs) (i:=1) (by grind[ax,aL]);cases ku:(IQ==yR) with
       | true=>
        rw[show aU x=false from by grind[aU,bW,b5,ax]];exact akF ⟨h1,c2,(by rw[aA];rfl),aJ,a7,bw,jl,(by grind[ax,aL]),(by grind[ax,aL]),(bS bd K4),(by grind[ax,aL]),(by grind[ax,aL]),(bS bd K5),ku,aa⟩
       | false=>
        rcases hW x ag with⟨cJ,l⟩ | ⟨cJ,l⟩
        ·skip
         rw[show aU x=false from by grind[aU,bW,b5,ax]];exact akG ⟨h1,c2,(by rw[aA];rfl),aJ,a7,bw,jl,(by grind[ax,aL]),(by grind[ax,aL]),(bS bd K4),(by grind[ax,aL]),(by grind[ax,aL]),(bS bd K5),ku,l,aa⟩
        skip
        rw[show aU x=true from by grind[aU,bW,b5,ax]];exact akH ⟨h1,c2,(by rw[aA];rfl),aJ,a7,bw,jl,(by grind[ax,aL]),(by grind[ax,aL]),(bS bd K4),(by grind[ax,aL]),(by grind[ax,aL]),(bS bd K5),ku,l,aa⟩
      | false=>
       rcases hW x ag with⟨cJ,l⟩ | ⟨cJ,l⟩
       ·skip
        rw[show aU x=false from by grind[aU,bW,b5,ax]];exact akI ⟨h1,c2,(by rw[aA];rfl),aJ,a7,bw,jl,l,aa⟩
       skip
       rw[show aU x=true from by grind[aU,bW,b5,ax]];exact akJ ⟨h1,c2,(by rw[aA];rfl),aJ,a7,bw,jl,l,aa⟩
  | false=>
   rw[show aU x=false from by grind[aU,bW,b5,ax]];exact akt ⟨h1,c2,(by rw[aA];rfl),aa⟩
 | false=>
  cases cH:(x.kind==3) with
  | true=>
   have mT:=lO x.a 1 10;cases hP:(ax x.a 1 10) with
   | true=>
    have j4:=lO x.b 0 (IntKind.i64.wrap (x.a-1));cases fz:(ax x.b 0 (IntKind.i64.wrap (x.a-1))) with
    | true=>
     cases qg:(decide ((↑(x.outs.map bd).length:Int)>2)) with
     | true=>
      rw[show aU x=false from by grind[aU,bW,b5,ax]];exact ajW ⟨h1,cH,mT,(by rw[hP];rfl),j4,(by rw[fz];rfl),qg,aa⟩
     | false=>
      cases mn:(x.kind==8) with
      | true=>
       cases kU:(decide ((↑(x.outs.map bd).length:Int)>0)) with
       | true=>
        rw[show aU x=false from by grind[aU,bW,b5,ax]];exact ajX ⟨h1,cH,mT,(by rw[hP];rfl),j4,(by rw[fz];rfl),qg,mn,kU,aa⟩
       | false=>
        cases ot:((↑(x.outs.map bd).length:Int)==2) with
        | true=>
         obtain⟨IV,K6⟩:=c5 (xs:=x.outs) (i:=0) (by grind[ax,aL]);obtain⟨Ew,K7⟩:=c5 (xs:=x.outs) (i:=1) (by grind[ax,aL]);cases tT:(IV==Ew) with
         | true=>
          rw[show aU x=false from by grind[aU,bW,b5,ax]];exact ajY ⟨h1,cH,mT,(by rw[hP];rfl),j4,(by rw[fz];rfl),qg,mn,kU,ot,(by grind[ax,aL]),(by grind[ax,aL]),(bS bd K6),(by grind[ax,aL]),(by grind[ax,aL]),(bS bd K7),tT,aa⟩
         | false=>
          rcases hW x ag with⟨cJ,l⟩ | ⟨cJ,l⟩
          ·skip
           rw[show aU x=false from by grind[aU,bW,b5,ax]];exact ajZ ⟨h1,cH,mT,(by rw[hP];rfl),j4,(by rw[fz];rfl),qg,mn,kU,ot,(by grind[ax,aL]),(by grind[ax,aL]),(bS bd K6),(by grind[ax,aL]),(by grind[ax,aL]),(bS bd K7),tT,l,aa⟩
          skip
          rw[show aU x=true from by grind[aU,bW,b5,ax]];exact aj0 ⟨h1,cH,mT,(by rw[hP];rfl),j4,(by rw[fz];rfl),qg,mn,kU,ot,(by grind[ax,aL]),(by grind[ax,aL]),(bS bd K6),(by grind[ax,aL]),(by grind[ax,aL]),(bS bd K7),tT,l,aa⟩
        | false=>
         rcases hW x ag with⟨cJ,l⟩ | ⟨cJ,l⟩
         ·skip
          rw[show aU x=false from by grind[aU,bW,b5,ax]];exact aj1 ⟨h1,cH,mT,(by rw[hP];rfl),j4,(by rw[fz];rfl),qg,mn,kU,ot,l,aa⟩
         skip
         rw[show aU x=true from by grind[aU,bW,b5,ax]];exact aj2 ⟨h1,cH,mT,(by rw[hP];rfl),j4,(by rw[fz];rfl),qg,mn,kU,ot,l,aa⟩
      | false=>
       cases ph:((↑(x.outs.map bd).length:Int)==2) with
       | true=>
        obtain⟨IW,K8⟩:=c5 (xs:=x.outs) (i:=0) (by grind[ax,aL]);obtain⟨I',K9⟩:=c5 (xs:=x.outs) (i:=1) (by grind[ax,aL]);cases qh:(IW==I') with
        | true=>
         rw[show aU x=false from by grind[aU,bW,b5,ax]];exact aj3 ⟨h1,cH,mT,(by rw[hP];rfl),j4,(by rw[fz];rfl),qg,mn,ph,(by grind[ax,aL]),(by grind[ax,aL]),(bS bd K8),(by grind[ax,aL]),(by grind[ax,aL]),(bS bd K9),qh,aa⟩
        | false=>
         rcases hW x ag with⟨cJ,l⟩ | ⟨cJ,l⟩
         ·skip
          rw[show aU x=false from by grind[aU,bW,b5,ax]];exact aj4 ⟨h1,cH,mT,(by rw[hP];rfl),j4,(by rw[fz];rfl),qg,mn,ph,(by grind[ax,aL]),(by grind[ax,aL]),(bS bd K8),(by grind[ax,aL]),(by grind[ax,aL]),(bS bd K9),qh,l,aa⟩
         skip
         rw[show aU x=true from by grind[aU,bW,b5,ax]];exact aj5 ⟨h1,cH,mT,(by rw[hP];rfl),j4,(by rw[fz];rfl),qg,mn,ph,(by grind[ax,aL]),(by grind[ax,aL]),(bS bd K8),(by grind[ax,aL]),(by grind[ax,aL]),(bS bd K9),qh,l,aa⟩
       | false=>
        rcases hW x ag with⟨cJ,l⟩ | ⟨cJ,l⟩
        ·skip
         rw[show aU x=false from by grind[aU,bW,b5,ax]];exact aj6 ⟨h1,cH,mT,(by rw[hP];rfl),j4,(by rw[fz];rfl),qg,mn,ph,l,aa⟩
        skip
        rw[show aU x=true from by grind[aU,bW,b5,ax]];exact aj7 ⟨h1,cH,mT,(by rw[hP];rfl),j4,(by rw[fz];rfl),qg,mn,ph,l,aa⟩
    | false=>
     rw[show aU x=false from by grind[aU,bW,b5,ax]];exact ajV ⟨h1,cH,mT,(by rw[hP];rfl),j4,(by rw[fz];rfl),aa⟩
   | false=>
    rw[show aU x=false from by grind[aU,bW,b5,ax]];exact akK ⟨h1,cH,mT,(by rw[hP];rfl),aa⟩
  | false=>
   cases c':(x.kind==4) with
   | true=>
    have oj:=lO x.a 0 99;cases lh:(ax x.a 0 99) with
    | true=>
     cases mo:(x.b != 0) with
     | true=>
      rw[show aU x=false from by grind[aU,bW,b5,ax]];exact aj9 ⟨h1,cH,c',oj,(by rw[lh];rfl),mo,aa⟩
     | false=>
      cases qi:(decide ((↑(x.outs.map bd).length:Int)>2)) with
      | true=>
       rw[show aU x=false from by grind[aU,bW,b5,ax]];exact aka ⟨h1,cH,c',oj,(by rw[lh];rfl),mo,qi,aa⟩
      | false=>
       cases re:(x.kind==8) with
       | true=>
        cases zd:(decide ((↑(x.outs.map bd).length:Int)>0)) with
        | true=>
         rw[show aU x=false from by grind[aU,bW,b5,ax]];exact akb ⟨h1,cH,c',oj,(by rw[lh];rfl),mo,qi,re,zd,aa⟩
        | false=>
         cases BB:((↑(x.outs.map bd).length:Int)==2) with
         | true=>
          obtain⟨u7,K'⟩:=c5 (xs:=x.outs) (i:=0) (by grind[ax,aL]);obtain⟨EH,La⟩:=c5 (xs:=x.outs) (i:=1) (by grind[ax,aL]);cases JX:(u7==EH) with
          | true=>
           rw[show aU x=false from by grind[aU,bW,b5,ax]];exact akc ⟨h1,cH,c',oj,(by rw[lh];rfl),mo,qi,re,zd,BB,(by grind[ax,aL]),(by grind[ax,aL]),(bS bd K'),(by grind[ax,aL]),(by grind[ax,aL]),(bS bd La),JX,aa⟩
          | false=>
           rcases hW x ag with⟨cJ,l⟩ | ⟨cJ,l⟩
           ·skip
            rw[show aU x=false from by grind[aU,bW,b5,ax]];exact akd ⟨h1,cH,c',oj,(by rw[lh];rfl),mo,qi,re,zd,BB,(by grind[ax,aL]),(by grind[ax,aL]),(bS bd K'),(by grind[ax,aL]),(by grind[ax,aL]),(bS bd La),JX,l,aa⟩
           skip
           rw[show aU x=true from by grind[aU,bW,b5,ax]];exact ake ⟨h1,cH,c',oj,(by rw[lh];rfl),mo,qi,re,zd,BB,(by grind[ax,aL]),(by grind[ax,aL]),(bS bd K'),(by grind[ax,aL]),(by grind[ax,aL]),(bS bd La),JX,l,aa⟩
         | false=>
          rcases hW x ag with⟨cJ,l⟩ | ⟨cJ,l⟩
          ·skip
           rw[show aU x=false from by grind[aU,bW,b5,ax]];exact akf ⟨h1,cH,c',oj,(by rw[lh];rfl),mo,qi,re,zd,BB,l,aa⟩
          skip
          rw[show aU x=true from by grind[aU,bW,b5,ax]];exact akg ⟨h1,cH,c',oj,(by rw[lh];rfl),mo,qi,re,zd,BB,l,aa⟩
       | false=>
        cases BC:((↑(x.outs.map bd).length:Int)==2) with
        | true=>
         obtain⟨EI,Lb⟩:=c5 (xs:=x.outs) (i:=0) (by grind[ax,aL]);obtain⟨EJ,Lc⟩:=c5 (xs:=x.outs) (i:=1) (by grind[ax,aL]);cases JY:(EI==EJ) with
         | true=>
          rw[show aU x=false from by grind[aU,bW,b5,ax]];exact akh ⟨h1,cH,c',oj,(by rw[lh];rfl),mo,qi,re,BC,(by grind[ax,aL]),(by grind[ax,aL]),(bS bd Lb),(by grind[ax,aL]),(by grind[ax,aL]),(bS bd Lc),JY,aa⟩
         | false=>
          rcases hW x ag with⟨cJ,l⟩ | ⟨cJ,l⟩
          ·skip
           rw[show aU x=false from by grind[aU,bW,b5,ax]];exact aki ⟨h1,cH,c',oj,(by rw[lh];rfl),mo,qi,re,BC,(by grind[ax,aL]),(by grind[ax,aL]),(bS bd Lb),(by grind[ax,aL]),(by grind[ax,aL]),(bS bd Lc),JY,l,aa⟩
          skip
          rw[show aU x=true from by grind[aU,bW,b5,ax]];exact akj ⟨h1,cH,c',oj,(by rw[lh];rfl),mo,qi,re,BC,(by grind[ax,aL]),(by grind[ax,aL]),(bS bd Lb),(by grind[ax,aL]),(by grind[ax,aL]),(bS bd Lc),JY,l,aa⟩
        | false=>
         rcases hW x ag with⟨cJ,l⟩ | ⟨cJ,l⟩
         ·skip
          rw[show aU x=false from by grind[aU,bW,b5,ax]];exact akk ⟨h1,cH,c',oj,(by rw[lh];rfl),mo,qi,re,BC,l,aa⟩
         skip
         rw[show aU x=true from by grind[aU,bW,b5,ax]];exact ajL ⟨h1,cH,c',oj,(by rw[lh];rfl),mo,qi,re,BC,l,aa⟩
    | false=>
     rw[show aU x=false from by grind[aU,bW,b5,ax]];exact aj8 ⟨h1,cH,c',oj,(by rw[lh];rfl),aa⟩
   | false=>
    cases dj:(x.kind==1) with
    | true=>
     cases ou:(x.a != 0) with
     | true=>
      rw[show aU x=false from by grind[aU,bW,b5,ax]];exact ajM ⟨h1,cH,c',dj,dj,ou,aa⟩
     | false=>
      cases pj:(x.b != 0) with
      | true=>
       rw[show aU x=false from by grind[aU,bW,b5,ax]];exact ajN ⟨h1,cH,c',dj,dj,ou,pj,aa⟩
      | false=>
       cases qj:(decide ((↑(x.outs.map bd).length:Int)>2)) with
       | true=>
        rw[show aU x=false from by grind[aU,bW,b5,ax]];exact ajO ⟨h1,cH,c',dj,dj,ou,pj,qj,aa⟩
       | false=>
        cases rf:(x.kind==8) with
        | true=>
         cases ze:(decide ((↑(x.outs.map bd).length:Int)>0)) with
         | true=>
          rw[show aU x=false from by grind[aU,bW,b5,ax]];exact ajP ⟨h1,cH,c',dj,dj,ou,pj,qj,rf,ze,aa⟩
         | false=>
          cases BD:((↑(x.outs.map bd).length:Int)==2) with
          | true=>
           obtain⟨aEh,Ld⟩:=c5 (xs:=x.outs) (i:=0) (by grind[ax,aL]);obtain⟨aEi,Le⟩:=c5 (xs:=x.outs) (i:=1) (by grind[ax,aL]);cases JZ:(aEh==aEi) with
           | true=>
            rw[show aU x=false from by grind[aU,bW,b5,ax]];exact ajQ ⟨h1,cH,c',dj,dj,ou,pj,qj,rf,ze,BD,(by grind[ax,aL]),(by grind[ax,aL]),(bS bd Ld),(by grind[ax,aL]),(by grind[ax,aL]),(bS bd Le),JZ,aa⟩
           | false=>
            rcases hW x ag with⟨cJ,l⟩ | ⟨cJ,l⟩
            ·skip
             rw[show aU x=false from by grind[aU,bW,b5,ax]];exact ajR ⟨h1,cH,c',dj,dj,ou,pj,qj,rf,ze,BD,(by grind[ax,aL]),(by grind[ax,aL]),(bS bd Ld),(by grind[ax,aL]),(by grind[ax,aL]),(bS bd Le),JZ,l,aa⟩
            skip
            rw[show aU x=true from by grind[aU,bW,b5,ax]];exact ajS ⟨h1,cH,c',dj,dj,ou,pj,qj,rf,ze,BD,(by grind[ax,aL]),(by grind[ax,aL]),(bS bd Ld),(by grind[ax,aL]),(by grind[ax,aL]),(bS bd Le),JZ,l,aa⟩
          | false=>
           rcases hW x ag with⟨cJ,l⟩ | ⟨cJ,l⟩
           ·skip
            rw[show aU x=false from by grind[aU,bW,b5,ax]];exact ajT ⟨h1,cH,c',dj,dj,ou,pj,qj,rf,ze,BD,l,aa⟩
           skip
           rw[show aU x=true from by grind[aU,bW,b5,ax]];exact ajU ⟨h1,cH,c',dj,dj,ou,pj,qj,rf,ze,BD,l,aa⟩
        | false=>
         cases BE:((↑(x.outs.map bd).length:Int)==2) with
         | true=>
          obtain⟨aEj,Lf⟩:=c5 (xs:=x.outs) (i:=0) (by grind[ax,aL]);obtain⟨aEk,Lg⟩:=c5 (xs:=x.outs) (i:=1) (by grind[ax,aL]);cases J0:(aEj==aEk) with
          | true=>
           rw[show aU x=false from by grind[aU,bW,b5,ax]];exact alm ⟨h1,cH,c',dj,dj,ou,pj,qj,rf,BE,(by grind[ax,aL]),(by grind[ax,aL]),(bS bd Lf),(by grind[ax,aL]),(by grind[ax,aL]),(bS bd Lg),J0,aa⟩
          | false=>
           rcases hW x ag with⟨cJ,l⟩ | ⟨cJ,l⟩
           ·skip
            rw[show aU x=false from by grind[aU,bW,b5,ax]];exact aln ⟨h1,cH,c',dj,dj,ou,pj,qj,rf,BE,(by grind[ax,aL]),(by grind[ax,aL]),(bS bd Lf),(by grind[ax,aL]),(by grind[ax,aL]),(bS bd Lg),J0,l,aa⟩
           skip
           rw[show aU x=true from by grind[aU,bW,b5,ax]];exact alo ⟨h1,cH,c',dj,dj,ou,pj,qj,rf,BE,(by grind[ax,aL]),(by grind[ax,aL]),(bS bd Lf),(by grind[ax,aL]),(by grind[ax,aL]),(bS bd Lg),J0,l,aa⟩
         | false=>
          rcases hW x ag with⟨cJ,l⟩ | ⟨cJ,l⟩
          ·skip
           rw[show aU x=false from by grind[aU,bW,b5,ax]];exact alp ⟨h1,cH,c',dj,dj,ou,pj,qj,rf,BE,l,aa⟩
          skip
          rw[show aU x=true from by grind[aU,bW,b5,ax]];exact alq ⟨h1,cH,c',dj,dj,ou,pj,qj,rf,BE,l,aa⟩
    | false=>
     cases dR:(x.kind==5) with
     | true=>
      cases ov:(x.a != 0) with
      | true=>
       rw[show aU x=false from by grind[aU,bW,b5,ax]];exact alr ⟨h1,cH,c',dj,dR,dR,ov,aa⟩
      | false=>
       cases pk:(x.b != 0) with
       | true=>
        rw[show aU x=false from by grind[aU,bW,b5,ax]];exact als ⟨h1,cH,c',dj,dR,dR,ov,pk,aa⟩
       | false=>
        cases mq:(decide ((↑(x.outs.map bd).length:Int)>2)) with
        | true=>
         rw[show aU x=false from by grind[aU,bW,b5,ax]];exact alu ⟨h1,cH,c',dj,dR,dR,ov,pk,mq,aa⟩
        | false=>
         cases rh:(x.kind==8) with
         | true=>
          cases zf:(decide ((↑(x.outs.map bd).length:Int)>0)) with
          | true=>
           rw[show aU x=false from by grind[aU,bW,b5,ax]];exact alv ⟨h1,cH,c',dj,dR,dR,ov,pk,mq,rh,zf,aa⟩
          | false=>
           cases BF:((↑(x.outs.map bd).length:Int)==2) with
           | true=>
            obtain⟨aEl,Lh⟩:=c5 (xs:=x.outs) (i:=0) (by grind[ax,aL]);obtain⟨aEm,Li⟩:=c5 (xs:=x.outs) (i:=1) (by grind[ax,aL]);cases J1:(aEl==aEm) with
            | true=>
             rw[show aU x=false from by grind[aU,bW,b5,ax]];exact alw ⟨h1,cH,c',dj,dR,dR,ov,pk,mq,rh,zf,BF,(by grind[ax,aL]),(by grind[ax,aL]),(bS bd Lh),(by grind[ax,aL]),(by grind[ax,aL]),(bS bd Li),J1,aa⟩
            | false=>
             rcases hW x ag with⟨cJ,l⟩ | ⟨cJ,l⟩
             ·skip
              rw[show aU x=false from by grind[aU,bW,b5,ax]];exact alx ⟨h1,cH,c',dj,dR,dR,ov,pk,mq,rh,zf,BF,(by grind[ax,aL]),(by grind[ax,aL]),(bS bd Lh),(by grind[ax,aL]),(by grind[ax,aL]),(bS bd Li),J1,l,aa⟩
             skip
             rw[show aU x=true from by grind[aU,bW,b5,ax]];exact aly ⟨h1,cH,c',dj,dR,dR,ov,pk,mq,rh,zf,BF,(by grind[ax,aL]),(by grind[ax,aL]),(bS bd Lh),(by grind[ax,aL]),(by grind[ax,aL]),(bS bd Li),J1,l,aa⟩
           | false=>
            rcases hW x ag with⟨cJ,l⟩ | ⟨cJ,l⟩
            ·skip
             rw[show aU x=false from by grind[aU,bW,b5,ax]];exact alz ⟨h1,cH,c',dj,dR,dR,ov,pk,mq,rh,zf,BF,l,aa⟩
            skip
            rw[show aU x=true from by grind[aU,bW,b5,ax]];exact alA ⟨h1,cH,c',dj,dR,dR,ov,pk,mq,rh,zf,BF,l,aa⟩
         | false=>
          cases BG:((↑(x.outs.map bd).length:Int)==2) with
          | true=>
           obtain⟨aEn,Lj⟩:=c5 (xs:=x.outs) (i:=0) (by grind[ax,aL]);obtain⟨aEo,Lk⟩:=c5 (xs:=x.outs) (i:=1) (by grind[ax,aL]);cases J2:(aEn==aEo) with
           | true=>
            rw[show aU x=false from by grind[aU,bW,b5,ax]];exact alB ⟨h1,cH,c',dj,dR,dR,ov,pk,mq,rh,BG,(by grind[ax,aL]),(by grind[ax,aL]),(bS bd Lj),(by grind[ax,aL]),(by grind[ax,aL]),(bS bd Lk),J2,aa⟩
           | false=>
            rcases hW x ag with⟨cJ,l⟩ | ⟨cJ,l⟩
            ·skip
             rw[show aU x=false from by grind[aU,bW,b5,ax]];exact alC ⟨h1,cH,c',dj,dR,dR,ov,pk,mq,rh,BG,(by grind[ax,aL]),(by grind[ax,aL]),(bS bd Lj),(by grind[ax,aL]),(by grind[ax,aL]),(bS bd Lk),J2,l,aa⟩
            skip
            rw[show aU x=true from by grind[aU,bW,b5,ax]];exact alD ⟨h1,cH,c',dj,dR,dR,ov,pk,mq,rh,BG,(by grind[ax,aL]),(by grind[ax,aL]),(bS bd Lj),(by grind[ax,aL]),(by grind[ax,aL]),(bS bd Lk),J2,l,aa⟩
          | false=>
           rcases hW x ag with⟨cJ,l⟩ | ⟨cJ,l⟩
           ·skip
            rw[show aU x=false from by grind[aU,bW,b5,ax]];exact alE ⟨h1,cH,c',dj,dR,dR,ov,pk,mq,rh,BG,l,aa⟩
           skip
           rw[show aU x=true from by grind[aU,bW,b5,ax]];exact alF ⟨h1,cH,c',dj,dR,dR,ov,pk,mq,rh,BG,l,aa⟩
     | false=>
      cases eP:(x.kind==6) with
      | true=>
       cases ow:(x.a != 0) with
       | true=>
        rw[show aU x=false from by grind[aU,bW,b5,ax]];exact alG ⟨h1,cH,c',dj,dR,eP,eP,ow,aa⟩
       | false=>
        cases po:(x.b != 0) with
        | true=>
         rw[show aU x=false from by grind[aU,bW,b5,ax]];exact alH ⟨h1,cH,c',dj,dR,eP,eP,ow,po,aa⟩
        | false=>
         cases qk:(decide ((↑(x.outs.map bd).length:Int)>2)) with
         | true=>
          rw[show aU x=false from by grind[aU,bW,b5,ax]];exact alI ⟨h1,cH,c',dj,dR,eP,eP,ow,po,qk,aa⟩
         | false=>
          cases ri:(x.kind==8) with
          | true=>
           cases zg:(decide ((↑(x.outs.map bd).length:Int)>0)) with
           | true=>
            rw[show aU x=false from by grind[aU,bW,b5,ax]];exact alJ ⟨h1,cH,c',dj,dR,eP,eP,ow,po,qk,ri,zg,aa⟩
           | false=>
            cases BH:((↑(x.outs.map bd).length:Int)==2) with
            | true=>
             obtain⟨aEp,Ll⟩:=c5 (xs:=x.outs) (i:=0) (by grind[ax,aL]);obtain⟨aEq,Lm⟩:=c5 (xs:=x.outs) (i:=1) (by grind[ax,aL]);cases J3:(aEp==aEq) with
             | true=>
              rw[show aU x=false from by grind[aU,bW,b5,ax]];exact alK ⟨h1,cH,c',dj,dR,eP,eP,ow,po,qk,ri,zg,BH,(by grind[ax,aL]),(by grind[ax,aL]),(bS bd Ll),(by grind[ax,aL]),(by grind[ax,aL]),(bS bd Lm),J3,aa⟩
             | false=>
              rcases hW x ag with⟨cJ,l⟩ | ⟨cJ,l⟩
              ·skip
               rw[show aU x=false from by grind[aU,bW,b5,ax]];exact alL ⟨h1,cH,c',dj,dR,eP,eP,ow,po,qk,ri,zg,BH,(by grind[ax,aL]),(by grind[ax,aL]),(bS bd Ll),(by grind[ax,aL]),(by grind[ax,aL]),(bS bd Lm),J3,l,aa⟩
              skip
              rw[show aU x=true from by grind[aU,bW,b5,ax]];exact alM ⟨h1,cH,c',dj,dR,eP,eP,ow,po,qk,ri,zg,BH,(by grind[ax,aL]),(by grind[ax,aL]),(bS bd Ll),(by grind[ax,aL]),(by grind[ax,aL]),(bS bd Lm),J3,l,aa⟩
            | false=>
             rcases hW x ag with⟨cJ,l⟩ | ⟨cJ,l⟩
             ·skip
              rw[show aU x=false from by grind[aU,bW,b5,ax]];exact akV ⟨h1,cH,c',dj,dR,eP,eP,ow,po,qk,ri,zg,BH,l,aa⟩
             skip
             rw[show aU x=true from by grind[aU,bW,b5,ax]];exact akW ⟨h1,cH,c',dj,dR,eP,eP,ow,po,qk,ri,zg,BH,l,aa⟩
          | false=>
           cases BI:((↑(x.outs.map bd).length:Int)==2) with
           | true=>
            obtain⟨aEr,Ln⟩:=c5 (xs:=x.outs) (i:=0) (by grind[ax,aL]);obtain⟨aEs,Lo⟩:=c5 (xs:=x.outs) (i:=1) (by grind[ax,aL]);cases J4:(aEr==aEs) with
            | true=>
             rw[show aU x=false from by grind[aU,bW,b5,ax]];exact akX ⟨h1,cH,c',dj,dR,eP,eP,ow,po,qk,ri,BI,(by grind[ax,aL]),(by grind[ax,aL]),(bS bd Ln),(by grind[ax,aL]),(by grind[ax,aL]),(bS bd Lo),J4,aa⟩
            | false=>
             rcases hW x ag with⟨cJ,l⟩ | ⟨cJ,l⟩
             ·skip
              rw[show aU x=false from by grind[aU,bW,b5,ax]];exact akY ⟨h1,cH,c',dj,dR,eP,eP,ow,po,qk,ri,BI,(by grind[ax,aL]),(by grind[ax,aL]),(bS bd Ln),(by grind[ax,aL]),(by grind[ax,aL]),(bS bd Lo),J4,l,aa⟩
             skip
             rw[show aU x=true from by grind[aU,bW,b5,ax]];exact akZ ⟨h1,cH,c',dj,dR,eP,eP,ow,po,qk,ri,BI,(by grind[ax,aL]),(by grind[ax,aL]),(bS bd Ln),(by grind[ax,aL]),(by grind[ax,aL]),(bS bd Lo),J4,l,aa⟩
           | false=>
            rcases hW x ag with⟨cJ,l⟩ | ⟨cJ,l⟩
            ·skip
             rw[show aU x=false from by grind[aU,bW,b5,ax]];exact ak0 ⟨h1,cH,c',dj,dR,eP,eP,ow,po,qk,ri,BI,l,aa⟩
            skip
            rw[show aU x=true from by grind[aU,bW,b5,ax]];exact ak1 ⟨h1,cH,c',dj,dR,eP,eP,ow,po,qk,ri,BI,l,aa⟩
      | false=>
       cases gq:(x.kind==7) with
       | true=>
        cases ox:(x.a != 0) with
        | true=>
         rw[show aU x=false from by grind[aU,bW,b5,ax]];exact ak2 ⟨h1,cH,c',dj,dR,eP,gq,gq,ox,aa⟩
        | false=>
         cases pq:(x.b != 0) with
         | true=>
          rw[show aU x=false from by grind[aU,bW,b5,ax]];exact ak3 ⟨h1,cH,c',dj,dR,eP,gq,gq,ox,pq,aa⟩
         | false=>
          cases ql:(decide ((↑(x.outs.map bd).length:Int)>2)) with
          | true=>
           rw[show aU x=false from by grind[aU,bW,b5,ax]];exact ak4 ⟨h1,cH,c',dj,dR,eP,gq,gq,ox,pq,ql,aa⟩
          | false=>
           cases rj:(x.kind==8) with
           | true=>
            cases zh:(decide ((↑(x.outs.map bd).length:Int)>0)) with
            | true=>
             rw[show aU x=false from by grind[aU,bW,b5,ax]];exact ak5 ⟨h1,cH,c',dj,dR,eP,gq,gq,ox,pq,ql,rj,zh,aa⟩
            | false=>
             cases BJ:((↑(x.outs.map bd).length:Int)==2) with
             | true=>
              obtain⟨aEt,Lp⟩:=c5 (xs:=x.outs) (i:=0) (by grind[ax,aL]);obtain⟨aEu,Lq⟩:=c5 (xs:=x.outs) (i:=1) (by grind[ax,aL]);cases J5:(aEt==aEu) with
              | true=>
               rw[show aU x=false from by grind[aU,bW,b5,ax]];exact ak6 ⟨h1,cH,c',dj,dR,eP,gq,gq,ox,pq,ql,rj,zh,BJ,(by grind[ax,aL]),(by grind[ax,aL]),(bS bd Lp),(by grind[ax,aL]),(by grind[ax,aL]),(bS bd Lq),J5,aa⟩
              | false=>
               rcases hW x ag with⟨cJ,l⟩ | ⟨cJ,l⟩
               ·skip
                rw[show aU x=false from by grind[aU,bW,b5,ax]];exact ak7 ⟨h1,cH,c',dj,dR,eP,gq,gq,ox,pq,ql,rj,zh,BJ,(by grind[ax,aL]),(by grind[ax,aL]),(bS bd Lp),(by grind[ax,aL]),(by grind[ax,aL]),(bS bd Lq),J5,l,aa⟩
               skip
               rw[show aU x=true from by grind[aU,bW,b5,ax]];exact ak8 ⟨h1,cH,c',dj,dR,eP,gq,gq,ox,pq,ql,rj,zh,BJ,(by grind[ax,aL]),(by grind[ax,aL]),(bS bd Lp),(by grind[ax,aL]),(by grind[ax,aL]),(bS bd Lq),J5,l,aa⟩
             | false=>
              rcases hW x ag with⟨cJ,l⟩ | ⟨cJ,l⟩
              ·skip
               rw[show aU x=false from by grind[aU,bW,b5,ax]];exact ak9 ⟨h1,cH,c',dj,dR,eP,gq,gq,ox,pq,ql,rj,zh,BJ,l,aa⟩
              skip
              rw[show aU x=true from by grind[aU,bW,b5,ax]];exact ala ⟨h1,cH,c',dj,dR,eP,gq,gq,ox,pq,ql,rj,zh,BJ,l,aa⟩
           | false=>
            cases BK:((↑(x.outs.map bd).length:Int)==2) with
            | true=>
             obtain⟨aEd,K0⟩:=c5 (xs:=x.outs) (i:=0) (by grind[ax,aL]);obtain⟨aEe,K1⟩:=c5 (xs:=x.outs) (i:=1) (by grind[ax,aL]);cases JU:(aEd==aEe) with
             | true=>
              rw[show aU x=false from by grind[aU,bW,b5,ax]];exact alb ⟨h1,cH,c',dj,dR,eP,gq,gq,ox,pq,ql,rj,BK,(by grind[ax,aL]),(by grind[ax,aL]),(bS bd K0),(by grind[ax,aL]),(by grind[ax,aL]),(bS bd K1),JU,aa⟩
             | false=>
              rcases hW x ag with⟨cJ,l⟩ | ⟨cJ,l⟩
              ·skip
               rw[show aU x=false from by grind[aU,bW,b5,ax]];exact alc ⟨h1,cH,c',dj,dR,eP,gq,gq,ox,pq,ql,rj,BK,(by grind[ax,aL]),(by grind[ax,aL]),(bS bd K0),(by grind[ax,aL]),(by grind[ax,aL]),(bS bd K1),JU,l,aa⟩
              skip
              rw[show aU x=true from by grind[aU,bW,b5,ax]];exact ald ⟨h1,cH,c',dj,dR,eP,gq,gq,ox,pq,ql,rj,BK,(by grind[ax,aL]),(by grind[ax,aL]),(bS bd K0),(by grind[ax,aL]),(by grind[ax,aL]),(bS bd K1),JU,l,aa⟩
            | false=>
             rcases hW x ag with⟨cJ,l⟩ | ⟨cJ,l⟩
             ·skip
              rw[show aU x=false from by grind[aU,bW,b5,ax]];exact ale ⟨h1,cH,c',dj,dR,eP,gq,gq,ox,pq,ql,rj,BK,l,aa⟩
             skip
             rw[show aU x=true from by grind[aU,bW,b5,ax]];exact alf ⟨h1,cH,c',dj,dR,eP,gq,gq,ox,pq,ql,rj,BK,l,aa⟩
       | false=>
        cases mW:(x.kind==8) with
        | true=>
         cases tS:(x.a != 0) with
         | true=>
          rw[show aU x=false from by grind[aU,bW,b5,ax]];exact alg ⟨h1,cH,c',dj,dR,eP,gq,mW,tS,aa⟩
         | false=>
          cases vp:(x.b != 0) with
          | true=>
           rw[show aU x=false from by grind[aU,bW,b5,ax]];exact alh ⟨h1,cH,c',dj,dR,eP,gq,mW,tS,vp,aa⟩
          | false=>
           cases xg:(decide ((↑(x.outs.map bd).length:Int)>2)) with
           | true=>
            rw[show aU x=false from by grind[aU,bW,b5,ax]];exact ali ⟨h1,cH,c',dj,dR,eP,gq,mW,tS,vp,xg,aa⟩
           | false=>
            cases zb:(decide ((↑(x.outs.map bd).length:Int)>0)) with
            | true=>
             rw[show aU x=false from by grind[aU,bW,b5,ax]];exact alj ⟨h1,cH,c',dj,dR,eP,gq,mW,tS,vp,xg,mW,zb,aa⟩
            | false=>
             cases By:((↑(x.outs.map bd).length:Int)==2) with
             | true=>
              obtain⟨aEf,K2⟩:=c5 (xs:=x.outs) (i:=0) (by grind[ax,aL]);obtain⟨aEg,K3⟩:=c5 (xs:=x.outs) (i:=1) (by grind[ax,aL]);cases JV:(aEf==aEg) with
              | true=>
               rw[show aU x=false from by grind[aU,bW,b5,ax]];exact alk ⟨h1,cH,c',dj,dR,eP,gq,mW,tS,vp,xg,mW,zb,By,(by grind[ax,aL]),(by grind[ax,aL]),(bS bd K2),(by grind[ax,aL]),(by grind[ax,aL]),(bS bd K3),JV,aa⟩
              | false=>
               rcases hW x ag with⟨cJ,l⟩ | ⟨cJ,l⟩
               ·skip
                rw[show aU x=false from by grind[aU,bW,b5,ax]];exact akL ⟨h1,cH,c',dj,dR,eP,gq,mW,tS,vp,xg,mW,zb,By,(by grind[ax,aL]),(by grind[ax,aL]),(bS bd K2),(by grind[ax,aL]),(by grind[ax,aL]),(bS bd K3),JV,l,aa⟩
               skip
               rw[show aU x=true from by grind[aU,bW,b5,ax]];exact akM ⟨h1,cH,c',dj,dR,eP,gq,mW,tS,vp,xg,mW,zb,By,(by grind[ax,aL]),(by grind[ax,aL]),(bS bd K2),(by grind[ax,aL]),(by grind[ax,aL]),(bS bd K3),JV,l,aa⟩
             | false=>
              rcases hW x ag with⟨cJ,l⟩ | ⟨cJ,l⟩
              ·skip
               rw[show aU x=false from by grind[aU,bW,b5,ax]];exact akN ⟨h1,cH,c',dj,dR,eP,gq,mW,tS,vp,xg,mW,zb,By,l,aa⟩
              skip
              rw[show aU x=true from by grind[aU,bW,b5,ax]];exact akO ⟨h1,cH,c',dj,dR,eP,gq,mW,tS,vp,xg,mW,zb,By,l,aa⟩
        | false=>
         rw[show aU x=false from by grind[aU,bW,b5,ax]];exact akP ⟨h1,cH,c',dj,dR,eP,gq,mW,aa⟩
