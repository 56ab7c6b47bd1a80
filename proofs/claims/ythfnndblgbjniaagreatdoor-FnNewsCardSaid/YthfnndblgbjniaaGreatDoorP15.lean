import Derived.Test.YthfnndblgbjniaaGreatDoorC0
import Derived.Test.YthfnndblgbjniaaGreatDoorGQ
import Derived.Test.YthfnndblgbjniaaGreatDoorGR
set_option linter.unusedVariables false
set_option linter.unusedSimpArgs false
namespace Go.Proofs.YthfnndblgbjniaaGreatDoor
open Go.Sx Go.RowKit Go.Proofs.Tryz
def h'(s:hd):Bool:=av s.bh 0 3&&av s.eo 0 6
def fQ(k v:Int):Bool:=av k 0 99&&av v 0 999
def e6(r:aH):Bool:=av r.op 0 7&&h' r.bJ&&fQ r.key r.val
def gL(s:hd):hd×Bool:=if h' s&&decide (s.eo<6) then (⟨s.bh,s.eo+1⟩,true) else (s,false)
def less(a b:Int):Int:=if b<a then b else a
def bQ(x:Node):Bool:=
 if x.kind=2 then av x.a 0 999&&x.b==0
 else if x.kind=3 then av x.a 1 10&&av x.b 0 (IntKind.i64.wrap (x.a-1))
 else if x.kind=4 then av x.a 0 99&&x.b==0
 else av x.kind 1 8&&x.a==0&&x.b==0
def lS(l:List Int):Bool:=!(l.any fun k=>!av k 0 7)
def bT(l:List Int):Bool:=decide (l.length=2/\l[0]?=l[1]?)
def aQ(x:Node):Bool:=bQ x&&decide (x.outs.length<=2)&&!(x.kind==8&&decide (0<x.outs.length))&&!bT x.outs&&lS x.outs
theorem look{α:Type}{xs:List α}{i:Int}(bV:0<=i)(U:i<xs.length):∃a,xs[i.toNat]?=some a:=cS (by omega)
theorem bK{α:Type}{xs:List α}{i:Nat}{a:α}(f:α->List D)(h:xs[i]?=some a):(xs.map f)[i]?=some (f a):=by simp[h]
theorem gw(x:Node)(ao:x.outs.length<=8388608):(lS x.outs=false/\c0 prog (aq f128 0) (dj (x.outs.map ba) 0) .ret (fH false))\/(lS x.outs=true/\c0 prog (aq f128 0) (dj (x.outs.map ba) 0) (.exit 1) fP):=by
 have l:=gv (P:=prog) (c:=(aq f128 0)) x.outs (fun k=>!av k 0 7) (fun i=>dj (x.outs.map ba) i) (X:=fun _ _=>fH false) eJ (cI 1)
  (fun i a ai h=>ap7 ⟨b3 (aZ ai),bn,bt (aZ ai),bp ba ai,jA a 0 7,h,cT (aZ ai) ao,ad⟩)
  (fun i a ai h=>ap6 ⟨b3 (aZ ai),bn,bt (aZ ai),bp ba ai,jA a 0 7,h,ad⟩)
  (ap8 ⟨dv,ad⟩)
 unfold lS;rcases l with⟨_,_,U,aa⟩ | ⟨i,a,_,_,_,_,U,aa⟩
 ·exact .inr ⟨by rw[U];rfl,aa⟩
 exact .inl ⟨by rw[U];rfl,aa⟩
theorem sP(x:Node)(ao:x.outs.length<=2):((lS x.outs&&!bT x.outs)=false/\c0 prog (aq f183 0) (gY x.kind x.a x.b (x.outs.map ba) 0) .ret (o3 false))\/((lS x.outs&&!bT x.outs)=true/\c0 prog (aq f183 0) (gY x.kind x.a x.b (x.outs.map ba) 0) (.exit 1) pZ):=by
 obtain⟨M',a,b,outs⟩:=x;have bI:=fun k=>hA k 0 7
 match outs,ao with
 | [],_=>exact .inr ⟨rfl,.last (cI 1) (JD ⟨rfl,ad⟩)⟩
 | [k],_=>
  cases U:av k 0 7 with
  | false=>exact .inl ⟨by simp[lS,U],.last eJ (JC ⟨rfl,by omega,by simp,rfl,bI k,by rw[U];rfl,ad⟩)⟩
  | true=>
   refine .inr ⟨by simp[lS,bT,U],.more (PY ⟨rfl,by omega,by simp,rfl,bI k,by rw[U];rfl,rfl,⟨by omega,by omega⟩,ad⟩) (.last (cI 1) (JD ⟨rfl,ad⟩))⟩
 | [k,m],_=>
  cases U:av k 0 7 with
  | false=>exact .inl ⟨by simp[lS,U],.last eJ (JC ⟨rfl,by omega,by simp,rfl,bI k,by rw[U];rfl,ad⟩)⟩
  | true=>
   have first:fJ prog (aq f183 0) (gY M' a b ([k,m].map ba) 0) .normal (gY M' a b ([k,m].map ba) (0+1)):=PY ⟨rfl,by omega,by simp,rfl,bI k,by rw[U];rfl,rfl,⟨by omega,by omega⟩,ad⟩
   cases aa:av m 0 7 with
   | false=>exact .inl ⟨by simp[lS,U,aa],.more first (.last eJ (JC ⟨rfl,by omega,by simp,rfl,bI m,by rw[aa];rfl,ad⟩))⟩
   | true=>
    cases aA:(k==m) with
    | true=>exact .inl ⟨by simp[lS,bT,U,aa]at aA ⊢;exact aA,.more first (.last eJ (aoD ⟨rfl,by omega,by simp,rfl,bI m,by rw[aa];rfl,rfl,by omega,by simp,rfl,by omega,by simp,rfl,aA,ad⟩))⟩
    | false=>exact .inr ⟨by simp[lS,bT,U,aa]at aA ⊢;exact aA,.more first (.more (aoE ⟨rfl,by omega,by simp,rfl,bI m,by rw[aa];rfl,rfl,by omega,by simp,rfl,by omega,by simp,rfl,aA,⟨by omega,by omega⟩,ad⟩) (.last (cI 1) (JD ⟨rfl,ad⟩)))⟩
theorem PZ(s:hd):ax 201 [.agg s.e] [.one (B (h' s))]:=by
 have bX:=hA s.bh 0 3;cases aa:(av s.bh 0 3) with
 | true=>
  have cR:=hA s.eo 0 6;rw[show h' s=av s.eo 0 6 from by grind[h']];exact ao6 ⟨bX,aa,cR,ad⟩
 | false=>
  rw[show h' s=false from by grind[h']];exact ao7 ⟨bX,aa,ad⟩
theorem aqo(s:hd):ax 180 [.agg s.e] [.one (B (h' s))]:=by
 have bX:=jA s.bh 0 3;cases aa:(av s.bh 0 3) with
 | true=>
  have cR:=jA s.eo 0 6;rw[show h' s=av s.eo 0 6 from by grind[h']];exact ao8 ⟨bX,aa,cR,ad⟩
 | false=>
  rw[show h' s=false from by grind[h']];exact ao9 ⟨bX,aa,ad⟩
theorem aqp(k v:Int):ax 181 [.one (I k),.one (I v)] [.one (B (fQ k v))]:=by
 have bX:=jA k 0 99;cases aa:(av k 0 99) with
 | true=>
  have cR:=jA v 0 999;rw[show fQ k v=av v 0 999 from by grind[fQ]];exact aow ⟨bX,aa,cR,ad⟩
 | false=>
  rw[show fQ k v=false from by grind[fQ]];exact aox ⟨bX,aa,ad⟩
theorem rr(r:aH):ax 167 [.agg r.e] [.one (B (e6 r))]:=by
 have bX:=hA r.op 0 7;cases aa:(av r.op 0 7) with
 | true=>
  have cR:=PZ r.bJ;cases aO:(h' r.bJ) with
  | true=>
   have hx:=hA r.key 0 99;cases bG:(av r.key 0 99) with
   | true=>
    have U8:=hA r.val 0 999;rw[show e6 r=av r.val 0 999 from by grind[e6,fQ]];exact aoZ ⟨bX,aa,cR,aO,hx,bG,U8,ad⟩
   | false=>
    rw[show e6 r=false from by grind[e6,fQ]];exact ao0 ⟨bX,aa,cR,aO,hx,bG,ad⟩
  | false=>
   rw[show e6 r=false from by grind[e6,fQ]];exact ao1 ⟨bX,aa,cR,aO,ad⟩
 | false=>
  rw[show e6 r=false from by grind[e6,fQ]];exact ao2 ⟨bX,aa,ad⟩
theorem Co(r:aH):ax 131 [.agg r.e] [.one (B (e6 r))]:=by
 have bX:=jA r.op 0 7;cases aa:(av r.op 0 7) with
 | true=>
  have cR:=aqo r.bJ;cases aO:(h' r.bJ) with
  | true=>
   have hx:=aqp r.key r.val;rw[show e6 r=fQ r.key r.val from by grind[e6,fQ]];exact ao3 ⟨bX,aa,cR,aO,hx,ad⟩
  | false=>
   rw[show e6 r=false from by grind[e6,fQ]];exact ao4 ⟨bX,aa,cR,aO,ad⟩
 | false=>
  rw[show e6 r=false from by grind[e6,fQ]];exact ao5 ⟨bX,aa,ad⟩
theorem wK(s:hd):ax 198 [.agg s.e] [.agg ((gL s).1).e,.one (B ((gL s).2))]:=by
 have bX:=PZ s;cases aa:(h' s) with
 | true=>
  cases aA:(decide (s.eo>=6)) with
  | true=>
   rw[show gL s=(s,false) from by grind[gL,h',av]];exact apb ⟨bX,(by rw[aa];rfl),aA,ad⟩
  | false=>
   rw[show gL s=((⟨s.bh,s.eo+1⟩:hd),true) from by grind[gL,h',av]];exact apc ⟨bX,(by rw[aa];rfl),aA,(by grind[h',av,aK]),ad⟩
 | false=>
  rw[show gL s=(s,false) from by grind[gL,h',av]];exact apa ⟨bX,(by rw[aa];rfl),ad⟩
theorem aqq(a b:Int):ax 213 [.one (I a),.one (I b)] [.one (I (less a b))]:=by
 cases U:(decide (b<a)) with
 | true=>
  rw[show less a b=b from by grind[less]];exact aou ⟨U,ad⟩
 | false=>
  rw[show less a b=a from by grind[less]];exact aov ⟨U,ad⟩
theorem P0(x:Node)(ao:x.outs.length<=8388608):ax 183 [.agg x.e] [.one (B (aQ x))]:=by
 cases U:(x.kind==2) with
 | true=>
  have cw:=hA x.a 0 999;have cR:=hA x.kind 1 8;cases aO:(av x.kind 1 8) with
  | true=>
   cases a8:(av x.a 0 999) with
   | true=>
    cases bG:(x.b==0) with
    | true=>
     cases b9:(decide ((↑(x.outs.map ba).length:Int)>2)) with
     | true=>
      rw[show aQ x=false from by grind[aQ,bQ,bT,av]];exact aoB ⟨U,cw,cR,(by rw[aO];rfl),(by rw[a8];rfl),(by rw[bG];rfl),b9,ad⟩
     | false=>
      cases da:(x.kind==8) with
      | true=>
       cases dZ:(decide ((↑(x.outs.map ba).length:Int)>0)) with
       | true=>
        rw[show aQ x=false from by grind[aQ,bQ,bT,av]];exact aoC ⟨U,cw,cR,(by rw[aO];rfl),(by rw[a8];rfl),(by rw[bG];rfl),b9,da,dZ,ad⟩
       | false=>
        rcases sP x (by grind) with⟨cz,l⟩ | ⟨cz,l⟩
        ·skip
         rw[show aQ x=false from by grind[aQ,bQ,bT,av]];exact aoF ⟨U,cw,cR,(by rw[aO];rfl),(by rw[a8];rfl),(by rw[bG];rfl),b9,da,dZ,l,ad⟩
        skip
        rw[show aQ x=true from by grind[aQ,bQ,bT,av]];exact aoG ⟨U,cw,cR,(by rw[aO];rfl),(by rw[a8];rfl),(by rw[bG];rfl),b9,da,dZ,l,ad⟩
      | false=>
       rcases sP x (by grind) with⟨cz,l⟩ | ⟨cz,l⟩
       ·skip
        rw[show aQ x=false from by grind[aQ,bQ,bT,av]];exact aoH ⟨U,cw,cR,(by rw[aO];rfl),(by rw[a8];rfl),(by rw[bG];rfl),b9,da,l,ad⟩
       skip
       rw[show aQ x=true from by grind[aQ,bQ,bT,av]];exact aoI ⟨U,cw,cR,(by rw[aO];rfl),(by rw[a8];rfl),(by rw[bG];rfl),b9,da,l,ad⟩
    | false=>
     rw[show aQ x=false from by grind[aQ,bQ,bT,av]];exact aoA ⟨U,cw,cR,(by rw[aO];rfl),(by rw[a8];rfl),(by rw[bG];rfl),ad⟩
   | false=>
    rw[show aQ x=false from by grind[aQ,bQ,bT,av]];exact aoz ⟨U,cw,cR,(by rw[aO];rfl),(by rw[a8];rfl),ad⟩
  | false=>
   rw[show aQ x=false from by grind[aQ,bQ,bT,av]];exact aoy ⟨U,cw,cR,(by rw[aO];rfl),ad⟩
 | false=>
  cases dw:(x.kind==3) with
  | true=>
   have qu:=hA x.a 1 10;have mh:=hA x.b 0 (IntKind.i64.wrap (x.a-1));have nc:=hA x.kind 1 8;cases ka:(av x.kind 1 8) with
   | true=>
    cases kb:(av x.a 1 10) with
    | true=>
     cases cA:(av x.b 0 (IntKind.i64.wrap (x.a-1))) with
     | true=>
      cases pE:(decide ((↑(x.outs.map ba).length:Int)>2)) with
      | true=>
       rw[show aQ x=false from by grind[aQ,bQ,bT,av]];exact aoM ⟨U,dw,qu,mh,nc,(by rw[ka];rfl),(by rw[kb];rfl),(by rw[cA];rfl),pE,ad⟩
      | false=>
       cases gm:(x.kind==8) with
       | true=>
        cases EQ:(decide ((↑(x.outs.map ba).length:Int)>0)) with
        | true=>
         rw[show aQ x=false from by grind[aQ,bQ,bT,av]];exact aoN ⟨U,dw,qu,mh,nc,(by rw[ka];rfl),(by rw[kb];rfl),(by rw[cA];rfl),pE,gm,EQ,ad⟩
        | false=>
         rcases sP x (by grind) with⟨cz,l⟩ | ⟨cz,l⟩
         ·skip
          rw[show aQ x=false from by grind[aQ,bQ,bT,av]];exact aoO ⟨U,dw,qu,mh,nc,(by rw[ka];rfl),(by rw[kb];rfl),(by rw[cA];rfl),pE,gm,EQ,l,ad⟩
         skip
         rw[show aQ x=true from by grind[aQ,bQ,bT,av]];exact aoP ⟨U,dw,qu,mh,nc,(by rw[ka];rfl),(by rw[kb];rfl),(by rw[cA];rfl),pE,gm,EQ,l,ad⟩
       | false=>
        rcases sP x (by grind) with⟨cz,l⟩ | ⟨cz,l⟩
        ·skip
         rw[show aQ x=false from by grind[aQ,bQ,bT,av]];exact aoQ ⟨U,dw,qu,mh,nc,(by rw[ka];rfl),(by rw[kb];rfl),(by rw[cA];rfl),pE,gm,l,ad⟩
        skip
        rw[show aQ x=true from by grind[aQ,bQ,bT,av]];exact aoh ⟨U,dw,qu,mh,nc,(by rw[ka];rfl),(by rw[kb];rfl),(by rw[cA];rfl),pE,gm,l,ad⟩
     | false=>
      rw[show aQ x=false from by grind[aQ,bQ,bT,av]];exact aoL ⟨U,dw,qu,mh,nc,(by rw[ka];rfl),(by rw[kb];rfl),(by rw[cA];rfl),ad⟩
    | false=>
     rw[show aQ x=false from by grind[aQ,bQ,bT,av]];exact aoK ⟨U,dw,qu,mh,nc,(by rw[ka];rfl),(by rw[kb];rfl),ad⟩
   | false=>
    rw[show aQ x=false from by grind[aQ,bQ,bT,av]];exact aoJ ⟨U,dw,qu,mh,nc,(by rw[ka];rfl),ad⟩
  | false=>
   cases eH:(x.kind==4) with
   | true=>
    have lB:=hA x.a 0 99;have qv:=hA x.kind 1 8;cases iJ:(av x.kind 1 8) with
    | true=>
     cases lE:(av x.a 0 99) with
     | true=>
      cases oi:(x.b==0) with
      | true=>
       cases oj:(decide ((↑(x.outs.map ba).length:Int)>2)) with
       | true=>
        rw[show aQ x=false from by grind[aQ,bQ,bT,av]];exact aol ⟨U,dw,eH,lB,qv,(by rw[iJ];rfl),(by rw[lE];rfl),(by rw[oi];rfl),oj,ad⟩
       | false=>
        cases qI:(x.kind==8) with
        | true=>
         cases mi:(decide ((↑(x.outs.map ba).length:Int)>0)) with
         | true=>
          rw[show aQ x=false from by grind[aQ,bQ,bT,av]];exact aom ⟨U,dw,eH,lB,qv,(by rw[iJ];rfl),(by rw[lE];rfl),(by rw[oi];rfl),oj,qI,mi,ad⟩
         | false=>
          rcases sP x (by grind) with⟨cz,l⟩ | ⟨cz,l⟩
          ·skip
           rw[show aQ x=false from by grind[aQ,bQ,bT,av]];exact aon ⟨U,dw,eH,lB,qv,(by rw[iJ];rfl),(by rw[lE];rfl),(by rw[oi];rfl),oj,qI,mi,l,ad⟩
          skip
          rw[show aQ x=true from by grind[aQ,bQ,bT,av]];exact aoo ⟨U,dw,eH,lB,qv,(by rw[iJ];rfl),(by rw[lE];rfl),(by rw[oi];rfl),oj,qI,mi,l,ad⟩
        | false=>
         rcases sP x (by grind) with⟨cz,l⟩ | ⟨cz,l⟩
         ·skip
          rw[show aQ x=false from by grind[aQ,bQ,bT,av]];exact aop ⟨U,dw,eH,lB,qv,(by rw[iJ];rfl),(by rw[lE];rfl),(by rw[oi];rfl),oj,qI,l,ad⟩
         skip
         rw[show aQ x=true from by grind[aQ,bQ,bT,av]];exact aoq ⟨U,dw,eH,lB,qv,(by rw[iJ];rfl),(by rw[lE];rfl),(by rw[oi];rfl),oj,qI,l,ad⟩
      | false=>
       rw[show aQ x=false from by grind[aQ,bQ,bT,av]];exact aok ⟨U,dw,eH,lB,qv,(by rw[iJ];rfl),(by rw[lE];rfl),(by rw[oi];rfl),ad⟩
     | false=>
      rw[show aQ x=false from by grind[aQ,bQ,bT,av]];exact aoj ⟨U,dw,eH,lB,qv,(by rw[iJ];rfl),(by rw[lE];rfl),ad⟩
    | false=>
     rw[show aQ x=false from by grind[aQ,bQ,bT,av]];exact aoi ⟨U,dw,eH,lB,qv,(by rw[iJ];rfl),ad⟩
   | false=>
    have qw:=hA x.kind 1 8;cases qJ:(av x.kind 1 8) with
    | true=>
     cases nj:(x.a==0) with
     | true=>
      cases cM:(x.b==0) with
      | true=>
       cases vy:(decide ((↑(x.outs.map ba).length:Int)>2)) with
       | true=>
        rw[show aQ x=false from by grind[aQ,bQ,bT,av]];exact apV ⟨U,dw,eH,qw,(by rw[qJ];rfl),(by rw[nj];rfl),(by rw[cM];rfl),vy,ad⟩
       | false=>
        cases jb:(x.kind==8) with
        | true=>
         cases kd:(decide ((↑(x.outs.map ba).length:Int)>0)) with
         | true=>
          rw[show aQ x=false from by grind[aQ,bQ,bT,av]];exact apW ⟨U,dw,eH,qw,(by rw[qJ];rfl),(by rw[nj];rfl),(by rw[cM];rfl),vy,jb,kd,ad⟩
         | false=>
          rcases sP x (by grind) with⟨cz,l⟩ | ⟨cz,l⟩
          ·skip
           rw[show aQ x=false from by grind[aQ,bQ,bT,av]];exact apX ⟨U,dw,eH,qw,(by rw[qJ];rfl),(by rw[nj];rfl),(by rw[cM];rfl),vy,jb,kd,l,ad⟩
          skip
          rw[show aQ x=true from by grind[aQ,bQ,bT,av]];exact apY ⟨U,dw,eH,qw,(by rw[qJ];rfl),(by rw[nj];rfl),(by rw[cM];rfl),vy,jb,kd,l,ad⟩
        | false=>
         rcases sP x (by grind) with⟨cz,l⟩ | ⟨cz,l⟩
         ·skip
          rw[show aQ x=false from by grind[aQ,bQ,bT,av]];exact apZ ⟨U,dw,eH,qw,(by rw[qJ];rfl),(by rw[nj];rfl),(by rw[cM];rfl),vy,jb,l,ad⟩
         skip
         rw[show aQ x=true from by grind[aQ,bQ,bT,av]];exact ap0 ⟨U,dw,eH,qw,(by rw[qJ];rfl),(by rw[nj];rfl),(by rw[cM];rfl),vy,jb,l,ad⟩
      | false=>
       rw[show aQ x=false from by grind[aQ,bQ,bT,av]];exact apU ⟨U,dw,eH,qw,(by rw[qJ];rfl),(by rw[nj];rfl),(by rw[cM];rfl),ad⟩
     | false=>
      rw[show aQ x=false from by grind[aQ,bQ,bT,av]];exact apT ⟨U,dw,eH,qw,(by rw[qJ];rfl),(by rw[nj];rfl),ad⟩
    | false=>
     rw[show aQ x=false from by grind[aQ,bQ,bT,av]];exact apS ⟨U,dw,eH,qw,(by rw[qJ];rfl),ad⟩
theorem aqr(x:Node)(ao:x.outs.length<=8388608):ax 128 [.agg x.e] [.one (B (aQ x))]:=by
 cases U:(x.kind==2) with
 | true=>
  have cw:=jA x.a 0 999;cases aA:(av x.a 0 999) with
  | true=>
   cases aO:(x.b != 0) with
   | true=>
    rw[show aQ x=false from by grind[aQ,bQ,bT,av]];exact ap2 ⟨U,cw,(by rw[aA];rfl),aO,ad⟩
   | false=>
    cases a8:(decide ((↑(x.outs.map ba).length:Int)>2)) with
    | true=>
     rw[show aQ x=false from by grind[aQ,bQ,bT,av]];exact ap3 ⟨U,cw,(by rw[aA];rfl),aO,a8,ad⟩
    | false=>
     cases bG:(x.kind==8) with
     | true=>
      cases b9:(decide ((↑(x.outs.map ba).length:Int)>0)) with
      | true=>
       rw[show aQ x=false from by grind[aQ,bQ,bT,av]];exact ap4 ⟨U,cw,(by rw[aA];rfl),aO,a8,bG,b9,ad⟩
      | false=>
       cases da:((↑(x.outs.map ba).length:Int)==2) with
       | true=>
        obtain⟨D1,q3⟩:=cS (xs:=x.outs) (i:=0) (by grind[av,aK]);obtain⟨DJ,FW⟩:=cS (xs:=x.outs) (i:=1) (by grind[av,aK]);cases hg:(D1==DJ) with
        | true=>
         rw[show aQ x=false from by grind[aQ,bQ,bT,av]];exact ap5 ⟨U,cw,(by rw[aA];rfl),aO,a8,bG,b9,da,(by grind[av,aK]),(by grind[av,aK]),(bK ba q3),(by grind[av,aK]),(by grind[av,aK]),(bK ba FW),hg,ad⟩
        | false=>
         rcases gw x ao with⟨cz,l⟩ | ⟨cz,l⟩
         ·skip
          rw[show aQ x=false from by grind[aQ,bQ,bT,av]];exact ap9 ⟨U,cw,(by rw[aA];rfl),aO,a8,bG,b9,da,(by grind[av,aK]),(by grind[av,aK]),(bK ba q3),(by grind[av,aK]),(by grind[av,aK]),(bK ba FW),hg,l,ad⟩
         skip
         rw[show aQ x=true from by grind[aQ,bQ,bT,av]];exact aqa ⟨U,cw,(by rw[aA];rfl),aO,a8,bG,b9,da,(by grind[av,aK]),(by grind[av,aK]),(bK ba q3),(by grind[av,aK]),(by grind[av,aK]),(bK ba FW),hg,l,ad⟩
       | false=>
        rcases gw x ao with⟨cz,l⟩ | ⟨cz,l⟩
        ·skip
         rw[show aQ x=false from by grind[aQ,bQ,bT,av]];exact aqb ⟨U,cw,(by rw[aA];rfl),aO,a8,bG,b9,da,l,ad⟩
        skip
        rw[show aQ x=true from by grind[aQ,bQ,bT,av]];exact aqc ⟨U,cw,(by rw[aA];rfl),aO,a8,bG,b9,da,l,ad⟩
     | false=>
      cases js:((↑(x.outs.map ba).length:Int)==2) with
      | true=>
       obtain⟨zU,F1⟩:=cS (xs:=x.outs) (i:=0) (by grind[av,aK]);obtain⟨zV,F2⟩:=cS (xs:=x.outs) (i:=1) (by grind[av,aK]);cases kb:(zU==zV) with
       | true=>
        rw[show aQ x=false from by grind[aQ,bQ,bT,av]];exact aqd ⟨U,cw,(by rw[aA];rfl),aO,a8,bG,js,(by grind[av,aK]),(by grind[av,aK]),(bK ba F1),(by grind[av,aK]),(by grind[av,aK]),(bK ba F2),kb,ad⟩
       | false=>
        rcases gw x ao with⟨cz,l⟩ | ⟨cz,l⟩
        ·skip
         rw[show aQ x=false from by grind[aQ,bQ,bT,av]];exact aqe ⟨U,cw,(by rw[aA];rfl),aO,a8,bG,js,(by grind[av,aK]),(by grind[av,aK]),(bK ba F1),(by grind[av,aK]),(by grind[av,aK]),(bK ba F2),kb,l,ad⟩
        skip
        rw[show aQ x=true from by grind[aQ,bQ,bT,av]];exact aqf ⟨U,cw,(by rw[aA];rfl),aO,a8,bG,js,(by grind[av,aK]),(by grind[av,aK]),(bK ba F1),(by grind[av,aK]),(by grind[av,aK]),(bK ba F2),kb,l,ad⟩
      | false=>
       rcases gw x ao with⟨cz,l⟩ | ⟨cz,l⟩
       ·skip
        rw[show aQ x=false from by grind[aQ,bQ,bT,av]];exact aqg ⟨U,cw,(by rw[aA];rfl),aO,a8,bG,js,l,ad⟩
       skip
       rw[show aQ x=true from by grind[aQ,bQ,bT,av]];exact aqh ⟨U,cw,(by rw[aA];rfl),aO,a8,bG,js,l,ad⟩
  | false=>
   rw[show aQ x=false from by grind[aQ,bQ,bT,av]];exact ap1 ⟨U,cw,(by rw[aA];rfl),ad⟩
 | false=>
  cases cA:(x.kind==3) with
  | true=>
   have lA:=jA x.a 1 10;cases gm:(av x.a 1 10) with
   | true=>
    have iI:=jA x.b 0 (IntKind.i64.wrap (x.a-1));cases eH:(av x.b 0 (IntKind.i64.wrap (x.a-1))) with
    | true=>
     cases ni:(decide ((↑(x.outs.map ba).length:Int)>2)) with
     | true=>
      rw[show aQ x=false from by grind[aQ,bQ,bT,av]];exact apu ⟨U,cA,lA,(by rw[gm];rfl),iI,(by rw[eH];rfl),ni,ad⟩
     | false=>
      cases kc:(x.kind==8) with
      | true=>
       cases iJ:(decide ((↑(x.outs.map ba).length:Int)>0)) with
       | true=>
        rw[show aQ x=false from by grind[aQ,bQ,bT,av]];exact apv ⟨U,cA,lA,(by rw[gm];rfl),iI,(by rw[eH];rfl),ni,kc,iJ,ad⟩
       | false=>
        cases lE:((↑(x.outs.map ba).length:Int)==2) with
        | true=>
         obtain⟨DN,F3⟩:=cS (xs:=x.outs) (i:=0) (by grind[av,aK]);obtain⟨w6,F4⟩:=cS (xs:=x.outs) (i:=1) (by grind[av,aK]);cases qI:(DN==w6) with
         | true=>
          rw[show aQ x=false from by grind[aQ,bQ,bT,av]];exact apw ⟨U,cA,lA,(by rw[gm];rfl),iI,(by rw[eH];rfl),ni,kc,iJ,lE,(by grind[av,aK]),(by grind[av,aK]),(bK ba F3),(by grind[av,aK]),(by grind[av,aK]),(bK ba F4),qI,ad⟩
         | false=>
          rcases gw x ao with⟨cz,l⟩ | ⟨cz,l⟩
          ·skip
           rw[show aQ x=false from by grind[aQ,bQ,bT,av]];exact apx ⟨U,cA,lA,(by rw[gm];rfl),iI,(by rw[eH];rfl),ni,kc,iJ,lE,(by grind[av,aK]),(by grind[av,aK]),(bK ba F3),(by grind[av,aK]),(by grind[av,aK]),(bK ba F4),qI,l,ad⟩
          skip
          rw[show aQ x=true from by grind[aQ,bQ,bT,av]];exact apy ⟨U,cA,lA,(by rw[gm];rfl),iI,(by rw[eH];rfl),ni,kc,iJ,lE,(by grind[av,aK]),(by grind[av,aK]),(bK ba F3),(by grind[av,aK]),(by grind[av,aK]),(bK ba F4),qI,l,ad⟩
        | false=>
         rcases gw x ao with⟨cz,l⟩ | ⟨cz,l⟩
         ·skip
          rw[show aQ x=false from by grind[aQ,bQ,bT,av]];exact apz ⟨U,cA,lA,(by rw[gm];rfl),iI,(by rw[eH];rfl),ni,kc,iJ,lE,l,ad⟩
         skip
         rw[show aQ x=true from by grind[aQ,bQ,bT,av]];exact apA ⟨U,cA,lA,(by rw[gm];rfl),iI,(by rw[eH];rfl),ni,kc,iJ,lE,l,ad⟩
      | false=>
       cases mi:((↑(x.outs.map ba).length:Int)==2) with
       | true=>
        obtain⟨z6,F5⟩:=cS (xs:=x.outs) (i:=0) (by grind[av,aK]);obtain⟨Aa,F6⟩:=cS (xs:=x.outs) (i:=1) (by grind[av,aK]);cases nj:(z6==Aa) with
        | true=>
         rw[show aQ x=false from by grind[aQ,bQ,bT,av]];exact apB ⟨U,cA,lA,(by rw[gm];rfl),iI,(by rw[eH];rfl),ni,kc,mi,(by grind[av,aK]),(by grind[av,aK]),(bK ba F5),(by grind[av,aK]),(by grind[av,aK]),(bK ba F6),nj,ad⟩
        | false=>
         rcases gw x ao with⟨cz,l⟩ | ⟨cz,l⟩
         ·skip
          rw[show aQ x=false from by grind[aQ,bQ,bT,av]];exact apC ⟨U,cA,lA,(by rw[gm];rfl),iI,(by rw[eH];rfl),ni,kc,mi,(by grind[av,aK]),(by grind[av,aK]),(bK ba F5),(by grind[av,aK]),(by grind[av,aK]),(bK ba F6),nj,l,ad⟩
         skip
         rw[show aQ x=true from by grind[aQ,bQ,bT,av]];exact apD ⟨U,cA,lA,(by rw[gm];rfl),iI,(by rw[eH];rfl),ni,kc,mi,(by grind[av,aK]),(by grind[av,aK]),(bK ba F5),(by grind[av,aK]),(by grind[av,aK]),(bK ba F6),nj,l,ad⟩
       | false=>
        rcases gw x ao with⟨cz,l⟩ | ⟨cz,l⟩
        ·skip
         rw[show aQ x=false from by grind[aQ,bQ,bT,av]];exact apE ⟨U,cA,lA,(by rw[gm];rfl),iI,(by rw[eH];rfl),ni,kc,mi,l,ad⟩
        skip
        rw[show aQ x=true from by grind[aQ,bQ,bT,av]];exact apF ⟨U,cA,lA,(by rw[gm];rfl),iI,(by rw[eH];rfl),ni,kc,mi,l,ad⟩
    | false=>
     rw[show aQ x=false from by grind[aQ,bQ,bT,av]];exact apt ⟨U,cA,lA,(by rw[gm];rfl),iI,(by rw[eH];rfl),ad⟩
   | false=>
    rw[show aQ x=false from by grind[aQ,bQ,bT,av]];exact aps ⟨U,cA,lA,(by rw[gm];rfl),ad⟩
  | false=>
   cases cM:(x.kind==4) with
   | true=>
    have lC:=jA x.a 0 99;cases jb:(av x.a 0 99) with
    | true=>
     cases kd:(x.b != 0) with
     | true=>
      rw[show aQ x=false from by grind[aQ,bQ,bT,av]];exact apH ⟨U,cA,cM,lC,(by rw[jb];rfl),kd,ad⟩
     | false=>
      cases nm:(decide ((↑(x.outs.map ba).length:Int)>2)) with
      | true=>
       rw[show aQ x=false from by grind[aQ,bQ,bT,av]];exact apI ⟨U,cA,cM,lC,(by rw[jb];rfl),kd,nm,ad⟩
      | false=>
       cases om:(x.kind==8) with
       | true=>
        cases vz:(decide ((↑(x.outs.map ba).length:Int)>0)) with
        | true=>
         rw[show aQ x=false from by grind[aQ,bQ,bT,av]];exact apJ ⟨U,cA,cM,lC,(by rw[jb];rfl),kd,nm,om,vz,ad⟩
        | false=>
         cases xu:((↑(x.outs.map ba).length:Int)==2) with
         | true=>
          obtain⟨arN,F7⟩:=cS (xs:=x.outs) (i:=0) (by grind[av,aK]);obtain⟨arO,F8⟩:=cS (xs:=x.outs) (i:=1) (by grind[av,aK]);cases ER:(arN==arO) with
          | true=>
           rw[show aQ x=false from by grind[aQ,bQ,bT,av]];exact apK ⟨U,cA,cM,lC,(by rw[jb];rfl),kd,nm,om,vz,xu,(by grind[av,aK]),(by grind[av,aK]),(bK ba F7),(by grind[av,aK]),(by grind[av,aK]),(bK ba F8),ER,ad⟩
          | false=>
           rcases gw x ao with⟨cz,l⟩ | ⟨cz,l⟩
           ·skip
            rw[show aQ x=false from by grind[aQ,bQ,bT,av]];exact apL ⟨U,cA,cM,lC,(by rw[jb];rfl),kd,nm,om,vz,xu,(by grind[av,aK]),(by grind[av,aK]),(bK ba F7),(by grind[av,aK]),(by grind[av,aK]),(bK ba F8),ER,l,ad⟩
           skip
           rw[show aQ x=true from by grind[aQ,bQ,bT,av]];exact apM ⟨U,cA,cM,lC,(by rw[jb];rfl),kd,nm,om,vz,xu,(by grind[av,aK]),(by grind[av,aK]),(bK ba F7),(by grind[av,aK]),(by grind[av,aK]),(bK ba F8),ER,l,ad⟩
         | false=>
          rcases gw x ao with⟨cz,l⟩ | ⟨cz,l⟩
          ·skip
           rw[show aQ x=false from by grind[aQ,bQ,bT,av]];exact apN ⟨U,cA,cM,lC,(by rw[jb];rfl),kd,nm,om,vz,xu,l,ad⟩
          skip
          rw[show aQ x=true from by grind[aQ,bQ,bT,av]];exact apO ⟨U,cA,cM,lC,(by rw[jb];rfl),kd,nm,om,vz,xu,l,ad⟩
       | false=>
        cases xv:((↑(x.outs.map ba).length:Int)==2) with
        | true=>
         obtain⟨arP,F9⟩:=cS (xs:=x.outs) (i:=0) (by grind[av,aK]);obtain⟨arQ,F'⟩:=cS (xs:=x.outs) (i:=1) (by grind[av,aK]);cases ES:(arP==arQ) with
         | true=>
          rw[show aQ x=false from by grind[aQ,bQ,bT,av]];exact apP ⟨U,cA,cM,lC,(by rw[jb];rfl),kd,nm,om,xv,(by grind[av,aK]),(by grind[av,aK]),(bK ba F9),(by grind[av,aK]),(by grind[av,aK]),(bK ba F'),ES,ad⟩
         | false=>
          rcases gw x ao with⟨cz,l⟩ | ⟨cz,l⟩
          ·skip
           rw[show aQ x=false from by grind[aQ,bQ,bT,av]];exact apQ ⟨U,cA,cM,lC,(by rw[jb];rfl),kd,nm,om,xv,(by grind[av,aK]),(by grind[av,aK]),(bK ba F9),(by grind[av,aK]),(by grind[av,aK]),(bK ba F'),ES,l,ad⟩
          skip
          rw[show aQ x=true from by grind[aQ,bQ,bT,av]];exact apR ⟨U,cA,cM,lC,(by rw[jb];rfl),kd,nm,om,xv,(by grind[av,aK]),(by grind[av,aK]),(bK ba F9),(by grind[av,aK]),(by grind[av,aK]),(bK ba F'),ES,l,ad⟩
        | false=>
         rcases gw x ao with⟨cz,l⟩ | ⟨cz,l⟩
         ·skip
          rw[show aQ x=false from by grind[aQ,bQ,bT,av]];exact aph ⟨U,cA,cM,lC,(by rw[jb];rfl),kd,nm,om,xv,l,ad⟩
         skip
         rw[show aQ x=true from by grind[aQ,bQ,bT,av]];exact api ⟨U,cA,cM,lC,(by rw[jb];rfl),kd,nm,om,xv,l,ad⟩
    | false=>
     rw[show aQ x=false from by grind[aQ,bQ,bT,av]];exact apG ⟨U,cA,cM,lC,(by rw[jb];rfl),ad⟩
   | false=>
    cases cV:(x.kind==1) with
    | true=>
     cases lF:(x.a != 0) with
     | true=>
      rw[show aQ x=false from by grind[aQ,bQ,bT,av]];exact apj ⟨U,cA,cM,cV,cV,lF,ad⟩
     | false=>
      cases mj:(x.b != 0) with
      | true=>
       rw[show aQ x=false from by grind[aQ,bQ,bT,av]];exact apk ⟨U,cA,cM,cV,cV,lF,mj,ad⟩
      | false=>
       cases nn:(decide ((↑(x.outs.map ba).length:Int)>2)) with
       | true=>
        rw[show aQ x=false from by grind[aQ,bQ,bT,av]];exact apl ⟨U,cA,cM,cV,cV,lF,mj,nn,ad⟩
       | false=>
        cases oo:(x.kind==8) with
        | true=>
         cases vA:(decide ((↑(x.outs.map ba).length:Int)>0)) with
         | true=>
          rw[show aQ x=false from by grind[aQ,bQ,bT,av]];exact apm ⟨U,cA,cM,cV,cV,lF,mj,nn,oo,vA,ad⟩
         | false=>
          cases xw:((↑(x.outs.map ba).length:Int)==2) with
          | true=>
           obtain⟨arR,Ga⟩:=cS (xs:=x.outs) (i:=0) (by grind[av,aK]);obtain⟨arS,Gb⟩:=cS (xs:=x.outs) (i:=1) (by grind[av,aK]);cases ET:(arR==arS) with
           | true=>
            rw[show aQ x=false from by grind[aQ,bQ,bT,av]];exact apn ⟨U,cA,cM,cV,cV,lF,mj,nn,oo,vA,xw,(by grind[av,aK]),(by grind[av,aK]),(bK ba Ga),(by grind[av,aK]),(by grind[av,aK]),(bK ba Gb),ET,ad⟩
           | false=>
            rcases gw x ao with⟨cz,l⟩ | ⟨cz,l⟩
            ·skip
             rw[show aQ x=false from by grind[aQ,bQ,bT,av]];exact apo ⟨U,cA,cM,cV,cV,lF,mj,nn,oo,vA,xw,(by grind[av,aK]),(by grind[av,aK]),(bK ba Ga),(by grind[av,aK]),(by grind[av,aK]),(bK ba Gb),ET,l,ad⟩
            skip
            rw[show aQ x=true from by grind[aQ,bQ,bT,av]];exact apq ⟨U,cA,cM,cV,cV,lF,mj,nn,oo,vA,xw,(by grind[av,aK]),(by grind[av,aK]),(bK ba Ga),(by grind[av,aK]),(by grind[av,aK]),(bK ba Gb),ET,l,ad⟩
          | false=>
           rcases gw x ao with⟨cz,l⟩ | ⟨cz,l⟩
           ·skip
            rw[show aQ x=false from by grind[aQ,bQ,bT,av]];exact apr ⟨U,cA,cM,cV,cV,lF,mj,nn,oo,vA,xw,l,ad⟩
           skip
           rw[show aQ x=true from by grind[aQ,bQ,bT,av]];exact aqS ⟨U,cA,cM,cV,cV,lF,mj,nn,oo,vA,xw,l,ad⟩
        | false=>
         cases xx:((↑(x.outs.map ba).length:Int)==2) with
         | true=>
          obtain⟨arT,Gc⟩:=cS (xs:=x.outs) (i:=0) (by grind[av,aK]);obtain⟨arU,Gd⟩:=cS (xs:=x.outs) (i:=1) (by grind[av,aK]);cases EU:(arT==arU) with
          | true=>
           rw[show aQ x=false from by grind[aQ,bQ,bT,av]];exact aqT ⟨U,cA,cM,cV,cV,lF,mj,nn,oo,xx,(by grind[av,aK]),(by grind[av,aK]),(bK ba Gc),(by grind[av,aK]),(by grind[av,aK]),(bK ba Gd),EU,ad⟩
          | false=>
           rcases gw x ao with⟨cz,l⟩ | ⟨cz,l⟩
           ·skip
            rw[show aQ x=false from by grind[aQ,bQ,bT,av]];exact aqU ⟨U,cA,cM,cV,cV,lF,mj,nn,oo,xx,(by grind[av,aK]),(by grind[av,aK]),(bK ba Gc),(by grind[av,aK]),(by grind[av,aK]),(bK ba Gd),EU,l,ad⟩
           skip
           rw[show aQ x=true from by grind[aQ,bQ,bT,av]];exact aqV ⟨U,cA,cM,cV,cV,lF,mj,nn,oo,xx,(by grind[av,aK]),(by grind[av,aK]),(bK ba Gc),(by grind[av,aK]),(by grind[av,aK]),(bK ba Gd),EU,l,ad⟩
         | false=>
          rcases gw x ao with⟨cz,l⟩ | ⟨cz,l⟩
          ·skip
           rw[show aQ x=false from by grind[aQ,bQ,bT,av]];exact aqW ⟨U,cA,cM,cV,cV,lF,mj,nn,oo,xx,l,ad⟩
          skip
          rw[show aQ x=true from by grind[aQ,bQ,bT,av]];exact aqX ⟨U,cA,cM,cV,cV,lF,mj,nn,oo,xx,l,ad⟩
    | false=>
     cases dp:(x.kind==5) with
     | true=>
      cases lG:(x.a != 0) with
      | true=>
       rw[show aQ x=false from by grind[aQ,bQ,bT,av]];exact aqY ⟨U,cA,cM,cV,dp,dp,lG,ad⟩
      | false=>
       cases ml:(x.b != 0) with
       | true=>
        rw[show aQ x=false from by grind[aQ,bQ,bT,av]];exact aqZ ⟨U,cA,cM,cV,dp,dp,lG,ml,ad⟩
       | false=>
        cases np:(decide ((↑(x.outs.map ba).length:Int)>2)) with
        | true=>
         rw[show aQ x=false from by grind[aQ,bQ,bT,av]];exact aq0 ⟨U,cA,cM,cV,dp,dp,lG,ml,np,ad⟩
        | false=>
         cases oq:(x.kind==8) with
         | true=>
          cases vB:(decide ((↑(x.outs.map ba).length:Int)>0)) with
          | true=>
           rw[show aQ x=false from by grind[aQ,bQ,bT,av]];exact aq1 ⟨U,cA,cM,cV,dp,dp,lG,ml,np,oq,vB,ad⟩
          | false=>
           cases xy:((↑(x.outs.map ba).length:Int)==2) with
           | true=>
            obtain⟨arV,Ge⟩:=cS (xs:=x.outs) (i:=0) (by grind[av,aK]);obtain⟨arW,Gf⟩:=cS (xs:=x.outs) (i:=1) (by grind[av,aK]);cases EV:(arV==arW) with
            | true=>
             rw[show aQ x=false from by grind[aQ,bQ,bT,av]];exact aq2 ⟨U,cA,cM,cV,dp,dp,lG,ml,np,oq,vB,xy,(by grind[av,aK]),(by grind[av,aK]),(bK ba Ge),(by grind[av,aK]),(by grind[av,aK]),(bK ba Gf),EV,ad⟩
            | false=>
             rcases gw x ao with⟨cz,l⟩ | ⟨cz,l⟩
             ·skip
              rw[show aQ x=false from by grind[aQ,bQ,bT,av]];exact aq3 ⟨U,cA,cM,cV,dp,dp,lG,ml,np,oq,vB,xy,(by grind[av,aK]),(by grind[av,aK]),(bK ba Ge),(by grind[av,aK]),(by grind[av,aK]),(bK ba Gf),EV,l,ad⟩
             skip
             rw[show aQ x=true from by grind[aQ,bQ,bT,av]];exact aq4 ⟨U,cA,cM,cV,dp,dp,lG,ml,np,oq,vB,xy,(by grind[av,aK]),(by grind[av,aK]),(bK ba Ge),(by grind[av,aK]),(by grind[av,aK]),(bK ba Gf),EV,l,ad⟩
           | false=>
            rcases gw x ao with⟨cz,l⟩ | ⟨cz,l⟩
            ·skip
             rw[show aQ x=false from by grind[aQ,bQ,bT,av]];exact aq5 ⟨U,cA,cM,cV,dp,dp,lG,ml,np,oq,vB,xy,l,ad⟩
            skip
            rw[show aQ x=true from by grind[aQ,bQ,bT,av]];exact aq6 ⟨U,cA,cM,cV,dp,dp,lG,ml,np,oq,vB,xy,l,ad⟩
         | false=>
          cases xz:((↑(x.outs.map ba).length:Int)==2) with
          | true=>
           obtain⟨arX,Gg⟩:=cS (xs:=x.outs) (i:=0) (by grind[av,aK]);obtain⟨arY,Gh⟩:=cS (xs:=x.outs) (i:=1) (by grind[av,aK]);cases EW:(arX==arY) with
           | true=>
            rw[show aQ x=false from by grind[aQ,bQ,bT,av]];exact aq7 ⟨U,cA,cM,cV,dp,dp,lG,ml,np,oq,xz,(by grind[av,aK]),(by grind[av,aK]),(bK ba Gg),(by grind[av,aK]),(by grind[av,aK]),(bK ba Gh),EW,ad⟩
           | false=>
            rcases gw x ao with⟨cz,l⟩ | ⟨cz,l⟩
            ·skip
             rw[show aQ x=false from by grind[aQ,bQ,bT,av]];exact aq8 ⟨U,cA,cM,cV,dp,dp,lG,ml,np,oq,xz,(by grind[av,aK]),(by grind[av,aK]),(bK ba Gg),(by grind[av,aK]),(by grind[av,aK]),(bK ba Gh),EW,l,ad⟩
            skip
            rw[show aQ x=true from by grind[aQ,bQ,bT,av]];exact aq9 ⟨U,cA,cM,cV,dp,dp,lG,ml,np,oq,xz,(by grind[av,aK]),(by grind[av,aK]),(bK ba Gg),(by grind[av,aK]),(by grind[av,aK]),(bK ba Gh),EW,l,ad⟩
          | false=>
           rcases gw x ao with⟨cz,l⟩ | ⟨cz,l⟩
           ·skip
            rw[show aQ x=false from by grind[aQ,bQ,bT,av]];exact ara ⟨U,cA,cM,cV,dp,dp,lG,ml,np,oq,xz,l,ad⟩
           skip
           rw[show aQ x=true from by grind[aQ,bQ,bT,av]];exact arb ⟨U,cA,cM,cV,dp,dp,lG,ml,np,oq,xz,l,ad⟩
     | false=>
      cases dW:(x.kind==6) with
      | true=>
       cases lH:(x.a != 0) with
       | true=>
        rw[show aQ x=false from by grind[aQ,bQ,bT,av]];exact arc ⟨U,cA,cM,cV,dp,dW,dW,lH,ad⟩
       | false=>
        cases mm:(x.b != 0) with
        | true=>
         rw[show aQ x=false from by grind[aQ,bQ,bT,av]];exact ard ⟨U,cA,cM,cV,dp,dW,dW,lH,mm,ad⟩
        | false=>
         cases nq:(decide ((↑(x.outs.map ba).length:Int)>2)) with
         | true=>
          rw[show aQ x=false from by grind[aQ,bQ,bT,av]];exact arf ⟨U,cA,cM,cV,dp,dW,dW,lH,mm,nq,ad⟩
         | false=>
          cases ot:(x.kind==8) with
          | true=>
           cases vC:(decide ((↑(x.outs.map ba).length:Int)>0)) with
           | true=>
            rw[show aQ x=false from by grind[aQ,bQ,bT,av]];exact arh ⟨U,cA,cM,cV,dp,dW,dW,lH,mm,nq,ot,vC,ad⟩
           | false=>
            cases xA:((↑(x.outs.map ba).length:Int)==2) with
            | true=>
             obtain⟨arZ,Gi⟩:=cS (xs:=x.outs) (i:=0) (by grind[av,aK]);obtain⟨ar0,Gj⟩:=cS (xs:=x.outs) (i:=1) (by grind[av,aK]);cases EX:(arZ==ar0) with
             | true=>
              rw[show aQ x=false from by grind[aQ,bQ,bT,av]];exact ari ⟨U,cA,cM,cV,dp,dW,dW,lH,mm,nq,ot,vC,xA,(by grind[av,aK]),(by grind[av,aK]),(bK ba Gi),(by grind[av,aK]),(by grind[av,aK]),(bK ba Gj),EX,ad⟩
             | false=>
              rcases gw x ao with⟨cz,l⟩ | ⟨cz,l⟩
              ·skip
               rw[show aQ x=false from by grind[aQ,bQ,bT,av]];exact arj ⟨U,cA,cM,cV,dp,dW,dW,lH,mm,nq,ot,vC,xA,(by grind[av,aK]),(by grind[av,aK]),(bK ba Gi),(by grind[av,aK]),(by grind[av,aK]),(bK ba Gj),EX,l,ad⟩
              skip
              rw[show aQ x=true from by grind[aQ,bQ,bT,av]];exact aqs ⟨U,cA,cM,cV,dp,dW,dW,lH,mm,nq,ot,vC,xA,(by grind[av,aK]),(by grind[av,aK]),(bK ba Gi),(by grind[av,aK]),(by grind[av,aK]),(bK ba Gj),EX,l,ad⟩
            | false=>
             rcases gw x ao with⟨cz,l⟩ | ⟨cz,l⟩
             ·skip
              rw[show aQ x=false from by grind[aQ,bQ,bT,av]];exact aqt ⟨U,cA,cM,cV,dp,dW,dW,lH,mm,nq,ot,vC,xA,l,ad⟩
             skip
             rw[show aQ x=true from by grind[aQ,bQ,bT,av]];exact aqu ⟨U,cA,cM,cV,dp,dW,dW,lH,mm,nq,ot,vC,xA,l,ad⟩
          | false=>
           cases xB:((↑(x.outs.map ba).length:Int)==2) with
           | true=>
            obtain⟨ar1,Gk⟩:=cS (xs:=x.outs) (i:=0) (by grind[av,aK]);obtain⟨ar2,Gl⟩:=cS (xs:=x.outs) (i:=1) (by grind[av,aK]);cases EY:(ar1==ar2) with
            | true=>
             rw[show aQ x=false from by grind[aQ,bQ,bT,av]];exact aqv ⟨U,cA,cM,cV,dp,dW,dW,lH,mm,nq,ot,xB,(by grind[av,aK]),(by grind[av,aK]),(bK ba Gk),(by grind[av,aK]),(by grind[av,aK]),(bK ba Gl),EY,ad⟩
            | false=>
             rcases gw x ao with⟨cz,l⟩ | ⟨cz,l⟩
             ·skip
              rw[show aQ x=false from by grind[aQ,bQ,bT,av]];exact aqw ⟨U,cA,cM,cV,dp,dW,dW,lH,mm,nq,ot,xB,(by grind[av,aK]),(by grind[av,aK]),(bK ba Gk),(by grind[av,aK]),(by grind[av,aK]),(bK ba Gl),EY,l,ad⟩
             skip
             rw[show aQ x=true from by grind[aQ,bQ,bT,av]];exact aqx ⟨U,cA,cM,cV,dp,dW,dW,lH,mm,nq,ot,xB,(by grind[av,aK]),(by grind[av,aK]),(bK ba Gk),(by grind[av,aK]),(by grind[av,aK]),(bK ba Gl),EY,l,ad⟩
           | false=>
            rcases gw x ao with⟨cz,l⟩ | ⟨cz,l⟩
            ·skip
             rw[show aQ x=false from by grind[aQ,bQ,bT,av]];exact aqy ⟨U,cA,cM,cV,dp,dW,dW,lH,mm,nq,ot,xB,l,ad⟩
            skip
            rw[show aQ x=true from by grind[aQ,bQ,bT,av]];exact aqz ⟨U,cA,cM,cV,dp,dW,dW,lH,mm,nq,ot,xB,l,ad⟩
      | false=>
       cases fg:(x.kind==7) with
       | true=>
        cases lI:(x.a != 0) with
        | true=>
         rw[show aQ x=false from by grind[aQ,bQ,bT,av]];exact aqA ⟨U,cA,cM,cV,dp,dW,fg,fg,lI,ad⟩
        | false=>
         cases mn:(x.b != 0) with
         | true=>
          rw[show aQ x=false from by grind[aQ,bQ,bT,av]];exact aqB ⟨U,cA,cM,cV,dp,dW,fg,fg,lI,mn,ad⟩
         | false=>
          cases nr:(decide ((↑(x.outs.map ba).length:Int)>2)) with
          | true=>
           rw[show aQ x=false from by grind[aQ,bQ,bT,av]];exact aqC ⟨U,cA,cM,cV,dp,dW,fg,fg,lI,mn,nr,ad⟩
          | false=>
           cases ou:(x.kind==8) with
           | true=>
            cases vD:(decide ((↑(x.outs.map ba).length:Int)>0)) with
            | true=>
             rw[show aQ x=false from by grind[aQ,bQ,bT,av]];exact aqD ⟨U,cA,cM,cV,dp,dW,fg,fg,lI,mn,nr,ou,vD,ad⟩
            | false=>
             cases xC:((↑(x.outs.map ba).length:Int)==2) with
             | true=>
              obtain⟨ar3,Gm⟩:=cS (xs:=x.outs) (i:=0) (by grind[av,aK]);obtain⟨ar4,Gn⟩:=cS (xs:=x.outs) (i:=1) (by grind[av,aK]);cases EZ:(ar3==ar4) with
              | true=>
               rw[show aQ x=false from by grind[aQ,bQ,bT,av]];exact aqE ⟨U,cA,cM,cV,dp,dW,fg,fg,lI,mn,nr,ou,vD,xC,(by grind[av,aK]),(by grind[av,aK]),(bK ba Gm),(by grind[av,aK]),(by grind[av,aK]),(bK ba Gn),EZ,ad⟩
              | false=>
               rcases gw x ao with⟨cz,l⟩ | ⟨cz,l⟩
               ·skip
                rw[show aQ x=false from by grind[aQ,bQ,bT,av]];exact aqF ⟨U,cA,cM,cV,dp,dW,fg,fg,lI,mn,nr,ou,vD,xC,(by grind[av,aK]),(by grind[av,aK]),(bK ba Gm),(by grind[av,aK]),(by grind[av,aK]),(bK ba Gn),EZ,l,ad⟩
               skip
               rw[show aQ x=true from by grind[aQ,bQ,bT,av]];exact aqG ⟨U,cA,cM,cV,dp,dW,fg,fg,lI,mn,nr,ou,vD,xC,(by grind[av,aK]),(by grind[av,aK]),(bK ba Gm),(by grind[av,aK]),(by grind[av,aK]),(bK ba Gn),EZ,l,ad⟩
             | false=>
              rcases gw x ao with⟨cz,l⟩ | ⟨cz,l⟩
              ·skip
               rw[show aQ x=false from by grind[aQ,bQ,bT,av]];exact aqH ⟨U,cA,cM,cV,dp,dW,fg,fg,lI,mn,nr,ou,vD,xC,l,ad⟩
              skip
              rw[show aQ x=true from by grind[aQ,bQ,bT,av]];exact aqI ⟨U,cA,cM,cV,dp,dW,fg,fg,lI,mn,nr,ou,vD,xC,l,ad⟩
           | false=>
            cases xD:((↑(x.outs.map ba).length:Int)==2) with
            | true=>
             obtain⟨arJ,FX⟩:=cS (xs:=x.outs) (i:=0) (by grind[av,aK]);obtain⟨arK,FY⟩:=cS (xs:=x.outs) (i:=1) (by grind[av,aK]);cases EO:(arJ==arK) with
             | true=>
              rw[show aQ x=false from by grind[aQ,bQ,bT,av]];exact aqJ ⟨U,cA,cM,cV,dp,dW,fg,fg,lI,mn,nr,ou,xD,(by grind[av,aK]),(by grind[av,aK]),(bK ba FX),(by grind[av,aK]),(by grind[av,aK]),(bK ba FY),EO,ad⟩
             | false=>
              rcases gw x ao with⟨cz,l⟩ | ⟨cz,l⟩
              ·skip
               rw[show aQ x=false from by grind[aQ,bQ,bT,av]];exact aqK ⟨U,cA,cM,cV,dp,dW,fg,fg,lI,mn,nr,ou,xD,(by grind[av,aK]),(by grind[av,aK]),(bK ba FX),(by grind[av,aK]),(by grind[av,aK]),(bK ba FY),EO,l,ad⟩
              skip
              rw[show aQ x=true from by grind[aQ,bQ,bT,av]];exact aqL ⟨U,cA,cM,cV,dp,dW,fg,fg,lI,mn,nr,ou,xD,(by grind[av,aK]),(by grind[av,aK]),(bK ba FX),(by grind[av,aK]),(by grind[av,aK]),(bK ba FY),EO,l,ad⟩
            | false=>
             rcases gw x ao with⟨cz,l⟩ | ⟨cz,l⟩
             ·skip
              rw[show aQ x=false from by grind[aQ,bQ,bT,av]];exact aqM ⟨U,cA,cM,cV,dp,dW,fg,fg,lI,mn,nr,ou,xD,l,ad⟩
             skip
             rw[show aQ x=true from by grind[aQ,bQ,bT,av]];exact aqN ⟨U,cA,cM,cV,dp,dW,fg,fg,lI,mn,nr,ou,xD,l,ad⟩
       | false=>
        cases kz:(x.kind==8) with
        | true=>
         cases qH:(x.a != 0) with
         | true=>
          rw[show aQ x=false from by grind[aQ,bQ,bT,av]];exact aqO ⟨U,cA,cM,cV,dp,dW,fg,kz,qH,ad⟩
         | false=>
          cases r8:(x.b != 0) with
          | true=>
           rw[show aQ x=false from by grind[aQ,bQ,bT,av]];exact aqP ⟨U,cA,cM,cV,dp,dW,fg,kz,qH,r8,ad⟩
          | false=>
           cases tE:(decide ((↑(x.outs.map ba).length:Int)>2)) with
           | true=>
            rw[show aQ x=false from by grind[aQ,bQ,bT,av]];exact aqQ ⟨U,cA,cM,cV,dp,dW,fg,kz,qH,r8,tE,ad⟩
           | false=>
            cases vx:(decide ((↑(x.outs.map ba).length:Int)>0)) with
            | true=>
             rw[show aQ x=false from by grind[aQ,bQ,bT,av]];exact aqR ⟨U,cA,cM,cV,dp,dW,fg,kz,qH,r8,tE,kz,vx,ad⟩
            | false=>
             cases xt:((↑(x.outs.map ba).length:Int)==2) with
             | true=>
              obtain⟨arL,FZ⟩:=cS (xs:=x.outs) (i:=0) (by grind[av,aK]);obtain⟨arM,F0⟩:=cS (xs:=x.outs) (i:=1) (by grind[av,aK]);cases EP:(arL==arM) with
              | true=>
               rw[show aQ x=false from by grind[aQ,bQ,bT,av]];exact aqi ⟨U,cA,cM,cV,dp,dW,fg,kz,qH,r8,tE,kz,vx,xt,(by grind[av,aK]),(by grind[av,aK]),(bK ba FZ),(by grind[av,aK]),(by grind[av,aK]),(bK ba F0),EP,ad⟩
              | false=>
               rcases gw x ao with⟨cz,l⟩ | ⟨cz,l⟩
               ·skip
                rw[show aQ x=false from by grind[aQ,bQ,bT,av]];exact aqj ⟨U,cA,cM,cV,dp,dW,fg,kz,qH,r8,tE,kz,vx,xt,(by grind[av,aK]),(by grind[av,aK]),(bK ba FZ),(by grind[av,aK]),(by grind[av,aK]),(bK ba F0),EP,l,ad⟩
               skip
               rw[show aQ x=true from by grind[aQ,bQ,bT,av]];exact aqk ⟨U,cA,cM,cV,dp,dW,fg,kz,qH,r8,tE,kz,vx,xt,(by grind[av,aK]),(by grind[av,aK]),(bK ba FZ),(by grind[av,aK]),(by grind[av,aK]),(bK ba F0),EP,l,ad⟩
             | false=>
              rcases gw x ao with⟨cz,l⟩ | ⟨cz,l⟩
              ·skip
               rw[show aQ x=false from by grind[aQ,bQ,bT,av]];exact aql ⟨U,cA,cM,cV,dp,dW,fg,kz,qH,r8,tE,kz,vx,xt,l,ad⟩
              skip
              rw[show aQ x=true from by grind[aQ,bQ,bT,av]];exact aqm ⟨U,cA,cM,cV,dp,dW,fg,kz,qH,r8,tE,kz,vx,xt,l,ad⟩
        | false=>
         rw[show aQ x=false from by grind[aQ,bQ,bT,av]];exact aqn ⟨U,cA,cM,cV,dp,dW,fg,kz,ad⟩
end Go.Proofs.YthfnndblgbjniaaGreatDoor
namespace Go.Proofs.YthfnndblgbjniaaGreatDoor
open Go.Sx Go.RowKit Go.Proofs.Tryz
def hq(g:b1)(k:Int):Int:=match g.nodes[k.toNat]? with | some y=>y.kind | none=>0
def fy(g:b1)(i:Nat)(x:Node)(k:Int):Bool:=
 decide ((g.nodes.length:Int)<=k)||(if x.kind=7 then decide ((i:Int)<k)||(hq g k != 5&&hq g k != 6) else decide (k<=i))
def ia(g:b1)(i:Nat)(x:Node):Bool:=!aQ x||(decide (x.kind=1) != decide ((i:Int)=0))||x.outs.any (fy g i x)
def ei(g:b1):Bool:=av g.nodes.length 1 8&&av g.aB 1 4&&av g.cap 1 4&&!(anyI (ia g) 0 g.nodes)
def dJ(x:Node)(k v:Int):Int×Int×Bool:=
 if aQ x&&fQ k v then
  if x.kind=2 then (k,less (v+x.a) 999,true)
  else if x.kind=4 then ((k+x.a).tmod 100,v,true)
  else if x.kind=3 then (k,v,k.tmod x.a==x.b)
  else (k,v,x.kind != 8)
 else (k,v,false)
theorem JE{l:List Int}(h:lS l=true){k:Int}(bc:k∈l):av k 0 7=true:=by
 grind[lS,hT,hv]
theorem P1(g:b1)(ay:g.sz<=8388608)(i:Nat)(hi:i<8)(x:Node)(ao:g.nodes[i]?=some x)(cG:aQ x=true)(j:Nat)(k:Int)(bc:x.outs[j]?=some k)(r:Bool)(aI:fy g i x k=r):fJ prog (aq f138 1) (hn i (g.nodes.map Node.e) g.aB g.cap x.kind x.a x.b (x.outs.map ba) (j:Int)) (bif r then .ret else .normal) (bif r then pX false else hn i (g.nodes.map Node.e) g.aB g.cap x.kind x.a x.b (x.outs.map ba) ((j+1:Nat):Int)):=by
 have bm:=aZ bc;have au:x.outs.length<=2:=by grind[aQ]
 have mq:av k 0 7=true:=JE (by grind[aQ]) (ee bc);have dI:x.outs[(j:Int).toNat]?=some k:=by grind
 have eb:decide ((j:Int)<(↑(x.outs.map ba).length:Int))=true:=b3 bm;rcases c3 (decide (k>=(↑(g.nodes.map Node.e).length:Int))) with U | U
 ·skip
  obtain rfl:r=true:=by grind[fy,hq,av]
  exact ant ⟨eb,(by grind),(by grind),(bK ba dI),U,ad⟩
 skip
 rcases c3 (x.kind != 7) with aa | aa
 ·skip
  rcases c3 (decide (k<=(i:Int))) with aA | aA
  ·skip
   obtain rfl:r=true:=by grind[fy,hq,av]
   exact anu ⟨eb,(by grind),(by grind),(bK ba dI),U,aa,aA,ad⟩
  skip
  obtain⟨UN,x9⟩:=look (xs:=g.nodes) (i:=k) (by grind) (by grind);rcases c3 (x.kind==7) with a8 | a8
  ·skip
   rcases c3 (decide (k>(i:Int))) with bG | bG
   ·skip
    obtain rfl:r=true:=by rw[<-aI];grind[fy,hq,av]
    exact anv ⟨eb,(by grind[av,aK,aQ]),(by grind[av,aK,aQ]),(bK ba dI),U,aa,aA,(by grind[av,aK,aQ]),(by grind[av,aK,aQ]),(bK Node.e x9),a8,bG,ad⟩
   skip
   rcases c3 (UN.kind != 5) with b9 | b9
   ·skip
    rcases c3 (UN.kind != 6) with da | da
    ·skip
     obtain rfl:r=true:=by rw[<-aI];grind[fy,hq,av]
     exact anw ⟨eb,(by grind[av,aK,aQ]),(by grind[av,aK,aQ]),(bK ba dI),U,aa,aA,(by grind[av,aK,aQ]),(by grind[av,aK,aQ]),(bK Node.e x9),a8,bG,b9,da,ad⟩
    skip
    obtain rfl:r=false:=by rw[<-aI];grind[fy,hq,av]
    exact anx ⟨eb,(by grind[av,aK,aQ]),(by grind[av,aK,aQ]),(bK ba dI),U,aa,aA,(by grind[av,aK,aQ]),(by grind[av,aK,aQ]),(bK Node.e x9),a8,bG,b9,da,(by grind[av,aK,aQ]),ad⟩
   skip
   obtain rfl:r=false:=by rw[<-aI];grind[fy,hq,av]
   exact anz ⟨eb,(by grind[av,aK,aQ]),(by grind[av,aK,aQ]),(bK ba dI),U,aa,aA,(by grind[av,aK,aQ]),(by grind[av,aK,aQ]),(bK Node.e x9),a8,bG,b9,(by grind[av,aK,aQ]),ad⟩
  skip
  obtain rfl:r=false:=by grind[fy,hq,av]
  exact anA ⟨eb,(by grind),(by grind),(bK ba dI),U,aa,aA,(by grind),(by grind),(bK Node.e x9),a8,(by grind[av,aK,aQ]),ad⟩
 skip
 obtain⟨D1,q3⟩:=look (xs:=g.nodes) (i:=k) (by grind[av,aK,aQ]) (by grind);rcases c3 (x.kind==7) with dw | dw
 ·skip
  rcases c3 (decide (k>(i:Int))) with hg | hg
  ·skip
   obtain rfl:r=true:=by grind[fy,hq,av]
   exact anB ⟨eb,(by grind),(by grind),(bK ba dI),U,aa,(by grind),(by grind),(bK Node.e q3),dw,hg,ad⟩
  skip
  rcases c3 (D1.kind != 5) with js | js
  ·skip
   rcases c3 (D1.kind != 6) with r9 | r9
   ·skip
    obtain rfl:r=true:=by grind[fy,hq,av]
    exact anC ⟨eb,(by grind),(by grind),(bK ba dI),U,aa,(by grind[av,aK,aQ]),(by grind),(bK Node.e q3),dw,hg,js,r9,ad⟩
   skip
   obtain rfl:r=false:=by grind[fy,hq,av]
   exact anD ⟨eb,(by grind),(by grind),(bK ba dI),U,aa,(by grind[av,aK,aQ]),(by grind),(bK Node.e q3),dw,hg,js,r9,(by grind[av,aK,aQ]),ad⟩
  skip
  obtain rfl:r=false:=by grind[fy,hq,av]
  exact anE ⟨eb,(by grind),(by grind),(bK ba dI),U,aa,(by grind[av,aK,aQ]),(by grind),(bK Node.e q3),dw,hg,js,(by grind[av,aK,aQ]),ad⟩
 skip
 obtain rfl:r=false:=by rw[<-aI];grind[fy,hq,av]
 exact anF ⟨eb,(by grind[av,aK,aQ]),(by grind[av,aK,aQ]),(bK ba dI),U,aa,(by grind[av,aK,aQ]),(by grind[av,aK,aQ]),(bK Node.e q3),dw,(by grind[av,aK,aQ]),ad⟩
theorem P2(g:b1)(ay:g.sz<=8388608)(i:Nat)(hi:i<8)(x:Node)(ao:g.nodes[i]?=some x)(cG:aQ x=true)(j:Nat)(k:Int)(bc:x.outs[j]?=some k)(r:Bool)(aI:fy g i x k=r):fJ prog (aq f78 1) (ho (g.nodes.map Node.e) i (g.nodes.map Node.e) g.aB g.cap x.kind x.a x.b (x.outs.map ba) (j:Int)) (bif r then .ret else .normal) (bif r then pY false else ho (g.nodes.map Node.e) i (g.nodes.map Node.e) g.aB g.cap x.kind x.a x.b (x.outs.map ba) ((j+1:Nat):Int)):=by
 have bm:=aZ bc;have au:x.outs.length<=2:=by grind[aQ]
 have mq:av k 0 7=true:=JE (by grind[aQ]) (ee bc);have dI:x.outs[(j:Int).toNat]?=some k:=by grind
 have eb:decide ((j:Int)<(↑(x.outs.map ba).length:Int))=true:=b3 bm;rcases c3 (decide (k>=(↑(g.nodes.map Node.e).length:Int))) with U | U
 ·skip
  obtain rfl:r=true:=by grind[fy,hq,av]
  exact anf ⟨eb,(by grind),(by grind),(bK ba dI),U,ad⟩
 skip
 obtain⟨eU,jv⟩:=look (xs:=g.nodes) (i:=k) (by grind[av,aK,aQ]) (by grind);rcases c3 (x.kind==7) with aA | aA
 ·skip
  rcases c3 (decide (k>(i:Int))) with aO | aO
  ·skip
   obtain rfl:r=true:=by grind[fy,hq,av]
   exact ang ⟨eb,(by grind),(by grind),(bK ba dI),U,(by grind),(by grind),(bK Node.e jv),aA,aO,ad⟩
  skip
  rcases c3 (eU.kind != 5) with a8 | a8
  ·skip
   rcases c3 (eU.kind != 6) with bG | bG
   ·skip
    obtain rfl:r=true:=by grind[fy,hq,av]
    exact anh ⟨eb,(by grind),(by grind),(bK ba dI),U,(by grind[av,aK,aQ]),(by grind),(bK Node.e jv),aA,aO,a8,bG,ad⟩
   skip
   rcases c3 (x.kind != 7) with b9 | b9
   ·skip
    rcases c3 (decide (k<=(i:Int))) with da | da
    ·skip
     obtain rfl:r=true:=by rw[<-aI];grind[fy,hq,av]
     exact ani ⟨eb,(by grind[av,aK,aQ]),(by grind[av,aK,aQ]),(bK ba dI),U,(by grind[av,aK,aQ]),(by grind[av,aK,aQ]),(bK Node.e jv),aA,aO,a8,bG,b9,da,ad⟩
    skip
    obtain rfl:r=false:=by rw[<-aI];grind[fy,hq,av]
    exact anj ⟨eb,(by grind[av,aK,aQ]),(by grind[av,aK,aQ]),(bK ba dI),U,(by grind[av,aK,aQ]),(by grind[av,aK,aQ]),(bK Node.e jv),aA,aO,a8,bG,b9,da,(by grind[av,aK,aQ]),ad⟩
   skip
   obtain rfl:r=false:=by grind[fy,hq,av]
   exact ank ⟨eb,(by grind),(by grind),(bK ba dI),U,(by grind[av,aK,aQ]),(by grind),(bK Node.e jv),aA,aO,a8,bG,b9,(by grind[av,aK,aQ]),ad⟩
  skip
  rcases c3 (x.kind != 7) with dZ | dZ
  ·skip
   rcases c3 (decide (k<=(i:Int))) with dw | dw
   ·skip
    obtain rfl:r=true:=by rw[<-aI];grind[fy,hq,av]
    exact anl ⟨eb,(by grind[av,aK,aQ]),(by grind[av,aK,aQ]),(bK ba dI),U,(by grind[av,aK,aQ]),(by grind[av,aK,aQ]),(bK Node.e jv),aA,aO,a8,dZ,dw,ad⟩
   skip
   obtain rfl:r=false:=by rw[<-aI];grind[fy,hq,av]
   exact anm ⟨eb,(by grind[av,aK,aQ]),(by grind[av,aK,aQ]),(bK ba dI),U,(by grind[av,aK,aQ]),(by grind[av,aK,aQ]),(bK Node.e jv),aA,aO,a8,dZ,dw,(by grind[av,aK,aQ]),ad⟩
  skip
  obtain rfl:r=false:=by grind[fy,hq,av]
  exact ann ⟨eb,(by grind),(by grind),(bK ba dI),U,(by grind[av,aK,aQ]),(by grind),(bK Node.e jv),aA,aO,a8,dZ,(by grind[av,aK,aQ]),ad⟩
 skip
 rcases c3 (x.kind != 7) with hg | hg
 ·skip
  rcases c3 (decide (k<=(i:Int))) with js | js
  ·skip
   obtain rfl:r=true:=by grind[fy,hq,av]
   exact ano ⟨eb,(by grind),(by grind),(bK ba dI),U,(by grind[av,aK,aQ]),(by grind),(bK Node.e jv),aA,hg,js,ad⟩
  skip
  obtain rfl:r=false:=by grind[fy,hq,av]
  exact aoR ⟨eb,(by grind),(by grind),(bK ba dI),U,(by grind),(by grind),(bK Node.e jv),aA,hg,js,(by grind[av,aK,aQ]),ad⟩
 skip
 obtain rfl:r=false:=by rw[<-aI];grind[fy,hq,av]
 exact aoS ⟨eb,(by grind[av,aK,aQ]),(by grind[av,aK,aQ]),(bK ba dI),U,(by grind[av,aK,aQ]),(by grind[av,aK,aQ]),(bK Node.e jv),aA,hg,(by grind[av,aK,aQ]),ad⟩
theorem X3(g:b1)(ay:g.sz<=8388608)(i:Nat)(hi:i<8)(x:Node)(ao:g.nodes[i]?=some x)(cG:aQ x=true):
  (x.outs.any (fy g i x)=true/\c0 prog (aq f138 1) (hn i (g.nodes.map Node.e) g.aB g.cap x.kind x.a x.b (x.outs.map ba) 0) .ret (pX false))\/(x.outs.any (fy g i x)=false/\c0 prog (aq f138 1) (hn i (g.nodes.map Node.e) g.aB g.cap x.kind x.a x.b (x.outs.map ba) 0) (.exit 2) (Jy i (g.nodes.map Node.e) g.aB g.cap)):=by
 have l:=gv (P:=prog) (c:=(aq f138 1)) x.outs (fy g i x) (fun j=>hn i (g.nodes.map Node.e) g.aB g.cap x.kind x.a x.b (x.outs.map ba) j) (X:=fun _ _=>pX false) eJ (cI 2)
  (fun j k bc h=>P1 g ay i hi x ao cG j k bc false h)
  (fun j k bc h=>P1 g ay i hi x ao cG j k bc true h)
  (anG ⟨dv,ad⟩)
 grind
theorem X4(g:b1)(ay:g.sz<=8388608)(i:Nat)(hi:i<8)(x:Node)(ao:g.nodes[i]?=some x)(cG:aQ x=true):
  (x.outs.any (fy g i x)=true/\c0 prog (aq f78 1) (ho (g.nodes.map Node.e) i (g.nodes.map Node.e) g.aB g.cap x.kind x.a x.b (x.outs.map ba) 0) .ret (pY false))\/(x.outs.any (fy g i x)=false/\c0 prog (aq f78 1) (ho (g.nodes.map Node.e) i (g.nodes.map Node.e) g.aB g.cap x.kind x.a x.b (x.outs.map ba) 0) (.exit 2) (JA (g.nodes.map Node.e) i (g.nodes.map Node.e) g.aB g.cap)):=by
 have l:=gv (P:=prog) (c:=(aq f78 1)) x.outs (fy g i x) (fun j=>ho (g.nodes.map Node.e) i (g.nodes.map Node.e) g.aB g.cap x.kind x.a x.b (x.outs.map ba) j) (X:=fun _ _=>pY false) eJ (cI 2)
  (fun j k bc h=>P2 g ay i hi x ao cG j k bc false h)
  (fun j k bc h=>P2 g ay i hi x ao cG j k bc true h)
  (aoT ⟨dv,ad⟩)
 grind
theorem P3(g:b1)(ay:g.sz<=8388608)(i:Nat)(hi:i<8)(x:Node)(ao:g.nodes[i]?=some x)(r:Bool)(aI:ia g i x=r):fJ prog (aq f138 0) (mO ((i:Nat):Int) (g.nodes.map Node.e) g.aB g.cap) (bif r then .ret else .normal) (bif r then uh false else mO ((i+1:Nat):Int) (g.nodes.map Node.e) g.aB g.cap):=by
 have bm:=aZ ao;have a6:=b1.Bw ay (ee ao);have dI:g.nodes[(i:Int).toNat]?=some x:=by grind
 have eb:decide ((i:Int)<(↑(g.nodes.map Node.e).length:Int))=true:=b3 bm;have bX:=P0 x (by grind);rcases c3 (aQ x) with aa | aa
 ·skip
  rcases c3 ((x.kind==1)==((i:Int)==0)) with aA | aA
  ·skip
   rcases X3 g ay i hi x ao (by grind) with⟨cz,l⟩ | ⟨cz,l⟩
   ·skip
    obtain rfl:r=true:=by grind[ia]
    exact anH ⟨eb,(by grind),(by grind),(bK Node.e dI),bX,(by rw[aa];rfl),(by rw[aA];rfl),l,ad⟩
   skip
   obtain rfl:r=false:=by grind[ia]
   exact anI ⟨eb,(by grind),(by grind),(bK Node.e dI),bX,(by rw[aa];rfl),(by rw[aA];rfl),l,(by grind[av,aK,aQ]),ad⟩
  skip
  obtain rfl:r=true:=by grind[ia]
  exact anr ⟨eb,(by grind),(by grind),(bK Node.e dI),bX,(by rw[aa];rfl),(by rw[aA];rfl),ad⟩
 skip
 obtain rfl:r=true:=by grind[ia]
 exact anq ⟨eb,(by grind),(by grind),(bK Node.e dI),bX,(by rw[aa];rfl),ad⟩
theorem P4(g:b1)(ay:g.sz<=8388608)(i:Nat)(hi:i<8)(x:Node)(ao:g.nodes[i]?=some x)(r:Bool)(aI:ia g i x=r):fJ prog (aq f78 0) (mP (g.nodes.map Node.e) ((i:Nat):Int) (g.nodes.map Node.e) g.aB g.cap) (bif r then .ret else .normal) (bif r then ui false else mP (g.nodes.map Node.e) ((i+1:Nat):Int) (g.nodes.map Node.e) g.aB g.cap):=by
 have bm:=aZ ao;have a6:=b1.Bw ay (ee ao);have dI:g.nodes[(i:Int).toNat]?=some x:=by grind
 have eb:decide ((i:Int)<(↑(g.nodes.map Node.e).length:Int))=true:=b3 bm;have bX:=aqr x (by grind);rcases c3 (aQ x) with aa | aa
 ·skip
  rcases c3 ((x.kind==1)==((i:Int)==0)) with aA | aA
  ·skip
   rcases X4 g ay i hi x ao (by grind) with⟨cz,l⟩ | ⟨cz,l⟩
   ·skip
    obtain rfl:r=true:=by grind[ia]
    exact aoU ⟨eb,(by grind),(by grind),(bK Node.e dI),bX,(by rw[aa];rfl),(by rw[aA];rfl),l,ad⟩
   skip
   obtain rfl:r=false:=by grind[ia]
   exact aoV ⟨eb,(by grind),(by grind),(bK Node.e dI),bX,(by rw[aa];rfl),(by rw[aA];rfl),l,(by grind[av,aK,aQ]),ad⟩
  skip
  obtain rfl:r=true:=by grind[ia]
  exact anQ ⟨eb,(by grind),(by grind),(bK Node.e dI),bX,(by rw[aa];rfl),(by rw[aA];rfl),ad⟩
 skip
 obtain rfl:r=true:=by grind[ia]
 exact anP ⟨eb,(by grind),(by grind),(bK Node.e dI),bX,(by rw[aa];rfl),ad⟩
theorem X5(g:b1)(ay:g.sz<=8388608)(da:g.nodes.length<=8):
  (anyI (ia g) 0 g.nodes=true/\c0 prog (aq f138 0) (mO 0 (g.nodes.map Node.e) g.aB g.cap) .ret (uh false))\/(anyI (ia g) 0 g.nodes=false/\c0 prog (aq f138 0) (mO 0 (g.nodes.map Node.e) g.aB g.cap) (.exit 0) Jz):=by
 have l:=sL (P:=prog) (c:=(aq f138 0)) g.nodes (ia g) (fun i=>mO (i:Nat) (g.nodes.map Node.e) g.aB g.cap) (X:=uh false) eJ (cI 0)
  (fun i x ao h=>P3 g ay i (by grind) x ao false h)
  (fun i x ao h=>P3 g ay i (by grind) x ao true h)
  (anJ ⟨dv,ad⟩)
 grind
theorem X6(g:b1)(ay:g.sz<=8388608)(da:g.nodes.length<=8):
  (anyI (ia g) 0 g.nodes=true/\c0 prog (aq f78 0) (mP (g.nodes.map Node.e) 0 (g.nodes.map Node.e) g.aB g.cap) .ret (ui false))\/(anyI (ia g) 0 g.nodes=false/\c0 prog (aq f78 0) (mP (g.nodes.map Node.e) 0 (g.nodes.map Node.e) g.aB g.cap) (.exit 0) JB):=by
 have l:=sL (P:=prog) (c:=(aq f78 0)) g.nodes (ia g) (fun i=>mP (g.nodes.map Node.e) (i:Nat) (g.nodes.map Node.e) g.aB g.cap) (X:=ui false) eJ (cI 0)
  (fun i x ao h=>P4 g ay i (by grind) x ao false h)
  (fun i x ao h=>P4 g ay i (by grind) x ao true h)
  (aoW ⟨dv,ad⟩)
 grind
theorem wL(g:b1)(ay:g.sz<=8388608):ax 138 [.agg g.e] [.one (B (ei g))]:=by
 have bX:=hA (↑(g.nodes.map Node.e).length:Int) 1 8;rcases c3 (av (↑(g.nodes.map Node.e).length:Int) 1 8) with aa | aa
 ·skip
  have cR:=hA g.aB 1 4;rcases c3 (av g.aB 1 4) with aO | aO
  ·skip
   have hx:=hA g.cap 1 4;rcases c3 (av g.cap 1 4) with bG | bG
   ·skip
    rcases X5 g ay (by grind[av]) with⟨cz,l⟩ | ⟨cz,l⟩
    ·skip
     rw[show ei g=false from by grind[ei]];exact anK ⟨bX,(by rw[aa];rfl),cR,(by rw[aO];rfl),hx,(by rw[bG];rfl),l,ad⟩
    skip
    rw[show ei g=true from by grind[ei]];exact anL ⟨bX,(by rw[aa];rfl),cR,(by rw[aO];rfl),hx,(by rw[bG];rfl),l,ad⟩
   skip
   rw[show ei g=false from by grind[ei]];exact anp ⟨bX,(by rw[aa];rfl),cR,(by rw[aO];rfl),hx,(by rw[bG];rfl),ad⟩
  skip
  rw[show ei g=false from by grind[ei]];exact aog ⟨bX,(by rw[aa];rfl),cR,(by rw[aO];rfl),ad⟩
 skip
 rw[show ei g=false from by grind[ei]];exact aof ⟨bX,(by rw[aa];rfl),ad⟩
theorem X7(g:b1)(ay:g.sz<=8388608):ax 78 [.agg g.e] [.one (B (ei g))]:=by
 have bX:=jA (↑(g.nodes.map Node.e).length:Int) 1 8;rcases c3 (av (↑(g.nodes.map Node.e).length:Int) 1 8) with aa | aa
 ·skip
  have cR:=jA g.aB 1 4;rcases c3 (av g.aB 1 4) with aO | aO
  ·skip
   have hx:=jA g.cap 1 4;rcases c3 (av g.cap 1 4) with bG | bG
   ·skip
    rcases X6 g ay (by grind[av]) with⟨cz,l⟩ | ⟨cz,l⟩
    ·skip
     rw[show ei g=false from by grind[ei]];exact aoX ⟨bX,(by rw[aa];rfl),cR,(by rw[aO];rfl),hx,(by rw[bG];rfl),l,ad⟩
    skip
    rw[show ei g=true from by grind[ei]];exact aoY ⟨bX,(by rw[aa];rfl),cR,(by rw[aO];rfl),hx,(by rw[bG];rfl),l,ad⟩
   skip
   rw[show ei g=false from by grind[ei]];exact anO ⟨bX,(by rw[aa];rfl),cR,(by rw[aO];rfl),hx,(by rw[bG];rfl),ad⟩
  skip
  rw[show ei g=false from by grind[ei]];exact anN ⟨bX,(by rw[aa];rfl),cR,(by rw[aO];rfl),ad⟩
 skip
 rw[show ei g=false from by grind[ei]];exact anM ⟨bX,(by rw[aa];rfl),ad⟩
theorem X8(x:Node)(k v:Int)(ao:x.outs.length<=8388608):ax 195 [.agg x.e,.one (I k),.one (I v)] [.one (I ((dJ x k v).1)),.one (I ((dJ x k v).2.1)),.one (B ((dJ x k v).2.2))]:=by
 have bX:=P0 x (by grind);rcases c3 (aQ x) with aa | aa
 ·skip
  have cR:=hA k 0 99;rcases c3 (av k 0 99) with aO | aO
  ·skip
   have hx:=hA v 0 999;rcases c3 (av v 0 999) with bG | bG
   ·skip
    rcases c3 (x.kind==2) with b9 | b9
    ·skip
     have qx:=aqq (v+x.a) 999;rw[show dJ x k v=(k,less (v+x.a) 999,true) from by grind[dJ,fQ,less,aQ,bQ]];exact apg ⟨bX,(by rw[aa];rfl),cR,(by rw[aO];rfl),hx,(by rw[bG];rfl),b9,(by grind[aQ,bQ,av,aK,fQ]),qx,ad⟩
    skip
    rcases c3 (x.kind==4) with dZ | dZ
    ·skip
     rw[show dJ x k v=((k+x.a).tmod 100,v,true) from by grind[dJ,fQ,less,aQ,bQ]];exact aor ⟨bX,(by rw[aa];rfl),cR,(by rw[aO];rfl),hx,(by rw[bG];rfl),b9,dZ,(by grind[aQ,bQ,av,aK,fQ]),(by grind),ad⟩
    skip
    rcases c3 (x.kind==3) with dw | dw
    ·skip
     rw[show dJ x k v=(k,v,k.tmod x.a==x.b) from by grind[dJ,fQ,less,aQ,bQ]];exact aos ⟨bX,(by rw[aa];rfl),cR,(by rw[aO];rfl),hx,(by rw[bG];rfl),b9,dZ,dw,(by grind[aQ,bQ,av,aK,fQ]),ad⟩
    skip
    rw[show dJ x k v=(k,v,x.kind != 8) from by grind[dJ,fQ,less,aQ,bQ]];exact aot ⟨bX,(by rw[aa];rfl),cR,(by rw[aO];rfl),hx,(by rw[bG];rfl),b9,dZ,dw,ad⟩
   skip
   rw[show dJ x k v=(k,v,false) from by grind[dJ,fQ,less,aQ,bQ]];exact apf ⟨bX,(by rw[aa];rfl),cR,(by rw[aO];rfl),hx,(by rw[bG];rfl),ad⟩
  skip
  rw[show dJ x k v=(k,v,false) from by grind[dJ,fQ,less,aQ,bQ]];exact ape ⟨bX,(by rw[aa];rfl),cR,(by rw[aO];rfl),ad⟩
 skip
 rw[show dJ x k v=(k,v,false) from by grind[dJ,fQ,less,aQ,bQ]];exact apd ⟨bX,(by rw[aa];rfl),ad⟩
def fZ(a b:Cell):Bool:=a.op==b.op&&a.bh==b.bh&&a.key==b.key
def kl(op cU key:Int)(s:Int×Bool)(a:Cell):Int×Bool:=if a.op=op/\a.bh=cU/\a.key=key/\(s.2=false\/a.val<s.1) then (a.val,true) else s
def sQ(xs:List Cell)(op cU key:Int):Int×Bool:=xs.foldl (kl op cU key) (0,false)
theorem X9(xs:List Cell)(au:xs.length<=8388608)(op cU key m:Int)(f:Bool)(i:Nat)(a:Cell)(ai:xs[i]?=some a):fJ prog (aq f216 0) (kj (xs.map Cell.e) op cU key i f m) .normal (kj (xs.map Cell.e) op cU key ((i+1:Nat):Int) (kl op cU key (m,f) a).2 (kl op cU key (m,f) a).1):=by
 have bm:=aZ ai;have dI:xs[(i:Int).toNat]?=some a:=by grind
 have eb:decide ((i:Int)<(↑(xs.map Cell.e).length:Int))=true:=b3 bm;rcases c3 (a.op==op) with U | U
 ·skip
  rcases c3 (a.bh==cU) with aa | aa
  ·skip
   rcases c3 (a.key==key) with aA | aA
   ·skip
    rcases c3 (f) with aO | aO
    ·skip
     rcases c3 (decide (a.val<m)) with a8 | a8
     ·skip
      rw[show kl op cU key (m,f) a=(a.val,true) from by grind[kl,fZ]];exact amK ⟨eb,(by grind[aK]),(by grind[aK]),(bK Cell.e dI),U,aa,aA,(by rw[aO];rfl),a8,(by grind[aK]),ad⟩
     skip
     rw[show kl op cU key (m,f) a=(m,f) from by grind[kl,fZ]];exact amL ⟨eb,(by grind[aK]),(by grind[aK]),(bK Cell.e dI),U,aa,aA,(by rw[aO];rfl),a8,(by grind[aK]),ad⟩
    skip
    rw[show kl op cU key (m,f) a=(a.val,true) from by grind[kl,fZ]];exact amJ ⟨eb,(by grind[aK]),(by grind[aK]),(bK Cell.e dI),U,aa,aA,(by rw[aO];rfl),(by grind[aK]),ad⟩
   skip
   rw[show kl op cU key (m,f) a=(m,f) from by grind[kl,fZ]];exact amM ⟨eb,(by grind[aK]),(by grind[aK]),(bK Cell.e dI),U,aa,aA,(by grind[aK]),ad⟩
  skip
  rw[show kl op cU key (m,f) a=(m,f) from by grind[kl,fZ]];exact amN ⟨eb,(by grind[aK]),(by grind[aK]),(bK Cell.e dI),U,aa,(by grind[aK]),ad⟩
 skip
 rw[show kl op cU key (m,f) a=(m,f) from by grind[kl,fZ]];exact ame ⟨eb,(by grind[aK]),(by grind[aK]),(bK Cell.e dI),U,(by grind[aK]),ad⟩
theorem P5(xs:List Cell)(op cU key:Int)(au:xs.length<=8388608):ax 216 [.one (.J 4 (xs.map Cell.e)),.one (I op),.one (I cU),.one (I key)] [.one (I (sQ xs op cU key).1),.one (B (sQ xs op cU key).2)]:=by
 have l:=eu (P:=prog) (c:=(aq f216 0)) (cI 0) xs.length (fun i:Nat=>kj (xs.map Cell.e) op cU key i (uT (kl op cU key) (0,false) xs i).2 (uT (kl op cU key) (0,false) xs i).1) (fun i hi=>by
  obtain⟨a,ai⟩:=cS hi;grind[ajo,X9]) (amf ⟨dv,ad⟩)
 rw[ajp]at l;exact amg ⟨l,ad⟩
