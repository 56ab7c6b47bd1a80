import Derived.Test.YtdchjefneblpgaaGreatQ2
import Derived.Test.YtdchjefneblpgaaGreatGQ
import Derived.Test.YtdchjefneblpgaaGreatGR
set_option linter.unusedVariables false
set_option linter.unusedSimpArgs false
namespace Go.Proofs.YtdchjefneblpgaaGreat
open Go.Sx Go.RowKit Go.Proofs.Tryz
def h3(s:hT):Bool:=ap s.a7 0 3&&ap s.dh 0 6
def fm(k v:Int):Bool:=ap k 0 99&&ap v 0 999
def eD(r:aE):Bool:=ap r.op 0 7&&h3 r.bh&&fm r.key r.val
def eS(s:hT):hT×Bool:=if h3 s&&decide (s.dh<6) then (⟨s.a7,s.dh+1⟩,true) else (s,false)
def less(a b:Int):Int:=if b<a then b else a
def bO(x:Node):Bool:=
 if x.kind=2 then ap x.a 0 999&&x.b==0
 else if x.kind=3 then ap x.a 1 10&&ap x.b 0 (IntKind.i64.wrap (x.a-1))
 else if x.kind=4 then ap x.a 0 99&&x.b==0
 else ap x.kind 1 8&&x.a==0&&x.b==0
def ot(l:List Int):Bool:=!(l.any fun k=>!ap k 0 7)
def bW(l:List Int):Bool:=decide (l.length=2/\l[0]?=l[1]?)
def aH(x:Node):Bool:=bO x&&decide (x.outs.length<=2)&&!(x.kind==8&&decide (0<x.outs.length))&&!bW x.outs&&ot x.outs
theorem look{α:Type}{xs:List α}{i:Int}(bl:0<=i)(h1:i<xs.length):∃a,xs[i.toNat]?=some a:=dm (by omega)
theorem bJ{α:Type}{xs:List α}{i:Nat}{a:α}(f:α->List D)(h:xs[i]?=some a):(xs.map f)[i]?=some (f a):=by simp[h]
theorem hP(x:Node)(aa:x.outs.length<=8388608):(ot x.outs=false/\c6 prog (av f273 0) (dL (x.outs.map ba) 0) .ret (ha false))\/(ot x.outs=true/\c6 prog (av f273 0) (dL (x.outs.map ba) 0) (.exit 1) hx):=by
 have l:=hv (P:=prog) (c:=(av f273 0)) x.outs (fun k=>!ap k 0 7) (fun i=>dL (x.outs.map ba) i) (X:=fun _ _=>ha false) fl (cL 1)
  (fun i a ad h=>atA ⟨b4 (aX ad),bH,bL (aX ad),bI ba ad,lL a 0 7,h,du (aX ad) aa,ae⟩)
  (fun i a ad h=>atz ⟨b4 (aX ad),bH,bL (aX ad),bI ba ad,lL a 0 7,h,ae⟩)
  (atB ⟨ec,ae⟩)
 unfold ot;rcases l with⟨_,_,h1,U⟩ | ⟨i,a,_,_,_,_,h1,U⟩
 ·exact .inr ⟨by rw[h1];rfl,U⟩
 exact .inl ⟨by rw[h1];rfl,U⟩
theorem vf(x:Node)(aa:x.outs.length<=2):((ot x.outs&&!bW x.outs)=false/\c6 prog (av f243 0) (iA x.kind x.a x.b (x.outs.map ba) 0) .ret (rp false))\/((ot x.outs&&!bW x.outs)=true/\c6 prog (av f243 0) (iA x.kind x.a x.b (x.outs.map ba) 0) (.exit 1) sw):=by
 obtain⟨Qa,a,b,outs⟩:=x;have cl:=fun k=>jl k 0 7
 match outs,aa with
 | [],_=>exact .inr ⟨rfl,.last (cL 1) (My ⟨rfl,ae⟩)⟩
 | [k],_=>
  cases h1:ap k 0 7 with
  | false=>exact .inl ⟨by simp[ot,h1],.last fl (Mx ⟨rfl,by omega,by simp,rfl,cl k,by rw[h1];rfl,ae⟩)⟩
  | true=>
   refine .inr ⟨by simp[ot,bW,h1],.more (TD ⟨rfl,by omega,by simp,rfl,cl k,by rw[h1];rfl,rfl,⟨by omega,by omega⟩,ae⟩) (.last (cL 1) (My ⟨rfl,ae⟩))⟩
 | [k,m],_=>
  cases h1:ap k 0 7 with
  | false=>exact .inl ⟨by simp[ot,h1],.last fl (Mx ⟨rfl,by omega,by simp,rfl,cl k,by rw[h1];rfl,ae⟩)⟩
  | true=>
   have first:gA prog (av f243 0) (iA Qa a b ([k,m].map ba) 0) .normal (iA Qa a b ([k,m].map ba) (0+1)):=TD ⟨rfl,by omega,by simp,rfl,cl k,by rw[h1];rfl,rfl,⟨by omega,by omega⟩,ae⟩
   cases U:ap m 0 7 with
   | false=>exact .inl ⟨by simp[ot,h1,U],.more first (.last fl (Mx ⟨rfl,by omega,by simp,rfl,cl m,by rw[U];rfl,ae⟩))⟩
   | true=>
    cases ax:(k==m) with
    | true=>exact .inl ⟨by simp[ot,bW,h1,U]at ax ⊢;exact ax,.more first (.last fl (atN ⟨rfl,by omega,by simp,rfl,cl m,by rw[U];rfl,rfl,by omega,by simp,rfl,by omega,by simp,rfl,ax,ae⟩))⟩
    | false=>exact .inr ⟨by simp[ot,bW,h1,U]at ax ⊢;exact ax,.more first (.more (atO ⟨rfl,by omega,by simp,rfl,cl m,by rw[U];rfl,rfl,by omega,by simp,rfl,by omega,by simp,rfl,ax,⟨by omega,by omega⟩,ae⟩) (.last (cL 1) (My ⟨rfl,ae⟩)))⟩
theorem TE(s:hT):aw 244 [.agg s.e] [.one (B (h3 s))]:=by
 have c1:=jl s.a7 0 3;cases U:(ap s.a7 0 3) with
 | true=>
  have cH:=jl s.dh 0 6;rw[show h3 s=ap s.dh 0 6 from by grind[h3]];exact asr ⟨c1,U,cH,ae⟩
 | false=>
  rw[show h3 s=false from by grind[h3]];exact ass ⟨c1,U,ae⟩
theorem TF(s:hT):aw 274 [.agg s.e] [.one (B (h3 s))]:=by
 have c1:=lL s.a7 0 3;cases U:(ap s.a7 0 3) with
 | true=>
  have cH:=lL s.dh 0 6;rw[show h3 s=ap s.dh 0 6 from by grind[h3]];exact ast ⟨c1,U,cH,ae⟩
 | false=>
  rw[show h3 s=false from by grind[h3]];exact asu ⟨c1,U,ae⟩
theorem TG(k v:Int):aw 275 [.one (I k),.one (I v)] [.one (B (fm k v))]:=by
 have c1:=lL k 0 99;cases U:(ap k 0 99) with
 | true=>
  have cH:=lL v 0 999;rw[show fm k v=ap v 0 999 from by grind[fm]];exact asf ⟨c1,U,cH,ae⟩
 | false=>
  rw[show fm k v=false from by grind[fm]];exact asg ⟨c1,U,ae⟩
theorem tW(r:aE):aw 122 [.agg r.e] [.one (B (eD r))]:=by
 have c1:=jl r.op 0 7;cases U:(ap r.op 0 7) with
 | true=>
  have cH:=TE r.bh;cases aF:(h3 r.bh) with
  | true=>
   have gY:=jl r.key 0 99;cases bb:(ap r.key 0 99) with
   | true=>
    have HN:=jl r.val 0 999;rw[show eD r=ap r.val 0 999 from by grind[eD,fm]];exact asj ⟨c1,U,cH,aF,gY,bb,HN,ae⟩
   | false=>
    rw[show eD r=false from by grind[eD,fm]];exact asl ⟨c1,U,cH,aF,gY,bb,ae⟩
  | false=>
   rw[show eD r=false from by grind[eD,fm]];exact asm ⟨c1,U,cH,aF,ae⟩
 | false=>
  rw[show eD r=false from by grind[eD,fm]];exact asn ⟨c1,U,ae⟩
theorem vp(r:aE):aw 180 [.agg r.e] [.one (B (eD r))]:=by
 have c1:=lL r.op 0 7;cases U:(ap r.op 0 7) with
 | true=>
  have cH:=TF r.bh;cases aF:(h3 r.bh) with
  | true=>
   have gY:=TG r.key r.val;rw[show eD r=fm r.key r.val from by grind[eD,fm]];exact aso ⟨c1,U,cH,aF,gY,ae⟩
  | false=>
   rw[show eD r=false from by grind[eD,fm]];exact asp ⟨c1,U,cH,aF,ae⟩
 | false=>
  rw[show eD r=false from by grind[eD,fm]];exact asq ⟨c1,U,ae⟩
theorem zJ(s:hT):aw 270 [.agg s.e] [.agg ((eS s).1).e,.one (B ((eS s).2))]:=by
 have c1:=TE s;cases U:(h3 s) with
 | true=>
  cases ax:(decide (s.dh>=6)) with
  | true=>
   rw[show eS s=(s,false) from by grind[eS,h3,ap]];exact asw ⟨c1,(by rw[U];rfl),ax,ae⟩
  | false=>
   rw[show eS s=((⟨s.a7,s.dh+1⟩:hT),true) from by grind[eS,h3,ap]];exact asx ⟨c1,(by rw[U];rfl),ax,(by grind[h3,ap,aC]),ae⟩
 | false=>
  rw[show eS s=(s,false) from by grind[eS,h3,ap]];exact asv ⟨c1,(by rw[U];rfl),ae⟩
theorem Mz(s:hT):aw 300 [.agg s.e] [.agg ((eS s).1).e,.one (B ((eS s).2))]:=by
 have c1:=TF s;cases U:(h3 s) with
 | true=>
  cases ax:(s.dh==6) with
  | true=>
   rw[show eS s=(s,false) from by grind[eS,h3,ap]];exact asz ⟨c1,(by rw[U];rfl),ax,ae⟩
  | false=>
   rw[show eS s=((⟨s.a7,s.dh+1⟩:hT),true) from by grind[eS,h3,ap]];exact asA ⟨c1,(by rw[U];rfl),ax,(by grind[h3,ap,aC]),ae⟩
 | false=>
  rw[show eS s=(s,false) from by grind[eS,h3,ap]];exact asy ⟨c1,(by rw[U];rfl),ae⟩
theorem acd(a b:Int):aw 323 [.one (I a),.one (I b)] [.one (I (less a b))]:=by
 cases h1:(decide (b<a)) with
 | true=>
  rw[show less a b=b from by grind[less]];exact asd ⟨h1,ae⟩
 | false=>
  rw[show less a b=a from by grind[less]];exact ase ⟨h1,ae⟩
theorem TH(x:Node)(aa:x.outs.length<=8388608):aw 243 [.agg x.e] [.one (B (aH x))]:=by
 cases h1:(x.kind==2) with
 | true=>
  have c2:=jl x.a 0 999;have cH:=jl x.kind 1 8;cases aF:(ap x.kind 1 8) with
  | true=>
   cases aQ:(ap x.a 0 999) with
   | true=>
    cases bb:(x.b==0) with
    | true=>
     cases bN:(decide ((↑(x.outs.map ba).length:Int)>2)) with
     | true=>
      rw[show aH x=false from by grind[aH,bO,bW,ap]];exact atL ⟨h1,c2,cH,(by rw[aF];rfl),(by rw[aQ];rfl),(by rw[bb];rfl),bN,ae⟩
     | false=>
      cases dj:(x.kind==8) with
      | true=>
       cases ej:(decide ((↑(x.outs.map ba).length:Int)>0)) with
       | true=>
        rw[show aH x=false from by grind[aH,bO,bW,ap]];exact atM ⟨h1,c2,cH,(by rw[aF];rfl),(by rw[aQ];rfl),(by rw[bb];rfl),bN,dj,ej,ae⟩
       | false=>
        rcases vf x (by grind) with⟨cz,l⟩ | ⟨cz,l⟩
        ·skip
         rw[show aH x=false from by grind[aH,bO,bW,ap]];exact atP ⟨h1,c2,cH,(by rw[aF];rfl),(by rw[aQ];rfl),(by rw[bb];rfl),bN,dj,ej,l,ae⟩
        skip
        rw[show aH x=true from by grind[aH,bO,bW,ap]];exact atQ ⟨h1,c2,cH,(by rw[aF];rfl),(by rw[aQ];rfl),(by rw[bb];rfl),bN,dj,ej,l,ae⟩
      | false=>
       rcases vf x (by grind) with⟨cz,l⟩ | ⟨cz,l⟩
       ·skip
        rw[show aH x=false from by grind[aH,bO,bW,ap]];exact atS ⟨h1,c2,cH,(by rw[aF];rfl),(by rw[aQ];rfl),(by rw[bb];rfl),bN,dj,l,ae⟩
       skip
       rw[show aH x=true from by grind[aH,bO,bW,ap]];exact atT ⟨h1,c2,cH,(by rw[aF];rfl),(by rw[aQ];rfl),(by rw[bb];rfl),bN,dj,l,ae⟩
    | false=>
     rw[show aH x=false from by grind[aH,bO,bW,ap]];exact atK ⟨h1,c2,cH,(by rw[aF];rfl),(by rw[aQ];rfl),(by rw[bb];rfl),ae⟩
   | false=>
    rw[show aH x=false from by grind[aH,bO,bW,ap]];exact atJ ⟨h1,c2,cH,(by rw[aF];rfl),(by rw[aQ];rfl),ae⟩
  | false=>
   rw[show aH x=false from by grind[aH,bO,bW,ap]];exact atI ⟨h1,c2,cH,(by rw[aF];rfl),ae⟩
 | false=>
  cases dU:(x.kind==3) with
  | true=>
   have qz:=jl x.a 1 10;have oU:=jl x.b 0 (IntKind.i64.wrap (x.a-1));have n4:=jl x.kind 1 8;cases me:(ap x.kind 1 8) with
   | true=>
    cases kp:(ap x.a 1 10) with
    | true=>
     cases cA:(ap x.b 0 (IntKind.i64.wrap (x.a-1))) with
     | true=>
      cases rY:(decide ((↑(x.outs.map ba).length:Int)>2)) with
      | true=>
       rw[show aH x=false from by grind[aH,bO,bW,ap]];exact atX ⟨h1,dU,qz,oU,n4,(by rw[me];rfl),(by rw[kp];rfl),(by rw[cA];rfl),rY,ae⟩
      | false=>
       cases hI:(x.kind==8) with
       | true=>
        cases H9:(decide ((↑(x.outs.map ba).length:Int)>0)) with
        | true=>
         rw[show aH x=false from by grind[aH,bO,bW,ap]];exact atY ⟨h1,dU,qz,oU,n4,(by rw[me];rfl),(by rw[kp];rfl),(by rw[cA];rfl),rY,hI,H9,ae⟩
        | false=>
         rcases vf x (by grind) with⟨cz,l⟩ | ⟨cz,l⟩
         ·skip
          rw[show aH x=false from by grind[aH,bO,bW,ap]];exact atZ ⟨h1,dU,qz,oU,n4,(by rw[me];rfl),(by rw[kp];rfl),(by rw[cA];rfl),rY,hI,H9,l,ae⟩
         skip
         rw[show aH x=true from by grind[aH,bO,bW,ap]];exact at0 ⟨h1,dU,qz,oU,n4,(by rw[me];rfl),(by rw[kp];rfl),(by rw[cA];rfl),rY,hI,H9,l,ae⟩
       | false=>
        rcases vf x (by grind) with⟨cz,l⟩ | ⟨cz,l⟩
        ·skip
         rw[show aH x=false from by grind[aH,bO,bW,ap]];exact at1 ⟨h1,dU,qz,oU,n4,(by rw[me];rfl),(by rw[kp];rfl),(by rw[cA];rfl),rY,hI,l,ae⟩
        skip
        rw[show aH x=true from by grind[aH,bO,bW,ap]];exact at2 ⟨h1,dU,qz,oU,n4,(by rw[me];rfl),(by rw[kp];rfl),(by rw[cA];rfl),rY,hI,l,ae⟩
     | false=>
      rw[show aH x=false from by grind[aH,bO,bW,ap]];exact atW ⟨h1,dU,qz,oU,n4,(by rw[me];rfl),(by rw[kp];rfl),(by rw[cA];rfl),ae⟩
    | false=>
     rw[show aH x=false from by grind[aH,bO,bW,ap]];exact atV ⟨h1,dU,qz,oU,n4,(by rw[me];rfl),(by rw[kp];rfl),ae⟩
   | false=>
    rw[show aH x=false from by grind[aH,bO,bW,ap]];exact atU ⟨h1,dU,qz,oU,n4,(by rw[me];rfl),ae⟩
  | false=>
   cases fq:(x.kind==4) with
   | true=>
    have n5:=jl x.a 0 99;have s4:=jl x.kind 1 8;cases kN:(ap x.kind 1 8) with
    | true=>
     cases ob:(ap x.a 0 99) with
     | true=>
      cases qJ:(x.b==0) with
      | true=>
       cases qK:(decide ((↑(x.outs.map ba).length:Int)>2)) with
       | true=>
        rw[show aH x=false from by grind[aH,bO,bW,ap]];exact at6 ⟨h1,dU,fq,n5,s4,(by rw[kN];rfl),(by rw[ob];rfl),(by rw[qJ];rfl),qK,ae⟩
       | false=>
        cases tg:(x.kind==8) with
        | true=>
         cases oW:(decide ((↑(x.outs.map ba).length:Int)>0)) with
         | true=>
          rw[show aH x=false from by grind[aH,bO,bW,ap]];exact at7 ⟨h1,dU,fq,n5,s4,(by rw[kN];rfl),(by rw[ob];rfl),(by rw[qJ];rfl),qK,tg,oW,ae⟩
         | false=>
          rcases vf x (by grind) with⟨cz,l⟩ | ⟨cz,l⟩
          ·skip
           rw[show aH x=false from by grind[aH,bO,bW,ap]];exact at8 ⟨h1,dU,fq,n5,s4,(by rw[kN];rfl),(by rw[ob];rfl),(by rw[qJ];rfl),qK,tg,oW,l,ae⟩
          skip
          rw[show aH x=true from by grind[aH,bO,bW,ap]];exact ati ⟨h1,dU,fq,n5,s4,(by rw[kN];rfl),(by rw[ob];rfl),(by rw[qJ];rfl),qK,tg,oW,l,ae⟩
        | false=>
         rcases vf x (by grind) with⟨cz,l⟩ | ⟨cz,l⟩
         ·skip
          rw[show aH x=false from by grind[aH,bO,bW,ap]];exact atj ⟨h1,dU,fq,n5,s4,(by rw[kN];rfl),(by rw[ob];rfl),(by rw[qJ];rfl),qK,tg,l,ae⟩
         skip
         rw[show aH x=true from by grind[aH,bO,bW,ap]];exact atk ⟨h1,dU,fq,n5,s4,(by rw[kN];rfl),(by rw[ob];rfl),(by rw[qJ];rfl),qK,tg,l,ae⟩
      | false=>
       rw[show aH x=false from by grind[aH,bO,bW,ap]];exact at5 ⟨h1,dU,fq,n5,s4,(by rw[kN];rfl),(by rw[ob];rfl),(by rw[qJ];rfl),ae⟩
     | false=>
      rw[show aH x=false from by grind[aH,bO,bW,ap]];exact at4 ⟨h1,dU,fq,n5,s4,(by rw[kN];rfl),(by rw[ob];rfl),ae⟩
    | false=>
     rw[show aH x=false from by grind[aH,bO,bW,ap]];exact at3 ⟨h1,dU,fq,n5,s4,(by rw[kN];rfl),ae⟩
   | false=>
    have s5:=jl x.kind 1 8;cases th:(ap x.kind 1 8) with
    | true=>
     cases pR:(x.a==0) with
     | true=>
      cases cZ:(x.b==0) with
      | true=>
       cases yw:(decide ((↑(x.outs.map ba).length:Int)>2)) with
       | true=>
        rw[show aH x=false from by grind[aH,bO,bW,ap]];exact ato ⟨h1,dU,fq,s5,(by rw[th];rfl),(by rw[pR];rfl),(by rw[cZ];rfl),yw,ae⟩
       | false=>
        cases lc:(x.kind==8) with
        | true=>
         cases mg:(decide ((↑(x.outs.map ba).length:Int)>0)) with
         | true=>
          rw[show aH x=false from by grind[aH,bO,bW,ap]];exact atp ⟨h1,dU,fq,s5,(by rw[th];rfl),(by rw[pR];rfl),(by rw[cZ];rfl),yw,lc,mg,ae⟩
         | false=>
          rcases vf x (by grind) with⟨cz,l⟩ | ⟨cz,l⟩
          ·skip
           rw[show aH x=false from by grind[aH,bO,bW,ap]];exact atq ⟨h1,dU,fq,s5,(by rw[th];rfl),(by rw[pR];rfl),(by rw[cZ];rfl),yw,lc,mg,l,ae⟩
          skip
          rw[show aH x=true from by grind[aH,bO,bW,ap]];exact atr ⟨h1,dU,fq,s5,(by rw[th];rfl),(by rw[pR];rfl),(by rw[cZ];rfl),yw,lc,mg,l,ae⟩
        | false=>
         rcases vf x (by grind) with⟨cz,l⟩ | ⟨cz,l⟩
         ·skip
          rw[show aH x=false from by grind[aH,bO,bW,ap]];exact ats ⟨h1,dU,fq,s5,(by rw[th];rfl),(by rw[pR];rfl),(by rw[cZ];rfl),yw,lc,l,ae⟩
         skip
         rw[show aH x=true from by grind[aH,bO,bW,ap]];exact att ⟨h1,dU,fq,s5,(by rw[th];rfl),(by rw[pR];rfl),(by rw[cZ];rfl),yw,lc,l,ae⟩
      | false=>
       rw[show aH x=false from by grind[aH,bO,bW,ap]];exact atn ⟨h1,dU,fq,s5,(by rw[th];rfl),(by rw[pR];rfl),(by rw[cZ];rfl),ae⟩
     | false=>
      rw[show aH x=false from by grind[aH,bO,bW,ap]];exact atm ⟨h1,dU,fq,s5,(by rw[th];rfl),(by rw[pR];rfl),ae⟩
    | false=>
     rw[show aH x=false from by grind[aH,bO,bW,ap]];exact atl ⟨h1,dU,fq,s5,(by rw[th];rfl),ae⟩
theorem TI(x:Node)(aa:x.outs.length<=8388608):aw 273 [.agg x.e] [.one (B (aH x))]:=by
 cases h1:(x.kind==2) with
 | true=>
  have c2:=lL x.a 0 999;cases ax:(ap x.a 0 999) with
  | true=>
   cases aF:(x.b != 0) with
   | true=>
    rw[show aH x=false from by grind[aH,bO,bW,ap]];exact atv ⟨h1,c2,(by rw[ax];rfl),aF,ae⟩
   | false=>
    cases aQ:(decide ((↑(x.outs.map ba).length:Int)>2)) with
    | true=>
     rw[show aH x=false from by grind[aH,bO,bW,ap]];exact atw ⟨h1,c2,(by rw[ax];rfl),aF,aQ,ae⟩
    | false=>
     cases bb:(x.kind==8) with
     | true=>
      cases bN:(decide ((↑(x.outs.map ba).length:Int)>0)) with
      | true=>
       rw[show aH x=false from by grind[aH,bO,bW,ap]];exact atx ⟨h1,c2,(by rw[ax];rfl),aF,aQ,bb,bN,ae⟩
      | false=>
       cases dj:((↑(x.outs.map ba).length:Int)==2) with
       | true=>
        obtain⟨Ht,tE⟩:=dm (xs:=x.outs) (i:=0) (by grind[ap,aC]);obtain⟨C6,Je⟩:=dm (xs:=x.outs) (i:=1) (by grind[ap,aC]);cases iJ:(Ht==C6) with
        | true=>
         rw[show aH x=false from by grind[aH,bO,bW,ap]];exact aty ⟨h1,c2,(by rw[ax];rfl),aF,aQ,bb,bN,dj,(by grind[ap,aC]),(by grind[ap,aC]),(bJ ba tE),(by grind[ap,aC]),(by grind[ap,aC]),(bJ ba Je),iJ,ae⟩
        | false=>
         rcases hP x aa with⟨cz,l⟩ | ⟨cz,l⟩
         ·skip
          rw[show aH x=false from by grind[aH,bO,bW,ap]];exact atC ⟨h1,c2,(by rw[ax];rfl),aF,aQ,bb,bN,dj,(by grind[ap,aC]),(by grind[ap,aC]),(bJ ba tE),(by grind[ap,aC]),(by grind[ap,aC]),(bJ ba Je),iJ,l,ae⟩
         skip
         rw[show aH x=true from by grind[aH,bO,bW,ap]];exact atD ⟨h1,c2,(by rw[ax];rfl),aF,aQ,bb,bN,dj,(by grind[ap,aC]),(by grind[ap,aC]),(bJ ba tE),(by grind[ap,aC]),(by grind[ap,aC]),(bJ ba Je),iJ,l,ae⟩
       | false=>
        rcases hP x aa with⟨cz,l⟩ | ⟨cz,l⟩
        ·skip
         rw[show aH x=false from by grind[aH,bO,bW,ap]];exact atE ⟨h1,c2,(by rw[ax];rfl),aF,aQ,bb,bN,dj,l,ae⟩
        skip
        rw[show aH x=true from by grind[aH,bO,bW,ap]];exact atF ⟨h1,c2,(by rw[ax];rfl),aF,aQ,bb,bN,dj,l,ae⟩
     | false=>
      cases jc:((↑(x.outs.map ba).length:Int)==2) with
      | true=>
       obtain⟨G7,Jj⟩:=dm (xs:=x.outs) (i:=0) (by grind[ap,aC]);obtain⟨G8,Jk⟩:=dm (xs:=x.outs) (i:=1) (by grind[ap,aC]);cases kp:(G7==G8) with
       | true=>
        rw[show aH x=false from by grind[aH,bO,bW,ap]];exact atG ⟨h1,c2,(by rw[ax];rfl),aF,aQ,bb,jc,(by grind[ap,aC]),(by grind[ap,aC]),(bJ ba Jj),(by grind[ap,aC]),(by grind[ap,aC]),(bJ ba Jk),kp,ae⟩
       | false=>
        rcases hP x aa with⟨cz,l⟩ | ⟨cz,l⟩
        ·skip
         rw[show aH x=false from by grind[aH,bO,bW,ap]];exact atH ⟨h1,c2,(by rw[ax];rfl),aF,aQ,bb,jc,(by grind[ap,aC]),(by grind[ap,aC]),(bJ ba Jj),(by grind[ap,aC]),(by grind[ap,aC]),(bJ ba Jk),kp,l,ae⟩
        skip
        rw[show aH x=true from by grind[aH,bO,bW,ap]];exact as8 ⟨h1,c2,(by rw[ax];rfl),aF,aQ,bb,jc,(by grind[ap,aC]),(by grind[ap,aC]),(bJ ba Jj),(by grind[ap,aC]),(by grind[ap,aC]),(bJ ba Jk),kp,l,ae⟩
      | false=>
       rcases hP x aa with⟨cz,l⟩ | ⟨cz,l⟩
       ·skip
        rw[show aH x=false from by grind[aH,bO,bW,ap]];exact as9 ⟨h1,c2,(by rw[ax];rfl),aF,aQ,bb,jc,l,ae⟩
       skip
       rw[show aH x=true from by grind[aH,bO,bW,ap]];exact ata ⟨h1,c2,(by rw[ax];rfl),aF,aQ,bb,jc,l,ae⟩
  | false=>
   rw[show aH x=false from by grind[aH,bO,bW,ap]];exact atu ⟨h1,c2,(by rw[ax];rfl),ae⟩
 | false=>
  cases cA:(x.kind==3) with
  | true=>
   have mF:=lL x.a 1 10;cases hI:(ap x.a 1 10) with
   | true=>
    have j4:=lL x.b 0 (IntKind.i64.wrap (x.a-1));cases fq:(ap x.b 0 (IntKind.i64.wrap (x.a-1))) with
    | true=>
     cases pQ:(decide ((↑(x.outs.map ba).length:Int)>2)) with
     | true=>
      rw[show aH x=false from by grind[aH,bO,bW,ap]];exact atd ⟨h1,cA,mF,(by rw[hI];rfl),j4,(by rw[fq];rfl),pQ,ae⟩
     | false=>
      cases mf:(x.kind==8) with
      | true=>
       cases kN:(decide ((↑(x.outs.map ba).length:Int)>0)) with
       | true=>
        rw[show aH x=false from by grind[aH,bO,bW,ap]];exact ate ⟨h1,cA,mF,(by rw[hI];rfl),j4,(by rw[fq];rfl),pQ,mf,kN,ae⟩
       | false=>
        cases ob:((↑(x.outs.map ba).length:Int)==2) with
        | true=>
         obtain⟨Aj,Jl⟩:=dm (xs:=x.outs) (i:=0) (by grind[ap,aC]);obtain⟨Ak,Jm⟩:=dm (xs:=x.outs) (i:=1) (by grind[ap,aC]);cases tg:(Aj==Ak) with
         | true=>
          rw[show aH x=false from by grind[aH,bO,bW,ap]];exact atf ⟨h1,cA,mF,(by rw[hI];rfl),j4,(by rw[fq];rfl),pQ,mf,kN,ob,(by grind[ap,aC]),(by grind[ap,aC]),(bJ ba Jl),(by grind[ap,aC]),(by grind[ap,aC]),(bJ ba Jm),tg,ae⟩
         | false=>
          rcases hP x aa with⟨cz,l⟩ | ⟨cz,l⟩
          ·skip
           rw[show aH x=false from by grind[aH,bO,bW,ap]];exact atg ⟨h1,cA,mF,(by rw[hI];rfl),j4,(by rw[fq];rfl),pQ,mf,kN,ob,(by grind[ap,aC]),(by grind[ap,aC]),(bJ ba Jl),(by grind[ap,aC]),(by grind[ap,aC]),(bJ ba Jm),tg,l,ae⟩
          skip
          rw[show aH x=true from by grind[aH,bO,bW,ap]];exact ath ⟨h1,cA,mF,(by rw[hI];rfl),j4,(by rw[fq];rfl),pQ,mf,kN,ob,(by grind[ap,aC]),(by grind[ap,aC]),(bJ ba Jl),(by grind[ap,aC]),(by grind[ap,aC]),(bJ ba Jm),tg,l,ae⟩
        | false=>
         rcases hP x aa with⟨cz,l⟩ | ⟨cz,l⟩
         ·skip
          rw[show aH x=false from by grind[aH,bO,bW,ap]];exact auK ⟨h1,cA,mF,(by rw[hI];rfl),j4,(by rw[fq];rfl),pQ,mf,kN,ob,l,ae⟩
         skip
         rw[show aH x=true from by grind[aH,bO,bW,ap]];exact auL ⟨h1,cA,mF,(by rw[hI];rfl),j4,(by rw[fq];rfl),pQ,mf,kN,ob,l,ae⟩
      | false=>
       cases oW:((↑(x.outs.map ba).length:Int)==2) with
       | true=>
        obtain⟨Da,Jn⟩:=dm (xs:=x.outs) (i:=0) (by grind[ap,aC]);obtain⟨Ho,Jo⟩:=dm (xs:=x.outs) (i:=1) (by grind[ap,aC]);cases pR:(Da==Ho) with
        | true=>
         rw[show aH x=false from by grind[aH,bO,bW,ap]];exact auM ⟨h1,cA,mF,(by rw[hI];rfl),j4,(by rw[fq];rfl),pQ,mf,oW,(by grind[ap,aC]),(by grind[ap,aC]),(bJ ba Jn),(by grind[ap,aC]),(by grind[ap,aC]),(bJ ba Jo),pR,ae⟩
        | false=>
         rcases hP x aa with⟨cz,l⟩ | ⟨cz,l⟩
         ·skip
          rw[show aH x=false from by grind[aH,bO,bW,ap]];exact auN ⟨h1,cA,mF,(by rw[hI];rfl),j4,(by rw[fq];rfl),pQ,mf,oW,(by grind[ap,aC]),(by grind[ap,aC]),(bJ ba Jn),(by grind[ap,aC]),(by grind[ap,aC]),(bJ ba Jo),pR,l,ae⟩
         skip
         rw[show aH x=true from by grind[aH,bO,bW,ap]];exact auO ⟨h1,cA,mF,(by rw[hI];rfl),j4,(by rw[fq];rfl),pQ,mf,oW,(by grind[ap,aC]),(by grind[ap,aC]),(bJ ba Jn),(by grind[ap,aC]),(by grind[ap,aC]),(bJ ba Jo),pR,l,ae⟩
       | false=>
        rcases hP x aa with⟨cz,l⟩ | ⟨cz,l⟩
        ·skip
         rw[show aH x=false from by grind[aH,bO,bW,ap]];exact auP ⟨h1,cA,mF,(by rw[hI];rfl),j4,(by rw[fq];rfl),pQ,mf,oW,l,ae⟩
        skip
        rw[show aH x=true from by grind[aH,bO,bW,ap]];exact auQ ⟨h1,cA,mF,(by rw[hI];rfl),j4,(by rw[fq];rfl),pQ,mf,oW,l,ae⟩
    | false=>
     rw[show aH x=false from by grind[aH,bO,bW,ap]];exact atc ⟨h1,cA,mF,(by rw[hI];rfl),j4,(by rw[fq];rfl),ae⟩
   | false=>
    rw[show aH x=false from by grind[aH,bO,bW,ap]];exact atb ⟨h1,cA,mF,(by rw[hI];rfl),ae⟩
  | false=>
   cases cZ:(x.kind==4) with
   | true=>
    have n9:=lL x.a 0 99;cases lc:(ap x.a 0 99) with
    | true=>
     cases mg:(x.b != 0) with
     | true=>
      rw[show aH x=false from by grind[aH,bO,bW,ap]];exact auS ⟨h1,cA,cZ,n9,(by rw[lc];rfl),mg,ae⟩
     | false=>
      cases pS:(decide ((↑(x.outs.map ba).length:Int)>2)) with
      | true=>
       rw[show aH x=false from by grind[aH,bO,bW,ap]];exact auT ⟨h1,cA,cZ,n9,(by rw[lc];rfl),mg,pS,ae⟩
      | false=>
       cases qL:(x.kind==8) with
       | true=>
        cases yx:(decide ((↑(x.outs.map ba).length:Int)>0)) with
        | true=>
         rw[show aH x=false from by grind[aH,bO,bW,ap]];exact auU ⟨h1,cA,cZ,n9,(by rw[lc];rfl),mg,pS,qL,yx,ae⟩
        | false=>
         cases AG:((↑(x.outs.map ba).length:Int)==2) with
         | true=>
          obtain⟨avE,Jp⟩:=dm (xs:=x.outs) (i:=0) (by grind[ap,aC]);obtain⟨avF,Jq⟩:=dm (xs:=x.outs) (i:=1) (by grind[ap,aC]);cases H':(avE==avF) with
          | true=>
           rw[show aH x=false from by grind[aH,bO,bW,ap]];exact auV ⟨h1,cA,cZ,n9,(by rw[lc];rfl),mg,pS,qL,yx,AG,(by grind[ap,aC]),(by grind[ap,aC]),(bJ ba Jp),(by grind[ap,aC]),(by grind[ap,aC]),(bJ ba Jq),H',ae⟩
          | false=>
           rcases hP x aa with⟨cz,l⟩ | ⟨cz,l⟩
           ·skip
            rw[show aH x=false from by grind[aH,bO,bW,ap]];exact auW ⟨h1,cA,cZ,n9,(by rw[lc];rfl),mg,pS,qL,yx,AG,(by grind[ap,aC]),(by grind[ap,aC]),(bJ ba Jp),(by grind[ap,aC]),(by grind[ap,aC]),(bJ ba Jq),H',l,ae⟩
           skip
           rw[show aH x=true from by grind[aH,bO,bW,ap]];exact auX ⟨h1,cA,cZ,n9,(by rw[lc];rfl),mg,pS,qL,yx,AG,(by grind[ap,aC]),(by grind[ap,aC]),(bJ ba Jp),(by grind[ap,aC]),(by grind[ap,aC]),(bJ ba Jq),H',l,ae⟩
         | false=>
          rcases hP x aa with⟨cz,l⟩ | ⟨cz,l⟩
          ·skip
           rw[show aH x=false from by grind[aH,bO,bW,ap]];exact auY ⟨h1,cA,cZ,n9,(by rw[lc];rfl),mg,pS,qL,yx,AG,l,ae⟩
          skip
          rw[show aH x=true from by grind[aH,bO,bW,ap]];exact auZ ⟨h1,cA,cZ,n9,(by rw[lc];rfl),mg,pS,qL,yx,AG,l,ae⟩
       | false=>
        cases AH:((↑(x.outs.map ba).length:Int)==2) with
        | true=>
         obtain⟨avG,Jr⟩:=dm (xs:=x.outs) (i:=0) (by grind[ap,aC]);obtain⟨avH,Js⟩:=dm (xs:=x.outs) (i:=1) (by grind[ap,aC]);cases Ia:(avG==avH) with
         | true=>
          rw[show aH x=false from by grind[aH,bO,bW,ap]];exact au0 ⟨h1,cA,cZ,n9,(by rw[lc];rfl),mg,pS,qL,AH,(by grind[ap,aC]),(by grind[ap,aC]),(bJ ba Jr),(by grind[ap,aC]),(by grind[ap,aC]),(bJ ba Js),Ia,ae⟩
         | false=>
          rcases hP x aa with⟨cz,l⟩ | ⟨cz,l⟩
          ·skip
           rw[show aH x=false from by grind[aH,bO,bW,ap]];exact au1 ⟨h1,cA,cZ,n9,(by rw[lc];rfl),mg,pS,qL,AH,(by grind[ap,aC]),(by grind[ap,aC]),(bJ ba Jr),(by grind[ap,aC]),(by grind[ap,aC]),(bJ ba Js),Ia,l,ae⟩
          skip
          rw[show aH x=true from by grind[aH,bO,bW,ap]];exact au2 ⟨h1,cA,cZ,n9,(by rw[lc];rfl),mg,pS,qL,AH,(by grind[ap,aC]),(by grind[ap,aC]),(bJ ba Jr),(by grind[ap,aC]),(by grind[ap,aC]),(bJ ba Js),Ia,l,ae⟩
        | false=>
         rcases hP x aa with⟨cz,l⟩ | ⟨cz,l⟩
         ·skip
          rw[show aH x=false from by grind[aH,bO,bW,ap]];exact au3 ⟨h1,cA,cZ,n9,(by rw[lc];rfl),mg,pS,qL,AH,l,ae⟩
         skip
         rw[show aH x=true from by grind[aH,bO,bW,ap]];exact au4 ⟨h1,cA,cZ,n9,(by rw[lc];rfl),mg,pS,qL,AH,l,ae⟩
    | false=>
     rw[show aH x=false from by grind[aH,bO,bW,ap]];exact auR ⟨h1,cA,cZ,n9,(by rw[lc];rfl),ae⟩
   | false=>
    cases c9:(x.kind==1) with
    | true=>
     cases oc:(x.a != 0) with
     | true=>
      rw[show aH x=false from by grind[aH,bO,bW,ap]];exact au5 ⟨h1,cA,cZ,c9,c9,oc,ae⟩
     | false=>
      cases oX:(x.b != 0) with
      | true=>
       rw[show aH x=false from by grind[aH,bO,bW,ap]];exact au6 ⟨h1,cA,cZ,c9,c9,oc,oX,ae⟩
      | false=>
       cases pT:(decide ((↑(x.outs.map ba).length:Int)>2)) with
       | true=>
        rw[show aH x=false from by grind[aH,bO,bW,ap]];exact au7 ⟨h1,cA,cZ,c9,c9,oc,oX,pT,ae⟩
       | false=>
        cases qM:(x.kind==8) with
        | true=>
         cases yy:(decide ((↑(x.outs.map ba).length:Int)>0)) with
         | true=>
          rw[show aH x=false from by grind[aH,bO,bW,ap]];exact au8 ⟨h1,cA,cZ,c9,c9,oc,oX,pT,qM,yy,ae⟩
         | false=>
          cases AI:((↑(x.outs.map ba).length:Int)==2) with
          | true=>
           obtain⟨avI,Jt⟩:=dm (xs:=x.outs) (i:=0) (by grind[ap,aC]);obtain⟨avJ,Ju⟩:=dm (xs:=x.outs) (i:=1) (by grind[ap,aC]);cases Ib:(avI==avJ) with
           | true=>
            rw[show aH x=false from by grind[aH,bO,bW,ap]];exact au9 ⟨h1,cA,cZ,c9,c9,oc,oX,pT,qM,yy,AI,(by grind[ap,aC]),(by grind[ap,aC]),(bJ ba Jt),(by grind[ap,aC]),(by grind[ap,aC]),(bJ ba Ju),Ib,ae⟩
           | false=>
            rcases hP x aa with⟨cz,l⟩ | ⟨cz,l⟩
            ·skip
             rw[show aH x=false from by grind[aH,bO,bW,ap]];exact auj ⟨h1,cA,cZ,c9,c9,oc,oX,pT,qM,yy,AI,(by grind[ap,aC]),(by grind[ap,aC]),(bJ ba Jt),(by grind[ap,aC]),(by grind[ap,aC]),(bJ ba Ju),Ib,l,ae⟩
            skip
            rw[show aH x=true from by grind[aH,bO,bW,ap]];exact auk ⟨h1,cA,cZ,c9,c9,oc,oX,pT,qM,yy,AI,(by grind[ap,aC]),(by grind[ap,aC]),(bJ ba Jt),(by grind[ap,aC]),(by grind[ap,aC]),(bJ ba Ju),Ib,l,ae⟩
          | false=>
           rcases hP x aa with⟨cz,l⟩ | ⟨cz,l⟩
           ·skip
            rw[show aH x=false from by grind[aH,bO,bW,ap]];exact aul ⟨h1,cA,cZ,c9,c9,oc,oX,pT,qM,yy,AI,l,ae⟩
           skip
           rw[show aH x=true from by grind[aH,bO,bW,ap]];exact aum ⟨h1,cA,cZ,c9,c9,oc,oX,pT,qM,yy,AI,l,ae⟩
        | false=>
         cases AJ:((↑(x.outs.map ba).length:Int)==2) with
         | true=>
          obtain⟨avK,Jv⟩:=dm (xs:=x.outs) (i:=0) (by grind[ap,aC]);obtain⟨avL,Jw⟩:=dm (xs:=x.outs) (i:=1) (by grind[ap,aC]);cases Ic:(avK==avL) with
          | true=>
           rw[show aH x=false from by grind[aH,bO,bW,ap]];exact aun ⟨h1,cA,cZ,c9,c9,oc,oX,pT,qM,AJ,(by grind[ap,aC]),(by grind[ap,aC]),(bJ ba Jv),(by grind[ap,aC]),(by grind[ap,aC]),(bJ ba Jw),Ic,ae⟩
          | false=>
           rcases hP x aa with⟨cz,l⟩ | ⟨cz,l⟩
           ·skip
            rw[show aH x=false from by grind[aH,bO,bW,ap]];exact auo ⟨h1,cA,cZ,c9,c9,oc,oX,pT,qM,AJ,(by grind[ap,aC]),(by grind[ap,aC]),(bJ ba Jv),(by grind[ap,aC]),(by grind[ap,aC]),(bJ ba Jw),Ic,l,ae⟩
           skip
           rw[show aH x=true from by grind[aH,bO,bW,ap]];exact aup ⟨h1,cA,cZ,c9,c9,oc,oX,pT,qM,AJ,(by grind[ap,aC]),(by grind[ap,aC]),(bJ ba Jv),(by grind[ap,aC]),(by grind[ap,aC]),(bJ ba Jw),Ic,l,ae⟩
         | false=>
          rcases hP x aa with⟨cz,l⟩ | ⟨cz,l⟩
          ·skip
           rw[show aH x=false from by grind[aH,bO,bW,ap]];exact auq ⟨h1,cA,cZ,c9,c9,oc,oX,pT,qM,AJ,l,ae⟩
          skip
          rw[show aH x=true from by grind[aH,bO,bW,ap]];exact aur ⟨h1,cA,cZ,c9,c9,oc,oX,pT,qM,AJ,l,ae⟩
    | false=>
     cases dM:(x.kind==5) with
     | true=>
      cases od:(x.a != 0) with
      | true=>
       rw[show aH x=false from by grind[aH,bO,bW,ap]];exact aus ⟨h1,cA,cZ,c9,dM,dM,od,ae⟩
      | false=>
       cases oY:(x.b != 0) with
       | true=>
        rw[show aH x=false from by grind[aH,bO,bW,ap]];exact aut ⟨h1,cA,cZ,c9,dM,dM,od,oY,ae⟩
       | false=>
        cases pU:(decide ((↑(x.outs.map ba).length:Int)>2)) with
        | true=>
         rw[show aH x=false from by grind[aH,bO,bW,ap]];exact auu ⟨h1,cA,cZ,c9,dM,dM,od,oY,pU,ae⟩
        | false=>
         cases qN:(x.kind==8) with
         | true=>
          cases yz:(decide ((↑(x.outs.map ba).length:Int)>0)) with
          | true=>
           rw[show aH x=false from by grind[aH,bO,bW,ap]];exact auv ⟨h1,cA,cZ,c9,dM,dM,od,oY,pU,qN,yz,ae⟩
          | false=>
           cases AK:((↑(x.outs.map ba).length:Int)==2) with
           | true=>
            obtain⟨avM,Jx⟩:=dm (xs:=x.outs) (i:=0) (by grind[ap,aC]);obtain⟨avN,Jy⟩:=dm (xs:=x.outs) (i:=1) (by grind[ap,aC]);cases Ie:(avM==avN) with
            | true=>
             rw[show aH x=false from by grind[aH,bO,bW,ap]];exact auw ⟨h1,cA,cZ,c9,dM,dM,od,oY,pU,qN,yz,AK,(by grind[ap,aC]),(by grind[ap,aC]),(bJ ba Jx),(by grind[ap,aC]),(by grind[ap,aC]),(bJ ba Jy),Ie,ae⟩
            | false=>
             rcases hP x aa with⟨cz,l⟩ | ⟨cz,l⟩
             ·skip
              rw[show aH x=false from by grind[aH,bO,bW,ap]];exact auy ⟨h1,cA,cZ,c9,dM,dM,od,oY,pU,qN,yz,AK,(by grind[ap,aC]),(by grind[ap,aC]),(bJ ba Jx),(by grind[ap,aC]),(by grind[ap,aC]),(bJ ba Jy),Ie,l,ae⟩
             skip
             rw[show aH x=true from by grind[aH,bO,bW,ap]];exact auz ⟨h1,cA,cZ,c9,dM,dM,od,oY,pU,qN,yz,AK,(by grind[ap,aC]),(by grind[ap,aC]),(bJ ba Jx),(by grind[ap,aC]),(by grind[ap,aC]),(bJ ba Jy),Ie,l,ae⟩
           | false=>
            rcases hP x aa with⟨cz,l⟩ | ⟨cz,l⟩
            ·skip
             rw[show aH x=false from by grind[aH,bO,bW,ap]];exact auA ⟨h1,cA,cZ,c9,dM,dM,od,oY,pU,qN,yz,AK,l,ae⟩
            skip
            rw[show aH x=true from by grind[aH,bO,bW,ap]];exact auB ⟨h1,cA,cZ,c9,dM,dM,od,oY,pU,qN,yz,AK,l,ae⟩
         | false=>
          cases AL:((↑(x.outs.map ba).length:Int)==2) with
          | true=>
           obtain⟨avO,Jz⟩:=dm (xs:=x.outs) (i:=0) (by grind[ap,aC]);obtain⟨avP,JA⟩:=dm (xs:=x.outs) (i:=1) (by grind[ap,aC]);cases Ig:(avO==avP) with
           | true=>
            rw[show aH x=false from by grind[aH,bO,bW,ap]];exact auC ⟨h1,cA,cZ,c9,dM,dM,od,oY,pU,qN,AL,(by grind[ap,aC]),(by grind[ap,aC]),(bJ ba Jz),(by grind[ap,aC]),(by grind[ap,aC]),(bJ ba JA),Ig,ae⟩
           | false=>
            rcases hP x aa with⟨cz,l⟩ | ⟨cz,l⟩
            ·skip
             rw[show aH x=false from by grind[aH,bO,bW,ap]];exact auD ⟨h1,cA,cZ,c9,dM,dM,od,oY,pU,qN,AL,(by grind[ap,aC]),(by grind[ap,aC]),(bJ ba Jz),(by grind[ap,aC]),(by grind[ap,aC]),(bJ ba JA),Ig,l,ae⟩
            skip
            rw[show aH x=true from by grind[aH,bO,bW,ap]];exact auE ⟨h1,cA,cZ,c9,dM,dM,od,oY,pU,qN,AL,(by grind[ap,aC]),(by grind[ap,aC]),(bJ ba Jz),(by grind[ap,aC]),(by grind[ap,aC]),(bJ ba JA),Ig,l,ae⟩
          | false=>
           rcases hP x aa with⟨cz,l⟩ | ⟨cz,l⟩
           ·skip
            rw[show aH x=false from by grind[aH,bO,bW,ap]];exact auF ⟨h1,cA,cZ,c9,dM,dM,od,oY,pU,qN,AL,l,ae⟩
           skip
           rw[show aH x=true from by grind[aH,bO,bW,ap]];exact auG ⟨h1,cA,cZ,c9,dM,dM,od,oY,pU,qN,AL,l,ae⟩
     | false=>
      cases eH:(x.kind==6) with
      | true=>
       cases oe:(x.a != 0) with
       | true=>
        rw[show aH x=false from by grind[aH,bO,bW,ap]];exact auH ⟨h1,cA,cZ,c9,dM,eH,eH,oe,ae⟩
       | false=>
        cases oZ:(x.b != 0) with
        | true=>
         rw[show aH x=false from by grind[aH,bO,bW,ap]];exact auI ⟨h1,cA,cZ,c9,dM,eH,eH,oe,oZ,ae⟩
        | false=>
         cases pV:(decide ((↑(x.outs.map ba).length:Int)>2)) with
         | true=>
          rw[show aH x=false from by grind[aH,bO,bW,ap]];exact auJ ⟨h1,cA,cZ,c9,dM,eH,eH,oe,oZ,pV,ae⟩
         | false=>
          cases qO:(x.kind==8) with
          | true=>
           cases yA:(decide ((↑(x.outs.map ba).length:Int)>0)) with
           | true=>
            rw[show aH x=false from by grind[aH,bO,bW,ap]];exact at9 ⟨h1,cA,cZ,c9,dM,eH,eH,oe,oZ,pV,qO,yA,ae⟩
           | false=>
            cases AM:((↑(x.outs.map ba).length:Int)==2) with
            | true=>
             obtain⟨avQ,JB⟩:=dm (xs:=x.outs) (i:=0) (by grind[ap,aC]);obtain⟨avR,JC⟩:=dm (xs:=x.outs) (i:=1) (by grind[ap,aC]);cases Ih:(avQ==avR) with
             | true=>
              rw[show aH x=false from by grind[aH,bO,bW,ap]];exact aua ⟨h1,cA,cZ,c9,dM,eH,eH,oe,oZ,pV,qO,yA,AM,(by grind[ap,aC]),(by grind[ap,aC]),(bJ ba JB),(by grind[ap,aC]),(by grind[ap,aC]),(bJ ba JC),Ih,ae⟩
             | false=>
              rcases hP x aa with⟨cz,l⟩ | ⟨cz,l⟩
              ·skip
               rw[show aH x=false from by grind[aH,bO,bW,ap]];exact aub ⟨h1,cA,cZ,c9,dM,eH,eH,oe,oZ,pV,qO,yA,AM,(by grind[ap,aC]),(by grind[ap,aC]),(bJ ba JB),(by grind[ap,aC]),(by grind[ap,aC]),(bJ ba JC),Ih,l,ae⟩
              skip
              rw[show aH x=true from by grind[aH,bO,bW,ap]];exact auc ⟨h1,cA,cZ,c9,dM,eH,eH,oe,oZ,pV,qO,yA,AM,(by grind[ap,aC]),(by grind[ap,aC]),(bJ ba JB),(by grind[ap,aC]),(by grind[ap,aC]),(bJ ba JC),Ih,l,ae⟩
            | false=>
             rcases hP x aa with⟨cz,l⟩ | ⟨cz,l⟩
             ·skip
              rw[show aH x=false from by grind[aH,bO,bW,ap]];exact aud ⟨h1,cA,cZ,c9,dM,eH,eH,oe,oZ,pV,qO,yA,AM,l,ae⟩
             skip
             rw[show aH x=true from by grind[aH,bO,bW,ap]];exact aue ⟨h1,cA,cZ,c9,dM,eH,eH,oe,oZ,pV,qO,yA,AM,l,ae⟩
          | false=>
           cases AN:((↑(x.outs.map ba).length:Int)==2) with
           | true=>
            obtain⟨avS,JD⟩:=dm (xs:=x.outs) (i:=0) (by grind[ap,aC]);obtain⟨avT,JE⟩:=dm (xs:=x.outs) (i:=1) (by grind[ap,aC]);cases Ii:(avS==avT) with
            | true=>
             rw[show aH x=false from by grind[aH,bO,bW,ap]];exact auf ⟨h1,cA,cZ,c9,dM,eH,eH,oe,oZ,pV,qO,AN,(by grind[ap,aC]),(by grind[ap,aC]),(bJ ba JD),(by grind[ap,aC]),(by grind[ap,aC]),(bJ ba JE),Ii,ae⟩
            | false=>
             rcases hP x aa with⟨cz,l⟩ | ⟨cz,l⟩
             ·skip
              rw[show aH x=false from by grind[aH,bO,bW,ap]];exact aug ⟨h1,cA,cZ,c9,dM,eH,eH,oe,oZ,pV,qO,AN,(by grind[ap,aC]),(by grind[ap,aC]),(bJ ba JD),(by grind[ap,aC]),(by grind[ap,aC]),(bJ ba JE),Ii,l,ae⟩
             skip
             rw[show aH x=true from by grind[aH,bO,bW,ap]];exact auh ⟨h1,cA,cZ,c9,dM,eH,eH,oe,oZ,pV,qO,AN,(by grind[ap,aC]),(by grind[ap,aC]),(bJ ba JD),(by grind[ap,aC]),(by grind[ap,aC]),(bJ ba JE),Ii,l,ae⟩
           | false=>
            rcases hP x aa with⟨cz,l⟩ | ⟨cz,l⟩
            ·skip
             rw[show aH x=false from by grind[aH,bO,bW,ap]];exact aui ⟨h1,cA,cZ,c9,dM,eH,eH,oe,oZ,pV,qO,AN,l,ae⟩
            skip
            rw[show aH x=true from by grind[aH,bO,bW,ap]];exact abN ⟨h1,cA,cZ,c9,dM,eH,eH,oe,oZ,pV,qO,AN,l,ae⟩
      | false=>
       cases fY:(x.kind==7) with
       | true=>
        cases og:(x.a != 0) with
        | true=>
         rw[show aH x=false from by grind[aH,bO,bW,ap]];exact abO ⟨h1,cA,cZ,c9,dM,eH,fY,fY,og,ae⟩
        | false=>
         cases o0:(x.b != 0) with
         | true=>
          rw[show aH x=false from by grind[aH,bO,bW,ap]];exact abP ⟨h1,cA,cZ,c9,dM,eH,fY,fY,og,o0,ae⟩
         | false=>
          cases pW:(decide ((↑(x.outs.map ba).length:Int)>2)) with
          | true=>
           rw[show aH x=false from by grind[aH,bO,bW,ap]];exact abQ ⟨h1,cA,cZ,c9,dM,eH,fY,fY,og,o0,pW,ae⟩
          | false=>
           cases qP:(x.kind==8) with
           | true=>
            cases yB:(decide ((↑(x.outs.map ba).length:Int)>0)) with
            | true=>
             rw[show aH x=false from by grind[aH,bO,bW,ap]];exact abR ⟨h1,cA,cZ,c9,dM,eH,fY,fY,og,o0,pW,qP,yB,ae⟩
            | false=>
             cases AO:((↑(x.outs.map ba).length:Int)==2) with
             | true=>
              obtain⟨avU,JF⟩:=dm (xs:=x.outs) (i:=0) (by grind[ap,aC]);obtain⟨avV,JG⟩:=dm (xs:=x.outs) (i:=1) (by grind[ap,aC]);cases Ij:(avU==avV) with
              | true=>
               rw[show aH x=false from by grind[aH,bO,bW,ap]];exact abS ⟨h1,cA,cZ,c9,dM,eH,fY,fY,og,o0,pW,qP,yB,AO,(by grind[ap,aC]),(by grind[ap,aC]),(bJ ba JF),(by grind[ap,aC]),(by grind[ap,aC]),(bJ ba JG),Ij,ae⟩
              | false=>
               rcases hP x aa with⟨cz,l⟩ | ⟨cz,l⟩
               ·skip
                rw[show aH x=false from by grind[aH,bO,bW,ap]];exact abT ⟨h1,cA,cZ,c9,dM,eH,fY,fY,og,o0,pW,qP,yB,AO,(by grind[ap,aC]),(by grind[ap,aC]),(bJ ba JF),(by grind[ap,aC]),(by grind[ap,aC]),(bJ ba JG),Ij,l,ae⟩
               skip
               rw[show aH x=true from by grind[aH,bO,bW,ap]];exact abU ⟨h1,cA,cZ,c9,dM,eH,fY,fY,og,o0,pW,qP,yB,AO,(by grind[ap,aC]),(by grind[ap,aC]),(bJ ba JF),(by grind[ap,aC]),(by grind[ap,aC]),(bJ ba JG),Ij,l,ae⟩
             | false=>
              rcases hP x aa with⟨cz,l⟩ | ⟨cz,l⟩
              ·skip
               rw[show aH x=false from by grind[aH,bO,bW,ap]];exact abV ⟨h1,cA,cZ,c9,dM,eH,fY,fY,og,o0,pW,qP,yB,AO,l,ae⟩
              skip
              rw[show aH x=true from by grind[aH,bO,bW,ap]];exact abW ⟨h1,cA,cZ,c9,dM,eH,fY,fY,og,o0,pW,qP,yB,AO,l,ae⟩
           | false=>
            cases AP:((↑(x.outs.map ba).length:Int)==2) with
            | true=>
             obtain⟨avA,Jf⟩:=dm (xs:=x.outs) (i:=0) (by grind[ap,aC]);obtain⟨avB,Jg⟩:=dm (xs:=x.outs) (i:=1) (by grind[ap,aC]);cases H7:(avA==avB) with
             | true=>
              rw[show aH x=false from by grind[aH,bO,bW,ap]];exact abX ⟨h1,cA,cZ,c9,dM,eH,fY,fY,og,o0,pW,qP,AP,(by grind[ap,aC]),(by grind[ap,aC]),(bJ ba Jf),(by grind[ap,aC]),(by grind[ap,aC]),(bJ ba Jg),H7,ae⟩
             | false=>
              rcases hP x aa with⟨cz,l⟩ | ⟨cz,l⟩
              ·skip
               rw[show aH x=false from by grind[aH,bO,bW,ap]];exact abY ⟨h1,cA,cZ,c9,dM,eH,fY,fY,og,o0,pW,qP,AP,(by grind[ap,aC]),(by grind[ap,aC]),(bJ ba Jf),(by grind[ap,aC]),(by grind[ap,aC]),(bJ ba Jg),H7,l,ae⟩
              skip
              rw[show aH x=true from by grind[aH,bO,bW,ap]];exact abZ ⟨h1,cA,cZ,c9,dM,eH,fY,fY,og,o0,pW,qP,AP,(by grind[ap,aC]),(by grind[ap,aC]),(bJ ba Jf),(by grind[ap,aC]),(by grind[ap,aC]),(bJ ba Jg),H7,l,ae⟩
            | false=>
             rcases hP x aa with⟨cz,l⟩ | ⟨cz,l⟩
             ·skip
              rw[show aH x=false from by grind[aH,bO,bW,ap]];exact ab0 ⟨h1,cA,cZ,c9,dM,eH,fY,fY,og,o0,pW,qP,AP,l,ae⟩
             skip
             rw[show aH x=true from by grind[aH,bO,bW,ap]];exact ab1 ⟨h1,cA,cZ,c9,dM,eH,fY,fY,og,o0,pW,qP,AP,l,ae⟩
       | false=>
        cases mJ:(x.kind==8) with
        | true=>
         cases tf:(x.a != 0) with
         | true=>
          rw[show aH x=false from by grind[aH,bO,bW,ap]];exact ab2 ⟨h1,cA,cZ,c9,dM,eH,fY,mJ,tf,ae⟩
         | false=>
          cases uH:(x.b != 0) with
          | true=>
           rw[show aH x=false from by grind[aH,bO,bW,ap]];exact ab3 ⟨h1,cA,cZ,c9,dM,eH,fY,mJ,tf,uH,ae⟩
          | false=>
           cases wl:(decide ((↑(x.outs.map ba).length:Int)>2)) with
           | true=>
            rw[show aH x=false from by grind[aH,bO,bW,ap]];exact ab4 ⟨h1,cA,cZ,c9,dM,eH,fY,mJ,tf,uH,wl,ae⟩
           | false=>
            cases yv:(decide ((↑(x.outs.map ba).length:Int)>0)) with
            | true=>
             rw[show aH x=false from by grind[aH,bO,bW,ap]];exact ab5 ⟨h1,cA,cZ,c9,dM,eH,fY,mJ,tf,uH,wl,mJ,yv,ae⟩
            | false=>
             cases AD:((↑(x.outs.map ba).length:Int)==2) with
             | true=>
              obtain⟨avC,Jh⟩:=dm (xs:=x.outs) (i:=0) (by grind[ap,aC]);obtain⟨avD,Ji⟩:=dm (xs:=x.outs) (i:=1) (by grind[ap,aC]);cases H8:(avC==avD) with
              | true=>
               rw[show aH x=false from by grind[aH,bO,bW,ap]];exact ab6 ⟨h1,cA,cZ,c9,dM,eH,fY,mJ,tf,uH,wl,mJ,yv,AD,(by grind[ap,aC]),(by grind[ap,aC]),(bJ ba Jh),(by grind[ap,aC]),(by grind[ap,aC]),(bJ ba Ji),H8,ae⟩
              | false=>
               rcases hP x aa with⟨cz,l⟩ | ⟨cz,l⟩
               ·skip
                rw[show aH x=false from by grind[aH,bO,bW,ap]];exact ab7 ⟨h1,cA,cZ,c9,dM,eH,fY,mJ,tf,uH,wl,mJ,yv,AD,(by grind[ap,aC]),(by grind[ap,aC]),(bJ ba Jh),(by grind[ap,aC]),(by grind[ap,aC]),(bJ ba Ji),H8,l,ae⟩
               skip
               rw[show aH x=true from by grind[aH,bO,bW,ap]];exact ab8 ⟨h1,cA,cZ,c9,dM,eH,fY,mJ,tf,uH,wl,mJ,yv,AD,(by grind[ap,aC]),(by grind[ap,aC]),(bJ ba Jh),(by grind[ap,aC]),(by grind[ap,aC]),(bJ ba Ji),H8,l,ae⟩
             | false=>
              rcases hP x aa with⟨cz,l⟩ | ⟨cz,l⟩
              ·skip
               rw[show aH x=false from by grind[aH,bO,bW,ap]];exact ab9 ⟨h1,cA,cZ,c9,dM,eH,fY,mJ,tf,uH,wl,mJ,yv,AD,l,ae⟩
              skip
              rw[show aH x=true from by grind[aH,bO,bW,ap]];exact aca ⟨h1,cA,cZ,c9,dM,eH,fY,mJ,tf,uH,wl,mJ,yv,AD,l,ae⟩
        | false=>
         rw[show aH x=false from by grind[aH,bO,bW,ap]];exact acb ⟨h1,cA,cZ,c9,dM,eH,fY,mJ,ae⟩
