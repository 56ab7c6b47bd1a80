import Derived.Test.YtdchjefneblpgaaP9
import Derived.Test.YtdchjefneblpgaaGQ
import Derived.Test.YtdchjefneblpgaaGR
set_option linter.unusedVariables false
set_option linter.unusedSimpArgs false
namespace Go.Proofs.Ytdchjefneblpgaa
open Go.Sx Go.RowKit Go.Proofs.Try
def fB(s:fl):Bool:=af s.aV 0 3&&af s.dE 0 6
def c9(k v:Int):Bool:=af k 0 99&&af v 0 999
def c8(r:aQ):Bool:=af r.op 0 7&&fB r.bl&&c9 r.key r.val
def dm(s:fl):fl×Bool:=if fB s&&decide (s.dE<6) then (⟨s.aV,s.dE+1⟩,true) else (s,false)
def less(a b:Int):Int:=if b<a then b else a
def bh(x:Node):Bool:=
 if x.kind=2 then af x.a 0 999&&x.b==0
 else if x.kind=3 then af x.a 1 10&&af x.b 0 (IntKind.i64.wrap (x.a-1))
 else if x.kind=4 then af x.a 0 99&&x.b==0
 else af x.kind 1 8&&x.a==0&&x.b==0
def kK(l:List Int):Bool:=!(l.any fun k=>!af k 0 7)
def bw(l:List Int):Bool:=decide (l.length=2/\l[0]?=l[1]?)
def av(x:Node):Bool:=bh x&&decide (x.outs.length<=2)&&!(x.kind==8&&decide (0<x.outs.length))&&!bw x.outs&&kK x.outs
theorem look{α:Type}{xs:List α}{i:Int}(bX:0<=i)(J:i<xs.length):∃a,xs[i.toNat]?=some a:=cT (by omega)
theorem bf{α:Type}{xs:List α}{i:Nat}{a:α}(f:α->List D)(h:xs[i]?=some a):(xs.map f)[i]?=some (f a):=by simp[h]
theorem fC(x:Node)(ae:x.outs.length<=8388608):(kK x.outs=false/\dk prog (aF f50 0) (cR (x.outs.map aY) 0) .ret (e6 false))\/(kK x.outs=true/\dk prog (aF f50 0) (cR (x.outs.map aY) 0) (.exit 1) fh):=by
 have l:=oD (P:=prog) (c:=(aF f50 0)) x.outs (fun k=>!af k 0 7) (fun i=>cR (x.outs.map aY) i) (X:=fun _ _=>e6 false) jo (di 1)
  (fun i a aC h=>Wf ⟨dr (ct aC),c1,dh (ct aC),c2 aY aC,j' a 0 7,h,eN (ct aC) ae,aj⟩)
  (fun i a aC h=>We ⟨dr (ct aC),c1,dh (ct aC),c2 aY aC,j' a 0 7,h,aj⟩)
  (XH ⟨fb,aj⟩)
 unfold kK;rcases l with⟨_,_,J,U⟩ | ⟨i,a,_,_,_,_,J,U⟩
 ·exact .inr ⟨by rw[J];rfl,U⟩
 exact .inl ⟨by rw[J];rfl,U⟩
theorem q7(x:Node)(ae:x.outs.length<=2):((kK x.outs&&!bw x.outs)=false/\dk prog (aF f57 0) (gg x.kind x.a x.b (x.outs.map aY) 0) .ret (nK false))\/((kK x.outs&&!bw x.outs)=true/\dk prog (aF f57 0) (gg x.kind x.a x.b (x.outs.map aY) 0) (.exit 1) oH):=by
 obtain⟨Iq,a,b,outs⟩:=x;have da:=fun k=>ht k 0 7
 match outs,ae with
 | [],_=>exact .inr ⟨rfl,.last (di 1) (D0 ⟨rfl,aj⟩)⟩
 | [k],_=>
  cases J:af k 0 7 with
  | false=>exact .inl ⟨by simp[kK,J],.last jo (DZ ⟨rfl,by omega,by simp,rfl,da k,by rw[J];rfl,aj⟩)⟩
  | true=>
   refine .inr ⟨by simp[kK,bw,J],.more (LJ ⟨rfl,by omega,by simp,rfl,da k,by rw[J];rfl,rfl,⟨by omega,by omega⟩,aj⟩) (.last (di 1) (D0 ⟨rfl,aj⟩))⟩
 | [k,m],_=>
  cases J:af k 0 7 with
  | false=>exact .inl ⟨by simp[kK,J],.last jo (DZ ⟨rfl,by omega,by simp,rfl,da k,by rw[J];rfl,aj⟩)⟩
  | true=>
   have first:eS prog (aF f57 0) (gg Iq a b ([k,m].map aY) 0) .normal (gg Iq a b ([k,m].map aY) (0+1)):=LJ ⟨rfl,by omega,by simp,rfl,da k,by rw[J];rfl,rfl,⟨by omega,by omega⟩,aj⟩
   cases U:af m 0 7 with
   | false=>exact .inl ⟨by simp[kK,J,U],.more first (.last jo (DZ ⟨rfl,by omega,by simp,rfl,da m,by rw[U];rfl,aj⟩))⟩
   | true=>
    cases ax:(k==m) with
    | true=>exact .inl ⟨by simp[kK,bw,J,U]at ax ⊢;exact ax,.more first (.last jo (W4 ⟨rfl,by omega,by simp,rfl,da m,by rw[U];rfl,rfl,by omega,by simp,rfl,by omega,by simp,rfl,ax,aj⟩))⟩
    | false=>exact .inr ⟨by simp[kK,bw,J,U]at ax ⊢;exact ax,.more first (.more (W5 ⟨rfl,by omega,by simp,rfl,da m,by rw[U];rfl,rfl,by omega,by simp,rfl,by omega,by simp,rfl,ax,⟨by omega,by omega⟩,aj⟩) (.last (di 1) (D0 ⟨rfl,aj⟩)))⟩
theorem LK(s:fl):aA 58 [.agg s.e] [.one (B (fB s))]:=by
 have bK:=ht s.aV 0 3;cases U:(af s.aV 0 3) with
 | true=>
  have cI:=ht s.dE 0 6;rw[show fB s=af s.dE 0 6 from by grind[fB]];exact U8 ⟨bK,U,cI,aj⟩
 | false=>
  rw[show fB s=false from by grind[fB]];exact U9 ⟨bK,U,aj⟩
theorem LL(s:fl):aA 51 [.agg s.e] [.one (B (fB s))]:=by
 have bK:=j' s.aV 0 3;cases U:(af s.aV 0 3) with
 | true=>
  have cI:=j' s.dE 0 6;rw[show fB s=af s.dE 0 6 from by grind[fB]];exact U' ⟨bK,U,cI,aj⟩
 | false=>
  rw[show fB s=false from by grind[fB]];exact Va ⟨bK,U,aj⟩
theorem LM(k v:Int):aA 52 [.one (I k),.one (I v)] [.one (B (c9 k v))]:=by
 have bK:=j' k 0 99;cases U:(af k 0 99) with
 | true=>
  have cI:=j' v 0 999;rw[show c9 k v=af v 0 999 from by grind[c9]];exact WX ⟨bK,U,cI,aj⟩
 | false=>
  rw[show c9 k v=false from by grind[c9]];exact WY ⟨bK,U,aj⟩
theorem zb(r:aQ):aA 34 [.agg r.e] [.one (B (c8 r))]:=by
 have bK:=ht r.op 0 7;cases U:(af r.op 0 7) with
 | true=>
  have cI:=LK r.bl;cases aJ:(fB r.bl) with
  | true=>
   have eT:=ht r.key 0 99;cases bt:(af r.key 0 99) with
   | true=>
    have AT:=ht r.val 0 999;rw[show c8 r=af r.val 0 999 from by grind[c8,c9]];exact VA ⟨bK,U,cI,aJ,eT,bt,AT,aj⟩
   | false=>
    rw[show c8 r=false from by grind[c8,c9]];exact VB ⟨bK,U,cI,aJ,eT,bt,aj⟩
  | false=>
   rw[show c8 r=false from by grind[c8,c9]];exact VC ⟨bK,U,cI,aJ,aj⟩
 | false=>
  rw[show c8 r=false from by grind[c8,c9]];exact VD ⟨bK,U,aj⟩
theorem zc(r:aQ):aA 31 [.agg r.e] [.one (B (c8 r))]:=by
 have bK:=j' r.op 0 7;cases U:(af r.op 0 7) with
 | true=>
  have cI:=LL r.bl;cases aJ:(fB r.bl) with
  | true=>
   have eT:=LM r.key r.val;rw[show c8 r=c9 r.key r.val from by grind[c8,c9]];exact VE ⟨bK,U,cI,aJ,eT,aj⟩
  | false=>
   rw[show c8 r=false from by grind[c8,c9]];exact VF ⟨bK,U,cI,aJ,aj⟩
 | false=>
  rw[show c8 r=false from by grind[c8,c9]];exact VG ⟨bK,U,aj⟩
theorem um(s:fl):aA 59 [.agg s.e] [.agg ((dm s).1).e,.one (B ((dm s).2))]:=by
 have bK:=LK s;cases U:(fB s) with
 | true=>
  cases ax:(decide (s.dE>=6)) with
  | true=>
   rw[show dm s=(s,false) from by grind[dm,fB,af]];exact Vc ⟨bK,(by rw[U];rfl),ax,aj⟩
  | false=>
   rw[show dm s=((⟨s.aV,s.dE+1⟩:fl),true) from by grind[dm,fB,af]];exact Vd ⟨bK,(by rw[U];rfl),ax,(by grind[fB,af,ap]),aj⟩
 | false=>
  rw[show dm s=(s,false) from by grind[dm,fB,af]];exact Vb ⟨bK,(by rw[U];rfl),aj⟩
theorem D1(s:fl):aA 38 [.agg s.e] [.agg ((dm s).1).e,.one (B ((dm s).2))]:=by
 have bK:=LL s;cases U:(fB s) with
 | true=>
  cases ax:(s.dE==6) with
  | true=>
   rw[show dm s=(s,false) from by grind[dm,fB,af]];exact Vf ⟨bK,(by rw[U];rfl),ax,aj⟩
  | false=>
   rw[show dm s=((⟨s.aV,s.dE+1⟩:fl),true) from by grind[dm,fB,af]];exact Vg ⟨bK,(by rw[U];rfl),ax,(by grind[fB,af,ap]),aj⟩
 | false=>
  rw[show dm s=(s,false) from by grind[dm,fB,af]];exact Ve ⟨bK,(by rw[U];rfl),aj⟩
theorem Yx(a b:Int):aA 74 [.one (I a),.one (I b)] [.one (I (less a b))]:=by
 cases J:(decide (b<a)) with
 | true=>
  rw[show less a b=b from by grind[less]];exact WV ⟨J,aj⟩
 | false=>
  rw[show less a b=a from by grind[less]];exact WW ⟨J,aj⟩
theorem LN(x:Node)(ae:x.outs.length<=8388608):aA 57 [.agg x.e] [.one (B (av x))]:=by
 cases J:(x.kind==2) with
 | true=>
  have cL:=ht x.a 0 999;have cI:=ht x.kind 1 8;cases aJ:(af x.kind 1 8) with
  | true=>
   cases a1:(af x.a 0 999) with
   | true=>
    cases bt:(x.b==0) with
    | true=>
     cases bQ:(decide ((↑(x.outs.map aY).length:Int)>2)) with
     | true=>
      rw[show av x=false from by grind[av,bh,bw,af]];exact W2 ⟨J,cL,cI,(by rw[aJ];rfl),(by rw[a1];rfl),(by rw[bt];rfl),bQ,aj⟩
     | false=>
      cases cZ:(x.kind==8) with
      | true=>
       cases dQ:(decide ((↑(x.outs.map aY).length:Int)>0)) with
       | true=>
        rw[show av x=false from by grind[av,bh,bw,af]];exact W3 ⟨J,cL,cI,(by rw[aJ];rfl),(by rw[a1];rfl),(by rw[bt];rfl),bQ,cZ,dQ,aj⟩
       | false=>
        rcases q7 x (by grind) with⟨b9,l⟩ | ⟨b9,l⟩
        ·skip
         rw[show av x=false from by grind[av,bh,bw,af]];exact W6 ⟨J,cL,cI,(by rw[aJ];rfl),(by rw[a1];rfl),(by rw[bt];rfl),bQ,cZ,dQ,l,aj⟩
        skip
        rw[show av x=true from by grind[av,bh,bw,af]];exact W7 ⟨J,cL,cI,(by rw[aJ];rfl),(by rw[a1];rfl),(by rw[bt];rfl),bQ,cZ,dQ,l,aj⟩
      | false=>
       rcases q7 x (by grind) with⟨b9,l⟩ | ⟨b9,l⟩
       ·skip
        rw[show av x=false from by grind[av,bh,bw,af]];exact Wg ⟨J,cL,cI,(by rw[aJ];rfl),(by rw[a1];rfl),(by rw[bt];rfl),bQ,cZ,l,aj⟩
       skip
       rw[show av x=true from by grind[av,bh,bw,af]];exact Wh ⟨J,cL,cI,(by rw[aJ];rfl),(by rw[a1];rfl),(by rw[bt];rfl),bQ,cZ,l,aj⟩
    | false=>
     rw[show av x=false from by grind[av,bh,bw,af]];exact W1 ⟨J,cL,cI,(by rw[aJ];rfl),(by rw[a1];rfl),(by rw[bt];rfl),aj⟩
   | false=>
    rw[show av x=false from by grind[av,bh,bw,af]];exact W0 ⟨J,cL,cI,(by rw[aJ];rfl),(by rw[a1];rfl),aj⟩
  | false=>
   rw[show av x=false from by grind[av,bh,bw,af]];exact WZ ⟨J,cL,cI,(by rw[aJ];rfl),aj⟩
 | false=>
  cases dI:(x.kind==3) with
  | true=>
   have mM:=ht x.a 1 10;have k9:=ht x.b 0 (IntKind.i64.wrap (x.a-1));have ko:=ht x.kind 1 8;cases jg:(af x.kind 1 8) with
   | true=>
    cases hE:(af x.a 1 10) with
    | true=>
     cases bY:(af x.b 0 (IntKind.i64.wrap (x.a-1))) with
     | true=>
      cases n7:(decide ((↑(x.outs.map aY).length:Int)>2)) with
      | true=>
       rw[show av x=false from by grind[av,bh,bw,af]];exact Wl ⟨J,dI,mM,k9,ko,(by rw[jg];rfl),(by rw[hE];rfl),(by rw[bY];rfl),n7,aj⟩
      | false=>
       cases fv:(x.kind==8) with
       | true=>
        cases Bb:(decide ((↑(x.outs.map aY).length:Int)>0)) with
        | true=>
         rw[show av x=false from by grind[av,bh,bw,af]];exact Wm ⟨J,dI,mM,k9,ko,(by rw[jg];rfl),(by rw[hE];rfl),(by rw[bY];rfl),n7,fv,Bb,aj⟩
        | false=>
         rcases q7 x (by grind) with⟨b9,l⟩ | ⟨b9,l⟩
         ·skip
          rw[show av x=false from by grind[av,bh,bw,af]];exact Wn ⟨J,dI,mM,k9,ko,(by rw[jg];rfl),(by rw[hE];rfl),(by rw[bY];rfl),n7,fv,Bb,l,aj⟩
         skip
         rw[show av x=true from by grind[av,bh,bw,af]];exact Wo ⟨J,dI,mM,k9,ko,(by rw[jg];rfl),(by rw[hE];rfl),(by rw[bY];rfl),n7,fv,Bb,l,aj⟩
       | false=>
        rcases q7 x (by grind) with⟨b9,l⟩ | ⟨b9,l⟩
        ·skip
         rw[show av x=false from by grind[av,bh,bw,af]];exact Wp ⟨J,dI,mM,k9,ko,(by rw[jg];rfl),(by rw[hE];rfl),(by rw[bY];rfl),n7,fv,l,aj⟩
        skip
        rw[show av x=true from by grind[av,bh,bw,af]];exact Wq ⟨J,dI,mM,k9,ko,(by rw[jg];rfl),(by rw[hE];rfl),(by rw[bY];rfl),n7,fv,l,aj⟩
     | false=>
      rw[show av x=false from by grind[av,bh,bw,af]];exact Wk ⟨J,dI,mM,k9,ko,(by rw[jg];rfl),(by rw[hE];rfl),(by rw[bY];rfl),aj⟩
    | false=>
     rw[show av x=false from by grind[av,bh,bw,af]];exact Wj ⟨J,dI,mM,k9,ko,(by rw[jg];rfl),(by rw[hE];rfl),aj⟩
   | false=>
    rw[show av x=false from by grind[av,bh,bw,af]];exact Wi ⟨J,dI,mM,k9,ko,(by rw[jg];rfl),aj⟩
  | false=>
   cases dW:(x.kind==4) with
   | true=>
    have kp:=ht x.a 0 99;have o6:=ht x.kind 1 8;cases hX:(af x.kind 1 8) with
    | true=>
     cases ku:(af x.a 0 99) with
     | true=>
      cases mP:(x.b==0) with
      | true=>
       cases mQ:(decide ((↑(x.outs.map aY).length:Int)>2)) with
       | true=>
        rw[show av x=false from by grind[av,bh,bw,af]];exact Wu ⟨J,dI,dW,kp,o6,(by rw[hX];rfl),(by rw[ku];rfl),(by rw[mP];rfl),mQ,aj⟩
       | false=>
        cases pg:(x.kind==8) with
        | true=>
         cases la:(decide ((↑(x.outs.map aY).length:Int)>0)) with
         | true=>
          rw[show av x=false from by grind[av,bh,bw,af]];exact Wv ⟨J,dI,dW,kp,o6,(by rw[hX];rfl),(by rw[ku];rfl),(by rw[mP];rfl),mQ,pg,la,aj⟩
         | false=>
          rcases q7 x (by grind) with⟨b9,l⟩ | ⟨b9,l⟩
          ·skip
           rw[show av x=false from by grind[av,bh,bw,af]];exact Ww ⟨J,dI,dW,kp,o6,(by rw[hX];rfl),(by rw[ku];rfl),(by rw[mP];rfl),mQ,pg,la,l,aj⟩
          skip
          rw[show av x=true from by grind[av,bh,bw,af]];exact Wx ⟨J,dI,dW,kp,o6,(by rw[hX];rfl),(by rw[ku];rfl),(by rw[mP];rfl),mQ,pg,la,l,aj⟩
        | false=>
         rcases q7 x (by grind) with⟨b9,l⟩ | ⟨b9,l⟩
         ·skip
          rw[show av x=false from by grind[av,bh,bw,af]];exact Wy ⟨J,dI,dW,kp,o6,(by rw[hX];rfl),(by rw[ku];rfl),(by rw[mP];rfl),mQ,pg,l,aj⟩
         skip
         rw[show av x=true from by grind[av,bh,bw,af]];exact Wz ⟨J,dI,dW,kp,o6,(by rw[hX];rfl),(by rw[ku];rfl),(by rw[mP];rfl),mQ,pg,l,aj⟩
      | false=>
       rw[show av x=false from by grind[av,bh,bw,af]];exact Wt ⟨J,dI,dW,kp,o6,(by rw[hX];rfl),(by rw[ku];rfl),(by rw[mP];rfl),aj⟩
     | false=>
      rw[show av x=false from by grind[av,bh,bw,af]];exact Ws ⟨J,dI,dW,kp,o6,(by rw[hX];rfl),(by rw[ku];rfl),aj⟩
    | false=>
     rw[show av x=false from by grind[av,bh,bw,af]];exact Wr ⟨J,dI,dW,kp,o6,(by rw[hX];rfl),aj⟩
   | false=>
    have o7:=ht x.kind 1 8;cases ph:(af x.kind 1 8) with
    | true=>
     cases lS:(x.a==0) with
     | true=>
      cases ck:(x.b==0) with
      | true=>
       cases td:(decide ((↑(x.outs.map aY).length:Int)>2)) with
       | true=>
        rw[show av x=false from by grind[av,bh,bw,af]];exact WD ⟨J,dI,dW,o7,(by rw[ph];rfl),(by rw[lS];rfl),(by rw[ck];rfl),td,aj⟩
       | false=>
        cases ic:(x.kind==8) with
        | true=>
         cases ji:(decide ((↑(x.outs.map aY).length:Int)>0)) with
         | true=>
          rw[show av x=false from by grind[av,bh,bw,af]];exact WE ⟨J,dI,dW,o7,(by rw[ph];rfl),(by rw[lS];rfl),(by rw[ck];rfl),td,ic,ji,aj⟩
         | false=>
          rcases q7 x (by grind) with⟨b9,l⟩ | ⟨b9,l⟩
          ·skip
           rw[show av x=false from by grind[av,bh,bw,af]];exact WG ⟨J,dI,dW,o7,(by rw[ph];rfl),(by rw[lS];rfl),(by rw[ck];rfl),td,ic,ji,l,aj⟩
          skip
          rw[show av x=true from by grind[av,bh,bw,af]];exact V7 ⟨J,dI,dW,o7,(by rw[ph];rfl),(by rw[lS];rfl),(by rw[ck];rfl),td,ic,ji,l,aj⟩
        | false=>
         rcases q7 x (by grind) with⟨b9,l⟩ | ⟨b9,l⟩
         ·skip
          rw[show av x=false from by grind[av,bh,bw,af]];exact V8 ⟨J,dI,dW,o7,(by rw[ph];rfl),(by rw[lS];rfl),(by rw[ck];rfl),td,ic,l,aj⟩
         skip
         rw[show av x=true from by grind[av,bh,bw,af]];exact V9 ⟨J,dI,dW,o7,(by rw[ph];rfl),(by rw[lS];rfl),(by rw[ck];rfl),td,ic,l,aj⟩
      | false=>
       rw[show av x=false from by grind[av,bh,bw,af]];exact WC ⟨J,dI,dW,o7,(by rw[ph];rfl),(by rw[lS];rfl),(by rw[ck];rfl),aj⟩
     | false=>
      rw[show av x=false from by grind[av,bh,bw,af]];exact WB ⟨J,dI,dW,o7,(by rw[ph];rfl),(by rw[lS];rfl),aj⟩
    | false=>
     rw[show av x=false from by grind[av,bh,bw,af]];exact WA ⟨J,dI,dW,o7,(by rw[ph];rfl),aj⟩
theorem KX(x:Node)(ae:x.outs.length<=8388608):aA 50 [.agg x.e] [.one (B (av x))]:=by
 cases J:(x.kind==2) with
 | true=>
  have cL:=j' x.a 0 999;cases ax:(af x.a 0 999) with
  | true=>
   cases aJ:(x.b != 0) with
   | true=>
    rw[show av x=false from by grind[av,bh,bw,af]];exact Wa ⟨J,cL,(by rw[ax];rfl),aJ,aj⟩
   | false=>
    cases a1:(decide ((↑(x.outs.map aY).length:Int)>2)) with
    | true=>
     rw[show av x=false from by grind[av,bh,bw,af]];exact Wb ⟨J,cL,(by rw[ax];rfl),aJ,a1,aj⟩
    | false=>
     cases bt:(x.kind==8) with
     | true=>
      cases bQ:(decide ((↑(x.outs.map aY).length:Int)>0)) with
      | true=>
       rw[show av x=false from by grind[av,bh,bw,af]];exact Wc ⟨J,cL,(by rw[ax];rfl),aJ,a1,bt,bQ,aj⟩
      | false=>
       cases cZ:((↑(x.outs.map aY).length:Int)==2) with
       | true=>
        obtain⟨Au,pD⟩:=cT (xs:=x.outs) (i:=0) (by grind[af,ap]);obtain⟨xi,Ch⟩:=cT (xs:=x.outs) (i:=1) (by grind[af,ap]);cases gq:(Au==xi) with
        | true=>
         rw[show av x=false from by grind[av,bh,bw,af]];exact Wd ⟨J,cL,(by rw[ax];rfl),aJ,a1,bt,bQ,cZ,(by grind[af,ap]),(by grind[af,ap]),(bf aY pD),(by grind[af,ap]),(by grind[af,ap]),(bf aY Ch),gq,aj⟩
        | false=>
         rcases fC x ae with⟨b9,l⟩ | ⟨b9,l⟩
         ·skip
          rw[show av x=false from by grind[av,bh,bw,af]];exact XI ⟨J,cL,(by rw[ax];rfl),aJ,a1,bt,bQ,cZ,(by grind[af,ap]),(by grind[af,ap]),(bf aY pD),(by grind[af,ap]),(by grind[af,ap]),(bf aY Ch),gq,l,aj⟩
         skip
         rw[show av x=true from by grind[av,bh,bw,af]];exact XJ ⟨J,cL,(by rw[ax];rfl),aJ,a1,bt,bQ,cZ,(by grind[af,ap]),(by grind[af,ap]),(bf aY pD),(by grind[af,ap]),(by grind[af,ap]),(bf aY Ch),gq,l,aj⟩
       | false=>
        rcases fC x ae with⟨b9,l⟩ | ⟨b9,l⟩
        ·skip
         rw[show av x=false from by grind[av,bh,bw,af]];exact XK ⟨J,cL,(by rw[ax];rfl),aJ,a1,bt,bQ,cZ,l,aj⟩
        skip
        rw[show av x=true from by grind[av,bh,bw,af]];exact XL ⟨J,cL,(by rw[ax];rfl),aJ,a1,bt,bQ,cZ,l,aj⟩
     | false=>
      cases gH:((↑(x.outs.map aY).length:Int)==2) with
      | true=>
       obtain⟨Af,Cm⟩:=cT (xs:=x.outs) (i:=0) (by grind[af,ap]);obtain⟨Ag,Cn⟩:=cT (xs:=x.outs) (i:=1) (by grind[af,ap]);cases hE:(Af==Ag) with
       | true=>
        rw[show av x=false from by grind[av,bh,bw,af]];exact XM ⟨J,cL,(by rw[ax];rfl),aJ,a1,bt,gH,(by grind[af,ap]),(by grind[af,ap]),(bf aY Cm),(by grind[af,ap]),(by grind[af,ap]),(bf aY Cn),hE,aj⟩
       | false=>
        rcases fC x ae with⟨b9,l⟩ | ⟨b9,l⟩
        ·skip
         rw[show av x=false from by grind[av,bh,bw,af]];exact XN ⟨J,cL,(by rw[ax];rfl),aJ,a1,bt,gH,(by grind[af,ap]),(by grind[af,ap]),(bf aY Cm),(by grind[af,ap]),(by grind[af,ap]),(bf aY Cn),hE,l,aj⟩
        skip
        rw[show av x=true from by grind[av,bh,bw,af]];exact XO ⟨J,cL,(by rw[ax];rfl),aJ,a1,bt,gH,(by grind[af,ap]),(by grind[af,ap]),(bf aY Cm),(by grind[af,ap]),(by grind[af,ap]),(bf aY Cn),hE,l,aj⟩
      | false=>
       rcases fC x ae with⟨b9,l⟩ | ⟨b9,l⟩
       ·skip
        rw[show av x=false from by grind[av,bh,bw,af]];exact XP ⟨J,cL,(by rw[ax];rfl),aJ,a1,bt,gH,l,aj⟩
       skip
       rw[show av x=true from by grind[av,bh,bw,af]];exact XQ ⟨J,cL,(by rw[ax];rfl),aJ,a1,bt,gH,l,aj⟩
  | false=>
   rw[show av x=false from by grind[av,bh,bw,af]];exact V' ⟨J,cL,(by rw[ax];rfl),aj⟩
 | false=>
  cases bY:(x.kind==3) with
  | true=>
   have jG:=j' x.a 1 10;cases fv:(af x.a 1 10) with
   | true=>
    have hd:=j' x.b 0 (IntKind.i64.wrap (x.a-1));cases dW:(af x.b 0 (IntKind.i64.wrap (x.a-1))) with
    | true=>
     cases lR:(decide ((↑(x.outs.map aY).length:Int)>2)) with
     | true=>
      rw[show av x=false from by grind[av,bh,bw,af]];exact XT ⟨J,bY,jG,(by rw[fv];rfl),hd,(by rw[dW];rfl),lR,aj⟩
     | false=>
      cases jh:(x.kind==8) with
      | true=>
       cases hX:(decide ((↑(x.outs.map aY).length:Int)>0)) with
       | true=>
        rw[show av x=false from by grind[av,bh,bw,af]];exact XU ⟨J,bY,jG,(by rw[fv];rfl),hd,(by rw[dW];rfl),lR,jh,hX,aj⟩
       | false=>
        cases ku:((↑(x.outs.map aY).length:Int)==2) with
        | true=>
         obtain⟨Al,Co⟩:=cT (xs:=x.outs) (i:=0) (by grind[af,ap]);obtain⟨Am,Cp⟩:=cT (xs:=x.outs) (i:=1) (by grind[af,ap]);cases pg:(Al==Am) with
         | true=>
          rw[show av x=false from by grind[av,bh,bw,af]];exact XV ⟨J,bY,jG,(by rw[fv];rfl),hd,(by rw[dW];rfl),lR,jh,hX,ku,(by grind[af,ap]),(by grind[af,ap]),(bf aY Co),(by grind[af,ap]),(by grind[af,ap]),(bf aY Cp),pg,aj⟩
         | false=>
          rcases fC x ae with⟨b9,l⟩ | ⟨b9,l⟩
          ·skip
           rw[show av x=false from by grind[av,bh,bw,af]];exact XW ⟨J,bY,jG,(by rw[fv];rfl),hd,(by rw[dW];rfl),lR,jh,hX,ku,(by grind[af,ap]),(by grind[af,ap]),(bf aY Co),(by grind[af,ap]),(by grind[af,ap]),(bf aY Cp),pg,l,aj⟩
          skip
          rw[show av x=true from by grind[av,bh,bw,af]];exact XX ⟨J,bY,jG,(by rw[fv];rfl),hd,(by rw[dW];rfl),lR,jh,hX,ku,(by grind[af,ap]),(by grind[af,ap]),(bf aY Co),(by grind[af,ap]),(by grind[af,ap]),(bf aY Cp),pg,l,aj⟩
        | false=>
         rcases fC x ae with⟨b9,l⟩ | ⟨b9,l⟩
         ·skip
          rw[show av x=false from by grind[av,bh,bw,af]];exact XY ⟨J,bY,jG,(by rw[fv];rfl),hd,(by rw[dW];rfl),lR,jh,hX,ku,l,aj⟩
         skip
         rw[show av x=true from by grind[av,bh,bw,af]];exact XZ ⟨J,bY,jG,(by rw[fv];rfl),hd,(by rw[dW];rfl),lR,jh,hX,ku,l,aj⟩
      | false=>
       cases la:((↑(x.outs.map aY).length:Int)==2) with
       | true=>
        obtain⟨uK,Cq⟩:=cT (xs:=x.outs) (i:=0) (by grind[af,ap]);obtain⟨aef,Cr⟩:=cT (xs:=x.outs) (i:=1) (by grind[af,ap]);cases lS:(uK==aef) with
        | true=>
         rw[show av x=false from by grind[av,bh,bw,af]];exact X0 ⟨J,bY,jG,(by rw[fv];rfl),hd,(by rw[dW];rfl),lR,jh,la,(by grind[af,ap]),(by grind[af,ap]),(bf aY Cq),(by grind[af,ap]),(by grind[af,ap]),(bf aY Cr),lS,aj⟩
        | false=>
         rcases fC x ae with⟨b9,l⟩ | ⟨b9,l⟩
         ·skip
          rw[show av x=false from by grind[av,bh,bw,af]];exact X1 ⟨J,bY,jG,(by rw[fv];rfl),hd,(by rw[dW];rfl),lR,jh,la,(by grind[af,ap]),(by grind[af,ap]),(bf aY Cq),(by grind[af,ap]),(by grind[af,ap]),(bf aY Cr),lS,l,aj⟩
         skip
         rw[show av x=true from by grind[av,bh,bw,af]];exact X2 ⟨J,bY,jG,(by rw[fv];rfl),hd,(by rw[dW];rfl),lR,jh,la,(by grind[af,ap]),(by grind[af,ap]),(bf aY Cq),(by grind[af,ap]),(by grind[af,ap]),(bf aY Cr),lS,l,aj⟩
       | false=>
        rcases fC x ae with⟨b9,l⟩ | ⟨b9,l⟩
        ·skip
         rw[show av x=false from by grind[av,bh,bw,af]];exact X3 ⟨J,bY,jG,(by rw[fv];rfl),hd,(by rw[dW];rfl),lR,jh,la,l,aj⟩
        skip
        rw[show av x=true from by grind[av,bh,bw,af]];exact X4 ⟨J,bY,jG,(by rw[fv];rfl),hd,(by rw[dW];rfl),lR,jh,la,l,aj⟩
    | false=>
     rw[show av x=false from by grind[av,bh,bw,af]];exact XS ⟨J,bY,jG,(by rw[fv];rfl),hd,(by rw[dW];rfl),aj⟩
   | false=>
    rw[show av x=false from by grind[av,bh,bw,af]];exact XR ⟨J,bY,jG,(by rw[fv];rfl),aj⟩
  | false=>
   cases ck:(x.kind==4) with
   | true=>
    have kq:=j' x.a 0 99;cases ic:(af x.a 0 99) with
    | true=>
     cases ji:(x.b != 0) with
     | true=>
      rw[show av x=false from by grind[av,bh,bw,af]];exact X6 ⟨J,bY,ck,kq,(by rw[ic];rfl),ji,aj⟩
     | false=>
      cases lT:(decide ((↑(x.outs.map aY).length:Int)>2)) with
      | true=>
       rw[show av x=false from by grind[av,bh,bw,af]];exact Xh ⟨J,bY,ck,kq,(by rw[ic];rfl),ji,lT,aj⟩
      | false=>
       cases mR:(x.kind==8) with
       | true=>
        cases te:(decide ((↑(x.outs.map aY).length:Int)>0)) with
        | true=>
         rw[show av x=false from by grind[av,bh,bw,af]];exact Xi ⟨J,bY,ck,kq,(by rw[ic];rfl),ji,lT,mR,te,aj⟩
        | false=>
         cases u9:((↑(x.outs.map aY).length:Int)==2) with
         | true=>
          obtain⟨aeg,Cs⟩:=cT (xs:=x.outs) (i:=0) (by grind[af,ap]);obtain⟨aeh,Ct⟩:=cT (xs:=x.outs) (i:=1) (by grind[af,ap]);cases Bc:(aeg==aeh) with
          | true=>
           rw[show av x=false from by grind[av,bh,bw,af]];exact Xj ⟨J,bY,ck,kq,(by rw[ic];rfl),ji,lT,mR,te,u9,(by grind[af,ap]),(by grind[af,ap]),(bf aY Cs),(by grind[af,ap]),(by grind[af,ap]),(bf aY Ct),Bc,aj⟩
          | false=>
           rcases fC x ae with⟨b9,l⟩ | ⟨b9,l⟩
           ·skip
            rw[show av x=false from by grind[av,bh,bw,af]];exact Xk ⟨J,bY,ck,kq,(by rw[ic];rfl),ji,lT,mR,te,u9,(by grind[af,ap]),(by grind[af,ap]),(bf aY Cs),(by grind[af,ap]),(by grind[af,ap]),(bf aY Ct),Bc,l,aj⟩
           skip
           rw[show av x=true from by grind[av,bh,bw,af]];exact Xl ⟨J,bY,ck,kq,(by rw[ic];rfl),ji,lT,mR,te,u9,(by grind[af,ap]),(by grind[af,ap]),(bf aY Cs),(by grind[af,ap]),(by grind[af,ap]),(bf aY Ct),Bc,l,aj⟩
         | false=>
          rcases fC x ae with⟨b9,l⟩ | ⟨b9,l⟩
          ·skip
           rw[show av x=false from by grind[av,bh,bw,af]];exact Xm ⟨J,bY,ck,kq,(by rw[ic];rfl),ji,lT,mR,te,u9,l,aj⟩
          skip
          rw[show av x=true from by grind[av,bh,bw,af]];exact Xn ⟨J,bY,ck,kq,(by rw[ic];rfl),ji,lT,mR,te,u9,l,aj⟩
       | false=>
        cases u':((↑(x.outs.map aY).length:Int)==2) with
        | true=>
         obtain⟨aei,Cu⟩:=cT (xs:=x.outs) (i:=0) (by grind[af,ap]);obtain⟨aej,Cv⟩:=cT (xs:=x.outs) (i:=1) (by grind[af,ap]);cases Bd:(aei==aej) with
         | true=>
          rw[show av x=false from by grind[av,bh,bw,af]];exact Xo ⟨J,bY,ck,kq,(by rw[ic];rfl),ji,lT,mR,u',(by grind[af,ap]),(by grind[af,ap]),(bf aY Cu),(by grind[af,ap]),(by grind[af,ap]),(bf aY Cv),Bd,aj⟩
         | false=>
          rcases fC x ae with⟨b9,l⟩ | ⟨b9,l⟩
          ·skip
           rw[show av x=false from by grind[av,bh,bw,af]];exact Xp ⟨J,bY,ck,kq,(by rw[ic];rfl),ji,lT,mR,u',(by grind[af,ap]),(by grind[af,ap]),(bf aY Cu),(by grind[af,ap]),(by grind[af,ap]),(bf aY Cv),Bd,l,aj⟩
          skip
          rw[show av x=true from by grind[av,bh,bw,af]];exact Xq ⟨J,bY,ck,kq,(by rw[ic];rfl),ji,lT,mR,u',(by grind[af,ap]),(by grind[af,ap]),(bf aY Cu),(by grind[af,ap]),(by grind[af,ap]),(bf aY Cv),Bd,l,aj⟩
        | false=>
         rcases fC x ae with⟨b9,l⟩ | ⟨b9,l⟩
         ·skip
          rw[show av x=false from by grind[av,bh,bw,af]];exact Xr ⟨J,bY,ck,kq,(by rw[ic];rfl),ji,lT,mR,u',l,aj⟩
         skip
         rw[show av x=true from by grind[av,bh,bw,af]];exact Xs ⟨J,bY,ck,kq,(by rw[ic];rfl),ji,lT,mR,u',l,aj⟩
    | false=>
     rw[show av x=false from by grind[av,bh,bw,af]];exact X5 ⟨J,bY,ck,kq,(by rw[ic];rfl),aj⟩
   | false=>
    cases cw:(x.kind==1) with
    | true=>
     cases kv:(x.a != 0) with
     | true=>
      rw[show av x=false from by grind[av,bh,bw,af]];exact Xt ⟨J,bY,ck,cw,cw,kv,aj⟩
     | false=>
      cases lb:(x.b != 0) with
      | true=>
       rw[show av x=false from by grind[av,bh,bw,af]];exact Xu ⟨J,bY,ck,cw,cw,kv,lb,aj⟩
      | false=>
       cases lU:(decide ((↑(x.outs.map aY).length:Int)>2)) with
       | true=>
        rw[show av x=false from by grind[av,bh,bw,af]];exact Xv ⟨J,bY,ck,cw,cw,kv,lb,lU,aj⟩
       | false=>
        cases mS:(x.kind==8) with
        | true=>
         cases tf:(decide ((↑(x.outs.map aY).length:Int)>0)) with
         | true=>
          rw[show av x=false from by grind[av,bh,bw,af]];exact Xw ⟨J,bY,ck,cw,cw,kv,lb,lU,mS,tf,aj⟩
         | false=>
          cases va:((↑(x.outs.map aY).length:Int)==2) with
          | true=>
           obtain⟨aek,Cw⟩:=cT (xs:=x.outs) (i:=0) (by grind[af,ap]);obtain⟨ael,Cx⟩:=cT (xs:=x.outs) (i:=1) (by grind[af,ap]);cases Be:(aek==ael) with
           | true=>
            rw[show av x=false from by grind[av,bh,bw,af]];exact Xx ⟨J,bY,ck,cw,cw,kv,lb,lU,mS,tf,va,(by grind[af,ap]),(by grind[af,ap]),(bf aY Cw),(by grind[af,ap]),(by grind[af,ap]),(bf aY Cx),Be,aj⟩
           | false=>
            rcases fC x ae with⟨b9,l⟩ | ⟨b9,l⟩
            ·skip
             rw[show av x=false from by grind[av,bh,bw,af]];exact Xy ⟨J,bY,ck,cw,cw,kv,lb,lU,mS,tf,va,(by grind[af,ap]),(by grind[af,ap]),(bf aY Cw),(by grind[af,ap]),(by grind[af,ap]),(bf aY Cx),Be,l,aj⟩
            skip
            rw[show av x=true from by grind[av,bh,bw,af]];exact Xz ⟨J,bY,ck,cw,cw,kv,lb,lU,mS,tf,va,(by grind[af,ap]),(by grind[af,ap]),(bf aY Cw),(by grind[af,ap]),(by grind[af,ap]),(bf aY Cx),Be,l,aj⟩
          | false=>
           rcases fC x ae with⟨b9,l⟩ | ⟨b9,l⟩
           ·skip
            rw[show av x=false from by grind[av,bh,bw,af]];exact XA ⟨J,bY,ck,cw,cw,kv,lb,lU,mS,tf,va,l,aj⟩
           skip
           rw[show av x=true from by grind[av,bh,bw,af]];exact XB ⟨J,bY,ck,cw,cw,kv,lb,lU,mS,tf,va,l,aj⟩
        | false=>
         cases vb:((↑(x.outs.map aY).length:Int)==2) with
         | true=>
          obtain⟨aem,Cy⟩:=cT (xs:=x.outs) (i:=0) (by grind[af,ap]);obtain⟨aen,Cz⟩:=cT (xs:=x.outs) (i:=1) (by grind[af,ap]);cases Bf:(aem==aen) with
          | true=>
           rw[show av x=false from by grind[av,bh,bw,af]];exact XC ⟨J,bY,ck,cw,cw,kv,lb,lU,mS,vb,(by grind[af,ap]),(by grind[af,ap]),(bf aY Cy),(by grind[af,ap]),(by grind[af,ap]),(bf aY Cz),Bf,aj⟩
          | false=>
           rcases fC x ae with⟨b9,l⟩ | ⟨b9,l⟩
           ·skip
            rw[show av x=false from by grind[av,bh,bw,af]];exact XD ⟨J,bY,ck,cw,cw,kv,lb,lU,mS,vb,(by grind[af,ap]),(by grind[af,ap]),(bf aY Cy),(by grind[af,ap]),(by grind[af,ap]),(bf aY Cz),Bf,l,aj⟩
           skip
           rw[show av x=true from by grind[av,bh,bw,af]];exact XE ⟨J,bY,ck,cw,cw,kv,lb,lU,mS,vb,(by grind[af,ap]),(by grind[af,ap]),(bf aY Cy),(by grind[af,ap]),(by grind[af,ap]),(bf aY Cz),Bf,l,aj⟩
         | false=>
          rcases fC x ae with⟨b9,l⟩ | ⟨b9,l⟩
          ·skip
           rw[show av x=false from by grind[av,bh,bw,af]];exact XF ⟨J,bY,ck,cw,cw,kv,lb,lU,mS,vb,l,aj⟩
          skip
          rw[show av x=true from by grind[av,bh,bw,af]];exact XG ⟨J,bY,ck,cw,cw,kv,lb,lU,mS,vb,l,aj⟩
    | false=>
     cases cS:(x.kind==5) with
     | true=>
      cases kx:(x.a != 0) with
      | true=>
       rw[show av x=false from by grind[av,bh,bw,af]];exact W8 ⟨J,bY,ck,cw,cS,cS,kx,aj⟩
      | false=>
       cases lc:(x.b != 0) with
       | true=>
        rw[show av x=false from by grind[av,bh,bw,af]];exact W9 ⟨J,bY,ck,cw,cS,cS,kx,lc,aj⟩
       | false=>
        cases lV:(decide ((↑(x.outs.map aY).length:Int)>2)) with
        | true=>
         rw[show av x=false from by grind[av,bh,bw,af]];exact W' ⟨J,bY,ck,cw,cS,cS,kx,lc,lV,aj⟩
        | false=>
         cases mT:(x.kind==8) with
         | true=>
          cases tg:(decide ((↑(x.outs.map aY).length:Int)>0)) with
          | true=>
           rw[show av x=false from by grind[av,bh,bw,af]];exact Xa ⟨J,bY,ck,cw,cS,cS,kx,lc,lV,mT,tg,aj⟩
          | false=>
           cases vd:((↑(x.outs.map aY).length:Int)==2) with
           | true=>
            obtain⟨aeo,CA⟩:=cT (xs:=x.outs) (i:=0) (by grind[af,ap]);obtain⟨aep,CB⟩:=cT (xs:=x.outs) (i:=1) (by grind[af,ap]);cases Bg:(aeo==aep) with
            | true=>
             rw[show av x=false from by grind[av,bh,bw,af]];exact Xb ⟨J,bY,ck,cw,cS,cS,kx,lc,lV,mT,tg,vd,(by grind[af,ap]),(by grind[af,ap]),(bf aY CA),(by grind[af,ap]),(by grind[af,ap]),(bf aY CB),Bg,aj⟩
            | false=>
             rcases fC x ae with⟨b9,l⟩ | ⟨b9,l⟩
             ·skip
              rw[show av x=false from by grind[av,bh,bw,af]];exact Xc ⟨J,bY,ck,cw,cS,cS,kx,lc,lV,mT,tg,vd,(by grind[af,ap]),(by grind[af,ap]),(bf aY CA),(by grind[af,ap]),(by grind[af,ap]),(bf aY CB),Bg,l,aj⟩
             skip
             rw[show av x=true from by grind[av,bh,bw,af]];exact Xd ⟨J,bY,ck,cw,cS,cS,kx,lc,lV,mT,tg,vd,(by grind[af,ap]),(by grind[af,ap]),(bf aY CA),(by grind[af,ap]),(by grind[af,ap]),(bf aY CB),Bg,l,aj⟩
           | false=>
            rcases fC x ae with⟨b9,l⟩ | ⟨b9,l⟩
            ·skip
             rw[show av x=false from by grind[av,bh,bw,af]];exact Xe ⟨J,bY,ck,cw,cS,cS,kx,lc,lV,mT,tg,vd,l,aj⟩
            skip
            rw[show av x=true from by grind[av,bh,bw,af]];exact Xf ⟨J,bY,ck,cw,cS,cS,kx,lc,lV,mT,tg,vd,l,aj⟩
         | false=>
          cases ve:((↑(x.outs.map aY).length:Int)==2) with
          | true=>
           obtain⟨aeq,CC⟩:=cT (xs:=x.outs) (i:=0) (by grind[af,ap]);obtain⟨aer,CD⟩:=cT (xs:=x.outs) (i:=1) (by grind[af,ap]);cases Bh:(aeq==aer) with
           | true=>
            rw[show av x=false from by grind[av,bh,bw,af]];exact Xg ⟨J,bY,ck,cw,cS,cS,kx,lc,lV,mT,ve,(by grind[af,ap]),(by grind[af,ap]),(bf aY CC),(by grind[af,ap]),(by grind[af,ap]),(bf aY CD),Bh,aj⟩
           | false=>
            rcases fC x ae with⟨b9,l⟩ | ⟨b9,l⟩
            ·skip
             rw[show av x=false from by grind[av,bh,bw,af]];exact YG ⟨J,bY,ck,cw,cS,cS,kx,lc,lV,mT,ve,(by grind[af,ap]),(by grind[af,ap]),(bf aY CC),(by grind[af,ap]),(by grind[af,ap]),(bf aY CD),Bh,l,aj⟩
            skip
            rw[show av x=true from by grind[av,bh,bw,af]];exact YH ⟨J,bY,ck,cw,cS,cS,kx,lc,lV,mT,ve,(by grind[af,ap]),(by grind[af,ap]),(bf aY CC),(by grind[af,ap]),(by grind[af,ap]),(bf aY CD),Bh,l,aj⟩
          | false=>
           rcases fC x ae with⟨b9,l⟩ | ⟨b9,l⟩
           ·skip
            rw[show av x=false from by grind[av,bh,bw,af]];exact YI ⟨J,bY,ck,cw,cS,cS,kx,lc,lV,mT,ve,l,aj⟩
           skip
           rw[show av x=true from by grind[av,bh,bw,af]];exact YJ ⟨J,bY,ck,cw,cS,cS,kx,lc,lV,mT,ve,l,aj⟩
     | false=>
      cases dz:(x.kind==6) with
      | true=>
       cases ky:(x.a != 0) with
       | true=>
        rw[show av x=false from by grind[av,bh,bw,af]];exact YK ⟨J,bY,ck,cw,cS,dz,dz,ky,aj⟩
       | false=>
        cases ld:(x.b != 0) with
        | true=>
         rw[show av x=false from by grind[av,bh,bw,af]];exact YM ⟨J,bY,ck,cw,cS,dz,dz,ky,ld,aj⟩
        | false=>
         cases lW:(decide ((↑(x.outs.map aY).length:Int)>2)) with
         | true=>
          rw[show av x=false from by grind[av,bh,bw,af]];exact YN ⟨J,bY,ck,cw,cS,dz,dz,ky,ld,lW,aj⟩
         | false=>
          cases mU:(x.kind==8) with
          | true=>
           cases th:(decide ((↑(x.outs.map aY).length:Int)>0)) with
           | true=>
            rw[show av x=false from by grind[av,bh,bw,af]];exact YO ⟨J,bY,ck,cw,cS,dz,dz,ky,ld,lW,mU,th,aj⟩
           | false=>
            cases vf:((↑(x.outs.map aY).length:Int)==2) with
            | true=>
             obtain⟨aes,CE⟩:=cT (xs:=x.outs) (i:=0) (by grind[af,ap]);obtain⟨aet,CF⟩:=cT (xs:=x.outs) (i:=1) (by grind[af,ap]);cases Bi:(aes==aet) with
             | true=>
              rw[show av x=false from by grind[av,bh,bw,af]];exact YP ⟨J,bY,ck,cw,cS,dz,dz,ky,ld,lW,mU,th,vf,(by grind[af,ap]),(by grind[af,ap]),(bf aY CE),(by grind[af,ap]),(by grind[af,ap]),(bf aY CF),Bi,aj⟩
             | false=>
              rcases fC x ae with⟨b9,l⟩ | ⟨b9,l⟩
              ·skip
               rw[show av x=false from by grind[av,bh,bw,af]];exact YQ ⟨J,bY,ck,cw,cS,dz,dz,ky,ld,lW,mU,th,vf,(by grind[af,ap]),(by grind[af,ap]),(bf aY CE),(by grind[af,ap]),(by grind[af,ap]),(bf aY CF),Bi,l,aj⟩
              skip
              rw[show av x=true from by grind[av,bh,bw,af]];exact YR ⟨J,bY,ck,cw,cS,dz,dz,ky,ld,lW,mU,th,vf,(by grind[af,ap]),(by grind[af,ap]),(bf aY CE),(by grind[af,ap]),(by grind[af,ap]),(bf aY CF),Bi,l,aj⟩
            | false=>
             rcases fC x ae with⟨b9,l⟩ | ⟨b9,l⟩
             ·skip
              rw[show av x=false from by grind[av,bh,bw,af]];exact YS ⟨J,bY,ck,cw,cS,dz,dz,ky,ld,lW,mU,th,vf,l,aj⟩
             skip
             rw[show av x=true from by grind[av,bh,bw,af]];exact YT ⟨J,bY,ck,cw,cS,dz,dz,ky,ld,lW,mU,th,vf,l,aj⟩
          | false=>
           cases vg:((↑(x.outs.map aY).length:Int)==2) with
           | true=>
            obtain⟨aeu,CG⟩:=cT (xs:=x.outs) (i:=0) (by grind[af,ap]);obtain⟨aev,CH⟩:=cT (xs:=x.outs) (i:=1) (by grind[af,ap]);cases Bj:(aeu==aev) with
            | true=>
             rw[show av x=false from by grind[av,bh,bw,af]];exact YU ⟨J,bY,ck,cw,cS,dz,dz,ky,ld,lW,mU,vg,(by grind[af,ap]),(by grind[af,ap]),(bf aY CG),(by grind[af,ap]),(by grind[af,ap]),(bf aY CH),Bj,aj⟩
            | false=>
             rcases fC x ae with⟨b9,l⟩ | ⟨b9,l⟩
             ·skip
              rw[show av x=false from by grind[av,bh,bw,af]];exact YV ⟨J,bY,ck,cw,cS,dz,dz,ky,ld,lW,mU,vg,(by grind[af,ap]),(by grind[af,ap]),(bf aY CG),(by grind[af,ap]),(by grind[af,ap]),(bf aY CH),Bj,l,aj⟩
             skip
             rw[show av x=true from by grind[av,bh,bw,af]];exact YW ⟨J,bY,ck,cw,cS,dz,dz,ky,ld,lW,mU,vg,(by grind[af,ap]),(by grind[af,ap]),(bf aY CG),(by grind[af,ap]),(by grind[af,ap]),(bf aY CH),Bj,l,aj⟩
           | false=>
            rcases fC x ae with⟨b9,l⟩ | ⟨b9,l⟩
            ·skip
             rw[show av x=false from by grind[av,bh,bw,af]];exact YX ⟨J,bY,ck,cw,cS,dz,dz,ky,ld,lW,mU,vg,l,aj⟩
            skip
            rw[show av x=true from by grind[av,bh,bw,af]];exact YY ⟨J,bY,ck,cw,cS,dz,dz,ky,ld,lW,mU,vg,l,aj⟩
      | false=>
       cases ez:(x.kind==7) with
       | true=>
        cases kz:(x.a != 0) with
        | true=>
         rw[show av x=false from by grind[av,bh,bw,af]];exact YZ ⟨J,bY,ck,cw,cS,dz,ez,ez,kz,aj⟩
        | false=>
         cases lf:(x.b != 0) with
         | true=>
          rw[show av x=false from by grind[av,bh,bw,af]];exact Y0 ⟨J,bY,ck,cw,cS,dz,ez,ez,kz,lf,aj⟩
         | false=>
          cases lX:(decide ((↑(x.outs.map aY).length:Int)>2)) with
          | true=>
           rw[show av x=false from by grind[av,bh,bw,af]];exact Y1 ⟨J,bY,ck,cw,cS,dz,ez,ez,kz,lf,lX,aj⟩
          | false=>
           cases mV:(x.kind==8) with
           | true=>
            cases ti:(decide ((↑(x.outs.map aY).length:Int)>0)) with
            | true=>
             rw[show av x=false from by grind[av,bh,bw,af]];exact Y2 ⟨J,bY,ck,cw,cS,dz,ez,ez,kz,lf,lX,mV,ti,aj⟩
            | false=>
             cases vh:((↑(x.outs.map aY).length:Int)==2) with
             | true=>
              obtain⟨aew,CI⟩:=cT (xs:=x.outs) (i:=0) (by grind[af,ap]);obtain⟨aex,CJ⟩:=cT (xs:=x.outs) (i:=1) (by grind[af,ap]);cases Bk:(aew==aex) with
              | true=>
               rw[show av x=false from by grind[av,bh,bw,af]];exact Y3 ⟨J,bY,ck,cw,cS,dz,ez,ez,kz,lf,lX,mV,ti,vh,(by grind[af,ap]),(by grind[af,ap]),(bf aY CI),(by grind[af,ap]),(by grind[af,ap]),(bf aY CJ),Bk,aj⟩
              | false=>
               rcases fC x ae with⟨b9,l⟩ | ⟨b9,l⟩
               ·skip
                rw[show av x=false from by grind[av,bh,bw,af]];exact Y4 ⟨J,bY,ck,cw,cS,dz,ez,ez,kz,lf,lX,mV,ti,vh,(by grind[af,ap]),(by grind[af,ap]),(bf aY CI),(by grind[af,ap]),(by grind[af,ap]),(bf aY CJ),Bk,l,aj⟩
               skip
               rw[show av x=true from by grind[av,bh,bw,af]];exact Y5 ⟨J,bY,ck,cw,cS,dz,ez,ez,kz,lf,lX,mV,ti,vh,(by grind[af,ap]),(by grind[af,ap]),(bf aY CI),(by grind[af,ap]),(by grind[af,ap]),(bf aY CJ),Bk,l,aj⟩
             | false=>
              rcases fC x ae with⟨b9,l⟩ | ⟨b9,l⟩
              ·skip
               rw[show av x=false from by grind[av,bh,bw,af]];exact Yg ⟨J,bY,ck,cw,cS,dz,ez,ez,kz,lf,lX,mV,ti,vh,l,aj⟩
              skip
              rw[show av x=true from by grind[av,bh,bw,af]];exact Yh ⟨J,bY,ck,cw,cS,dz,ez,ez,kz,lf,lX,mV,ti,vh,l,aj⟩
           | false=>
            cases vi:((↑(x.outs.map aY).length:Int)==2) with
            | true=>
             obtain⟨aeb,Ci⟩:=cT (xs:=x.outs) (i:=0) (by grind[af,ap]);obtain⟨aec,Cj⟩:=cT (xs:=x.outs) (i:=1) (by grind[af,ap]);cases A':(aeb==aec) with
             | true=>
              rw[show av x=false from by grind[av,bh,bw,af]];exact Yi ⟨J,bY,ck,cw,cS,dz,ez,ez,kz,lf,lX,mV,vi,(by grind[af,ap]),(by grind[af,ap]),(bf aY Ci),(by grind[af,ap]),(by grind[af,ap]),(bf aY Cj),A',aj⟩
             | false=>
              rcases fC x ae with⟨b9,l⟩ | ⟨b9,l⟩
              ·skip
               rw[show av x=false from by grind[av,bh,bw,af]];exact Yj ⟨J,bY,ck,cw,cS,dz,ez,ez,kz,lf,lX,mV,vi,(by grind[af,ap]),(by grind[af,ap]),(bf aY Ci),(by grind[af,ap]),(by grind[af,ap]),(bf aY Cj),A',l,aj⟩
              skip
              rw[show av x=true from by grind[av,bh,bw,af]];exact Yk ⟨J,bY,ck,cw,cS,dz,ez,ez,kz,lf,lX,mV,vi,(by grind[af,ap]),(by grind[af,ap]),(bf aY Ci),(by grind[af,ap]),(by grind[af,ap]),(bf aY Cj),A',l,aj⟩
            | false=>
             rcases fC x ae with⟨b9,l⟩ | ⟨b9,l⟩
             ·skip
              rw[show av x=false from by grind[av,bh,bw,af]];exact Yl ⟨J,bY,ck,cw,cS,dz,ez,ez,kz,lf,lX,mV,vi,l,aj⟩
             skip
             rw[show av x=true from by grind[av,bh,bw,af]];exact Ym ⟨J,bY,ck,cw,cS,dz,ez,ez,kz,lf,lX,mV,vi,l,aj⟩
       | false=>
        cases jI:(x.kind==8) with
        | true=>
         cases pf:(x.a != 0) with
         | true=>
          rw[show av x=false from by grind[av,bh,bw,af]];exact Yn ⟨J,bY,ck,cw,cS,dz,ez,jI,pf,aj⟩
         | false=>
          cases qn:(x.b != 0) with
          | true=>
           rw[show av x=false from by grind[av,bh,bw,af]];exact Yo ⟨J,bY,ck,cw,cS,dz,ez,jI,pf,qn,aj⟩
          | false=>
           cases rH:(decide ((↑(x.outs.map aY).length:Int)>2)) with
           | true=>
            rw[show av x=false from by grind[av,bh,bw,af]];exact Yp ⟨J,bY,ck,cw,cS,dz,ez,jI,pf,qn,rH,aj⟩
           | false=>
            cases tc:(decide ((↑(x.outs.map aY).length:Int)>0)) with
            | true=>
             rw[show av x=false from by grind[av,bh,bw,af]];exact Yq ⟨J,bY,ck,cw,cS,dz,ez,jI,pf,qn,rH,jI,tc,aj⟩
            | false=>
             cases u6:((↑(x.outs.map aY).length:Int)==2) with
             | true=>
              obtain⟨aed,Ck⟩:=cT (xs:=x.outs) (i:=0) (by grind[af,ap]);obtain⟨aee,Cl⟩:=cT (xs:=x.outs) (i:=1) (by grind[af,ap]);cases Ba:(aed==aee) with
              | true=>
               rw[show av x=false from by grind[av,bh,bw,af]];exact Yr ⟨J,bY,ck,cw,cS,dz,ez,jI,pf,qn,rH,jI,tc,u6,(by grind[af,ap]),(by grind[af,ap]),(bf aY Ck),(by grind[af,ap]),(by grind[af,ap]),(bf aY Cl),Ba,aj⟩
              | false=>
               rcases fC x ae with⟨b9,l⟩ | ⟨b9,l⟩
               ·skip
                rw[show av x=false from by grind[av,bh,bw,af]];exact Ys ⟨J,bY,ck,cw,cS,dz,ez,jI,pf,qn,rH,jI,tc,u6,(by grind[af,ap]),(by grind[af,ap]),(bf aY Ck),(by grind[af,ap]),(by grind[af,ap]),(bf aY Cl),Ba,l,aj⟩
               skip
               rw[show av x=true from by grind[av,bh,bw,af]];exact Yt ⟨J,bY,ck,cw,cS,dz,ez,jI,pf,qn,rH,jI,tc,u6,(by grind[af,ap]),(by grind[af,ap]),(bf aY Ck),(by grind[af,ap]),(by grind[af,ap]),(bf aY Cl),Ba,l,aj⟩
             | false=>
              rcases fC x ae with⟨b9,l⟩ | ⟨b9,l⟩
              ·skip
               rw[show av x=false from by grind[av,bh,bw,af]];exact Yu ⟨J,bY,ck,cw,cS,dz,ez,jI,pf,qn,rH,jI,tc,u6,l,aj⟩
              skip
              rw[show av x=true from by grind[av,bh,bw,af]];exact Yv ⟨J,bY,ck,cw,cS,dz,ez,jI,pf,qn,rH,jI,tc,u6,l,aj⟩
        | false=>
         rw[show av x=false from by grind[av,bh,bw,af]];exact Yw ⟨J,bY,ck,cw,cS,dz,ez,jI,aj⟩
