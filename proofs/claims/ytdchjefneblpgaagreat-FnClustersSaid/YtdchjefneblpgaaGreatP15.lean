import Derived.Test.YtdchjefneblpgaaGreatP21
import Derived.Test.YtdchjefneblpgaaGreatGQ
import Derived.Test.YtdchjefneblpgaaGreatGR
set_option linter.unusedVariables false
set_option linter.unusedSimpArgs false
namespace Go.Proofs.YtdchjefneblpgaaGreat
open Go.Sx Go.RowKit Go.Proofs.Tryz
def iL(s:hG):Bool:=ar s.bh 0 3&&ar s.di 0 6
def gu(k v:Int):Bool:=ar k 0 99&&ar v 0 999
def eL(r:aB):Bool:=ar r.op 0 7&&iL r.bq&&gu r.key r.val
def gJ(s:hG):hG×Bool:=if iL s&&decide (s.di<6) then (⟨s.bh,s.di+1⟩,true) else (s,false)
def less(a b:Int):Int:=if b<a then b else a
def b0(x:Node):Bool:=
 if x.kind=2 then ar x.a 0 999&&x.b==0
 else if x.kind=3 then ar x.a 1 10&&ar x.b 0 (IntKind.i64.wrap (x.a-1))
 else if x.kind=4 then ar x.a 0 99&&x.b==0
 else ar x.kind 1 8&&x.a==0&&x.b==0
def nL(l:List Int):Bool:=!(l.any fun k=>!ar k 0 7)
def b4(l:List Int):Bool:=decide (l.length=2/\l[0]?=l[1]?)
def aL(x:Node):Bool:=b0 x&&decide (x.outs.length<=2)&&!(x.kind==8&&decide (0<x.outs.length))&&!b4 x.outs&&nL x.outs
theorem look{α:Type}{xs:List α}{i:Int}(bg:0<=i)(h1:i<xs.length):∃a,xs[i.toNat]?=some a:=db (by omega)
theorem bW{α:Type}{xs:List α}{i:Nat}{a:α}(f:α->List D)(h:xs[i]?=some a):(xs.map f)[i]?=some (f a):=by simp[h]
theorem hl(x:Node)(aa:x.outs.length<=8388608):(nL x.outs=false/\c' prog (aq f273 0) (dJ (x.outs.map bb) 0) .ret (gI false))\/(nL x.outs=true/\c' prog (aq f273 0) (dJ (x.outs.map bb) 0) (.exit 1) gT):=by
 have l:=hM (P:=prog) (c:=(aq f273 0)) x.outs (fun k=>!ar k 0 7) (fun i=>dJ (x.outs.map bb) i) (X:=fun _ _=>gI false) dZ (cC 1)
  (fun i a ae h=>afy ⟨bV (aP ae),bk,bm (aP ae),bl bb ae,kR a 0 7,h,c3 (aP ae) aa,ad⟩)
  (fun i a ae h=>afx ⟨bV (aP ae),bk,bm (aP ae),bl bb ae,kR a 0 7,h,ad⟩)
  (afz ⟨dk,ad⟩)
 unfold nL;rcases l with⟨_,_,h1,U⟩ | ⟨i,a,_,_,_,_,h1,U⟩
 ·exact .inr ⟨by rw[h1];rfl,U⟩
 exact .inl ⟨by rw[h1];rfl,U⟩
theorem uY(x:Node)(aa:x.outs.length<=2):((nL x.outs&&!b4 x.outs)=false/\c' prog (aq f243 0) (hY x.kind x.a x.b (x.outs.map bb) 0) .ret (qy false))\/((nL x.outs&&!b4 x.outs)=true/\c' prog (aq f243 0) (hY x.kind x.a x.b (x.outs.map bb) 0) (.exit 1) rT):=by
 obtain⟨QJ,a,b,outs⟩:=x;have cl:=fun k=>iJ k 0 7
 match outs,aa with
 | [],_=>exact .inr ⟨rfl,.last (cC 1) (Lp ⟨rfl,ad⟩)⟩
 | [k],_=>
  cases h1:ar k 0 7 with
  | false=>exact .inl ⟨by simp[nL,h1],.last dZ (Lo ⟨rfl,by omega,by simp,rfl,cl k,by rw[h1];rfl,ad⟩)⟩
  | true=>
   refine .inr ⟨by simp[nL,b4,h1],.more (Ua ⟨rfl,by omega,by simp,rfl,cl k,by rw[h1];rfl,rfl,⟨by omega,by omega⟩,ad⟩) (.last (cC 1) (Lp ⟨rfl,ad⟩))⟩
 | [k,m],_=>
  cases h1:ar k 0 7 with
  | false=>exact .inl ⟨by simp[nL,h1],.last dZ (Lo ⟨rfl,by omega,by simp,rfl,cl k,by rw[h1];rfl,ad⟩)⟩
  | true=>
   have first:gl prog (aq f243 0) (hY QJ a b ([k,m].map bb) 0) .normal (hY QJ a b ([k,m].map bb) (0+1)):=Ua ⟨rfl,by omega,by simp,rfl,cl k,by rw[h1];rfl,rfl,⟨by omega,by omega⟩,ad⟩
   cases U:ar m 0 7 with
   | false=>exact .inl ⟨by simp[nL,h1,U],.more first (.last dZ (Lo ⟨rfl,by omega,by simp,rfl,cl m,by rw[U];rfl,ad⟩))⟩
   | true=>
    cases ax:(k==m) with
    | true=>exact .inl ⟨by simp[nL,b4,h1,U]at ax ⊢;exact ax,.more first (.last dZ (ad5 ⟨rfl,by omega,by simp,rfl,cl m,by rw[U];rfl,rfl,by omega,by simp,rfl,by omega,by simp,rfl,ax,ad⟩))⟩
    | false=>exact .inr ⟨by simp[nL,b4,h1,U]at ax ⊢;exact ax,.more first (.more (ad6 ⟨rfl,by omega,by simp,rfl,cl m,by rw[U];rfl,rfl,by omega,by simp,rfl,by omega,by simp,rfl,ax,⟨by omega,by omega⟩,ad⟩) (.last (cC 1) (Lp ⟨rfl,ad⟩)))⟩
theorem Ub(s:hG):aw 244 [.agg s.e] [.one (B (iL s))]:=by
 have c1:=iJ s.bh 0 3;cases U:(ar s.bh 0 3) with
 | true=>
  have c6:=iJ s.di 0 6;rw[show iL s=ar s.di 0 6 from by grind[iL]];exact aey ⟨c1,U,c6,ad⟩
 | false=>
  rw[show iL s=false from by grind[iL]];exact aez ⟨c1,U,ad⟩
theorem agq(s:hG):aw 274 [.agg s.e] [.one (B (iL s))]:=by
 have c1:=kR s.bh 0 3;cases U:(ar s.bh 0 3) with
 | true=>
  have c6:=kR s.di 0 6;rw[show iL s=ar s.di 0 6 from by grind[iL]];exact aeA ⟨c1,U,c6,ad⟩
 | false=>
  rw[show iL s=false from by grind[iL]];exact aeB ⟨c1,U,ad⟩
theorem afQ(k v:Int):aw 275 [.one (I k),.one (I v)] [.one (B (gu k v))]:=by
 have c1:=kR k 0 99;cases U:(ar k 0 99) with
 | true=>
  have c6:=kR v 0 999;rw[show gu k v=ar v 0 999 from by grind[gu]];exact aeO ⟨c1,U,c6,ad⟩
 | false=>
  rw[show gu k v=false from by grind[gu]];exact aeP ⟨c1,U,ad⟩
theorem tf(r:aB):aw 122 [.agg r.e] [.one (B (eL r))]:=by
 have c1:=iJ r.op 0 7;cases U:(ar r.op 0 7) with
 | true=>
  have c6:=Ub r.bq;cases aK:(iL r.bq) with
  | true=>
   have iy:=iJ r.key 0 99;cases bp:(ar r.key 0 99) with
   | true=>
    have ZW:=iJ r.val 0 999;rw[show eL r=ar r.val 0 999 from by grind[eL,gu]];exact aer ⟨c1,U,c6,aK,iy,bp,ZW,ad⟩
   | false=>
    rw[show eL r=false from by grind[eL,gu]];exact aes ⟨c1,U,c6,aK,iy,bp,ad⟩
  | false=>
   rw[show eL r=false from by grind[eL,gu]];exact aet ⟨c1,U,c6,aK,ad⟩
 | false=>
  rw[show eL r=false from by grind[eL,gu]];exact aeu ⟨c1,U,ad⟩
theorem zc(r:aB):aw 180 [.agg r.e] [.one (B (eL r))]:=by
 have c1:=kR r.op 0 7;cases U:(ar r.op 0 7) with
 | true=>
  have c6:=agq r.bq;cases aK:(iL r.bq) with
  | true=>
   have iy:=afQ r.key r.val;rw[show eL r=gu r.key r.val from by grind[eL,gu]];exact aev ⟨c1,U,c6,aK,iy,ad⟩
  | false=>
   rw[show eL r=false from by grind[eL,gu]];exact aew ⟨c1,U,c6,aK,ad⟩
 | false=>
  rw[show eL r=false from by grind[eL,gu]];exact aex ⟨c1,U,ad⟩
theorem zd(s:hG):aw 270 [.agg s.e] [.agg ((gJ s).1).e,.one (B ((gJ s).2))]:=by
 have c1:=Ub s;cases U:(iL s) with
 | true=>
  cases ax:(decide (s.di>=6)) with
  | true=>
   rw[show gJ s=(s,false) from by grind[gJ,iL,ar]];exact aeD ⟨c1,(by rw[U];rfl),ax,ad⟩
  | false=>
   rw[show gJ s=((⟨s.bh,s.di+1⟩:hG),true) from by grind[gJ,iL,ar]];exact aeE ⟨c1,(by rw[U];rfl),ax,(by grind[iL,ar,aG]),ad⟩
 | false=>
  rw[show gJ s=(s,false) from by grind[gJ,iL,ar]];exact aeC ⟨c1,(by rw[U];rfl),ad⟩
theorem afR(a b:Int):aw 323 [.one (I a),.one (I b)] [.one (I (less a b))]:=by
 cases h1:(decide (b<a)) with
 | true=>
  rw[show less a b=b from by grind[less]];exact aeM ⟨h1,ad⟩
 | false=>
  rw[show less a b=a from by grind[less]];exact aeN ⟨h1,ad⟩
theorem Uc(x:Node)(aa:x.outs.length<=8388608):aw 243 [.agg x.e] [.one (B (aL x))]:=by
 cases h1:(x.kind==2) with
 | true=>
  have c2:=iJ x.a 0 999;have c6:=iJ x.kind 1 8;cases aK:(ar x.kind 1 8) with
  | true=>
   cases a7:(ar x.a 0 999) with
   | true=>
    cases bp:(x.b==0) with
    | true=>
     cases b6:(decide ((↑(x.outs.map bb).length:Int)>2)) with
     | true=>
      rw[show aL x=false from by grind[aL,b0,b4,ar]];exact ad3 ⟨h1,c2,c6,(by rw[aK];rfl),(by rw[a7];rfl),(by rw[bp];rfl),b6,ad⟩
     | false=>
      cases dn:(x.kind==8) with
      | true=>
       cases eF:(decide ((↑(x.outs.map bb).length:Int)>0)) with
       | true=>
        rw[show aL x=false from by grind[aL,b0,b4,ar]];exact ad4 ⟨h1,c2,c6,(by rw[aK];rfl),(by rw[a7];rfl),(by rw[bp];rfl),b6,dn,eF,ad⟩
       | false=>
        rcases uY x (by grind) with⟨cN,l⟩ | ⟨cN,l⟩
        ·skip
         rw[show aL x=false from by grind[aL,b0,b4,ar]];exact ad7 ⟨h1,c2,c6,(by rw[aK];rfl),(by rw[a7];rfl),(by rw[bp];rfl),b6,dn,eF,l,ad⟩
        skip
        rw[show aL x=true from by grind[aL,b0,b4,ar]];exact ad8 ⟨h1,c2,c6,(by rw[aK];rfl),(by rw[a7];rfl),(by rw[bp];rfl),b6,dn,eF,l,ad⟩
      | false=>
       rcases uY x (by grind) with⟨cN,l⟩ | ⟨cN,l⟩
       ·skip
        rw[show aL x=false from by grind[aL,b0,b4,ar]];exact ad9 ⟨h1,c2,c6,(by rw[aK];rfl),(by rw[a7];rfl),(by rw[bp];rfl),b6,dn,l,ad⟩
       skip
       rw[show aL x=true from by grind[aL,b0,b4,ar]];exact aea ⟨h1,c2,c6,(by rw[aK];rfl),(by rw[a7];rfl),(by rw[bp];rfl),b6,dn,l,ad⟩
    | false=>
     rw[show aL x=false from by grind[aL,b0,b4,ar]];exact ad2 ⟨h1,c2,c6,(by rw[aK];rfl),(by rw[a7];rfl),(by rw[bp];rfl),ad⟩
   | false=>
    rw[show aL x=false from by grind[aL,b0,b4,ar]];exact ad1 ⟨h1,c2,c6,(by rw[aK];rfl),(by rw[a7];rfl),ad⟩
  | false=>
   rw[show aL x=false from by grind[aL,b0,b4,ar]];exact ad0 ⟨h1,c2,c6,(by rw[aK];rfl),ad⟩
 | false=>
  cases dY:(x.kind==3) with
  | true=>
   have sj:=iJ x.a 1 10;have n':=iJ x.b 0 (IntKind.i64.wrap (x.a-1));have o2:=iJ x.kind 1 8;cases lo:(ar x.kind 1 8) with
   | true=>
    cases lp:(ar x.a 1 10) with
    | true=>
     cases cL:(ar x.b 0 (IntKind.i64.wrap (x.a-1))) with
     | true=>
      cases q':(decide ((↑(x.outs.map bb).length:Int)>2)) with
      | true=>
       rw[show aL x=false from by grind[aL,b0,b4,ar]];exact aee ⟨h1,dY,sj,n',o2,(by rw[lo];rfl),(by rw[lp];rfl),(by rw[cL];rfl),q',ad⟩
      | false=>
       cases hd:(x.kind==8) with
       | true=>
        cases HJ:(decide ((↑(x.outs.map bb).length:Int)>0)) with
        | true=>
         rw[show aL x=false from by grind[aL,b0,b4,ar]];exact aef ⟨h1,dY,sj,n',o2,(by rw[lo];rfl),(by rw[lp];rfl),(by rw[cL];rfl),q',hd,HJ,ad⟩
        | false=>
         rcases uY x (by grind) with⟨cN,l⟩ | ⟨cN,l⟩
         ·skip
          rw[show aL x=false from by grind[aL,b0,b4,ar]];exact aeg ⟨h1,dY,sj,n',o2,(by rw[lo];rfl),(by rw[lp];rfl),(by rw[cL];rfl),q',hd,HJ,l,ad⟩
         skip
         rw[show aL x=true from by grind[aL,b0,b4,ar]];exact aeh ⟨h1,dY,sj,n',o2,(by rw[lo];rfl),(by rw[lp];rfl),(by rw[cL];rfl),q',hd,HJ,l,ad⟩
       | false=>
        rcases uY x (by grind) with⟨cN,l⟩ | ⟨cN,l⟩
        ·skip
         rw[show aL x=false from by grind[aL,b0,b4,ar]];exact aei ⟨h1,dY,sj,n',o2,(by rw[lo];rfl),(by rw[lp];rfl),(by rw[cL];rfl),q',hd,l,ad⟩
        skip
        rw[show aL x=true from by grind[aL,b0,b4,ar]];exact aej ⟨h1,dY,sj,n',o2,(by rw[lo];rfl),(by rw[lp];rfl),(by rw[cL];rfl),q',hd,l,ad⟩
     | false=>
      rw[show aL x=false from by grind[aL,b0,b4,ar]];exact aed ⟨h1,dY,sj,n',o2,(by rw[lo];rfl),(by rw[lp];rfl),(by rw[cL];rfl),ad⟩
    | false=>
     rw[show aL x=false from by grind[aL,b0,b4,ar]];exact aec ⟨h1,dY,sj,n',o2,(by rw[lo];rfl),(by rw[lp];rfl),ad⟩
   | false=>
    rw[show aL x=false from by grind[aL,b0,b4,ar]];exact aeb ⟨h1,dY,sj,n',o2,(by rw[lo];rfl),ad⟩
  | false=>
   cases fj:(x.kind==4) with
   | true=>
    have nj:=iJ x.a 0 99;have sk:=iJ x.kind 1 8;cases j7:(ar x.kind 1 8) with
    | true=>
     cases nr:(ar x.a 0 99) with
     | true=>
      cases p1:(x.b==0) with
      | true=>
       cases p2:(decide ((↑(x.outs.map bb).length:Int)>2)) with
       | true=>
        rw[show aL x=false from by grind[aL,b0,b4,ar]];exact aen ⟨h1,dY,fj,nj,sk,(by rw[j7];rfl),(by rw[nr];rfl),(by rw[p1];rfl),p2,ad⟩
       | false=>
        cases sx:(x.kind==8) with
        | true=>
         cases oc:(decide ((↑(x.outs.map bb).length:Int)>0)) with
         | true=>
          rw[show aL x=false from by grind[aL,b0,b4,ar]];exact aeo ⟨h1,dY,fj,nj,sk,(by rw[j7];rfl),(by rw[nr];rfl),(by rw[p1];rfl),p2,sx,oc,ad⟩
         | false=>
          rcases uY x (by grind) with⟨cN,l⟩ | ⟨cN,l⟩
          ·skip
           rw[show aL x=false from by grind[aL,b0,b4,ar]];exact aep ⟨h1,dY,fj,nj,sk,(by rw[j7];rfl),(by rw[nr];rfl),(by rw[p1];rfl),p2,sx,oc,l,ad⟩
          skip
          rw[show aL x=true from by grind[aL,b0,b4,ar]];exact adQ ⟨h1,dY,fj,nj,sk,(by rw[j7];rfl),(by rw[nr];rfl),(by rw[p1];rfl),p2,sx,oc,l,ad⟩
        | false=>
         rcases uY x (by grind) with⟨cN,l⟩ | ⟨cN,l⟩
         ·skip
          rw[show aL x=false from by grind[aL,b0,b4,ar]];exact adR ⟨h1,dY,fj,nj,sk,(by rw[j7];rfl),(by rw[nr];rfl),(by rw[p1];rfl),p2,sx,l,ad⟩
         skip
         rw[show aL x=true from by grind[aL,b0,b4,ar]];exact adS ⟨h1,dY,fj,nj,sk,(by rw[j7];rfl),(by rw[nr];rfl),(by rw[p1];rfl),p2,sx,l,ad⟩
      | false=>
       rw[show aL x=false from by grind[aL,b0,b4,ar]];exact aem ⟨h1,dY,fj,nj,sk,(by rw[j7];rfl),(by rw[nr];rfl),(by rw[p1];rfl),ad⟩
     | false=>
      rw[show aL x=false from by grind[aL,b0,b4,ar]];exact ael ⟨h1,dY,fj,nj,sk,(by rw[j7];rfl),(by rw[nr];rfl),ad⟩
    | false=>
     rw[show aL x=false from by grind[aL,b0,b4,ar]];exact aek ⟨h1,dY,fj,nj,sk,(by rw[j7];rfl),ad⟩
   | false=>
    have sl:=iJ x.kind 1 8;cases sy:(ar x.kind 1 8) with
    | true=>
     cases o6:(x.a==0) with
     | true=>
      cases c4:(x.b==0) with
      | true=>
       cases x':(decide ((↑(x.outs.map bb).length:Int)>2)) with
       | true=>
        rw[show aL x=false from by grind[aL,b0,b4,ar]];exact adW ⟨h1,dY,fj,sl,(by rw[sy];rfl),(by rw[o6];rfl),(by rw[c4];rfl),x',ad⟩
       | false=>
        cases km:(x.kind==8) with
        | true=>
         cases lr:(decide ((↑(x.outs.map bb).length:Int)>0)) with
         | true=>
          rw[show aL x=false from by grind[aL,b0,b4,ar]];exact adX ⟨h1,dY,fj,sl,(by rw[sy];rfl),(by rw[o6];rfl),(by rw[c4];rfl),x',km,lr,ad⟩
         | false=>
          rcases uY x (by grind) with⟨cN,l⟩ | ⟨cN,l⟩
          ·skip
           rw[show aL x=false from by grind[aL,b0,b4,ar]];exact adY ⟨h1,dY,fj,sl,(by rw[sy];rfl),(by rw[o6];rfl),(by rw[c4];rfl),x',km,lr,l,ad⟩
          skip
          rw[show aL x=true from by grind[aL,b0,b4,ar]];exact adZ ⟨h1,dY,fj,sl,(by rw[sy];rfl),(by rw[o6];rfl),(by rw[c4];rfl),x',km,lr,l,ad⟩
        | false=>
         rcases uY x (by grind) with⟨cN,l⟩ | ⟨cN,l⟩
         ·skip
          rw[show aL x=false from by grind[aL,b0,b4,ar]];exact afq ⟨h1,dY,fj,sl,(by rw[sy];rfl),(by rw[o6];rfl),(by rw[c4];rfl),x',km,l,ad⟩
         skip
         rw[show aL x=true from by grind[aL,b0,b4,ar]];exact afr ⟨h1,dY,fj,sl,(by rw[sy];rfl),(by rw[o6];rfl),(by rw[c4];rfl),x',km,l,ad⟩
      | false=>
       rw[show aL x=false from by grind[aL,b0,b4,ar]];exact adV ⟨h1,dY,fj,sl,(by rw[sy];rfl),(by rw[o6];rfl),(by rw[c4];rfl),ad⟩
     | false=>
      rw[show aL x=false from by grind[aL,b0,b4,ar]];exact adU ⟨h1,dY,fj,sl,(by rw[sy];rfl),(by rw[o6];rfl),ad⟩
    | false=>
     rw[show aL x=false from by grind[aL,b0,b4,ar]];exact adT ⟨h1,dY,fj,sl,(by rw[sy];rfl),ad⟩
theorem afS(x:Node)(aa:x.outs.length<=8388608):aw 273 [.agg x.e] [.one (B (aL x))]:=by
 cases h1:(x.kind==2) with
 | true=>
  have c2:=kR x.a 0 999;cases ax:(ar x.a 0 999) with
  | true=>
   cases aK:(x.b != 0) with
   | true=>
    rw[show aL x=false from by grind[aL,b0,b4,ar]];exact aft ⟨h1,c2,(by rw[ax];rfl),aK,ad⟩
   | false=>
    cases a7:(decide ((↑(x.outs.map bb).length:Int)>2)) with
    | true=>
     rw[show aL x=false from by grind[aL,b0,b4,ar]];exact afu ⟨h1,c2,(by rw[ax];rfl),aK,a7,ad⟩
    | false=>
     cases bp:(x.kind==8) with
     | true=>
      cases b6:(decide ((↑(x.outs.map bb).length:Int)>0)) with
      | true=>
       rw[show aL x=false from by grind[aL,b0,b4,ar]];exact afv ⟨h1,c2,(by rw[ax];rfl),aK,a7,bp,b6,ad⟩
      | false=>
       cases dn:((↑(x.outs.map bb).length:Int)==2) with
       | true=>
        obtain⟨G5,sU⟩:=db (xs:=x.outs) (i:=0) (by grind[ar,aG]);obtain⟨Gx,IK⟩:=db (xs:=x.outs) (i:=1) (by grind[ar,aG]);cases h7:(G5==Gx) with
        | true=>
         rw[show aL x=false from by grind[aL,b0,b4,ar]];exact afw ⟨h1,c2,(by rw[ax];rfl),aK,a7,bp,b6,dn,(by grind[ar,aG]),(by grind[ar,aG]),(bW bb sU),(by grind[ar,aG]),(by grind[ar,aG]),(bW bb IK),h7,ad⟩
        | false=>
         rcases hl x aa with⟨cN,l⟩ | ⟨cN,l⟩
         ·skip
          rw[show aL x=false from by grind[aL,b0,b4,ar]];exact afA ⟨h1,c2,(by rw[ax];rfl),aK,a7,bp,b6,dn,(by grind[ar,aG]),(by grind[ar,aG]),(bW bb sU),(by grind[ar,aG]),(by grind[ar,aG]),(bW bb IK),h7,l,ad⟩
         skip
         rw[show aL x=true from by grind[aL,b0,b4,ar]];exact afB ⟨h1,c2,(by rw[ax];rfl),aK,a7,bp,b6,dn,(by grind[ar,aG]),(by grind[ar,aG]),(bW bb sU),(by grind[ar,aG]),(by grind[ar,aG]),(bW bb IK),h7,l,ad⟩
       | false=>
        rcases hl x aa with⟨cN,l⟩ | ⟨cN,l⟩
        ·skip
         rw[show aL x=false from by grind[aL,b0,b4,ar]];exact afC ⟨h1,c2,(by rw[ax];rfl),aK,a7,bp,b6,dn,l,ad⟩
        skip
        rw[show aL x=true from by grind[aL,b0,b4,ar]];exact afD ⟨h1,c2,(by rw[ax];rfl),aK,a7,bp,b6,dn,l,ad⟩
     | false=>
      cases kG:((↑(x.outs.map bb).length:Int)==2) with
      | true=>
       obtain⟨zJ,IQ⟩:=db (xs:=x.outs) (i:=0) (by grind[ar,aG]);obtain⟨zK,IS⟩:=db (xs:=x.outs) (i:=1) (by grind[ar,aG]);cases lp:(zJ==zK) with
       | true=>
        rw[show aL x=false from by grind[aL,b0,b4,ar]];exact afE ⟨h1,c2,(by rw[ax];rfl),aK,a7,bp,kG,(by grind[ar,aG]),(by grind[ar,aG]),(bW bb IQ),(by grind[ar,aG]),(by grind[ar,aG]),(bW bb IS),lp,ad⟩
       | false=>
        rcases hl x aa with⟨cN,l⟩ | ⟨cN,l⟩
        ·skip
         rw[show aL x=false from by grind[aL,b0,b4,ar]];exact afF ⟨h1,c2,(by rw[ax];rfl),aK,a7,bp,kG,(by grind[ar,aG]),(by grind[ar,aG]),(bW bb IQ),(by grind[ar,aG]),(by grind[ar,aG]),(bW bb IS),lp,l,ad⟩
        skip
        rw[show aL x=true from by grind[aL,b0,b4,ar]];exact afG ⟨h1,c2,(by rw[ax];rfl),aK,a7,bp,kG,(by grind[ar,aG]),(by grind[ar,aG]),(bW bb IQ),(by grind[ar,aG]),(by grind[ar,aG]),(bW bb IS),lp,l,ad⟩
      | false=>
       rcases hl x aa with⟨cN,l⟩ | ⟨cN,l⟩
       ·skip
        rw[show aL x=false from by grind[aL,b0,b4,ar]];exact afH ⟨h1,c2,(by rw[ax];rfl),aK,a7,bp,kG,l,ad⟩
       skip
       rw[show aL x=true from by grind[aL,b0,b4,ar]];exact afI ⟨h1,c2,(by rw[ax];rfl),aK,a7,bp,kG,l,ad⟩
  | false=>
   rw[show aL x=false from by grind[aL,b0,b4,ar]];exact afs ⟨h1,c2,(by rw[ax];rfl),ad⟩
 | false=>
  cases cL:(x.kind==3) with
  | true=>
   have ni:=kR x.a 1 10;cases hd:(ar x.a 1 10) with
   | true=>
    have j3:=kR x.b 0 (IntKind.i64.wrap (x.a-1));cases fj:(ar x.b 0 (IntKind.i64.wrap (x.a-1))) with
    | true=>
     cases o5:(decide ((↑(x.outs.map bb).length:Int)>2)) with
     | true=>
      rw[show aL x=false from by grind[aL,b0,b4,ar]];exact afL ⟨h1,cL,ni,(by rw[hd];rfl),j3,(by rw[fj];rfl),o5,ad⟩
     | false=>
      cases lq:(x.kind==8) with
      | true=>
       cases j7:(decide ((↑(x.outs.map bb).length:Int)>0)) with
       | true=>
        rw[show aL x=false from by grind[aL,b0,b4,ar]];exact afM ⟨h1,cL,ni,(by rw[hd];rfl),j3,(by rw[fj];rfl),o5,lq,j7,ad⟩
       | false=>
        cases nr:((↑(x.outs.map bb).length:Int)==2) with
        | true=>
         obtain⟨CQ,IT⟩:=db (xs:=x.outs) (i:=0) (by grind[ar,aG]);obtain⟨GF,IU⟩:=db (xs:=x.outs) (i:=1) (by grind[ar,aG]);cases sx:(CQ==GF) with
         | true=>
          rw[show aL x=false from by grind[aL,b0,b4,ar]];exact afN ⟨h1,cL,ni,(by rw[hd];rfl),j3,(by rw[fj];rfl),o5,lq,j7,nr,(by grind[ar,aG]),(by grind[ar,aG]),(bW bb IT),(by grind[ar,aG]),(by grind[ar,aG]),(bW bb IU),sx,ad⟩
         | false=>
          rcases hl x aa with⟨cN,l⟩ | ⟨cN,l⟩
          ·skip
           rw[show aL x=false from by grind[aL,b0,b4,ar]];exact afO ⟨h1,cL,ni,(by rw[hd];rfl),j3,(by rw[fj];rfl),o5,lq,j7,nr,(by grind[ar,aG]),(by grind[ar,aG]),(bW bb IT),(by grind[ar,aG]),(by grind[ar,aG]),(bW bb IU),sx,l,ad⟩
          skip
          rw[show aL x=true from by grind[aL,b0,b4,ar]];exact afP ⟨h1,cL,ni,(by rw[hd];rfl),j3,(by rw[fj];rfl),o5,lq,j7,nr,(by grind[ar,aG]),(by grind[ar,aG]),(bW bb IT),(by grind[ar,aG]),(by grind[ar,aG]),(bW bb IU),sx,l,ad⟩
        | false=>
         rcases hl x aa with⟨cN,l⟩ | ⟨cN,l⟩
         ·skip
          rw[show aL x=false from by grind[aL,b0,b4,ar]];exact ae0 ⟨h1,cL,ni,(by rw[hd];rfl),j3,(by rw[fj];rfl),o5,lq,j7,nr,l,ad⟩
         skip
         rw[show aL x=true from by grind[aL,b0,b4,ar]];exact ae1 ⟨h1,cL,ni,(by rw[hd];rfl),j3,(by rw[fj];rfl),o5,lq,j7,nr,l,ad⟩
      | false=>
       cases oc:((↑(x.outs.map bb).length:Int)==2) with
       | true=>
        obtain⟨GG,IV⟩:=db (xs:=x.outs) (i:=0) (by grind[ar,aG]);obtain⟨GV,IW⟩:=db (xs:=x.outs) (i:=1) (by grind[ar,aG]);cases o6:(GG==GV) with
        | true=>
         rw[show aL x=false from by grind[aL,b0,b4,ar]];exact ae2 ⟨h1,cL,ni,(by rw[hd];rfl),j3,(by rw[fj];rfl),o5,lq,oc,(by grind[ar,aG]),(by grind[ar,aG]),(bW bb IV),(by grind[ar,aG]),(by grind[ar,aG]),(bW bb IW),o6,ad⟩
        | false=>
         rcases hl x aa with⟨cN,l⟩ | ⟨cN,l⟩
         ·skip
          rw[show aL x=false from by grind[aL,b0,b4,ar]];exact ae3 ⟨h1,cL,ni,(by rw[hd];rfl),j3,(by rw[fj];rfl),o5,lq,oc,(by grind[ar,aG]),(by grind[ar,aG]),(bW bb IV),(by grind[ar,aG]),(by grind[ar,aG]),(bW bb IW),o6,l,ad⟩
         skip
         rw[show aL x=true from by grind[aL,b0,b4,ar]];exact ae4 ⟨h1,cL,ni,(by rw[hd];rfl),j3,(by rw[fj];rfl),o5,lq,oc,(by grind[ar,aG]),(by grind[ar,aG]),(bW bb IV),(by grind[ar,aG]),(by grind[ar,aG]),(bW bb IW),o6,l,ad⟩
       | false=>
        rcases hl x aa with⟨cN,l⟩ | ⟨cN,l⟩
        ·skip
         rw[show aL x=false from by grind[aL,b0,b4,ar]];exact ae5 ⟨h1,cL,ni,(by rw[hd];rfl),j3,(by rw[fj];rfl),o5,lq,oc,l,ad⟩
        skip
        rw[show aL x=true from by grind[aL,b0,b4,ar]];exact ae6 ⟨h1,cL,ni,(by rw[hd];rfl),j3,(by rw[fj];rfl),o5,lq,oc,l,ad⟩
    | false=>
     rw[show aL x=false from by grind[aL,b0,b4,ar]];exact afK ⟨h1,cL,ni,(by rw[hd];rfl),j3,(by rw[fj];rfl),ad⟩
   | false=>
    rw[show aL x=false from by grind[aL,b0,b4,ar]];exact afJ ⟨h1,cL,ni,(by rw[hd];rfl),ad⟩
  | false=>
   cases c4:(x.kind==4) with
   | true=>
    have nm:=kR x.a 0 99;cases km:(ar x.a 0 99) with
    | true=>
     cases lr:(x.b != 0) with
     | true=>
      rw[show aL x=false from by grind[aL,b0,b4,ar]];exact ae8 ⟨h1,cL,c4,nm,(by rw[km];rfl),lr,ad⟩
     | false=>
      cases o7:(decide ((↑(x.outs.map bb).length:Int)>2)) with
      | true=>
       rw[show aL x=false from by grind[aL,b0,b4,ar]];exact ae9 ⟨h1,cL,c4,nm,(by rw[km];rfl),lr,o7,ad⟩
      | false=>
       cases p3:(x.kind==8) with
       | true=>
        cases ya:(decide ((↑(x.outs.map bb).length:Int)>0)) with
        | true=>
         rw[show aL x=false from by grind[aL,b0,b4,ar]];exact afa ⟨h1,cL,c4,nm,(by rw[km];rfl),lr,o7,p3,ya,ad⟩
        | false=>
         cases Ae:((↑(x.outs.map bb).length:Int)==2) with
         | true=>
          obtain⟨zM,IX⟩:=db (xs:=x.outs) (i:=0) (by grind[ar,aG]);obtain⟨ayk,IY⟩:=db (xs:=x.outs) (i:=1) (by grind[ar,aG]);cases HK:(zM==ayk) with
          | true=>
           rw[show aL x=false from by grind[aL,b0,b4,ar]];exact afb ⟨h1,cL,c4,nm,(by rw[km];rfl),lr,o7,p3,ya,Ae,(by grind[ar,aG]),(by grind[ar,aG]),(bW bb IX),(by grind[ar,aG]),(by grind[ar,aG]),(bW bb IY),HK,ad⟩
          | false=>
           rcases hl x aa with⟨cN,l⟩ | ⟨cN,l⟩
           ·skip
            rw[show aL x=false from by grind[aL,b0,b4,ar]];exact afc ⟨h1,cL,c4,nm,(by rw[km];rfl),lr,o7,p3,ya,Ae,(by grind[ar,aG]),(by grind[ar,aG]),(bW bb IX),(by grind[ar,aG]),(by grind[ar,aG]),(bW bb IY),HK,l,ad⟩
           skip
           rw[show aL x=true from by grind[aL,b0,b4,ar]];exact afd ⟨h1,cL,c4,nm,(by rw[km];rfl),lr,o7,p3,ya,Ae,(by grind[ar,aG]),(by grind[ar,aG]),(bW bb IX),(by grind[ar,aG]),(by grind[ar,aG]),(bW bb IY),HK,l,ad⟩
         | false=>
          rcases hl x aa with⟨cN,l⟩ | ⟨cN,l⟩
          ·skip
           rw[show aL x=false from by grind[aL,b0,b4,ar]];exact afe ⟨h1,cL,c4,nm,(by rw[km];rfl),lr,o7,p3,ya,Ae,l,ad⟩
          skip
          rw[show aL x=true from by grind[aL,b0,b4,ar]];exact aff ⟨h1,cL,c4,nm,(by rw[km];rfl),lr,o7,p3,ya,Ae,l,ad⟩
       | false=>
        cases Af:((↑(x.outs.map bb).length:Int)==2) with
        | true=>
         obtain⟨ayl,IZ⟩:=db (xs:=x.outs) (i:=0) (by grind[ar,aG]);obtain⟨aym,I0⟩:=db (xs:=x.outs) (i:=1) (by grind[ar,aG]);cases HL:(ayl==aym) with
         | true=>
          rw[show aL x=false from by grind[aL,b0,b4,ar]];exact afg ⟨h1,cL,c4,nm,(by rw[km];rfl),lr,o7,p3,Af,(by grind[ar,aG]),(by grind[ar,aG]),(bW bb IZ),(by grind[ar,aG]),(by grind[ar,aG]),(bW bb I0),HL,ad⟩
         | false=>
          rcases hl x aa with⟨cN,l⟩ | ⟨cN,l⟩
          ·skip
           rw[show aL x=false from by grind[aL,b0,b4,ar]];exact afh ⟨h1,cL,c4,nm,(by rw[km];rfl),lr,o7,p3,Af,(by grind[ar,aG]),(by grind[ar,aG]),(bW bb IZ),(by grind[ar,aG]),(by grind[ar,aG]),(bW bb I0),HL,l,ad⟩
          skip
          rw[show aL x=true from by grind[aL,b0,b4,ar]];exact afi ⟨h1,cL,c4,nm,(by rw[km];rfl),lr,o7,p3,Af,(by grind[ar,aG]),(by grind[ar,aG]),(bW bb IZ),(by grind[ar,aG]),(by grind[ar,aG]),(bW bb I0),HL,l,ad⟩
        | false=>
         rcases hl x aa with⟨cN,l⟩ | ⟨cN,l⟩
         ·skip
          rw[show aL x=false from by grind[aL,b0,b4,ar]];exact afj ⟨h1,cL,c4,nm,(by rw[km];rfl),lr,o7,p3,Af,l,ad⟩
         skip
         rw[show aL x=true from by grind[aL,b0,b4,ar]];exact afk ⟨h1,cL,c4,nm,(by rw[km];rfl),lr,o7,p3,Af,l,ad⟩
    | false=>
     rw[show aL x=false from by grind[aL,b0,b4,ar]];exact ae7 ⟨h1,cL,c4,nm,(by rw[km];rfl),ad⟩
   | false=>
    cases df:(x.kind==1) with
    | true=>
     cases nt:(x.a != 0) with
     | true=>
      rw[show aL x=false from by grind[aL,b0,b4,ar]];exact afl ⟨h1,cL,c4,df,df,nt,ad⟩
     | false=>
      cases od:(x.b != 0) with
      | true=>
       rw[show aL x=false from by grind[aL,b0,b4,ar]];exact afm ⟨h1,cL,c4,df,df,nt,od,ad⟩
      | false=>
       cases o8:(decide ((↑(x.outs.map bb).length:Int)>2)) with
       | true=>
        rw[show aL x=false from by grind[aL,b0,b4,ar]];exact afn ⟨h1,cL,c4,df,df,nt,od,o8,ad⟩
       | false=>
        cases p4:(x.kind==8) with
        | true=>
         cases yb:(decide ((↑(x.outs.map bb).length:Int)>0)) with
         | true=>
          rw[show aL x=false from by grind[aL,b0,b4,ar]];exact afo ⟨h1,cL,c4,df,df,nt,od,o8,p4,yb,ad⟩
         | false=>
          cases Ag:((↑(x.outs.map bb).length:Int)==2) with
          | true=>
           obtain⟨ayn,I1⟩:=db (xs:=x.outs) (i:=0) (by grind[ar,aG]);obtain⟨ayo,I2⟩:=db (xs:=x.outs) (i:=1) (by grind[ar,aG]);cases HM:(ayn==ayo) with
           | true=>
            rw[show aL x=false from by grind[aL,b0,b4,ar]];exact afp ⟨h1,cL,c4,df,df,nt,od,o8,p4,yb,Ag,(by grind[ar,aG]),(by grind[ar,aG]),(bW bb I1),(by grind[ar,aG]),(by grind[ar,aG]),(bW bb I2),HM,ad⟩
           | false=>
            rcases hl x aa with⟨cN,l⟩ | ⟨cN,l⟩
            ·skip
             rw[show aL x=false from by grind[aL,b0,b4,ar]];exact aeQ ⟨h1,cL,c4,df,df,nt,od,o8,p4,yb,Ag,(by grind[ar,aG]),(by grind[ar,aG]),(bW bb I1),(by grind[ar,aG]),(by grind[ar,aG]),(bW bb I2),HM,l,ad⟩
            skip
            rw[show aL x=true from by grind[aL,b0,b4,ar]];exact aeR ⟨h1,cL,c4,df,df,nt,od,o8,p4,yb,Ag,(by grind[ar,aG]),(by grind[ar,aG]),(bW bb I1),(by grind[ar,aG]),(by grind[ar,aG]),(bW bb I2),HM,l,ad⟩
          | false=>
           rcases hl x aa with⟨cN,l⟩ | ⟨cN,l⟩
           ·skip
            rw[show aL x=false from by grind[aL,b0,b4,ar]];exact aeS ⟨h1,cL,c4,df,df,nt,od,o8,p4,yb,Ag,l,ad⟩
           skip
           rw[show aL x=true from by grind[aL,b0,b4,ar]];exact aeT ⟨h1,cL,c4,df,df,nt,od,o8,p4,yb,Ag,l,ad⟩
        | false=>
         cases Ah:((↑(x.outs.map bb).length:Int)==2) with
         | true=>
          obtain⟨ayp,I3⟩:=db (xs:=x.outs) (i:=0) (by grind[ar,aG]);obtain⟨ayq,I4⟩:=db (xs:=x.outs) (i:=1) (by grind[ar,aG]);cases HN:(ayp==ayq) with
          | true=>
           rw[show aL x=false from by grind[aL,b0,b4,ar]];exact aeU ⟨h1,cL,c4,df,df,nt,od,o8,p4,Ah,(by grind[ar,aG]),(by grind[ar,aG]),(bW bb I3),(by grind[ar,aG]),(by grind[ar,aG]),(bW bb I4),HN,ad⟩
          | false=>
           rcases hl x aa with⟨cN,l⟩ | ⟨cN,l⟩
           ·skip
            rw[show aL x=false from by grind[aL,b0,b4,ar]];exact aeV ⟨h1,cL,c4,df,df,nt,od,o8,p4,Ah,(by grind[ar,aG]),(by grind[ar,aG]),(bW bb I3),(by grind[ar,aG]),(by grind[ar,aG]),(bW bb I4),HN,l,ad⟩
           skip
           rw[show aL x=true from by grind[aL,b0,b4,ar]];exact aeW ⟨h1,cL,c4,df,df,nt,od,o8,p4,Ah,(by grind[ar,aG]),(by grind[ar,aG]),(bW bb I3),(by grind[ar,aG]),(by grind[ar,aG]),(bW bb I4),HN,l,ad⟩
         | false=>
          rcases hl x aa with⟨cN,l⟩ | ⟨cN,l⟩
          ·skip
           rw[show aL x=false from by grind[aL,b0,b4,ar]];exact aeX ⟨h1,cL,c4,df,df,nt,od,o8,p4,Ah,l,ad⟩
          skip
          rw[show aL x=true from by grind[aL,b0,b4,ar]];exact aeY ⟨h1,cL,c4,df,df,nt,od,o8,p4,Ah,l,ad⟩
    | false=>
     cases dM:(x.kind==5) with
     | true=>
      cases nu:(x.a != 0) with
      | true=>
       rw[show aL x=false from by grind[aL,b0,b4,ar]];exact aeZ ⟨h1,cL,c4,df,dM,dM,nu,ad⟩
      | false=>
       cases oe:(x.b != 0) with
       | true=>
        rw[show aL x=false from by grind[aL,b0,b4,ar]];exact agr ⟨h1,cL,c4,df,dM,dM,nu,oe,ad⟩
       | false=>
        cases o9:(decide ((↑(x.outs.map bb).length:Int)>2)) with
        | true=>
         rw[show aL x=false from by grind[aL,b0,b4,ar]];exact ags ⟨h1,cL,c4,df,dM,dM,nu,oe,o9,ad⟩
        | false=>
         cases p5:(x.kind==8) with
         | true=>
          cases yc:(decide ((↑(x.outs.map bb).length:Int)>0)) with
          | true=>
           rw[show aL x=false from by grind[aL,b0,b4,ar]];exact agt ⟨h1,cL,c4,df,dM,dM,nu,oe,o9,p5,yc,ad⟩
          | false=>
           cases Ai:((↑(x.outs.map bb).length:Int)==2) with
           | true=>
            obtain⟨ayr,I5⟩:=db (xs:=x.outs) (i:=0) (by grind[ar,aG]);obtain⟨ays,I6⟩:=db (xs:=x.outs) (i:=1) (by grind[ar,aG]);cases HO:(ayr==ays) with
            | true=>
             rw[show aL x=false from by grind[aL,b0,b4,ar]];exact agu ⟨h1,cL,c4,df,dM,dM,nu,oe,o9,p5,yc,Ai,(by grind[ar,aG]),(by grind[ar,aG]),(bW bb I5),(by grind[ar,aG]),(by grind[ar,aG]),(bW bb I6),HO,ad⟩
            | false=>
             rcases hl x aa with⟨cN,l⟩ | ⟨cN,l⟩
             ·skip
              rw[show aL x=false from by grind[aL,b0,b4,ar]];exact agv ⟨h1,cL,c4,df,dM,dM,nu,oe,o9,p5,yc,Ai,(by grind[ar,aG]),(by grind[ar,aG]),(bW bb I5),(by grind[ar,aG]),(by grind[ar,aG]),(bW bb I6),HO,l,ad⟩
             skip
             rw[show aL x=true from by grind[aL,b0,b4,ar]];exact agw ⟨h1,cL,c4,df,dM,dM,nu,oe,o9,p5,yc,Ai,(by grind[ar,aG]),(by grind[ar,aG]),(bW bb I5),(by grind[ar,aG]),(by grind[ar,aG]),(bW bb I6),HO,l,ad⟩
           | false=>
            rcases hl x aa with⟨cN,l⟩ | ⟨cN,l⟩
            ·skip
             rw[show aL x=false from by grind[aL,b0,b4,ar]];exact agx ⟨h1,cL,c4,df,dM,dM,nu,oe,o9,p5,yc,Ai,l,ad⟩
            skip
            rw[show aL x=true from by grind[aL,b0,b4,ar]];exact agy ⟨h1,cL,c4,df,dM,dM,nu,oe,o9,p5,yc,Ai,l,ad⟩
         | false=>
          cases Aj:((↑(x.outs.map bb).length:Int)==2) with
          | true=>
           obtain⟨ayt,I7⟩:=db (xs:=x.outs) (i:=0) (by grind[ar,aG]);obtain⟨ayu,I8⟩:=db (xs:=x.outs) (i:=1) (by grind[ar,aG]);cases HP:(ayt==ayu) with
           | true=>
            rw[show aL x=false from by grind[aL,b0,b4,ar]];exact agz ⟨h1,cL,c4,df,dM,dM,nu,oe,o9,p5,Aj,(by grind[ar,aG]),(by grind[ar,aG]),(bW bb I7),(by grind[ar,aG]),(by grind[ar,aG]),(bW bb I8),HP,ad⟩
           | false=>
            rcases hl x aa with⟨cN,l⟩ | ⟨cN,l⟩
            ·skip
             rw[show aL x=false from by grind[aL,b0,b4,ar]];exact agA ⟨h1,cL,c4,df,dM,dM,nu,oe,o9,p5,Aj,(by grind[ar,aG]),(by grind[ar,aG]),(bW bb I7),(by grind[ar,aG]),(by grind[ar,aG]),(bW bb I8),HP,l,ad⟩
            skip
            rw[show aL x=true from by grind[aL,b0,b4,ar]];exact agB ⟨h1,cL,c4,df,dM,dM,nu,oe,o9,p5,Aj,(by grind[ar,aG]),(by grind[ar,aG]),(bW bb I7),(by grind[ar,aG]),(by grind[ar,aG]),(bW bb I8),HP,l,ad⟩
          | false=>
           rcases hl x aa with⟨cN,l⟩ | ⟨cN,l⟩
           ·skip
            rw[show aL x=false from by grind[aL,b0,b4,ar]];exact agC ⟨h1,cL,c4,df,dM,dM,nu,oe,o9,p5,Aj,l,ad⟩
           skip
           rw[show aL x=true from by grind[aL,b0,b4,ar]];exact agD ⟨h1,cL,c4,df,dM,dM,nu,oe,o9,p5,Aj,l,ad⟩
     | false=>
      cases eH:(x.kind==6) with
      | true=>
       cases nv:(x.a != 0) with
       | true=>
        rw[show aL x=false from by grind[aL,b0,b4,ar]];exact agE ⟨h1,cL,c4,df,dM,eH,eH,nv,ad⟩
       | false=>
        cases og:(x.b != 0) with
        | true=>
         rw[show aL x=false from by grind[aL,b0,b4,ar]];exact agF ⟨h1,cL,c4,df,dM,eH,eH,nv,og,ad⟩
        | false=>
         cases o':(decide ((↑(x.outs.map bb).length:Int)>2)) with
         | true=>
          rw[show aL x=false from by grind[aL,b0,b4,ar]];exact agG ⟨h1,cL,c4,df,dM,eH,eH,nv,og,o',ad⟩
         | false=>
          cases p6:(x.kind==8) with
          | true=>
           cases yd:(decide ((↑(x.outs.map bb).length:Int)>0)) with
           | true=>
            rw[show aL x=false from by grind[aL,b0,b4,ar]];exact agH ⟨h1,cL,c4,df,dM,eH,eH,nv,og,o',p6,yd,ad⟩
           | false=>
            cases Ak:((↑(x.outs.map bb).length:Int)==2) with
            | true=>
             obtain⟨ayv,I9⟩:=db (xs:=x.outs) (i:=0) (by grind[ar,aG]);obtain⟨ayw,I'⟩:=db (xs:=x.outs) (i:=1) (by grind[ar,aG]);cases HQ:(ayv==ayw) with
             | true=>
              rw[show aL x=false from by grind[aL,b0,b4,ar]];exact agI ⟨h1,cL,c4,df,dM,eH,eH,nv,og,o',p6,yd,Ak,(by grind[ar,aG]),(by grind[ar,aG]),(bW bb I9),(by grind[ar,aG]),(by grind[ar,aG]),(bW bb I'),HQ,ad⟩
             | false=>
              rcases hl x aa with⟨cN,l⟩ | ⟨cN,l⟩
              ·skip
               rw[show aL x=false from by grind[aL,b0,b4,ar]];exact agJ ⟨h1,cL,c4,df,dM,eH,eH,nv,og,o',p6,yd,Ak,(by grind[ar,aG]),(by grind[ar,aG]),(bW bb I9),(by grind[ar,aG]),(by grind[ar,aG]),(bW bb I'),HQ,l,ad⟩
              skip
              rw[show aL x=true from by grind[aL,b0,b4,ar]];exact agK ⟨h1,cL,c4,df,dM,eH,eH,nv,og,o',p6,yd,Ak,(by grind[ar,aG]),(by grind[ar,aG]),(bW bb I9),(by grind[ar,aG]),(by grind[ar,aG]),(bW bb I'),HQ,l,ad⟩
            | false=>
             rcases hl x aa with⟨cN,l⟩ | ⟨cN,l⟩
             ·skip
              rw[show aL x=false from by grind[aL,b0,b4,ar]];exact agL ⟨h1,cL,c4,df,dM,eH,eH,nv,og,o',p6,yd,Ak,l,ad⟩
             skip
             rw[show aL x=true from by grind[aL,b0,b4,ar]];exact agM ⟨h1,cL,c4,df,dM,eH,eH,nv,og,o',p6,yd,Ak,l,ad⟩
          | false=>
           cases Al:((↑(x.outs.map bb).length:Int)==2) with
           | true=>
            obtain⟨ayx,Ja⟩:=db (xs:=x.outs) (i:=0) (by grind[ar,aG]);obtain⟨ayy,Jb⟩:=db (xs:=x.outs) (i:=1) (by grind[ar,aG]);cases HR:(ayx==ayy) with
            | true=>
             rw[show aL x=false from by grind[aL,b0,b4,ar]];exact agN ⟨h1,cL,c4,df,dM,eH,eH,nv,og,o',p6,Al,(by grind[ar,aG]),(by grind[ar,aG]),(bW bb Ja),(by grind[ar,aG]),(by grind[ar,aG]),(bW bb Jb),HR,ad⟩
            | false=>
             rcases hl x aa with⟨cN,l⟩ | ⟨cN,l⟩
             ·skip
              rw[show aL x=false from by grind[aL,b0,b4,ar]];exact agO ⟨h1,cL,c4,df,dM,eH,eH,nv,og,o',p6,Al,(by grind[ar,aG]),(by grind[ar,aG]),(bW bb Ja),(by grind[ar,aG]),(by grind[ar,aG]),(bW bb Jb),HR,l,ad⟩
             skip
             rw[show aL x=true from by grind[aL,b0,b4,ar]];exact agP ⟨h1,cL,c4,df,dM,eH,eH,nv,og,o',p6,Al,(by grind[ar,aG]),(by grind[ar,aG]),(bW bb Ja),(by grind[ar,aG]),(by grind[ar,aG]),(bW bb Jb),HR,l,ad⟩
           | false=>
            rcases hl x aa with⟨cN,l⟩ | ⟨cN,l⟩
            ·skip
             rw[show aL x=false from by grind[aL,b0,b4,ar]];exact agQ ⟨h1,cL,c4,df,dM,eH,eH,nv,og,o',p6,Al,l,ad⟩
            skip
            rw[show aL x=true from by grind[aL,b0,b4,ar]];exact af0 ⟨h1,cL,c4,df,dM,eH,eH,nv,og,o',p6,Al,l,ad⟩
      | false=>
       cases fG:(x.kind==7) with
       | true=>
        cases nx:(x.a != 0) with
        | true=>
         rw[show aL x=false from by grind[aL,b0,b4,ar]];exact af1 ⟨h1,cL,c4,df,dM,eH,fG,fG,nx,ad⟩
        | false=>
         cases oh:(x.b != 0) with
         | true=>
          rw[show aL x=false from by grind[aL,b0,b4,ar]];exact af2 ⟨h1,cL,c4,df,dM,eH,fG,fG,nx,oh,ad⟩
         | false=>
          cases pa:(decide ((↑(x.outs.map bb).length:Int)>2)) with
          | true=>
           rw[show aL x=false from by grind[aL,b0,b4,ar]];exact af3 ⟨h1,cL,c4,df,dM,eH,fG,fG,nx,oh,pa,ad⟩
          | false=>
           cases p7:(x.kind==8) with
           | true=>
            cases ye:(decide ((↑(x.outs.map bb).length:Int)>0)) with
            | true=>
             rw[show aL x=false from by grind[aL,b0,b4,ar]];exact af4 ⟨h1,cL,c4,df,dM,eH,fG,fG,nx,oh,pa,p7,ye,ad⟩
            | false=>
             cases Am:((↑(x.outs.map bb).length:Int)==2) with
             | true=>
              obtain⟨ayz,Jc⟩:=db (xs:=x.outs) (i:=0) (by grind[ar,aG]);obtain⟨ayA,Jd⟩:=db (xs:=x.outs) (i:=1) (by grind[ar,aG]);cases HS:(ayz==ayA) with
              | true=>
               rw[show aL x=false from by grind[aL,b0,b4,ar]];exact af5 ⟨h1,cL,c4,df,dM,eH,fG,fG,nx,oh,pa,p7,ye,Am,(by grind[ar,aG]),(by grind[ar,aG]),(bW bb Jc),(by grind[ar,aG]),(by grind[ar,aG]),(bW bb Jd),HS,ad⟩
              | false=>
               rcases hl x aa with⟨cN,l⟩ | ⟨cN,l⟩
               ·skip
                rw[show aL x=false from by grind[aL,b0,b4,ar]];exact af6 ⟨h1,cL,c4,df,dM,eH,fG,fG,nx,oh,pa,p7,ye,Am,(by grind[ar,aG]),(by grind[ar,aG]),(bW bb Jc),(by grind[ar,aG]),(by grind[ar,aG]),(bW bb Jd),HS,l,ad⟩
               skip
               rw[show aL x=true from by grind[aL,b0,b4,ar]];exact af7 ⟨h1,cL,c4,df,dM,eH,fG,fG,nx,oh,pa,p7,ye,Am,(by grind[ar,aG]),(by grind[ar,aG]),(bW bb Jc),(by grind[ar,aG]),(by grind[ar,aG]),(bW bb Jd),HS,l,ad⟩
             | false=>
              rcases hl x aa with⟨cN,l⟩ | ⟨cN,l⟩
              ·skip
               rw[show aL x=false from by grind[aL,b0,b4,ar]];exact af8 ⟨h1,cL,c4,df,dM,eH,fG,fG,nx,oh,pa,p7,ye,Am,l,ad⟩
              skip
              rw[show aL x=true from by grind[aL,b0,b4,ar]];exact af9 ⟨h1,cL,c4,df,dM,eH,fG,fG,nx,oh,pa,p7,ye,Am,l,ad⟩
           | false=>
            cases An:((↑(x.outs.map bb).length:Int)==2) with
            | true=>
             obtain⟨ayg,IL⟩:=db (xs:=x.outs) (i:=0) (by grind[ar,aG]);obtain⟨ayh,IM⟩:=db (xs:=x.outs) (i:=1) (by grind[ar,aG]);cases HH:(ayg==ayh) with
             | true=>
              rw[show aL x=false from by grind[aL,b0,b4,ar]];exact aga ⟨h1,cL,c4,df,dM,eH,fG,fG,nx,oh,pa,p7,An,(by grind[ar,aG]),(by grind[ar,aG]),(bW bb IL),(by grind[ar,aG]),(by grind[ar,aG]),(bW bb IM),HH,ad⟩
             | false=>
              rcases hl x aa with⟨cN,l⟩ | ⟨cN,l⟩
              ·skip
               rw[show aL x=false from by grind[aL,b0,b4,ar]];exact agb ⟨h1,cL,c4,df,dM,eH,fG,fG,nx,oh,pa,p7,An,(by grind[ar,aG]),(by grind[ar,aG]),(bW bb IL),(by grind[ar,aG]),(by grind[ar,aG]),(bW bb IM),HH,l,ad⟩
              skip
              rw[show aL x=true from by grind[aL,b0,b4,ar]];exact agc ⟨h1,cL,c4,df,dM,eH,fG,fG,nx,oh,pa,p7,An,(by grind[ar,aG]),(by grind[ar,aG]),(bW bb IL),(by grind[ar,aG]),(by grind[ar,aG]),(bW bb IM),HH,l,ad⟩
            | false=>
             rcases hl x aa with⟨cN,l⟩ | ⟨cN,l⟩
             ·skip
              rw[show aL x=false from by grind[aL,b0,b4,ar]];exact agd ⟨h1,cL,c4,df,dM,eH,fG,fG,nx,oh,pa,p7,An,l,ad⟩
             skip
             rw[show aL x=true from by grind[aL,b0,b4,ar]];exact age ⟨h1,cL,c4,df,dM,eH,fG,fG,nx,oh,pa,p7,An,l,ad⟩
       | false=>
        cases lV:(x.kind==8) with
        | true=>
         cases sw:(x.a != 0) with
         | true=>
          rw[show aL x=false from by grind[aL,b0,b4,ar]];exact agf ⟨h1,cL,c4,df,dM,eH,fG,lV,sw,ad⟩
         | false=>
          cases tQ:(x.b != 0) with
          | true=>
           rw[show aL x=false from by grind[aL,b0,b4,ar]];exact agh ⟨h1,cL,c4,df,dM,eH,fG,lV,sw,tQ,ad⟩
          | false=>
           cases vP:(decide ((↑(x.outs.map bb).length:Int)>2)) with
           | true=>
            rw[show aL x=false from by grind[aL,b0,b4,ar]];exact agi ⟨h1,cL,c4,df,dM,eH,fG,lV,sw,tQ,vP,ad⟩
           | false=>
            cases x9:(decide ((↑(x.outs.map bb).length:Int)>0)) with
            | true=>
             rw[show aL x=false from by grind[aL,b0,b4,ar]];exact agj ⟨h1,cL,c4,df,dM,eH,fG,lV,sw,tQ,vP,lV,x9,ad⟩
            | false=>
             cases Ad:((↑(x.outs.map bb).length:Int)==2) with
             | true=>
              obtain⟨ayi,IN⟩:=db (xs:=x.outs) (i:=0) (by grind[ar,aG]);obtain⟨ayj,IP⟩:=db (xs:=x.outs) (i:=1) (by grind[ar,aG]);cases HI:(ayi==ayj) with
              | true=>
               rw[show aL x=false from by grind[aL,b0,b4,ar]];exact agk ⟨h1,cL,c4,df,dM,eH,fG,lV,sw,tQ,vP,lV,x9,Ad,(by grind[ar,aG]),(by grind[ar,aG]),(bW bb IN),(by grind[ar,aG]),(by grind[ar,aG]),(bW bb IP),HI,ad⟩
              | false=>
               rcases hl x aa with⟨cN,l⟩ | ⟨cN,l⟩
               ·skip
                rw[show aL x=false from by grind[aL,b0,b4,ar]];exact agl ⟨h1,cL,c4,df,dM,eH,fG,lV,sw,tQ,vP,lV,x9,Ad,(by grind[ar,aG]),(by grind[ar,aG]),(bW bb IN),(by grind[ar,aG]),(by grind[ar,aG]),(bW bb IP),HI,l,ad⟩
               skip
               rw[show aL x=true from by grind[aL,b0,b4,ar]];exact agm ⟨h1,cL,c4,df,dM,eH,fG,lV,sw,tQ,vP,lV,x9,Ad,(by grind[ar,aG]),(by grind[ar,aG]),(bW bb IN),(by grind[ar,aG]),(by grind[ar,aG]),(bW bb IP),HI,l,ad⟩
             | false=>
              rcases hl x aa with⟨cN,l⟩ | ⟨cN,l⟩
              ·skip
               rw[show aL x=false from by grind[aL,b0,b4,ar]];exact agn ⟨h1,cL,c4,df,dM,eH,fG,lV,sw,tQ,vP,lV,x9,Ad,l,ad⟩
              skip
              rw[show aL x=true from by grind[aL,b0,b4,ar]];exact ago ⟨h1,cL,c4,df,dM,eH,fG,lV,sw,tQ,vP,lV,x9,Ad,l,ad⟩
        | false=>
         rw[show aL x=false from by grind[aL,b0,b4,ar]];exact agp ⟨h1,cL,c4,df,dM,eH,fG,lV,ad⟩
end Go.Proofs.YtdchjefneblpgaaGreat
namespace Go.Proofs.YtdchjefneblpgaaGreat
open Go.Sx Go.RowKit Go.Proofs.Tryz
def ih(g:bS)(k:Int):Int:=match g.nodes[k.toNat]? with | some y=>y.kind | none=>0
def gv(g:bS)(i:Nat)(x:Node)(k:Int):Bool:=
 decide ((g.nodes.length:Int)<=k)||(if x.kind=7 then decide ((i:Int)<k)||(ih g k != 5&&ih g k != 6) else decide (k<=i))
def jd(g:bS)(i:Nat)(x:Node):Bool:=!aL x||(decide (x.kind=1) != decide ((i:Int)=0))||x.outs.any (gv g i x)
def et(g:bS):Bool:=ar g.nodes.length 1 8&&ar g.ap 1 4&&ar g.cap 1 4&&!(anyI (jd g) 0 g.nodes)
def dy(x:Node)(k v:Int):Int×Int×Bool:=
 if aL x&&gu k v then
  if x.kind=2 then (k,less (v+x.a) 999,true)
  else if x.kind=4 then ((k+x.a).tmod 100,v,true)
  else if x.kind=3 then (k,v,k.tmod x.a==x.b)
  else (k,v,x.kind != 8)
 else (k,v,false)
theorem Lq{l:List Int}(h:nL l=true){k:Int}(hk:k∈l):ar k 0 7=true:=by
 simp only[nL,fP,fh]at h;simpa using h k hk
theorem Ud(g:bS)(av:g.sz<=8388608)(i:Nat)(hi:i<8)(x:Node)(aa:g.nodes[i]?=some x)(bP:aL x=true)(j:Nat)(k:Int)(hk:x.outs[j]?=some k)(r:Bool)(aA:gv g i x k=r):gl prog (aq f121 1) (ie i (g.nodes.map Node.e) g.ap g.cap x.kind x.a x.b (x.outs.map bb) (j:Int)) (bif r then .ret else .normal) (bif r then rR false else ie i (g.nodes.map Node.e) g.ap g.cap x.kind x.a x.b (x.outs.map bb) ((j+1:Nat):Int)):=by
 have bd:=aP hk;have ag:x.outs.length<=2:=by grind[aL]
 have nE:ar k 0 7=true:=Lq (by grind[aL]) (cS hk);have ef:x.outs[(j:Int).toNat]?=some k:=by simpa using hk
 have eR:decide ((j:Int)<(↑(x.outs.map bb).length:Int))=true:=bV bd;rcases dp (decide (k>=(↑(g.nodes.map Node.e).length:Int))) with h1 | h1
 ·skip
  obtain rfl:r=true:=by rw[<-aA];grind[gv,ih,ar]
  exact adM ⟨eR,(by grind[ar,aG,aL]),(by grind[ar,aG,aL]),(bW bb ef),h1,ad⟩
 skip
 rcases dp (x.kind != 7) with U | U
 ·skip
  rcases dp (decide (k<=(i:Int))) with ax | ax
  ·skip
   obtain rfl:r=true:=by rw[<-aA];grind[gv,ih,ar]
   exact adN ⟨eR,(by grind[ar,aG,aL]),(by grind[ar,aG,aL]),(bW bb ef),h1,U,ax,ad⟩
  skip
  obtain⟨Zy,AP⟩:=look (xs:=g.nodes) (i:=k) (by grind[ar,aG,aL]) (by grind[ar,aG,aL]);rcases dp (x.kind==7) with a7 | a7
  ·skip
   rcases dp (decide (k>(i:Int))) with bp | bp
   ·skip
    obtain rfl:r=true:=by rw[<-aA];grind[gv,ih,ar]
    exact adO ⟨eR,(by grind[ar,aG,aL]),(by grind[ar,aG,aL]),(bW bb ef),h1,U,ax,(by grind[ar,aG,aL]),(by grind[ar,aG,aL]),(bW Node.e AP),a7,bp,ad⟩
   skip
   rcases dp (Zy.kind != 5) with b6 | b6
   ·skip
    rcases dp (Zy.kind != 6) with dn | dn
    ·skip
     obtain rfl:r=true:=by rw[<-aA];grind[gv,ih,ar]
     exact adP ⟨eR,(by grind[ar,aG,aL]),(by grind[ar,aG,aL]),(bW bb ef),h1,U,ax,(by grind[ar,aG,aL]),(by grind[ar,aG,aL]),(bW Node.e AP),a7,bp,b6,dn,ad⟩
    skip
    obtain rfl:r=false:=by rw[<-aA];grind[gv,ih,ar]
    exact acY ⟨eR,(by grind[ar,aG,aL]),(by grind[ar,aG,aL]),(bW bb ef),h1,U,ax,(by grind[ar,aG,aL]),(by grind[ar,aG,aL]),(bW Node.e AP),a7,bp,b6,dn,(by grind[ar,aG,aL]),ad⟩
   skip
   obtain rfl:r=false:=by rw[<-aA];grind[gv,ih,ar]
   exact acZ ⟨eR,(by grind[ar,aG,aL]),(by grind[ar,aG,aL]),(bW bb ef),h1,U,ax,(by grind[ar,aG,aL]),(by grind[ar,aG,aL]),(bW Node.e AP),a7,bp,b6,(by grind[ar,aG,aL]),ad⟩
  skip
  obtain rfl:r=false:=by rw[<-aA];grind[gv,ih,ar]
  exact ac0 ⟨eR,(by grind[ar,aG,aL]),(by grind[ar,aG,aL]),(bW bb ef),h1,U,ax,(by grind[ar,aG,aL]),(by grind[ar,aG,aL]),(bW Node.e AP),a7,(by grind[ar,aG,aL]),ad⟩
 skip
 obtain⟨G5,sU⟩:=look (xs:=g.nodes) (i:=k) (by grind[ar,aG,aL]) (by grind[ar,aG,aL]);rcases dp (x.kind==7) with dY | dY
 ·skip
  rcases dp (decide (k>(i:Int))) with h7 | h7
  ·skip
   obtain rfl:r=true:=by rw[<-aA];grind[gv,ih,ar]
   exact ac1 ⟨eR,(by grind[ar,aG,aL]),(by grind[ar,aG,aL]),(bW bb ef),h1,U,(by grind[ar,aG,aL]),(by grind[ar,aG,aL]),(bW Node.e sU),dY,h7,ad⟩
  skip
  rcases dp (G5.kind != 5) with kG | kG
  ·skip
   rcases dp (G5.kind != 6) with tR | tR
   ·skip
    obtain rfl:r=true:=by rw[<-aA];grind[gv,ih,ar]
    exact ac2 ⟨eR,(by grind[ar,aG,aL]),(by grind[ar,aG,aL]),(bW bb ef),h1,U,(by grind[ar,aG,aL]),(by grind[ar,aG,aL]),(bW Node.e sU),dY,h7,kG,tR,ad⟩
   skip
   obtain rfl:r=false:=by rw[<-aA];grind[gv,ih,ar]
   exact ac3 ⟨eR,(by grind[ar,aG,aL]),(by grind[ar,aG,aL]),(bW bb ef),h1,U,(by grind[ar,aG,aL]),(by grind[ar,aG,aL]),(bW Node.e sU),dY,h7,kG,tR,(by grind[ar,aG,aL]),ad⟩
  skip
  obtain rfl:r=false:=by rw[<-aA];grind[gv,ih,ar]
  exact ac4 ⟨eR,(by grind[ar,aG,aL]),(by grind[ar,aG,aL]),(bW bb ef),h1,U,(by grind[ar,aG,aL]),(by grind[ar,aG,aL]),(bW Node.e sU),dY,h7,kG,(by grind[ar,aG,aL]),ad⟩
 skip
 obtain rfl:r=false:=by rw[<-aA];grind[gv,ih,ar]
 exact ac5 ⟨eR,(by grind[ar,aG,aL]),(by grind[ar,aG,aL]),(bW bb ef),h1,U,(by grind[ar,aG,aL]),(by grind[ar,aG,aL]),(bW Node.e sU),dY,(by grind[ar,aG,aL]),ad⟩
theorem Ue(g:bS)(av:g.sz<=8388608)(i:Nat)(hi:i<8)(x:Node)(aa:g.nodes[i]?=some x)(bP:aL x=true)(j:Nat)(k:Int)(hk:x.outs[j]?=some k)(r:Bool)(aA:gv g i x k=r):gl prog (aq f179 1) (ig (g.nodes.map Node.e) i (g.nodes.map Node.e) g.ap g.cap x.kind x.a x.b (x.outs.map bb) (j:Int)) (bif r then .ret else .normal) (bif r then rS false else ig (g.nodes.map Node.e) i (g.nodes.map Node.e) g.ap g.cap x.kind x.a x.b (x.outs.map bb) ((j+1:Nat):Int)):=by
 have bd:=aP hk;have ag:x.outs.length<=2:=by grind[aL]
 have nE:ar k 0 7=true:=Lq (by grind[aL]) (cS hk);have ef:x.outs[(j:Int).toNat]?=some k:=by simpa using hk
 have eR:decide ((j:Int)<(↑(x.outs.map bb).length:Int))=true:=bV bd;rcases dp (decide (k>=(↑(g.nodes.map Node.e).length:Int))) with h1 | h1
 ·skip
  obtain rfl:r=true:=by rw[<-aA];grind[gv,ih,ar]
  exact adj ⟨eR,(by grind[ar,aG,aL]),(by grind[ar,aG,aL]),(bW bb ef),h1,ad⟩
 skip
 obtain⟨fb,mF⟩:=look (xs:=g.nodes) (i:=k) (by grind[ar,aG,aL]) (by grind[ar,aG,aL]);rcases dp (x.kind==7) with ax | ax
 ·skip
  rcases dp (decide (k>(i:Int))) with aK | aK
  ·skip
   obtain rfl:r=true:=by rw[<-aA];grind[gv,ih,ar]
   exact adk ⟨eR,(by grind[ar,aG,aL]),(by grind[ar,aG,aL]),(bW bb ef),h1,(by grind[ar,aG,aL]),(by grind[ar,aG,aL]),(bW Node.e mF),ax,aK,ad⟩
  skip
  rcases dp (fb.kind != 5) with a7 | a7
  ·skip
   rcases dp (fb.kind != 6) with bp | bp
   ·skip
    obtain rfl:r=true:=by rw[<-aA];grind[gv,ih,ar]
    exact adl ⟨eR,(by grind[ar,aG,aL]),(by grind[ar,aG,aL]),(bW bb ef),h1,(by grind[ar,aG,aL]),(by grind[ar,aG,aL]),(bW Node.e mF),ax,aK,a7,bp,ad⟩
   skip
   rcases dp (x.kind != 7) with b6 | b6
   ·skip
    rcases dp (decide (k<=(i:Int))) with dn | dn
    ·skip
     obtain rfl:r=true:=by rw[<-aA];grind[gv,ih,ar]
     exact adm ⟨eR,(by grind[ar,aG,aL]),(by grind[ar,aG,aL]),(bW bb ef),h1,(by grind[ar,aG,aL]),(by grind[ar,aG,aL]),(bW Node.e mF),ax,aK,a7,bp,b6,dn,ad⟩
    skip
    obtain rfl:r=false:=by rw[<-aA];grind[gv,ih,ar]
    exact adn ⟨eR,(by grind[ar,aG,aL]),(by grind[ar,aG,aL]),(bW bb ef),h1,(by grind[ar,aG,aL]),(by grind[ar,aG,aL]),(bW Node.e mF),ax,aK,a7,bp,b6,dn,(by grind[ar,aG,aL]),ad⟩
   skip
   obtain rfl:r=false:=by rw[<-aA];grind[gv,ih,ar]
   exact ado ⟨eR,(by grind[ar,aG,aL]),(by grind[ar,aG,aL]),(bW bb ef),h1,(by grind[ar,aG,aL]),(by grind[ar,aG,aL]),(bW Node.e mF),ax,aK,a7,bp,b6,(by grind[ar,aG,aL]),ad⟩
  skip
  rcases dp (x.kind != 7) with eF | eF
  ·skip
   rcases dp (decide (k<=(i:Int))) with dY | dY
   ·skip
    obtain rfl:r=true:=by rw[<-aA];grind[gv,ih,ar]
    exact adp ⟨eR,(by grind[ar,aG,aL]),(by grind[ar,aG,aL]),(bW bb ef),h1,(by grind[ar,aG,aL]),(by grind[ar,aG,aL]),(bW Node.e mF),ax,aK,a7,eF,dY,ad⟩
   skip
   obtain rfl:r=false:=by rw[<-aA];grind[gv,ih,ar]
   exact acO ⟨eR,(by grind[ar,aG,aL]),(by grind[ar,aG,aL]),(bW bb ef),h1,(by grind[ar,aG,aL]),(by grind[ar,aG,aL]),(bW Node.e mF),ax,aK,a7,eF,dY,(by grind[ar,aG,aL]),ad⟩
  skip
  obtain rfl:r=false:=by rw[<-aA];grind[gv,ih,ar]
  exact acP ⟨eR,(by grind[ar,aG,aL]),(by grind[ar,aG,aL]),(bW bb ef),h1,(by grind[ar,aG,aL]),(by grind[ar,aG,aL]),(bW Node.e mF),ax,aK,a7,eF,(by grind[ar,aG,aL]),ad⟩
 skip
 rcases dp (x.kind != 7) with h7 | h7
 ·skip
  rcases dp (decide (k<=(i:Int))) with kG | kG
  ·skip
   obtain rfl:r=true:=by rw[<-aA];grind[gv,ih,ar]
   exact acQ ⟨eR,(by grind[ar,aG,aL]),(by grind[ar,aG,aL]),(bW bb ef),h1,(by grind[ar,aG,aL]),(by grind[ar,aG,aL]),(bW Node.e mF),ax,h7,kG,ad⟩
  skip
  obtain rfl:r=false:=by rw[<-aA];grind[gv,ih,ar]
  exact acR ⟨eR,(by grind[ar,aG,aL]),(by grind[ar,aG,aL]),(bW bb ef),h1,(by grind[ar,aG,aL]),(by grind[ar,aG,aL]),(bW Node.e mF),ax,h7,kG,(by grind[ar,aG,aL]),ad⟩
 skip
 obtain rfl:r=false:=by rw[<-aA];grind[gv,ih,ar]
 exact acS ⟨eR,(by grind[ar,aG,aL]),(by grind[ar,aG,aL]),(bW bb ef),h1,(by grind[ar,aG,aL]),(by grind[ar,aG,aL]),(bW Node.e mF),ax,h7,(by grind[ar,aG,aL]),ad⟩
theorem afT(g:bS)(av:g.sz<=8388608)(i:Nat)(hi:i<8)(x:Node)(aa:g.nodes[i]?=some x)(bP:aL x=true):
  (x.outs.any (gv g i x)=true/\c' prog (aq f121 1) (ie i (g.nodes.map Node.e) g.ap g.cap x.kind x.a x.b (x.outs.map bb) 0) .ret (rR false))\/(x.outs.any (gv g i x)=false/\c' prog (aq f121 1) (ie i (g.nodes.map Node.e) g.ap g.cap x.kind x.a x.b (x.outs.map bb) 0) (.exit 2) (Lk i (g.nodes.map Node.e) g.ap g.cap)):=by
 have l:=hM (P:=prog) (c:=(aq f121 1)) x.outs (gv g i x) (fun j=>ie i (g.nodes.map Node.e) g.ap g.cap x.kind x.a x.b (x.outs.map bb) j) (X:=fun _ _=>rR false) dZ (cC 2)
  (fun j k hk h=>Ud g av i hi x aa bP j k hk false h)
  (fun j k hk h=>Ud g av i hi x aa bP j k hk true h)
  (ac6 ⟨dk,ad⟩)
 rcases l with⟨_,_,h1,U⟩ | ⟨j,k,_,_,_,_,h1,U⟩
 ·exact .inr ⟨h1,U⟩
 exact .inl ⟨h1,U⟩
theorem afU(g:bS)(av:g.sz<=8388608)(i:Nat)(hi:i<8)(x:Node)(aa:g.nodes[i]?=some x)(bP:aL x=true):
  (x.outs.any (gv g i x)=true/\c' prog (aq f179 1) (ig (g.nodes.map Node.e) i (g.nodes.map Node.e) g.ap g.cap x.kind x.a x.b (x.outs.map bb) 0) .ret (rS false))\/(x.outs.any (gv g i x)=false/\c' prog (aq f179 1) (ig (g.nodes.map Node.e) i (g.nodes.map Node.e) g.ap g.cap x.kind x.a x.b (x.outs.map bb) 0) (.exit 2) (Lm (g.nodes.map Node.e) i (g.nodes.map Node.e) g.ap g.cap)):=by
 have l:=hM (P:=prog) (c:=(aq f179 1)) x.outs (gv g i x) (fun j=>ig (g.nodes.map Node.e) i (g.nodes.map Node.e) g.ap g.cap x.kind x.a x.b (x.outs.map bb) j) (X:=fun _ _=>rS false) dZ (cC 2)
  (fun j k hk h=>Ue g av i hi x aa bP j k hk false h)
  (fun j k hk h=>Ue g av i hi x aa bP j k hk true h)
  (acT ⟨dk,ad⟩)
 rcases l with⟨_,_,h1,U⟩ | ⟨j,k,_,_,_,_,h1,U⟩
 ·exact .inr ⟨h1,U⟩
 exact .inl ⟨h1,U⟩
theorem Uf(g:bS)(av:g.sz<=8388608)(i:Nat)(hi:i<8)(x:Node)(aa:g.nodes[i]?=some x)(r:Bool)(aA:jd g i x=r):gl prog (aq f121 0) (oS ((i:Nat):Int) (g.nodes.map Node.e) g.ap g.cap) (bif r then .ret else .normal) (bif r then xf false else oS ((i+1:Nat):Int) (g.nodes.map Node.e) g.ap g.cap):=by
 have bd:=aP aa;have aU:=bS.D9 av (cS aa);have ef:g.nodes[(i:Int).toNat]?=some x:=by simpa using aa
 have eR:decide ((i:Int)<(↑(g.nodes.map Node.e).length:Int))=true:=bV bd;have c1:=Uc x (by grind);rcases dp (aL x) with U | U
 ·skip
  rcases dp ((x.kind==1)==((i:Int)==0)) with ax | ax
  ·skip
   rcases afT g av i hi x aa (by grind) with⟨cN,l⟩ | ⟨cN,l⟩
   ·skip
    obtain rfl:r=true:=by rw[<-aA];grind[jd]
    exact ac7 ⟨eR,(by grind[ar,aG,aL]),(by grind[ar,aG,aL]),(bW Node.e ef),c1,(by rw[U];rfl),(by rw[ax];rfl),l,ad⟩
   skip
   obtain rfl:r=false:=by rw[<-aA];grind[jd]
   exact ac8 ⟨eR,(by grind[ar,aG,aL]),(by grind[ar,aG,aL]),(bW Node.e ef),c1,(by rw[U];rfl),(by rw[ax];rfl),l,(by grind[ar,aG,aL]),ad⟩
  skip
  obtain rfl:r=true:=by rw[<-aA];grind[jd]
  exact adL ⟨eR,(by grind[ar,aG,aL]),(by grind[ar,aG,aL]),(bW Node.e ef),c1,(by rw[U];rfl),(by rw[ax];rfl),ad⟩
 skip
 obtain rfl:r=true:=by rw[<-aA];grind[jd]
 exact adK ⟨eR,(by grind[ar,aG,aL]),(by grind[ar,aG,aL]),(bW Node.e ef),c1,(by rw[U];rfl),ad⟩
theorem Ug(g:bS)(av:g.sz<=8388608)(i:Nat)(hi:i<8)(x:Node)(aa:g.nodes[i]?=some x)(r:Bool)(aA:jd g i x=r):gl prog (aq f179 0) (oT (g.nodes.map Node.e) ((i:Nat):Int) (g.nodes.map Node.e) g.ap g.cap) (bif r then .ret else .normal) (bif r then xg false else oT (g.nodes.map Node.e) ((i+1:Nat):Int) (g.nodes.map Node.e) g.ap g.cap):=by
 have bd:=aP aa;have aU:=bS.D9 av (cS aa);have ef:g.nodes[(i:Int).toNat]?=some x:=by simpa using aa
 have eR:decide ((i:Int)<(↑(g.nodes.map Node.e).length:Int))=true:=bV bd;have c1:=afS x (by grind);rcases dp (aL x) with U | U
 ·skip
  rcases dp ((x.kind==1)==((i:Int)==0)) with ax | ax
  ·skip
   rcases afU g av i hi x aa (by grind) with⟨cN,l⟩ | ⟨cN,l⟩
   ·skip
    obtain rfl:r=true:=by rw[<-aA];grind[jd]
    exact acU ⟨eR,(by grind[ar,aG,aL]),(by grind[ar,aG,aL]),(bW Node.e ef),c1,(by rw[U];rfl),(by rw[ax];rfl),l,ad⟩
   skip
   obtain rfl:r=false:=by rw[<-aA];grind[jd]
   exact acV ⟨eR,(by grind[ar,aG,aL]),(by grind[ar,aG,aL]),(bW Node.e ef),c1,(by rw[U];rfl),(by rw[ax];rfl),l,(by grind[ar,aG,aL]),ad⟩
  skip
  obtain rfl:r=true:=by rw[<-aA];grind[jd]
  exact adi ⟨eR,(by grind[ar,aG,aL]),(by grind[ar,aG,aL]),(bW Node.e ef),c1,(by rw[U];rfl),(by rw[ax];rfl),ad⟩
 skip
 obtain rfl:r=true:=by rw[<-aA];grind[jd]
 exact adh ⟨eR,(by grind[ar,aG,aL]),(by grind[ar,aG,aL]),(bW Node.e ef),c1,(by rw[U];rfl),ad⟩
theorem afV(g:bS)(av:g.sz<=8388608)(dn:g.nodes.length<=8):
  (anyI (jd g) 0 g.nodes=true/\c' prog (aq f121 0) (oS 0 (g.nodes.map Node.e) g.ap g.cap) .ret (xf false))\/(anyI (jd g) 0 g.nodes=false/\c' prog (aq f121 0) (oS 0 (g.nodes.map Node.e) g.ap g.cap) (.exit 0) Ll):=by
 have l:=ux (P:=prog) (c:=(aq f121 0)) g.nodes (jd g) (fun i=>oS (i:Nat) (g.nodes.map Node.e) g.ap g.cap) (X:=xf false) dZ (cC 0)
  (fun i x aa h=>Uf g av i (by have:=aP aa;omega) x aa false h)
  (fun i x aa h=>Uf g av i (by have:=aP aa;omega) x aa true h)
  (ac9 ⟨dk,ad⟩)
 rcases l with⟨h1,U⟩ | ⟨h1,U⟩
 ·exact .inr ⟨h1,U⟩
 exact .inl ⟨h1,U⟩
theorem afW(g:bS)(av:g.sz<=8388608)(dn:g.nodes.length<=8):
  (anyI (jd g) 0 g.nodes=true/\c' prog (aq f179 0) (oT (g.nodes.map Node.e) 0 (g.nodes.map Node.e) g.ap g.cap) .ret (xg false))\/(anyI (jd g) 0 g.nodes=false/\c' prog (aq f179 0) (oT (g.nodes.map Node.e) 0 (g.nodes.map Node.e) g.ap g.cap) (.exit 0) Ln):=by
 have l:=ux (P:=prog) (c:=(aq f179 0)) g.nodes (jd g) (fun i=>oT (g.nodes.map Node.e) (i:Nat) (g.nodes.map Node.e) g.ap g.cap) (X:=xg false) dZ (cC 0)
  (fun i x aa h=>Ug g av i (by have:=aP aa;omega) x aa false h)
  (fun i x aa h=>Ug g av i (by have:=aP aa;omega) x aa true h)
  (acW ⟨dk,ad⟩)
 rcases l with⟨h1,U⟩ | ⟨h1,U⟩
 ·exact .inr ⟨h1,U⟩
 exact .inl ⟨h1,U⟩
theorem ze(g:bS)(av:g.sz<=8388608):aw 121 [.agg g.e] [.one (B (et g))]:=by
 have c1:=iJ (↑(g.nodes.map Node.e).length:Int) 1 8;rcases dp (ar (↑(g.nodes.map Node.e).length:Int) 1 8) with U | U
 ·skip
  have c6:=iJ g.ap 1 4;rcases dp (ar g.ap 1 4) with aK | aK
  ·skip
   have iy:=iJ g.cap 1 4;rcases dp (ar g.cap 1 4) with bp | bp
   ·skip
    rcases afV g av (by grind[ar]) with⟨cN,l⟩ | ⟨cN,l⟩
    ·skip
     rw[show et g=false from by grind[et]];exact ada ⟨c1,(by rw[U];rfl),c6,(by rw[aK];rfl),iy,(by rw[bp];rfl),l,ad⟩
    skip
    rw[show et g=true from by grind[et]];exact adb ⟨c1,(by rw[U];rfl),c6,(by rw[aK];rfl),iy,(by rw[bp];rfl),l,ad⟩
   skip
   rw[show et g=false from by grind[et]];exact adJ ⟨c1,(by rw[U];rfl),c6,(by rw[aK];rfl),iy,(by rw[bp];rfl),ad⟩
  skip
  rw[show et g=false from by grind[et]];exact adI ⟨c1,(by rw[U];rfl),c6,(by rw[aK];rfl),ad⟩
 skip
 rw[show et g=false from by grind[et]];exact adH ⟨c1,(by rw[U];rfl),ad⟩
theorem Uh(g:bS)(av:g.sz<=8388608):aw 179 [.agg g.e] [.one (B (et g))]:=by
 have c1:=kR (↑(g.nodes.map Node.e).length:Int) 1 8;rcases dp (ar (↑(g.nodes.map Node.e).length:Int) 1 8) with U | U
 ·skip
  have c6:=kR g.ap 1 4;rcases dp (ar g.ap 1 4) with aK | aK
  ·skip
   have iy:=kR g.cap 1 4;rcases dp (ar g.cap 1 4) with bp | bp
   ·skip
    rcases afW g av (by grind[ar]) with⟨cN,l⟩ | ⟨cN,l⟩
    ·skip
     rw[show et g=false from by grind[et]];exact acX ⟨c1,(by rw[U];rfl),c6,(by rw[aK];rfl),iy,(by rw[bp];rfl),l,ad⟩
    skip
    rw[show et g=true from by grind[et]];exact aeq ⟨c1,(by rw[U];rfl),c6,(by rw[aK];rfl),iy,(by rw[bp];rfl),l,ad⟩
   skip
   rw[show et g=false from by grind[et]];exact adg ⟨c1,(by rw[U];rfl),c6,(by rw[aK];rfl),iy,(by rw[bp];rfl),ad⟩
  skip
  rw[show et g=false from by grind[et]];exact adf ⟨c1,(by rw[U];rfl),c6,(by rw[aK];rfl),ad⟩
 skip
 rw[show et g=false from by grind[et]];exact ade ⟨c1,(by rw[U];rfl),ad⟩
theorem afX(x:Node)(k v:Int)(aa:x.outs.length<=8388608):aw 267 [.agg x.e,.one (I k),.one (I v)] [.one (I ((dy x k v).1)),.one (I ((dy x k v).2.1)),.one (B ((dy x k v).2.2))]:=by
 have c1:=Uc x (by grind);rcases dp (aL x) with U | U
 ·skip
  have c6:=iJ k 0 99;rcases dp (ar k 0 99) with aK | aK
  ·skip
   have iy:=iJ v 0 999;rcases dp (ar v 0 999) with bp | bp
   ·skip
    rcases dp (x.kind==2) with b6 | b6
    ·skip
     have sm:=afR (v+x.a) 999;rw[show dy x k v=(k,less (v+x.a) 999,true) from by grind[dy,gu,less,aL,b0]];exact aeI ⟨c1,(by rw[U];rfl),c6,(by rw[aK];rfl),iy,(by rw[bp];rfl),b6,(by grind[aL,b0,ar,aG,gu]),sm,ad⟩
    skip
    rcases dp (x.kind==4) with eF | eF
    ·skip
     rw[show dy x k v=((k+x.a).tmod 100,v,true) from by grind[dy,gu,less,aL,b0]];exact aeJ ⟨c1,(by rw[U];rfl),c6,(by rw[aK];rfl),iy,(by rw[bp];rfl),b6,eF,(by grind[aL,b0,ar,aG,gu]),(by grind[aL,b0,ar,aG,gu]),ad⟩
    skip
    rcases dp (x.kind==3) with dY | dY
    ·skip
     rw[show dy x k v=(k,v,k.tmod x.a==x.b) from by grind[dy,gu,less,aL,b0]];exact aeK ⟨c1,(by rw[U];rfl),c6,(by rw[aK];rfl),iy,(by rw[bp];rfl),b6,eF,dY,(by grind[aL,b0,ar,aG,gu]),ad⟩
    skip
    rw[show dy x k v=(k,v,x.kind != 8) from by grind[dy,gu,less,aL,b0]];exact aeL ⟨c1,(by rw[U];rfl),c6,(by rw[aK];rfl),iy,(by rw[bp];rfl),b6,eF,dY,ad⟩
   skip
   rw[show dy x k v=(k,v,false) from by grind[dy,gu,less,aL,b0]];exact aeH ⟨c1,(by rw[U];rfl),c6,(by rw[aK];rfl),iy,(by rw[bp];rfl),ad⟩
  skip
  rw[show dy x k v=(k,v,false) from by grind[dy,gu,less,aL,b0]];exact aeG ⟨c1,(by rw[U];rfl),c6,(by rw[aK];rfl),ad⟩
 skip
 rw[show dy x k v=(k,v,false) from by grind[dy,gu,less,aL,b0]];exact aeF ⟨c1,(by rw[U];rfl),ad⟩
def fN(a b:Cell):Bool:=a.op==b.op&&a.bh==b.bh&&a.key==b.key
def gK(op ep key:Int)(s:Int×Bool)(a:Cell):Int×Bool:=if a.op=op/\a.bh=ep/\a.key=key/\(s.2=false\/a.val<s.1) then (a.val,true) else s
def rU(xs:List Cell)(op ep key:Int):Int×Bool:=xs.foldl (gK op ep key) (0,false)
theorem afY(xs:List Cell)(ag:xs.length<=8388608)(op ep key m:Int)(f:Bool)(i:Nat)(a:Cell)(ae:xs[i]?=some a):gl prog (aq f324 0) (lE (xs.map Cell.e) op ep key i f m) .normal (lE (xs.map Cell.e) op ep key ((i+1:Nat):Int) (gK op ep key (m,f) a).2 (gK op ep key (m,f) a).1):=by
 have bd:=aP ae;have ef:xs[(i:Int).toNat]?=some a:=by simpa using ae
 have eR:decide ((i:Int)<(↑(xs.map Cell.e).length:Int))=true:=bV bd;rcases dp (a.op==op) with h1 | h1
 ·skip
  rcases dp (a.bh==ep) with U | U
  ·skip
   rcases dp (a.key==key) with ax | ax
   ·skip
    rcases dp (f) with aK | aK
    ·skip
     rcases dp (decide (a.val<m)) with a7 | a7
     ·skip
      rw[show gK op ep key (m,f) a=(a.val,true) from by grind[gK,fN]];exact atW ⟨eR,(by grind[aG]),(by grind[aG]),(bW Cell.e ef),h1,U,ax,(by rw[aK];rfl),a7,(by grind[aG]),ad⟩
     skip
     rw[show gK op ep key (m,f) a=(m,f) from by grind[gK,fN]];exact atX ⟨eR,(by grind[aG]),(by grind[aG]),(bW Cell.e ef),h1,U,ax,(by rw[aK];rfl),a7,(by grind[aG]),ad⟩
    skip
    rw[show gK op ep key (m,f) a=(a.val,true) from by grind[gK,fN]];exact atV ⟨eR,(by grind[aG]),(by grind[aG]),(bW Cell.e ef),h1,U,ax,(by rw[aK];rfl),(by grind[aG]),ad⟩
   skip
   rw[show gK op ep key (m,f) a=(m,f) from by grind[gK,fN]];exact avp ⟨eR,(by grind[aG]),(by grind[aG]),(bW Cell.e ef),h1,U,ax,(by grind[aG]),ad⟩
  skip
  rw[show gK op ep key (m,f) a=(m,f) from by grind[gK,fN]];exact avq ⟨eR,(by grind[aG]),(by grind[aG]),(bW Cell.e ef),h1,U,(by grind[aG]),ad⟩
 skip
 rw[show gK op ep key (m,f) a=(m,f) from by grind[gK,fN]];exact avr ⟨eR,(by grind[aG]),(by grind[aG]),(bW Cell.e ef),h1,(by grind[aG]),ad⟩
theorem Ui(xs:List Cell)(op ep key:Int)(ag:xs.length<=8388608):aw 324 [.one (.J 4 (xs.map Cell.e)),.one (I op),.one (I ep),.one (I key)] [.one (I (rU xs op ep key).1),.one (B (rU xs op ep key).2)]:=by
 have l:=e6 (P:=prog) (c:=(aq f324 0)) (cC 0) xs.length (fun i:Nat=>lE (xs.map Cell.e) op ep key i (wX (gK op ep key) (0,false) xs i).2 (wX (gK op ep key) (0,false) xs i).1) (fun i hi=>by
  obtain⟨a,ae⟩:=db hi;rw[asY ae];exact afY xs ag op ep key _ _ i a ae) (avs ⟨dk,ad⟩)
 rw[asZ]at l;exact avt ⟨l,ad⟩
