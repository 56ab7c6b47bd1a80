import Derived.Test.YtdchjefneblpgaaGreatP21
set_option linter.unusedVariables false
set_option linter.unusedSimpArgs false
namespace Go.Proofs.YtdchjefneblpgaaGreat
open Go.Sx Go.RowKit Go.Proofs.Tryz
variable{c:a'}
theorem oc(h:c.sz<=8388608):c.aE.sz<=8388608:=by simp only[a'.sz]at h;omega
theorem WE(h:c.sz<=8388608):c.tokens.length<=8388608:=by simp only[a'.sz,fs]at h;omega
theorem xM(h:c.sz<=8388608):c.news.length<=8388608:=by simp only[a'.sz,fs]at h;omega
def kA(g:b9)(i:Nat)(l:bw):Bool:=
 !jz l||((l.cap != g.cap)||(!gP g l.queue||((i:Int).tdiv g.az==(i:Int).tmod g.az&&decide ((l.queue.length:Int)>0))))
def l3(n:Int)(t:b4):Bool:=!aw t.place 0 (n-1)||((!t.going&&t.place != 0)||!aw t.sum (-1000000) 1000000)
def l4(n:Int)(x:b1):Bool:=!aw x.dest 0 (n-1)||!aw x.bd 0 3
def cU(c:a'):Bool:=
 eM c.aE&&(((c.az.length:Int)==c.aE.az)&&(((c.bP.length:Int)==c.aE.az*c.aE.az)&&((c.tokens.length==4)&&(!(c.az.any fun w=>!fe c.aE w)&&(!(anyI (kA c.aE) 0 c.bP)&&(!(c.tokens.any (l3 c.aE.az))&&!(c.news.any (l4 c.aE.az))))))))
theorem mZ{g:b9}(h:eM g=true):1<=g.az/\g.az<=4:=by
 simp only[eM,cx,aw,cV]at h;omega
theorem zz(i:Nat)(n:Int)(hi:i<=8388608)(aX:1<=n):aD .i64 ((i:Int).tdiv n):=by
 have h1:0<=(i:Int).tdiv n:=Int.tdiv_nonneg (by omega) (by omega);have U:(i:Int).tdiv n<=(i:Int):=Int.tdiv_le_self _ (by omega);exact⟨by omega,by omega⟩
theorem aj7(h:c.wf){l:bw}(ap:l∈c.bP):l.dy<=9223372036854775807:=by
 have:=(a'.Km h ap).QV;simp only[aD]at this;exact this.2
def gl(c:a'):Prop:=∀l∈c.bP,l.dy<=9223372036854775807
theorem gl.of(h:c.wf):gl c:=fun _ ap=>aj7 h ap
theorem alA(c:a')(aj:c.sz<=8388608)(aX:(c.az.length:Int)=c.aE.az):
  ((c.az.any fun w=>!fe c.aE w)=false/\c5 prog (ar f56 0) (tG (c.aE.nodes.map Node.e) c.aE.az c.aE.cap (c.az.map aP.e) (c.bP.map bw.e) (c.tokens.map b4.e) (c.news.map b1.e) 0) (.exit 0) (KE (c.aE.nodes.map Node.e) c.aE.az c.aE.cap (c.az.map aP.e) (c.bP.map bw.e) (c.tokens.map b4.e) (c.news.map b1.e)))\/
  ((c.az.any fun w=>!fe c.aE w)=true/\c5 prog (ar f56 0) (tG (c.aE.nodes.map Node.e) c.aE.az c.aE.cap (c.az.map aP.e) (c.bP.map bw.e) (c.tokens.map b4.e) (c.news.map b1.e) 0) .ret (FG false)):=by
 have ap:=a'.x5 aj;have l:=gN (P:=prog) (c:=(ar f56 0)) c.az (fun w=>!fe c.aE w) (fun i=>tG (c.aE.nodes.map Node.e) c.aE.az c.aE.cap (c.az.map aP.e) (c.bP.map bw.e) (c.tokens.map b4.e) (c.news.map b1.e) i) (X:=fun _ _=>FG false) e0 (cH 0)
  (fun i a ak h=>by
   have k:=Fc c.aE a (oc aj) (a'.G6 aj (eD ak));rw[show fe c.aE a=true by simpa using h]at k;exact ad0 ⟨dt (by have:=aT ak;omega),bD,bK (aT ak),bE aP.e ak,k,rfl,dj (aT ak) ap,aa⟩)
  (fun i a ak h=>by
   have k:=Fc c.aE a (oc aj) (a'.G6 aj (eD ak));rw[show fe c.aE a=false by simpa using h]at k;exact adZ ⟨dt (by have:=aT ak;omega),bD,bK (aT ak),bE aP.e ak,k,rfl,aa⟩)
  (ad1 ⟨dQ (by omega),aa⟩)
 rcases l with⟨_,_,h1,U⟩ | ⟨_,_,_,_,_,_,h1,U⟩
 ·exact .inl ⟨h1,U⟩
 exact .inr ⟨h1,U⟩
theorem alB(c:a')(aj:c.sz<=8388608)(hw:gl c)(aX:1<=c.aE.az):
  (anyI (kA c.aE) 0 c.bP=false/\c5 prog (ar f56 1) (mV c.aE.az 0 (c.aE.nodes.map Node.e) c.aE.az c.aE.cap (c.az.map aP.e) (c.bP.map bw.e) (c.tokens.map b4.e) (c.news.map b1.e)) (.exit 2) (Cw c.aE.az (c.aE.nodes.map Node.e) c.aE.az c.aE.cap (c.az.map aP.e) (c.bP.map bw.e) (c.tokens.map b4.e) (c.news.map b1.e)))\/
  (anyI (kA c.aE) 0 c.bP=true/\c5 prog (ar f56 1) (mV c.aE.az 0 (c.aE.nodes.map Node.e) c.aE.az c.aE.cap (c.az.map aP.e) (c.bP.map bw.e) (c.tokens.map b4.e) (c.news.map b1.e)) .ret (yX false)):=by
 have ap:=a'.yR aj;have pe:∀(i:Nat) (a:bw),c.bP[i]?=some a->∀r,jz a=r->al 191 [.agg a.e] [.one (B r)]:=fun i a ak r h=>h▸E' a (a'.EE aj (eD ak))
 have gq:∀(i:Nat) (a:bw),c.bP[i]?=some a->∀r,gP c.aE a.queue=r->al 192 [.agg c.aE.e,.one (.J 5 (a.queue.map aq.e))] [.one (B r)]:=fun i a ak r h=>xD c.aE _ r h (oc aj) (a'.EE aj (eD ak))
 exact su (P:=prog) (c:=(ar f56 1)) c.bP (kA c.aE) (fun i=>mV c.aE.az i (c.aE.nodes.map Node.e) c.aE.az c.aE.cap (c.az.map aP.e) (c.bP.map bw.e) (c.tokens.map b4.e) (c.news.map b1.e)) e0 (cH 2)
  (fun i a ak h=>by
   have hi:=aT ak;simp only[kA,hG,ln]at h;obtain⟨h1,U,ax,aF⟩:=h;cases aZ:((i:Int).tdiv c.aE.az==(i:Int).tmod c.aE.az) with
   | true=>
    rw[aZ,oP]at aF;exact afx ⟨b5 (aT ak),bD,bK (aT ak),bE bw.e ak,pe i a ak _ h1,rfl,U,gq i a ak _ ax,rfl,by omega,zz i _ (by omega) aX,by omega,aZ,by rw[bl];exact aF,dj hi ap,aa⟩
   | false=>exact afy ⟨b5 (aT ak),bD,bK (aT ak),bE bw.e ak,pe i a ak _ h1,rfl,U,gq i a ak _ ax,rfl,by omega,zz i _ (by omega) aX,by omega,aZ,dj hi ap,aa⟩)
  (fun i a ak h=>by
   have hi:=aT ak;cases h1:jz a with
   | false=>exact ad3 ⟨b5 (aT ak),bD,bK (aT ak),bE bw.e ak,pe i a ak _ h1,rfl,aa⟩
   | true=>
   cases U:(a.cap != c.aE.cap) with
   | true=>exact ad4 ⟨b5 (aT ak),bD,bK (aT ak),bE bw.e ak,pe i a ak _ h1,rfl,U,aa⟩
   | false=>
   cases ax:gP c.aE a.queue with
   | false=>exact ad5 ⟨b5 (aT ak),bD,bK (aT ak),bE bw.e ak,pe i a ak _ h1,rfl,U,gq i a ak _ ax,rfl,aa⟩
   | true=>
   simp only[kA,h1,U,ax,jC,kF,cx]at h;exact afw ⟨b5 (aT ak),bD,bK (aT ak),bE bw.e ak,pe i a ak _ h1,rfl,U,gq i a ak _ ax,rfl,by omega,zz i _ (by omega) aX,by omega,h.1,by rw[bl];exact h.2,aa⟩)
  (afz ⟨dT,aa⟩)
theorem alC(c:a')(aj:c.sz<=8388608)(aX:1<=c.aE.az/\c.aE.az<=4):
  ((c.tokens.any (l3 c.aE.az))=false/\c5 prog (ar f56 2) (nT c.aE.az (c.aE.nodes.map Node.e) c.aE.az c.aE.cap (c.az.map aP.e) (c.bP.map bw.e) (c.tokens.map b4.e) (c.news.map b1.e) 0) (.exit 4) (FH c.aE.az (c.aE.nodes.map Node.e) c.aE.az c.aE.cap (c.az.map aP.e) (c.bP.map bw.e) (c.tokens.map b4.e) (c.news.map b1.e)))\/
  ((c.tokens.any (l3 c.aE.az))=true/\c5 prog (ar f56 2) (nT c.aE.az (c.aE.nodes.map Node.e) c.aE.az c.aE.cap (c.az.map aP.e) (c.bP.map bw.e) (c.tokens.map b4.e) (c.news.map b1.e) 0) .ret (xB false)):=by
 have ap:=WE aj;have l:=gN (P:=prog) (c:=(ar f56 2)) c.tokens (l3 c.aE.az) (fun i=>nT c.aE.az (c.aE.nodes.map Node.e) c.aE.az c.aE.cap (c.az.map aP.e) (c.bP.map bw.e) (c.tokens.map b4.e) (c.news.map b1.e) i) (X:=fun _ _=>xB false) e0 (cH 4)
  (fun i a ak h=>by
   have hi:=aT ak;simp only[l3,hG,ln]at h;obtain⟨h1,U,ax⟩:=h;cases ay:a.going with
   | false=>
    rw[ay,oN,oP]at U;exact afE ⟨b5 (aT ak),bD,bK (aT ak),bE b4.e ak,⟨by omega,by omega⟩,gb true h1,rfl,bD,bK (aT ak),bE b4.e ak,by rw[ay];rfl,bD,bK (aT ak),bE b4.e ak,U,bD,bK (aT ak),bE b4.e ak,gb true ax,rfl,dj hi ap,aa⟩
   | true=>exact afG ⟨b5 (aT ak),bD,bK (aT ak),bE b4.e ak,⟨by omega,by omega⟩,gb true h1,rfl,bD,bK (aT ak),bE b4.e ak,by rw[ay];rfl,bD,bK (aT ak),bE b4.e ak,gb true ax,rfl,dj hi ap,aa⟩)
  (fun i a ak h=>by
   have hi:=aT ak;cases h1:aw a.place 0 (c.aE.az-1) with
   | false=>exact afB ⟨b5 (aT ak),bD,bK (aT ak),bE b4.e ak,⟨by omega,by omega⟩,gb false h1,rfl,aa⟩
   | true=>
   simp only[l3,h1,jC,kF]at h;cases ay:a.going with
   | false=>
    rw[ay,oN,oP]at h;cases U:(a.place != 0) with
    | true=>exact afC ⟨b5 (aT ak),bD,bK (aT ak),bE b4.e ak,⟨by omega,by omega⟩,gb true h1,rfl,bD,bK (aT ak),bE b4.e ak,by rw[ay];rfl,bD,bK (aT ak),bE b4.e ak,U,aa⟩
    | false=>
     rw[U,kF]at h;exact afD ⟨b5 (aT ak),bD,bK (aT ak),bE b4.e ak,⟨by omega,by omega⟩,gb true h1,rfl,bD,bK (aT ak),bE b4.e ak,by rw[ay];rfl,bD,bK (aT ak),bE b4.e ak,U,bD,bK (aT ak),bE b4.e ak,gb false (by simpa using h),rfl,aa⟩
   | true=>
    rw[ay,jC,Bool.false_and,kF]at h;exact afF ⟨b5 (aT ak),bD,bK (aT ak),bE b4.e ak,⟨by omega,by omega⟩,gb true h1,rfl,bD,bK (aT ak),bE b4.e ak,by rw[ay];rfl,bD,bK (aT ak),bE b4.e ak,gb false (by simpa using h),rfl,aa⟩)
  (afH ⟨dT,aa⟩)
 rcases l with⟨_,_,h1,U⟩ | ⟨_,_,_,_,_,_,h1,U⟩
 ·exact .inl ⟨h1,U⟩
 exact .inr ⟨h1,U⟩
theorem alD(c:a')(aj:c.sz<=8388608)(aX:1<=c.aE.az/\c.aE.az<=4):
  ((c.news.any (l4 c.aE.az))=false/\c5 prog (ar f56 3) (sy c.aE.az (c.aE.nodes.map Node.e) c.aE.az c.aE.cap (c.az.map aP.e) (c.bP.map bw.e) (c.tokens.map b4.e) (c.news.map b1.e) 0) (.exit 6) MA)\/
  ((c.news.any (l4 c.aE.az))=true/\c5 prog (ar f56 3) (sy c.aE.az (c.aE.nodes.map Node.e) c.aE.az c.aE.cap (c.az.map aP.e) (c.bP.map bw.e) (c.tokens.map b4.e) (c.news.map b1.e) 0) .ret (Cx false)):=by
 have ap:=xM aj;have l:=gN (P:=prog) (c:=(ar f56 3)) c.news (l4 c.aE.az) (fun i=>sy c.aE.az (c.aE.nodes.map Node.e) c.aE.az c.aE.cap (c.az.map aP.e) (c.bP.map bw.e) (c.tokens.map b4.e) (c.news.map b1.e) i) (X:=fun _ _=>Cx false) e0 (cH 6)
  (fun i a ak h=>by
   have hi:=aT ak;simp only[l4,hG,ln]at h;exact afL ⟨b5 (aT ak),bD,bK (aT ak),bE b1.e ak,⟨by omega,by omega⟩,gb true h.1,rfl,bD,bK (aT ak),bE b1.e ak,gb true h.2,rfl,dj hi ap,aa⟩)
  (fun i a ak h=>by
   have hi:=aT ak;cases h1:aw a.dest 0 (c.aE.az-1) with
   | false=>exact afJ ⟨b5 (aT ak),bD,bK (aT ak),bE b1.e ak,⟨by omega,by omega⟩,gb false h1,rfl,aa⟩
   | true=>
    simp only[l4,h1,jC,kF]at h;exact afK ⟨b5 (aT ak),bD,bK (aT ak),bE b1.e ak,⟨by omega,by omega⟩,gb true h1,rfl,bD,bK (aT ak),bE b1.e ak,gb false (by simpa using h),rfl,aa⟩)
  (afM ⟨dT,aa⟩)
 rcases l with⟨_,_,h1,U⟩ | ⟨_,_,_,_,_,_,h1,U⟩
 ·exact .inl ⟨h1,U⟩
 exact .inr ⟨h1,U⟩
theorem WG(c:a')(aj:c.sz<=8388608)(hw:gl c):al 56 [.agg c.e] [.one (B (cU c))]:=by
 have ay:=y1 c.aE (oc aj);unfold cU;cases h1:eM c.aE with
 | false=>rw[h1]at ay;exact aev ⟨ay,rfl,aa⟩
 | true=>
 rw[h1]at ay;have aX:=mZ h1;have aK:aD .i64 (c.aE.az*c.aE.az):=by
  have ax:c.aE.az=1\/c.aE.az=2\/c.aE.az=3\/c.aE.az=4:=by omega
  rcases ax with ax | ax | ax | ax<;>(rw[ax];exact⟨by decide,by decide⟩)
 cases U:((c.az.length:Int)==c.aE.az) with
 | false=>exact adW ⟨ay,rfl,by rw[bl];simpa using U,aa⟩
 | true=>
 have v2:((↑(c.az.map aP.e).length:Int) != c.aE.az)=false:=by rw[bl];simpa using U
 cases ax:((c.bP.length:Int)==c.aE.az*c.aE.az) with
 | false=>exact adX ⟨ay,rfl,v2,aK,by rw[bl];simpa using ax,aa⟩
 | true=>
 have v3:((↑(c.bP.map bw.e).length:Int) != c.aE.az*c.aE.az)=false:=by rw[bl];simpa using ax
 cases aF:(c.tokens.length==4) with
 | false=>exact adY ⟨ay,rfl,v2,aK,v3,u3 aF,aa⟩
 | true=>
 rcases alA c aj (eq_of_beq U) with⟨aZ,pf⟩ | ⟨aZ,pf⟩
 case inr=>rw[aZ];exact ad2 ⟨ay,rfl,v2,aK,v3,gB aF,pf,aa⟩
 rw[aZ];rcases alB c aj hw aX.1 with⟨bB,q8⟩ | ⟨bB,q8⟩
 case inr=>rw[bB];exact afA ⟨ay,rfl,v2,aK,v3,gB aF,pf,q8,aa⟩
 rw[bB];rcases alC c aj aX with⟨bS,tB⟩ | ⟨bS,tB⟩
 case inr=>rw[bS];exact afI ⟨ay,rfl,v2,aK,v3,gB aF,pf,q8,tB,aa⟩
 rw[bS];rcases alD c aj aX with⟨dv,ku⟩ | ⟨dv,ku⟩
 ·rw[dv];exact afO ⟨ay,rfl,v2,aK,v3,gB aF,pf,q8,tB,ku,aa⟩
 rw[dv];exact afN ⟨ay,rfl,v2,aK,v3,gB aF,pf,q8,tB,ku,aa⟩
theorem alE(c:a')(aj:c.sz<=8388608)(aX:(c.az.length:Int)=c.aE.az):
  ((c.az.any fun w=>!fe c.aE w)=false/\c5 prog (ar f55 0) (tH c.aE.az (c.az.map aP.e) 0 (c.aE.nodes.map Node.e) c.aE.az c.aE.cap (c.az.map aP.e) (c.bP.map bw.e) (c.tokens.map b4.e) (c.news.map b1.e)) (.exit 0) (KF c.aE.az (c.aE.nodes.map Node.e) c.aE.az c.aE.cap (c.az.map aP.e) (c.bP.map bw.e) (c.tokens.map b4.e) (c.news.map b1.e)))\/
  ((c.az.any fun w=>!fe c.aE w)=true/\c5 prog (ar f55 0) (tH c.aE.az (c.az.map aP.e) 0 (c.aE.nodes.map Node.e) c.aE.az c.aE.cap (c.az.map aP.e) (c.bP.map bw.e) (c.tokens.map b4.e) (c.news.map b1.e)) .ret (FI false)):=by
 have ap:=a'.x5 aj;have l:=gN (P:=prog) (c:=(ar f55 0)) c.az (fun w=>!fe c.aE w) (fun i=>tH c.aE.az (c.az.map aP.e) i (c.aE.nodes.map Node.e) c.aE.az c.aE.cap (c.az.map aP.e) (c.bP.map bw.e) (c.tokens.map b4.e) (c.news.map b1.e)) (X:=fun _ _=>FI false) e0 (cH 0)
  (fun i a ak h=>by
   have k:=Fe c.aE a (oc aj) (a'.G6 aj (eD ak));rw[show fe c.aE a=true by simpa using h]at k;exact afU ⟨b5 (aT ak),bD,bK (aT ak),bE aP.e ak,k,rfl,dj (aT ak) ap,aa⟩)
  (fun i a ak h=>by
   have k:=Fe c.aE a (oc aj) (a'.G6 aj (eD ak));rw[show fe c.aE a=false by simpa using h]at k;exact afT ⟨b5 (aT ak),bD,bK (aT ak),bE aP.e ak,k,rfl,aa⟩)
  (afV ⟨dT,aa⟩)
 rcases l with⟨_,_,h1,U⟩ | ⟨_,_,_,_,_,_,h1,U⟩
 ·exact .inl ⟨h1,U⟩
 exact .inr ⟨h1,U⟩
theorem alF(c:a')(aj:c.sz<=8388608)(hw:gl c)(aX:1<=c.aE.az):
  (anyI (kA c.aE) 0 c.bP=false/\c5 prog (ar f55 1) (mW c.aE.az (c.bP.map bw.e) 0 (c.aE.nodes.map Node.e) c.aE.az c.aE.cap (c.az.map aP.e) (c.bP.map bw.e) (c.tokens.map b4.e) (c.news.map b1.e)) (.exit 2) (Cy c.aE.az (c.aE.nodes.map Node.e) c.aE.az c.aE.cap (c.az.map aP.e) (c.bP.map bw.e) (c.tokens.map b4.e) (c.news.map b1.e)))\/
  (anyI (kA c.aE) 0 c.bP=true/\c5 prog (ar f55 1) (mW c.aE.az (c.bP.map bw.e) 0 (c.aE.nodes.map Node.e) c.aE.az c.aE.cap (c.az.map aP.e) (c.bP.map bw.e) (c.tokens.map b4.e) (c.news.map b1.e)) .ret (yY false)):=by
 have ap:=a'.yR aj;have pe:∀(i:Nat) (a:bw),c.bP[i]?=some a->∀r,jz a=r->al 188 [.agg a.e] [.one (B r)]:=fun i a ak r h=>h▸E9 a (a'.EE aj (eD ak)) (hw _ (eD ak))
 have gq:∀(i:Nat) (a:bw),c.bP[i]?=some a->∀r,gP c.aE a.queue=r->al 189 [.agg c.aE.e,.one (.J 5 (a.queue.map aq.e))] [.one (B r)]:=fun i a ak r h=>xE c.aE _ r h (oc aj) (a'.EE aj (eD ak))
 exact su (P:=prog) (c:=(ar f55 1)) c.bP (kA c.aE) (fun i=>mW c.aE.az (c.bP.map bw.e) i (c.aE.nodes.map Node.e) c.aE.az c.aE.cap (c.az.map aP.e) (c.bP.map bw.e) (c.tokens.map b4.e) (c.news.map b1.e)) e0 (cH 2)
  (fun i a ak h=>by
   have hi:=aT ak;simp only[kA,hG,ln]at h;obtain⟨h1,U,ax,aF⟩:=h;cases aZ:((i:Int).tdiv c.aE.az==(i:Int).tmod c.aE.az) with
   | true=>
    rw[aZ,oP]at aF;exact afb ⟨b5 (aT ak),bD,bK (aT ak),bE bw.e ak,pe i a ak _ h1,rfl,U,gq i a ak _ ax,rfl,by omega,zz i _ (by omega) aX,by omega,aZ,by rw[bl];exact aF,dj hi ap,aa⟩
   | false=>exact afc ⟨b5 (aT ak),bD,bK (aT ak),bE bw.e ak,pe i a ak _ h1,rfl,U,gq i a ak _ ax,rfl,by omega,zz i _ (by omega) aX,by omega,aZ,dj hi ap,aa⟩)
  (fun i a ak h=>by
   have hi:=aT ak;cases h1:jz a with
   | false=>exact ae7 ⟨b5 (aT ak),bD,bK (aT ak),bE bw.e ak,pe i a ak _ h1,rfl,aa⟩
   | true=>
   cases U:(a.cap != c.aE.cap) with
   | true=>exact ae8 ⟨b5 (aT ak),bD,bK (aT ak),bE bw.e ak,pe i a ak _ h1,rfl,U,aa⟩
   | false=>
   cases ax:gP c.aE a.queue with
   | false=>exact ae9 ⟨b5 (aT ak),bD,bK (aT ak),bE bw.e ak,pe i a ak _ h1,rfl,U,gq i a ak _ ax,rfl,aa⟩
   | true=>
   simp only[kA,h1,U,ax,jC,kF,cx]at h;exact afa ⟨b5 (aT ak),bD,bK (aT ak),bE bw.e ak,pe i a ak _ h1,rfl,U,gq i a ak _ ax,rfl,by omega,zz i _ (by omega) aX,by omega,h.1,by rw[bl];exact h.2,aa⟩)
  (afd ⟨dT,aa⟩)
theorem alG(c:a')(aj:c.sz<=8388608)(aX:1<=c.aE.az/\c.aE.az<=4):
  ((c.tokens.any (l3 c.aE.az))=false/\c5 prog (ar f55 2) (nU c.aE.az (c.tokens.map b4.e) 0 (c.aE.nodes.map Node.e) c.aE.az c.aE.cap (c.az.map aP.e) (c.bP.map bw.e) (c.tokens.map b4.e) (c.news.map b1.e)) (.exit 4) (FJ c.aE.az (c.aE.nodes.map Node.e) c.aE.az c.aE.cap (c.az.map aP.e) (c.bP.map bw.e) (c.tokens.map b4.e) (c.news.map b1.e)))\/
  ((c.tokens.any (l3 c.aE.az))=true/\c5 prog (ar f55 2) (nU c.aE.az (c.tokens.map b4.e) 0 (c.aE.nodes.map Node.e) c.aE.az c.aE.cap (c.az.map aP.e) (c.bP.map bw.e) (c.tokens.map b4.e) (c.news.map b1.e)) .ret (xC false)):=by
 have ap:=WE aj;have l:=gN (P:=prog) (c:=(ar f55 2)) c.tokens (l3 c.aE.az) (fun i=>nU c.aE.az (c.tokens.map b4.e) i (c.aE.nodes.map Node.e) c.aE.az c.aE.cap (c.az.map aP.e) (c.bP.map bw.e) (c.tokens.map b4.e) (c.news.map b1.e)) (X:=fun _ _=>xC false) e0 (cH 4)
  (fun i a ak h=>by
   have hi:=aT ak;simp only[l3,hG,ln]at h;obtain⟨h1,U,ax⟩:=h;cases ay:a.going with
   | false=>
    rw[ay,oN,oP]at U;exact afi ⟨b5 (aT ak),bD,bK (aT ak),bE b4.e ak,⟨by omega,by omega⟩,hA true h1,rfl,by rw[ay];rfl,U,hA true ax,rfl,dj hi ap,aa⟩
   | true=>exact afk ⟨b5 (aT ak),bD,bK (aT ak),bE b4.e ak,⟨by omega,by omega⟩,hA true h1,rfl,by rw[ay];rfl,hA true ax,rfl,dj hi ap,aa⟩)
  (fun i a ak h=>by
   have hi:=aT ak;cases h1:aw a.place 0 (c.aE.az-1) with
   | false=>exact aff ⟨b5 (aT ak),bD,bK (aT ak),bE b4.e ak,⟨by omega,by omega⟩,hA false h1,rfl,aa⟩
   | true=>
   simp only[l3,h1,jC,kF]at h;cases ay:a.going with
   | false=>
    rw[ay,oN,oP]at h;cases U:(a.place != 0) with
    | true=>exact afg ⟨b5 (aT ak),bD,bK (aT ak),bE b4.e ak,⟨by omega,by omega⟩,hA true h1,rfl,by rw[ay];rfl,U,aa⟩
    | false=>
     rw[U,kF]at h;exact afh ⟨b5 (aT ak),bD,bK (aT ak),bE b4.e ak,⟨by omega,by omega⟩,hA true h1,rfl,by rw[ay];rfl,U,hA false (by simpa using h),rfl,aa⟩
   | true=>
    rw[ay,jC,Bool.false_and,kF]at h;exact afj ⟨b5 (aT ak),bD,bK (aT ak),bE b4.e ak,⟨by omega,by omega⟩,hA true h1,rfl,by rw[ay];rfl,hA false (by simpa using h),rfl,aa⟩)
  (afl ⟨dT,aa⟩)
 rcases l with⟨_,_,h1,U⟩ | ⟨_,_,_,_,_,_,h1,U⟩
 ·exact .inl ⟨h1,U⟩
 exact .inr ⟨h1,U⟩
theorem alH(c:a')(aj:c.sz<=8388608)(aX:1<=c.aE.az/\c.aE.az<=4):
  ((c.news.any (l4 c.aE.az))=false/\c5 prog (ar f55 3) (sA c.aE.az (c.news.map b1.e) 0) (.exit 6) MB)\/
  ((c.news.any (l4 c.aE.az))=true/\c5 prog (ar f55 3) (sA c.aE.az (c.news.map b1.e) 0) .ret (Cz false)):=by
 have ap:=xM aj;have l:=gN (P:=prog) (c:=(ar f55 3)) c.news (l4 c.aE.az) (fun i=>sA c.aE.az (c.news.map b1.e) i) (X:=fun _ _=>Cz false) e0 (cH 6)
  (fun i a ak h=>by
   have hi:=aT ak;simp only[l4,hG,ln]at h;exact afp ⟨b5 (aT ak),bD,bK (aT ak),bE b1.e ak,⟨by omega,by omega⟩,hA true h.1,rfl,hA true h.2,rfl,dj hi ap,aa⟩)
  (fun i a ak h=>by
   have hi:=aT ak;cases h1:aw a.dest 0 (c.aE.az-1) with
   | false=>exact afn ⟨b5 (aT ak),bD,bK (aT ak),bE b1.e ak,⟨by omega,by omega⟩,hA false h1,rfl,aa⟩
   | true=>
    simp only[l4,h1,jC,kF]at h;exact afo ⟨b5 (aT ak),bD,bK (aT ak),bE b1.e ak,⟨by omega,by omega⟩,hA true h1,rfl,hA false (by simpa using h),rfl,aa⟩)
  (afq ⟨dT,aa⟩)
 rcases l with⟨_,_,h1,U⟩ | ⟨_,_,_,_,_,_,h1,U⟩
 ·exact .inl ⟨h1,U⟩
 exact .inr ⟨h1,U⟩
theorem Gl(c:a')(aj:c.sz<=8388608)(hw:gl c):al 55 [.agg c.e] [.one (B (cU c))]:=by
 have ay:=y2 c.aE (oc aj);unfold cU;cases h1:eM c.aE with
 | false=>rw[h1]at ay;exact afP ⟨ay,rfl,aa⟩
 | true=>
 rw[h1]at ay;have aX:=mZ h1;have aK:aD .i64 (c.aE.az*c.aE.az):=by
  have ax:c.aE.az=1\/c.aE.az=2\/c.aE.az=3\/c.aE.az=4:=by omega
  rcases ax with ax | ax | ax | ax<;>(rw[ax];exact⟨by decide,by decide⟩)
 cases U:((c.az.length:Int)==c.aE.az) with
 | false=>exact afQ ⟨ay,rfl,by rw[bl];simpa using U,aa⟩
 | true=>
 have v2:((↑(c.az.map aP.e).length:Int) != c.aE.az)=false:=by rw[bl];simpa using U
 cases ax:((c.bP.length:Int)==c.aE.az*c.aE.az) with
 | false=>exact afR ⟨ay,rfl,v2,aK,by rw[bl];simpa using ax,aa⟩
 | true=>
 have v3:((↑(c.bP.map bw.e).length:Int) != c.aE.az*c.aE.az)=false:=by rw[bl];simpa using ax
 cases aF:(c.tokens.length==4) with
 | false=>exact afS ⟨ay,rfl,v2,aK,v3,u3 aF,aa⟩
 | true=>
 rcases alE c aj (eq_of_beq U) with⟨aZ,pf⟩ | ⟨aZ,pf⟩
 case inr=>rw[aZ];exact ae6 ⟨ay,rfl,v2,aK,v3,gB aF,pf,aa⟩
 rw[aZ];rcases alF c aj hw aX.1 with⟨bB,q8⟩ | ⟨bB,q8⟩
 case inr=>rw[bB];exact afe ⟨ay,rfl,v2,aK,v3,gB aF,pf,q8,aa⟩
 rw[bB];rcases alG c aj aX with⟨bS,tB⟩ | ⟨bS,tB⟩
 case inr=>rw[bS];exact afm ⟨ay,rfl,v2,aK,v3,gB aF,pf,q8,tB,aa⟩
 rw[bS];rcases alH c aj aX with⟨dv,ku⟩ | ⟨dv,ku⟩
 ·rw[dv];exact afs ⟨ay,rfl,v2,aK,v3,gB aF,pf,q8,tB,ku,aa⟩
 rw[dv];exact afr ⟨ay,rfl,v2,aK,v3,gB aF,pf,q8,tB,ku,aa⟩
end Go.Proofs.YtdchjefneblpgaaGreat
namespace Go.Proofs.YtdchjefneblpgaaGreat
open Go.Sx Go.RowKit Go.Proofs.Tryz
def cutAt{α:Type}(xs:List α)(k:Nat):List α:=xs.take k++xs.drop (k+1)
def xW:aq:=⟨0,⟨0,0⟩,0,0⟩
def nM(xs:List Int)(e d:Int):List Int:=xs.set e.toNat (xs.getD e.toNat 0+d)
def ez(l:bw)(r:aq):bw×Bool:=
 if jz l&&fE r&&l.eX != 0&&decide (l.fq<1000000000) then (⟨l.cap,l.queue++[r],l.eX-1,l.back,l.fq+1,l.dy⟩,true) else (l,false)
def dY(l:bw):bw×aq×Bool:=
 if jz l then match l.queue with
  | []=>(l,xW,false)
  | r::q=>(⟨l.cap,q,l.eX,l.back+1,l.fq,l.dy+1⟩,r,true)
 else (l,xW,false)
def fO(l:bw):bw×Bool:=
 if jz l&&l.back != 0 then (⟨l.cap,l.queue,l.eX+1,l.back-1,l.fq,l.dy⟩,true) else (l,false)
def e6(g:b9)(w:aP):aP×Bool:=
 if eM g&&fe g w then match w.cj,w.queue with
  | [],r::q=>(⟨q,(dB g w.cells r).2.1,w.bO,(dB g w.cells r).1,w.bL,w.bU,(if du g r then w.bx.set r.bq.bd.toNat true else w.bx),w.b8⟩,true)
  | _,_=>(w,false)
 else (w,false)
def e5(g:b9)(w:aP):aP×Bool:=
 if eM g&&fe g w then match w.cj,w.queue,w.bO with
  | [],[],r::t=>(⟨[r],[],t,w.cells,w.bL,w.bU,w.bx,w.b8⟩,true)
  | _,_,_=>(w,false)
 else (w,false)
def hn(w:aP)(t:List aq):aP:=⟨w.queue,t,w.bO,w.cells,w.bL,w.bU,w.bx,w.b8⟩
def kept(w:aP)(r:aq):aP:=⟨w.queue++[r],w.cj,w.bO,w.cells,w.bL,w.bU,w.bx,w.b8⟩
def ig(w:aP)(r:aq):aP:=⟨w.queue++[r],w.cj,w.bO,w.cells,nM w.bL r.bq.bd (-1),w.bU.set r.bq.bd.toNat true,w.bx,w.b8⟩
def lI(w:aP)(e:Int):aP:=⟨w.queue,w.cj,w.bO,w.cells,nM w.bL e 1,w.bU,w.bx,w.b8⟩
def gR(w:aP)(e:Int):aP:=⟨w.queue,w.cj,w.bO,w.cells,w.bL,w.bU.set e.toNat false,w.bx,w.b8⟩
def told(w:aP)(e:Int)(b:Bool):aP:=⟨w.queue,w.cj,w.bO,w.cells,w.bL,w.bU,w.bx,w.b8++[⟨e,b⟩]⟩
def gh(w:aP)(n:b1):aP:=if ja w n.bd then w else told w n.bd n.du
def xN(w:aP)(e:Int):Bool:=w.bO.any fun r=>decide (r.bq.bd<=e)
def WH(w:aP)(e:Int):Nat:=(mS e w.queue).length+(mS e w.cj).length
def k1(w:aP)(e:Int):Bool:=!xN w e&&WH w e==0
def setW(c:a')(i:Int)(x:aP):a':=⟨c.aE,c.az.set i.toNat x,c.bP,c.tokens,c.news⟩
def ec(c:a')(i:Int)(l:bw):a':=⟨c.aE,c.az,c.bP.set i.toNat l,c.tokens,c.news⟩
def eg(c:a')(i:Int)(t:b4):a':=⟨c.aE,c.az,c.bP,c.tokens.set i.toNat t,c.news⟩
def iL(c:a')(n:List b1):a':=⟨c.aE,c.az,c.bP,c.tokens,n⟩
def dh(c:a')(i:Int):Option aP:=if 0<=i then c.az[i.toNat]? else none
def hN(c:a')(i:Int):Option bw:=if 0<=i then c.bP[i.toNat]? else none
def kD(c:a')(i:Int):Option b4:=if 0<=i then c.tokens[i.toNat]? else none
def fp(g:b9)(a b:Int):Int:=if aw a 0 (g.az-1)&&aw b 0 (g.az-1) then a*g.az+b else -1
def jL(c:a')(w:Int):a'×Bool:=
 if cU c then match dh c w with
  | some x=>(setW c w (e6 c.aE x).1,(e6 c.aE x).2)
  | none=>(c,false)
 else (c,false)
def jM(c:a')(w:Int):a'×Bool:=
 if cU c then match dh c w with
  | some x=>(setW c w (e5 c.aE x).1,(e5 c.aE x).2)
  | none=>(c,false)
 else (c,false)
def vK(c:a')(w:Int)(x:aP)(r:aq)(t:List aq)(o:Int):a'×Bool:=
 if o=w then (setW c w (kept (hn x t) r),true)
 else match hN c (fp c.aE w o) with
  | some l=>if (ez l r).2 then (setW (ec c (fp c.aE w o) (ez l r).1) w (lI (hn x t) r.bq.bd),true) else (c,false)
  | none=>(c,false)
def jN(c:a')(w:Int):a'×Bool:=
 if cU c then match dh c w with
  | some x=>match x.cj with
   | r::t=>vK c w x r t (jK r.key c.aE.az)
   | []=>(c,false)
  | none=>(c,false)
 else (c,false)
def kB(c:a')(a b:Int):a'×Bool:=
 if cU c&&a != b then match hN c (fp c.aE a b),dh c b with
  | some l,some x=>if (dY l).2.2 then (setW (ec c (fp c.aE a b) (dY l).1) b (ig x (dY l).2.1),true) else (c,false)
  | _,_=>(c,false)
 else (c,false)
def jO(c:a')(a b:Int):a'×Bool:=
 if cU c&&a != b then match hN c (fp c.aE a b) with
  | some l=>(ec c (fp c.aE a b) (fO l).1,(fO l).2)
  | none=>(c,false)
 else (c,false)
def hR(n:Nat)(e:Int)(b:Bool):List b1:=(List.range n).map fun k:Nat=>⟨(k:Int)+1,e,b⟩
def eN(c:a')(e:Int)(t:b4)(x:aP):a'×Bool:=
 if k1 x e then
  if !t.going then (setW (eg c e ⟨true,(c.az.length:Int)-1,0,false,x.bx.getD e.toNat false⟩) t.place (gR x e),true)
  else if 0<t.place then
   if aw (t.sum+x.bL.getD e.toNat 0) (-1000000) 1000000 then
    (setW (eg c e ⟨true,t.place-1,t.sum+x.bL.getD e.toNat 0,t.bU||x.bU.getD e.toNat false,t.du||x.bx.getD e.toNat false⟩) t.place (gR x e),true)
   else (c,false)
  else if !t.bU&&!x.bU.getD e.toNat false&&t.sum+x.bL.getD e.toNat 0==0 then
   (iL (setW (eg c e ⟨false,t.place,t.sum,t.bU,t.du⟩) 0 (told x e (t.du||x.bx.getD e.toNat false))) (c.news++hR (c.az.length-1) e (t.du||x.bx.getD e.toNat false)),true)
  else (eg c e ⟨false,t.place,t.sum,t.bU,t.du⟩,true)
 else (c,false)
def je(c:a')(e:Int):a'×Bool:=
 if cU c&&aw e 0 3 then match dh c 0,kD c e with
  | some ff,some t=>if ja ff e then (c,false) else match dh c t.place with
   | some x=>eN c e t x
   | none=>(c,false)
  | _,_=>(c,false)
 else (c,false)
def kx(c:a')(w:Int):a'×Bool:=
 match c.news.findIdx? (fun n=>n.dest==w) with
 | some k=>if cU c then match c.news[k]?,dh c w with
   | some n,some x=>(iL (setW c w (gh x n)) (cutAt c.news k),true)
   | _,_=>(c,false)
  else (c,false)
 | none=>(c,false)
def dK(c:a')(p:cN):a'×Bool:=
 if p.kind=1 then jL c p.a else if p.kind=2 then jM c p.a else if p.kind=3 then jN c p.a
 else if p.kind=4 then kB c p.a p.b else if p.kind=5 then jO c p.a p.b else if p.kind=6 then je c p.a
 else if p.kind=7 then kx c p.a else (c,false)
end Go.Proofs.YtdchjefneblpgaaGreat
namespace Go.Proofs.YtdchjefneblpgaaGreat
open Go.Sx Go.RowKit Go.Proofs.Tryz
section
variable {α : Type}
theorem Mi{p:α->Bool}{xs:List α}{i:Nat}{x:α}(h:xs.any p=false)(hi:i<xs.length):(xs.set i x).any p=p x:=by
 cases ah:p x with
 | true=>exact qy.2 ⟨x,List.mem_iff_getElem.2 ⟨i,by simpa using hi,by simp⟩,ah⟩
 | false=>
  rw[ik]at h ⊢;intro a ak;rcases pH ak with h1 | rfl
  ·exact h a h1
  simp[ah]
theorem WI{p:Nat->α->Bool}{x:α}:∀{xs:List α} {k i:Nat},anyI p k xs=false->i<xs.length->anyI p k (xs.set i x)=p (k+i) x
 | [],_,_,_,h=>by simp at h
 | a::xs,k,0,h,_=>by
  simp only[anyI,hG]at h;simp only[List.set_cons_zero,anyI,h.2,Bool.or_false,np]
 | a::xs,k,i+1,h,hi=>by
  simp only[anyI,hG]at h;simp only[List.set_cons_succ,anyI,h.1,kF];rw[WI h.2 (by simpa using hi),show k+1+i=k+(i+1) by omega]
theorem NM{p:Nat->α->Bool}{xs:List α}(h:∀i a,xs[i]?=some a->p i a=false):anyI p 0 xs=false:=by
 cases ah:anyI p 0 xs with
 | false=>rfl
 | true=>
  obtain⟨i,a,h1,U,_⟩:=Ld ah;rw[dF,h i a h1]at U;cases U
theorem Gm{p:Nat->α->Bool}{xs:List α}(h:anyI p 0 xs=false){i:Nat}{a:α}(ak:xs[i]?=some a):p i a=false:=by
 have:=F7 h i a ak;rwa[dF]at this
end
variable{c:a'}
theorem ix:cU c=true<->eM c.aE=true/\(c.az.length:Int)=c.aE.az/\(c.bP.length:Int)=c.aE.az*c.aE.az/\c.tokens.length=4/\(c.az.any fun w=>!fe c.aE w)=false/\anyI (kA c.aE) 0 c.bP=false/\c.tokens.any (l3 c.aE.az)=false/\c.news.any (l4 c.aE.az)=false:=by
 simp only[cU,cx,gT,dE]
variable{i:Int}{x:aP}
theorem hS(h:dh c i=some x):0<=i/\i.toNat<c.az.length/\c.az[i.toNat]?=some x:=by
 unfold dh at h;split at h
 ·exact⟨‹_›,aT h,h⟩
 cases h
theorem qk{x:bw}(h:hN c i=some x):0<=i/\i.toNat<c.bP.length/\c.bP[i.toNat]?=some x:=by
 unfold hN at h;split at h
 ·exact⟨‹_›,aT h,h⟩
 cases h
theorem Gn{x:b4}(h:kD c i=some x):0<=i/\i.toNat<c.tokens.length/\c.tokens[i.toNat]?=some x:=by
 unfold kD at h;split at h
 ·exact⟨‹_›,aT h,h⟩
 cases h
theorem vL{y:aP}(h:cU c=true)(bf:dh c i=some y):cU (setW c i x)=fe c.aE x:=by
 obtain⟨h1,U,ax,aF,aZ,bB,bS,dv⟩:=ix.1 h;have hi:=(hS bf).2.1;simp only[cU,setW,fR,Mi aZ hi,h1,U,ax,aF,bB,bS,dv,v',oN,wb,oP,Bool.not_not]
theorem NN{x y:bw}(h:cU c=true)(bf:hN c i=some y):cU (ec c i x)=!kA c.aE i.toNat x:=by
 obtain⟨h1,U,ax,aF,aZ,bB,bS,dv⟩:=ix.1 h;have hi:=(qk bf).2.1;simp only[cU,ec,fR,WI bB hi,dF,h1,U,ax,aF,aZ,bS,dv,v',oN,wb,oP]
theorem alI{x y:b4}(h:cU c=true)(bf:kD c i=some y):cU (eg c i x)=!l3 c.aE.az x:=by
 obtain⟨h1,U,ax,aF,aZ,bB,bS,dv⟩:=ix.1 h;have hi:=(Gn bf).2.1;simp only[cU,eg,fR,Mi bS hi,h1,U,ax,aF,aZ,bB,dv,v',oN,wb,oP]
theorem WJ{x:List b1}(h:cU c=true):cU (iL c x)=!(x.any (l4 c.aE.az)):=by
 obtain⟨h1,U,ax,aF,aZ,bB,bS,dv⟩:=ix.1 h;simp only[cU,iL,h1,U,ax,aF,aZ,bB,bS,v',oN,oP]
theorem m'(h:cU c=true)(ah:dh c i=some x):fe c.aE x=true:=by
 have aZ:=(ix.1 h).2.2.2.2.1;rw[ik]at aZ;simpa using aZ x (eD (hS ah).2.2)
theorem zA{x:bw}(h:cU c=true)(ah:hN c i=some x):kA c.aE i.toNat x=false:=
 Gm (ix.1 h).2.2.2.2.2.1 (qk ah).2.2
theorem NO{x:b4}(h:cU c=true)(ah:kD c i=some x):l3 c.aE.az x=false:=by
 have aZ:=(ix.1 h).2.2.2.2.2.2.1;rw[ik]at aZ;simpa using aZ x (eD (Gn ah).2.2)
theorem tW(ah:dh c i=some x):setW c i x=c:=by
 obtain⟨_,U,ax⟩:=hS ah;have:c.az.set i.toNat x=c.az:=by
  rw[fJ U]at ax;rw[<-eW ax];exact List.set_getElem_self U
 unfold setW;rw[this]
theorem alJ{x:bw}(ah:hN c i=some x):ec c i x=c:=by
 obtain⟨_,U,ax⟩:=qk ah;have:c.bP.set i.toNat x=c.bP:=by
  rw[fJ U]at ax;rw[<-eW ax];exact List.set_getElem_self U
 unfold ec;rw[this]
variable{g:b9}{w:aP}
theorem ke:fe g w=true<->gP g w.queue=true/\gP g w.cj=true/\gP g w.bO=true/\k0 w.cells=true/\w.bL.length=4/\w.bU.length=4/\w.bx.length=4/\anyI (nL w.bO) 0 w.bO=false/\w.bL.any oE=false/\anyI (mX w.b8) 0 w.b8=false:=by
 simp only[fe,cx,gT,dE]
variable{r:aq}
theorem tX{q:List aq}:gP g (r::q)=true<->mv g r=false/\gP g q=true:=by
 simp only[gP,wa,gT,hG]
theorem NP{q:List aq}:gP g (q++[r])=true<->gP g q=true/\mv g r=false:=by
 simp only[gP,List.any_append,wa,List.any_nil,Bool.or_false,gT,hG]
theorem alK{t:List aq}(h:anyI (nL (r::t)) 0 (r::t)=false):anyI (nL t) 0 t=false:=by
 refine NM fun i a ak=>?_
 have k:=Gm h (i:=i+1) (a:=a) (by simpa using ak);unfold nL at k ⊢;rw[hG]at k ⊢;refine⟨k.1,?_⟩;cases i with
 | zero=>rfl
 | succ j=>simpa using k.2
theorem alL{xs:List cR}{d:cR}(h:anyI (mX xs) 0 xs=false)(h1:aw d.bd 0 3=true)(U:(xs.any fun q=>q.bd==d.bd)=false):anyI (mX (xs++[d])) 0 (xs++[d])=false:=by
 refine NM fun i a ak=>?_
 by_cases hi:i<xs.length
 ·rw[ur hi]at ak;have k:=Gm h ak;unfold mX at k ⊢;rw[HT (by omega)];exact k
 have ap:=aT ak;simp only[fF,eh,b7]at ap;have e:i=xs.length:=by omega
 subst e;rw[qv (fI _),Nat.sub_self]at ak;obtain rfl:d=a:=by simpa using ak
 unfold mX;rw[HT (fI _),k5,h1,U];rfl
theorem alM(h:fe g w=true)(aA:mv g r=false):fe g (kept w r)=true:=by
 obtain⟨h1,U⟩:=ke.1 h;exact ke.2 ⟨NP.2 ⟨h1,aA⟩,U⟩
theorem Gp{t:List aq}(h:fe g w=true)(ao:w.cj=r::t):fe g (hn w t)=true/\mv g r=false:=by
 obtain⟨h1,U,ax⟩:=ke.1 h;rw[ao,tX]at U;exact⟨ke.2 ⟨h1,U.2,ax⟩,U.1⟩
variable{e:Int}
theorem alN(h:fe g w=true):fe g (gR w e)=true:=by
 obtain⟨h1,U,ax,aF,aZ,bB,bS⟩:=ke.1 h;exact ke.2 ⟨h1,U,ax,aF,aZ,by simp only[gR,fR];exact bB,bS⟩
theorem WK{b:Bool}(h:fe g w=true)(he:aw e 0 3=true)(aG:ja w e=false):fe g (told w e b)=true:=by
 obtain⟨h1,U,ax,aF,aZ,bB,bS,dv,eu,dW⟩:=ke.1 h;exact ke.2 ⟨h1,U,ax,aF,aZ,bB,bS,dv,eu,alL dW he aG⟩
theorem alO{n:b1}(h:fe g w=true)(he:aw n.bd 0 3=true):fe g (gh w n)=true:=by
 unfold gh;cases aG:ja w n.bd with
 | true=>exact h
 | false=>exact WK h he aG
theorem WL{e d:Int}{k:Nat}(h:fe g w=true)(hk:e.toNat=k)(aF:k<4):(nM w.bL e d).length=4/\(nM w.bL e d).any oE=oE (w.bL.getD e.toNat 0+d):=by
 obtain⟨h1,U,ax,_,aZ,bB,bS,dv,eu,dW⟩:=ke.1 h;exact⟨by simp only[nM,fR];exact aZ,Mi eu (by omega)⟩
theorem rj{g:b9}(h:mv g r=false):0<=r.bq.bd/\r.bq.bd<=3:=by
 simp only[mv,fE,iw,aw,hG,ln,cx,cV]at h;omega
theorem alP(h:fe g w=true)(he:0<=e/\e<=3):fe g (lI w e)=aw (w.bL.getD e.toNat 0+1) (-1000000) 1000000:=by
 obtain⟨cG,bM⟩:=WL (d:=1) h (e:=e) rfl (by omega);obtain⟨h1,U,ax,aF,aZ,bB,bS,dv,eu,dW⟩:=ke.1 h;simp only[fe,lI,h1,U,ax,aF,cG,bB,bS,dv,dW,bM,oE,v',oN,wb,oP,Bool.not_not]
theorem alQ(h:fe g w=true)(aA:mv g r=false):fe g (ig w r)=aw (w.bL.getD r.bq.bd.toNat 0+-1) (-1000000) 1000000:=by
 have he:=rj aA;obtain⟨cG,bM⟩:=WL (d:=-1) h (e:=r.bq.bd) rfl (by omega);obtain⟨h1,U,ax,aF,aZ,bB,bS,dv,eu,dW⟩:=ke.1 h;have aK:=NP.2 ⟨h1,aA⟩;simp only[fe,ig,aK,U,ax,aF,cG,fR,bB,bS,dv,dW,bM,oE,v',oN,wb,oP,Bool.not_not]
theorem alR(h:fe g w=true):fe g (e5 g w).1=true:=by
 unfold e5;split
 ·split
  ·rename_i r t h1 U ax;obtain⟨_,_,gj,q7,kR,pb,kt,pc,tA,Kg⟩:=ke.1 h;rw[ax]at gj pc;exact ke.2 ⟨tX.2 ⟨(tX.1 gj).1,rfl⟩,rfl,(tX.1 gj).2,q7,kR,pb,kt,alK pc,tA,Kg⟩
  exact h
 exact h
theorem alS:∀{xs:List Cell},k0 xs=true->∀i a b,xs[i]?=some a->xs[i+1]?=some b->i' a b<0:=by
 intro xs h i a b h1 U;simp only[k0,gT,ik]at h;have hm:(a,b)∈xs.zip (xs.drop 1):=by
  refine eD (i:=i) ?_;rw[List.getElem?_zip_eq_some];exact⟨h1,by rw[gH,Nat.add_comm];exact U⟩
 have:=h _ hm;simp only[E8,cV]at this;omega
def vM(a:Cell):List Int:=[a.bd,a.op,a.key,a.val]
theorem VW(a b:Cell):i' a b=kK (vM a) (vM b):=rfl
theorem NQ{a b c:Cell}(h1:i' a b<0)(U:i' b c<0):i' a c<0:=by
 rw[VW] at*;exact M4 (vM a) (vM b) (vM c) rfl rfl h1 U
theorem alT{a b:Cell}(h1:¬i' a b<0)(U:a≠b):i' b a<0:=by
 rw[VW] at*;refine Classical.byContradiction fun h=>U ?_
 have:=M5 (vM a) (vM b) rfl h1 h;simp only[vM,sU,and_true]at this;obtain⟨hs,gS,rL,qq⟩:=this;cases a;cases b;simp only[Cell.mk.injEq];exact⟨gS,hs,rL,qq⟩
theorem VX:∀{xs:List Cell},k0 xs=true->xs.Pairwise fun a b=>i' a b<0
 | [],_=>List.Pairwise.nil
 | [a],_=>List.pairwise_singleton _ a
 | a::b::xs,h=>by
  have bT:k0 (b::xs)=true:=by
   simp only[k0,List.drop_succ_cons,uu,List.zip_cons_cons,wa,Bool.not_or,cx]at h ⊢;exact h.2
  have ao:=VX bT;have fk:=alS h 0 a b rfl rfl;refine List.Pairwise.cons (fun c aj=>?_) ao;rcases eP.1 aj with rfl | aj
  ·exact fk
  exact NQ fk ((List.pairwise_cons.1 ao).1 c aj)
variable{xs:List Cell}
theorem VY(h:xs.Pairwise fun a b=>i' a b<0):k0 xs=true:=by
 simp only[k0,gT,ik];rintro⟨a,b⟩ hp;obtain⟨i,hi⟩:=List.getElem?_of_mem hp;obtain⟨h1,U⟩:=CA hi;have a1:=aT U;have:=List.pairwise_iff_getElem.1 h i (i+1) (by omega) a1 (by omega);rw[fJ (by omega)]at h1 U;rw[eW h1,eW U]at this;replace this:i' a b<0:=this;show ¬decide (i' a b>=0)=true;simp only[cV];omega
theorem VZ(x:Cell)(h:xs.Pairwise fun a b=>i' a b<0):(ll xs x).Pairwise fun a b=>i' a b<0:=by
 unfold ll;split
 ·exact h
 rename_i jt;have ah:∀a∈xs,a≠x:=by
  intro a ak e;exact jt (qy.2 ⟨a,ak,by simp[e]⟩)
 have av:∀i a,xs[i]?=some a->i<mY xs x->i' a x<0:=by
  intro i a ak hi;unfold mY at hi;cases b2:xs.findIdx? (fun a=>!decide (i' a x<0)) with
  | none=>
   rw[ya]at b2;simpa using b2 a (eD ak)
  | some k=>
   rw[b2]at hi;simp only[il]at hi;rw[qs]at b2;obtain⟨hk,_,ax⟩:=b2;have:=ax i hi;rw[fJ (by omega)]at ak;rw[eW ak]at this;simpa using this
 have ak:∀i a,xs[i]?=some a->mY xs x<=i->i' x a<0:=by
  intro i a ak hi;have hk:mY xs x<xs.length:=by have:=aT ak;omega
  obtain⟨b,gK⟩:=c9 hk;have bG:¬i' b x<0:=by
   unfold mY at gK hk;cases b2:xs.findIdx? (fun a=>!decide (i' a x<0)) with
   | none=>rw[b2]at hk;simp at hk
   | some k=>
    rw[b2]at gK;simp only[il]at gK;rw[qs]at b2;obtain⟨dd,U,_⟩:=b2;rw[fJ dd]at gK;rw[eW gK]at U;simpa using U
  have RU:=alT bG (ah b (eD gK));rcases Nat.lt_or_eq_of_le hi with bz | heq
  ·have a1:=aT ak;have:=List.pairwise_iff_getElem.1 h (mY xs x) i hk a1 bz;rw[fJ hk]at gK;rw[fJ a1]at ak;rw[eW gK,eW ak]at this;exact NQ RU this
  rw[heq,ak]at gK;rw[eW gK];exact RU
 rw[List.pairwise_append];refine⟨h.sublist (List.take_sublist _ _),List.Pairwise.cons (fun c aj=>?_) (h.sublist (List.drop_sublist _ _)),fun a IV c aj=>?_⟩
 ·obtain⟨i,hi⟩:=List.getElem?_of_mem aj;rw[gH]at hi;exact ak _ _ hi (by omega)
 obtain⟨i,hi⟩:=List.getElem?_of_mem IV;rw[gI]at hi;split at hi
 ·rename_i bz;have h1:=av i a hi bz;rcases eP.1 aj with rfl | aj
  ·exact h1
  obtain⟨j,a1⟩:=List.getElem?_of_mem aj;rw[gH]at a1;exact NQ h1 (ak _ _ a1 (by omega))
 cases hi
theorem alU(kind:Int)(x:Cell)(h:k0 xs=true):k0 (dg kind xs x).1=true:=by
 have ao:=VX h;have h1:=VY (VZ x ao);have U:=VY (VZ x (ao.sublist (List.filter_sublist (p:=fun a=>!fo x a))));unfold dg;split
 ·split
  ·exact h
  exact h1
 split
 ·unfold kd;split
  ·exact h
  exact U
 exact h
theorem alV{cs:List Cell}(r:aq)(h:k0 cs=true):k0 (dB g cs r).1=true:=by
 unfold dB;cases gY g r.op with
 | none=>exact h
 | some x=>
  have aA:=alU x.kind ⟨r.op,r.bq.bd,r.key,r.val⟩ h;simp only[dX];split
  ·split
   ·exact h
   split
   ·exact aA
   split
   ·exact aA
   exact aA
  exact h
theorem alW{x:Node}{k v:Int}(ah:aM x=true)(hi:fD k v=true):fD (c6 x k v).1 (c6 x k v).2.1=true:=by
 have q6:=ah;simp only[aM,cx]at ah;have ak:=ah.1.1.1.1;have lb:=hi;simp only[fD,aw,cx,cV]at hi;unfold c6;rw[q6,lb,Bool.and_self,bm rfl];unfold bR at ak;split
 ·rename_i U;rw[bm U]at ak;simp only[aw,cx,cV]at ak;have ap:0<=less (v+x.a) 999/\less (v+x.a) 999<=999:=by unfold less;split<;>omega
  simp only[fD,aw,cx,cV];omega
 rename_i U;rw[bk U]at ak;split
 ·rename_i aF;rw[bk (by omega),bm aF]at ak;simp only[aw,cx,cV]at ak;simp only[fD,aw,cx,cV];rw[Int.tmod_eq_emod_of_nonneg (by omega)];omega
 split
 ·exact lb
 exact lb
theorem alX(h:eM g=true){op:Int}{x:Node}(aX:gY g op=some x):kc g op.toNat x=false:=by
 simp only[eM,cx,gT]at h;unfold gY at aX;split at aX
 ·exact Gm h.2 aX
 cases aX
theorem V0(h:eM g=true){op:Int}{x:Node}(aX:gY g op=some x){s:gz}{k v:Int}(ao:iw s=true)(hi:fD k v=true):gP g (jg x s k v)=true:=by
 have av:=alX h aX;have ah:=ME h aX;simp only[aM,cx]at ah;simp only[kc,hG]at av;have he:=av.2;rw[ik]at he;simp only[gP,jg,List.any_map,gT,ik];intro o ba;have h1:=Mg ah.2 ba;have U:=he o ba;simp only[gZ,oO,not_or,cV]at U;simp only[Function.comp,mv,fE,h1,ao,hi,Bool.and_self,jC,kF,cV];omega
theorem alY{cs:List Cell}:gP g (dB g cs r).2.1=true:=by
 unfold dB;cases aX:gY g r.op with
 | none=>rfl
 | some x=>
  simp only[dX];split
  ·rename_i ay;rw[cx]at ay;obtain⟨ay,aA⟩:=ay;have ep:=aA;simp only[fE,cx]at aA;have aj:=alW (ME ay aX) aA.2;split
   ·rfl
   split
   ·rfl
   split
   ·cases bT:(fl r.bq).2 with
    | false=>rfl
    | true=>
     refine V0 ay aX ?_ aj;unfold fl at bT ⊢;split
     ·rename_i h1;simp only[cx,iw,aw,cV]at h1 ⊢;omega
     rename_i h1;rw[bk h1]at bT;cases bT
   exact V0 ay aX aA.1.2 aj
  rfl
theorem alZ(h:fe g w=true):fe g (e6 g w).1=true:=by
 unfold e6;split
 ·split
  ·rename_i r q h1 U;obtain⟨cG,bM,gj,q7,kR,pb,kt,pc,tA,Kg⟩:=ke.1 h;rw[U,tX]at cG;refine ke.2 ⟨cG.2,alY,gj,alV r q7,kR,pb,?_,pc,tA,Kg⟩;split
   ·rw[fR];exact kt
   exact kt
  exact h
 exact h
