import Derived.Test.YtdchjefneblpgaaGreatP21
set_option linter.unusedVariables false
set_option linter.unusedSimpArgs false
namespace Go.Proofs.YtdchjefneblpgaaGreat
open Go.Sx Go.RowKit Go.Proofs.Tryz
variable{c:aU}
theorem oa(h:c.sz<=8388608):c.ay.sz<=8388608:=by simp only[aU.sz]at h;omega
theorem SY(h:c.sz<=8388608):c.tokens.length<=8388608:=by simp only[aU.sz,iV]at h;omega
theorem xE(h:c.sz<=8388608):c.news.length<=8388608:=by simp only[aU.sz,iV]at h;omega
def kz(g:b0)(i:Nat)(l:bt):Bool:=
 !jm l||((l.cap != g.cap)||(!gu g l.queue||((i:Int).tdiv g.aq==(i:Int).tmod g.aq&&decide ((l.queue.length:Int)>0))))
def lM(n:Int)(t:bQ):Bool:=!ap t.place 0 (n-1)||((!t.going&&t.place != 0)||!ap t.sum (-1000000) 1000000)
def lN(n:Int)(x:bT):Bool:=!ap x.dest 0 (n-1)||!ap x.a7 0 3
def cq(c:aU):Bool:=
 eo c.ay&&(((c.aq.length:Int)==c.ay.aq)&&(((c.bK.length:Int)==c.ay.aq*c.ay.aq)&&((c.tokens.length==4)&&(!(c.aq.any fun w=>!e6 c.ay w)&&(!(anyI (kz c.ay) 0 c.bK)&&(!(c.tokens.any (lM c.ay.aq))&&!(c.news.any (lN c.ay.aq))))))))
theorem ii{g:b0}(h:eo g=true):1<=g.aq/\g.aq<=4:=by
 simp only[eo,b8,ap,b']at h;omega
theorem zf(i:Nat)(n:Int)(hi:i<=8388608)(aK:1<=n):aC .i64 ((i:Int).tdiv n):=by
 have h1:0<=(i:Int).tdiv n:=Int.tdiv_nonneg (by omega) (by omega);have U:(i:Int).tdiv n<=(i:Int):=Int.tdiv_le_self _ (by omega);exact⟨by omega,by omega⟩
theorem afK(h:c.wf){l:bt}(aj:l∈c.bK):l.dZ<=9223372036854775807:=by
 have:=(aU.JP h aj).O6;simp only[aC]at this;exact this.2
def fF(c:aU):Prop:=∀l∈c.bK,l.dZ<=9223372036854775807
theorem fF.of(h:c.wf):fF c:=fun _ aj=>afK h aj
theorem afL(c:aU)(af:c.sz<=8388608)(aK:(c.aq.length:Int)=c.ay.aq):
  ((c.aq.any fun w=>!e6 c.ay w)=false/\c6 prog (av f56 0) (tM (c.ay.nodes.map Node.e) c.ay.aq c.ay.cap (c.aq.map aL.e) (c.bK.map bt.e) (c.tokens.map bQ.e) (c.news.map bT.e) 0) (.exit 0) (J5 (c.ay.nodes.map Node.e) c.ay.aq c.ay.cap (c.aq.map aL.e) (c.bK.map bt.e) (c.tokens.map bQ.e) (c.news.map bT.e)))\/
  ((c.aq.any fun w=>!e6 c.ay w)=true/\c6 prog (av f56 0) (tM (c.ay.nodes.map Node.e) c.ay.aq c.ay.cap (c.aq.map aL.e) (c.bK.map bt.e) (c.tokens.map bQ.e) (c.news.map bT.e) 0) .ret (FC false)):=by
 have aj:=aU.x5 af;have l:=hv (P:=prog) (c:=(av f56 0)) c.aq (fun w=>!e6 c.ay w) (fun i=>tM (c.ay.nodes.map Node.e) c.ay.aq c.ay.cap (c.aq.map aL.e) (c.bK.map bt.e) (c.tokens.map bQ.e) (c.news.map bT.e) i) (X:=fun _ _=>FC false) fl (cL 0)
  (fun i a ad h=>by
   have k:=SV c.ay a (oa af) (aU.x6 af (cG ad));rw[show e6 c.ay a=true by simpa using h]at k;exact aeD ⟨dr (by have:=aX ad;omega),bH,bL (aX ad),bI aL.e ad,k,rfl,du (aX ad) aj,ae⟩)
  (fun i a ad h=>by
   have k:=SV c.ay a (oa af) (aU.x6 af (cG ad));rw[show e6 c.ay a=false by simpa using h]at k;exact aeC ⟨dr (by have:=aX ad;omega),bH,bL (aX ad),bI aL.e ad,k,rfl,ae⟩)
  (aeE ⟨ee (by omega),ae⟩)
 rcases l with⟨_,_,h1,U⟩ | ⟨_,_,_,_,_,_,h1,U⟩
 ·exact .inl ⟨h1,U⟩
 exact .inr ⟨h1,U⟩
theorem afM(c:aU)(af:c.sz<=8388608)(hw:fF c)(aK:1<=c.ay.aq):
  (anyI (kz c.ay) 0 c.bK=false/\c6 prog (av f56 1) (mV c.ay.aq 0 (c.ay.nodes.map Node.e) c.ay.aq c.ay.cap (c.aq.map aL.e) (c.bK.map bt.e) (c.tokens.map bQ.e) (c.news.map bT.e)) (.exit 2) (BA c.ay.aq (c.ay.nodes.map Node.e) c.ay.aq c.ay.cap (c.aq.map aL.e) (c.bK.map bt.e) (c.tokens.map bQ.e) (c.news.map bT.e)))\/
  (anyI (kz c.ay) 0 c.bK=true/\c6 prog (av f56 1) (mV c.ay.aq 0 (c.ay.nodes.map Node.e) c.ay.aq c.ay.cap (c.aq.map aL.e) (c.bK.map bt.e) (c.tokens.map bQ.e) (c.news.map bT.e)) .ret (zd false)):=by
 have aj:=aU.Ey af;have pd:∀(i:Nat) (a:bt),c.bK[i]?=some a->∀r,jm a=r->aw 191 [.agg a.e] [.one (B r)]:=fun i a ad r h=>h▸FI a (aU.y1 af (cG ad))
 have fP:∀(i:Nat) (a:bt),c.bK[i]?=some a->∀r,gu c.ay a.queue=r->aw 192 [.agg c.ay.e,.one (.J 5 (a.queue.map aE.e))] [.one (B r)]:=fun i a ad r h=>xC c.ay _ r h (oa af) (aU.y1 af (cG ad))
 exact u' (P:=prog) (c:=(av f56 1)) c.bK (kz c.ay) (fun i=>mV c.ay.aq i (c.ay.nodes.map Node.e) c.ay.aq c.ay.cap (c.aq.map aL.e) (c.bK.map bt.e) (c.tokens.map bQ.e) (c.news.map bT.e)) fl (cL 2)
  (fun i a ad h=>by
   have hi:=aX ad;simp only[kz,fR,jW]at h;obtain⟨h1,U,ax,aF⟩:=h;cases aQ:((i:Int).tdiv c.ay.aq==(i:Int).tmod c.ay.aq) with
   | true=>
    rw[aQ,oM]at aF;exact aeK ⟨b4 (aX ad),bH,bL (aX ad),bI bt.e ad,pd i a ad _ h1,rfl,U,fP i a ad _ ax,rfl,by omega,zf i _ (by omega) aK,by omega,aQ,by rw[bk];exact aF,du hi aj,ae⟩
   | false=>exact aeL ⟨b4 (aX ad),bH,bL (aX ad),bI bt.e ad,pd i a ad _ h1,rfl,U,fP i a ad _ ax,rfl,by omega,zf i _ (by omega) aK,by omega,aQ,du hi aj,ae⟩)
  (fun i a ad h=>by
   have hi:=aX ad;cases h1:jm a with
   | false=>exact aeG ⟨b4 (aX ad),bH,bL (aX ad),bI bt.e ad,pd i a ad _ h1,rfl,ae⟩
   | true=>
   cases U:(a.cap != c.ay.cap) with
   | true=>exact aeH ⟨b4 (aX ad),bH,bL (aX ad),bI bt.e ad,pd i a ad _ h1,rfl,U,ae⟩
   | false=>
   cases ax:gu c.ay a.queue with
   | false=>exact aeI ⟨b4 (aX ad),bH,bL (aX ad),bI bt.e ad,pd i a ad _ h1,rfl,U,fP i a ad _ ax,rfl,ae⟩
   | true=>
   simp only[kz,h1,U,ax,iu,jY,b8]at h;exact aeJ ⟨b4 (aX ad),bH,bL (aX ad),bI bt.e ad,pd i a ad _ h1,rfl,U,fP i a ad _ ax,rfl,by omega,zf i _ (by omega) aK,by omega,h.1,by rw[bk];exact h.2,ae⟩)
  (aeM ⟨ec,ae⟩)
theorem afN(c:aU)(af:c.sz<=8388608)(aK:1<=c.ay.aq/\c.ay.aq<=4):
  ((c.tokens.any (lM c.ay.aq))=false/\c6 prog (av f56 2) (nP c.ay.aq (c.ay.nodes.map Node.e) c.ay.aq c.ay.cap (c.aq.map aL.e) (c.bK.map bt.e) (c.tokens.map bQ.e) (c.news.map bT.e) 0) (.exit 4) (FD c.ay.aq (c.ay.nodes.map Node.e) c.ay.aq c.ay.cap (c.aq.map aL.e) (c.bK.map bt.e) (c.tokens.map bQ.e) (c.news.map bT.e)))\/
  ((c.tokens.any (lM c.ay.aq))=true/\c6 prog (av f56 2) (nP c.ay.aq (c.ay.nodes.map Node.e) c.ay.aq c.ay.cap (c.aq.map aL.e) (c.bK.map bt.e) (c.tokens.map bQ.e) (c.news.map bT.e) 0) .ret (xA false)):=by
 have aj:=SY af;have l:=hv (P:=prog) (c:=(av f56 2)) c.tokens (lM c.ay.aq) (fun i=>nP c.ay.aq (c.ay.nodes.map Node.e) c.ay.aq c.ay.cap (c.aq.map aL.e) (c.bK.map bt.e) (c.tokens.map bQ.e) (c.news.map bT.e) i) (X:=fun _ _=>xA false) fl (cL 4)
  (fun i a ad h=>by
   have hi:=aX ad;simp only[lM,fR,jW]at h;obtain⟨h1,U,ax⟩:=h;cases ar:a.going with
   | false=>
    rw[ar,oL,oM]at U;exact aeR ⟨b4 (aX ad),bH,bL (aX ad),bI bQ.e ad,⟨by omega,by omega⟩,fe true h1,rfl,bH,bL (aX ad),bI bQ.e ad,by rw[ar];rfl,bH,bL (aX ad),bI bQ.e ad,U,bH,bL (aX ad),bI bQ.e ad,fe true ax,rfl,du hi aj,ae⟩
   | true=>exact aej ⟨b4 (aX ad),bH,bL (aX ad),bI bQ.e ad,⟨by omega,by omega⟩,fe true h1,rfl,bH,bL (aX ad),bI bQ.e ad,by rw[ar];rfl,bH,bL (aX ad),bI bQ.e ad,fe true ax,rfl,du hi aj,ae⟩)
  (fun i a ad h=>by
   have hi:=aX ad;cases h1:ap a.place 0 (c.ay.aq-1) with
   | false=>exact aeO ⟨b4 (aX ad),bH,bL (aX ad),bI bQ.e ad,⟨by omega,by omega⟩,fe false h1,rfl,ae⟩
   | true=>
   simp only[lM,h1,iu,jY]at h;cases ar:a.going with
   | false=>
    rw[ar,oL,oM]at h;cases U:(a.place != 0) with
    | true=>exact aeP ⟨b4 (aX ad),bH,bL (aX ad),bI bQ.e ad,⟨by omega,by omega⟩,fe true h1,rfl,bH,bL (aX ad),bI bQ.e ad,by rw[ar];rfl,bH,bL (aX ad),bI bQ.e ad,U,ae⟩
    | false=>
     rw[U,jY]at h;exact aeQ ⟨b4 (aX ad),bH,bL (aX ad),bI bQ.e ad,⟨by omega,by omega⟩,fe true h1,rfl,bH,bL (aX ad),bI bQ.e ad,by rw[ar];rfl,bH,bL (aX ad),bI bQ.e ad,U,bH,bL (aX ad),bI bQ.e ad,fe false (by simpa using h),rfl,ae⟩
   | true=>
    rw[ar,iu,Bool.false_and,jY]at h;exact aei ⟨b4 (aX ad),bH,bL (aX ad),bI bQ.e ad,⟨by omega,by omega⟩,fe true h1,rfl,bH,bL (aX ad),bI bQ.e ad,by rw[ar];rfl,bH,bL (aX ad),bI bQ.e ad,fe false (by simpa using h),rfl,ae⟩)
  (aek ⟨ec,ae⟩)
 rcases l with⟨_,_,h1,U⟩ | ⟨_,_,_,_,_,_,h1,U⟩
 ·exact .inl ⟨h1,U⟩
 exact .inr ⟨h1,U⟩
theorem afO(c:aU)(af:c.sz<=8388608)(aK:1<=c.ay.aq/\c.ay.aq<=4):
  ((c.news.any (lN c.ay.aq))=false/\c6 prog (av f56 3) (sB c.ay.aq (c.ay.nodes.map Node.e) c.ay.aq c.ay.cap (c.aq.map aL.e) (c.bK.map bt.e) (c.tokens.map bQ.e) (c.news.map bT.e) 0) (.exit 6) LZ)\/
  ((c.news.any (lN c.ay.aq))=true/\c6 prog (av f56 3) (sB c.ay.aq (c.ay.nodes.map Node.e) c.ay.aq c.ay.cap (c.aq.map aL.e) (c.bK.map bt.e) (c.tokens.map bQ.e) (c.news.map bT.e) 0) .ret (BB false)):=by
 have aj:=xE af;have l:=hv (P:=prog) (c:=(av f56 3)) c.news (lN c.ay.aq) (fun i=>sB c.ay.aq (c.ay.nodes.map Node.e) c.ay.aq c.ay.cap (c.aq.map aL.e) (c.bK.map bt.e) (c.tokens.map bQ.e) (c.news.map bT.e) i) (X:=fun _ _=>BB false) fl (cL 6)
  (fun i a ad h=>by
   have hi:=aX ad;simp only[lN,fR,jW]at h;exact aeo ⟨b4 (aX ad),bH,bL (aX ad),bI bT.e ad,⟨by omega,by omega⟩,fe true h.1,rfl,bH,bL (aX ad),bI bT.e ad,fe true h.2,rfl,du hi aj,ae⟩)
  (fun i a ad h=>by
   have hi:=aX ad;cases h1:ap a.dest 0 (c.ay.aq-1) with
   | false=>exact aem ⟨b4 (aX ad),bH,bL (aX ad),bI bT.e ad,⟨by omega,by omega⟩,fe false h1,rfl,ae⟩
   | true=>
    simp only[lN,h1,iu,jY]at h;exact aen ⟨b4 (aX ad),bH,bL (aX ad),bI bT.e ad,⟨by omega,by omega⟩,fe true h1,rfl,bH,bL (aX ad),bI bT.e ad,fe false (by simpa using h),rfl,ae⟩)
  (aep ⟨ec,ae⟩)
 rcases l with⟨_,_,h1,U⟩ | ⟨_,_,_,_,_,_,h1,U⟩
 ·exact .inl ⟨h1,U⟩
 exact .inr ⟨h1,U⟩
theorem afP(c:aU)(af:c.sz<=8388608)(hw:fF c):aw 56 [.agg c.e] [.one (B (cq c))]:=by
 have ar:=Fu c.ay (oa af);unfold cq;cases h1:eo c.ay with
 | false=>rw[h1]at ar;exact aey ⟨ar,rfl,ae⟩
 | true=>
 rw[h1]at ar;have aK:=ii h1;have aA:aC .i64 (c.ay.aq*c.ay.aq):=by
  have ax:c.ay.aq=1\/c.ay.aq=2\/c.ay.aq=3\/c.ay.aq=4:=by omega
  rcases ax with ax | ax | ax | ax<;>(rw[ax];exact⟨by decide,by decide⟩)
 cases U:((c.aq.length:Int)==c.ay.aq) with
 | false=>exact aez ⟨ar,rfl,by rw[bk];simpa using U,ae⟩
 | true=>
 have v2:((↑(c.aq.map aL.e).length:Int) != c.ay.aq)=false:=by rw[bk];simpa using U
 cases ax:((c.bK.length:Int)==c.ay.aq*c.ay.aq) with
 | false=>exact aeA ⟨ar,rfl,v2,aA,by rw[bk];simpa using ax,ae⟩
 | true=>
 have v3:((↑(c.bK.map bt.e).length:Int) != c.ay.aq*c.ay.aq)=false:=by rw[bk];simpa using ax
 cases aF:(c.tokens.length==4) with
 | false=>exact aeB ⟨ar,rfl,v2,aA,v3,u0 aF,ae⟩
 | true=>
 rcases afL c af (eq_of_beq U) with⟨aQ,pe⟩ | ⟨aQ,pe⟩
 case inr=>rw[aQ];exact aeF ⟨ar,rfl,v2,aA,v3,gl aF,pe,ae⟩
 rw[aQ];rcases afM c af hw aK.1 with⟨bb,rc⟩ | ⟨bb,rc⟩
 case inr=>rw[bb];exact aeN ⟨ar,rfl,v2,aA,v3,gl aF,pe,rc,ae⟩
 rw[bb];rcases afN c af aK with⟨bN,tH⟩ | ⟨bN,tH⟩
 case inr=>rw[bN];exact ael ⟨ar,rfl,v2,aA,v3,gl aF,pe,rc,tH,ae⟩
 rw[bN];rcases afO c af aK with⟨dj,kt⟩ | ⟨dj,kt⟩
 ·rw[dj];exact aer ⟨ar,rfl,v2,aA,v3,gl aF,pe,rc,tH,kt,ae⟩
 rw[dj];exact aeq ⟨ar,rfl,v2,aA,v3,gl aF,pe,rc,tH,kt,ae⟩
theorem afQ(c:aU)(af:c.sz<=8388608)(aK:(c.aq.length:Int)=c.ay.aq):
  ((c.aq.any fun w=>!e6 c.ay w)=false/\c6 prog (av f55 0) (tN c.ay.aq (c.aq.map aL.e) 0 (c.ay.nodes.map Node.e) c.ay.aq c.ay.cap (c.aq.map aL.e) (c.bK.map bt.e) (c.tokens.map bQ.e) (c.news.map bT.e)) (.exit 0) (J6 c.ay.aq (c.ay.nodes.map Node.e) c.ay.aq c.ay.cap (c.aq.map aL.e) (c.bK.map bt.e) (c.tokens.map bQ.e) (c.news.map bT.e)))\/
  ((c.aq.any fun w=>!e6 c.ay w)=true/\c6 prog (av f55 0) (tN c.ay.aq (c.aq.map aL.e) 0 (c.ay.nodes.map Node.e) c.ay.aq c.ay.cap (c.aq.map aL.e) (c.bK.map bt.e) (c.tokens.map bQ.e) (c.news.map bT.e)) .ret (FE false)):=by
 have aj:=aU.x5 af;have l:=hv (P:=prog) (c:=(av f55 0)) c.aq (fun w=>!e6 c.ay w) (fun i=>tN c.ay.aq (c.aq.map aL.e) i (c.ay.nodes.map Node.e) c.ay.aq c.ay.cap (c.aq.map aL.e) (c.bK.map bt.e) (c.tokens.map bQ.e) (c.news.map bT.e)) (X:=fun _ _=>FE false) fl (cL 0)
  (fun i a ad h=>by
   have k:=E9 c.ay a (oa af) (aU.x6 af (cG ad));rw[show e6 c.ay a=true by simpa using h]at k;exact afX ⟨b4 (aX ad),bH,bL (aX ad),bI aL.e ad,k,rfl,du (aX ad) aj,ae⟩)
  (fun i a ad h=>by
   have k:=E9 c.ay a (oa af) (aU.x6 af (cG ad));rw[show e6 c.ay a=false by simpa using h]at k;exact afW ⟨b4 (aX ad),bH,bL (aX ad),bI aL.e ad,k,rfl,ae⟩)
  (afY ⟨ec,ae⟩)
 rcases l with⟨_,_,h1,U⟩ | ⟨_,_,_,_,_,_,h1,U⟩
 ·exact .inl ⟨h1,U⟩
 exact .inr ⟨h1,U⟩
theorem afR(c:aU)(af:c.sz<=8388608)(hw:fF c)(aK:1<=c.ay.aq):
  (anyI (kz c.ay) 0 c.bK=false/\c6 prog (av f55 1) (mW c.ay.aq (c.bK.map bt.e) 0 (c.ay.nodes.map Node.e) c.ay.aq c.ay.cap (c.aq.map aL.e) (c.bK.map bt.e) (c.tokens.map bQ.e) (c.news.map bT.e)) (.exit 2) (BC c.ay.aq (c.ay.nodes.map Node.e) c.ay.aq c.ay.cap (c.aq.map aL.e) (c.bK.map bt.e) (c.tokens.map bQ.e) (c.news.map bT.e)))\/
  (anyI (kz c.ay) 0 c.bK=true/\c6 prog (av f55 1) (mW c.ay.aq (c.bK.map bt.e) 0 (c.ay.nodes.map Node.e) c.ay.aq c.ay.cap (c.aq.map aL.e) (c.bK.map bt.e) (c.tokens.map bQ.e) (c.news.map bT.e)) .ret (ze false)):=by
 have aj:=aU.Ey af;have pd:∀(i:Nat) (a:bt),c.bK[i]?=some a->∀r,jm a=r->aw 188 [.agg a.e] [.one (B r)]:=fun i a ad r h=>h▸FH a (aU.y1 af (cG ad)) (hw _ (cG ad))
 have fP:∀(i:Nat) (a:bt),c.bK[i]?=some a->∀r,gu c.ay a.queue=r->aw 189 [.agg c.ay.e,.one (.J 5 (a.queue.map aE.e))] [.one (B r)]:=fun i a ad r h=>xD c.ay _ r h (oa af) (aU.y1 af (cG ad))
 exact u' (P:=prog) (c:=(av f55 1)) c.bK (kz c.ay) (fun i=>mW c.ay.aq (c.bK.map bt.e) i (c.ay.nodes.map Node.e) c.ay.aq c.ay.cap (c.aq.map aL.e) (c.bK.map bt.e) (c.tokens.map bQ.e) (c.news.map bT.e)) fl (cL 2)
  (fun i a ad h=>by
   have hi:=aX ad;simp only[kz,fR,jW]at h;obtain⟨h1,U,ax,aF⟩:=h;cases aQ:((i:Int).tdiv c.ay.aq==(i:Int).tmod c.ay.aq) with
   | true=>
    rw[aQ,oM]at aF;exact af4 ⟨b4 (aX ad),bH,bL (aX ad),bI bt.e ad,pd i a ad _ h1,rfl,U,fP i a ad _ ax,rfl,by omega,zf i _ (by omega) aK,by omega,aQ,by rw[bk];exact aF,du hi aj,ae⟩
   | false=>exact af5 ⟨b4 (aX ad),bH,bL (aX ad),bI bt.e ad,pd i a ad _ h1,rfl,U,fP i a ad _ ax,rfl,by omega,zf i _ (by omega) aK,by omega,aQ,du hi aj,ae⟩)
  (fun i a ad h=>by
   have hi:=aX ad;cases h1:jm a with
   | false=>exact af0 ⟨b4 (aX ad),bH,bL (aX ad),bI bt.e ad,pd i a ad _ h1,rfl,ae⟩
   | true=>
   cases U:(a.cap != c.ay.cap) with
   | true=>exact af1 ⟨b4 (aX ad),bH,bL (aX ad),bI bt.e ad,pd i a ad _ h1,rfl,U,ae⟩
   | false=>
   cases ax:gu c.ay a.queue with
   | false=>exact af2 ⟨b4 (aX ad),bH,bL (aX ad),bI bt.e ad,pd i a ad _ h1,rfl,U,fP i a ad _ ax,rfl,ae⟩
   | true=>
   simp only[kz,h1,U,ax,iu,jY,b8]at h;exact af3 ⟨b4 (aX ad),bH,bL (aX ad),bI bt.e ad,pd i a ad _ h1,rfl,U,fP i a ad _ ax,rfl,by omega,zf i _ (by omega) aK,by omega,h.1,by rw[bk];exact h.2,ae⟩)
  (af6 ⟨ec,ae⟩)
theorem afi(c:aU)(af:c.sz<=8388608)(aK:1<=c.ay.aq/\c.ay.aq<=4):
  ((c.tokens.any (lM c.ay.aq))=false/\c6 prog (av f55 2) (nQ c.ay.aq (c.tokens.map bQ.e) 0 (c.ay.nodes.map Node.e) c.ay.aq c.ay.cap (c.aq.map aL.e) (c.bK.map bt.e) (c.tokens.map bQ.e) (c.news.map bT.e)) (.exit 4) (FF c.ay.aq (c.ay.nodes.map Node.e) c.ay.aq c.ay.cap (c.aq.map aL.e) (c.bK.map bt.e) (c.tokens.map bQ.e) (c.news.map bT.e)))\/
  ((c.tokens.any (lM c.ay.aq))=true/\c6 prog (av f55 2) (nQ c.ay.aq (c.tokens.map bQ.e) 0 (c.ay.nodes.map Node.e) c.ay.aq c.ay.cap (c.aq.map aL.e) (c.bK.map bt.e) (c.tokens.map bQ.e) (c.news.map bT.e)) .ret (xB false)):=by
 have aj:=SY af;have l:=hv (P:=prog) (c:=(av f55 2)) c.tokens (lM c.ay.aq) (fun i=>nQ c.ay.aq (c.tokens.map bQ.e) i (c.ay.nodes.map Node.e) c.ay.aq c.ay.cap (c.aq.map aL.e) (c.bK.map bt.e) (c.tokens.map bQ.e) (c.news.map bT.e)) (X:=fun _ _=>xB false) fl (cL 4)
  (fun i a ad h=>by
   have hi:=aX ad;simp only[lM,fR,jW]at h;obtain⟨h1,U,ax⟩:=h;cases ar:a.going with
   | false=>
    rw[ar,oL,oM]at U;exact agb ⟨b4 (aX ad),bH,bL (aX ad),bI bQ.e ad,⟨by omega,by omega⟩,hN true h1,rfl,by rw[ar];rfl,U,hN true ax,rfl,du hi aj,ae⟩
   | true=>exact agd ⟨b4 (aX ad),bH,bL (aX ad),bI bQ.e ad,⟨by omega,by omega⟩,hN true h1,rfl,by rw[ar];rfl,hN true ax,rfl,du hi aj,ae⟩)
  (fun i a ad h=>by
   have hi:=aX ad;cases h1:ap a.place 0 (c.ay.aq-1) with
   | false=>exact af8 ⟨b4 (aX ad),bH,bL (aX ad),bI bQ.e ad,⟨by omega,by omega⟩,hN false h1,rfl,ae⟩
   | true=>
   simp only[lM,h1,iu,jY]at h;cases ar:a.going with
   | false=>
    rw[ar,oL,oM]at h;cases U:(a.place != 0) with
    | true=>exact af9 ⟨b4 (aX ad),bH,bL (aX ad),bI bQ.e ad,⟨by omega,by omega⟩,hN true h1,rfl,by rw[ar];rfl,U,ae⟩
    | false=>
     rw[U,jY]at h;exact aga ⟨b4 (aX ad),bH,bL (aX ad),bI bQ.e ad,⟨by omega,by omega⟩,hN true h1,rfl,by rw[ar];rfl,U,hN false (by simpa using h),rfl,ae⟩
   | true=>
    rw[ar,iu,Bool.false_and,jY]at h;exact agc ⟨b4 (aX ad),bH,bL (aX ad),bI bQ.e ad,⟨by omega,by omega⟩,hN true h1,rfl,by rw[ar];rfl,hN false (by simpa using h),rfl,ae⟩)
  (age ⟨ec,ae⟩)
 rcases l with⟨_,_,h1,U⟩ | ⟨_,_,_,_,_,_,h1,U⟩
 ·exact .inl ⟨h1,U⟩
 exact .inr ⟨h1,U⟩
theorem afj(c:aU)(af:c.sz<=8388608)(aK:1<=c.ay.aq/\c.ay.aq<=4):
  ((c.news.any (lN c.ay.aq))=false/\c6 prog (av f55 3) (sC c.ay.aq (c.news.map bT.e) 0) (.exit 6) L0)\/
  ((c.news.any (lN c.ay.aq))=true/\c6 prog (av f55 3) (sC c.ay.aq (c.news.map bT.e) 0) .ret (BD false)):=by
 have aj:=xE af;have l:=hv (P:=prog) (c:=(av f55 3)) c.news (lN c.ay.aq) (fun i=>sC c.ay.aq (c.news.map bT.e) i) (X:=fun _ _=>BD false) fl (cL 6)
  (fun i a ad h=>by
   have hi:=aX ad;simp only[lN,fR,jW]at h;exact afs ⟨b4 (aX ad),bH,bL (aX ad),bI bT.e ad,⟨by omega,by omega⟩,hN true h.1,rfl,hN true h.2,rfl,du hi aj,ae⟩)
  (fun i a ad h=>by
   have hi:=aX ad;cases h1:ap a.dest 0 (c.ay.aq-1) with
   | false=>exact agh ⟨b4 (aX ad),bH,bL (aX ad),bI bT.e ad,⟨by omega,by omega⟩,hN false h1,rfl,ae⟩
   | true=>
    simp only[lN,h1,iu,jY]at h;exact agi ⟨b4 (aX ad),bH,bL (aX ad),bI bT.e ad,⟨by omega,by omega⟩,hN true h1,rfl,hN false (by simpa using h),rfl,ae⟩)
  (aft ⟨ec,ae⟩)
 rcases l with⟨_,_,h1,U⟩ | ⟨_,_,_,_,_,_,h1,U⟩
 ·exact .inl ⟨h1,U⟩
 exact .inr ⟨h1,U⟩
theorem E'(c:aU)(af:c.sz<=8388608)(hw:fF c):aw 55 [.agg c.e] [.one (B (cq c))]:=by
 have ar:=zb c.ay (oa af);unfold cq;cases h1:eo c.ay with
 | false=>rw[h1]at ar;exact afS ⟨ar,rfl,ae⟩
 | true=>
 rw[h1]at ar;have aK:=ii h1;have aA:aC .i64 (c.ay.aq*c.ay.aq):=by
  have ax:c.ay.aq=1\/c.ay.aq=2\/c.ay.aq=3\/c.ay.aq=4:=by omega
  rcases ax with ax | ax | ax | ax<;>(rw[ax];exact⟨by decide,by decide⟩)
 cases U:((c.aq.length:Int)==c.ay.aq) with
 | false=>exact afT ⟨ar,rfl,by rw[bk];simpa using U,ae⟩
 | true=>
 have v2:((↑(c.aq.map aL.e).length:Int) != c.ay.aq)=false:=by rw[bk];simpa using U
 cases ax:((c.bK.length:Int)==c.ay.aq*c.ay.aq) with
 | false=>exact afU ⟨ar,rfl,v2,aA,by rw[bk];simpa using ax,ae⟩
 | true=>
 have v3:((↑(c.bK.map bt.e).length:Int) != c.ay.aq*c.ay.aq)=false:=by rw[bk];simpa using ax
 cases aF:(c.tokens.length==4) with
 | false=>exact afV ⟨ar,rfl,v2,aA,v3,u0 aF,ae⟩
 | true=>
 rcases afQ c af (eq_of_beq U) with⟨aQ,pe⟩ | ⟨aQ,pe⟩
 case inr=>rw[aQ];exact afZ ⟨ar,rfl,v2,aA,v3,gl aF,pe,ae⟩
 rw[aQ];rcases afR c af hw aK.1 with⟨bb,rc⟩ | ⟨bb,rc⟩
 case inr=>rw[bb];exact af7 ⟨ar,rfl,v2,aA,v3,gl aF,pe,rc,ae⟩
 rw[bb];rcases afi c af aK with⟨bN,tH⟩ | ⟨bN,tH⟩
 case inr=>rw[bN];exact agf ⟨ar,rfl,v2,aA,v3,gl aF,pe,rc,tH,ae⟩
 rw[bN];rcases afj c af aK with⟨dj,kt⟩ | ⟨dj,kt⟩
 ·rw[dj];exact afv ⟨ar,rfl,v2,aA,v3,gl aF,pe,rc,tH,kt,ae⟩
 rw[dj];exact afu ⟨ar,rfl,v2,aA,v3,gl aF,pe,rc,tH,kt,ae⟩
end Go.Proofs.YtdchjefneblpgaaGreat
namespace Go.Proofs.YtdchjefneblpgaaGreat
open Go.Sx Go.RowKit Go.Proofs.Tryz
def cutAt{α:Type}(xs:List α)(k:Nat):List α:=xs.take k++xs.drop (k+1)
def z8:aE:=⟨0,⟨0,0⟩,0,0⟩
def mO(xs:List Int)(e d:Int):List Int:=xs.set e.toNat (xs.getD e.toNat 0+d)
def ei(l:bt)(r:aE):bt×Bool:=
 if jm l&&eD r&&l.eC != 0&&decide (l.eF<1000000000) then (⟨l.cap,l.queue++[r],l.eC-1,l.back,l.eF+1,l.dZ⟩,true) else (l,false)
def dI(l:bt):bt×aE×Bool:=
 if jm l then match l.queue with
  | []=>(l,z8,false)
  | r::q=>(⟨l.cap,q,l.eC,l.back+1,l.eF,l.dZ+1⟩,r,true)
 else (l,z8,false)
def fT(l:bt):bt×Bool:=
 if jm l&&l.back != 0 then (⟨l.cap,l.queue,l.eC+1,l.back-1,l.eF,l.dZ⟩,true) else (l,false)
def gJ(g:b0)(w:aL):aL×Bool:=
 if eo g&&e6 g w then match w.cp,w.queue with
  | [],r::q=>(⟨q,(dW g w.cells r).2.1,w.bZ,(dW g w.cells r).1,w.bM,w.bV,(if ca g r then w.bm.set r.bh.a7.toNat true else w.bm),w.b1⟩,true)
  | _,_=>(w,false)
 else (w,false)
def gK(g:b0)(w:aL):aL×Bool:=
 if eo g&&e6 g w then match w.cp,w.queue,w.bZ with
  | [],[],r::t=>(⟨[r],[],t,w.cells,w.bM,w.bV,w.bm,w.b1⟩,true)
  | _,_,_=>(w,false)
 else (w,false)
def iB(w:aL)(t:List aE):aL:=⟨w.queue,t,w.bZ,w.cells,w.bM,w.bV,w.bm,w.b1⟩
def kept(w:aL)(r:aE):aL:=⟨w.queue++[r],w.cp,w.bZ,w.cells,w.bM,w.bV,w.bm,w.b1⟩
def k1(w:aL)(r:aE):aL:=⟨w.queue++[r],w.cp,w.bZ,w.cells,mO w.bM r.bh.a7 (-1),w.bV.set r.bh.a7.toNat true,w.bm,w.b1⟩
def my(w:aL)(e:Int):aL:=⟨w.queue,w.cp,w.bZ,w.cells,mO w.bM e 1,w.bV,w.bm,w.b1⟩
def er(w:aL)(e:Int):aL:=⟨w.queue,w.cp,w.bZ,w.cells,w.bM,w.bV.set e.toNat false,w.bm,w.b1⟩
def told(w:aL)(e:Int)(b:Bool):aL:=⟨w.queue,w.cp,w.bZ,w.cells,w.bM,w.bV,w.bm,w.b1++[⟨e,b⟩]⟩
def ea(w:aL)(n:bT):aL:=if ew w n.a7 then w else told w n.a7 n.ca
def xF(w:aL)(e:Int):Bool:=w.bZ.any fun r=>decide (r.bh.a7<=e)
def Un(w:aL)(e:Int):Nat:=(l3 e w.queue).length+(l3 e w.cp).length
def kA(w:aL)(e:Int):Bool:=!xF w e&&Un w e==0
def setW(c:aU)(i:Int)(x:aL):aU:=⟨c.ay,c.aq.set i.toNat x,c.bK,c.tokens,c.news⟩
def db(c:aU)(i:Int)(l:bt):aU:=⟨c.ay,c.aq,c.bK.set i.toNat l,c.tokens,c.news⟩
def cM(c:aU)(i:Int)(t:bQ):aU:=⟨c.ay,c.aq,c.bK,c.tokens.set i.toNat t,c.news⟩
def hg(c:aU)(n:List bT):aU:=⟨c.ay,c.aq,c.bK,c.tokens,n⟩
def b3(c:aU)(i:Int):Option aL:=if 0<=i then c.aq[i.toNat]? else none
def eB(c:aU)(i:Int):Option bt:=if 0<=i then c.bK[i.toNat]? else none
def hE(c:aU)(i:Int):Option bQ:=if 0<=i then c.tokens[i.toNat]? else none
def dX(g:b0)(a b:Int):Int:=if ap a 0 (g.aq-1)&&ap b 0 (g.aq-1) then a*g.aq+b else -1
def jn(c:aU)(w:Int):aU×Bool:=
 if cq c then match b3 c w with
  | some x=>(setW c w (gJ c.ay x).1,(gJ c.ay x).2)
  | none=>(c,false)
 else (c,false)
def jo(c:aU)(w:Int):aU×Bool:=
 if cq c then match b3 c w with
  | some x=>(setW c w (gK c.ay x).1,(gK c.ay x).2)
  | none=>(c,false)
 else (c,false)
def rq(c:aU)(w:Int)(x:aL)(r:aE)(t:List aE)(o:Int):aU×Bool:=
 if o=w then (setW c w (kept (iB x t) r),true)
 else match eB c (dX c.ay w o) with
  | some l=>if (ei l r).2 then (setW (db c (dX c.ay w o) (ei l r).1) w (my (iB x t) r.bh.a7),true) else (c,false)
  | none=>(c,false)
def iS(c:aU)(w:Int):aU×Bool:=
 if cq c then match b3 c w with
  | some x=>match x.cp with
   | r::t=>rq c w x r t (eJ r.key c.ay.aq)
   | []=>(c,false)
  | none=>(c,false)
 else (c,false)
def jM(c:aU)(a b:Int):aU×Bool:=
 if cq c&&a != b then match eB c (dX c.ay a b),b3 c b with
  | some l,some x=>if (dI l).2.2 then (setW (db c (dX c.ay a b) (dI l).1) b (k1 x (dI l).2.1),true) else (c,false)
  | _,_=>(c,false)
 else (c,false)
def jq(c:aU)(a b:Int):aU×Bool:=
 if cq c&&a != b then match eB c (dX c.ay a b) with
  | some l=>(db c (dX c.ay a b) (fT l).1,(fT l).2)
  | none=>(c,false)
 else (c,false)
def fU(n:Nat)(e:Int)(b:Bool):List bT:=(List.range n).map fun k:Nat=>⟨(k:Int)+1,e,b⟩
def dx(c:aU)(e:Int)(t:bQ)(x:aL):aU×Bool:=
 if kA x e then
  if !t.going then (setW (cM c e ⟨true,(c.aq.length:Int)-1,0,false,x.bm.getD e.toNat false⟩) t.place (er x e),true)
  else if 0<t.place then
   if ap (t.sum+x.bM.getD e.toNat 0) (-1000000) 1000000 then
    (setW (cM c e ⟨true,t.place-1,t.sum+x.bM.getD e.toNat 0,t.bV||x.bV.getD e.toNat false,t.ca||x.bm.getD e.toNat false⟩) t.place (er x e),true)
   else (c,false)
  else if !t.bV&&!x.bV.getD e.toNat false&&t.sum+x.bM.getD e.toNat 0==0 then
   (hg (setW (cM c e ⟨false,t.place,t.sum,t.bV,t.ca⟩) 0 (told x e (t.ca||x.bm.getD e.toNat false))) (c.news++fU (c.aq.length-1) e (t.ca||x.bm.getD e.toNat false)),true)
  else (cM c e ⟨false,t.place,t.sum,t.bV,t.ca⟩,true)
 else (c,false)
def ij(c:aU)(e:Int):aU×Bool:=
 if cq c&&ap e 0 3 then match b3 c 0,hE c e with
  | some cm,some t=>if ew cm e then (c,false) else match b3 c t.place with
   | some x=>dx c e t x
   | none=>(c,false)
  | _,_=>(c,false)
 else (c,false)
def jN(c:aU)(w:Int):aU×Bool:=
 match c.news.findIdx? (fun n=>n.dest==w) with
 | some k=>if cq c then match c.news[k]?,b3 c w with
   | some n,some x=>(hg (setW c w (ea x n)) (cutAt c.news k),true)
   | _,_=>(c,false)
  else (c,false)
 | none=>(c,false)
def cY(c:aU)(p:b9):aU×Bool:=
 if p.kind=1 then jn c p.a else if p.kind=2 then jo c p.a else if p.kind=3 then iS c p.a
 else if p.kind=4 then jM c p.a p.b else if p.kind=5 then jq c p.a p.b else if p.kind=6 then ij c p.a
 else if p.kind=7 then jN c p.a else (c,false)
end Go.Proofs.YtdchjefneblpgaaGreat
namespace Go.Proofs.YtdchjefneblpgaaGreat
open Go.Sx Go.RowKit Go.Proofs.Tryz
section
variable {α : Type}
theorem L2{p:α->Bool}{xs:List α}{i:Nat}{x:α}(h:xs.any p=false)(hi:i<xs.length):(xs.set i x).any p=p x:=by
 cases aa:p x with
 | true=>exact l9.2 ⟨x,List.mem_iff_getElem.2 ⟨i,by simpa using hi,by simp⟩,aa⟩
 | false=>
  rw[ff]at h ⊢;intro a ad;rcases h8 ad with h1 | rfl
  ·exact h a h1
  simp[aa]
theorem Uo{p:Nat->α->Bool}{x:α}:∀{xs:List α} {k i:Nat},anyI p k xs=false->i<xs.length->anyI p k (xs.set i x)=p (k+i) x
 | [],_,_,_,h=>by simp at h
 | a::xs,k,0,h,_=>by
  simp only[anyI,fR]at h;simp only[List.set_cons_zero,anyI,h.2,Bool.or_false,nj]
 | a::xs,k,i+1,h,hi=>by
  simp only[anyI,fR]at h;simp only[List.set_cons_succ,anyI,h.1,jY];rw[Uo h.2 (by simpa using hi),show k+1+i=k+(i+1) by omega]
theorem zg{p:Nat->α->Bool}{xs:List α}(h:∀i a,xs[i]?=some a->p i a=false):anyI p 0 xs=false:=by
 cases aa:anyI p 0 xs with
 | false=>rfl
 | true=>
  obtain⟨i,a,h1,U,_⟩:=KG aa;rw[dq,h i a h1]at U;cases U
theorem xG{p:Nat->α->Bool}{xs:List α}(h:anyI p 0 xs=false){i:Nat}{a:α}(ad:xs[i]?=some a):p i a=false:=by
 have:=BW h i a ad;rwa[dq]at this
end
variable{c:aU}
theorem e7:cq c=true<->eo c.ay=true/\(c.aq.length:Int)=c.ay.aq/\(c.bK.length:Int)=c.ay.aq*c.ay.aq/\c.tokens.length=4/\(c.aq.any fun w=>!e6 c.ay w)=false/\anyI (kz c.ay) 0 c.bK=false/\c.tokens.any (lM c.ay.aq)=false/\c.news.any (lN c.ay.aq)=false:=by
 simp only[cq,b8,gy,dp]
variable{i:Int}
theorem eK{x:aL}(h:b3 c i=some x):0<=i/\i.toNat<c.aq.length/\c.aq[i.toNat]?=some x:=by
 unfold b3 at h;split at h
 ·exact⟨‹_›,aX h,h⟩
 cases h
variable{x:bt}
theorem iT(h:eB c i=some x):0<=i/\i.toNat<c.bK.length/\c.bK[i.toNat]?=some x:=by
 unfold eB at h;split at h
 ·exact⟨‹_›,aX h,h⟩
 cases h
theorem xH{x:bQ}(h:hE c i=some x):0<=i/\i.toNat<c.tokens.length/\c.tokens[i.toNat]?=some x:=by
 unfold hE at h;split at h
 ·exact⟨‹_›,aX h,h⟩
 cases h
theorem vC{x y:aL}(h:cq c=true)(bn:b3 c i=some y):cq (setW c i x)=e6 c.ay x:=by
 obtain⟨h1,U,ax,aF,aQ,bb,bN,dj⟩:=e7.1 h;have hi:=(eK bn).2.1;simp only[cq,setW,fN,L2 aQ hi,h1,U,ax,aF,bb,bN,dj,ya,oL,uu,oM,Bool.not_not]
theorem L3{y:bt}(h:cq c=true)(bn:eB c i=some y):cq (db c i x)=!kz c.ay i.toNat x:=by
 obtain⟨h1,U,ax,aF,aQ,bb,bN,dj⟩:=e7.1 h;have hi:=(iT bn).2.1;simp only[cq,db,fN,Uo bb hi,dq,h1,U,ax,aF,aQ,bN,dj,ya,oL,uu,oM]
theorem afk{x y:bQ}(h:cq c=true)(bn:hE c i=some y):cq (cM c i x)=!lM c.ay.aq x:=by
 obtain⟨h1,U,ax,aF,aQ,bb,bN,dj⟩:=e7.1 h;have hi:=(xH bn).2.1;simp only[cq,cM,fN,L2 bN hi,h1,U,ax,aF,aQ,bb,dj,ya,oL,uu,oM]
theorem Up{x:List bT}(h:cq c=true):cq (hg c x)=!(x.any (lN c.ay.aq)):=by
 obtain⟨h1,U,ax,aF,aQ,bb,bN,dj⟩:=e7.1 h;simp only[cq,hg,h1,U,ax,aF,aQ,bb,bN,ya,oL,oM]
theorem jr{i:Int}{x:aL}(h:cq c=true)(aa:b3 c i=some x):e6 c.ay x=true:=by
 have aQ:=(e7.1 h).2.2.2.2.1;rw[ff]at aQ;simpa using aQ x (cG (eK aa).2.2)
theorem rr(h:cq c=true)(aa:eB c i=some x):kz c.ay i.toNat x=false:=
 xG (e7.1 h).2.2.2.2.2.1 (iT aa).2.2
theorem zh{x:bQ}(h:cq c=true)(aa:hE c i=some x):lM c.ay.aq x=false:=by
 have aQ:=(e7.1 h).2.2.2.2.2.2.1;rw[ff]at aQ;simpa using aQ x (cG (xH aa).2.2)
theorem tZ{x:aL}(aa:b3 c i=some x):setW c i x=c:=by
 obtain⟨_,U,ax⟩:=eK aa;have:c.aq.set i.toNat x=c.aq:=by
  rw[gz U]at ax;rw[<-eQ ax];exact List.set_getElem_self U
 unfold setW;rw[this]
theorem afl(aa:eB c i=some x):db c i x=c:=by
 obtain⟨_,U,ax⟩:=iT aa;have:c.bK.set i.toNat x=c.bK:=by
  rw[gz U]at ax;rw[<-eQ ax];exact List.set_getElem_self U
 unfold db;rw[this]
variable{g:b0}{w:aL}
theorem ik:e6 g w=true<->gu g w.queue=true/\gu g w.cp=true/\gu g w.bZ=true/\k0 w.cells=true/\w.bM.length=4/\w.bV.length=4/\w.bm.length=4/\anyI (mm w.bZ) 0 w.bZ=false/\w.bM.any oD=false/\anyI (l4 w.b1) 0 w.b1=false:=by
 simp only[e6,b8,gy,dp]
variable{r:aE}
theorem ru{q:List aE}:gu g (r::q)=true<->kj g r=false/\gu g q=true:=by
 simp only[gu,vY,gy,fR]
theorem L4{q:List aE}:gu g (q++[r])=true<->gu g q=true/\kj g r=false:=by
 simp only[gu,List.any_append,vY,List.any_nil,Bool.or_false,gy,fR]
theorem afm{t:List aE}(h:anyI (mm (r::t)) 0 (r::t)=false):anyI (mm t) 0 t=false:=by
 refine zg fun i a ad=>?_
 have k:=xG h (i:=i+1) (a:=a) (by simpa using ad);unfold mm at k ⊢;rw[fR]at k ⊢;refine⟨k.1,?_⟩;cases i with
 | zero=>rfl
 | succ j=>simpa using k.2
theorem afn{xs:List cD}{d:cD}(h:anyI (l4 xs) 0 xs=false)(h1:ap d.a7 0 3=true)(U:(xs.any fun q=>q.a7==d.a7)=false):anyI (l4 (xs++[d])) 0 (xs++[d])=false:=by
 refine zg fun i a ad=>?_
 by_cases hi:i<xs.length
 ·rw[x9 hi]at ad;have k:=xG h ad;unfold l4 at k ⊢;rw[Hv (by omega)];exact k
 have aj:=aX ad;simp only[k7,dJ,bY]at aj;have e:i=xs.length:=by omega
 subst e;rw[vT (dN _),Nat.sub_self]at ad;obtain rfl:d=a:=by simpa using ad
 unfold l4;rw[Hv (dN _),k6,h1,U];rfl
theorem afo(h:e6 g w=true)(az:kj g r=false):e6 g (kept w r)=true:=by
 obtain⟨h1,U⟩:=ik.1 h;exact ik.2 ⟨L4.2 ⟨h1,az⟩,U⟩
theorem Fa{t:List aE}(h:e6 g w=true)(ai:w.cp=r::t):e6 g (iB w t)=true/\kj g r=false:=by
 obtain⟨h1,U,ax⟩:=ik.1 h;rw[ai,ru]at U;exact⟨ik.2 ⟨h1,U.2,ax⟩,U.1⟩
variable{e:Int}
theorem afp(h:e6 g w=true):e6 g (er w e)=true:=by
 obtain⟨h1,U,ax,aF,aQ,bb,bN⟩:=ik.1 h;exact ik.2 ⟨h1,U,ax,aF,aQ,by simp only[er,fN];exact bb,bN⟩
theorem Uq{b:Bool}(h:e6 g w=true)(he:ap e 0 3=true)(aB:ew w e=false):e6 g (told w e b)=true:=by
 obtain⟨h1,U,ax,aF,aQ,bb,bN,dj,ej,dU⟩:=ik.1 h;exact ik.2 ⟨h1,U,ax,aF,aQ,bb,bN,dj,ej,afn dU he aB⟩
theorem afq{n:bT}(h:e6 g w=true)(he:ap n.a7 0 3=true):e6 g (ea w n)=true:=by
 unfold ea;cases aB:ew w n.a7 with
 | true=>exact h
 | false=>exact Uq h he aB
theorem Ur{e d:Int}{k:Nat}(h:e6 g w=true)(hk:e.toNat=k)(aF:k<4):(mO w.bM e d).length=4/\(mO w.bM e d).any oD=oD (w.bM.getD e.toNat 0+d):=by
 obtain⟨h1,U,ax,_,aQ,bb,bN,dj,ej,dU⟩:=ik.1 h;exact⟨by simp only[mO,fN];exact aQ,L2 ej (by omega)⟩
theorem sD{g:b0}(h:kj g r=false):0<=r.bh.a7/\r.bh.a7<=3:=by
 simp only[kj,eD,h3,ap,fR,jW,b8,b']at h;omega
theorem afr(h:e6 g w=true)(he:0<=e/\e<=3):e6 g (my w e)=ap (w.bM.getD e.toNat 0+1) (-1000000) 1000000:=by
 obtain⟨cy,bw⟩:=Ur (d:=1) h (e:=e) rfl (by omega);obtain⟨h1,U,ax,aF,aQ,bb,bN,dj,ej,dU⟩:=ik.1 h;simp only[e6,my,h1,U,ax,aF,cy,bb,bN,dj,dU,bw,oD,ya,oL,uu,oM,Bool.not_not]
theorem agT(h:e6 g w=true)(az:kj g r=false):e6 g (k1 w r)=ap (w.bM.getD r.bh.a7.toNat 0+-1) (-1000000) 1000000:=by
 have he:=sD az;obtain⟨cy,bw⟩:=Ur (d:=-1) h (e:=r.bh.a7) rfl (by omega);obtain⟨h1,U,ax,aF,aQ,bb,bN,dj,ej,dU⟩:=ik.1 h;have aA:=L4.2 ⟨h1,az⟩;simp only[e6,k1,aA,U,ax,aF,cy,fN,bb,bN,dj,dU,bw,oD,ya,oL,uu,oM,Bool.not_not]
theorem agU(h:e6 g w=true):e6 g (gK g w).1=true:=by
 unfold gK;split
 ·split
  ·rename_i r t h1 U ax;obtain⟨_,_,fc,mP,kb,pa,kU,pb,tG,JL⟩:=ik.1 h;rw[ax]at fc pb;exact ik.2 ⟨ru.2 ⟨(ru.1 fc).1,rfl⟩,rfl,(ru.1 fc).2,mP,kb,pa,kU,afm pb,tG,JL⟩
  exact h
 exact h
theorem agV:∀{xs:List Cell},k0 xs=true->∀i a b,xs[i]?=some a->xs[i+1]?=some b->iO a b<0:=by
 intro xs h i a b h1 U;simp only[k0,gy,ff]at h;have hm:(a,b)∈xs.zip (xs.drop 1):=by
  refine cG (i:=i) ?_;rw[List.getElem?_zip_eq_some];exact⟨h1,by rw[gU,Nat.add_comm];exact U⟩
 have:=h _ hm;simp only[FG,b']at this;omega
def vD(a:Cell):List Int:=[a.a7,a.op,a.key,a.val]
theorem Us(a b:Cell):iO a b=qB (vD a) (vD b):=rfl
theorem L5{a b c:Cell}(h1:iO a b<0)(U:iO b c<0):iO a c<0:=by
 rw[Us] at*;exact Tq (vD a) (vD b) (vD c) rfl rfl h1 U
theorem agW{a b:Cell}(h1:¬iO a b<0)(U:a≠b):iO b a<0:=by
 rw[Us] at*;refine Classical.byContradiction fun h=>U ?_
 have:=Tr (vD a) (vD b) rfl h1 h;simp only[vD,sT,and_true]at this;obtain⟨hG,gd,jw,uo⟩:=this;cases a;cases b;simp only[Cell.mk.injEq];exact⟨gd,hG,jw,uo⟩
theorem Ut:∀{xs:List Cell},k0 xs=true->xs.Pairwise fun a b=>iO a b<0
 | [],_=>List.Pairwise.nil
 | [a],_=>List.pairwise_singleton _ a
 | a::b::xs,h=>by
  have bq:k0 (b::xs)=true:=by
   simp only[k0,List.drop_succ_cons,sV,List.zip_cons_cons,vY,Bool.not_or,b8]at h ⊢;exact h.2
  have ai:=Ut bq;have dD:=agV h 0 a b rfl rfl;refine List.Pairwise.cons (fun c af=>?_) ai;rcases et.1 af with rfl | af
  ·exact dD
  exact L5 dD ((List.pairwise_cons.1 ai).1 c af)
variable{xs:List Cell}
theorem Uu(h:xs.Pairwise fun a b=>iO a b<0):k0 xs=true:=by
 simp only[k0,gy,ff];rintro⟨a,b⟩ hp;obtain⟨i,hi⟩:=List.getElem?_of_mem hp;obtain⟨h1,U⟩:=Cn hi;have aP:=aX U;have:=List.pairwise_iff_getElem.1 h i (i+1) (by omega) aP (by omega);rw[gz (by omega)]at h1 U;rw[eQ h1,eQ U]at this;replace this:iO a b<0:=this;show ¬decide (iO a b>=0)=true;simp only[b'];omega
theorem Uv(x:Cell)(h:xs.Pairwise fun a b=>iO a b<0):(ky xs x).Pairwise fun a b=>iO a b<0:=by
 unfold ky;split
 ·exact h
 rename_i ht;have aa:∀a∈xs,a≠x:=by
  intro a ad e;exact ht (l9.2 ⟨a,ad,by simp[e]⟩)
 have ao:∀i a,xs[i]?=some a->i<mx xs x->iO a x<0:=by
  intro i a ad hi;unfold mx at hi;cases bg:xs.findIdx? (fun a=>!decide (iO a x<0)) with
  | none=>
   rw[Dq]at bg;simpa using bg a (cG ad)
  | some k=>
   rw[bg]at hi;simp only[jx]at hi;rw[uq]at bg;obtain⟨hk,_,ax⟩:=bg;have:=ax i hi;rw[gz (by omega)]at ad;rw[eQ ad]at this;simpa using this
 have ad:∀i a,xs[i]?=some a->mx xs x<=i->iO x a<0:=by
  intro i a ad hi;have hk:mx xs x<xs.length:=by have:=aX ad;omega
  obtain⟨b,gC⟩:=dm hk;have bl:¬iO b x<0:=by
   unfold mx at gC hk;cases bg:xs.findIdx? (fun a=>!decide (iO a x<0)) with
   | none=>rw[bg]at hk;simp at hk
   | some k=>
    rw[bg]at gC;simp only[jx]at gC;rw[uq]at bg;obtain⟨q2,U,_⟩:=bg;rw[gz q2]at gC;rw[eQ gC]at U;simpa using U
  have P1:=agW bl (aa b (cG gC));rcases Nat.lt_or_eq_of_le hi with bu | heq
  ·have aP:=aX ad;have:=List.pairwise_iff_getElem.1 h (mx xs x) i hk aP bu;rw[gz hk]at gC;rw[gz aP]at ad;rw[eQ gC,eQ ad]at this;exact L5 P1 this
  rw[heq,ad]at gC;rw[eQ gC];exact P1
 rw[List.pairwise_append];refine⟨h.sublist (List.take_sublist _ _),List.Pairwise.cons (fun c af=>?_) (h.sublist (List.drop_sublist _ _)),fun a Im c af=>?_⟩
 ·obtain⟨i,hi⟩:=List.getElem?_of_mem af;rw[gU]at hi;exact ad _ _ hi (by omega)
 obtain⟨i,hi⟩:=List.getElem?_of_mem Im;rw[hj]at hi;split at hi
 ·rename_i bu;have h1:=ao i a hi bu;rcases et.1 af with rfl | af
  ·exact h1
  obtain⟨j,aP⟩:=List.getElem?_of_mem af;rw[gU]at aP;exact L5 h1 (ad _ _ aP (by omega))
 cases hi
theorem agX(kind:Int)(x:Cell)(h:k0 xs=true):k0 (ct kind xs x).1=true:=by
 have ai:=Ut h;have h1:=Uu (Uv x ai);have U:=Uu (Uv x (ai.sublist (List.filter_sublist (p:=fun a=>!eO x a))));unfold ct;split
 ·split
  ·exact h
  exact h1
 split
 ·unfold h4;split
  ·exact h
  exact U
 exact h
theorem agY{cs:List Cell}(r:aE)(h:k0 cs=true):k0 (dW g cs r).1=true:=by
 unfold dW;cases fK g r.op with
 | none=>exact h
 | some x=>
  have az:=agX x.kind ⟨r.op,r.bh.a7,r.key,r.val⟩ h;simp only[dS];split
  ·split
   ·exact h
   split
   ·exact az
   split
   ·exact az
   exact az
  exact h
theorem agZ{x:Node}{k v:Int}(aa:aH x=true)(hi:fm k v=true):fm (cC x k v).1 (cC x k v).2.1=true:=by
 have ml:=aa;simp only[aH,b8]at aa;have ad:=aa.1.1.1.1;have lV:=hi;simp only[fm,ap,b8,b']at hi;unfold cC;rw[ml,lV,Bool.and_self,aZ rfl];unfold bO at ad;split
 ·rename_i U;rw[aZ U]at ad;simp only[ap,b8,b']at ad;have aj:0<=less (v+x.a) 999/\less (v+x.a) 999<=999:=by unfold less;split<;>omega
  simp only[fm,ap,b8,b'];omega
 rename_i U;rw[a6 U]at ad;split
 ·rename_i aF;rw[a6 (by omega),aZ aF]at ad;simp only[ap,b8,b']at ad;simp only[fm,ap,b8,b'];rw[Int.tmod_eq_emod_of_nonneg (by omega)];omega
 split
 ·exact lV
 exact lV
theorem ag0(h:eo g=true){op:Int}{x:Node}(aK:fK g op=some x):jL g op.toNat x=false:=by
 simp only[eo,b8,gy]at h;unfold fK at aK;split at aK
 ·exact xG h.2 aK
 cases aK
theorem Uw(h:eo g=true){op:Int}{x:Node}(aK:fK g op=some x){s:hT}{k v:Int}(ai:h3 s=true)(hi:fm k v=true):gu g (e3 x s k v)=true:=by
 have ao:=ag0 h aK;have aa:=MC h aK;simp only[aH,b8]at aa;simp only[jL,fR]at ao;have he:=ao.2;rw[ff]at he;simp only[gu,e3,List.any_map,gy,ff];intro o aN;have h1:=MA aa.2 aN;have U:=he o aN;simp only[gR,ni,not_or,b']at U;simp only[Function.comp,kj,eD,h1,ai,hi,Bool.and_self,iu,jY,b'];omega
theorem ag1{cs:List Cell}:gu g (dW g cs r).2.1=true:=by
 unfold dW;cases aK:fK g r.op with
 | none=>rfl
 | some x=>
  simp only[dS];split
  ·rename_i ar;rw[b8]at ar;obtain⟨ar,az⟩:=ar;have ek:=az;simp only[eD,b8]at az;have af:=agZ (MC ar aK) az.2;split
   ·rfl
   split
   ·rfl
   split
   ·cases bq:(eS r.bh).2 with
    | false=>rfl
    | true=>
     refine Uw ar aK ?_ af;unfold eS at bq ⊢;split
     ·rename_i h1;simp only[b8,h3,ap,b']at h1 ⊢;omega
     rename_i h1;rw[a6 h1]at bq;cases bq
   exact Uw ar aK az.1.2 af
  rfl
theorem ag2(h:e6 g w=true):e6 g (gJ g w).1=true:=by
 unfold gJ;split
 ·split
  ·rename_i r q h1 U;obtain⟨cy,bw,fc,mP,kb,pa,kU,pb,tG,JL⟩:=ik.1 h;rw[U,ru]at cy;refine ik.2 ⟨cy.2,ag1,fc,agY r mP,kb,pa,?_,pb,tG,JL⟩;split
   ·rw[fN];exact kU
   exact kU
  exact h
 exact h
