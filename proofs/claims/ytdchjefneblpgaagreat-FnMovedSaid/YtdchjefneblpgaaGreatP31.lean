import Derived.Test.YtdchjefneblpgaaGreatP43
set_option linter.unusedVariables false
set_option linter.unusedSimpArgs false
namespace Go.Proofs.YtdchjefneblpgaaGreat
open Go.Sx Go.RowKit Go.Proofs.Tryz
variable{c:bb}
theorem nj(h:c.sz<=8388608):c.aF.sz<=8388608:=by simp only[bb.sz]at h;omega
theorem Sl(h:c.sz<=8388608):c.tokens.length<=8388608:=by simp only[bb.sz,eZ]at h;omega
theorem D0(h:c.sz<=8388608):c.news.length<=8388608:=by simp only[bb.sz,eZ]at h;omega
def ja(g:b1)(i:Nat)(l:bt):Bool:=
 !ie l||((l.cap != g.cap)||(!fI g l.queue||((i:Int).tdiv g.ay==(i:Int).tmod g.ay&&decide ((l.queue.length:Int)>0))))
def ku(n:Int)(t:b2):Bool:=!ap t.place 0 (n-1)||((!t.going&&t.place != 0)||!ap t.sum (-1000000) 1000000)
def kv(n:Int)(x:cb):Bool:=!ap x.dest 0 (n-1)||!ap x.bf 0 3
def cL(c:bb):Bool:=
 eA c.aF&&(((c.ay.length:Int)==c.aF.ay)&&(((c.bV.length:Int)==c.aF.ay*c.aF.ay)&&((c.tokens.length==4)&&(!(c.ay.any fun w=>!eJ c.aF w)&&(!(anyI (ja c.aF) 0 c.bV)&&(!(c.tokens.any (ku c.aF.ay))&&!(c.news.any (kv c.aF.ay))))))))
theorem lm{g:b1}(h:eA g=true):1<=g.ay/\g.ay<=4:=by
 simp only[eA,cq,ap,cK]at h;omega
theorem xN(i:Nat)(n:Int)(hi:i<=8388608)(aT:1<=n):az .i64 ((i:Int).tdiv n):=by
 have h1:0<=(i:Int).tdiv n:=Int.tdiv_nonneg (by omega) (by omega);have U:(i:Int).tdiv n<=(i:Int):=Int.tdiv_le_self _ (by omega);exact⟨by omega,by omega⟩
theorem abX(h:c.wf){l:bt}(ak:l∈c.bV):l.c5<=9223372036854775807:=by
 have:=(bb.Hz h ak).M3;simp only[az]at this;exact this.2
def fw(c:bb):Prop:=∀l∈c.bV,l.c5<=9223372036854775807
theorem fw.of(h:c.wf):fw c:=fun _ ak=>abX h ak
theorem abY(c:bb)(ah:c.sz<=8388608)(aT:(c.ay.length:Int)=c.aF.ay):
  ((c.ay.any fun w=>!eJ c.aF w)=false/\c0 prog (ar f56 0) (r7 (c.aF.nodes.map Node.e) c.aF.ay c.aF.cap (c.ay.map aP.e) (c.bV.map bt.e) (c.tokens.map b2.e) (c.news.map cb.e) 0) (.exit 0) (HP (c.aF.nodes.map Node.e) c.aF.ay c.aF.cap (c.ay.map aP.e) (c.bV.map bt.e) (c.tokens.map b2.e) (c.news.map cb.e)))\/
  ((c.ay.any fun w=>!eJ c.aF w)=true/\c0 prog (ar f56 0) (r7 (c.aF.nodes.map Node.e) c.aF.ay c.aF.cap (c.ay.map aP.e) (c.bV.map bt.e) (c.tokens.map b2.e) (c.news.map cb.e) 0) .ret (CR false)):=by
 have ak:=bb.x3 ah;have l:=hh (P:=prog) (c:=(ar f56 0)) c.ay (fun w=>!eJ c.aF w) (fun i=>r7 (c.aF.nodes.map Node.e) c.aF.ay c.aF.cap (c.ay.map aP.e) (c.bV.map bt.e) (c.tokens.map b2.e) (c.news.map cb.e) i) (X:=fun _ _=>CR false) fi (cM 0)
  (fun i a aj h=>by
   have k:=Ee c.aF a (nj ah) (bb.Ez ah (eX aj));rw[show eJ c.aF a=true by simpa using h]at k;exact aae ⟨dZ (by have:=a6 aj;omega),bG,bL (a6 aj),bF aP.e aj,k,rfl,dw (a6 aj) ak,aa⟩)
  (fun i a aj h=>by
   have k:=Ee c.aF a (nj ah) (bb.Ez ah (eX aj));rw[show eJ c.aF a=false by simpa using h]at k;exact aad ⟨dZ (by have:=a6 aj;omega),bG,bL (a6 aj),bF aP.e aj,k,rfl,aa⟩)
  (aaf ⟨eD (by omega),aa⟩)
 rcases l with⟨_,_,h1,U⟩ | ⟨_,_,_,_,_,_,h1,U⟩
 ·exact .inl ⟨h1,U⟩
 exact .inr ⟨h1,U⟩
theorem abZ(c:bb)(ah:c.sz<=8388608)(hw:fw c)(aT:1<=c.aF.ay):
  (anyI (ja c.aF) 0 c.bV=false/\c0 prog (ar f56 1) (lk c.aF.ay 0 (c.aF.nodes.map Node.e) c.aF.ay c.aF.cap (c.ay.map aP.e) (c.bV.map bt.e) (c.tokens.map b2.e) (c.news.map cb.e)) (.exit 2) (AA c.aF.ay (c.aF.nodes.map Node.e) c.aF.ay c.aF.cap (c.ay.map aP.e) (c.bV.map bt.e) (c.tokens.map b2.e) (c.news.map cb.e)))\/
  (anyI (ja c.aF) 0 c.bV=true/\c0 prog (ar f56 1) (lk c.aF.ay 0 (c.aF.nodes.map Node.e) c.aF.ay c.aF.cap (c.ay.map aP.e) (c.bV.map bt.e) (c.tokens.map b2.e) (c.news.map cb.e)) .ret (xL false)):=by
 have ak:=bb.zl ah;have lP:∀(i:Nat) (a:bt),c.bV[i]?=some a->∀r,ie a=r->av 191 [.agg a.e] [.one (B r)]:=fun i a aj r h=>h▸DZ a (bb.Cq ah (eX aj))
 have gF:∀(i:Nat) (a:bt),c.bV[i]?=some a->∀r,fI c.aF a.queue=r->av 192 [.agg c.aF.e,.one (.J 5 (a.queue.map aA.e))] [.one (B r)]:=fun i a aj r h=>vr c.aF _ r h (nj ah) (bb.Cq ah (eX aj))
 exact tG (P:=prog) (c:=(ar f56 1)) c.bV (ja c.aF) (fun i=>lk c.aF.ay i (c.aF.nodes.map Node.e) c.aF.ay c.aF.cap (c.ay.map aP.e) (c.bV.map bt.e) (c.tokens.map b2.e) (c.news.map cb.e)) fi (cM 2)
  (fun i a aj h=>by
   have hi:=a6 aj;simp only[ja,gq,kD]at h;obtain⟨h1,U,ax,aK⟩:=h;cases aV:((i:Int).tdiv c.aF.ay==(i:Int).tmod c.aF.ay) with
   | true=>
    rw[aV,o9]at aK;exact ZL ⟨cf (a6 aj),bG,bL (a6 aj),bF bt.e aj,lP i a aj _ h1,rfl,U,gF i a aj _ ax,rfl,by omega,xN i _ (by omega) aT,by omega,aV,by rw[bm];exact aK,dw hi ak,aa⟩
   | false=>exact ZM ⟨cf (a6 aj),bG,bL (a6 aj),bF bt.e aj,lP i a aj _ h1,rfl,U,gF i a aj _ ax,rfl,by omega,xN i _ (by omega) aT,by omega,aV,dw hi ak,aa⟩)
  (fun i a aj h=>by
   have hi:=a6 aj;cases h1:ie a with
   | false=>exact aah ⟨cf (a6 aj),bG,bL (a6 aj),bF bt.e aj,lP i a aj _ h1,rfl,aa⟩
   | true=>
   cases U:(a.cap != c.aF.cap) with
   | true=>exact aai ⟨cf (a6 aj),bG,bL (a6 aj),bF bt.e aj,lP i a aj _ h1,rfl,U,aa⟩
   | false=>
   cases ax:fI c.aF a.queue with
   | false=>exact ZJ ⟨cf (a6 aj),bG,bL (a6 aj),bF bt.e aj,lP i a aj _ h1,rfl,U,gF i a aj _ ax,rfl,aa⟩
   | true=>
   simp only[ja,h1,U,ax,jJ,jL,cq]at h;exact ZK ⟨cf (a6 aj),bG,bL (a6 aj),bF bt.e aj,lP i a aj _ h1,rfl,U,gF i a aj _ ax,rfl,by omega,xN i _ (by omega) aT,by omega,h.1,by rw[bm];exact h.2,aa⟩)
  (ZN ⟨dU,aa⟩)
theorem ab0(c:bb)(ah:c.sz<=8388608)(aT:1<=c.aF.ay/\c.aF.ay<=4):
  ((c.tokens.any (ku c.aF.ay))=false/\c0 prog (ar f56 2) (lY c.aF.ay (c.aF.nodes.map Node.e) c.aF.ay c.aF.cap (c.ay.map aP.e) (c.bV.map bt.e) (c.tokens.map b2.e) (c.news.map cb.e) 0) (.exit 4) (CS c.aF.ay (c.aF.nodes.map Node.e) c.aF.ay c.aF.cap (c.ay.map aP.e) (c.bV.map bt.e) (c.tokens.map b2.e) (c.news.map cb.e)))\/
  ((c.tokens.any (ku c.aF.ay))=true/\c0 prog (ar f56 2) (lY c.aF.ay (c.aF.nodes.map Node.e) c.aF.ay c.aF.cap (c.ay.map aP.e) (c.bV.map bt.e) (c.tokens.map b2.e) (c.news.map cb.e) 0) .ret (vk false)):=by
 have ak:=Sl ah;have l:=hh (P:=prog) (c:=(ar f56 2)) c.tokens (ku c.aF.ay) (fun i=>lY c.aF.ay (c.aF.nodes.map Node.e) c.aF.ay c.aF.cap (c.ay.map aP.e) (c.bV.map bt.e) (c.tokens.map b2.e) (c.news.map cb.e) i) (X:=fun _ _=>vk false) fi (cM 4)
  (fun i a aj h=>by
   have hi:=a6 aj;simp only[ku,gq,kD]at h;obtain⟨h1,U,ax⟩:=h;cases au:a.going with
   | false=>
    rw[au,o8,o9]at U;exact ZS ⟨cf (a6 aj),bG,bL (a6 aj),bF b2.e aj,⟨by omega,by omega⟩,fu true h1,rfl,bG,bL (a6 aj),bF b2.e aj,by rw[au];rfl,bG,bL (a6 aj),bF b2.e aj,U,bG,bL (a6 aj),bF b2.e aj,fu true ax,rfl,dw hi ak,aa⟩
   | true=>exact abl ⟨cf (a6 aj),bG,bL (a6 aj),bF b2.e aj,⟨by omega,by omega⟩,fu true h1,rfl,bG,bL (a6 aj),bF b2.e aj,by rw[au];rfl,bG,bL (a6 aj),bF b2.e aj,fu true ax,rfl,dw hi ak,aa⟩)
  (fun i a aj h=>by
   have hi:=a6 aj;cases h1:ap a.place 0 (c.aF.ay-1) with
   | false=>exact ZP ⟨cf (a6 aj),bG,bL (a6 aj),bF b2.e aj,⟨by omega,by omega⟩,fu false h1,rfl,aa⟩
   | true=>
   simp only[ku,h1,jJ,jL]at h;cases au:a.going with
   | false=>
    rw[au,o8,o9]at h;cases U:(a.place != 0) with
    | true=>exact ZQ ⟨cf (a6 aj),bG,bL (a6 aj),bF b2.e aj,⟨by omega,by omega⟩,fu true h1,rfl,bG,bL (a6 aj),bF b2.e aj,by rw[au];rfl,bG,bL (a6 aj),bF b2.e aj,U,aa⟩
    | false=>
     rw[U,jL]at h;exact ZR ⟨cf (a6 aj),bG,bL (a6 aj),bF b2.e aj,⟨by omega,by omega⟩,fu true h1,rfl,bG,bL (a6 aj),bF b2.e aj,by rw[au];rfl,bG,bL (a6 aj),bF b2.e aj,U,bG,bL (a6 aj),bF b2.e aj,fu false (by simpa using h),rfl,aa⟩
   | true=>
    rw[au,jJ,Bool.false_and,jL]at h;exact abk ⟨cf (a6 aj),bG,bL (a6 aj),bF b2.e aj,⟨by omega,by omega⟩,fu true h1,rfl,bG,bL (a6 aj),bF b2.e aj,by rw[au];rfl,bG,bL (a6 aj),bF b2.e aj,fu false (by simpa using h),rfl,aa⟩)
  (abm ⟨dU,aa⟩)
 rcases l with⟨_,_,h1,U⟩ | ⟨_,_,_,_,_,_,h1,U⟩
 ·exact .inl ⟨h1,U⟩
 exact .inr ⟨h1,U⟩
theorem ab1(c:bb)(ah:c.sz<=8388608)(aT:1<=c.aF.ay/\c.aF.ay<=4):
  ((c.news.any (kv c.aF.ay))=false/\c0 prog (ar f56 3) (qT c.aF.ay (c.aF.nodes.map Node.e) c.aF.ay c.aF.cap (c.ay.map aP.e) (c.bV.map bt.e) (c.tokens.map b2.e) (c.news.map cb.e) 0) (.exit 6) JU)\/
  ((c.news.any (kv c.aF.ay))=true/\c0 prog (ar f56 3) (qT c.aF.ay (c.aF.nodes.map Node.e) c.aF.ay c.aF.cap (c.ay.map aP.e) (c.bV.map bt.e) (c.tokens.map b2.e) (c.news.map cb.e) 0) .ret (AB false)):=by
 have ak:=D0 ah;have l:=hh (P:=prog) (c:=(ar f56 3)) c.news (kv c.aF.ay) (fun i=>qT c.aF.ay (c.aF.nodes.map Node.e) c.aF.ay c.aF.cap (c.ay.map aP.e) (c.bV.map bt.e) (c.tokens.map b2.e) (c.news.map cb.e) i) (X:=fun _ _=>AB false) fi (cM 6)
  (fun i a aj h=>by
   have hi:=a6 aj;simp only[kv,gq,kD]at h;exact abq ⟨cf (a6 aj),bG,bL (a6 aj),bF cb.e aj,⟨by omega,by omega⟩,fu true h.1,rfl,bG,bL (a6 aj),bF cb.e aj,fu true h.2,rfl,dw hi ak,aa⟩)
  (fun i a aj h=>by
   have hi:=a6 aj;cases h1:ap a.dest 0 (c.aF.ay-1) with
   | false=>exact abo ⟨cf (a6 aj),bG,bL (a6 aj),bF cb.e aj,⟨by omega,by omega⟩,fu false h1,rfl,aa⟩
   | true=>
    simp only[kv,h1,jJ,jL]at h;exact abp ⟨cf (a6 aj),bG,bL (a6 aj),bF cb.e aj,⟨by omega,by omega⟩,fu true h1,rfl,bG,bL (a6 aj),bF cb.e aj,fu false (by simpa using h),rfl,aa⟩)
  (abr ⟨dU,aa⟩)
 rcases l with⟨_,_,h1,U⟩ | ⟨_,_,_,_,_,_,h1,U⟩
 ·exact .inl ⟨h1,U⟩
 exact .inr ⟨h1,U⟩
theorem ab2(c:bb)(ah:c.sz<=8388608)(hw:fw c):av 56 [.agg c.e] [.one (B (cL c))]:=by
 have au:=xK c.aF (nj ah);unfold cL;cases h1:eA c.aF with
 | false=>rw[h1]at au;exact Z9 ⟨au,rfl,aa⟩
 | true=>
 rw[h1]at au;have aT:=lm h1;have aC:az .i64 (c.aF.ay*c.aF.ay):=by
  have ax:c.aF.ay=1\/c.aF.ay=2\/c.aF.ay=3\/c.aF.ay=4:=by omega
  rcases ax with ax | ax | ax | ax<;>(rw[ax];exact⟨by decide,by decide⟩)
 cases U:((c.ay.length:Int)==c.aF.ay) with
 | false=>exact Z' ⟨au,rfl,by rw[bm];simpa using U,aa⟩
 | true=>
 have v2:((↑(c.ay.map aP.e).length:Int) != c.aF.ay)=false:=by rw[bm];simpa using U
 cases ax:((c.bV.length:Int)==c.aF.ay*c.aF.ay) with
 | false=>exact aab ⟨au,rfl,v2,aC,by rw[bm];simpa using ax,aa⟩
 | true=>
 have v3:((↑(c.bV.map bt.e).length:Int) != c.aF.ay*c.aF.ay)=false:=by rw[bm];simpa using ax
 cases aK:(c.tokens.length==4) with
 | false=>exact aac ⟨au,rfl,v2,aC,v3,s8 aK,aa⟩
 | true=>
 rcases abY c ah (eq_of_beq U) with⟨aV,nD⟩ | ⟨aV,nD⟩
 case inr=>rw[aV];exact aag ⟨au,rfl,v2,aC,v3,fx aK,nD,aa⟩
 rw[aV];rcases abZ c ah hw aT.1 with⟨bw,pN⟩ | ⟨bw,pN⟩
 case inr=>rw[bw];exact ZO ⟨au,rfl,v2,aC,v3,fx aK,nD,pN,aa⟩
 rw[bw];rcases ab0 c ah aT with⟨bX,r2⟩ | ⟨bX,r2⟩
 case inr=>rw[bX];exact abn ⟨au,rfl,v2,aC,v3,fx aK,nD,pN,r2,aa⟩
 rw[bX];rcases ab1 c ah aT with⟨c8,iW⟩ | ⟨c8,iW⟩
 ·rw[c8];exact abu ⟨au,rfl,v2,aC,v3,fx aK,nD,pN,r2,iW,aa⟩
 rw[c8];exact abt ⟨au,rfl,v2,aC,v3,fx aK,nD,pN,r2,iW,aa⟩
theorem ab3(c:bb)(ah:c.sz<=8388608)(aT:(c.ay.length:Int)=c.aF.ay):
  ((c.ay.any fun w=>!eJ c.aF w)=false/\c0 prog (ar f55 0) (r8 c.aF.ay (c.ay.map aP.e) 0 (c.aF.nodes.map Node.e) c.aF.ay c.aF.cap (c.ay.map aP.e) (c.bV.map bt.e) (c.tokens.map b2.e) (c.news.map cb.e)) (.exit 0) (HQ c.aF.ay (c.aF.nodes.map Node.e) c.aF.ay c.aF.cap (c.ay.map aP.e) (c.bV.map bt.e) (c.tokens.map b2.e) (c.news.map cb.e)))\/
  ((c.ay.any fun w=>!eJ c.aF w)=true/\c0 prog (ar f55 0) (r8 c.aF.ay (c.ay.map aP.e) 0 (c.aF.nodes.map Node.e) c.aF.ay c.aF.cap (c.ay.map aP.e) (c.bV.map bt.e) (c.tokens.map b2.e) (c.news.map cb.e)) .ret (CT false)):=by
 have ak:=bb.x3 ah;have l:=hh (P:=prog) (c:=(ar f55 0)) c.ay (fun w=>!eJ c.aF w) (fun i=>r8 c.aF.ay (c.ay.map aP.e) i (c.aF.nodes.map Node.e) c.aF.ay c.aF.cap (c.ay.map aP.e) (c.bV.map bt.e) (c.tokens.map b2.e) (c.news.map cb.e)) (X:=fun _ _=>CT false) fi (cM 0)
  (fun i a aj h=>by
   have k:=KW c.aF a (nj ah) (bb.Ez ah (eX aj));rw[show eJ c.aF a=true by simpa using h]at k;exact abA ⟨cf (a6 aj),bG,bL (a6 aj),bF aP.e aj,k,rfl,dw (a6 aj) ak,aa⟩)
  (fun i a aj h=>by
   have k:=KW c.aF a (nj ah) (bb.Ez ah (eX aj));rw[show eJ c.aF a=false by simpa using h]at k;exact abz ⟨cf (a6 aj),bG,bL (a6 aj),bF aP.e aj,k,rfl,aa⟩)
  (abB ⟨dU,aa⟩)
 rcases l with⟨_,_,h1,U⟩ | ⟨_,_,_,_,_,_,h1,U⟩
 ·exact .inl ⟨h1,U⟩
 exact .inr ⟨h1,U⟩
theorem ab4(c:bb)(ah:c.sz<=8388608)(hw:fw c)(aT:1<=c.aF.ay):
  (anyI (ja c.aF) 0 c.bV=false/\c0 prog (ar f55 1) (ll c.aF.ay (c.bV.map bt.e) 0 (c.aF.nodes.map Node.e) c.aF.ay c.aF.cap (c.ay.map aP.e) (c.bV.map bt.e) (c.tokens.map b2.e) (c.news.map cb.e)) (.exit 2) (AD c.aF.ay (c.aF.nodes.map Node.e) c.aF.ay c.aF.cap (c.ay.map aP.e) (c.bV.map bt.e) (c.tokens.map b2.e) (c.news.map cb.e)))\/
  (anyI (ja c.aF) 0 c.bV=true/\c0 prog (ar f55 1) (ll c.aF.ay (c.bV.map bt.e) 0 (c.aF.nodes.map Node.e) c.aF.ay c.aF.cap (c.ay.map aP.e) (c.bV.map bt.e) (c.tokens.map b2.e) (c.news.map cb.e)) .ret (xM false)):=by
 have ak:=bb.zl ah;have lP:∀(i:Nat) (a:bt),c.bV[i]?=some a->∀r,ie a=r->av 188 [.agg a.e] [.one (B r)]:=fun i a aj r h=>h▸DY a (bb.Cq ah (eX aj)) (hw _ (eX aj))
 have gF:∀(i:Nat) (a:bt),c.bV[i]?=some a->∀r,fI c.aF a.queue=r->av 189 [.agg c.aF.e,.one (.J 5 (a.queue.map aA.e))] [.one (B r)]:=fun i a aj r h=>vt c.aF _ r h (nj ah) (bb.Cq ah (eX aj))
 exact tG (P:=prog) (c:=(ar f55 1)) c.bV (ja c.aF) (fun i=>ll c.aF.ay (c.bV.map bt.e) i (c.aF.nodes.map Node.e) c.aF.ay c.aF.cap (c.ay.map aP.e) (c.bV.map bt.e) (c.tokens.map b2.e) (c.news.map cb.e)) fi (cM 2)
  (fun i a aj h=>by
   have hi:=a6 aj;simp only[ja,gq,kD]at h;obtain⟨h1,U,ax,aK⟩:=h;cases aV:((i:Int).tdiv c.aF.ay==(i:Int).tmod c.aF.ay) with
   | true=>
    rw[aV,o9]at aK;exact abH ⟨cf (a6 aj),bG,bL (a6 aj),bF bt.e aj,lP i a aj _ h1,rfl,U,gF i a aj _ ax,rfl,by omega,xN i _ (by omega) aT,by omega,aV,by rw[bm];exact aK,dw hi ak,aa⟩
   | false=>exact abI ⟨cf (a6 aj),bG,bL (a6 aj),bF bt.e aj,lP i a aj _ h1,rfl,U,gF i a aj _ ax,rfl,by omega,xN i _ (by omega) aT,by omega,aV,dw hi ak,aa⟩)
  (fun i a aj h=>by
   have hi:=a6 aj;cases h1:ie a with
   | false=>exact abD ⟨cf (a6 aj),bG,bL (a6 aj),bF bt.e aj,lP i a aj _ h1,rfl,aa⟩
   | true=>
   cases U:(a.cap != c.aF.cap) with
   | true=>exact abE ⟨cf (a6 aj),bG,bL (a6 aj),bF bt.e aj,lP i a aj _ h1,rfl,U,aa⟩
   | false=>
   cases ax:fI c.aF a.queue with
   | false=>exact abF ⟨cf (a6 aj),bG,bL (a6 aj),bF bt.e aj,lP i a aj _ h1,rfl,U,gF i a aj _ ax,rfl,aa⟩
   | true=>
   simp only[ja,h1,U,ax,jJ,jL,cq]at h;exact abG ⟨cf (a6 aj),bG,bL (a6 aj),bF bt.e aj,lP i a aj _ h1,rfl,U,gF i a aj _ ax,rfl,by omega,xN i _ (by omega) aT,by omega,h.1,by rw[bm];exact h.2,aa⟩)
  (abJ ⟨dU,aa⟩)
theorem ab5(c:bb)(ah:c.sz<=8388608)(aT:1<=c.aF.ay/\c.aF.ay<=4):
  ((c.tokens.any (ku c.aF.ay))=false/\c0 prog (ar f55 2) (lZ c.aF.ay (c.tokens.map b2.e) 0 (c.aF.nodes.map Node.e) c.aF.ay c.aF.cap (c.ay.map aP.e) (c.bV.map bt.e) (c.tokens.map b2.e) (c.news.map cb.e)) (.exit 4) (CU c.aF.ay (c.aF.nodes.map Node.e) c.aF.ay c.aF.cap (c.ay.map aP.e) (c.bV.map bt.e) (c.tokens.map b2.e) (c.news.map cb.e)))\/
  ((c.tokens.any (ku c.aF.ay))=true/\c0 prog (ar f55 2) (lZ c.aF.ay (c.tokens.map b2.e) 0 (c.aF.nodes.map Node.e) c.aF.ay c.aF.cap (c.ay.map aP.e) (c.bV.map bt.e) (c.tokens.map b2.e) (c.news.map cb.e)) .ret (vl false)):=by
 have ak:=Sl ah;have l:=hh (P:=prog) (c:=(ar f55 2)) c.tokens (ku c.aF.ay) (fun i=>lZ c.aF.ay (c.tokens.map b2.e) i (c.aF.nodes.map Node.e) c.aF.ay c.aF.cap (c.ay.map aP.e) (c.bV.map bt.e) (c.tokens.map b2.e) (c.news.map cb.e)) (X:=fun _ _=>vl false) fi (cM 4)
  (fun i a aj h=>by
   have hi:=a6 aj;simp only[ku,gq,kD]at h;obtain⟨h1,U,ax⟩:=h;cases au:a.going with
   | false=>
    rw[au,o8,o9]at U;exact aaW ⟨cf (a6 aj),bG,bL (a6 aj),bF b2.e aj,⟨by omega,by omega⟩,hS true h1,rfl,by rw[au];rfl,U,hS true ax,rfl,dw hi ak,aa⟩
   | true=>exact aaY ⟨cf (a6 aj),bG,bL (a6 aj),bF b2.e aj,⟨by omega,by omega⟩,hS true h1,rfl,by rw[au];rfl,hS true ax,rfl,dw hi ak,aa⟩)
  (fun i a aj h=>by
   have hi:=a6 aj;cases h1:ap a.place 0 (c.aF.ay-1) with
   | false=>exact aaT ⟨cf (a6 aj),bG,bL (a6 aj),bF b2.e aj,⟨by omega,by omega⟩,hS false h1,rfl,aa⟩
   | true=>
   simp only[ku,h1,jJ,jL]at h;cases au:a.going with
   | false=>
    rw[au,o8,o9]at h;cases U:(a.place != 0) with
    | true=>exact aaU ⟨cf (a6 aj),bG,bL (a6 aj),bF b2.e aj,⟨by omega,by omega⟩,hS true h1,rfl,by rw[au];rfl,U,aa⟩
    | false=>
     rw[U,jL]at h;exact aaV ⟨cf (a6 aj),bG,bL (a6 aj),bF b2.e aj,⟨by omega,by omega⟩,hS true h1,rfl,by rw[au];rfl,U,hS false (by simpa using h),rfl,aa⟩
   | true=>
    rw[au,jJ,Bool.false_and,jL]at h;exact aaX ⟨cf (a6 aj),bG,bL (a6 aj),bF b2.e aj,⟨by omega,by omega⟩,hS true h1,rfl,by rw[au];rfl,hS false (by simpa using h),rfl,aa⟩)
  (aaZ ⟨dU,aa⟩)
 rcases l with⟨_,_,h1,U⟩ | ⟨_,_,_,_,_,_,h1,U⟩
 ·exact .inl ⟨h1,U⟩
 exact .inr ⟨h1,U⟩
theorem ab6(c:bb)(ah:c.sz<=8388608)(aT:1<=c.aF.ay/\c.aF.ay<=4):
  ((c.news.any (kv c.aF.ay))=false/\c0 prog (ar f55 3) (q0 c.aF.ay (c.news.map cb.e) 0) (.exit 6) JV)\/
  ((c.news.any (kv c.aF.ay))=true/\c0 prog (ar f55 3) (q0 c.aF.ay (c.news.map cb.e) 0) .ret (AE false)):=by
 have ak:=D0 ah;have l:=hh (P:=prog) (c:=(ar f55 3)) c.news (kv c.aF.ay) (fun i=>q0 c.aF.ay (c.news.map cb.e) i) (X:=fun _ _=>AE false) fi (cM 6)
  (fun i a aj h=>by
   have hi:=a6 aj;simp only[kv,gq,kD]at h;exact aa3 ⟨cf (a6 aj),bG,bL (a6 aj),bF cb.e aj,⟨by omega,by omega⟩,hS true h.1,rfl,hS true h.2,rfl,dw hi ak,aa⟩)
  (fun i a aj h=>by
   have hi:=a6 aj;cases h1:ap a.dest 0 (c.aF.ay-1) with
   | false=>exact aa1 ⟨cf (a6 aj),bG,bL (a6 aj),bF cb.e aj,⟨by omega,by omega⟩,hS false h1,rfl,aa⟩
   | true=>
    simp only[kv,h1,jJ,jL]at h;exact aa2 ⟨cf (a6 aj),bG,bL (a6 aj),bF cb.e aj,⟨by omega,by omega⟩,hS true h1,rfl,hS false (by simpa using h),rfl,aa⟩)
  (aa4 ⟨dU,aa⟩)
 rcases l with⟨_,_,h1,U⟩ | ⟨_,_,_,_,_,_,h1,U⟩
 ·exact .inl ⟨h1,U⟩
 exact .inr ⟨h1,U⟩
theorem Sm(c:bb)(ah:c.sz<=8388608)(hw:fw c):av 55 [.agg c.e] [.one (B (cL c))]:=by
 have au:=QX c.aF (nj ah);unfold cL;cases h1:eA c.aF with
 | false=>rw[h1]at au;exact abv ⟨au,rfl,aa⟩
 | true=>
 rw[h1]at au;have aT:=lm h1;have aC:az .i64 (c.aF.ay*c.aF.ay):=by
  have ax:c.aF.ay=1\/c.aF.ay=2\/c.aF.ay=3\/c.aF.ay=4:=by omega
  rcases ax with ax | ax | ax | ax<;>(rw[ax];exact⟨by decide,by decide⟩)
 cases U:((c.ay.length:Int)==c.aF.ay) with
 | false=>exact abw ⟨au,rfl,by rw[bm];simpa using U,aa⟩
 | true=>
 have v2:((↑(c.ay.map aP.e).length:Int) != c.aF.ay)=false:=by rw[bm];simpa using U
 cases ax:((c.bV.length:Int)==c.aF.ay*c.aF.ay) with
 | false=>exact abx ⟨au,rfl,v2,aC,by rw[bm];simpa using ax,aa⟩
 | true=>
 have v3:((↑(c.bV.map bt.e).length:Int) != c.aF.ay*c.aF.ay)=false:=by rw[bm];simpa using ax
 cases aK:(c.tokens.length==4) with
 | false=>exact aby ⟨au,rfl,v2,aC,v3,s8 aK,aa⟩
 | true=>
 rcases ab3 c ah (eq_of_beq U) with⟨aV,nD⟩ | ⟨aV,nD⟩
 case inr=>rw[aV];exact abC ⟨au,rfl,v2,aC,v3,fx aK,nD,aa⟩
 rw[aV];rcases ab4 c ah hw aT.1 with⟨bw,pN⟩ | ⟨bw,pN⟩
 case inr=>rw[bw];exact abK ⟨au,rfl,v2,aC,v3,fx aK,nD,pN,aa⟩
 rw[bw];rcases ab5 c ah aT with⟨bX,r2⟩ | ⟨bX,r2⟩
 case inr=>rw[bX];exact aa0 ⟨au,rfl,v2,aC,v3,fx aK,nD,pN,r2,aa⟩
 rw[bX];rcases ab6 c ah aT with⟨c8,iW⟩ | ⟨c8,iW⟩
 ·rw[c8];exact aa6 ⟨au,rfl,v2,aC,v3,fx aK,nD,pN,r2,iW,aa⟩
 rw[c8];exact aa5 ⟨au,rfl,v2,aC,v3,fx aK,nD,pN,r2,iW,aa⟩
end Go.Proofs.YtdchjefneblpgaaGreat
namespace Go.Proofs.YtdchjefneblpgaaGreat
open Go.Sx Go.RowKit Go.Proofs.Tryz
def cutAt{α:Type}(xs:List α)(k:Nat):List α:=xs.take k++xs.drop (k+1)
def xV:aA:=⟨0,⟨0,0⟩,0,0⟩
def lO(xs:List Int)(e d:Int):List Int:=xs.set e.toNat (xs.getD e.toNat 0+d)
def dR(l:bt)(r:aA):bt×Bool:=
 if ie l&&fe r&&l.eo != 0&&decide (l.eQ<1000000000) then (⟨l.cap,l.queue++[r],l.eo-1,l.back,l.eQ+1,l.c5⟩,true) else (l,false)
def dt(l:bt):bt×aA×Bool:=
 if ie l then match l.queue with
  | []=>(l,xV,false)
  | r::q=>(⟨l.cap,q,l.eo,l.back+1,l.eQ,l.c5+1⟩,r,true)
 else (l,xV,false)
def eY(l:bt):bt×Bool:=
 if ie l&&l.back != 0 then (⟨l.cap,l.queue,l.eo+1,l.back-1,l.eQ,l.c5⟩,true) else (l,false)
def fJ(g:b1)(w:aP):aP×Bool:=
 if eA g&&eJ g w then match w.cg,w.queue with
  | [],r::q=>(⟨q,(eI g w.cells r).2.1,w.b8,(eI g w.cells r).1,w.bH,w.bU,(if dT g r then w.bK.set r.bx.bf.toNat true else w.bK),w.b'⟩,true)
  | _,_=>(w,false)
 else (w,false)
def eB(g:b1)(w:aP):aP×Bool:=
 if eA g&&eJ g w then match w.cg,w.queue,w.b8 with
  | [],[],r::t=>(⟨[r],[],t,w.cells,w.bH,w.bU,w.bK,w.b'⟩,true)
  | _,_,_=>(w,false)
 else (w,false)
def gy(w:aP)(t:List aA):aP:=⟨w.queue,t,w.b8,w.cells,w.bH,w.bU,w.bK,w.b'⟩
def kept(w:aP)(r:aA):aP:=⟨w.queue++[r],w.cg,w.b8,w.cells,w.bH,w.bU,w.bK,w.b'⟩
def ho(w:aP)(r:aA):aP:=⟨w.queue++[r],w.cg,w.b8,w.cells,lO w.bH r.bx.bf (-1),w.bU.set r.bx.bf.toNat true,w.bK,w.b'⟩
def kx(w:aP)(e:Int):aP:=⟨w.queue,w.cg,w.b8,w.cells,lO w.bH e 1,w.bU,w.bK,w.b'⟩
def gz(w:aP)(e:Int):aP:=⟨w.queue,w.cg,w.b8,w.cells,w.bH,w.bU.set e.toNat false,w.bK,w.b'⟩
def told(w:aP)(e:Int)(b:Bool):aP:=⟨w.queue,w.cg,w.b8,w.cells,w.bH,w.bU,w.bK,w.b'++[⟨e,b⟩]⟩
def h4(w:aP)(n:cb):aP:=if i' w n.bf then w else told w n.bf n.dT
def AH(w:aP)(e:Int):Bool:=w.b8.any fun r=>decide (r.bx.bf<=e)
def Sn(w:aP)(e:Int):Nat:=(p4 e w.queue).length+(p4 e w.cg).length
def kX(w:aP)(e:Int):Bool:=!AH w e&&Sn w e==0
def setW(c:bb)(i:Int)(x:aP):bb:=⟨c.aF,c.ay.set i.toNat x,c.bV,c.tokens,c.news⟩
def dB(c:bb)(i:Int)(l:bt):bb:=⟨c.aF,c.ay,c.bV.set i.toNat l,c.tokens,c.news⟩
def er(c:bb)(i:Int)(t:b2):bb:=⟨c.aF,c.ay,c.bV,c.tokens.set i.toNat t,c.news⟩
def jF(c:bb)(n:List cb):bb:=⟨c.aF,c.ay,c.bV,c.tokens,n⟩
def c4(c:bb)(i:Int):Option aP:=if 0<=i then c.ay[i.toNat]? else none
def fO(c:bb)(i:Int):Option bt:=if 0<=i then c.bV[i.toNat]? else none
def je(c:bb)(i:Int):Option b2:=if 0<=i then c.tokens[i.toNat]? else none
def eE(g:b1)(a b:Int):Int:=if ap a 0 (g.ay-1)&&ap b 0 (g.ay-1) then a*g.ay+b else -1
def lS(c:bb)(w:Int):bb×Bool:=
 if cL c then match c4 c w with
  | some x=>(setW c w (fJ c.aF x).1,(fJ c.aF x).2)
  | none=>(c,false)
 else (c,false)
def gW(c:bb)(w:Int):bb×Bool:=
 if cL c then match c4 c w with
  | some x=>(setW c w (eB c.aF x).1,(eB c.aF x).2)
  | none=>(c,false)
 else (c,false)
def sk(c:bb)(w:Int)(x:aP)(r:aA)(t:List aA)(o:Int):bb×Bool:=
 if o=w then (setW c w (kept (gy x t) r),true)
 else match fO c (eE c.aF w o) with
  | some l=>if (dR l r).2 then (setW (dB c (eE c.aF w o) (dR l r).1) w (kx (gy x t) r.bx.bf),true) else (c,false)
  | none=>(c,false)
def gl(c:bb)(w:Int):bb×Bool:=
 if cL c then match c4 c w with
  | some x=>match x.cg with
   | r::t=>sk c w x r t (ic r.key c.aF.ay)
   | []=>(c,false)
  | none=>(c,false)
 else (c,false)
def gm(c:bb)(a b:Int):bb×Bool:=
 if cL c&&a != b then match fO c (eE c.aF a b),c4 c b with
  | some l,some x=>if (dt l).2.2 then (setW (dB c (eE c.aF a b) (dt l).1) b (ho x (dt l).2.1),true) else (c,false)
  | _,_=>(c,false)
 else (c,false)
def gJ(c:bb)(a b:Int):bb×Bool:=
 if cL c&&a != b then match fO c (eE c.aF a b) with
  | some l=>(dB c (eE c.aF a b) (eY l).1,(eY l).2)
  | none=>(c,false)
 else (c,false)
def jb(n:Nat)(e:Int)(b:Bool):List cb:=(List.range n).map fun k:Nat=>⟨(k:Int)+1,e,b⟩
def fD(c:bb)(e:Int)(t:b2)(x:aP):bb×Bool:=
 if kX x e then
  if !t.going then (setW (er c e ⟨true,(c.ay.length:Int)-1,0,false,x.bK.getD e.toNat false⟩) t.place (gz x e),true)
  else if 0<t.place then
   if ap (t.sum+x.bH.getD e.toNat 0) (-1000000) 1000000 then
    (setW (er c e ⟨true,t.place-1,t.sum+x.bH.getD e.toNat 0,t.bU||x.bU.getD e.toNat false,t.dT||x.bK.getD e.toNat false⟩) t.place (gz x e),true)
   else (c,false)
  else if !t.bU&&!x.bU.getD e.toNat false&&t.sum+x.bH.getD e.toNat 0==0 then
   (jF (setW (er c e ⟨false,t.place,t.sum,t.bU,t.dT⟩) 0 (told x e (t.dT||x.bK.getD e.toNat false))) (c.news++jb (c.ay.length-1) e (t.dT||x.bK.getD e.toNat false)),true)
  else (er c e ⟨false,t.place,t.sum,t.bU,t.dT⟩,true)
 else (c,false)
def kY(c:bb)(e:Int):bb×Bool:=
 if cL c&&ap e 0 3 then match c4 c 0,je c e with
  | some gZ,some t=>if i' gZ e then (c,false) else match c4 c t.place with
   | some x=>fD c e t x
   | none=>(c,false)
  | _,_=>(c,false)
 else (c,false)
def lT(c:bb)(w:Int):bb×Bool:=
 match c.news.findIdx? (fun n=>n.dest==w) with
 | some k=>if cL c then match c.news[k]?,c4 c w with
   | some n,some x=>(jF (setW c w (h4 x n)) (cutAt c.news k),true)
   | _,_=>(c,false)
  else (c,false)
 | none=>(c,false)
def eF(c:bb)(p:df):bb×Bool:=
 if p.kind=1 then lS c p.a else if p.kind=2 then gW c p.a else if p.kind=3 then gl c p.a
 else if p.kind=4 then gm c p.a p.b else if p.kind=5 then gJ c p.a p.b else if p.kind=6 then kY c p.a
 else if p.kind=7 then lT c p.a else (c,false)
end Go.Proofs.YtdchjefneblpgaaGreat
namespace Go.Proofs.YtdchjefneblpgaaGreat
open Go.Sx Go.RowKit Go.Proofs.Tryz
section
variable {α : Type}
theorem Jp{p:α->Bool}{xs:List α}{i:Nat}{x:α}(h:xs.any p=false)(hi:i<xs.length):(xs.set i x).any p=p x:=by
 cases ag:p x with
 | true=>exact qk.2 ⟨x,List.mem_iff_getElem.2 ⟨i,by simpa using hi,by simp⟩,ag⟩
 | false=>
  rw[hr]at h ⊢;intro a aj;rcases n2 aj with h1 | rfl
  ·exact h a h1
  simp[ag]
theorem Sp{p:Nat->α->Bool}{x:α}:∀{xs:List α} {k i:Nat},anyI p k xs=false->i<xs.length->anyI p k (xs.set i x)=p (k+i) x
 | [],_,_,_,h=>by simp at h
 | a::xs,k,0,h,_=>by
  simp only[anyI,gq]at h;simp only[List.set_cons_zero,anyI,h.2,Bool.or_false,l4]
 | a::xs,k,i+1,h,hi=>by
  simp only[anyI,gq]at h;simp only[List.set_cons_succ,anyI,h.1,jL];rw[Sp h.2 (by simpa using hi),show k+1+i=k+(i+1) by omega]
theorem Sq{p:Nat->α->Bool}{xs:List α}(h:∀i a,xs[i]?=some a->p i a=false):anyI p 0 xs=false:=by
 cases ag:anyI p 0 xs with
 | false=>rfl
 | true=>
  obtain⟨i,a,h1,U,_⟩:=It ag;rw[dx,h i a h1]at U;cases U
theorem D1{p:Nat->α->Bool}{xs:List α}(h:anyI p 0 xs=false){i:Nat}{a:α}(aj:xs[i]?=some a):p i a=false:=by
 have:=C2 h i a aj;rwa[dx]at this
end
variable{c:bb}
theorem hn:cL c=true<->eA c.aF=true/\(c.ay.length:Int)=c.aF.ay/\(c.bV.length:Int)=c.aF.ay*c.aF.ay/\c.tokens.length=4/\(c.ay.any fun w=>!eJ c.aF w)=false/\anyI (ja c.aF) 0 c.bV=false/\c.tokens.any (ku c.aF.ay)=false/\c.news.any (kv c.aF.ay)=false:=by
 simp only[cL,cq,g',dY]
variable{i:Int}{x:aP}
theorem jW(h:c4 c i=some x):0<=i/\i.toNat<c.ay.length/\c.ay[i.toNat]?=some x:=by
 unfold c4 at h;split at h
 ·exact⟨‹_›,a6 h,h⟩
 cases h
theorem oQ{x:bt}(h:fO c i=some x):0<=i/\i.toNat<c.bV.length/\c.bV[i.toNat]?=some x:=by
 unfold fO at h;split at h
 ·exact⟨‹_›,a6 h,h⟩
 cases h
theorem D2{x:b2}(h:je c i=some x):0<=i/\i.toNat<c.tokens.length/\c.tokens[i.toNat]?=some x:=by
 unfold je at h;split at h
 ·exact⟨‹_›,a6 h,h⟩
 cases h
theorem ti{y:aP}(h:cL c=true)(bn:c4 c i=some y):cL (setW c i x)=eJ c.aF x:=by
 obtain⟨h1,U,ax,aK,aV,bw,bX,c8⟩:=hn.1 h;have hi:=(jW bn).2.1;simp only[cL,setW,fb,Jp aV hi,h1,U,ax,aK,bw,bX,c8,sF,o8,um,o9,Bool.not_not]
theorem Jq{x y:bt}(h:cL c=true)(bn:fO c i=some y):cL (dB c i x)=!ja c.aF i.toNat x:=by
 obtain⟨h1,U,ax,aK,aV,bw,bX,c8⟩:=hn.1 h;have hi:=(oQ bn).2.1;simp only[cL,dB,fb,Sp bw hi,dx,h1,U,ax,aK,aV,bX,c8,sF,o8,um,o9]
theorem ab7{x y:b2}(h:cL c=true)(bn:je c i=some y):cL (er c i x)=!ku c.aF.ay x:=by
 obtain⟨h1,U,ax,aK,aV,bw,bX,c8⟩:=hn.1 h;have hi:=(D2 bn).2.1;simp only[cL,er,fb,Jp bX hi,h1,U,ax,aK,aV,bw,c8,sF,o8,um,o9]
theorem Sr{x:List cb}(h:cL c=true):cL (jF c x)=!(x.any (kv c.aF.ay)):=by
 obtain⟨h1,U,ax,aK,aV,bw,bX,c8⟩:=hn.1 h;simp only[cL,jF,h1,U,ax,aK,aV,bw,bX,sF,o8,o9]
theorem ln(h:cL c=true)(ag:c4 c i=some x):eJ c.aF x=true:=by
 have aV:=(hn.1 h).2.2.2.2.1;rw[hr]at aV;simpa using aV x (eX (jW ag).2.2)
theorem xO{x:bt}(h:cL c=true)(ag:fO c i=some x):ja c.aF i.toNat x=false:=
 D1 (hn.1 h).2.2.2.2.2.1 (oQ ag).2.2
theorem Jr{x:b2}(h:cL c=true)(ag:je c i=some x):ku c.aF.ay x=false:=by
 have aV:=(hn.1 h).2.2.2.2.2.2.1;rw[hr]at aV;simpa using aV x (eX (D2 ag).2.2)
theorem tj(ag:c4 c i=some x):setW c i x=c:=by
 obtain⟨_,U,ax⟩:=jW ag;have:c.ay.set i.toNat x=c.ay:=by
  rw[gp U]at ax;rw[<-eL ax];exact List.set_getElem_self U
 unfold setW;rw[this]
theorem ab8{x:bt}(ag:fO c i=some x):dB c i x=c:=by
 obtain⟨_,U,ax⟩:=oQ ag;have:c.bV.set i.toNat x=c.bV:=by
  rw[gp U]at ax;rw[<-eL ax];exact List.set_getElem_self U
 unfold dB;rw[this]
variable{g:b1}{w:aP}
theorem jc:eJ g w=true<->fI g w.queue=true/\fI g w.cg=true/\fI g w.b8=true/\jD w.cells=true/\w.bH.length=4/\w.bU.length=4/\w.bK.length=4/\anyI (lN w.b8) 0 w.b8=false/\w.bH.any mM=false/\anyI (lo w.b') 0 w.b'=false:=by
 simp only[eJ,cq,g',dY]
variable{r:aA}
theorem tk{q:List aA}:fI g (r::q)=true<->kW g r=false/\fI g q=true:=by
 simp only[fI,uj,g',gq]
theorem Js{q:List aA}:fI g (q++[r])=true<->fI g q=true/\kW g r=false:=by
 simp only[fI,List.any_append,uj,List.any_nil,Bool.or_false,g',gq]
theorem ab9{t:List aA}(h:anyI (lN (r::t)) 0 (r::t)=false):anyI (lN t) 0 t=false:=by
 refine Sq fun i a aj=>?_
 have k:=D1 h (i:=i+1) (a:=a) (by simpa using aj);unfold lN at k ⊢;rw[gq]at k ⊢;refine⟨k.1,?_⟩;cases i with
 | zero=>rfl
 | succ j=>simpa using k.2
theorem aca{xs:List cD}{d:cD}(h:anyI (lo xs) 0 xs=false)(h1:ap d.bf 0 3=true)(U:(xs.any fun q=>q.bf==d.bf)=false):anyI (lo (xs++[d])) 0 (xs++[d])=false:=by
 refine Sq fun i a aj=>?_
 by_cases hi:i<xs.length
 ·rw[x' hi]at aj;have k:=D1 h aj;unfold lo at k ⊢;rw[Mv (by omega)];exact k
 have ak:=a6 aj;simp only[hs,dH,b9]at ak;have e:i=xs.length:=by omega
 subst e;rw[sD (fK _),Nat.sub_self]at aj;obtain rfl:d=a:=by simpa using aj
 unfold lo;rw[Mv (fK _),k1,h1,U];rfl
theorem acb(h:eJ g w=true)(aD:kW g r=false):eJ g (kept w r)=true:=by
 obtain⟨h1,U⟩:=jc.1 h;exact jc.2 ⟨Js.2 ⟨h1,aD⟩,U⟩
theorem D3{t:List aA}(h:eJ g w=true)(ai:w.cg=r::t):eJ g (gy w t)=true/\kW g r=false:=by
 obtain⟨h1,U,ax⟩:=jc.1 h;rw[ai,tk]at U;exact⟨jc.2 ⟨h1,U.2,ax⟩,U.1⟩
variable{e:Int}
theorem acd(h:eJ g w=true):eJ g (gz w e)=true:=by
 obtain⟨h1,U,ax,aK,aV,bw,bX⟩:=jc.1 h;exact jc.2 ⟨h1,U,ax,aK,aV,by simp only[gz,fb];exact bw,bX⟩
theorem Ss{b:Bool}(h:eJ g w=true)(he:ap e 0 3=true)(aE:i' w e=false):eJ g (told w e b)=true:=by
 obtain⟨h1,U,ax,aK,aV,bw,bX,c8,ed,dK⟩:=jc.1 h;exact jc.2 ⟨h1,U,ax,aK,aV,bw,bX,c8,ed,aca dK he aE⟩
theorem ace{n:cb}(h:eJ g w=true)(he:ap n.bf 0 3=true):eJ g (h4 w n)=true:=by
 unfold h4;cases aE:i' w n.bf with
 | true=>exact h
 | false=>exact Ss h he aE
theorem St{e d:Int}{k:Nat}(h:eJ g w=true)(hk:e.toNat=k)(aK:k<4):(lO w.bH e d).length=4/\(lO w.bH e d).any mM=mM (w.bH.getD e.toNat 0+d):=by
 obtain⟨h1,U,ax,_,aV,bw,bX,c8,ed,dK⟩:=jc.1 h;exact⟨by simp only[lO,fb];exact aV,Jp ed (by omega)⟩
theorem q2{g:b1}(h:kW g r=false):0<=r.bx.bf/\r.bx.bf<=3:=by
 simp only[kW,fe,iM,ap,gq,kD,cq,cK]at h;omega
theorem acf(h:eJ g w=true)(he:0<=e/\e<=3):eJ g (kx w e)=ap (w.bH.getD e.toNat 0+1) (-1000000) 1000000:=by
 obtain⟨cV,cA⟩:=St (d:=1) h (e:=e) rfl (by omega);obtain⟨h1,U,ax,aK,aV,bw,bX,c8,ed,dK⟩:=jc.1 h;simp only[eJ,kx,h1,U,ax,aK,cV,bw,bX,c8,dK,cA,mM,sF,o8,um,o9,Bool.not_not]
theorem acg(h:eJ g w=true)(aD:kW g r=false):eJ g (ho w r)=ap (w.bH.getD r.bx.bf.toNat 0+-1) (-1000000) 1000000:=by
 have he:=q2 aD;obtain⟨cV,cA⟩:=St (d:=-1) h (e:=r.bx.bf) rfl (by omega);obtain⟨h1,U,ax,aK,aV,bw,bX,c8,ed,dK⟩:=jc.1 h;have aC:=Js.2 ⟨h1,aD⟩;simp only[eJ,ho,aC,U,ax,aK,cV,fb,bw,bX,c8,dK,cA,mM,sF,o8,um,o9,Bool.not_not]
theorem ach(h:eJ g w=true):eJ g (eB g w).1=true:=by
 unfold eB;split
 ·split
  ·rename_i r t h1 U ax;obtain⟨_,_,fl,pL,jv,nz,jT,nA,r1,Ht⟩:=jc.1 h;rw[ax]at fl nA;exact jc.2 ⟨tk.2 ⟨(tk.1 fl).1,rfl⟩,rfl,(tk.1 fl).2,pL,jv,nz,jT,ab9 nA,r1,Ht⟩
  exact h
 exact h
theorem aci:∀{xs:List Cell},jD xs=true->∀i a b,xs[i]?=some a->xs[i+1]?=some b->ib a b<0:=by
 intro xs h i a b h1 U;simp only[jD,g',hr]at h;have hm:(a,b)∈xs.zip (xs.drop 1):=by
  refine eX (i:=i) ?_;rw[List.getElem?_zip_eq_some];exact⟨h1,by rw[jZ,Nat.add_comm];exact U⟩
 have:=h _ hm;simp only[DX,cK]at this;omega
def tm(a:Cell):List Int:=[a.bf,a.op,a.key,a.val]
theorem Su(a b:Cell):ib a b=jm (tm a) (tm b):=rfl
theorem Jt{a b c:Cell}(h1:ib a b<0)(U:ib b c<0):ib a c<0:=by
 rw[Su] at*;exact Kk (tm a) (tm b) (tm c) rfl rfl h1 U
theorem acj{a b:Cell}(h1:¬ib a b<0)(U:a≠b):ib b a<0:=by
 rw[Su] at*;refine Classical.byContradiction fun h=>U ?_
 have:=Kl (tm a) (tm b) rfl h1 h;simp only[tm,rh,and_true]at this;obtain⟨k0,ij,qh,o4⟩:=this;cases a;cases b;simp only[Cell.mk.injEq];exact⟨ij,k0,qh,o4⟩
theorem Sv:∀{xs:List Cell},jD xs=true->xs.Pairwise fun a b=>ib a b<0
 | [],_=>List.Pairwise.nil
 | [a],_=>List.pairwise_singleton _ a
 | a::b::xs,h=>by
  have bR:jD (b::xs)=true:=by
   simp only[jD,List.drop_succ_cons,yc,List.zip_cons_cons,uj,Bool.not_or,cq]at h ⊢;exact h.2
  have ai:=Sv bR;have fc:=aci h 0 a b rfl rfl;refine List.Pairwise.cons (fun c ah=>?_) ai;rcases et.1 ah with rfl | ah
  ·exact fc
  exact Jt fc ((List.pairwise_cons.1 ai).1 c ah)
variable{xs:List Cell}
theorem Sw(h:xs.Pairwise fun a b=>ib a b<0):jD xs=true:=by
 simp only[jD,g',hr];rintro⟨a,b⟩ hp;obtain⟨i,hi⟩:=List.getElem?_of_mem hp;obtain⟨h1,U⟩:=AG hi;have a':=a6 U;have:=List.pairwise_iff_getElem.1 h i (i+1) (by omega) a' (by omega);rw[gp (by omega)]at h1 U;rw[eL h1,eL U]at this;replace this:ib a b<0:=this;show ¬decide (ib a b>=0)=true;simp only[cK];omega
theorem Sy(x:Cell)(h:xs.Pairwise fun a b=>ib a b<0):(nW xs x).Pairwise fun a b=>ib a b<0:=by
 unfold nW;split
 ·exact h
 rename_i h6;have ag:∀a∈xs,a≠x:=by
  intro a aj e;exact h6 (qk.2 ⟨a,aj,by simp[e]⟩)
 have aq:∀i a,xs[i]?=some a->i<nV xs x->ib a x<0:=by
  intro i a aj hi;unfold nV at hi;cases bY:xs.findIdx? (fun a=>!decide (ib a x<0)) with
  | none=>
   rw[Mu]at bY;simpa using bY a (eX aj)
  | some k=>
   rw[bY]at hi;simp only[iA]at hi;rw[x8]at bY;obtain⟨hk,_,ax⟩:=bY;have:=ax i hi;rw[gp (by omega)]at aj;rw[eL aj]at this;simpa using this
 have aj:∀i a,xs[i]?=some a->nV xs x<=i->ib x a<0:=by
  intro i a aj hi;have hk:nV xs x<xs.length:=by have:=a6 aj;omega
  obtain⟨b,fM⟩:=cY hk;have bJ:¬ib b x<0:=by
   unfold nV at fM hk;cases bY:xs.findIdx? (fun a=>!decide (ib a x<0)) with
   | none=>rw[bY]at hk;simp at hk
   | some k=>
    rw[bY]at fM;simp only[iA]at fM;rw[x8]at bY;obtain⟨qB,U,_⟩:=bY;rw[gp qB]at fM;rw[eL fM]at U;simpa using U
  have NZ:=acj bJ (ag b (eX fM));rcases Nat.lt_or_eq_of_le hi with bC | heq
  ·have a':=a6 aj;have:=List.pairwise_iff_getElem.1 h (nV xs x) i hk a' bC;rw[gp hk]at fM;rw[gp a']at aj;rw[eL fM,eL aj]at this;exact Jt NZ this
  rw[heq,aj]at fM;rw[eL fM];exact NZ
 rw[List.pairwise_append];refine⟨h.sublist (List.take_sublist _ _),List.Pairwise.cons (fun c ah=>?_) (h.sublist (List.drop_sublist _ _)),fun a F2 c ah=>?_⟩
 ·obtain⟨i,hi⟩:=List.getElem?_of_mem ah;rw[jZ]at hi;exact aj _ _ hi (by omega)
 obtain⟨i,hi⟩:=List.getElem?_of_mem F2;rw[j1]at hi;split at hi
 ·rename_i bC;have h1:=aq i a hi bC;rcases et.1 ah with rfl | ah
  ·exact h1
  obtain⟨j,a'⟩:=List.getElem?_of_mem ah;rw[jZ]at a';exact Jt h1 (aj _ _ a' (by omega))
 cases hi
theorem ack(kind:Int)(x:Cell)(h:jD xs=true):jD (eb kind xs x).1=true:=by
 have ai:=Sv h;have h1:=Sw (Sy x ai);have U:=Sw (Sy x (ai.sublist (List.filter_sublist (p:=fun a=>!gx x a))));unfold eb;split
 ·split
  ·exact h
  exact h1
 split
 ·unfold oO;split
  ·exact h
  exact U
 exact h
theorem acm{cs:List Cell}(r:aA)(h:jD cs=true):jD (eI g cs r).1=true:=by
 unfold eI;cases hl g r.op with
 | none=>exact h
 | some x=>
  have aD:=ack x.kind ⟨r.op,r.bx.bf,r.key,r.val⟩ h;simp only[e8];split
  ·split
   ·exact h
   split
   ·exact aD
   split
   ·exact aD
   exact aD
  exact h
theorem abL{x:Node}{k v:Int}(ag:aL x=true)(hi:f' k v=true):f' (dQ x k v).1 (dQ x k v).2.1=true:=by
 have zd:=ag;simp only[aL,cq]at ag;have aj:=ag.1.1.1.1;have k9:=hi;simp only[f',ap,cq,cK]at hi;unfold dQ;rw[zd,k9,Bool.and_self,br rfl];unfold bP at aj;split
 ·rename_i U;rw[br U]at aj;simp only[ap,cq,cK]at aj;have ak:0<=less (v+x.a) 999/\less (v+x.a) 999<=999:=by unfold less;split<;>omega
  simp only[f',ap,cq,cK];omega
 rename_i U;rw[bg U]at aj;split
 ·rename_i aK;rw[bg (by omega),br aK]at aj;simp only[ap,cq,cK]at aj;simp only[f',ap,cq,cK];rw[Int.tmod_eq_emod_of_nonneg (by omega)];omega
 split
 ·exact k9
 exact k9
theorem abM(h:eA g=true){op:Int}{x:Node}(aT:hl g op=some x):iN g op.toNat x=false:=by
 simp only[eA,cq,g']at h;unfold hl at aT;split at aT
 ·exact D1 h.2 aT
 cases aT
theorem RI(h:eA g=true){op:Int}{x:Node}(aT:hl g op=some x){s:gr}{k v:Int}(ai:iM s=true)(hi:f' k v=true):fI g (jY x s k v)=true:=by
 have aq:=abM h aT;have ag:=JY h aT;simp only[aL,cq]at ag;simp only[iN,gq]at aq;have he:=aq.2;rw[hr]at he;simp only[fI,jY,List.any_map,g',hr];intro o aX;have h1:=JG ag.2 aX;have U:=he o aX;simp only[fQ,n3,not_or,cK]at U;simp only[Function.comp,kW,fe,h1,ai,hi,Bool.and_self,jJ,jL,cK];omega
theorem abN{cs:List Cell}:fI g (eI g cs r).2.1=true:=by
 unfold eI;cases aT:hl g r.op with
 | none=>rfl
 | some x=>
  simp only[e8];split
  ·rename_i au;rw[cq]at au;obtain⟨au,aD⟩:=au;have dV:=aD;simp only[fe,cq]at aD;have ah:=abL (JY au aT) aD.2;split
   ·rfl
   split
   ·rfl
   split
   ·cases bR:(gV r.bx).2 with
    | false=>rfl
    | true=>
     refine RI au aT ?_ ah;unfold gV at bR ⊢;split
     ·rename_i h1;simp only[cq,iM,ap,cK]at h1 ⊢;omega
     rename_i h1;rw[bg h1]at bR;cases bR
   exact RI au aT aD.1.2 ah
  rfl
theorem abO(h:eJ g w=true):eJ g (fJ g w).1=true:=by
 unfold fJ;split
 ·split
  ·rename_i r q h1 U;obtain⟨cV,cA,fl,pL,jv,nz,jT,nA,r1,Ht⟩:=jc.1 h;rw[U,tk]at cV;refine jc.2 ⟨cV.2,abN,fl,acm r pL,jv,nz,?_,nA,r1,Ht⟩;split
   ·rw[fb];exact jT
   exact jT
  exact h
 exact h
