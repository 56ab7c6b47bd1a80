import Derived.Test.YtdchjefneblpgaaGreatP21
set_option linter.unusedVariables false
set_option linter.unusedSimpArgs false
namespace Go.Proofs.YtdchjefneblpgaaGreat
open Go.Sx Go.RowKit Go.Proofs.Tryz
variable{c:bb}
theorem lk(h:c.sz<=8388608):c.aC.sz<=8388608:=by grind[bb.sz]
theorem R0(h:c.sz<=8388608):c.tokens.length<=8388608:=by grind[bb.sz,eZ]
theorem Dx(h:c.sz<=8388608):c.news.length<=8388608:=by grind[bb.sz,eZ]
def iS(g:bR)(i:Nat)(l:bu):Bool:=
 !iR l||((l.cap != g.cap)||(!fB g l.queue||((i:Int).tdiv g.ay==(i:Int).tmod g.ay&&decide ((l.queue.length:Int)>0))))
def ka(n:Int)(t:bV):Bool:=!aq t.place 0 (n-1)||((!t.going&&t.place != 0)||!aq t.sum (-1000000) 1000000)
def kb(n:Int)(x:b7):Bool:=!aq x.dest 0 (n-1)||!aq x.bc 0 3
def cM(c:bb):Bool:=
 dY c.aC&&(((c.ay.length:Int)==c.aC.ay)&&(((c.bW.length:Int)==c.aC.ay*c.aC.ay)&&((c.tokens.length==4)&&(!(c.ay.any fun w=>!eu c.aC w)&&(!(anyI (iS c.aC) 0 c.bW)&&(!(c.tokens.any (ka c.aC.ay))&&!(c.news.any (kb c.aC.ay))))))))
theorem nt{g:bR}(h:dY g=true):1<=g.ay/\g.ay<=4:=by
 simp_all[dY,cF,aq,cW]
theorem xb(i:Nat)(n:Int)(hi:i<=8388608)(a8:1<=n):aI .i64 ((i:Int).tdiv n):=by
 have h1:0<=(i:Int).tdiv n:=Int.tdiv_nonneg (by omega) (by omega);have U:(i:Int).tdiv n<=(i:Int):=Int.tdiv_le_self _ (by omega);exact⟨by omega,by omega⟩
theorem abk(h:c.wf){l:bu}(ap:l∈c.bW):l.dh<=9223372036854775807:=by
 have:=(bb.G' h ap).MD;grind[aI]
def gb(c:bb):Prop:=∀l∈c.bW,l.dh<=9223372036854775807
theorem gb.of(h:c.wf):gb c:=fun _ ap=>abk h ap
theorem abl(c:bb)(al:c.sz<=8388608)(a8:(c.ay.length:Int)=c.aC.ay):
  ((c.ay.any fun w=>!eu c.aC w)=false/\cV prog (ao f56 0) (rI (c.aC.nodes.map Node.e) c.aC.ay c.aC.cap (c.ay.map aR.e) (c.bW.map bu.e) (c.tokens.map bV.e) (c.news.map b7.e) 0) (.exit 0) (Hq (c.aC.nodes.map Node.e) c.aC.ay c.aC.cap (c.ay.map aR.e) (c.bW.map bu.e) (c.tokens.map bV.e) (c.news.map b7.e)))\/
  ((c.ay.any fun w=>!eu c.aC w)=true/\cV prog (ao f56 0) (rI (c.aC.nodes.map Node.e) c.aC.ay c.aC.cap (c.ay.map aR.e) (c.bW.map bu.e) (c.tokens.map bV.e) (c.news.map b7.e) 0) .ret (Cw false)):=by
 have ap:=bb.Aj al;have l:=gy (P:=prog) (c:=(ao f56 0)) c.ay (fun w=>!eu c.aC w) (fun i=>rI (c.aC.nodes.map Node.e) c.aC.ay c.aC.cap (c.ay.map aR.e) (c.bW.map bu.e) (c.tokens.map bV.e) (c.news.map b7.e) i) (X:=fun _ _=>Cw false) e7 (cH 0)
  (fun i a ah h=>by
   have k:=Du c.aC a (lk al) (bb.D0 al (eA ah));rw[show eu c.aC a=true by simpa using h]at k;exact Zg ⟨dM (by grind),bw,bE (a1 ah),bA aR.e ah,k,rfl,dc (a1 ah) ap,aa⟩)
  (fun i a ah h=>by
   have k:=Du c.aC a (lk al) (bb.D0 al (eA ah));rw[show eu c.aC a=false by simpa using h]at k;exact Zf ⟨dM (by grind),bw,bE (a1 ah),bA aR.e ah,k,rfl,aa⟩)
  (Zh ⟨eL (by omega),aa⟩)
 grind
theorem abm(c:bb)(al:c.sz<=8388608)(hw:gb c)(a8:1<=c.aC.ay):
  (anyI (iS c.aC) 0 c.bW=false/\cV prog (ao f56 1) (k1 c.aC.ay 0 (c.aC.nodes.map Node.e) c.aC.ay c.aC.cap (c.ay.map aR.e) (c.bW.map bu.e) (c.tokens.map bV.e) (c.news.map b7.e)) (.exit 2) (zP c.aC.ay (c.aC.nodes.map Node.e) c.aC.ay c.aC.cap (c.ay.map aR.e) (c.bW.map bu.e) (c.tokens.map bV.e) (c.news.map b7.e)))\/
  (anyI (iS c.aC) 0 c.bW=true/\cV prog (ao f56 1) (k1 c.aC.ay 0 (c.aC.nodes.map Node.e) c.aC.ay c.aC.cap (c.ay.map aR.e) (c.bW.map bu.e) (c.tokens.map bV.e) (c.news.map b7.e)) .ret (w9 false)):=by
 have ap:=bb.B5 al;have lp:∀(i:Nat) (a:bu),c.bW[i]?=some a->∀r,iR a=r->ar 191 [.agg a.e] [.one (B r)]:=fun i a ah r h=>h▸CB a (bb.B4 al (eA ah))
 have gK:∀(i:Nat) (a:bu),c.bW[i]?=some a->∀r,fB c.aC a.queue=r->ar 192 [.agg c.aC.e,.one (.J 5 (a.queue.map aB.e))] [.one (B r)]:=fun i a ah r h=>uQ c.aC _ r h (lk al) (bb.B4 al (eA ah))
 exact s9 (P:=prog) (c:=(ao f56 1)) c.bW (iS c.aC) (fun i=>k1 c.aC.ay i (c.aC.nodes.map Node.e) c.aC.ay c.aC.cap (c.ay.map aR.e) (c.bW.map bu.e) (c.tokens.map bV.e) (c.news.map b7.e)) e7 (cH 2)
  (fun i a ah h=>by
   have hi:=a1 ah;simp only[iS,gn,kg]at h;obtain⟨h1,U,ax,aJ⟩:=h;cases aY:((i:Int).tdiv c.aC.ay==(i:Int).tmod c.aC.ay) with
   | true=>
    rw[aY,oz]at aJ;exact Zn ⟨b6 (a1 ah),bw,bE (a1 ah),bA bu.e ah,lp i a ah _ h1,rfl,U,gK i a ah _ ax,rfl,by omega,xb i _ (by omega) a8,by omega,aY,by grind,dc hi ap,aa⟩
   | false=>exact aaO ⟨b6 (a1 ah),bw,bE (a1 ah),bA bu.e ah,lp i a ah _ h1,rfl,U,gK i a ah _ ax,rfl,by omega,xb i _ (by omega) a8,by omega,aY,dc hi ap,aa⟩)
  (fun i a ah h=>by
   have hi:=a1 ah;cases h1:iR a with
   | false=>exact Zj ⟨b6 (a1 ah),bw,bE (a1 ah),bA bu.e ah,lp i a ah _ h1,rfl,aa⟩
   | true=>
   cases U:(a.cap != c.aC.cap) with
   | true=>exact Zk ⟨b6 (a1 ah),bw,bE (a1 ah),bA bu.e ah,lp i a ah _ h1,rfl,U,aa⟩
   | false=>
   cases ax:fB c.aC a.queue with
   | false=>exact Zl ⟨b6 (a1 ah),bw,bE (a1 ah),bA bu.e ah,lp i a ah _ h1,rfl,U,gK i a ah _ ax,rfl,aa⟩
   | true=>
   simp only[iS,h1,U,ax,iY,jr,cF]at h;exact Zm ⟨b6 (a1 ah),bw,bE (a1 ah),bA bu.e ah,lp i a ah _ h1,rfl,U,gK i a ah _ ax,rfl,by omega,xb i _ (by omega) a8,by omega,h.1,by grind,aa⟩)
  (aaP ⟨dz,aa⟩)
theorem abn(c:bb)(al:c.sz<=8388608)(a8:1<=c.aC.ay/\c.aC.ay<=4):
  ((c.tokens.any (ka c.aC.ay))=false/\cV prog (ao f56 2) (lE c.aC.ay (c.aC.nodes.map Node.e) c.aC.ay c.aC.cap (c.ay.map aR.e) (c.bW.map bu.e) (c.tokens.map bV.e) (c.news.map b7.e) 0) (.exit 4) (Cx c.aC.ay (c.aC.nodes.map Node.e) c.aC.ay c.aC.cap (c.ay.map aR.e) (c.bW.map bu.e) (c.tokens.map bV.e) (c.news.map b7.e)))\/
  ((c.tokens.any (ka c.aC.ay))=true/\cV prog (ao f56 2) (lE c.aC.ay (c.aC.nodes.map Node.e) c.aC.ay c.aC.cap (c.ay.map aR.e) (c.bW.map bu.e) (c.tokens.map bV.e) (c.news.map b7.e) 0) .ret (uO false)):=by
 have ap:=R0 al;have l:=gy (P:=prog) (c:=(ao f56 2)) c.tokens (ka c.aC.ay) (fun i=>lE c.aC.ay (c.aC.nodes.map Node.e) c.aC.ay c.aC.cap (c.ay.map aR.e) (c.bW.map bu.e) (c.tokens.map bV.e) (c.news.map b7.e) i) (X:=fun _ _=>uO false) e7 (cH 4)
  (fun i a ah h=>by
   have hi:=a1 ah;simp only[ka,gn,kg]at h;obtain⟨h1,U,ax⟩:=h;cases av:a.going with
   | false=>
    rw[av,nF,oz]at U;exact aaU ⟨b6 (a1 ah),bw,bE (a1 ah),bA bV.e ah,⟨by omega,by omega⟩,fk _ _ _ true h1,rfl,bw,bE (a1 ah),bA bV.e ah,by rw[av];rfl,bw,bE (a1 ah),bA bV.e ah,U,bw,bE (a1 ah),bA bV.e ah,fk _ _ _ true ax,rfl,dc hi ap,aa⟩
   | true=>exact aaW ⟨b6 (a1 ah),bw,bE (a1 ah),bA bV.e ah,⟨by omega,by omega⟩,fk _ _ _ true h1,rfl,bw,bE (a1 ah),bA bV.e ah,by rw[av];rfl,bw,bE (a1 ah),bA bV.e ah,fk _ _ _ true ax,rfl,dc hi ap,aa⟩)
  (fun i a ah h=>by
   have hi:=a1 ah;cases h1:aq a.place 0 (c.aC.ay-1) with
   | false=>exact aaR ⟨b6 (a1 ah),bw,bE (a1 ah),bA bV.e ah,⟨by omega,by omega⟩,fk _ _ _ false h1,rfl,aa⟩
   | true=>
   simp only[ka,h1,iY,jr]at h;cases av:a.going with
   | false=>
    rw[av,nF,oz]at h;cases U:(a.place != 0) with
    | true=>exact aaS ⟨b6 (a1 ah),bw,bE (a1 ah),bA bV.e ah,⟨by omega,by omega⟩,fk _ _ _ true h1,rfl,bw,bE (a1 ah),bA bV.e ah,by rw[av];rfl,bw,bE (a1 ah),bA bV.e ah,U,aa⟩
    | false=>
     rw[U,jr]at h;exact aaT ⟨b6 (a1 ah),bw,bE (a1 ah),bA bV.e ah,⟨by omega,by omega⟩,fk _ _ _ true h1,rfl,bw,bE (a1 ah),bA bV.e ah,by rw[av];rfl,bw,bE (a1 ah),bA bV.e ah,U,bw,bE (a1 ah),bA bV.e ah,fk _ _ _ false (by simpa using h),rfl,aa⟩
   | true=>
    rw[av,iY,Bool.false_and,jr]at h;exact aaV ⟨b6 (a1 ah),bw,bE (a1 ah),bA bV.e ah,⟨by omega,by omega⟩,fk _ _ _ true h1,rfl,bw,bE (a1 ah),bA bV.e ah,by rw[av];rfl,bw,bE (a1 ah),bA bV.e ah,fk _ _ _ false (by simpa using h),rfl,aa⟩)
  (aaX ⟨dz,aa⟩)
 grind
theorem abo(c:bb)(al:c.sz<=8388608)(a8:1<=c.aC.ay/\c.aC.ay<=4):
  ((c.news.any (kb c.aC.ay))=false/\cV prog (ao f56 3) (qm c.aC.ay (c.aC.nodes.map Node.e) c.aC.ay c.aC.cap (c.ay.map aR.e) (c.bW.map bu.e) (c.tokens.map bV.e) (c.news.map b7.e) 0) (.exit 6) Jy)\/
  ((c.news.any (kb c.aC.ay))=true/\cV prog (ao f56 3) (qm c.aC.ay (c.aC.nodes.map Node.e) c.aC.ay c.aC.cap (c.ay.map aR.e) (c.bW.map bu.e) (c.tokens.map bV.e) (c.news.map b7.e) 0) .ret (zQ false)):=by
 have ap:=Dx al;have l:=gy (P:=prog) (c:=(ao f56 3)) c.news (kb c.aC.ay) (fun i=>qm c.aC.ay (c.aC.nodes.map Node.e) c.aC.ay c.aC.cap (c.ay.map aR.e) (c.bW.map bu.e) (c.tokens.map bV.e) (c.news.map b7.e) i) (X:=fun _ _=>zQ false) e7 (cH 6)
  (fun i a ah h=>by
   have hi:=a1 ah;simp only[kb,gn,kg]at h;exact aa1 ⟨b6 (a1 ah),bw,bE (a1 ah),bA b7.e ah,⟨by omega,by omega⟩,fk _ _ _ true h.1,rfl,bw,bE (a1 ah),bA b7.e ah,fk _ _ _ true h.2,rfl,dc hi ap,aa⟩)
  (fun i a ah h=>by
   have hi:=a1 ah;cases h1:aq a.dest 0 (c.aC.ay-1) with
   | false=>exact aaZ ⟨b6 (a1 ah),bw,bE (a1 ah),bA b7.e ah,⟨by omega,by omega⟩,fk _ _ _ false h1,rfl,aa⟩
   | true=>
    simp only[kb,h1,iY,jr]at h;exact aa0 ⟨b6 (a1 ah),bw,bE (a1 ah),bA b7.e ah,⟨by omega,by omega⟩,fk _ _ _ true h1,rfl,bw,bE (a1 ah),bA b7.e ah,fk _ _ _ false (by simpa using h),rfl,aa⟩)
  (aa2 ⟨dz,aa⟩)
 grind
theorem acT(c:bb)(al:c.sz<=8388608)(hw:gb c):ar 56 [.agg c.e] [.one (B (cM c))]:=by
 have av:=w7 c.aC (lk al);unfold cM;cases h1:dY c.aC with
 | false=>rw[h1]at av;exact ZL ⟨av,rfl,aa⟩
 | true=>
 rw[h1]at av;have a8:=nt h1;have aK:aI .i64 (c.aC.ay*c.aC.ay):=by
  have ax:c.aC.ay=1\/c.aC.ay=2\/c.aC.ay=3\/c.aC.ay=4:=by omega
  rcases ax with ax | ax | ax | ax<;>(rw[ax];exact⟨by decide,by decide⟩)
 cases U:((c.ay.length:Int)==c.aC.ay) with
 | false=>exact ZM ⟨av,rfl,by grind,aa⟩
 | true=>
 have v2:((↑(c.ay.map aR.e).length:Int) != c.aC.ay)=false:=by grind
 cases ax:((c.bW.length:Int)==c.aC.ay*c.aC.ay) with
 | false=>exact ZN ⟨av,rfl,v2,aK,by grind,aa⟩
 | true=>
 have v3:((↑(c.bW.map bu.e).length:Int) != c.aC.ay*c.aC.ay)=false:=by grind
 cases aJ:(c.tokens.length==4) with
 | false=>exact Ze ⟨av,rfl,v2,aK,v3,sG aJ,aa⟩
 | true=>
 rcases abl c al (eq_of_beq U) with⟨aY,mV⟩ | ⟨aY,mV⟩
 case inr=>rw[aY];exact Zi ⟨av,rfl,v2,aK,v3,fp aJ,mV,aa⟩
 rw[aY];rcases abm c al hw a8.1 with⟨bx,pc⟩ | ⟨bx,pc⟩
 case inr=>rw[bx];exact aaQ ⟨av,rfl,v2,aK,v3,fp aJ,mV,pc,aa⟩
 rw[bx];rcases abn c al a8 with⟨bN,rA⟩ | ⟨bN,rA⟩
 case inr=>rw[bN];exact aaY ⟨av,rfl,v2,aK,v3,fp aJ,mV,pc,rA,aa⟩
 rw[bN];rcases abo c al a8 with⟨db,iN⟩ | ⟨db,iN⟩
 ·rw[db];exact aa4 ⟨av,rfl,v2,aK,v3,fp aJ,mV,pc,rA,iN,aa⟩
 rw[db];exact aa3 ⟨av,rfl,v2,aK,v3,fp aJ,mV,pc,rA,iN,aa⟩
theorem acU(c:bb)(al:c.sz<=8388608)(a8:(c.ay.length:Int)=c.aC.ay):
  ((c.ay.any fun w=>!eu c.aC w)=false/\cV prog (ao f55 0) (rH c.aC.ay (c.ay.map aR.e) 0 (c.aC.nodes.map Node.e) c.aC.ay c.aC.cap (c.ay.map aR.e) (c.bW.map bu.e) (c.tokens.map bV.e) (c.news.map b7.e)) (.exit 0) (Hr c.aC.ay (c.aC.nodes.map Node.e) c.aC.ay c.aC.cap (c.ay.map aR.e) (c.bW.map bu.e) (c.tokens.map bV.e) (c.news.map b7.e)))\/
  ((c.ay.any fun w=>!eu c.aC w)=true/\cV prog (ao f55 0) (rH c.aC.ay (c.ay.map aR.e) 0 (c.aC.nodes.map Node.e) c.aC.ay c.aC.cap (c.ay.map aR.e) (c.bW.map bu.e) (c.tokens.map bV.e) (c.news.map b7.e)) .ret (Cy false)):=by
 have ap:=bb.Aj al;have l:=gy (P:=prog) (c:=(ao f55 0)) c.ay (fun w=>!eu c.aC w) (fun i=>rH c.aC.ay (c.ay.map aR.e) i (c.aC.nodes.map Node.e) c.aC.ay c.aC.cap (c.ay.map aR.e) (c.bW.map bu.e) (c.tokens.map bV.e) (c.news.map b7.e)) (X:=fun _ _=>Cy false) e7 (cH 0)
  (fun i a ah h=>by
   have k:=Dv c.aC a (lk al) (bb.D0 al (eA ah));rw[show eu c.aC a=true by simpa using h]at k;exact aba ⟨b6 (a1 ah),bw,bE (a1 ah),bA aR.e ah,k,rfl,dc (a1 ah) ap,aa⟩)
  (fun i a ah h=>by
   have k:=Dv c.aC a (lk al) (bb.D0 al (eA ah));rw[show eu c.aC a=false by simpa using h]at k;exact aa9 ⟨b6 (a1 ah),bw,bE (a1 ah),bA aR.e ah,k,rfl,aa⟩)
  (abb ⟨dz,aa⟩)
 grind
theorem acV(c:bb)(al:c.sz<=8388608)(hw:gb c)(a8:1<=c.aC.ay):
  (anyI (iS c.aC) 0 c.bW=false/\cV prog (ao f55 1) (k2 c.aC.ay (c.bW.map bu.e) 0 (c.aC.nodes.map Node.e) c.aC.ay c.aC.cap (c.ay.map aR.e) (c.bW.map bu.e) (c.tokens.map bV.e) (c.news.map b7.e)) (.exit 2) (zR c.aC.ay (c.aC.nodes.map Node.e) c.aC.ay c.aC.cap (c.ay.map aR.e) (c.bW.map bu.e) (c.tokens.map bV.e) (c.news.map b7.e)))\/
  (anyI (iS c.aC) 0 c.bW=true/\cV prog (ao f55 1) (k2 c.aC.ay (c.bW.map bu.e) 0 (c.aC.nodes.map Node.e) c.aC.ay c.aC.cap (c.ay.map aR.e) (c.bW.map bu.e) (c.tokens.map bV.e) (c.news.map b7.e)) .ret (w' false)):=by
 have ap:=bb.B5 al;have lp:∀(i:Nat) (a:bu),c.bW[i]?=some a->∀r,iR a=r->ar 188 [.agg a.e] [.one (B r)]:=fun i a ah r h=>h▸aaf a (bb.B4 al (eA ah)) (hw _ (eA ah))
 have gK:∀(i:Nat) (a:bu),c.bW[i]?=some a->∀r,fB c.aC a.queue=r->ar 189 [.agg c.aC.e,.one (.J 5 (a.queue.map aB.e))] [.one (B r)]:=fun i a ah r h=>uR c.aC _ r h (lk al) (bb.B4 al (eA ah))
 exact s9 (P:=prog) (c:=(ao f55 1)) c.bW (iS c.aC) (fun i=>k2 c.aC.ay (c.bW.map bu.e) i (c.aC.nodes.map Node.e) c.aC.ay c.aC.cap (c.ay.map aR.e) (c.bW.map bu.e) (c.tokens.map bV.e) (c.news.map b7.e)) e7 (cH 2)
  (fun i a ah h=>by
   have hi:=a1 ah;simp only[iS,gn,kg]at h;obtain⟨h1,U,ax,aJ⟩:=h;cases aY:((i:Int).tdiv c.aC.ay==(i:Int).tmod c.aC.ay) with
   | true=>
    rw[aY,oz]at aJ;exact aar ⟨b6 (a1 ah),bw,bE (a1 ah),bA bu.e ah,lp i a ah _ h1,rfl,U,gK i a ah _ ax,rfl,by omega,xb i _ (by omega) a8,by omega,aY,by grind,dc hi ap,aa⟩
   | false=>exact aas ⟨b6 (a1 ah),bw,bE (a1 ah),bA bu.e ah,lp i a ah _ h1,rfl,U,gK i a ah _ ax,rfl,by omega,xb i _ (by omega) a8,by omega,aY,dc hi ap,aa⟩)
  (fun i a ah h=>by
   have hi:=a1 ah;cases h1:iR a with
   | false=>exact abe ⟨b6 (a1 ah),bw,bE (a1 ah),bA bu.e ah,lp i a ah _ h1,rfl,aa⟩
   | true=>
   cases U:(a.cap != c.aC.cap) with
   | true=>exact aao ⟨b6 (a1 ah),bw,bE (a1 ah),bA bu.e ah,lp i a ah _ h1,rfl,U,aa⟩
   | false=>
   cases ax:fB c.aC a.queue with
   | false=>exact aap ⟨b6 (a1 ah),bw,bE (a1 ah),bA bu.e ah,lp i a ah _ h1,rfl,U,gK i a ah _ ax,rfl,aa⟩
   | true=>
   simp only[iS,h1,U,ax,iY,jr,cF]at h;exact aaq ⟨b6 (a1 ah),bw,bE (a1 ah),bA bu.e ah,lp i a ah _ h1,rfl,U,gK i a ah _ ax,rfl,by omega,xb i _ (by omega) a8,by omega,h.1,by grind,aa⟩)
  (aat ⟨dz,aa⟩)
theorem acW(c:bb)(al:c.sz<=8388608)(a8:1<=c.aC.ay/\c.aC.ay<=4):
  ((c.tokens.any (ka c.aC.ay))=false/\cV prog (ao f55 2) (lF c.aC.ay (c.tokens.map bV.e) 0 (c.aC.nodes.map Node.e) c.aC.ay c.aC.cap (c.ay.map aR.e) (c.bW.map bu.e) (c.tokens.map bV.e) (c.news.map b7.e)) (.exit 4) (Cz c.aC.ay (c.aC.nodes.map Node.e) c.aC.ay c.aC.cap (c.ay.map aR.e) (c.bW.map bu.e) (c.tokens.map bV.e) (c.news.map b7.e)))\/
  ((c.tokens.any (ka c.aC.ay))=true/\cV prog (ao f55 2) (lF c.aC.ay (c.tokens.map bV.e) 0 (c.aC.nodes.map Node.e) c.aC.ay c.aC.cap (c.ay.map aR.e) (c.bW.map bu.e) (c.tokens.map bV.e) (c.news.map b7.e)) .ret (uP false)):=by
 have ap:=R0 al;have l:=gy (P:=prog) (c:=(ao f55 2)) c.tokens (ka c.aC.ay) (fun i=>lF c.aC.ay (c.tokens.map bV.e) i (c.aC.nodes.map Node.e) c.aC.ay c.aC.cap (c.ay.map aR.e) (c.bW.map bu.e) (c.tokens.map bV.e) (c.news.map b7.e)) (X:=fun _ _=>uP false) e7 (cH 4)
  (fun i a ah h=>by
   have hi:=a1 ah;simp only[ka,gn,kg]at h;obtain⟨h1,U,ax⟩:=h;cases av:a.going with
   | false=>
    rw[av,nF,oz]at U;exact aay ⟨b6 (a1 ah),bw,bE (a1 ah),bA bV.e ah,⟨by omega,by omega⟩,h4 true h1,rfl,by rw[av];rfl,U,h4 true ax,rfl,dc hi ap,aa⟩
   | true=>exact aaA ⟨b6 (a1 ah),bw,bE (a1 ah),bA bV.e ah,⟨by omega,by omega⟩,h4 true h1,rfl,by rw[av];rfl,h4 true ax,rfl,dc hi ap,aa⟩)
  (fun i a ah h=>by
   have hi:=a1 ah;cases h1:aq a.place 0 (c.aC.ay-1) with
   | false=>exact aav ⟨b6 (a1 ah),bw,bE (a1 ah),bA bV.e ah,⟨by omega,by omega⟩,h4 false h1,rfl,aa⟩
   | true=>
   simp only[ka,h1,iY,jr]at h;cases av:a.going with
   | false=>
    rw[av,nF,oz]at h;cases U:(a.place != 0) with
    | true=>exact aaw ⟨b6 (a1 ah),bw,bE (a1 ah),bA bV.e ah,⟨by omega,by omega⟩,h4 true h1,rfl,by rw[av];rfl,U,aa⟩
    | false=>
     rw[U,jr]at h;exact aax ⟨b6 (a1 ah),bw,bE (a1 ah),bA bV.e ah,⟨by omega,by omega⟩,h4 true h1,rfl,by rw[av];rfl,U,h4 false (by simpa using h),rfl,aa⟩
   | true=>
    rw[av,iY,Bool.false_and,jr]at h;exact aaz ⟨b6 (a1 ah),bw,bE (a1 ah),bA bV.e ah,⟨by omega,by omega⟩,h4 true h1,rfl,by rw[av];rfl,h4 false (by simpa using h),rfl,aa⟩)
  (aaB ⟨dz,aa⟩)
 grind
theorem acX(c:bb)(al:c.sz<=8388608)(a8:1<=c.aC.ay/\c.aC.ay<=4):
  ((c.news.any (kb c.aC.ay))=false/\cV prog (ao f55 3) (qn c.aC.ay (c.news.map b7.e) 0) (.exit 6) Jz)\/
  ((c.news.any (kb c.aC.ay))=true/\cV prog (ao f55 3) (qn c.aC.ay (c.news.map b7.e) 0) .ret (zS false)):=by
 have ap:=Dx al;have l:=gy (P:=prog) (c:=(ao f55 3)) c.news (kb c.aC.ay) (fun i=>qn c.aC.ay (c.news.map b7.e) i) (X:=fun _ _=>zS false) e7 (cH 6)
  (fun i a ah h=>by
   have hi:=a1 ah;simp only[kb,gn,kg]at h;exact aaF ⟨b6 (a1 ah),bw,bE (a1 ah),bA b7.e ah,⟨by omega,by omega⟩,h4 true h.1,rfl,h4 true h.2,rfl,dc hi ap,aa⟩)
  (fun i a ah h=>by
   have hi:=a1 ah;cases h1:aq a.dest 0 (c.aC.ay-1) with
   | false=>exact aaD ⟨b6 (a1 ah),bw,bE (a1 ah),bA b7.e ah,⟨by omega,by omega⟩,h4 false h1,rfl,aa⟩
   | true=>
    simp only[kb,h1,iY,jr]at h;exact aaE ⟨b6 (a1 ah),bw,bE (a1 ah),bA b7.e ah,⟨by omega,by omega⟩,h4 true h1,rfl,h4 false (by simpa using h),rfl,aa⟩)
  (aaG ⟨dz,aa⟩)
 grind
theorem acY(c:bb)(al:c.sz<=8388608)(hw:gb c):ar 55 [.agg c.e] [.one (B (cM c))]:=by
 have av:=w8 c.aC (lk al);unfold cM;cases h1:dY c.aC with
 | false=>rw[h1]at av;exact aa5 ⟨av,rfl,aa⟩
 | true=>
 rw[h1]at av;have a8:=nt h1;have aK:aI .i64 (c.aC.ay*c.aC.ay):=by
  have ax:c.aC.ay=1\/c.aC.ay=2\/c.aC.ay=3\/c.aC.ay=4:=by omega
  rcases ax with ax | ax | ax | ax<;>(rw[ax];exact⟨by decide,by decide⟩)
 cases U:((c.ay.length:Int)==c.aC.ay) with
 | false=>exact aa6 ⟨av,rfl,by grind,aa⟩
 | true=>
 have v2:((↑(c.ay.map aR.e).length:Int) != c.aC.ay)=false:=by grind
 cases ax:((c.bW.length:Int)==c.aC.ay*c.aC.ay) with
 | false=>exact aa7 ⟨av,rfl,v2,aK,by grind,aa⟩
 | true=>
 have v3:((↑(c.bW.map bu.e).length:Int) != c.aC.ay*c.aC.ay)=false:=by grind
 cases aJ:(c.tokens.length==4) with
 | false=>exact aa8 ⟨av,rfl,v2,aK,v3,sG aJ,aa⟩
 | true=>
 rcases acU c al (eq_of_beq U) with⟨aY,mV⟩ | ⟨aY,mV⟩
 case inr=>rw[aY];exact abd ⟨av,rfl,v2,aK,v3,fp aJ,mV,aa⟩
 rw[aY];rcases acV c al hw a8.1 with⟨bx,pc⟩ | ⟨bx,pc⟩
 case inr=>rw[bx];exact aau ⟨av,rfl,v2,aK,v3,fp aJ,mV,pc,aa⟩
 rw[bx];rcases acW c al a8 with⟨bN,rA⟩ | ⟨bN,rA⟩
 case inr=>rw[bN];exact aaC ⟨av,rfl,v2,aK,v3,fp aJ,mV,pc,rA,aa⟩
 rw[bN];rcases acX c al a8 with⟨db,iN⟩ | ⟨db,iN⟩
 ·rw[db];exact aaI ⟨av,rfl,v2,aK,v3,fp aJ,mV,pc,rA,iN,aa⟩
 rw[db];exact aaH ⟨av,rfl,v2,aK,v3,fp aJ,mV,pc,rA,iN,aa⟩
