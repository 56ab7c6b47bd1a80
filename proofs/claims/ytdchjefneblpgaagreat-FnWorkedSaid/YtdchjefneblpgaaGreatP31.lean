import Derived.Test.YtdchjefneblpgaaGreatP21
set_option linter.unusedVariables false
set_option linter.unusedSimpArgs false
namespace Go.Proofs.YtdchjefneblpgaaGreat
open Go.Sx Go.RowKit Go.Proofs.Tryz
variable{c:bb}
theorem ln(h:c.sz<=8388608):c.aC.sz<=8388608:=by grind[bb.sz]
theorem R2(h:c.sz<=8388608):c.tokens.length<=8388608:=by grind[bb.sz,eZ]
theorem Dz(h:c.sz<=8388608):c.news.length<=8388608:=by grind[bb.sz,eZ]
def iS(g:bR)(i:Nat)(l:bu):Bool:=
 !iR l||((l.cap != g.cap)||(!fB g l.queue||((i:Int).tdiv g.ay==(i:Int).tmod g.ay&&decide ((l.queue.length:Int)>0))))
def ka(n:Int)(t:bW):Bool:=!aq t.place 0 (n-1)||((!t.going&&t.place != 0)||!aq t.sum (-1000000) 1000000)
def kb(n:Int)(x:b7):Bool:=!aq x.dest 0 (n-1)||!aq x.bc 0 3
def cM(c:bb):Bool:=
 dY c.aC&&(((c.ay.length:Int)==c.aC.ay)&&(((c.bV.length:Int)==c.aC.ay*c.aC.ay)&&((c.tokens.length==4)&&(!(c.ay.any fun w=>!et c.aC w)&&(!(anyI (iS c.aC) 0 c.bV)&&(!(c.tokens.any (ka c.aC.ay))&&!(c.news.any (kb c.aC.ay))))))))
theorem nu{g:bR}(h:dY g=true):1<=g.ay/\g.ay<=4:=by
 simp_all[dY,cF,aq,cU]
theorem xc(i:Nat)(n:Int)(hi:i<=8388608)(a8:1<=n):aJ .i64 ((i:Int).tdiv n):=by
 have h1:0<=(i:Int).tdiv n:=Int.tdiv_nonneg (by omega) (by omega);have U:(i:Int).tdiv n<=(i:Int):=Int.tdiv_le_self _ (by omega);exact⟨by omega,by omega⟩
theorem abo(h:c.wf){l:bu}(ap:l∈c.bV):l.dh<=9223372036854775807:=by
 have:=(bb.Ha h ap).MF;grind[aJ]
def gb(c:bb):Prop:=∀l∈c.bV,l.dh<=9223372036854775807
theorem gb.of(h:c.wf):gb c:=fun _ ap=>abo h ap
theorem abp(c:bb)(al:c.sz<=8388608)(a8:(c.ay.length:Int)=c.aC.ay):
  ((c.ay.any fun w=>!et c.aC w)=false/\cW prog (ao f56 0) (rI (c.aC.nodes.map Node.e) c.aC.ay c.aC.cap (c.ay.map aR.e) (c.bV.map bu.e) (c.tokens.map bW.e) (c.news.map b7.e) 0) (.exit 0) (Hr (c.aC.nodes.map Node.e) c.aC.ay c.aC.cap (c.ay.map aR.e) (c.bV.map bu.e) (c.tokens.map bW.e) (c.news.map b7.e)))\/
  ((c.ay.any fun w=>!et c.aC w)=true/\cW prog (ao f56 0) (rI (c.aC.nodes.map Node.e) c.aC.ay c.aC.cap (c.ay.map aR.e) (c.bV.map bu.e) (c.tokens.map bW.e) (c.news.map b7.e) 0) .ret (Cy false)):=by
 have ap:=bb.Al al;have l:=gy (P:=prog) (c:=(ao f56 0)) c.ay (fun w=>!et c.aC w) (fun i=>rI (c.aC.nodes.map Node.e) c.aC.ay c.aC.cap (c.ay.map aR.e) (c.bV.map bu.e) (c.tokens.map bW.e) (c.news.map b7.e) i) (X:=fun _ _=>Cy false) e7 (cH 0)
  (fun i a ag h=>by
   have k:=Dw c.aC a (ln al) (bb.D2 al (eA ag));rw[show et c.aC a=true by simpa using h]at k;exact Zk ⟨dM (by grind),bw,bE (a1 ag),bA aR.e ag,k,rfl,dc (a1 ag) ap,aa⟩)
  (fun i a ag h=>by
   have k:=Dw c.aC a (ln al) (bb.D2 al (eA ag));rw[show et c.aC a=false by simpa using h]at k;exact Zj ⟨dM (by grind),bw,bE (a1 ag),bA aR.e ag,k,rfl,aa⟩)
  (Zl ⟨eL (by omega),aa⟩)
 grind
theorem abq(c:bb)(al:c.sz<=8388608)(hw:gb c)(a8:1<=c.aC.ay):
  (anyI (iS c.aC) 0 c.bV=false/\cW prog (ao f56 1) (k4 c.aC.ay 0 (c.aC.nodes.map Node.e) c.aC.ay c.aC.cap (c.ay.map aR.e) (c.bV.map bu.e) (c.tokens.map bW.e) (c.news.map b7.e)) (.exit 2) (zR c.aC.ay (c.aC.nodes.map Node.e) c.aC.ay c.aC.cap (c.ay.map aR.e) (c.bV.map bu.e) (c.tokens.map bW.e) (c.news.map b7.e)))\/
  (anyI (iS c.aC) 0 c.bV=true/\cW prog (ao f56 1) (k4 c.aC.ay 0 (c.aC.nodes.map Node.e) c.aC.ay c.aC.cap (c.ay.map aR.e) (c.bV.map bu.e) (c.tokens.map bW.e) (c.news.map b7.e)) .ret (w' false)):=by
 have ap:=bb.B7 al;have lu:∀(i:Nat) (a:bu),c.bV[i]?=some a->∀r,iR a=r->ar 191 [.agg a.e] [.one (B r)]:=fun i a ag r h=>h▸CD a (bb.B6 al (eA ag))
 have gL:∀(i:Nat) (a:bu),c.bV[i]?=some a->∀r,fB c.aC a.queue=r->ar 192 [.agg c.aC.e,.one (.J 5 (a.queue.map aB.e))] [.one (B r)]:=fun i a ag r h=>uT c.aC _ r h (ln al) (bb.B6 al (eA ag))
 exact s' (P:=prog) (c:=(ao f56 1)) c.bV (iS c.aC) (fun i=>k4 c.aC.ay i (c.aC.nodes.map Node.e) c.aC.ay c.aC.cap (c.ay.map aR.e) (c.bV.map bu.e) (c.tokens.map bW.e) (c.news.map b7.e)) e7 (cH 2)
  (fun i a ag h=>by
   have hi:=a1 ag;simp only[iS,gn,kg]at h;obtain⟨h1,U,ax,aI⟩:=h;cases aX:((i:Int).tdiv c.aC.ay==(i:Int).tmod c.aC.ay) with
   | true=>
    rw[aX,oA]at aI;exact Zr ⟨b6 (a1 ag),bw,bE (a1 ag),bA bu.e ag,lu i a ag _ h1,rfl,U,gL i a ag _ ax,rfl,by omega,xc i _ (by omega) a8,by omega,aX,by grind,dc hi ap,aa⟩
   | false=>exact aaS ⟨b6 (a1 ag),bw,bE (a1 ag),bA bu.e ag,lu i a ag _ h1,rfl,U,gL i a ag _ ax,rfl,by omega,xc i _ (by omega) a8,by omega,aX,dc hi ap,aa⟩)
  (fun i a ag h=>by
   have hi:=a1 ag;cases h1:iR a with
   | false=>exact Zn ⟨b6 (a1 ag),bw,bE (a1 ag),bA bu.e ag,lu i a ag _ h1,rfl,aa⟩
   | true=>
   cases U:(a.cap != c.aC.cap) with
   | true=>exact Zo ⟨b6 (a1 ag),bw,bE (a1 ag),bA bu.e ag,lu i a ag _ h1,rfl,U,aa⟩
   | false=>
   cases ax:fB c.aC a.queue with
   | false=>exact Zp ⟨b6 (a1 ag),bw,bE (a1 ag),bA bu.e ag,lu i a ag _ h1,rfl,U,gL i a ag _ ax,rfl,aa⟩
   | true=>
   simp only[iS,h1,U,ax,iY,jt,cF]at h;exact Zq ⟨b6 (a1 ag),bw,bE (a1 ag),bA bu.e ag,lu i a ag _ h1,rfl,U,gL i a ag _ ax,rfl,by omega,xc i _ (by omega) a8,by omega,h.1,by grind,aa⟩)
  (aaT ⟨dz,aa⟩)
theorem abr(c:bb)(al:c.sz<=8388608)(a8:1<=c.aC.ay/\c.aC.ay<=4):
  ((c.tokens.any (ka c.aC.ay))=false/\cW prog (ao f56 2) (lH c.aC.ay (c.aC.nodes.map Node.e) c.aC.ay c.aC.cap (c.ay.map aR.e) (c.bV.map bu.e) (c.tokens.map bW.e) (c.news.map b7.e) 0) (.exit 4) (Cz c.aC.ay (c.aC.nodes.map Node.e) c.aC.ay c.aC.cap (c.ay.map aR.e) (c.bV.map bu.e) (c.tokens.map bW.e) (c.news.map b7.e)))\/
  ((c.tokens.any (ka c.aC.ay))=true/\cW prog (ao f56 2) (lH c.aC.ay (c.aC.nodes.map Node.e) c.aC.ay c.aC.cap (c.ay.map aR.e) (c.bV.map bu.e) (c.tokens.map bW.e) (c.news.map b7.e) 0) .ret (uR false)):=by
 have ap:=R2 al;have l:=gy (P:=prog) (c:=(ao f56 2)) c.tokens (ka c.aC.ay) (fun i=>lH c.aC.ay (c.aC.nodes.map Node.e) c.aC.ay c.aC.cap (c.ay.map aR.e) (c.bV.map bu.e) (c.tokens.map bW.e) (c.news.map b7.e) i) (X:=fun _ _=>uR false) e7 (cH 4)
  (fun i a ag h=>by
   have hi:=a1 ag;simp only[ka,gn,kg]at h;obtain⟨h1,U,ax⟩:=h;cases av:a.going with
   | false=>
    rw[av,nG,oA]at U;exact aaY ⟨b6 (a1 ag),bw,bE (a1 ag),bA bW.e ag,⟨by omega,by omega⟩,fk true h1,rfl,bw,bE (a1 ag),bA bW.e ag,by rw[av];rfl,bw,bE (a1 ag),bA bW.e ag,U,bw,bE (a1 ag),bA bW.e ag,fk true ax,rfl,dc hi ap,aa⟩
   | true=>exact aa0 ⟨b6 (a1 ag),bw,bE (a1 ag),bA bW.e ag,⟨by omega,by omega⟩,fk true h1,rfl,bw,bE (a1 ag),bA bW.e ag,by rw[av];rfl,bw,bE (a1 ag),bA bW.e ag,fk true ax,rfl,dc hi ap,aa⟩)
  (fun i a ag h=>by
   have hi:=a1 ag;cases h1:aq a.place 0 (c.aC.ay-1) with
   | false=>exact aaV ⟨b6 (a1 ag),bw,bE (a1 ag),bA bW.e ag,⟨by omega,by omega⟩,fk false h1,rfl,aa⟩
   | true=>
   simp only[ka,h1,iY,jt]at h;cases av:a.going with
   | false=>
    rw[av,nG,oA]at h;cases U:(a.place != 0) with
    | true=>exact aaW ⟨b6 (a1 ag),bw,bE (a1 ag),bA bW.e ag,⟨by omega,by omega⟩,fk true h1,rfl,bw,bE (a1 ag),bA bW.e ag,by rw[av];rfl,bw,bE (a1 ag),bA bW.e ag,U,aa⟩
    | false=>
     rw[U,jt]at h;exact aaX ⟨b6 (a1 ag),bw,bE (a1 ag),bA bW.e ag,⟨by omega,by omega⟩,fk true h1,rfl,bw,bE (a1 ag),bA bW.e ag,by rw[av];rfl,bw,bE (a1 ag),bA bW.e ag,U,bw,bE (a1 ag),bA bW.e ag,fk false (by simpa using h),rfl,aa⟩
   | true=>
    rw[av,iY,Bool.false_and,jt]at h;exact aaZ ⟨b6 (a1 ag),bw,bE (a1 ag),bA bW.e ag,⟨by omega,by omega⟩,fk true h1,rfl,bw,bE (a1 ag),bA bW.e ag,by rw[av];rfl,bw,bE (a1 ag),bA bW.e ag,fk false (by simpa using h),rfl,aa⟩)
  (aa1 ⟨dz,aa⟩)
 grind
theorem abt(c:bb)(al:c.sz<=8388608)(a8:1<=c.aC.ay/\c.aC.ay<=4):
  ((c.news.any (kb c.aC.ay))=false/\cW prog (ao f56 3) (qm c.aC.ay (c.aC.nodes.map Node.e) c.aC.ay c.aC.cap (c.ay.map aR.e) (c.bV.map bu.e) (c.tokens.map bW.e) (c.news.map b7.e) 0) (.exit 6) Jz)\/
  ((c.news.any (kb c.aC.ay))=true/\cW prog (ao f56 3) (qm c.aC.ay (c.aC.nodes.map Node.e) c.aC.ay c.aC.cap (c.ay.map aR.e) (c.bV.map bu.e) (c.tokens.map bW.e) (c.news.map b7.e) 0) .ret (zS false)):=by
 have ap:=Dz al;have l:=gy (P:=prog) (c:=(ao f56 3)) c.news (kb c.aC.ay) (fun i=>qm c.aC.ay (c.aC.nodes.map Node.e) c.aC.ay c.aC.cap (c.ay.map aR.e) (c.bV.map bu.e) (c.tokens.map bW.e) (c.news.map b7.e) i) (X:=fun _ _=>zS false) e7 (cH 6)
  (fun i a ag h=>by
   have hi:=a1 ag;simp only[kb,gn,kg]at h;exact aa5 ⟨b6 (a1 ag),bw,bE (a1 ag),bA b7.e ag,⟨by omega,by omega⟩,fk true h.1,rfl,bw,bE (a1 ag),bA b7.e ag,fk true h.2,rfl,dc hi ap,aa⟩)
  (fun i a ag h=>by
   have hi:=a1 ag;cases h1:aq a.dest 0 (c.aC.ay-1) with
   | false=>exact aa3 ⟨b6 (a1 ag),bw,bE (a1 ag),bA b7.e ag,⟨by omega,by omega⟩,fk false h1,rfl,aa⟩
   | true=>
    simp only[kb,h1,iY,jt]at h;exact aa4 ⟨b6 (a1 ag),bw,bE (a1 ag),bA b7.e ag,⟨by omega,by omega⟩,fk true h1,rfl,bw,bE (a1 ag),bA b7.e ag,fk false (by simpa using h),rfl,aa⟩)
  (aa6 ⟨dz,aa⟩)
 grind
theorem acX(c:bb)(al:c.sz<=8388608)(hw:gb c):ar 56 [.agg c.e] [.one (B (cM c))]:=by
 have av:=w8 c.aC (ln al);unfold cM;cases h1:dY c.aC with
 | false=>rw[h1]at av;exact ZP ⟨av,rfl,aa⟩
 | true=>
 rw[h1]at av;have a8:=nu h1;have aK:aJ .i64 (c.aC.ay*c.aC.ay):=by
  have ax:c.aC.ay=1\/c.aC.ay=2\/c.aC.ay=3\/c.aC.ay=4:=by omega
  rcases ax with ax | ax | ax | ax<;>(rw[ax];exact⟨by decide,by decide⟩)
 cases U:((c.ay.length:Int)==c.aC.ay) with
 | false=>exact ZQ ⟨av,rfl,by grind,aa⟩
 | true=>
 have v2:((↑(c.ay.map aR.e).length:Int) != c.aC.ay)=false:=by grind
 cases ax:((c.bV.length:Int)==c.aC.ay*c.aC.ay) with
 | false=>exact ZR ⟨av,rfl,v2,aK,by grind,aa⟩
 | true=>
 have v3:((↑(c.bV.map bu.e).length:Int) != c.aC.ay*c.aC.ay)=false:=by grind
 cases aI:(c.tokens.length==4) with
 | false=>exact Zi ⟨av,rfl,v2,aK,v3,sH aI,aa⟩
 | true=>
 rcases abp c al (eq_of_beq U) with⟨aX,mW⟩ | ⟨aX,mW⟩
 case inr=>rw[aX];exact Zm ⟨av,rfl,v2,aK,v3,fp aI,mW,aa⟩
 rw[aX];rcases abq c al hw a8.1 with⟨bx,pc⟩ | ⟨bx,pc⟩
 case inr=>rw[bx];exact aaU ⟨av,rfl,v2,aK,v3,fp aI,mW,pc,aa⟩
 rw[bx];rcases abr c al a8 with⟨bN,rA⟩ | ⟨bN,rA⟩
 case inr=>rw[bN];exact aa2 ⟨av,rfl,v2,aK,v3,fp aI,mW,pc,rA,aa⟩
 rw[bN];rcases abt c al a8 with⟨db,iN⟩ | ⟨db,iN⟩
 ·rw[db];exact aa8 ⟨av,rfl,v2,aK,v3,fp aI,mW,pc,rA,iN,aa⟩
 rw[db];exact aa7 ⟨av,rfl,v2,aK,v3,fp aI,mW,pc,rA,iN,aa⟩
theorem acY(c:bb)(al:c.sz<=8388608)(a8:(c.ay.length:Int)=c.aC.ay):
  ((c.ay.any fun w=>!et c.aC w)=false/\cW prog (ao f55 0) (rH c.aC.ay (c.ay.map aR.e) 0 (c.aC.nodes.map Node.e) c.aC.ay c.aC.cap (c.ay.map aR.e) (c.bV.map bu.e) (c.tokens.map bW.e) (c.news.map b7.e)) (.exit 0) (Hs c.aC.ay (c.aC.nodes.map Node.e) c.aC.ay c.aC.cap (c.ay.map aR.e) (c.bV.map bu.e) (c.tokens.map bW.e) (c.news.map b7.e)))\/
  ((c.ay.any fun w=>!et c.aC w)=true/\cW prog (ao f55 0) (rH c.aC.ay (c.ay.map aR.e) 0 (c.aC.nodes.map Node.e) c.aC.ay c.aC.cap (c.ay.map aR.e) (c.bV.map bu.e) (c.tokens.map bW.e) (c.news.map b7.e)) .ret (CA false)):=by
 have ap:=bb.Al al;have l:=gy (P:=prog) (c:=(ao f55 0)) c.ay (fun w=>!et c.aC w) (fun i=>rH c.aC.ay (c.ay.map aR.e) i (c.aC.nodes.map Node.e) c.aC.ay c.aC.cap (c.ay.map aR.e) (c.bV.map bu.e) (c.tokens.map bW.e) (c.news.map b7.e)) (X:=fun _ _=>CA false) e7 (cH 0)
  (fun i a ag h=>by
   have k:=Dx c.aC a (ln al) (bb.D2 al (eA ag));rw[show et c.aC a=true by simpa using h]at k;exact abf ⟨b6 (a1 ag),bw,bE (a1 ag),bA aR.e ag,k,rfl,dc (a1 ag) ap,aa⟩)
  (fun i a ag h=>by
   have k:=Dx c.aC a (ln al) (bb.D2 al (eA ag));rw[show et c.aC a=false by simpa using h]at k;exact abe ⟨b6 (a1 ag),bw,bE (a1 ag),bA aR.e ag,k,rfl,aa⟩)
  (abg ⟨dz,aa⟩)
 grind
theorem acZ(c:bb)(al:c.sz<=8388608)(hw:gb c)(a8:1<=c.aC.ay):
  (anyI (iS c.aC) 0 c.bV=false/\cW prog (ao f55 1) (k5 c.aC.ay (c.bV.map bu.e) 0 (c.aC.nodes.map Node.e) c.aC.ay c.aC.cap (c.ay.map aR.e) (c.bV.map bu.e) (c.tokens.map bW.e) (c.news.map b7.e)) (.exit 2) (zT c.aC.ay (c.aC.nodes.map Node.e) c.aC.ay c.aC.cap (c.ay.map aR.e) (c.bV.map bu.e) (c.tokens.map bW.e) (c.news.map b7.e)))\/
  (anyI (iS c.aC) 0 c.bV=true/\cW prog (ao f55 1) (k5 c.aC.ay (c.bV.map bu.e) 0 (c.aC.nodes.map Node.e) c.aC.ay c.aC.cap (c.ay.map aR.e) (c.bV.map bu.e) (c.tokens.map bW.e) (c.news.map b7.e)) .ret (xa false)):=by
 have ap:=bb.B7 al;have lu:∀(i:Nat) (a:bu),c.bV[i]?=some a->∀r,iR a=r->ar 188 [.agg a.e] [.one (B r)]:=fun i a ag r h=>h▸aaj a (bb.B6 al (eA ag)) (hw _ (eA ag))
 have gL:∀(i:Nat) (a:bu),c.bV[i]?=some a->∀r,fB c.aC a.queue=r->ar 189 [.agg c.aC.e,.one (.J 5 (a.queue.map aB.e))] [.one (B r)]:=fun i a ag r h=>uU c.aC _ r h (ln al) (bb.B6 al (eA ag))
 exact s' (P:=prog) (c:=(ao f55 1)) c.bV (iS c.aC) (fun i=>k5 c.aC.ay (c.bV.map bu.e) i (c.aC.nodes.map Node.e) c.aC.ay c.aC.cap (c.ay.map aR.e) (c.bV.map bu.e) (c.tokens.map bW.e) (c.news.map b7.e)) e7 (cH 2)
  (fun i a ag h=>by
   have hi:=a1 ag;simp only[iS,gn,kg]at h;obtain⟨h1,U,ax,aI⟩:=h;cases aX:((i:Int).tdiv c.aC.ay==(i:Int).tmod c.aC.ay) with
   | true=>
    rw[aX,oA]at aI;exact aav ⟨b6 (a1 ag),bw,bE (a1 ag),bA bu.e ag,lu i a ag _ h1,rfl,U,gL i a ag _ ax,rfl,by omega,xc i _ (by omega) a8,by omega,aX,by grind,dc hi ap,aa⟩
   | false=>exact aaw ⟨b6 (a1 ag),bw,bE (a1 ag),bA bu.e ag,lu i a ag _ h1,rfl,U,gL i a ag _ ax,rfl,by omega,xc i _ (by omega) a8,by omega,aX,dc hi ap,aa⟩)
  (fun i a ag h=>by
   have hi:=a1 ag;cases h1:iR a with
   | false=>exact abi ⟨b6 (a1 ag),bw,bE (a1 ag),bA bu.e ag,lu i a ag _ h1,rfl,aa⟩
   | true=>
   cases U:(a.cap != c.aC.cap) with
   | true=>exact aas ⟨b6 (a1 ag),bw,bE (a1 ag),bA bu.e ag,lu i a ag _ h1,rfl,U,aa⟩
   | false=>
   cases ax:fB c.aC a.queue with
   | false=>exact aat ⟨b6 (a1 ag),bw,bE (a1 ag),bA bu.e ag,lu i a ag _ h1,rfl,U,gL i a ag _ ax,rfl,aa⟩
   | true=>
   simp only[iS,h1,U,ax,iY,jt,cF]at h;exact aau ⟨b6 (a1 ag),bw,bE (a1 ag),bA bu.e ag,lu i a ag _ h1,rfl,U,gL i a ag _ ax,rfl,by omega,xc i _ (by omega) a8,by omega,h.1,by grind,aa⟩)
  (aax ⟨dz,aa⟩)
theorem ac0(c:bb)(al:c.sz<=8388608)(a8:1<=c.aC.ay/\c.aC.ay<=4):
  ((c.tokens.any (ka c.aC.ay))=false/\cW prog (ao f55 2) (lI c.aC.ay (c.tokens.map bW.e) 0 (c.aC.nodes.map Node.e) c.aC.ay c.aC.cap (c.ay.map aR.e) (c.bV.map bu.e) (c.tokens.map bW.e) (c.news.map b7.e)) (.exit 4) (CB c.aC.ay (c.aC.nodes.map Node.e) c.aC.ay c.aC.cap (c.ay.map aR.e) (c.bV.map bu.e) (c.tokens.map bW.e) (c.news.map b7.e)))\/
  ((c.tokens.any (ka c.aC.ay))=true/\cW prog (ao f55 2) (lI c.aC.ay (c.tokens.map bW.e) 0 (c.aC.nodes.map Node.e) c.aC.ay c.aC.cap (c.ay.map aR.e) (c.bV.map bu.e) (c.tokens.map bW.e) (c.news.map b7.e)) .ret (uS false)):=by
 have ap:=R2 al;have l:=gy (P:=prog) (c:=(ao f55 2)) c.tokens (ka c.aC.ay) (fun i=>lI c.aC.ay (c.tokens.map bW.e) i (c.aC.nodes.map Node.e) c.aC.ay c.aC.cap (c.ay.map aR.e) (c.bV.map bu.e) (c.tokens.map bW.e) (c.news.map b7.e)) (X:=fun _ _=>uS false) e7 (cH 4)
  (fun i a ag h=>by
   have hi:=a1 ag;simp only[ka,gn,kg]at h;obtain⟨h1,U,ax⟩:=h;cases av:a.going with
   | false=>
    rw[av,nG,oA]at U;exact aaC ⟨b6 (a1 ag),bw,bE (a1 ag),bA bW.e ag,⟨by omega,by omega⟩,h4 true h1,rfl,by rw[av];rfl,U,h4 true ax,rfl,dc hi ap,aa⟩
   | true=>exact aaE ⟨b6 (a1 ag),bw,bE (a1 ag),bA bW.e ag,⟨by omega,by omega⟩,h4 true h1,rfl,by rw[av];rfl,h4 true ax,rfl,dc hi ap,aa⟩)
  (fun i a ag h=>by
   have hi:=a1 ag;cases h1:aq a.place 0 (c.aC.ay-1) with
   | false=>exact aaz ⟨b6 (a1 ag),bw,bE (a1 ag),bA bW.e ag,⟨by omega,by omega⟩,h4 false h1,rfl,aa⟩
   | true=>
   simp only[ka,h1,iY,jt]at h;cases av:a.going with
   | false=>
    rw[av,nG,oA]at h;cases U:(a.place != 0) with
    | true=>exact aaA ⟨b6 (a1 ag),bw,bE (a1 ag),bA bW.e ag,⟨by omega,by omega⟩,h4 true h1,rfl,by rw[av];rfl,U,aa⟩
    | false=>
     rw[U,jt]at h;exact aaB ⟨b6 (a1 ag),bw,bE (a1 ag),bA bW.e ag,⟨by omega,by omega⟩,h4 true h1,rfl,by rw[av];rfl,U,h4 false (by simpa using h),rfl,aa⟩
   | true=>
    rw[av,iY,Bool.false_and,jt]at h;exact aaD ⟨b6 (a1 ag),bw,bE (a1 ag),bA bW.e ag,⟨by omega,by omega⟩,h4 true h1,rfl,by rw[av];rfl,h4 false (by simpa using h),rfl,aa⟩)
  (aaF ⟨dz,aa⟩)
 grind
theorem ac1(c:bb)(al:c.sz<=8388608)(a8:1<=c.aC.ay/\c.aC.ay<=4):
  ((c.news.any (kb c.aC.ay))=false/\cW prog (ao f55 3) (qn c.aC.ay (c.news.map b7.e) 0) (.exit 6) JA)\/
  ((c.news.any (kb c.aC.ay))=true/\cW prog (ao f55 3) (qn c.aC.ay (c.news.map b7.e) 0) .ret (zU false)):=by
 have ap:=Dz al;have l:=gy (P:=prog) (c:=(ao f55 3)) c.news (kb c.aC.ay) (fun i=>qn c.aC.ay (c.news.map b7.e) i) (X:=fun _ _=>zU false) e7 (cH 6)
  (fun i a ag h=>by
   have hi:=a1 ag;simp only[kb,gn,kg]at h;exact aaJ ⟨b6 (a1 ag),bw,bE (a1 ag),bA b7.e ag,⟨by omega,by omega⟩,h4 true h.1,rfl,h4 true h.2,rfl,dc hi ap,aa⟩)
  (fun i a ag h=>by
   have hi:=a1 ag;cases h1:aq a.dest 0 (c.aC.ay-1) with
   | false=>exact aaH ⟨b6 (a1 ag),bw,bE (a1 ag),bA b7.e ag,⟨by omega,by omega⟩,h4 false h1,rfl,aa⟩
   | true=>
    simp only[kb,h1,iY,jt]at h;exact aaI ⟨b6 (a1 ag),bw,bE (a1 ag),bA b7.e ag,⟨by omega,by omega⟩,h4 true h1,rfl,h4 false (by simpa using h),rfl,aa⟩)
  (aaK ⟨dz,aa⟩)
 grind
theorem ac2(c:bb)(al:c.sz<=8388608)(hw:gb c):ar 55 [.agg c.e] [.one (B (cM c))]:=by
 have av:=w9 c.aC (ln al);unfold cM;cases h1:dY c.aC with
 | false=>rw[h1]at av;exact aa9 ⟨av,rfl,aa⟩
 | true=>
 rw[h1]at av;have a8:=nu h1;have aK:aJ .i64 (c.aC.ay*c.aC.ay):=by
  have ax:c.aC.ay=1\/c.aC.ay=2\/c.aC.ay=3\/c.aC.ay=4:=by omega
  rcases ax with ax | ax | ax | ax<;>(rw[ax];exact⟨by decide,by decide⟩)
 cases U:((c.ay.length:Int)==c.aC.ay) with
 | false=>exact aba ⟨av,rfl,by grind,aa⟩
 | true=>
 have v2:((↑(c.ay.map aR.e).length:Int) != c.aC.ay)=false:=by grind
 cases ax:((c.bV.length:Int)==c.aC.ay*c.aC.ay) with
 | false=>exact abb ⟨av,rfl,v2,aK,by grind,aa⟩
 | true=>
 have v3:((↑(c.bV.map bu.e).length:Int) != c.aC.ay*c.aC.ay)=false:=by grind
 cases aI:(c.tokens.length==4) with
 | false=>exact abd ⟨av,rfl,v2,aK,v3,sH aI,aa⟩
 | true=>
 rcases acY c al (eq_of_beq U) with⟨aX,mW⟩ | ⟨aX,mW⟩
 case inr=>rw[aX];exact abh ⟨av,rfl,v2,aK,v3,fp aI,mW,aa⟩
 rw[aX];rcases acZ c al hw a8.1 with⟨bx,pc⟩ | ⟨bx,pc⟩
 case inr=>rw[bx];exact aay ⟨av,rfl,v2,aK,v3,fp aI,mW,pc,aa⟩
 rw[bx];rcases ac0 c al a8 with⟨bN,rA⟩ | ⟨bN,rA⟩
 case inr=>rw[bN];exact aaG ⟨av,rfl,v2,aK,v3,fp aI,mW,pc,rA,aa⟩
 rw[bN];rcases ac1 c al a8 with⟨db,iN⟩ | ⟨db,iN⟩
 ·rw[db];exact aaM ⟨av,rfl,v2,aK,v3,fp aI,mW,pc,rA,iN,aa⟩
 rw[db];exact aaL ⟨av,rfl,v2,aK,v3,fp aI,mW,pc,rA,iN,aa⟩
