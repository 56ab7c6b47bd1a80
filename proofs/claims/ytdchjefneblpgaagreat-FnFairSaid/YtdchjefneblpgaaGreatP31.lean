import Derived.Test.YtdchjefneblpgaaGreatP21
set_option linter.unusedVariables false
set_option linter.unusedSimpArgs false
namespace Go.Proofs.YtdchjefneblpgaaGreat
open Go.Sx Go.RowKit Go.Proofs.Tryz
variable{c:aT}
theorem n2(h:c.sz<=8388608):c.ay.sz<=8388608:=by grind[aT.sz]
theorem Xc(h:c.sz<=8388608):c.tokens.length<=8388608:=by grind[aT.sz,fs]
theorem xE(h:c.sz<=8388608):c.news.length<=8388608:=by grind[aT.sz,fs]
def kr(g:bV)(i:Nat)(l:bm):Bool:=
 !jf l||((l.cap != g.cap)||(!gw g l.queue||((i:Int).tdiv g.ar==(i:Int).tmod g.ar&&decide ((l.queue.length:Int)>0))))
def lD(n:Int)(t:bP):Bool:=!av t.place 0 (n-1)||((!t.going&&t.place != 0)||!av t.sum (-1000000) 1000000)
def lE(n:Int)(x:bT):Bool:=!av x.dest 0 (n-1)||!av x.a8 0 3
def cB(c:aT):Bool:=
 eh c.ay&&(((c.ar.length:Int)==c.ay.ar)&&(((c.bJ.length:Int)==c.ay.ar*c.ay.ar)&&((c.tokens.length==4)&&(!(c.ar.any fun w=>!e6 c.ay w)&&(!(anyI (kr c.ay) 0 c.bJ)&&(!(c.tokens.any (lD c.ay.ar))&&!(c.news.any (lE c.ay.ar))))))))
theorem iR{g:bV}(h:eh g=true):1<=g.ar/\g.ar<=4:=by
 simp_all[eh,cw,av,ck]
theorem zQ(i:Nat)(n:Int)(hi:i<=8388608)(aZ:1<=n):aL .i64 ((i:Int).tdiv n):=by
 have h1:0<=(i:Int).tdiv n:=Int.tdiv_nonneg (by omega) (by omega);have U:(i:Int).tdiv n<=(i:Int):=Int.tdiv_le_self _ (by omega);exact⟨by omega,by omega⟩
theorem apI(h:c.wf){l:bm}(al:l∈c.bJ):l.cW<=9223372036854775807:=by
 have:=(aT.K2 h al).Q3;grind[aL]
def fa(c:aT):Prop:=∀l∈c.bJ,l.cW<=9223372036854775807
theorem fa.of(h:c.wf):fa c:=fun _ al=>apI h al
theorem apJ(c:aT)(ak:c.sz<=8388608)(aZ:(c.ar.length:Int)=c.ay.ar):
  ((c.ar.any fun w=>!e6 c.ay w)=false/\c8 prog (ap f56 0) (tX (c.ay.nodes.map Node.e) c.ay.ar c.ay.cap (c.ar.map aK.e) (c.bJ.map bm.e) (c.tokens.map bP.e) (c.news.map bT.e) 0) (.exit 0) (Lh (c.ay.nodes.map Node.e) c.ay.ar c.ay.cap (c.ar.map aK.e) (c.bJ.map bm.e) (c.tokens.map bP.e) (c.news.map bT.e)))\/
  ((c.ar.any fun w=>!e6 c.ay w)=true/\c8 prog (ap f56 0) (tX (c.ay.nodes.map Node.e) c.ay.ar c.ay.cap (c.ar.map aK.e) (c.bJ.map bm.e) (c.tokens.map bP.e) (c.news.map bT.e) 0) .ret (GJ false)):=by
 have al:=aT.wk ak;have l:=gv (P:=prog) (c:=(ap f56 0)) c.ar (fun w=>!e6 c.ay w) (fun i=>tX (c.ay.nodes.map Node.e) c.ay.ar c.ay.cap (c.ar.map aK.e) (c.bJ.map bm.e) (c.tokens.map bP.e) (c.news.map bT.e) i) (X:=fun _ _=>GJ false) e5 (cn 0)
  (fun i a ai h=>by
   have k:=GV c.ay a (n2 ak) (aT.yt ak (c9 ai));rw[show e6 c.ay a=true by simpa using h]at k;exact anE ⟨dh (by grind),bA,bH (a1 ai),bC aK.e ai,k,rfl,db (a1 ai) al,aa⟩)
  (fun i a ai h=>by
   have k:=GV c.ay a (n2 ak) (aT.yt ak (c9 ai));rw[show e6 c.ay a=false by simpa using h]at k;exact anD ⟨dh (by grind),bA,bH (a1 ai),bC aK.e ai,k,rfl,aa⟩)
  (anF ⟨ea (by omega),aa⟩)
 grind
theorem apK(c:aT)(ak:c.sz<=8388608)(hw:fa c)(aZ:1<=c.ay.ar):
  (anyI (kr c.ay) 0 c.bJ=false/\c8 prog (ap f56 1) (na c.ay.ar 0 (c.ay.nodes.map Node.e) c.ay.ar c.ay.cap (c.ar.map aK.e) (c.bJ.map bm.e) (c.tokens.map bP.e) (c.news.map bT.e)) (.exit 2) (CZ c.ay.ar (c.ay.nodes.map Node.e) c.ay.ar c.ay.cap (c.ar.map aK.e) (c.bJ.map bm.e) (c.tokens.map bP.e) (c.news.map bT.e)))\/
  (anyI (kr c.ay) 0 c.bJ=true/\c8 prog (ap f56 1) (na c.ay.ar 0 (c.ay.nodes.map Node.e) c.ay.ar c.ay.cap (c.ar.map aK.e) (c.bJ.map bm.e) (c.tokens.map bP.e) (c.news.map bT.e)) .ret (AB false)):=by
 have al:=aT.B4 ak;have nD:∀(i:Nat) (a:bm),c.bJ[i]?=some a->∀r,jf a=r->aq 191 [.agg a.e] [.one (B r)]:=fun i a ai r h=>h▸GQ a (aT.Fv ak (c9 ai))
 have gn:∀(i:Nat) (a:bm),c.bJ[i]?=some a->∀r,gw c.ay a.queue=r->aq 192 [.agg c.ay.e,.one (.J 5 (a.queue.map az.e))] [.one (B r)]:=fun i a ai r h=>yg c.ay _ r h (n2 ak) (aT.Fv ak (c9 ai))
 exact vJ (P:=prog) (c:=(ap f56 1)) c.bJ (kr c.ay) (fun i=>na c.ay.ar i (c.ay.nodes.map Node.e) c.ay.ar c.ay.cap (c.ar.map aK.e) (c.bJ.map bm.e) (c.tokens.map bP.e) (c.news.map bT.e)) e5 (cn 2)
  (fun i a ai h=>by
   have hi:=a1 ai;simp only[kr,gl,kd]at h;obtain⟨h1,U,aA,aJ⟩:=h;cases a':((i:Int).tdiv c.ay.ar==(i:Int).tmod c.ay.ar) with
   | true=>
    rw[a',oJ]at aJ;exact anL ⟨b5 (a1 ai),bA,bH (a1 ai),bC bm.e ai,nD i a ai _ h1,rfl,U,gn i a ai _ aA,rfl,by omega,zQ i _ (by omega) aZ,by omega,a',by grind,db hi al,aa⟩
   | false=>exact anM ⟨b5 (a1 ai),bA,bH (a1 ai),bC bm.e ai,nD i a ai _ h1,rfl,U,gn i a ai _ aA,rfl,by omega,zQ i _ (by omega) aZ,by omega,a',db hi al,aa⟩)
  (fun i a ai h=>by
   have hi:=a1 ai;cases h1:jf a with
   | false=>exact anH ⟨b5 (a1 ai),bA,bH (a1 ai),bC bm.e ai,nD i a ai _ h1,rfl,aa⟩
   | true=>
   cases U:(a.cap != c.ay.cap) with
   | true=>exact anI ⟨b5 (a1 ai),bA,bH (a1 ai),bC bm.e ai,nD i a ai _ h1,rfl,U,aa⟩
   | false=>
   cases aA:gw c.ay a.queue with
   | false=>exact anJ ⟨b5 (a1 ai),bA,bH (a1 ai),bC bm.e ai,nD i a ai _ h1,rfl,U,gn i a ai _ aA,rfl,aa⟩
   | true=>
   simp only[kr,h1,U,aA,iU,ke,cw]at h;exact anK ⟨b5 (a1 ai),bA,bH (a1 ai),bC bm.e ai,nD i a ai _ h1,rfl,U,gn i a ai _ aA,rfl,by omega,zQ i _ (by omega) aZ,by omega,h.1,by grind,aa⟩)
  (anN ⟨dw,aa⟩)
theorem apL(c:aT)(ak:c.sz<=8388608)(aZ:1<=c.ay.ar/\c.ay.ar<=4):
  ((c.tokens.any (lD c.ay.ar))=false/\c8 prog (ap f56 2) (nL c.ay.ar (c.ay.nodes.map Node.e) c.ay.ar c.ay.cap (c.ar.map aK.e) (c.bJ.map bm.e) (c.tokens.map bP.e) (c.news.map bT.e) 0) (.exit 4) (GK c.ay.ar (c.ay.nodes.map Node.e) c.ay.ar c.ay.cap (c.ar.map aK.e) (c.bJ.map bm.e) (c.tokens.map bP.e) (c.news.map bT.e)))\/
  ((c.tokens.any (lD c.ay.ar))=true/\c8 prog (ap f56 2) (nL c.ay.ar (c.ay.nodes.map Node.e) c.ay.ar c.ay.cap (c.ar.map aK.e) (c.bJ.map bm.e) (c.tokens.map bP.e) (c.news.map bT.e) 0) .ret (ye false)):=by
 have al:=Xc ak;have l:=gv (P:=prog) (c:=(ap f56 2)) c.tokens (lD c.ay.ar) (fun i=>nL c.ay.ar (c.ay.nodes.map Node.e) c.ay.ar c.ay.cap (c.ar.map aK.e) (c.bJ.map bm.e) (c.tokens.map bP.e) (c.news.map bT.e) i) (X:=fun _ _=>ye false) e5 (cn 4)
  (fun i a ai h=>by
   have hi:=a1 ai;simp only[lD,gl,kd]at h;obtain⟨h1,U,aA⟩:=h;cases ax:a.going with
   | false=>
    rw[ax,oH,oJ]at U;exact anS ⟨b5 (a1 ai),bA,bH (a1 ai),bC bP.e ai,⟨by omega,by omega⟩,gg _ _ _ true h1,rfl,bA,bH (a1 ai),bC bP.e ai,by rw[ax];rfl,bA,bH (a1 ai),bC bP.e ai,U,bA,bH (a1 ai),bC bP.e ai,gg _ _ _ true aA,rfl,db hi al,aa⟩
   | true=>exact anU ⟨b5 (a1 ai),bA,bH (a1 ai),bC bP.e ai,⟨by omega,by omega⟩,gg _ _ _ true h1,rfl,bA,bH (a1 ai),bC bP.e ai,by rw[ax];rfl,bA,bH (a1 ai),bC bP.e ai,gg _ _ _ true aA,rfl,db hi al,aa⟩)
  (fun i a ai h=>by
   have hi:=a1 ai;cases h1:av a.place 0 (c.ay.ar-1) with
   | false=>exact anP ⟨b5 (a1 ai),bA,bH (a1 ai),bC bP.e ai,⟨by omega,by omega⟩,gg _ _ _ false h1,rfl,aa⟩
   | true=>
   simp only[lD,h1,iU,ke]at h;cases ax:a.going with
   | false=>
    rw[ax,oH,oJ]at h;cases U:(a.place != 0) with
    | true=>exact anQ ⟨b5 (a1 ai),bA,bH (a1 ai),bC bP.e ai,⟨by omega,by omega⟩,gg _ _ _ true h1,rfl,bA,bH (a1 ai),bC bP.e ai,by rw[ax];rfl,bA,bH (a1 ai),bC bP.e ai,U,aa⟩
    | false=>
     rw[U,ke]at h;exact anR ⟨b5 (a1 ai),bA,bH (a1 ai),bC bP.e ai,⟨by omega,by omega⟩,gg _ _ _ true h1,rfl,bA,bH (a1 ai),bC bP.e ai,by rw[ax];rfl,bA,bH (a1 ai),bC bP.e ai,U,bA,bH (a1 ai),bC bP.e ai,gg _ _ _ false (by simpa using h),rfl,aa⟩
   | true=>
    rw[ax,iU,Bool.false_and,ke]at h;exact anT ⟨b5 (a1 ai),bA,bH (a1 ai),bC bP.e ai,⟨by omega,by omega⟩,gg _ _ _ true h1,rfl,bA,bH (a1 ai),bC bP.e ai,by rw[ax];rfl,bA,bH (a1 ai),bC bP.e ai,gg _ _ _ false (by simpa using h),rfl,aa⟩)
  (anV ⟨dw,aa⟩)
 grind
theorem apM(c:aT)(ak:c.sz<=8388608)(aZ:1<=c.ay.ar/\c.ay.ar<=4):
  ((c.news.any (lE c.ay.ar))=false/\c8 prog (ap f56 3) (sZ c.ay.ar (c.ay.nodes.map Node.e) c.ay.ar c.ay.cap (c.ar.map aK.e) (c.bJ.map bm.e) (c.tokens.map bP.e) (c.news.map bT.e) 0) (.exit 6) NB)\/
  ((c.news.any (lE c.ay.ar))=true/\c8 prog (ap f56 3) (sZ c.ay.ar (c.ay.nodes.map Node.e) c.ay.ar c.ay.cap (c.ar.map aK.e) (c.bJ.map bm.e) (c.tokens.map bP.e) (c.news.map bT.e) 0) .ret (C0 false)):=by
 have al:=xE ak;have l:=gv (P:=prog) (c:=(ap f56 3)) c.news (lE c.ay.ar) (fun i=>sZ c.ay.ar (c.ay.nodes.map Node.e) c.ay.ar c.ay.cap (c.ar.map aK.e) (c.bJ.map bm.e) (c.tokens.map bP.e) (c.news.map bT.e) i) (X:=fun _ _=>C0 false) e5 (cn 6)
  (fun i a ai h=>by
   have hi:=a1 ai;simp only[lE,gl,kd]at h;exact anZ ⟨b5 (a1 ai),bA,bH (a1 ai),bC bT.e ai,⟨by omega,by omega⟩,gg _ _ _ true h.1,rfl,bA,bH (a1 ai),bC bT.e ai,gg _ _ _ true h.2,rfl,db hi al,aa⟩)
  (fun i a ai h=>by
   have hi:=a1 ai;cases h1:av a.dest 0 (c.ay.ar-1) with
   | false=>exact anX ⟨b5 (a1 ai),bA,bH (a1 ai),bC bT.e ai,⟨by omega,by omega⟩,gg _ _ _ false h1,rfl,aa⟩
   | true=>
    simp only[lE,h1,iU,ke]at h;exact anY ⟨b5 (a1 ai),bA,bH (a1 ai),bC bT.e ai,⟨by omega,by omega⟩,gg _ _ _ true h1,rfl,bA,bH (a1 ai),bC bT.e ai,gg _ _ _ false (by simpa using h),rfl,aa⟩)
  (ano ⟨dw,aa⟩)
 grind
theorem apN(c:aT)(ak:c.sz<=8388608)(hw:fa c):aq 56 [.agg c.e] [.one (B (cB c))]:=by
 have ax:=Az c.ay (n2 ak);unfold cB;cases h1:eh c.ay with
 | false=>rw[h1]at ax;exact aop ⟨ax,rfl,aa⟩
 | true=>
 rw[h1]at ax;have aZ:=iR h1;have aH:aL .i64 (c.ay.ar*c.ay.ar):=by
  have aA:c.ay.ar=1\/c.ay.ar=2\/c.ay.ar=3\/c.ay.ar=4:=by omega
  rcases aA with aA | aA | aA | aA<;>(rw[aA];exact⟨by decide,by decide⟩)
 cases U:((c.ar.length:Int)==c.ay.ar) with
 | false=>exact anA ⟨ax,rfl,by grind,aa⟩
 | true=>
 have v2:((↑(c.ar.map aK.e).length:Int) != c.ay.ar)=false:=by grind
 cases aA:((c.bJ.length:Int)==c.ay.ar*c.ay.ar) with
 | false=>exact anB ⟨ax,rfl,v2,aH,by grind,aa⟩
 | true=>
 have v3:((↑(c.bJ.map bm.e).length:Int) != c.ay.ar*c.ay.ar)=false:=by grind
 cases aJ:(c.tokens.length==4) with
 | false=>exact anC ⟨ax,rfl,v2,aH,v3,vh aJ,aa⟩
 | true=>
 rcases apJ c ak (eq_of_beq U) with⟨a',pd⟩ | ⟨a',pd⟩
 case inr=>rw[a'];exact anG ⟨ax,rfl,v2,aH,v3,gp aJ,pd,aa⟩
 rw[a'];rcases apK c ak hw aZ.1 with⟨bu,rl⟩ | ⟨bu,rl⟩
 case inr=>rw[bu];exact anO ⟨ax,rfl,v2,aH,v3,gp aJ,pd,rl,aa⟩
 rw[bu];rcases apL c ak aZ with⟨b1,tS⟩ | ⟨b1,tS⟩
 case inr=>rw[b1];exact anW ⟨ax,rfl,v2,aH,v3,gp aJ,pd,rl,tS,aa⟩
 rw[b1];rcases apM c ak aZ with⟨dy,kn⟩ | ⟨dy,kn⟩
 ·rw[dy];exact anq ⟨ax,rfl,v2,aH,v3,gp aJ,pd,rl,tS,kn,aa⟩
 rw[dy];exact anp ⟨ax,rfl,v2,aH,v3,gp aJ,pd,rl,tS,kn,aa⟩
theorem apO(c:aT)(ak:c.sz<=8388608)(aZ:(c.ar.length:Int)=c.ay.ar):
  ((c.ar.any fun w=>!e6 c.ay w)=false/\c8 prog (ap f55 0) (tY c.ay.ar (c.ar.map aK.e) 0 (c.ay.nodes.map Node.e) c.ay.ar c.ay.cap (c.ar.map aK.e) (c.bJ.map bm.e) (c.tokens.map bP.e) (c.news.map bT.e)) (.exit 0) (Lg c.ay.ar (c.ay.nodes.map Node.e) c.ay.ar c.ay.cap (c.ar.map aK.e) (c.bJ.map bm.e) (c.tokens.map bP.e) (c.news.map bT.e)))\/
  ((c.ar.any fun w=>!e6 c.ay w)=true/\c8 prog (ap f55 0) (tY c.ay.ar (c.ar.map aK.e) 0 (c.ay.nodes.map Node.e) c.ay.ar c.ay.cap (c.ar.map aK.e) (c.bJ.map bm.e) (c.tokens.map bP.e) (c.news.map bT.e)) .ret (GL false)):=by
 have al:=aT.wk ak;have l:=gv (P:=prog) (c:=(ap f55 0)) c.ar (fun w=>!e6 c.ay w) (fun i=>tY c.ay.ar (c.ar.map aK.e) i (c.ay.nodes.map Node.e) c.ay.ar c.ay.cap (c.ar.map aK.e) (c.bJ.map bm.e) (c.tokens.map bP.e) (c.news.map bT.e)) (X:=fun _ _=>GL false) e5 (cn 0)
  (fun i a ai h=>by
   have k:=GX c.ay a (n2 ak) (aT.yt ak (c9 ai));rw[show e6 c.ay a=true by simpa using h]at k;exact anx ⟨b5 (a1 ai),bA,bH (a1 ai),bC aK.e ai,k,rfl,db (a1 ai) al,aa⟩)
  (fun i a ai h=>by
   have k:=GX c.ay a (n2 ak) (aT.yt ak (c9 ai));rw[show e6 c.ay a=false by simpa using h]at k;exact anw ⟨b5 (a1 ai),bA,bH (a1 ai),bC aK.e ai,k,rfl,aa⟩)
  (anz ⟨dw,aa⟩)
 grind
theorem apP(c:aT)(ak:c.sz<=8388608)(hw:fa c)(aZ:1<=c.ay.ar):
  (anyI (kr c.ay) 0 c.bJ=false/\c8 prog (ap f55 1) (nc c.ay.ar (c.bJ.map bm.e) 0 (c.ay.nodes.map Node.e) c.ay.ar c.ay.cap (c.ar.map aK.e) (c.bJ.map bm.e) (c.tokens.map bP.e) (c.news.map bT.e)) (.exit 2) (C1 c.ay.ar (c.ay.nodes.map Node.e) c.ay.ar c.ay.cap (c.ar.map aK.e) (c.bJ.map bm.e) (c.tokens.map bP.e) (c.news.map bT.e)))\/
  (anyI (kr c.ay) 0 c.bJ=true/\c8 prog (ap f55 1) (nc c.ay.ar (c.bJ.map bm.e) 0 (c.ay.nodes.map Node.e) c.ay.ar c.ay.cap (c.ar.map aK.e) (c.bJ.map bm.e) (c.tokens.map bP.e) (c.news.map bT.e)) .ret (zO false)):=by
 have al:=aT.B4 ak;have nD:∀(i:Nat) (a:bm),c.bJ[i]?=some a->∀r,jf a=r->aq 188 [.agg a.e] [.one (B r)]:=fun i a ai r h=>h▸GO a (aT.Fv ak (c9 ai)) (hw _ (c9 ai))
 have gn:∀(i:Nat) (a:bm),c.bJ[i]?=some a->∀r,gw c.ay a.queue=r->aq 189 [.agg c.ay.e,.one (.J 5 (a.queue.map az.e))] [.one (B r)]:=fun i a ai r h=>yh c.ay _ r h (n2 ak) (aT.Fv ak (c9 ai))
 exact vJ (P:=prog) (c:=(ap f55 1)) c.bJ (kr c.ay) (fun i=>nc c.ay.ar (c.bJ.map bm.e) i (c.ay.nodes.map Node.e) c.ay.ar c.ay.cap (c.ar.map aK.e) (c.bJ.map bm.e) (c.tokens.map bP.e) (c.news.map bT.e)) e5 (cn 2)
  (fun i a ai h=>by
   have hi:=a1 ai;simp only[kr,gl,kd]at h;obtain⟨h1,U,aA,aJ⟩:=h;cases a':((i:Int).tdiv c.ay.ar==(i:Int).tmod c.ay.ar) with
   | true=>
    rw[a',oJ]at aJ;exact ao5 ⟨b5 (a1 ai),bA,bH (a1 ai),bC bm.e ai,nD i a ai _ h1,rfl,U,gn i a ai _ aA,rfl,by omega,zQ i _ (by omega) aZ,by omega,a',by grind,db hi al,aa⟩
   | false=>exact ao6 ⟨b5 (a1 ai),bA,bH (a1 ai),bC bm.e ai,nD i a ai _ h1,rfl,U,gn i a ai _ aA,rfl,by omega,zQ i _ (by omega) aZ,by omega,a',db hi al,aa⟩)
  (fun i a ai h=>by
   have hi:=a1 ai;cases h1:jf a with
   | false=>exact ao1 ⟨b5 (a1 ai),bA,bH (a1 ai),bC bm.e ai,nD i a ai _ h1,rfl,aa⟩
   | true=>
   cases U:(a.cap != c.ay.cap) with
   | true=>exact ao2 ⟨b5 (a1 ai),bA,bH (a1 ai),bC bm.e ai,nD i a ai _ h1,rfl,U,aa⟩
   | false=>
   cases aA:gw c.ay a.queue with
   | false=>exact ao3 ⟨b5 (a1 ai),bA,bH (a1 ai),bC bm.e ai,nD i a ai _ h1,rfl,U,gn i a ai _ aA,rfl,aa⟩
   | true=>
   simp only[kr,h1,U,aA,iU,ke,cw]at h;exact ao4 ⟨b5 (a1 ai),bA,bH (a1 ai),bC bm.e ai,nD i a ai _ h1,rfl,U,gn i a ai _ aA,rfl,by omega,zQ i _ (by omega) aZ,by omega,h.1,by grind,aa⟩)
  (ao7 ⟨dw,aa⟩)
theorem apQ(c:aT)(ak:c.sz<=8388608)(aZ:1<=c.ay.ar/\c.ay.ar<=4):
  ((c.tokens.any (lD c.ay.ar))=false/\c8 prog (ap f55 2) (nM c.ay.ar (c.tokens.map bP.e) 0 (c.ay.nodes.map Node.e) c.ay.ar c.ay.cap (c.ar.map aK.e) (c.bJ.map bm.e) (c.tokens.map bP.e) (c.news.map bT.e)) (.exit 4) (GM c.ay.ar (c.ay.nodes.map Node.e) c.ay.ar c.ay.cap (c.ar.map aK.e) (c.bJ.map bm.e) (c.tokens.map bP.e) (c.news.map bT.e)))\/
  ((c.tokens.any (lD c.ay.ar))=true/\c8 prog (ap f55 2) (nM c.ay.ar (c.tokens.map bP.e) 0 (c.ay.nodes.map Node.e) c.ay.ar c.ay.cap (c.ar.map aK.e) (c.bJ.map bm.e) (c.tokens.map bP.e) (c.news.map bT.e)) .ret (yf false)):=by
 have al:=Xc ak;have l:=gv (P:=prog) (c:=(ap f55 2)) c.tokens (lD c.ay.ar) (fun i=>nM c.ay.ar (c.tokens.map bP.e) i (c.ay.nodes.map Node.e) c.ay.ar c.ay.cap (c.ar.map aK.e) (c.bJ.map bm.e) (c.tokens.map bP.e) (c.news.map bT.e)) (X:=fun _ _=>yf false) e5 (cn 4)
  (fun i a ai h=>by
   have hi:=a1 ai;simp only[lD,gl,kd]at h;obtain⟨h1,U,aA⟩:=h;cases ax:a.going with
   | false=>
    rw[ax,oH,oJ]at U;exact apc ⟨b5 (a1 ai),bA,bH (a1 ai),bC bP.e ai,⟨by omega,by omega⟩,hM true h1,rfl,by rw[ax];rfl,U,hM true aA,rfl,db hi al,aa⟩
   | true=>exact ape ⟨b5 (a1 ai),bA,bH (a1 ai),bC bP.e ai,⟨by omega,by omega⟩,hM true h1,rfl,by rw[ax];rfl,hM true aA,rfl,db hi al,aa⟩)
  (fun i a ai h=>by
   have hi:=a1 ai;cases h1:av a.place 0 (c.ay.ar-1) with
   | false=>exact ao9 ⟨b5 (a1 ai),bA,bH (a1 ai),bC bP.e ai,⟨by omega,by omega⟩,hM false h1,rfl,aa⟩
   | true=>
   simp only[lD,h1,iU,ke]at h;cases ax:a.going with
   | false=>
    rw[ax,oH,oJ]at h;cases U:(a.place != 0) with
    | true=>exact apa ⟨b5 (a1 ai),bA,bH (a1 ai),bC bP.e ai,⟨by omega,by omega⟩,hM true h1,rfl,by rw[ax];rfl,U,aa⟩
    | false=>
     rw[U,ke]at h;exact apb ⟨b5 (a1 ai),bA,bH (a1 ai),bC bP.e ai,⟨by omega,by omega⟩,hM true h1,rfl,by rw[ax];rfl,U,hM false (by simpa using h),rfl,aa⟩
   | true=>
    rw[ax,iU,Bool.false_and,ke]at h;exact apd ⟨b5 (a1 ai),bA,bH (a1 ai),bC bP.e ai,⟨by omega,by omega⟩,hM true h1,rfl,by rw[ax];rfl,hM false (by simpa using h),rfl,aa⟩)
  (apf ⟨dw,aa⟩)
 grind
theorem apR(c:aT)(ak:c.sz<=8388608)(aZ:1<=c.ay.ar/\c.ay.ar<=4):
  ((c.news.any (lE c.ay.ar))=false/\c8 prog (ap f55 3) (s0 c.ay.ar (c.news.map bT.e) 0) (.exit 6) NC)\/
  ((c.news.any (lE c.ay.ar))=true/\c8 prog (ap f55 3) (s0 c.ay.ar (c.news.map bT.e) 0) .ret (C2 false)):=by
 have al:=xE ak;have l:=gv (P:=prog) (c:=(ap f55 3)) c.news (lE c.ay.ar) (fun i=>s0 c.ay.ar (c.news.map bT.e) i) (X:=fun _ _=>C2 false) e5 (cn 6)
  (fun i a ai h=>by
   have hi:=a1 ai;simp only[lE,gl,kd]at h;exact apj ⟨b5 (a1 ai),bA,bH (a1 ai),bC bT.e ai,⟨by omega,by omega⟩,hM true h.1,rfl,hM true h.2,rfl,db hi al,aa⟩)
  (fun i a ai h=>by
   have hi:=a1 ai;cases h1:av a.dest 0 (c.ay.ar-1) with
   | false=>exact aph ⟨b5 (a1 ai),bA,bH (a1 ai),bC bT.e ai,⟨by omega,by omega⟩,hM false h1,rfl,aa⟩
   | true=>
    simp only[lE,h1,iU,ke]at h;exact api ⟨b5 (a1 ai),bA,bH (a1 ai),bC bT.e ai,⟨by omega,by omega⟩,hM true h1,rfl,hM false (by simpa using h),rfl,aa⟩)
  (apk ⟨dw,aa⟩)
 grind
theorem GZ(c:aT)(ak:c.sz<=8388608)(hw:fa c):aq 55 [.agg c.e] [.one (B (cB c))]:=by
 have ax:=AA c.ay (n2 ak);unfold cB;cases h1:eh c.ay with
 | false=>rw[h1]at ax;exact anr ⟨ax,rfl,aa⟩
 | true=>
 rw[h1]at ax;have aZ:=iR h1;have aH:aL .i64 (c.ay.ar*c.ay.ar):=by
  have aA:c.ay.ar=1\/c.ay.ar=2\/c.ay.ar=3\/c.ay.ar=4:=by omega
  rcases aA with aA | aA | aA | aA<;>(rw[aA];exact⟨by decide,by decide⟩)
 cases U:((c.ar.length:Int)==c.ay.ar) with
 | false=>exact ant ⟨ax,rfl,by grind,aa⟩
 | true=>
 have v2:((↑(c.ar.map aK.e).length:Int) != c.ay.ar)=false:=by grind
 cases aA:((c.bJ.length:Int)==c.ay.ar*c.ay.ar) with
 | false=>exact anu ⟨ax,rfl,v2,aH,by grind,aa⟩
 | true=>
 have v3:((↑(c.bJ.map bm.e).length:Int) != c.ay.ar*c.ay.ar)=false:=by grind
 cases aJ:(c.tokens.length==4) with
 | false=>exact anv ⟨ax,rfl,v2,aH,v3,vh aJ,aa⟩
 | true=>
 rcases apO c ak (eq_of_beq U) with⟨a',pd⟩ | ⟨a',pd⟩
 case inr=>rw[a'];exact ao0 ⟨ax,rfl,v2,aH,v3,gp aJ,pd,aa⟩
 rw[a'];rcases apP c ak hw aZ.1 with⟨bu,rl⟩ | ⟨bu,rl⟩
 case inr=>rw[bu];exact ao8 ⟨ax,rfl,v2,aH,v3,gp aJ,pd,rl,aa⟩
 rw[bu];rcases apQ c ak aZ with⟨b1,tS⟩ | ⟨b1,tS⟩
 case inr=>rw[b1];exact apg ⟨ax,rfl,v2,aH,v3,gp aJ,pd,rl,tS,aa⟩
 rw[b1];rcases apR c ak aZ with⟨dy,kn⟩ | ⟨dy,kn⟩
 ·rw[dy];exact apm ⟨ax,rfl,v2,aH,v3,gp aJ,pd,rl,tS,kn,aa⟩
 rw[dy];exact apl ⟨ax,rfl,v2,aH,v3,gp aJ,pd,rl,tS,kn,aa⟩
end Go.Proofs.YtdchjefneblpgaaGreat
namespace Go.Proofs.YtdchjefneblpgaaGreat
open Go.Sx Go.RowKit Go.Proofs.Tryz
def cutAt{α:Type}(xs:List α)(k:Nat):List α:=xs.take k++xs.drop (k+1)
def AD:az:=⟨0,⟨0,0⟩,0,0⟩
def lY(xs:List Int)(e d:Int):List Int:=xs.set e.toNat (xs.getD e.toNat 0+d)
def ef(l:bm)(r:az):bm×Bool:=
 if jf l&&eJ r&&l.eL != 0&&decide (l.eo<1000000000) then (⟨l.cap,l.queue++[r],l.eL-1,l.back,l.eo+1,l.cW⟩,true) else (l,false)
def dG(l:bm):bm×az×Bool:=
 if jf l then match l.queue with
  | []=>(l,AD,false)
  | r::q=>(⟨l.cap,q,l.eL,l.back+1,l.eo,l.cW+1⟩,r,true)
 else (l,AD,false)
def fF(l:bm):bm×Bool:=
 if jf l&&l.back != 0 then (⟨l.cap,l.queue,l.eL+1,l.back-1,l.eo,l.cW⟩,true) else (l,false)
def eX(g:bV)(w:aK):aK×Bool:=
 if eh g&&e6 g w then match w.b8,w.queue with
  | [],r::q=>(⟨q,(dq g w.cells r).2.1,w.bR,(dq g w.cells r).1,w.bB,w.bL,(if cf g r then w.bj.set r.bi.a8.toNat true else w.bj),w.bZ⟩,true)
  | _,_=>(w,false)
 else (w,false)
def eY(g:bV)(w:aK):aK×Bool:=
 if eh g&&e6 g w then match w.b8,w.queue,w.bR with
  | [],[],r::t=>(⟨[r],[],t,w.cells,w.bB,w.bL,w.bj,w.bZ⟩,true)
  | _,_,_=>(w,false)
 else (w,false)
def hP(w:aK)(t:List az):aK:=⟨w.queue,t,w.bR,w.cells,w.bB,w.bL,w.bj,w.bZ⟩
def kept(w:aK)(r:az):aK:=⟨w.queue++[r],w.b8,w.bR,w.cells,w.bB,w.bL,w.bj,w.bZ⟩
def h8(w:aK)(r:az):aK:=⟨w.queue++[r],w.b8,w.bR,w.cells,lY w.bB r.bi.a8 (-1),w.bL.set r.bi.a8.toNat true,w.bj,w.bZ⟩
def mv(w:aK)(e:Int):aK:=⟨w.queue,w.b8,w.bR,w.cells,lY w.bB e 1,w.bL,w.bj,w.bZ⟩
def ew(w:aK)(e:Int):aK:=⟨w.queue,w.b8,w.bR,w.cells,w.bB,w.bL.set e.toNat false,w.bj,w.bZ⟩
def told(w:aK)(e:Int)(b:Bool):aK:=⟨w.queue,w.b8,w.bR,w.cells,w.bB,w.bL,w.bj,w.bZ++[⟨e,b⟩]⟩
def ee(w:aK)(n:bT):aK:=if ev w n.a8 then w else told w n.a8 n.cf
def xF(w:aK)(e:Int):Bool:=w.bR.any fun r=>decide (r.bi.a8<=e)
def Xd(w:aK)(e:Int):Nat:=(l3 e w.queue).length+(l3 e w.b8).length
def ks(w:aK)(e:Int):Bool:=!xF w e&&Xd w e==0
def setW(c:aT)(i:Int)(x:aK):aT:=⟨c.ay,c.ar.set i.toNat x,c.bJ,c.tokens,c.news⟩
def dc(c:aT)(i:Int)(l:bm):aT:=⟨c.ay,c.ar,c.bJ.set i.toNat l,c.tokens,c.news⟩
def cJ(c:aT)(i:Int)(t:bP):aT:=⟨c.ay,c.ar,c.bJ,c.tokens.set i.toNat t,c.news⟩
def fV(c:aT)(n:List bT):aT:=⟨c.ay,c.ar,c.bJ,c.tokens,n⟩
def cc(c:aT)(i:Int):Option aK:=if 0<=i then c.ar[i.toNat]? else none
def ez(c:aT)(i:Int):Option bm:=if 0<=i then c.bJ[i.toNat]? else none
def hR(c:aT)(i:Int):Option bP:=if 0<=i then c.tokens[i.toNat]? else none
def dZ(g:bV)(a b:Int):Int:=if av a 0 (g.ar-1)&&av b 0 (g.ar-1) then a*g.ar+b else -1
def jg(c:aT)(w:Int):aT×Bool:=
 if cB c then match cc c w with
  | some x=>(setW c w (eX c.ay x).1,(eX c.ay x).2)
  | none=>(c,false)
 else (c,false)
def jh(c:aT)(w:Int):aT×Bool:=
 if cB c then match cc c w with
  | some x=>(setW c w (eY c.ay x).1,(eY c.ay x).2)
  | none=>(c,false)
 else (c,false)
def rM(c:aT)(w:Int)(x:aK)(r:az)(t:List az)(o:Int):aT×Bool:=
 if o=w then (setW c w (kept (hP x t) r),true)
 else match ez c (dZ c.ay w o) with
  | some l=>if (ef l r).2 then (setW (dc c (dZ c.ay w o) (ef l r).1) w (mv (hP x t) r.bi.a8),true) else (c,false)
  | none=>(c,false)
def iS(c:aT)(w:Int):aT×Bool:=
 if cB c then match cc c w with
  | some x=>match x.b8 with
   | r::t=>rM c w x r t (eU r.key c.ay.ar)
   | []=>(c,false)
  | none=>(c,false)
 else (c,false)
def jE(c:aT)(a b:Int):aT×Bool:=
 if cB c&&a != b then match ez c (dZ c.ay a b),cc c b with
  | some l,some x=>if (dG l).2.2 then (setW (dc c (dZ c.ay a b) (dG l).1) b (h8 x (dG l).2.1),true) else (c,false)
  | _,_=>(c,false)
 else (c,false)
def ji(c:aT)(a b:Int):aT×Bool:=
 if cB c&&a != b then match ez c (dZ c.ay a b) with
  | some l=>(dc c (dZ c.ay a b) (fF l).1,(fF l).2)
  | none=>(c,false)
 else (c,false)
def gh(n:Nat)(e:Int)(b:Bool):List bT:=(List.range n).map fun k:Nat=>⟨(k:Int)+1,e,b⟩
def dE(c:aT)(e:Int)(t:bP)(x:aK):aT×Bool:=
 if ks x e then
  if !t.going then (setW (cJ c e ⟨true,(c.ar.length:Int)-1,0,false,x.bj.getD e.toNat false⟩) t.place (ew x e),true)
  else if 0<t.place then
   if av (t.sum+x.bB.getD e.toNat 0) (-1000000) 1000000 then
    (setW (cJ c e ⟨true,t.place-1,t.sum+x.bB.getD e.toNat 0,t.bL||x.bL.getD e.toNat false,t.cf||x.bj.getD e.toNat false⟩) t.place (ew x e),true)
   else (c,false)
  else if !t.bL&&!x.bL.getD e.toNat false&&t.sum+x.bB.getD e.toNat 0==0 then
   (fV (setW (cJ c e ⟨false,t.place,t.sum,t.bL,t.cf⟩) 0 (told x e (t.cf||x.bj.getD e.toNat false))) (c.news++gh (c.ar.length-1) e (t.cf||x.bj.getD e.toNat false)),true)
  else (cJ c e ⟨false,t.place,t.sum,t.bL,t.cf⟩,true)
 else (c,false)
def ij(c:aT)(e:Int):aT×Bool:=
 if cB c&&av e 0 3 then match cc c 0,hR c e with
  | some cE,some t=>if ev cE e then (c,false) else match cc c t.place with
   | some x=>dE c e t x
   | none=>(c,false)
  | _,_=>(c,false)
 else (c,false)
def jF(c:aT)(w:Int):aT×Bool:=
 match c.news.findIdx? (fun n=>n.dest==w) with
 | some k=>if cB c then match c.news[k]?,cc c w with
   | some n,some x=>(fV (setW c w (ee x n)) (cutAt c.news k),true)
   | _,_=>(c,false)
  else (c,false)
 | none=>(c,false)
def cY(c:aT)(p:b'):aT×Bool:=
 if p.kind=1 then jg c p.a else if p.kind=2 then jh c p.a else if p.kind=3 then iS c p.a
 else if p.kind=4 then jE c p.a p.b else if p.kind=5 then ji c p.a p.b else if p.kind=6 then ij c p.a
 else if p.kind=7 then jF c p.a else (c,false)
end Go.Proofs.YtdchjefneblpgaaGreat
namespace Go.Proofs.YtdchjefneblpgaaGreat
open Go.Sx Go.RowKit Go.Proofs.Tryz
section
variable {α : Type}
theorem M5{p:α->Bool}{xs:List α}{i:Nat}{x:α}(h:xs.any p=false)(hi:i<xs.length):(xs.set i x).any p=p x:=by
 cases af:p x with
 | true=>exact oK.2 ⟨x,List.mem_iff_getElem.2 ⟨i,by grind,by simp⟩,af⟩
 | false=>
  grind
theorem Xe{p:Nat->α->Bool}{x:α}:∀{xs:List α} {k i:Nat},anyI p k xs=false->i<xs.length->anyI p k (xs.set i x)=p (k+i) x
 | [],_,_,_,h=>by simp at h
 | a::xs,k,0,h,_=>by
  simp_all[anyI,gl,List.set_cons_zero,Bool.or_false,oI]
 | a::xs,k,i+1,h,hi=>by
  simp only[anyI,gl]at h;simp only[List.set_cons_succ,anyI,h.1,ke];rw[Xe h.2 (by simpa using hi),show k+1+i=k+(i+1) by omega]
theorem zR{p:Nat->α->Bool}{xs:List α}(h:∀i a,xs[i]?=some a->p i a=false):anyI p 0 xs=false:=by
 cases af:anyI p 0 xs with
 | false=>rfl
 | true=>
  obtain⟨i,a,h1,U,_⟩:=Ms af;grind
theorem G0{p:Nat->α->Bool}{xs:List α}(h:anyI p 0 xs=false){i:Nat}{a:α}(ai:xs[i]?=some a):p i a=false:=by
 have:=C' h i a ai;grind
end
variable{c:aT}
theorem fz:cB c=true<->eh c.ay=true/\(c.ar.length:Int)=c.ay.ar/\(c.bJ.length:Int)=c.ay.ar*c.ay.ar/\c.tokens.length=4/\(c.ar.any fun w=>!e6 c.ay w)=false/\anyI (kr c.ay) 0 c.bJ=false/\c.tokens.any (lD c.ay.ar)=false/\c.news.any (lE c.ay.ar)=false:=by
 simp only[cB,cw,hb,ka]
variable{i:Int}{x:aK}
theorem eO(h:cc c i=some x):0<=i/\i.toNat<c.ar.length/\c.ar[i.toNat]?=some x:=by
 grind[cc,a1]
theorem iA{x:bm}(h:ez c i=some x):0<=i/\i.toNat<c.bJ.length/\c.bJ[i.toNat]?=some x:=by
 grind[ez,a1]
theorem xG{x:bP}(h:hR c i=some x):0<=i/\i.toNat<c.tokens.length/\c.tokens[i.toNat]?=some x:=by
 grind[hR,a1]
theorem v7{y:aK}(h:cB c=true)(bD:cc c i=some y):cB (setW c i x)=e6 c.ay x:=by
 obtain⟨h1,U,aA,aJ,a',bu,b1,dy⟩:=fz.1 h;have hi:=(eO bD).2.1;simp only[cB,setW,hc,M5 a' hi,h1,U,aA,aJ,bu,b1,dy,wv,oH,uI,oJ,Bool.not_not]
theorem M6{x y:bm}(h:cB c=true)(bD:ez c i=some y):cB (dc c i x)=!kr c.ay i.toNat x:=by
 obtain⟨h1,U,aA,aJ,a',bu,b1,dy⟩:=fz.1 h;have hi:=(iA bD).2.1;simp only[cB,dc,hc,Xe bu hi,dV,h1,U,aA,aJ,a',b1,dy,wv,oH,uI,oJ]
theorem apS{x y:bP}(h:cB c=true)(bD:hR c i=some y):cB (cJ c i x)=!lD c.ay.ar x:=by
 obtain⟨h1,U,aA,aJ,a',bu,b1,dy⟩:=fz.1 h;have hi:=(xG bD).2.1;simp only[cB,cJ,hc,M5 b1 hi,h1,U,aA,aJ,a',bu,dy,wv,oH,uI,oJ]
theorem Wo{x:List bT}(h:cB c=true):cB (fV c x)=!(x.any (lE c.ay.ar)):=by
 obtain⟨h1,U,aA,aJ,a',bu,b1,dy⟩:=fz.1 h;simp only[cB,fV,h1,U,aA,aJ,a',bu,b1,wv,oH,oJ]
theorem j4(h:cB c=true)(af:cc c i=some x):e6 c.ay x=true:=by
 have a':=(fz.1 h).2.2.2.2.1;rw[ft]at a';simpa using a' x (c9 (eO af).2.2)
theorem rN{x:bm}(h:cB c=true)(af:ez c i=some x):kr c.ay i.toNat x=false:=
 G0 (fz.1 h).2.2.2.2.2.1 (iA af).2.2
theorem zS{x:bP}(h:cB c=true)(af:hR c i=some x):lD c.ay.ar x=false:=by
 have a':=(fz.1 h).2.2.2.2.2.2.1;rw[ft]at a';simpa using a' x (c9 (xG af).2.2)
theorem um(af:cc c i=some x):setW c i x=c:=by
 obtain⟨_,U,aA⟩:=eO af;have:c.ar.set i.toNat x=c.ar:=by
  grind[gJ,List.set_getElem_self]
 simp_all[setW]
theorem apT{x:bm}(af:ez c i=some x):dc c i x=c:=by
 obtain⟨_,U,aA⟩:=iA af;have:c.bJ.set i.toNat x=c.bJ:=by
  grind[gJ,List.set_getElem_self]
 simp_all[dc]
variable{g:bV}{w:aK}
theorem ik:e6 g w=true<->gw g w.queue=true/\gw g w.b8=true/\gw g w.bR=true/\kO w.cells=true/\w.bB.length=4/\w.bL.length=4/\w.bj.length=4/\anyI (ml w.bR) 0 w.bR=false/\w.bB.any oA=false/\anyI (nd w.bZ) 0 w.bZ=false:=by
 simp only[e6,cw,hb,ka]
variable{r:az}
theorem qx{q:List az}:gw g (r::q)=true<->j6 g r=false/\gw g q=true:=by
 grind[gw,hb,gl]
theorem M7{q:List az}:gw g (q++[r])=true<->gw g q=true/\j6 g r=false:=by
 simp only[gw,List.any_append,Er,List.any_nil,Bool.or_false,hb,gl]
theorem apU{t:List az}(h:anyI (ml (r::t)) 0 (r::t)=false):anyI (ml t) 0 t=false:=by
 refine zR fun i a ai=>?_
 have k:=G0 h (i:=i+1) (a:=a) (by grind);unfold ml at k ⊢;grind
theorem apV{xs:List cx}{d:cx}(h:anyI (nd xs) 0 xs=false)(h1:av d.a8 0 3=true)(U:(xs.any fun q=>q.a8==d.a8)=false):anyI (nd (xs++[d])) 0 (xs++[d])=false:=by
 refine zR fun i a ai=>?_
 by_cases hi:i<xs.length
 ·grind[G0,nd]
 have al:=a1 ai;simp only[hs,gQ,et]at al;have e:i=xs.length:=by omega
 simp_all[fg,Nat.sub_self,nd,abk,kS]
theorem apW(h:e6 g w=true)(aD:j6 g r=false):e6 g (kept w r)=true:=by
 obtain⟨h1,U⟩:=ik.1 h;exact ik.2 ⟨M7.2 ⟨h1,aD⟩,U⟩
theorem G1{t:List az}(h:e6 g w=true)(ao:w.b8=r::t):e6 g (hP w t)=true/\j6 g r=false:=by
 obtain⟨h1,U,aA⟩:=ik.1 h;rw[ao,qx]at U;exact⟨ik.2 ⟨h1,U.2,aA⟩,U.1⟩
variable{e:Int}
theorem apX(h:e6 g w=true):e6 g (ew w e)=true:=by
 obtain⟨h1,U,aA,aJ,a',bu,b1⟩:=ik.1 h;exact ik.2 ⟨h1,U,aA,aJ,a',by grind[ew,hc],b1⟩
theorem Wp{b:Bool}(h:e6 g w=true)(he:av e 0 3=true)(aE:ev w e=false):e6 g (told w e b)=true:=by
 obtain⟨h1,U,aA,aJ,a',bu,b1,dy,eu,dX⟩:=ik.1 h;exact ik.2 ⟨h1,U,aA,aJ,a',bu,b1,dy,eu,apV dX he aE⟩
theorem apY{n:bT}(h:e6 g w=true)(he:av n.a8 0 3=true):e6 g (ee w n)=true:=by
 unfold ee;cases aE:ev w n.a8 with
 | true=>exact h
 | false=>grind[Wp]
theorem Wq{e d:Int}{k:Nat}(h:e6 g w=true)(hk:e.toNat=k)(aJ:k<4):(lY w.bB e d).length=4/\(lY w.bB e d).any oA=oA (w.bB.getD e.toNat 0+d):=by
 obtain⟨h1,U,aA,_,a',bu,b1,dy,eu,dX⟩:=ik.1 h;grind[lY,hc,M5]
theorem rO{g:bV}(h:j6 g r=false):0<=r.bi.a8/\r.bi.a8<=3:=by
 simp only[j6,eJ,h6,av,gl,kd,cw,ck]at h;omega
theorem apZ(h:e6 g w=true)(he:0<=e/\e<=3):e6 g (mv w e)=av (w.bB.getD e.toNat 0+1) (-1000000) 1000000:=by
 obtain⟨cS,bt⟩:=Wq (d:=1) h (e:=e) rfl (by omega);obtain⟨h1,U,aA,aJ,a',bu,b1,dy,eu,dX⟩:=ik.1 h;simp only[e6,mv,h1,U,aA,aJ,cS,bu,b1,dy,dX,bt,oA,wv,oH,uI,oJ,Bool.not_not]
theorem ap0(h:e6 g w=true)(aD:j6 g r=false):e6 g (h8 w r)=av (w.bB.getD r.bi.a8.toNat 0+-1) (-1000000) 1000000:=by
 have he:=rO aD;obtain⟨cS,bt⟩:=Wq (d:=-1) h (e:=r.bi.a8) rfl (by omega);obtain⟨h1,U,aA,aJ,a',bu,b1,dy,eu,dX⟩:=ik.1 h;have aH:=M7.2 ⟨h1,aD⟩;simp only[e6,h8,aH,U,aA,aJ,cS,hc,bu,b1,dy,dX,bt,oA,wv,oH,uI,oJ,Bool.not_not]
theorem apr(h:e6 g w=true):e6 g (eY g w).1=true:=by
 unfold eY;split
 ·split
  ·rename_i r t h1 U aA;obtain⟨_,_,fP,pa,kI,pb,k6,qk,tQ,KX⟩:=ik.1 h;rw[aA]at fP qk;exact ik.2 ⟨qx.2 ⟨(qx.1 fP).1,rfl⟩,rfl,(qx.1 fP).2,pa,kI,pb,k6,apU qk,tQ,KX⟩
  exact h
 exact h
theorem aps:∀{xs:List Cell},kO xs=true->∀i a b,xs[i]?=some a->xs[i+1]?=some b->iN a b<0:=by
 intro xs h i a b h1 U;simp only[kO,hb,ft]at h;have hm:(a,b)∈xs.zip (xs.drop 1):=by
  refine c9 (i:=i) ?_;grind
 simp_all[GN,ck]
def v8(a:Cell):List Int:=[a.a8,a.op,a.key,a.val]
theorem Wr(a b:Cell):iN a b=oU (v8 a) (v8 b):=rfl
theorem M8{a b c:Cell}(h1:iN a b<0)(U:iN b c<0):iN a c<0:=by
 rw[Wr] at*;exact UF (v8 a) (v8 b) (v8 c) rfl rfl h1 U
theorem apt{a b:Cell}(h1:¬iN a b<0)(U:a≠b):iN b a<0:=by
 rw[Wr] at*;refine Classical.byContradiction fun h=>U ?_
 have:=UG (v8 a) (v8 b) rfl h1 h;simp only[v8,te,and_true]at this;obtain⟨gP,gz,lI,rY⟩:=this;cases a;simp_all
theorem Ws:∀{xs:List Cell},kO xs=true->xs.Pairwise fun a b=>iN a b<0
 | [],_=>List.Pairwise.nil
 | [a],_=>List.pairwise_singleton _ a
 | a::b::xs,h=>by
  have bG:kO (b::xs)=true:=by
   simp only[kO,List.drop_succ_cons,yB,List.zip_cons_cons,Er,Bool.not_or,cw]at h ⊢;exact h.2
  have ao:=Ws bG;have eb:=aps h 0 a b rfl rfl;refine List.Pairwise.cons (fun c ak=>?_) ao;rcases eH.1 ak with rfl | ak
  ·exact eb
  exact M8 eb ((List.pairwise_cons.1 ao).1 c ak)
variable{xs:List Cell}
theorem apu(h:xs.Pairwise fun a b=>iN a b<0):kO xs=true:=by
 simp only[kO,hb,ft];rintro⟨a,b⟩ hp;obtain⟨i,hi⟩:=List.getElem?_of_mem hp;obtain⟨h1,U⟩:=Cv hi;have bk:=a1 U;have:=List.pairwise_iff_getElem.1 h i (i+1) (by omega) bk (by omega);rw[iD (by omega)]at h1 U;rw[gJ h1,gJ U]at this;replace this:iN a b<0:=this;show ¬decide (iN a b>=0)=true;grind
theorem apv(x:Cell)(h:xs.Pairwise fun a b=>iN a b<0):(kq xs x).Pairwise fun a b=>iN a b<0:=by
 unfold kq;split
 ·exact h
 rename_i iJ;have af:∀a∈xs,a≠x:=by
  intro a ai e;exact iJ (oK.2 ⟨a,ai,by simp[e]⟩)
 have aw:∀i a,xs[i]?=some a->i<mB xs x->iN a x<0:=by
  intro i a ai hi;unfold mB at hi;cases bF:xs.findIdx? (fun a=>!decide (iN a x<0)) with
  | none=>
   grind
  | some k=>
   rw[bF]at hi;simp only[lL]at hi;rw[uG]at bF;grind
 have ai:∀i a,xs[i]?=some a->mB xs x<=i->iN x a<0:=by
  intro i a ai hi;have hk:mB xs x<xs.length:=by grind
  obtain⟨b,h2⟩:=c4 hk;have bO:¬iN b x<0:=by
   unfold mB at h2 hk;cases bF:xs.findIdx? (fun a=>!decide (iN a x<0)) with
   | none=>grind
   | some k=>
    rw[bF]at h2;simp only[lL]at h2;rw[uG]at bF;grind
  have aDG:=apt bO (af b (c9 h2));rcases Nat.lt_or_eq_of_le hi with bS | heq
  ·have bk:=a1 ai;have:=List.pairwise_iff_getElem.1 h (mB xs x) i hk bk bS;grind[gJ,M8]
  grind
 rw[List.pairwise_append];refine⟨h.sublist (List.take_sublist _ _),List.Pairwise.cons (fun c ak=>?_) (h.sublist (List.drop_sublist _ _)),fun a Jz c ak=>?_⟩
 ·obtain⟨i,hi⟩:=List.getElem?_of_mem ak;grind
 obtain⟨i,hi⟩:=List.getElem?_of_mem Jz;rw[kb]at hi;split at hi
 ·rename_i bS;have h1:=aw i a hi bS;rcases eH.1 ak with rfl | ak
  ·exact h1
  obtain⟨j,bk⟩:=List.getElem?_of_mem ak;grind[M8]
 cases hi
theorem apw(kind:Int)(x:Cell)(h:kO xs=true):kO (cA kind xs x).1=true:=by
 have ao:=Ws h;grind[apu,apv,List.filter_sublist,eT,cA,h7]
theorem apx{cs:List Cell}(r:az)(h:kO cs=true):kO (dq g cs r).1=true:=by
 unfold dq;cases fS g r.op with
 | none=>exact h
 | some x=>
  grind[apw,dU]
theorem apy{x:Node}{k v:Int}(af:aQ x=true)(hi:fy k v=true):fy (cI x k v).1 (cI x k v).2.1=true:=by
 have o7:=af;simp only[aQ,cw]at af;have ai:=af.1.1.1.1;have qb:=hi;simp only[fy,av,cw,ck]at hi;unfold cI;rw[o7,qb,Bool.and_self,bn rfl];unfold bU at ai;split
 ·rename_i U;rw[bn U]at ai;simp only[av,cw,ck]at ai;have al:0<=less (v+x.a) 999/\less (v+x.a) 999<=999:=by grind[less]
  simp_all[fy,av,cw,ck]
 rename_i U;rw[bw U]at ai;split
 ·rename_i aJ;rw[bw (by omega),bn aJ]at ai;simp only[av,cw,ck]at ai;simp only[fy,av,cw,ck];grind
 grind
theorem apz(h:eh g=true){op:Int}{x:Node}(aZ:fS g op=some x):jD g op.toNat x=false:=by
 simp only[eh,cw,hb]at h;grind[fS,G0]
theorem Wt(h:eh g=true){op:Int}{x:Node}(aZ:fS g op=some x){s:gC}{k v:Int}(ao:h6 s=true)(hi:fy k v=true):gw g (fq x s k v)=true:=by
 have aw:=apz h aZ;have af:=NE h aZ;simp only[aQ,cw]at af;simp only[jD,gl]at aw;have he:=aw.2;rw[ft]at he;simp only[gw,fq,List.any_map,hb,ft];intro o a7;have h1:=Np af.2 a7;have U:=he o a7;simp only[gN,pV,not_or,ck]at U;simp only[Function.comp,j6,eJ,h1,ao,hi,Bool.and_self,iU,ke,ck];omega
theorem apA{cs:List Cell}:gw g (dq g cs r).2.1=true:=by
 unfold dq;cases aZ:fS g r.op with
 | none=>rfl
 | some x=>
  simp only[dU];split
  ·rename_i ax;rw[cw]at ax;obtain⟨ax,aD⟩:=ax;have e8:=aD;simp only[eJ,cw]at aD;have ak:=apy (NE ax aZ) aD.2;split
   ·rfl
   split
   ·rfl
   split
   ·cases bG:(e9 r.bi).2 with
    | false=>rfl
    | true=>
     refine Wt ax aZ ?_ ak;unfold e9 at bG ⊢;split
     ·rename_i h1;simp only[cw,h6,av,ck]at h1 ⊢;omega
     grind
   grind[Wt]
  rfl
theorem aq1(h:e6 g w=true):e6 g (eX g w).1=true:=by
 unfold eX;split
 ·split
  ·rename_i r q h1 U;obtain⟨cS,bt,fP,pa,kI,pb,k6,qk,tQ,KX⟩:=ik.1 h;rw[U,qx]at cS;refine ik.2 ⟨cS.2,apA,fP,apx r pa,kI,pb,?_,qk,tQ,KX⟩;grind
  exact h
 exact h
