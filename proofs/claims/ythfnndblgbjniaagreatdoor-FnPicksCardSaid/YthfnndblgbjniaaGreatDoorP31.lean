import Derived.Test.YthfnndblgbjniaaGreatDoorP17
set_option linter.unusedVariables false
set_option linter.unusedSimpArgs false
namespace Go.Proofs.YthfnndblgbjniaaGreatDoor
open Go.Sx Go.RowKit Go.Proofs.Tryz
variable{c:bi}
theorem mX(h:c.sz<=8388608):c.aA.sz<=8388608:=by grind[bi.sz]
theorem TG(h:c.sz<=8388608):c.tokens.length<=8388608:=by grind[bi.sz,fr]
theorem vC(h:c.sz<=8388608):c.news.length<=8388608:=by grind[bi.sz,fr]
def jT(g:b5)(i:Nat)(l:br):Bool:=
 !ik l||((l.cap != g.cap)||(!gb g l.queue||((i:Int).tdiv g.az==(i:Int).tmod g.az&&decide ((l.queue.length:Int)>0))))
def la(n:Int)(t:bW):Bool:=!av t.place 0 (n-1)||((!t.going&&t.place != 0)||!av t.sum (-1000000) 1000000)
def lb(n:Int)(x:bR):Bool:=!av x.dest 0 (n-1)||!av x.bh 0 3
def cP(c:bi):Bool:=
 ev c.aA&&(((c.az.length:Int)==c.aA.az)&&(((c.bU.length:Int)==c.aA.az*c.aA.az)&&((c.tokens.length==4)&&(!(c.az.any fun w=>!eT c.aA w)&&(!(anyI (jT c.aA) 0 c.bU)&&(!(c.tokens.any (la c.aA.az))&&!(c.news.any (lb c.aA.az))))))))
theorem mc{g:b5}(h:ev g=true):1<=g.az/\g.az<=4:=by
 simp_all[ev,cH,av,c3]
theorem xO(i:Nat)(n:Int)(hi:i<=8388608)(a':1<=n):aK .i64 ((i:Int).tdiv n):=by
 have U:0<=(i:Int).tdiv n:=Int.tdiv_nonneg (by omega) (by omega);have aa:(i:Int).tdiv n<=(i:Int):=Int.tdiv_le_self _ (by omega);exact⟨by omega,by omega⟩
theorem ahb(h:c.wf){l:br}(ar:l∈c.bU):l.de<=9223372036854775807:=by
 have:=(bi.IF h ar).N';grind[aK]
def fs(c:bi):Prop:=∀l∈c.bU,l.de<=9223372036854775807
theorem fs.of(h:c.wf):fs c:=fun _ ar=>ahb h ar
theorem ahc(c:bi)(ao:c.sz<=8388608)(a':(c.az.length:Int)=c.aA.az):
  ((c.az.any fun w=>!eT c.aA w)=false/\c6 prog (ap f84 0) (sH (c.aA.nodes.map Node.e) c.aA.az c.aA.cap (c.az.map aR.e) (c.bU.map br.e) (c.tokens.map bW.e) (c.news.map bR.e) 0) (.exit 0) (IW (c.aA.nodes.map Node.e) c.aA.az c.aA.cap (c.az.map aR.e) (c.bU.map br.e) (c.tokens.map bW.e) (c.news.map bR.e)))\/
  ((c.az.any fun w=>!eT c.aA w)=true/\c6 prog (ap f84 0) (sH (c.aA.nodes.map Node.e) c.aA.az c.aA.cap (c.az.map aR.e) (c.bU.map br.e) (c.tokens.map bW.e) (c.news.map bR.e) 0) .ret (En false)):=by
 have ar:=bi.Bu ao;have l:=gI (P:=prog) (c:=(ap f84 0)) c.az (fun w=>!eT c.aA w) (fun i=>sH (c.aA.nodes.map Node.e) c.aA.az c.aA.cap (c.az.map aR.e) (c.bU.map br.e) (c.tokens.map bW.e) (c.news.map bR.e) i) (X:=fun _ _=>En false) ff (cy 0)
  (fun i a aj h=>by
   have k:=Ey c.aA a (mX ao) (bi.Fx ao (eQ aj));rw[show eT c.aA a=true by simpa using h]at k;exact ae7 ⟨dm (by grind),bB,bI (a7 aj),bC aR.e aj,k,rfl,dc (a7 aj) ar,ad⟩)
  (fun i a aj h=>by
   have k:=Ey c.aA a (mX ao) (bi.Fx ao (eQ aj));rw[show eT c.aA a=false by simpa using h]at k;exact ae6 ⟨dm (by grind),bB,bI (a7 aj),bC aR.e aj,k,rfl,ad⟩)
  (ae8 ⟨dX (by omega),ad⟩)
 grind
theorem ahd(c:bi)(ao:c.sz<=8388608)(hw:fs c)(a':1<=c.aA.az):
  (anyI (jT c.aA) 0 c.bU=false/\c6 prog (ap f84 1) (l' c.aA.az 0 (c.aA.nodes.map Node.e) c.aA.az c.aA.cap (c.az.map aR.e) (c.bU.map br.e) (c.tokens.map bW.e) (c.news.map bR.e)) (.exit 2) (Ar c.aA.az (c.aA.nodes.map Node.e) c.aA.az c.aA.cap (c.az.map aR.e) (c.bU.map br.e) (c.tokens.map bW.e) (c.news.map bR.e)))\/
  (anyI (jT c.aA) 0 c.bU=true/\c6 prog (ap f84 1) (l' c.aA.az 0 (c.aA.nodes.map Node.e) c.aA.az c.aA.cap (c.az.map aR.e) (c.bU.map br.e) (c.tokens.map bW.e) (c.news.map bR.e)) .ret (xL false)):=by
 have ar:=bi.Dj ao;have my:∀(i:Nat) (a:br),c.bU[i]?=some a->∀r,ik a=r->al 140 [.agg a.e] [.one (B r)]:=fun i a aj r h=>h▸Ev a (bi.Di ao (eQ aj))
 have fX:∀(i:Nat) (a:br),c.bU[i]?=some a->∀r,gb c.aA a.queue=r->al 141 [.agg c.aA.e,.one (.J 5 (a.queue.map aD.e))] [.one (B r)]:=fun i a aj r h=>vA c.aA _ r h (mX ao) (bi.Di ao (eQ aj))
 exact uu (P:=prog) (c:=(ap f84 1)) c.bU (jT c.aA) (fun i=>l' c.aA.az i (c.aA.nodes.map Node.e) c.aA.az c.aA.cap (c.az.map aR.e) (c.bU.map br.e) (c.tokens.map bW.e) (c.news.map bR.e)) ff (cy 2)
  (fun i a aj h=>by
   have hi:=a7 aj;simp only[jT,gX,lf]at h;obtain⟨U,aa,aB,aJ⟩:=h;cases a6:((i:Int).tdiv c.aA.az==(i:Int).tmod c.aA.az) with
   | true=>
    rw[a6,pD]at aJ;exact afe ⟨cc (a7 aj),bB,bI (a7 aj),bC br.e aj,my i a aj _ U,rfl,aa,fX i a aj _ aB,rfl,by omega,xO i _ (by omega) a',by omega,a6,by grind,dc hi ar,ad⟩
   | false=>exact aff ⟨cc (a7 aj),bB,bI (a7 aj),bC br.e aj,my i a aj _ U,rfl,aa,fX i a aj _ aB,rfl,by omega,xO i _ (by omega) a',by omega,a6,dc hi ar,ad⟩)
  (fun i a aj h=>by
   have hi:=a7 aj;cases U:ik a with
   | false=>exact afa ⟨cc (a7 aj),bB,bI (a7 aj),bC br.e aj,my i a aj _ U,rfl,ad⟩
   | true=>
   cases aa:(a.cap != c.aA.cap) with
   | true=>exact afb ⟨cc (a7 aj),bB,bI (a7 aj),bC br.e aj,my i a aj _ U,rfl,aa,ad⟩
   | false=>
   cases aB:gb c.aA a.queue with
   | false=>exact afc ⟨cc (a7 aj),bB,bI (a7 aj),bC br.e aj,my i a aj _ U,rfl,aa,fX i a aj _ aB,rfl,ad⟩
   | true=>
   simp only[jT,U,aa,aB,ja,j1,cH]at h;exact afd ⟨cc (a7 aj),bB,bI (a7 aj),bC br.e aj,my i a aj _ U,rfl,aa,fX i a aj _ aB,rfl,by omega,xO i _ (by omega) a',by omega,h.1,by grind,ad⟩)
  (afg ⟨dG,ad⟩)
theorem ahe(c:bi)(ao:c.sz<=8388608)(a':1<=c.aA.az/\c.aA.az<=4):
  ((c.tokens.any (la c.aA.az))=false/\c6 prog (ap f84 2) (mE c.aA.az (c.aA.nodes.map Node.e) c.aA.az c.aA.cap (c.az.map aR.e) (c.bU.map br.e) (c.tokens.map bW.e) (c.news.map bR.e) 0) (.exit 4) (Eo c.aA.az (c.aA.nodes.map Node.e) c.aA.az c.aA.cap (c.az.map aR.e) (c.bU.map br.e) (c.tokens.map bW.e) (c.news.map bR.e)))\/
  ((c.tokens.any (la c.aA.az))=true/\c6 prog (ap f84 2) (mE c.aA.az (c.aA.nodes.map Node.e) c.aA.az c.aA.cap (c.az.map aR.e) (c.bU.map br.e) (c.tokens.map bW.e) (c.news.map bR.e) 0) .ret (wa false)):=by
 have ar:=TG ao;have l:=gI (P:=prog) (c:=(ap f84 2)) c.tokens (la c.aA.az) (fun i=>mE c.aA.az (c.aA.nodes.map Node.e) c.aA.az c.aA.cap (c.az.map aR.e) (c.bU.map br.e) (c.tokens.map bW.e) (c.news.map bR.e) i) (X:=fun _ _=>wa false) ff (cy 4)
  (fun i a aj h=>by
   have hi:=a7 aj;simp only[la,gX,lf]at h;obtain⟨U,aa,aB⟩:=h;cases ax:a.going with
   | false=>
    rw[ax,nN,pD]at aa;exact afl ⟨cc (a7 aj),bB,bI (a7 aj),bC bW.e aj,⟨by omega,by omega⟩,fM _ _ _ true U,rfl,bB,bI (a7 aj),bC bW.e aj,by rw[ax];rfl,bB,bI (a7 aj),bC bW.e aj,aa,bB,bI (a7 aj),bC bW.e aj,fM _ _ _ true aB,rfl,dc hi ar,ad⟩
   | true=>exact afn ⟨cc (a7 aj),bB,bI (a7 aj),bC bW.e aj,⟨by omega,by omega⟩,fM _ _ _ true U,rfl,bB,bI (a7 aj),bC bW.e aj,by rw[ax];rfl,bB,bI (a7 aj),bC bW.e aj,fM _ _ _ true aB,rfl,dc hi ar,ad⟩)
  (fun i a aj h=>by
   have hi:=a7 aj;cases U:av a.place 0 (c.aA.az-1) with
   | false=>exact afi ⟨cc (a7 aj),bB,bI (a7 aj),bC bW.e aj,⟨by omega,by omega⟩,fM _ _ _ false U,rfl,ad⟩
   | true=>
   simp only[la,U,ja,j1]at h;cases ax:a.going with
   | false=>
    rw[ax,nN,pD]at h;cases aa:(a.place != 0) with
    | true=>exact afj ⟨cc (a7 aj),bB,bI (a7 aj),bC bW.e aj,⟨by omega,by omega⟩,fM _ _ _ true U,rfl,bB,bI (a7 aj),bC bW.e aj,by rw[ax];rfl,bB,bI (a7 aj),bC bW.e aj,aa,ad⟩
    | false=>
     rw[aa,j1]at h;exact afk ⟨cc (a7 aj),bB,bI (a7 aj),bC bW.e aj,⟨by omega,by omega⟩,fM _ _ _ true U,rfl,bB,bI (a7 aj),bC bW.e aj,by rw[ax];rfl,bB,bI (a7 aj),bC bW.e aj,aa,bB,bI (a7 aj),bC bW.e aj,fM _ _ _ false (by simpa using h),rfl,ad⟩
   | true=>
    rw[ax,ja,Bool.false_and,j1]at h;exact afm ⟨cc (a7 aj),bB,bI (a7 aj),bC bW.e aj,⟨by omega,by omega⟩,fM _ _ _ true U,rfl,bB,bI (a7 aj),bC bW.e aj,by rw[ax];rfl,bB,bI (a7 aj),bC bW.e aj,fM _ _ _ false (by simpa using h),rfl,ad⟩)
  (afo ⟨dG,ad⟩)
 grind
theorem ahf(c:bi)(ao:c.sz<=8388608)(a':1<=c.aA.az/\c.aA.az<=4):
  ((c.news.any (lb c.aA.az))=false/\c6 prog (ap f84 3) (rB c.aA.az (c.aA.nodes.map Node.e) c.aA.az c.aA.cap (c.az.map aR.e) (c.bU.map br.e) (c.tokens.map bW.e) (c.news.map bR.e) 0) (.exit 6) LP)\/
  ((c.news.any (lb c.aA.az))=true/\c6 prog (ap f84 3) (rB c.aA.az (c.aA.nodes.map Node.e) c.aA.az c.aA.cap (c.az.map aR.e) (c.bU.map br.e) (c.tokens.map bW.e) (c.news.map bR.e) 0) .ret (As false)):=by
 have ar:=vC ao;have l:=gI (P:=prog) (c:=(ap f84 3)) c.news (lb c.aA.az) (fun i=>rB c.aA.az (c.aA.nodes.map Node.e) c.aA.az c.aA.cap (c.az.map aR.e) (c.bU.map br.e) (c.tokens.map bW.e) (c.news.map bR.e) i) (X:=fun _ _=>As false) ff (cy 6)
  (fun i a aj h=>by
   have hi:=a7 aj;simp only[lb,gX,lf]at h;exact aeC ⟨cc (a7 aj),bB,bI (a7 aj),bC bR.e aj,⟨by omega,by omega⟩,fM _ _ _ true h.1,rfl,bB,bI (a7 aj),bC bR.e aj,fM _ _ _ true h.2,rfl,dc hi ar,ad⟩)
  (fun i a aj h=>by
   have hi:=a7 aj;cases U:av a.dest 0 (c.aA.az-1) with
   | false=>exact afq ⟨cc (a7 aj),bB,bI (a7 aj),bC bR.e aj,⟨by omega,by omega⟩,fM _ _ _ false U,rfl,ad⟩
   | true=>
    simp only[lb,U,ja,j1]at h;exact afr ⟨cc (a7 aj),bB,bI (a7 aj),bC bR.e aj,⟨by omega,by omega⟩,fM _ _ _ true U,rfl,bB,bI (a7 aj),bC bR.e aj,fM _ _ _ false (by simpa using h),rfl,ad⟩)
  (aeD ⟨dG,ad⟩)
 grind
theorem ahg(c:bi)(ao:c.sz<=8388608)(hw:fs c):al 84 [.agg c.e] [.one (B (cP c))]:=by
 have ax:=xJ c.aA (mX ao);unfold cP;cases U:ev c.aA with
 | false=>rw[U]at ax;exact ae2 ⟨ax,rfl,ad⟩
 | true=>
 rw[U]at ax;have a':=mc U;have aL:aK .i64 (c.aA.az*c.aA.az):=by
  have aB:c.aA.az=1\/c.aA.az=2\/c.aA.az=3\/c.aA.az=4:=by omega
  rcases aB with aB | aB | aB | aB<;>(rw[aB];exact⟨by decide,by decide⟩)
 cases aa:((c.az.length:Int)==c.aA.az) with
 | false=>exact ae3 ⟨ax,rfl,by grind,ad⟩
 | true=>
 have v2:((↑(c.az.map aR.e).length:Int) != c.aA.az)=false:=by grind
 cases aB:((c.bU.length:Int)==c.aA.az*c.aA.az) with
 | false=>exact ae4 ⟨ax,rfl,v2,aL,by grind,ad⟩
 | true=>
 have v3:((↑(c.bU.map br.e).length:Int) != c.aA.az*c.aA.az)=false:=by grind
 cases aJ:(c.tokens.length==4) with
 | false=>exact ae5 ⟨ax,rfl,v2,aL,v3,tO aJ,ad⟩
 | true=>
 rcases ahc c ao (eq_of_beq aa) with⟨a6,og⟩ | ⟨a6,og⟩
 case inr=>rw[a6];exact ae9 ⟨ax,rfl,v2,aL,v3,fS aJ,og,ad⟩
 rw[a6];rcases ahd c ao hw a'.1 with⟨bF,qb⟩ | ⟨bF,qb⟩
 case inr=>rw[bF];exact afh ⟨ax,rfl,v2,aL,v3,fS aJ,og,qb,ad⟩
 rw[bF];rcases ahe c ao a' with⟨bY,sy⟩ | ⟨bY,sy⟩
 case inr=>rw[bY];exact afp ⟨ax,rfl,v2,aL,v3,fS aJ,og,qb,sy,ad⟩
 rw[bY];rcases ahf c ao a' with⟨dy,jQ⟩ | ⟨dy,jQ⟩
 ·rw[dy];exact aeF ⟨ax,rfl,v2,aL,v3,fS aJ,og,qb,sy,jQ,ad⟩
 rw[dy];exact aeE ⟨ax,rfl,v2,aL,v3,fS aJ,og,qb,sy,jQ,ad⟩
theorem ahh(c:bi)(ao:c.sz<=8388608)(a':(c.az.length:Int)=c.aA.az):
  ((c.az.any fun w=>!eT c.aA w)=false/\c6 prog (ap f41 0) (sI c.aA.az (c.az.map aR.e) 0 (c.aA.nodes.map Node.e) c.aA.az c.aA.cap (c.az.map aR.e) (c.bU.map br.e) (c.tokens.map bW.e) (c.news.map bR.e)) (.exit 0) (IX c.aA.az (c.aA.nodes.map Node.e) c.aA.az c.aA.cap (c.az.map aR.e) (c.bU.map br.e) (c.tokens.map bW.e) (c.news.map bR.e)))\/
  ((c.az.any fun w=>!eT c.aA w)=true/\c6 prog (ap f41 0) (sI c.aA.az (c.az.map aR.e) 0 (c.aA.nodes.map Node.e) c.aA.az c.aA.cap (c.az.map aR.e) (c.bU.map br.e) (c.tokens.map bW.e) (c.news.map bR.e)) .ret (Ep false)):=by
 have ar:=bi.Bu ao;have l:=gI (P:=prog) (c:=(ap f41 0)) c.az (fun w=>!eT c.aA w) (fun i=>sI c.aA.az (c.az.map aR.e) i (c.aA.nodes.map Node.e) c.aA.az c.aA.cap (c.az.map aR.e) (c.bU.map br.e) (c.tokens.map bW.e) (c.news.map bR.e)) (X:=fun _ _=>Ep false) ff (cy 0)
  (fun i a aj h=>by
   have k:=Ez c.aA a (mX ao) (bi.Fx ao (eQ aj));rw[show eT c.aA a=true by simpa using h]at k;exact aeL ⟨cc (a7 aj),bB,bI (a7 aj),bC aR.e aj,k,rfl,dc (a7 aj) ar,ad⟩)
  (fun i a aj h=>by
   have k:=Ez c.aA a (mX ao) (bi.Fx ao (eQ aj));rw[show eT c.aA a=false by simpa using h]at k;exact aeK ⟨cc (a7 aj),bB,bI (a7 aj),bC aR.e aj,k,rfl,ad⟩)
  (aeM ⟨dG,ad⟩)
 grind
theorem ahi(c:bi)(ao:c.sz<=8388608)(hw:fs c)(a':1<=c.aA.az):
  (anyI (jT c.aA) 0 c.bU=false/\c6 prog (ap f41 1) (ma c.aA.az (c.bU.map br.e) 0 (c.aA.nodes.map Node.e) c.aA.az c.aA.cap (c.az.map aR.e) (c.bU.map br.e) (c.tokens.map bW.e) (c.news.map bR.e)) (.exit 2) (At c.aA.az (c.aA.nodes.map Node.e) c.aA.az c.aA.cap (c.az.map aR.e) (c.bU.map br.e) (c.tokens.map bW.e) (c.news.map bR.e)))\/
  (anyI (jT c.aA) 0 c.bU=true/\c6 prog (ap f41 1) (ma c.aA.az (c.bU.map br.e) 0 (c.aA.nodes.map Node.e) c.aA.az c.aA.cap (c.az.map aR.e) (c.bU.map br.e) (c.tokens.map bW.e) (c.news.map bR.e)) .ret (xM false)):=by
 have ar:=bi.Dj ao;have my:∀(i:Nat) (a:br),c.bU[i]?=some a->∀r,ik a=r->al 80 [.agg a.e] [.one (B r)]:=fun i a aj r h=>h▸Eu a (bi.Di ao (eQ aj)) (hw _ (eQ aj))
 have fX:∀(i:Nat) (a:br),c.bU[i]?=some a->∀r,gb c.aA a.queue=r->al 81 [.agg c.aA.e,.one (.J 5 (a.queue.map aD.e))] [.one (B r)]:=fun i a aj r h=>vB c.aA _ r h (mX ao) (bi.Di ao (eQ aj))
 exact uu (P:=prog) (c:=(ap f41 1)) c.bU (jT c.aA) (fun i=>ma c.aA.az (c.bU.map br.e) i (c.aA.nodes.map Node.e) c.aA.az c.aA.cap (c.az.map aR.e) (c.bU.map br.e) (c.tokens.map bW.e) (c.news.map bR.e)) ff (cy 2)
  (fun i a aj h=>by
   have hi:=a7 aj;simp only[jT,gX,lf]at h;obtain⟨U,aa,aB,aJ⟩:=h;cases a6:((i:Int).tdiv c.aA.az==(i:Int).tmod c.aA.az) with
   | true=>
    rw[a6,pD]at aJ;exact aeS ⟨cc (a7 aj),bB,bI (a7 aj),bC br.e aj,my i a aj _ U,rfl,aa,fX i a aj _ aB,rfl,by omega,xO i _ (by omega) a',by omega,a6,by grind,dc hi ar,ad⟩
   | false=>exact aeT ⟨cc (a7 aj),bB,bI (a7 aj),bC br.e aj,my i a aj _ U,rfl,aa,fX i a aj _ aB,rfl,by omega,xO i _ (by omega) a',by omega,a6,dc hi ar,ad⟩)
  (fun i a aj h=>by
   have hi:=a7 aj;cases U:ik a with
   | false=>exact aeO ⟨cc (a7 aj),bB,bI (a7 aj),bC br.e aj,my i a aj _ U,rfl,ad⟩
   | true=>
   cases aa:(a.cap != c.aA.cap) with
   | true=>exact aeP ⟨cc (a7 aj),bB,bI (a7 aj),bC br.e aj,my i a aj _ U,rfl,aa,ad⟩
   | false=>
   cases aB:gb c.aA a.queue with
   | false=>exact aeQ ⟨cc (a7 aj),bB,bI (a7 aj),bC br.e aj,my i a aj _ U,rfl,aa,fX i a aj _ aB,rfl,ad⟩
   | true=>
   simp only[jT,U,aa,aB,ja,j1,cH]at h;exact aeR ⟨cc (a7 aj),bB,bI (a7 aj),bC br.e aj,my i a aj _ U,rfl,aa,fX i a aj _ aB,rfl,by omega,xO i _ (by omega) a',by omega,h.1,by grind,ad⟩)
  (aeU ⟨dG,ad⟩)
theorem ahj(c:bi)(ao:c.sz<=8388608)(a':1<=c.aA.az/\c.aA.az<=4):
  ((c.tokens.any (la c.aA.az))=false/\c6 prog (ap f41 2) (mF c.aA.az (c.tokens.map bW.e) 0 (c.aA.nodes.map Node.e) c.aA.az c.aA.cap (c.az.map aR.e) (c.bU.map br.e) (c.tokens.map bW.e) (c.news.map bR.e)) (.exit 4) (Er c.aA.az (c.aA.nodes.map Node.e) c.aA.az c.aA.cap (c.az.map aR.e) (c.bU.map br.e) (c.tokens.map bW.e) (c.news.map bR.e)))\/
  ((c.tokens.any (la c.aA.az))=true/\c6 prog (ap f41 2) (mF c.aA.az (c.tokens.map bW.e) 0 (c.aA.nodes.map Node.e) c.aA.az c.aA.cap (c.az.map aR.e) (c.bU.map br.e) (c.tokens.map bW.e) (c.news.map bR.e)) .ret (wb false)):=by
 have ar:=TG ao;have l:=gI (P:=prog) (c:=(ap f41 2)) c.tokens (la c.aA.az) (fun i=>mF c.aA.az (c.tokens.map bW.e) i (c.aA.nodes.map Node.e) c.aA.az c.aA.cap (c.az.map aR.e) (c.bU.map br.e) (c.tokens.map bW.e) (c.news.map bR.e)) (X:=fun _ _=>wb false) ff (cy 4)
  (fun i a aj h=>by
   have hi:=a7 aj;simp only[la,gX,lf]at h;obtain⟨U,aa,aB⟩:=h;cases ax:a.going with
   | false=>
    rw[ax,nN,pD]at aa;exact aeZ ⟨cc (a7 aj),bB,bI (a7 aj),bC bW.e aj,⟨by omega,by omega⟩,hl true U,rfl,by rw[ax];rfl,aa,hl true aB,rfl,dc hi ar,ad⟩
   | true=>exact ae1 ⟨cc (a7 aj),bB,bI (a7 aj),bC bW.e aj,⟨by omega,by omega⟩,hl true U,rfl,by rw[ax];rfl,hl true aB,rfl,dc hi ar,ad⟩)
  (fun i a aj h=>by
   have hi:=a7 aj;cases U:av a.place 0 (c.aA.az-1) with
   | false=>exact aeW ⟨cc (a7 aj),bB,bI (a7 aj),bC bW.e aj,⟨by omega,by omega⟩,hl false U,rfl,ad⟩
   | true=>
   simp only[la,U,ja,j1]at h;cases ax:a.going with
   | false=>
    rw[ax,nN,pD]at h;cases aa:(a.place != 0) with
    | true=>exact aeX ⟨cc (a7 aj),bB,bI (a7 aj),bC bW.e aj,⟨by omega,by omega⟩,hl true U,rfl,by rw[ax];rfl,aa,ad⟩
    | false=>
     rw[aa,j1]at h;exact aeY ⟨cc (a7 aj),bB,bI (a7 aj),bC bW.e aj,⟨by omega,by omega⟩,hl true U,rfl,by rw[ax];rfl,aa,hl false (by simpa using h),rfl,ad⟩
   | true=>
    rw[ax,ja,Bool.false_and,j1]at h;exact ae0 ⟨cc (a7 aj),bB,bI (a7 aj),bC bW.e aj,⟨by omega,by omega⟩,hl true U,rfl,by rw[ax];rfl,hl false (by simpa using h),rfl,ad⟩)
  (aes ⟨dG,ad⟩)
 grind
theorem ahk(c:bi)(ao:c.sz<=8388608)(a':1<=c.aA.az/\c.aA.az<=4):
  ((c.news.any (lb c.aA.az))=false/\c6 prog (ap f41 3) (rC c.aA.az (c.news.map bR.e) 0) (.exit 6) LQ)\/
  ((c.news.any (lb c.aA.az))=true/\c6 prog (ap f41 3) (rC c.aA.az (c.news.map bR.e) 0) .ret (Au false)):=by
 have ar:=vC ao;have l:=gI (P:=prog) (c:=(ap f41 3)) c.news (lb c.aA.az) (fun i=>rC c.aA.az (c.news.map bR.e) i) (X:=fun _ _=>Au false) ff (cy 6)
  (fun i a aj h=>by
   have hi:=a7 aj;simp only[lb,gX,lf]at h;exact aew ⟨cc (a7 aj),bB,bI (a7 aj),bC bR.e aj,⟨by omega,by omega⟩,hl true h.1,rfl,hl true h.2,rfl,dc hi ar,ad⟩)
  (fun i a aj h=>by
   have hi:=a7 aj;cases U:av a.dest 0 (c.aA.az-1) with
   | false=>exact aeu ⟨cc (a7 aj),bB,bI (a7 aj),bC bR.e aj,⟨by omega,by omega⟩,hl false U,rfl,ad⟩
   | true=>
    simp only[lb,U,ja,j1]at h;exact aev ⟨cc (a7 aj),bB,bI (a7 aj),bC bR.e aj,⟨by omega,by omega⟩,hl true U,rfl,hl false (by simpa using h),rfl,ad⟩)
  (aex ⟨dG,ad⟩)
 grind
theorem EA(c:bi)(ao:c.sz<=8388608)(hw:fs c):al 41 [.agg c.e] [.one (B (cP c))]:=by
 have ax:=xK c.aA (mX ao);unfold cP;cases U:ev c.aA with
 | false=>rw[U]at ax;exact aeG ⟨ax,rfl,ad⟩
 | true=>
 rw[U]at ax;have a':=mc U;have aL:aK .i64 (c.aA.az*c.aA.az):=by
  have aB:c.aA.az=1\/c.aA.az=2\/c.aA.az=3\/c.aA.az=4:=by omega
  rcases aB with aB | aB | aB | aB<;>(rw[aB];exact⟨by decide,by decide⟩)
 cases aa:((c.az.length:Int)==c.aA.az) with
 | false=>exact aeH ⟨ax,rfl,by grind,ad⟩
 | true=>
 have v2:((↑(c.az.map aR.e).length:Int) != c.aA.az)=false:=by grind
 cases aB:((c.bU.length:Int)==c.aA.az*c.aA.az) with
 | false=>exact aeI ⟨ax,rfl,v2,aL,by grind,ad⟩
 | true=>
 have v3:((↑(c.bU.map br.e).length:Int) != c.aA.az*c.aA.az)=false:=by grind
 cases aJ:(c.tokens.length==4) with
 | false=>exact aeJ ⟨ax,rfl,v2,aL,v3,tO aJ,ad⟩
 | true=>
 rcases ahh c ao (eq_of_beq aa) with⟨a6,og⟩ | ⟨a6,og⟩
 case inr=>rw[a6];exact aeN ⟨ax,rfl,v2,aL,v3,fS aJ,og,ad⟩
 rw[a6];rcases ahi c ao hw a'.1 with⟨bF,qb⟩ | ⟨bF,qb⟩
 case inr=>rw[bF];exact aeV ⟨ax,rfl,v2,aL,v3,fS aJ,og,qb,ad⟩
 rw[bF];rcases ahj c ao a' with⟨bY,sy⟩ | ⟨bY,sy⟩
 case inr=>rw[bY];exact aet ⟨ax,rfl,v2,aL,v3,fS aJ,og,qb,sy,ad⟩
 rw[bY];rcases ahk c ao a' with⟨dy,jQ⟩ | ⟨dy,jQ⟩
 ·rw[dy];exact aez ⟨ax,rfl,v2,aL,v3,fS aJ,og,qb,sy,jQ,ad⟩
 rw[dy];exact aey ⟨ax,rfl,v2,aL,v3,fS aJ,og,qb,sy,jQ,ad⟩
end Go.Proofs.YthfnndblgbjniaaGreatDoor
namespace Go.Proofs.YthfnndblgbjniaaGreatDoor
open Go.Sx Go.RowKit Go.Proofs.Tryz
def cutAt{α:Type}(xs:List α)(k:Nat):List α:=xs.take k++xs.drop (k+1)
def yp:aD:=⟨0,⟨0,0⟩,0,0⟩
def mx(xs:List Int)(e d:Int):List Int:=xs.set e.toNat (xs.getD e.toNat 0+d)
def et(l:br)(r:aD):br×Bool:=
 if ik l&&fb r&&l.eH != 0&&decide (l.e7<1000000000) then (⟨l.cap,l.queue++[r],l.eH-1,l.back,l.e7+1,l.de⟩,true) else (l,false)
def d'(l:br):br×aD×Bool:=
 if ik l then match l.queue with
  | []=>(l,yp,false)
  | r::q=>(⟨l.cap,q,l.eH,l.back+1,l.e7,l.de+1⟩,r,true)
 else (l,yp,false)
def fB(l:br):br×Bool:=
 if ik l&&l.back != 0 then (⟨l.cap,l.queue,l.eH+1,l.back-1,l.e7,l.de⟩,true) else (l,false)
def eI(g:b5)(w:aR):aR×Bool:=
 if ev g&&eT g w then match w.ck,w.queue with
  | [],r::q=>(⟨q,(dO g w.cells r).2.1,w.cb,(dO g w.cells r).1,w.bJ,w.bV,(if dx g r then w.bt.set r.bw.bh.toNat true else w.bt),w.bX⟩,true)
  | _,_=>(w,false)
 else (w,false)
def eJ(g:b5)(w:aR):aR×Bool:=
 if ev g&&eT g w then match w.ck,w.queue,w.cb with
  | [],[],r::t=>(⟨[r],[],t,w.cells,w.bJ,w.bV,w.bt,w.bX⟩,true)
  | _,_,_=>(w,false)
 else (w,false)
def il(w:aR)(t:List aD):aR:=⟨w.queue,t,w.cb,w.cells,w.bJ,w.bV,w.bt,w.bX⟩
def kept(w:aR)(r:aD):aR:=⟨w.queue++[r],w.ck,w.cb,w.cells,w.bJ,w.bV,w.bt,w.bX⟩
def im(w:aR)(r:aD):aR:=⟨w.queue++[r],w.ck,w.cb,w.cells,mx w.bJ r.bw.bh (-1),w.bV.set r.bw.bh.toNat true,w.bt,w.bX⟩
def mG(w:aR)(e:Int):aR:=⟨w.queue,w.ck,w.cb,w.cells,mx w.bJ e 1,w.bV,w.bt,w.bX⟩
def gr(w:aR)(e:Int):aR:=⟨w.queue,w.ck,w.cb,w.cells,w.bJ,w.bV.set e.toNat false,w.bt,w.bX⟩
def told(w:aR)(e:Int)(b:Bool):aR:=⟨w.queue,w.ck,w.cb,w.cells,w.bJ,w.bV,w.bt,w.bX++[⟨e,b⟩]⟩
def hb(w:aR)(n:bR):aR:=if h5 w n.bh then w else told w n.bh n.dx
def vD(w:aR)(e:Int):Bool:=w.cb.any fun r=>decide (r.bw.bh<=e)
def TH(w:aR)(e:Int):Nat:=(l8 e w.queue).length+(l8 e w.ck).length
def kh(w:aR)(e:Int):Bool:=!vD w e&&TH w e==0
def setW(c:bi)(i:Int)(x:aR):bi:=⟨c.aA,c.az.set i.toNat x,c.bU,c.tokens,c.news⟩
def ea(c:bi)(i:Int)(l:br):bi:=⟨c.aA,c.az,c.bU.set i.toNat l,c.tokens,c.news⟩
def dV(c:bi)(i:Int)(t:bW):bi:=⟨c.aA,c.az,c.bU,c.tokens.set i.toNat t,c.news⟩
def iu(c:bi)(n:List bR):bi:=⟨c.aA,c.az,c.bU,c.tokens,n⟩
def dh(c:bi)(i:Int):Option aR:=if 0<=i then c.az[i.toNat]? else none
def hd(c:bi)(i:Int):Option br:=if 0<=i then c.bU[i.toNat]? else none
def jX(c:bi)(i:Int):Option bW:=if 0<=i then c.tokens[i.toNat]? else none
def fg(g:b5)(a b:Int):Int:=if av a 0 (g.az-1)&&av b 0 (g.az-1) then a*g.az+b else -1
def iS(c:bi)(w:Int):bi×Bool:=
 if cP c then match dh c w with
  | some x=>(setW c w (eI c.aA x).1,(eI c.aA x).2)
  | none=>(c,false)
 else (c,false)
def iT(c:bi)(w:Int):bi×Bool:=
 if cP c then match dh c w with
  | some x=>(setW c w (eJ c.aA x).1,(eJ c.aA x).2)
  | none=>(c,false)
 else (c,false)
def uC(c:bi)(w:Int)(x:aR)(r:aD)(t:List aD)(o:Int):bi×Bool:=
 if o=w then (setW c w (kept (il x t) r),true)
 else match hd c (fg c.aA w o) with
  | some l=>if (et l r).2 then (setW (ea c (fg c.aA w o) (et l r).1) w (mG (il x t) r.bw.bh),true) else (c,false)
  | none=>(c,false)
def iU(c:bi)(w:Int):bi×Bool:=
 if cP c then match dh c w with
  | some x=>match x.ck with
   | r::t=>uC c w x r t (jx r.key c.aA.az)
   | []=>(c,false)
  | none=>(c,false)
 else (c,false)
def jU(c:bi)(a b:Int):bi×Bool:=
 if cP c&&a != b then match hd c (fg c.aA a b),dh c b with
  | some l,some x=>if (d' l).2.2 then (setW (ea c (fg c.aA a b) (d' l).1) b (im x (d' l).2.1),true) else (c,false)
  | _,_=>(c,false)
 else (c,false)
def iV(c:bi)(a b:Int):bi×Bool:=
 if cP c&&a != b then match hd c (fg c.aA a b) with
  | some l=>(ea c (fg c.aA a b) (fB l).1,(fB l).2)
  | none=>(c,false)
 else (c,false)
def hh(n:Nat)(e:Int)(b:Bool):List bR:=(List.range n).map fun k:Nat=>⟨(k:Int)+1,e,b⟩
def eA(c:bi)(e:Int)(t:bW)(x:aR):bi×Bool:=
 if kh x e then
  if !t.going then (setW (dV c e ⟨true,(c.az.length:Int)-1,0,false,x.bt.getD e.toNat false⟩) t.place (gr x e),true)
  else if 0<t.place then
   if av (t.sum+x.bJ.getD e.toNat 0) (-1000000) 1000000 then
    (setW (dV c e ⟨true,t.place-1,t.sum+x.bJ.getD e.toNat 0,t.bV||x.bV.getD e.toNat false,t.dx||x.bt.getD e.toNat false⟩) t.place (gr x e),true)
   else (c,false)
  else if !t.bV&&!x.bV.getD e.toNat false&&t.sum+x.bJ.getD e.toNat 0==0 then
   (iu (setW (dV c e ⟨false,t.place,t.sum,t.bV,t.dx⟩) 0 (told x e (t.dx||x.bt.getD e.toNat false))) (c.news++hh (c.az.length-1) e (t.dx||x.bt.getD e.toNat false)),true)
  else (dV c e ⟨false,t.place,t.sum,t.bV,t.dx⟩,true)
 else (c,false)
def h9(c:bi)(e:Int):bi×Bool:=
 if cP c&&av e 0 3 then match dh c 0,jX c e with
  | some e9,some t=>if h5 e9 e then (c,false) else match dh c t.place with
   | some x=>eA c e t x
   | none=>(c,false)
  | _,_=>(c,false)
 else (c,false)
def jV(c:bi)(w:Int):bi×Bool:=
 match c.news.findIdx? (fun n=>n.dest==w) with
 | some k=>if cP c then match c.news[k]?,dh c w with
   | some n,some x=>(iu (setW c w (hb x n)) (cutAt c.news k),true)
   | _,_=>(c,false)
  else (c,false)
 | none=>(c,false)
def dC(c:bi)(p:cf):bi×Bool:=
 if p.kind=1 then iS c p.a else if p.kind=2 then iT c p.a else if p.kind=3 then iU c p.a
 else if p.kind=4 then jU c p.a p.b else if p.kind=5 then iV c p.a p.b else if p.kind=6 then h9 c p.a
 else if p.kind=7 then jV c p.a else (c,false)
theorem TI(g:b5)(w:aR):((eI g w).2=false/\(eI g w).1=w)\/
  ((eI g w).2=true/\∃r q,w.ck=[]/\w.queue=r::q/\(eI g w).1=⟨q,(dO g w.cells r).2.1,w.cb,(dO g w.cells r).1,w.bJ,w.bV,(if dx g r then w.bt.set r.bw.bh.toNat true else w.bt),w.bX⟩):=by
 grind[eI]
theorem TJ(g:b5)(w:aR):((eJ g w).2=false/\(eJ g w).1=w)\/
  ((eJ g w).2=true/\∃r t,w.ck=[]/\w.queue=[]/\w.cb=r::t/\(eJ g w).1=⟨[r],[],t,w.cells,w.bJ,w.bV,w.bt,w.bX⟩):=by
 grind[eJ]
end Go.Proofs.YthfnndblgbjniaaGreatDoor
namespace Go.Proofs.YthfnndblgbjniaaGreatDoor
open Go.Sx Go.RowKit Go.Proofs.Tryz
section
variable {α : Type}
theorem K3{p:α->Bool}{xs:List α}{i:Nat}{x:α}(h:xs.any p=false)(hi:i<xs.length):(xs.set i x).any p=p x:=by
 cases aq:p x with
 | true=>exact rU.2 ⟨x,List.mem_iff_getElem.2 ⟨i,by grind,by simp⟩,aq⟩
 | false=>
  grind
theorem TK{p:Nat->α->Bool}{x:α}:∀{xs:List α} {k i:Nat},anyI p k xs=false->i<xs.length->anyI p k (xs.set i x)=p (k+i) x
 | [],_,_,_,h=>by simp at h
 | a::xs,k,0,h,_=>by
  simp_all[anyI,gX,List.set_cons_zero,Bool.or_false,nO]
 | a::xs,k,i+1,h,hi=>by
  simp only[anyI,gX]at h;simp only[List.set_cons_succ,anyI,h.1,j1];rw[TK h.2 (by simpa using hi),show k+1+i=k+(i+1) by omega]
theorem TL{p:Nat->α->Bool}{xs:List α}(h:∀i a,xs[i]?=some a->p i a=false):anyI p 0 xs=false:=by
 cases aq:anyI p 0 xs with
 | false=>rfl
 | true=>
  obtain⟨i,a,U,aa,_⟩:=J4 aq;grind
theorem EB{p:Nat->α->Bool}{xs:List α}(h:anyI p 0 xs=false){i:Nat}{a:α}(aj:xs[i]?=some a):p i a=false:=by
 have:=EN h i a aj;grind
end
variable{c:bi}
theorem hL:cP c=true<->ev c.aA=true/\(c.az.length:Int)=c.aA.az/\(c.bU.length:Int)=c.aA.az*c.aA.az/\c.tokens.length=4/\(c.az.any fun w=>!eT c.aA w)=false/\anyI (jT c.aA) 0 c.bU=false/\c.tokens.any (la c.aA.az)=false/\c.news.any (lb c.aA.az)=false:=by
 simp only[cP,cH,i',kE]
variable{i:Int}{x:aR}
theorem kR(h:dh c i=some x):0<=i/\i.toNat<c.az.length/\c.az[i.toNat]?=some x:=by
 grind[dh,a7]
theorem qA{x:br}(h:hd c i=some x):0<=i/\i.toNat<c.bU.length/\c.bU[i.toNat]?=some x:=by
 grind[hd,a7]
theorem EC{x:bW}(h:jX c i=some x):0<=i/\i.toNat<c.tokens.length/\c.tokens[i.toNat]?=some x:=by
 grind[jX,a7]
theorem uD{y:aR}(h:cP c=true)(bM:dh c i=some y):cP (setW c i x)=eT c.aA x:=by
 obtain⟨U,aa,aB,aJ,a6,bF,bY,dy⟩:=hL.1 h;have hi:=(kR bM).2.1;simp only[cP,setW,hr,K3 a6 hi,U,aa,aB,aJ,bF,bY,dy,ti,nN,uW,pD,Bool.not_not]
theorem K4{x y:br}(h:cP c=true)(bM:hd c i=some y):cP (ea c i x)=!jT c.aA i.toNat x:=by
 obtain⟨U,aa,aB,aJ,a6,bF,bY,dy⟩:=hL.1 h;have hi:=(qA bM).2.1;simp only[cP,ea,hr,TK bF hi,dW,U,aa,aB,aJ,a6,bY,dy,ti,nN,uW,pD]
theorem ahl{x y:bW}(h:cP c=true)(bM:jX c i=some y):cP (dV c i x)=!la c.aA.az x:=by
 obtain⟨U,aa,aB,aJ,a6,bF,bY,dy⟩:=hL.1 h;have hi:=(EC bM).2.1;simp only[cP,dV,hr,K3 bY hi,U,aa,aB,aJ,a6,bF,dy,ti,nN,uW,pD]
theorem TM{x:List bR}(h:cP c=true):cP (iu c x)=!(x.any (lb c.aA.az)):=by
 obtain⟨U,aa,aB,aJ,a6,bF,bY,dy⟩:=hL.1 h;simp only[cP,iu,U,aa,aB,aJ,a6,bF,bY,ti,nN,pD]
theorem l1(h:cP c=true)(aq:dh c i=some x):eT c.aA x=true:=by
 have a6:=(hL.1 h).2.2.2.2.1;rw[hW]at a6;simpa using a6 x (eQ (kR aq).2.2)
theorem xP{x:br}(h:cP c=true)(aq:hd c i=some x):jT c.aA i.toNat x=false:=
 EB (hL.1 h).2.2.2.2.2.1 (qA aq).2.2
theorem K5{x:bW}(h:cP c=true)(aq:jX c i=some x):la c.aA.az x=false:=by
 have a6:=(hL.1 h).2.2.2.2.2.2.1;rw[hW]at a6;simpa using a6 x (eQ (EC aq).2.2)
theorem sK(aq:dh c i=some x):setW c i x=c:=by
 obtain⟨_,aa,aB⟩:=kR aq;have:c.az.set i.toNat x=c.az:=by
  grind[gd,List.set_getElem_self]
 simp_all[setW]
theorem ahm{x:br}(aq:hd c i=some x):ea c i x=c:=by
 obtain⟨_,aa,aB⟩:=qA aq;have:c.bU.set i.toNat x=c.bU:=by
  grind[gd,List.set_getElem_self]
 simp_all[ea]
variable{g:b5}{w:aR}
theorem jy:eT g w=true<->gb g w.queue=true/\gb g w.ck=true/\gb g w.cb=true/\kg w.cells=true/\w.bJ.length=4/\w.bV.length=4/\w.bt.length=4/\anyI (mw w.cb) 0 w.cb=false/\w.bJ.any nD=false/\anyI (mb w.bX) 0 w.bX=false:=by
 simp only[eT,cH,i',kE]
variable{r:aD}
theorem sL{q:List aD}:gb g (r::q)=true<->lD g r=false/\gb g q=true:=by
 grind[gb,i',gX]
theorem K6{q:List aD}:gb g (q++[r])=true<->gb g q=true/\lD g r=false:=by
 simp only[gb,List.any_append,B',List.any_nil,Bool.or_false,i',gX]
theorem ahn{t:List aD}(h:anyI (mw (r::t)) 0 (r::t)=false):anyI (mw t) 0 t=false:=by
 refine TL fun i a aj=>?_
 have k:=EB h (i:=i+1) (a:=a) (by grind);unfold mw at k ⊢;grind
theorem aho{xs:List cz}{d:cz}(h:anyI (mb xs) 0 xs=false)(U:av d.bh 0 3=true)(aa:(xs.any fun q=>q.bh==d.bh)=false):anyI (mb (xs++[d])) 0 (xs++[d])=false:=by
 refine TL fun i a aj=>?_
 by_cases hi:i<xs.length
 ·grind[EB,mb]
 have ar:=a7 aj;simp only[lL,ic,eh]at ar;have e:i=xs.length:=by omega
 simp_all[gw,Nat.sub_self,mb,XA,kX]
theorem ahp(h:eT g w=true)(aH:lD g r=false):eT g (kept w r)=true:=by
 obtain⟨U,aa⟩:=jy.1 h;exact jy.2 ⟨K6.2 ⟨U,aH⟩,aa⟩
theorem ED{t:List aD}(h:eT g w=true)(ak:w.ck=r::t):eT g (il w t)=true/\lD g r=false:=by
 obtain⟨U,aa,aB⟩:=jy.1 h;rw[ak,sL]at aa;exact⟨jy.2 ⟨U,aa.2,aB⟩,aa.1⟩
variable{e:Int}
theorem ahq(h:eT g w=true):eT g (gr w e)=true:=by
 obtain⟨U,aa,aB,aJ,a6,bF,bY⟩:=jy.1 h;exact jy.2 ⟨U,aa,aB,aJ,a6,by grind[gr,hr],bY⟩
theorem TN{b:Bool}(h:eT g w=true)(he:av e 0 3=true)(aI:h5 w e=false):eT g (told w e b)=true:=by
 obtain⟨U,aa,aB,aJ,a6,bF,bY,dy,eg,dH⟩:=jy.1 h;exact jy.2 ⟨U,aa,aB,aJ,a6,bF,bY,dy,eg,aho dH he aI⟩
theorem ahr{n:bR}(h:eT g w=true)(he:av n.bh 0 3=true):eT g (hb w n)=true:=by
 unfold hb;cases aI:h5 w n.bh with
 | true=>exact h
 | false=>grind[TN]
theorem TO{e d:Int}{k:Nat}(h:eT g w=true)(ba:e.toNat=k)(aJ:k<4):(mx w.bJ e d).length=4/\(mx w.bJ e d).any nD=nD (w.bJ.getD e.toNat 0+d):=by
 obtain⟨U,aa,aB,_,a6,bF,bY,dy,eg,dH⟩:=jy.1 h;grind[mx,hr,K3]
theorem qB{g:b5}(h:lD g r=false):0<=r.bw.bh/\r.bw.bh<=3:=by
 simp only[lD,fb,hK,av,gX,lf,cH,c3]at h;omega
theorem ahs(h:eT g w=true)(he:0<=e/\e<=3):eT g (mG w e)=av (w.bJ.getD e.toNat 0+1) (-1000000) 1000000:=by
 obtain⟨c7,bQ⟩:=TO (d:=1) h (e:=e) rfl (by omega);obtain⟨U,aa,aB,aJ,a6,bF,bY,dy,eg,dH⟩:=jy.1 h;simp only[eT,mG,U,aa,aB,aJ,c7,bF,bY,dy,dH,bQ,nD,ti,nN,uW,pD,Bool.not_not]
theorem agD(h:eT g w=true)(aH:lD g r=false):eT g (im w r)=av (w.bJ.getD r.bw.bh.toNat 0+-1) (-1000000) 1000000:=by
 have he:=qB aH;obtain⟨c7,bQ⟩:=TO (d:=-1) h (e:=r.bw.bh) rfl (by omega);obtain⟨U,aa,aB,aJ,a6,bF,bY,dy,eg,dH⟩:=jy.1 h;have aL:=K6.2 ⟨U,aH⟩;simp only[eT,im,aL,aa,aB,aJ,c7,hr,bF,bY,dy,dH,bQ,nD,ti,nN,uW,pD,Bool.not_not]
theorem agE(h:eT g w=true):eT g (eJ g w).1=true:=by
 unfold eJ;split
 ·split
  ·rename_i r t U aa aB;obtain⟨_,_,fW,qa,j',od,kt,pf,sw,Iz⟩:=jy.1 h;rw[aB]at fW pf;exact jy.2 ⟨sL.2 ⟨(sL.1 fW).1,rfl⟩,rfl,(sL.1 fW).2,qa,j',od,kt,ahn pf,sw,Iz⟩
  exact h
 exact h
theorem agF:∀{xs:List Cell},kg xs=true->∀i a b,xs[i]?=some a->xs[i+1]?=some b->h4 a b<0:=by
 intro xs h i a b U aa;simp only[kg,i',hW]at h;have hm:(a,b)∈xs.zip (xs.drop 1):=by
  refine eQ (i:=i) ?_;grind
 simp_all[Et,c3]
def uE(a:Cell):List Int:=[a.bh,a.op,a.key,a.val]
theorem TP(a b:Cell):h4 a b=pK (uE a) (uE b):=rfl
theorem K7{a b c:Cell}(U:h4 a b<0)(aa:h4 b c<0):h4 a c<0:=by
 rw[TP] at*;exact SN (uE a) (uE b) (uE c) rfl rfl U aa
theorem agG{a b:Cell}(U:¬h4 a b<0)(aa:a≠b):h4 b a<0:=by
 rw[TP] at*;refine Classical.byContradiction fun h=>aa ?_
 have:=SO (uE a) (uE b) rfl U h;simp only[uE,rS,and_true]at this;obtain⟨ix,jB,wH,uR⟩:=this;cases a;simp_all
theorem TQ:∀{xs:List Cell},kg xs=true->xs.Pairwise fun a b=>h4 a b<0
 | [],_=>List.Pairwise.nil
 | [a],_=>List.pairwise_singleton _ a
 | a::b::xs,h=>by
  have bZ:kg (b::xs)=true:=by
   simp only[kg,List.drop_succ_cons,wN,List.zip_cons_cons,B',Bool.not_or,cH]at h ⊢;exact h.2
  have ak:=TQ bZ;have fD:=agF h 0 a b rfl rfl;refine List.Pairwise.cons (fun c ao=>?_) ak;rcases eK.1 ao with rfl | ao
  ·exact fD
  exact K7 fD ((List.pairwise_cons.1 ak).1 c ao)
variable{xs:List Cell}
theorem agH(h:xs.Pairwise fun a b=>h4 a b<0):kg xs=true:=by
 simp only[kg,i',hW];rintro⟨a,b⟩ hp;obtain⟨i,hi⟩:=List.getElem?_of_mem hp;obtain⟨U,aa⟩:=Av hi;have bm:=a7 aa;have:=List.pairwise_iff_getElem.1 h i (i+1) (by omega) bm (by omega);rw[iB (by omega)]at U aa;rw[gd U,gd aa]at this;replace this:h4 a b<0:=this;show ¬decide (h4 a b>=0)=true;grind
theorem agI(x:Cell)(h:xs.Pairwise fun a b=>h4 a b<0):(kB xs x).Pairwise fun a b=>h4 a b<0:=by
 unfold kB;split
 ·exact h
 rename_i lr;have aq:∀a∈xs,a≠x:=by
  intro a aj e;exact lr (rU.2 ⟨a,aj,by simp[e]⟩)
 have ay:∀i a,xs[i]?=some a->i<l9 xs x->h4 a x<0:=by
  intro i a aj hi;unfold l9 at hi;cases b8:xs.findIdx? (fun a=>!decide (h4 a x<0)) with
  | none=>
   grind
  | some k=>
   rw[b8]at hi;simp only[kZ]at hi;rw[tg]at b8;grind
 have aj:∀i a,xs[i]?=some a->l9 xs x<=i->h4 x a<0:=by
  intro i a aj hi;have ba:l9 xs x<xs.length:=by grind
  obtain⟨b,hx⟩:=c2 ba;have b4:¬h4 b x<0:=by
   unfold l9 at hx ba;cases b8:xs.findIdx? (fun a=>!decide (h4 a x<0)) with
   | none=>grind
   | some k=>
    rw[b8]at hx;simp only[kZ]at hx;rw[tg]at b8;grind
  have ayt:=agG b4 (aq b (eQ hx));rcases Nat.lt_or_eq_of_le hi with bO | heq
  ·have bm:=a7 aj;have:=List.pairwise_iff_getElem.1 h (l9 xs x) i ba bm bO;grind[gd,K7]
  grind
 rw[List.pairwise_append];refine⟨h.sublist (List.take_sublist _ _),List.Pairwise.cons (fun c ao=>?_) (h.sublist (List.drop_sublist _ _)),fun a G9 c ao=>?_⟩
 ·obtain⟨i,hi⟩:=List.getElem?_of_mem ao;grind
 obtain⟨i,hi⟩:=List.getElem?_of_mem G9;rw[jZ]at hi;split at hi
 ·rename_i bO;have U:=ay i a hi bO;rcases eK.1 ao with rfl | ao
  ·exact U
  obtain⟨j,bm⟩:=List.getElem?_of_mem ao;grind[K7]
 cases hi
theorem agJ(kind:Int)(x:Cell)(h:kg xs=true):kg (c8 kind xs x).1=true:=by
 have ak:=TQ h;grind[agH,agI,List.filter_sublist,e6,c8,jw]
theorem agK{cs:List Cell}(r:aD)(h:kg cs=true):kg (dO g cs r).1=true:=by
 unfold dO;cases gi g r.op with
 | none=>exact h
 | some x=>
  grind[agJ,dS]
theorem agL{x:Node}{k v:Int}(aq:aQ x=true)(hi:fq k v=true):fq (cX x k v).1 (cX x k v).2.1=true:=by
 have zG:=aq;simp only[aQ,cH]at aq;have aj:=aq.1.1.1.1;have nh:=hi;simp only[fq,av,cH,c3]at hi;unfold cX;rw[zG,nh,Bool.and_self,bL rfl];unfold bP at aj;split
 ·rename_i aa;rw[bL aa]at aj;simp only[av,cH,c3]at aj;have ar:0<=less (v+x.a) 999/\less (v+x.a) 999<=999:=by grind[less]
  simp_all[fq,av,cH,c3]
 rename_i aa;rw[bH aa]at aj;split
 ·rename_i aJ;rw[bH (by omega),bL aJ]at aj;simp only[av,cH,c3]at aj;simp only[fq,av,cH,c3];grind
 grind
theorem agM(h:ev g=true){op:Int}{x:Node}(a':gi g op=some x):jv g op.toNat x=false:=by
 simp only[ev,cH,i']at h;grind[gi,EB]
theorem TR(h:ev g=true){op:Int}{x:Node}(a':gi g op=some x){s:gY}{k v:Int}(ak:hK s=true)(hi:fq k v=true):gb g (iq x s k v)=true:=by
 have ay:=agM h a';have aq:=K2 h a';simp only[aQ,cH]at aq;simp only[jv,gX]at ay;have he:=ay.2;rw[hW]at he;simp only[gb,iq,List.any_map,i',hW];intro o bc;have U:=LC aq.2 bc;have aa:=he o bc;simp only[gj,qQ,not_or,c3]at aa;simp only[Function.comp,lD,fb,U,ak,hi,Bool.and_self,ja,j1,c3];omega
theorem agN{cs:List Cell}:gb g (dO g cs r).2.1=true:=by
 unfold dO;cases a':gi g r.op with
 | none=>rfl
 | some x=>
  simp only[dS];split
  ·rename_i ax;rw[cH]at ax;obtain⟨ax,aH⟩:=ax;have eS:=aH;simp only[fb,cH]at aH;have ao:=agL (K2 ax a') aH.2;split
   ·rfl
   split
   ·rfl
   split
   ·cases bZ:(e5 r.bw).2 with
    | false=>rfl
    | true=>
     refine TR ax a' ?_ ao;unfold e5 at bZ ⊢;split
     ·rename_i U;simp only[cH,hK,av,c3]at U ⊢;omega
     grind
   grind[TR]
  rfl
theorem agO(h:eT g w=true):eT g (eI g w).1=true:=by
 unfold eI;split
 ·split
  ·rename_i r q U aa;obtain⟨c7,bQ,fW,qa,j',od,kt,pf,sw,Iz⟩:=jy.1 h;rw[aa,sL]at c7;refine jy.2 ⟨c7.2,agN,fW,agK r qa,j',od,?_,pf,sw,Iz⟩;grind
  exact h
 exact h
