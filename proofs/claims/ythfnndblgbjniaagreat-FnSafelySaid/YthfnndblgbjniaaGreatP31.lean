import Derived.Test.YthfnndblgbjniaaGreatP21
set_option linter.unusedVariables false
set_option linter.unusedSimpArgs false
namespace Go.Proofs.YthfnndblgbjniaaGreat
open Go.Sx Go.RowKit Go.Proofs.Tryz
variable{c:aO}
theorem oq(h:c.sz<=8388608):c.au.sz<=8388608:=by grind[aO.sz]
theorem WT(h:c.sz<=8388608):c.tokens.length<=8388608:=by grind[aO.sz,fw]
theorem x6(h:c.sz<=8388608):c.news.length<=8388608:=by grind[aO.sz,fw]
def kF(g:bX)(i:Nat)(l:bj):Bool:=
 !jt l||((l.cap != g.cap)||(!gJ g l.queue||((i:Int).tdiv g.aq==(i:Int).tmod g.aq&&decide ((l.queue.length:Int)>0))))
def lP(n:Int)(t:bQ):Bool:=!ax t.place 0 (n-1)||((!t.going&&t.place != 0)||!ax t.sum (-1000000) 1000000)
def lQ(n:Int)(x:bT):Bool:=!ax x.dest 0 (n-1)||!ax x.ba 0 3
def cx(c:aO):Bool:=
 ej c.au&&(((c.aq.length:Int)==c.au.aq)&&(((c.bn.length:Int)==c.au.aq*c.au.aq)&&((c.tokens.length==4)&&(!(c.aq.any fun w=>!fb c.au w)&&(!(anyI (kF c.au) 0 c.bn)&&(!(c.tokens.any (lP c.au.aq))&&!(c.news.any (lQ c.au.aq))))))))
theorem iz{g:bX}(h:ej g=true):1<=g.aq/\g.aq<=4:=by
 simp_all[ej,cu,ax,cj]
theorem Ai(i:Nat)(n:Int)(hi:i<=8388608)(aW:1<=n):aL .i64 ((i:Int).tdiv n):=by
 have h1:0<=(i:Int).tdiv n:=Int.tdiv_nonneg (by omega) (by omega);have U:(i:Int).tdiv n<=(i:Int):=Int.tdiv_le_self _ (by omega);exact⟨by omega,by omega⟩
theorem aq8(h:c.wf){l:bj}(al:l∈c.bn):l.db<=9223372036854775807:=by
 have:=(aO.LD h al).R4;grind[aL]
def fE(c:aO):Prop:=∀l∈c.bn,l.db<=9223372036854775807
theorem fE.of(h:c.wf):fE c:=fun _ al=>aq8 h al
theorem aq9(c:aO)(ai:c.sz<=8388608)(aW:(c.aq.length:Int)=c.au.aq):
  ((c.aq.any fun w=>!fb c.au w)=false/\c8 prog (ap f28 0) (uA (c.au.nodes.map Node.e) c.au.aq c.au.cap (c.aq.map aK.e) (c.bn.map bj.e) (c.tokens.map bQ.e) (c.news.map bT.e) 0) (.exit 0) (LV (c.au.nodes.map Node.e) c.au.aq c.au.cap (c.aq.map aK.e) (c.bn.map bj.e) (c.tokens.map bQ.e) (c.news.map bT.e)))\/
  ((c.aq.any fun w=>!fb c.au w)=true/\c8 prog (ap f28 0) (uA (c.au.nodes.map Node.e) c.au.aq c.au.cap (c.aq.map aK.e) (c.bn.map bj.e) (c.tokens.map bQ.e) (c.news.map bT.e) 0) .ret (GC false)):=by
 have al:=aO.nA ai;have l:=gl (P:=prog) (c:=(ap f28 0)) c.aq (fun w=>!fb c.au w) (fun i=>uA (c.au.nodes.map Node.e) c.au.aq c.au.cap (c.aq.map aK.e) (c.bn.map bj.e) (c.tokens.map bQ.e) (c.news.map bT.e) i) (X:=fun _ _=>GC false) eC (cn 0)
  (fun i a ah h=>by
   have k:=H0 c.au a (oq ai) (aO.oY ai (cD ah));rw[show fb c.au a=true by simpa using h]at k;exact apy ⟨dh (by grind),bx,bH (aY ah),bA aK.e ah,k,rfl,c0 (aY ah) al,aa⟩)
  (fun i a ah h=>by
   have k:=H0 c.au a (oq ai) (aO.oY ai (cD ah));rw[show fb c.au a=false by simpa using h]at k;exact apx ⟨dh (by grind),bx,bH (aY ah),bA aK.e ah,k,rfl,aa⟩)
  (apz ⟨ea (by omega),aa⟩)
 grind
theorem ara(c:aO)(ai:c.sz<=8388608)(hw:fE c)(aW:1<=c.au.aq):
  (anyI (kF c.au) 0 c.bn=false/\c8 prog (ap f28 1) (np c.au.aq 0 (c.au.nodes.map Node.e) c.au.aq c.au.cap (c.aq.map aK.e) (c.bn.map bj.e) (c.tokens.map bQ.e) (c.news.map bT.e)) (.exit 2) (CG c.au.aq (c.au.nodes.map Node.e) c.au.aq c.au.cap (c.aq.map aK.e) (c.bn.map bj.e) (c.tokens.map bQ.e) (c.news.map bT.e)))\/
  (anyI (kF c.au) 0 c.bn=true/\c8 prog (ap f28 1) (np c.au.aq 0 (c.au.nodes.map Node.e) c.au.aq c.au.cap (c.aq.map aK.e) (c.bn.map bj.e) (c.tokens.map bQ.e) (c.news.map bT.e)) .ret (Af false)):=by
 have al:=aO.zJ ai;have pG:∀(i:Nat) (a:bj),c.bn[i]?=some a->∀r,jt a=r->ar 74 [.agg a.e] [.one (B r)]:=fun i a ah r h=>h▸HX a (aO.qD ai (cD ah))
 have gA:∀(i:Nat) (a:bj),c.bn[i]?=some a->∀r,gJ c.au a.queue=r->ar 75 [.agg c.au.e,.one (.J 5 (a.queue.map az.e))] [.one (B r)]:=fun i a ah r h=>xZ c.au _ r h (oq ai) (aO.qD ai (cD ah))
 exact qQ (P:=prog) (c:=(ap f28 1)) c.bn (kF c.au) (fun i=>np c.au.aq i (c.au.nodes.map Node.e) c.au.aq c.au.cap (c.aq.map aK.e) (c.bn.map bj.e) (c.tokens.map bQ.e) (c.news.map bT.e)) eC (cn 2)
  (fun i a ah h=>by
   have hi:=aY ah;simp only[kF,fC,jC]at h;obtain⟨h1,U,aA,aJ⟩:=h;cases a7:((i:Int).tdiv c.au.aq==(i:Int).tmod c.au.aq) with
   | true=>
    rw[a7,lB]at aJ;exact apF ⟨bV (aY ah),bx,bH (aY ah),bA bj.e ah,pG i a ah _ h1,rfl,U,gA i a ah _ aA,rfl,by omega,Ai i _ (by omega) aW,by omega,a7,by grind,c0 hi al,aa⟩
   | false=>exact apG ⟨bV (aY ah),bx,bH (aY ah),bA bj.e ah,pG i a ah _ h1,rfl,U,gA i a ah _ aA,rfl,by omega,Ai i _ (by omega) aW,by omega,a7,c0 hi al,aa⟩)
  (fun i a ah h=>by
   have hi:=aY ah;cases h1:jt a with
   | false=>exact apB ⟨bV (aY ah),bx,bH (aY ah),bA bj.e ah,pG i a ah _ h1,rfl,aa⟩
   | true=>
   cases U:(a.cap != c.au.cap) with
   | true=>exact apC ⟨bV (aY ah),bx,bH (aY ah),bA bj.e ah,pG i a ah _ h1,rfl,U,aa⟩
   | false=>
   cases aA:gJ c.au a.queue with
   | false=>exact apD ⟨bV (aY ah),bx,bH (aY ah),bA bj.e ah,pG i a ah _ h1,rfl,U,gA i a ah _ aA,rfl,aa⟩
   | true=>
   simp only[kF,h1,U,aA,hy,hn,cu]at h;exact apE ⟨bV (aY ah),bx,bH (aY ah),bA bj.e ah,pG i a ah _ h1,rfl,U,gA i a ah _ aA,rfl,by omega,Ai i _ (by omega) aW,by omega,h.1,by grind,aa⟩)
  (apH ⟨dq,aa⟩)
theorem arb(c:aO)(ai:c.sz<=8388608)(aW:1<=c.au.aq/\c.au.aq<=4):
  ((c.tokens.any (lP c.au.aq))=false/\c8 prog (ap f28 2) (n1 c.au.aq (c.au.nodes.map Node.e) c.au.aq c.au.cap (c.aq.map aK.e) (c.bn.map bj.e) (c.tokens.map bQ.e) (c.news.map bT.e) 0) (.exit 4) (GD c.au.aq (c.au.nodes.map Node.e) c.au.aq c.au.cap (c.aq.map aK.e) (c.bn.map bj.e) (c.tokens.map bQ.e) (c.news.map bT.e)))\/
  ((c.tokens.any (lP c.au.aq))=true/\c8 prog (ap f28 2) (n1 c.au.aq (c.au.nodes.map Node.e) c.au.aq c.au.cap (c.aq.map aK.e) (c.bn.map bj.e) (c.tokens.map bQ.e) (c.news.map bT.e) 0) .ret (xV false)):=by
 have al:=WT ai;have l:=gl (P:=prog) (c:=(ap f28 2)) c.tokens (lP c.au.aq) (fun i=>n1 c.au.aq (c.au.nodes.map Node.e) c.au.aq c.au.cap (c.aq.map aK.e) (c.bn.map bj.e) (c.tokens.map bQ.e) (c.news.map bT.e) i) (X:=fun _ _=>xV false) eC (cn 4)
  (fun i a ah h=>by
   have hi:=aY ah;simp only[lP,fC,jC]at h;obtain⟨h1,U,aA⟩:=h;cases ay:a.going with
   | false=>
    rw[ay,o3,lB]at U;exact apM ⟨bV (aY ah),bx,bH (aY ah),bA bQ.e ah,⟨by omega,by omega⟩,fm _ _ _ true h1,rfl,bx,bH (aY ah),bA bQ.e ah,by rw[ay];rfl,bx,bH (aY ah),bA bQ.e ah,U,bx,bH (aY ah),bA bQ.e ah,fm _ _ _ true aA,rfl,c0 hi al,aa⟩
   | true=>exact apO ⟨bV (aY ah),bx,bH (aY ah),bA bQ.e ah,⟨by omega,by omega⟩,fm _ _ _ true h1,rfl,bx,bH (aY ah),bA bQ.e ah,by rw[ay];rfl,bx,bH (aY ah),bA bQ.e ah,fm _ _ _ true aA,rfl,c0 hi al,aa⟩)
  (fun i a ah h=>by
   have hi:=aY ah;cases h1:ax a.place 0 (c.au.aq-1) with
   | false=>exact apJ ⟨bV (aY ah),bx,bH (aY ah),bA bQ.e ah,⟨by omega,by omega⟩,fm _ _ _ false h1,rfl,aa⟩
   | true=>
   simp only[lP,h1,hy,hn]at h;cases ay:a.going with
   | false=>
    rw[ay,o3,lB]at h;cases U:(a.place != 0) with
    | true=>exact apK ⟨bV (aY ah),bx,bH (aY ah),bA bQ.e ah,⟨by omega,by omega⟩,fm _ _ _ true h1,rfl,bx,bH (aY ah),bA bQ.e ah,by rw[ay];rfl,bx,bH (aY ah),bA bQ.e ah,U,aa⟩
    | false=>
     rw[U,hn]at h;exact apL ⟨bV (aY ah),bx,bH (aY ah),bA bQ.e ah,⟨by omega,by omega⟩,fm _ _ _ true h1,rfl,bx,bH (aY ah),bA bQ.e ah,by rw[ay];rfl,bx,bH (aY ah),bA bQ.e ah,U,bx,bH (aY ah),bA bQ.e ah,fm _ _ _ false (by simpa using h),rfl,aa⟩
   | true=>
    rw[ay,hy,Bool.false_and,hn]at h;exact apN ⟨bV (aY ah),bx,bH (aY ah),bA bQ.e ah,⟨by omega,by omega⟩,fm _ _ _ true h1,rfl,bx,bH (aY ah),bA bQ.e ah,by rw[ay];rfl,bx,bH (aY ah),bA bQ.e ah,fm _ _ _ false (by simpa using h),rfl,aa⟩)
  (apP ⟨dq,aa⟩)
 grind
theorem arc(c:aO)(ai:c.sz<=8388608)(aW:1<=c.au.aq/\c.au.aq<=4):
  ((c.news.any (lQ c.au.aq))=false/\c8 prog (ap f28 3) (s4 c.au.aq (c.au.nodes.map Node.e) c.au.aq c.au.cap (c.aq.map aK.e) (c.bn.map bj.e) (c.tokens.map bQ.e) (c.news.map bT.e) 0) (.exit 6) Pe)\/
  ((c.news.any (lQ c.au.aq))=true/\c8 prog (ap f28 3) (s4 c.au.aq (c.au.nodes.map Node.e) c.au.aq c.au.cap (c.aq.map aK.e) (c.bn.map bj.e) (c.tokens.map bQ.e) (c.news.map bT.e) 0) .ret (CH false)):=by
 have al:=x6 ai;have l:=gl (P:=prog) (c:=(ap f28 3)) c.news (lQ c.au.aq) (fun i=>s4 c.au.aq (c.au.nodes.map Node.e) c.au.aq c.au.cap (c.aq.map aK.e) (c.bn.map bj.e) (c.tokens.map bQ.e) (c.news.map bT.e) i) (X:=fun _ _=>CH false) eC (cn 6)
  (fun i a ah h=>by
   have hi:=aY ah;simp only[lQ,fC,jC]at h;exact ao2 ⟨bV (aY ah),bx,bH (aY ah),bA bT.e ah,⟨by omega,by omega⟩,fm _ _ _ true h.1,rfl,bx,bH (aY ah),bA bT.e ah,fm _ _ _ true h.2,rfl,c0 hi al,aa⟩)
  (fun i a ah h=>by
   have hi:=aY ah;cases h1:ax a.dest 0 (c.au.aq-1) with
   | false=>exact ao0 ⟨bV (aY ah),bx,bH (aY ah),bA bT.e ah,⟨by omega,by omega⟩,fm _ _ _ false h1,rfl,aa⟩
   | true=>
    simp only[lQ,h1,hy,hn]at h;exact ao1 ⟨bV (aY ah),bx,bH (aY ah),bA bT.e ah,⟨by omega,by omega⟩,fm _ _ _ true h1,rfl,bx,bH (aY ah),bA bT.e ah,fm _ _ _ false (by simpa using h),rfl,aa⟩)
  (ao3 ⟨dq,aa⟩)
 grind
theorem WU(c:aO)(ai:c.sz<=8388608)(hw:fE c):ar 28 [.agg c.e] [.one (B (cx c))]:=by
 have ay:=Ab c.au (oq ai);unfold cx;cases h1:ej c.au with
 | false=>rw[h1]at ay;exact apt ⟨ay,rfl,aa⟩
 | true=>
 rw[h1]at ay;have aW:=iz h1;have aH:aL .i64 (c.au.aq*c.au.aq):=by
  have aA:c.au.aq=1\/c.au.aq=2\/c.au.aq=3\/c.au.aq=4:=by omega
  rcases aA with aA | aA | aA | aA<;>(rw[aA];exact⟨by decide,by decide⟩)
 cases U:((c.aq.length:Int)==c.au.aq) with
 | false=>exact apu ⟨ay,rfl,by grind,aa⟩
 | true=>
 have v2:((↑(c.aq.map aK.e).length:Int) != c.au.aq)=false:=by grind
 cases aA:((c.bn.length:Int)==c.au.aq*c.au.aq) with
 | false=>exact apv ⟨ay,rfl,v2,aH,by grind,aa⟩
 | true=>
 have v3:((↑(c.bn.map bj.e).length:Int) != c.au.aq*c.au.aq)=false:=by grind
 cases aJ:(c.tokens.length==4) with
 | false=>exact apw ⟨ay,rfl,v2,aH,v3,vH aJ,aa⟩
 | true=>
 rcases aq9 c ai (eq_of_beq U) with⟨a7,pH⟩ | ⟨a7,pH⟩
 case inr=>rw[a7];exact apA ⟨ay,rfl,v2,aH,v3,gB aJ,pH,aa⟩
 rw[a7];rcases ara c ai hw aW.1 with⟨bw,rH⟩ | ⟨bw,rH⟩
 case inr=>rw[bw];exact apI ⟨ay,rfl,v2,aH,v3,gB aJ,pH,rH,aa⟩
 rw[bw];rcases arb c ai aW with⟨b1,uu⟩ | ⟨b1,uu⟩
 case inr=>rw[b1];exact apQ ⟨ay,rfl,v2,aH,v3,gB aJ,pH,rH,uu,aa⟩
 rw[b1];rcases arc c ai aW with⟨dA,kB⟩ | ⟨dA,kB⟩
 ·rw[dA];exact ao5 ⟨ay,rfl,v2,aH,v3,gB aJ,pH,rH,uu,kB,aa⟩
 rw[dA];exact ao4 ⟨ay,rfl,v2,aH,v3,gB aJ,pH,rH,uu,kB,aa⟩
theorem ard(c:aO)(ai:c.sz<=8388608)(aW:(c.aq.length:Int)=c.au.aq):
  ((c.aq.any fun w=>!fb c.au w)=false/\c8 prog (ap f27 0) (uz c.au.aq (c.aq.map aK.e) 0 (c.au.nodes.map Node.e) c.au.aq c.au.cap (c.aq.map aK.e) (c.bn.map bj.e) (c.tokens.map bQ.e) (c.news.map bT.e)) (.exit 0) (LW c.au.aq (c.au.nodes.map Node.e) c.au.aq c.au.cap (c.aq.map aK.e) (c.bn.map bj.e) (c.tokens.map bQ.e) (c.news.map bT.e)))\/
  ((c.aq.any fun w=>!fb c.au w)=true/\c8 prog (ap f27 0) (uz c.au.aq (c.aq.map aK.e) 0 (c.au.nodes.map Node.e) c.au.aq c.au.cap (c.aq.map aK.e) (c.bn.map bj.e) (c.tokens.map bQ.e) (c.news.map bT.e)) .ret (GF false)):=by
 have al:=aO.nA ai;have l:=gl (P:=prog) (c:=(ap f27 0)) c.aq (fun w=>!fb c.au w) (fun i=>uz c.au.aq (c.aq.map aK.e) i (c.au.nodes.map Node.e) c.au.aq c.au.cap (c.aq.map aK.e) (c.bn.map bj.e) (c.tokens.map bQ.e) (c.news.map bT.e)) (X:=fun _ _=>GF false) eC (cn 0)
  (fun i a ah h=>by
   have k:=H2 c.au a (oq ai) (aO.oY ai (cD ah));rw[show fb c.au a=true by simpa using h]at k;exact apb ⟨bV (aY ah),bx,bH (aY ah),bA aK.e ah,k,rfl,c0 (aY ah) al,aa⟩)
  (fun i a ah h=>by
   have k:=H2 c.au a (oq ai) (aO.oY ai (cD ah));rw[show fb c.au a=false by simpa using h]at k;exact apa ⟨bV (aY ah),bx,bH (aY ah),bA aK.e ah,k,rfl,aa⟩)
  (apc ⟨dq,aa⟩)
 grind
theorem arf(c:aO)(ai:c.sz<=8388608)(hw:fE c)(aW:1<=c.au.aq):
  (anyI (kF c.au) 0 c.bn=false/\c8 prog (ap f27 1) (nq c.au.aq (c.bn.map bj.e) 0 (c.au.nodes.map Node.e) c.au.aq c.au.cap (c.aq.map aK.e) (c.bn.map bj.e) (c.tokens.map bQ.e) (c.news.map bT.e)) (.exit 2) (CI c.au.aq (c.au.nodes.map Node.e) c.au.aq c.au.cap (c.aq.map aK.e) (c.bn.map bj.e) (c.tokens.map bQ.e) (c.news.map bT.e)))\/
  (anyI (kF c.au) 0 c.bn=true/\c8 prog (ap f27 1) (nq c.au.aq (c.bn.map bj.e) 0 (c.au.nodes.map Node.e) c.au.aq c.au.cap (c.aq.map aK.e) (c.bn.map bj.e) (c.tokens.map bQ.e) (c.news.map bT.e)) .ret (Ag false)):=by
 have al:=aO.zJ ai;have pG:∀(i:Nat) (a:bj),c.bn[i]?=some a->∀r,jt a=r->ar 71 [.agg a.e] [.one (B r)]:=fun i a ah r h=>h▸HW a (aO.qD ai (cD ah)) (hw _ (cD ah))
 have gA:∀(i:Nat) (a:bj),c.bn[i]?=some a->∀r,gJ c.au a.queue=r->ar 72 [.agg c.au.e,.one (.J 5 (a.queue.map az.e))] [.one (B r)]:=fun i a ah r h=>x0 c.au _ r h (oq ai) (aO.qD ai (cD ah))
 exact qQ (P:=prog) (c:=(ap f27 1)) c.bn (kF c.au) (fun i=>nq c.au.aq (c.bn.map bj.e) i (c.au.nodes.map Node.e) c.au.aq c.au.cap (c.aq.map aK.e) (c.bn.map bj.e) (c.tokens.map bQ.e) (c.news.map bT.e)) eC (cn 2)
  (fun i a ah h=>by
   have hi:=aY ah;simp only[kF,fC,jC]at h;obtain⟨h1,U,aA,aJ⟩:=h;cases a7:((i:Int).tdiv c.au.aq==(i:Int).tmod c.au.aq) with
   | true=>
    rw[a7,lB]at aJ;exact api ⟨bV (aY ah),bx,bH (aY ah),bA bj.e ah,pG i a ah _ h1,rfl,U,gA i a ah _ aA,rfl,by omega,Ai i _ (by omega) aW,by omega,a7,by grind,c0 hi al,aa⟩
   | false=>exact apj ⟨bV (aY ah),bx,bH (aY ah),bA bj.e ah,pG i a ah _ h1,rfl,U,gA i a ah _ aA,rfl,by omega,Ai i _ (by omega) aW,by omega,a7,c0 hi al,aa⟩)
  (fun i a ah h=>by
   have hi:=aY ah;cases h1:jt a with
   | false=>exact ape ⟨bV (aY ah),bx,bH (aY ah),bA bj.e ah,pG i a ah _ h1,rfl,aa⟩
   | true=>
   cases U:(a.cap != c.au.cap) with
   | true=>exact apf ⟨bV (aY ah),bx,bH (aY ah),bA bj.e ah,pG i a ah _ h1,rfl,U,aa⟩
   | false=>
   cases aA:gJ c.au a.queue with
   | false=>exact apg ⟨bV (aY ah),bx,bH (aY ah),bA bj.e ah,pG i a ah _ h1,rfl,U,gA i a ah _ aA,rfl,aa⟩
   | true=>
   simp only[kF,h1,U,aA,hy,hn,cu]at h;exact aph ⟨bV (aY ah),bx,bH (aY ah),bA bj.e ah,pG i a ah _ h1,rfl,U,gA i a ah _ aA,rfl,by omega,Ai i _ (by omega) aW,by omega,h.1,by grind,aa⟩)
  (apk ⟨dq,aa⟩)
theorem arh(c:aO)(ai:c.sz<=8388608)(aW:1<=c.au.aq/\c.au.aq<=4):
  ((c.tokens.any (lP c.au.aq))=false/\c8 prog (ap f27 2) (n2 c.au.aq (c.tokens.map bQ.e) 0 (c.au.nodes.map Node.e) c.au.aq c.au.cap (c.aq.map aK.e) (c.bn.map bj.e) (c.tokens.map bQ.e) (c.news.map bT.e)) (.exit 4) (GG c.au.aq (c.au.nodes.map Node.e) c.au.aq c.au.cap (c.aq.map aK.e) (c.bn.map bj.e) (c.tokens.map bQ.e) (c.news.map bT.e)))\/
  ((c.tokens.any (lP c.au.aq))=true/\c8 prog (ap f27 2) (n2 c.au.aq (c.tokens.map bQ.e) 0 (c.au.nodes.map Node.e) c.au.aq c.au.cap (c.aq.map aK.e) (c.bn.map bj.e) (c.tokens.map bQ.e) (c.news.map bT.e)) .ret (xW false)):=by
 have al:=WT ai;have l:=gl (P:=prog) (c:=(ap f27 2)) c.tokens (lP c.au.aq) (fun i=>n2 c.au.aq (c.tokens.map bQ.e) i (c.au.nodes.map Node.e) c.au.aq c.au.cap (c.aq.map aK.e) (c.bn.map bj.e) (c.tokens.map bQ.e) (c.news.map bT.e)) (X:=fun _ _=>xW false) eC (cn 4)
  (fun i a ah h=>by
   have hi:=aY ah;simp only[lP,fC,jC]at h;obtain⟨h1,U,aA⟩:=h;cases ay:a.going with
   | false=>
    rw[ay,o3,lB]at U;exact apq ⟨bV (aY ah),bx,bH (aY ah),bA bQ.e ah,⟨by omega,by omega⟩,fY true h1,rfl,by rw[ay];rfl,U,fY true aA,rfl,c0 hi al,aa⟩
   | true=>exact aoR ⟨bV (aY ah),bx,bH (aY ah),bA bQ.e ah,⟨by omega,by omega⟩,fY true h1,rfl,by rw[ay];rfl,fY true aA,rfl,c0 hi al,aa⟩)
  (fun i a ah h=>by
   have hi:=aY ah;cases h1:ax a.place 0 (c.au.aq-1) with
   | false=>exact apm ⟨bV (aY ah),bx,bH (aY ah),bA bQ.e ah,⟨by omega,by omega⟩,fY false h1,rfl,aa⟩
   | true=>
   simp only[lP,h1,hy,hn]at h;cases ay:a.going with
   | false=>
    rw[ay,o3,lB]at h;cases U:(a.place != 0) with
    | true=>exact apn ⟨bV (aY ah),bx,bH (aY ah),bA bQ.e ah,⟨by omega,by omega⟩,fY true h1,rfl,by rw[ay];rfl,U,aa⟩
    | false=>
     rw[U,hn]at h;exact apo ⟨bV (aY ah),bx,bH (aY ah),bA bQ.e ah,⟨by omega,by omega⟩,fY true h1,rfl,by rw[ay];rfl,U,fY false (by simpa using h),rfl,aa⟩
   | true=>
    rw[ay,hy,Bool.false_and,hn]at h;exact aoQ ⟨bV (aY ah),bx,bH (aY ah),bA bQ.e ah,⟨by omega,by omega⟩,fY true h1,rfl,by rw[ay];rfl,fY false (by simpa using h),rfl,aa⟩)
  (aoS ⟨dq,aa⟩)
 grind
theorem ari(c:aO)(ai:c.sz<=8388608)(aW:1<=c.au.aq/\c.au.aq<=4):
  ((c.news.any (lQ c.au.aq))=false/\c8 prog (ap f27 3) (s5 c.au.aq (c.news.map bT.e) 0) (.exit 6) Pf)\/
  ((c.news.any (lQ c.au.aq))=true/\c8 prog (ap f27 3) (s5 c.au.aq (c.news.map bT.e) 0) .ret (DF false)):=by
 have al:=x6 ai;have l:=gl (P:=prog) (c:=(ap f27 3)) c.news (lQ c.au.aq) (fun i=>s5 c.au.aq (c.news.map bT.e) i) (X:=fun _ _=>DF false) eC (cn 6)
  (fun i a ah h=>by
   have hi:=aY ah;simp only[lQ,fC,jC]at h;exact aoW ⟨bV (aY ah),bx,bH (aY ah),bA bT.e ah,⟨by omega,by omega⟩,fY true h.1,rfl,fY true h.2,rfl,c0 hi al,aa⟩)
  (fun i a ah h=>by
   have hi:=aY ah;cases h1:ax a.dest 0 (c.au.aq-1) with
   | false=>exact aoU ⟨bV (aY ah),bx,bH (aY ah),bA bT.e ah,⟨by omega,by omega⟩,fY false h1,rfl,aa⟩
   | true=>
    simp only[lQ,h1,hy,hn]at h;exact aoV ⟨bV (aY ah),bx,bH (aY ah),bA bT.e ah,⟨by omega,by omega⟩,fY true h1,rfl,fY false (by simpa using h),rfl,aa⟩)
  (aoX ⟨dq,aa⟩)
 grind
theorem DJ(c:aO)(ai:c.sz<=8388608)(hw:fE c):ar 27 [.agg c.e] [.one (B (cx c))]:=by
 have ay:=Ac c.au (oq ai);unfold cx;cases h1:ej c.au with
 | false=>rw[h1]at ay;exact ao6 ⟨ay,rfl,aa⟩
 | true=>
 rw[h1]at ay;have aW:=iz h1;have aH:aL .i64 (c.au.aq*c.au.aq):=by
  have aA:c.au.aq=1\/c.au.aq=2\/c.au.aq=3\/c.au.aq=4:=by omega
  rcases aA with aA | aA | aA | aA<;>(rw[aA];exact⟨by decide,by decide⟩)
 cases U:((c.aq.length:Int)==c.au.aq) with
 | false=>exact ao7 ⟨ay,rfl,by grind,aa⟩
 | true=>
 have v2:((↑(c.aq.map aK.e).length:Int) != c.au.aq)=false:=by grind
 cases aA:((c.bn.length:Int)==c.au.aq*c.au.aq) with
 | false=>exact ao8 ⟨ay,rfl,v2,aH,by grind,aa⟩
 | true=>
 have v3:((↑(c.bn.map bj.e).length:Int) != c.au.aq*c.au.aq)=false:=by grind
 cases aJ:(c.tokens.length==4) with
 | false=>exact ao9 ⟨ay,rfl,v2,aH,v3,vH aJ,aa⟩
 | true=>
 rcases ard c ai (eq_of_beq U) with⟨a7,pH⟩ | ⟨a7,pH⟩
 case inr=>rw[a7];exact apd ⟨ay,rfl,v2,aH,v3,gB aJ,pH,aa⟩
 rw[a7];rcases arf c ai hw aW.1 with⟨bw,rH⟩ | ⟨bw,rH⟩
 case inr=>rw[bw];exact apl ⟨ay,rfl,v2,aH,v3,gB aJ,pH,rH,aa⟩
 rw[bw];rcases arh c ai aW with⟨b1,uu⟩ | ⟨b1,uu⟩
 case inr=>rw[b1];exact aoT ⟨ay,rfl,v2,aH,v3,gB aJ,pH,rH,uu,aa⟩
 rw[b1];rcases ari c ai aW with⟨dA,kB⟩ | ⟨dA,kB⟩
 ·rw[dA];exact aoZ ⟨ay,rfl,v2,aH,v3,gB aJ,pH,rH,uu,kB,aa⟩
 rw[dA];exact aoY ⟨ay,rfl,v2,aH,v3,gB aJ,pH,rH,uu,kB,aa⟩
def vX(c:aO)(e:Nat):Bool:=!uU c e||!DH c e
def Aj(c:aO):Bool:=cx c&&(c.bn.all mE&&(uC c&&!((List.range 4).any (vX c))))
theorem arj(c:aO)(ai:c.sz<=8388608)(hw:nH c):ar 9 [.agg c.e] [.one (B (Aj c))]:=by
 have cA:=WU c ai (fun l al=>(hw.l l al).2);have bm:=W0 c ai hw;have eK:=W6 c ai hw;unfold Aj;cases h1:cx c with
 | false=>rw[h1]at cA;exact aqr ⟨cA,rfl,aa⟩
 | true=>
 rw[h1]at cA;cases U:c.bn.all mE with
 | false=>rw[U]at bm;exact aqs ⟨cA,rfl,bm,rfl,aa⟩
 | true=>
 rw[U]at bm;cases aA:uC c with
 | false=>rw[aA]at eK;exact aqt ⟨cA,rfl,bm,rfl,eK,rfl,aa⟩
 | true=>
 rw[aA]at eK;have Bn:∀{i a:Nat},(List.range 4)[i]?=some a->i=a/\i<4:=fun {i a} h=>by
  grind
 have l:=gl (P:=prog) (c:=(ap f9 0)) (List.range 4) (vX c) (fun i=>vS (c.au.nodes.map Node.e) c.au.aq c.au.cap (c.aq.map aK.e) (c.bn.map bj.e) (c.tokens.map bQ.e) (c.news.map bT.e) i) (X:=fun _ _=>GH false) eC (cn 0)
  (fun i a ah h=>by
   obtain⟨rfl,hi⟩:=Bn ah;simp only[vX,fC,jC]at h;have dN:=Nu c i ai;have a2:=Pg c i ai;rw[h.1]at dN;rw[h.2]at a2;exact aqw ⟨dh (by omega),dN,rfl,a2,rfl,⟨by omega,by omega⟩,aa⟩)
  (fun i a ah h=>by
   obtain⟨rfl,hi⟩:=Bn ah;have dN:=Nu c i ai;have a2:=Pg c i ai;cases h1:uU c i with
   | false=>rw[h1]at dN;exact aqu ⟨dh (by omega),dN,rfl,aa⟩
   | true=>
    simp only[vX,h1,hy,hn,gp]at h;rw[h1]at dN;rw[h]at a2;exact aqv ⟨dh (by omega),dN,rfl,a2,rfl,aa⟩)
  (aqx ⟨ea (by grind),aa⟩)
 rcases l with⟨_,_,aJ,l⟩ | ⟨_,_,_,_,_,_,aJ,l⟩
 ·rw[aJ];exact aqz ⟨cA,rfl,bm,rfl,eK,rfl,l,aa⟩
 rw[aJ];exact aqy ⟨cA,rfl,bm,rfl,eK,rfl,l,aa⟩
theorem WV(c:aO)(ai:c.sz<=8388608)(hw:nH c):ar 8 [.agg c.e] [.one (B (Aj c))]:=by
 have cA:=DJ c ai (fun l al=>(hw.l l al).2);have bm:=W1 c ai hw;have eK:=W7 c ai hw;unfold Aj;cases h1:cx c with
 | false=>rw[h1]at cA;exact aqA ⟨cA,rfl,aa⟩
 | true=>
 rw[h1]at cA;cases U:c.bn.all mE with
 | false=>rw[U]at bm;exact aqB ⟨cA,rfl,bm,rfl,aa⟩
 | true=>
 rw[U]at bm;cases aA:uC c with
 | false=>rw[aA]at eK;exact aqC ⟨cA,rfl,bm,rfl,eK,rfl,aa⟩
 | true=>
 rw[aA]at eK;have Bn:∀{i a:Nat},(List.range 4)[i]?=some a->i=a/\i<4:=fun {i a} h=>by
  grind
 have l:=gl (P:=prog) (c:=(ap f8 0)) (List.range 4) (vX c) (fun i=>vT (c.au.nodes.map Node.e) c.au.aq c.au.cap (c.aq.map aK.e) (c.bn.map bj.e) (c.tokens.map bQ.e) (c.news.map bT.e) i) (X:=fun _ _=>GI false) eC (cn 0)
  (fun i a ah h=>by
   obtain⟨rfl,hi⟩:=Bn ah;simp only[vX,fC,jC]at h;have dN:=Nv c i ai;have a2:=Ph c i ai;rw[h.1]at dN;rw[h.2]at a2;exact aqF ⟨dh (by omega),dN,rfl,a2,rfl,⟨by omega,by omega⟩,aa⟩)
  (fun i a ah h=>by
   obtain⟨rfl,hi⟩:=Bn ah;have dN:=Nv c i ai;have a2:=Ph c i ai;cases h1:uU c i with
   | false=>rw[h1]at dN;exact aqD ⟨dh (by omega),dN,rfl,aa⟩
   | true=>
    simp only[vX,h1,hy,hn,gp]at h;rw[h1]at dN;rw[h]at a2;exact aqE ⟨dh (by omega),dN,rfl,a2,rfl,aa⟩)
  (aqG ⟨ea (by grind),aa⟩)
 rcases l with⟨_,_,aJ,l⟩ | ⟨_,_,_,_,_,_,aJ,l⟩
 ·rw[aJ];exact aqI ⟨cA,rfl,bm,rfl,eK,rfl,l,aa⟩
 rw[aJ];exact aqH ⟨cA,rfl,bm,rfl,eK,rfl,l,aa⟩
end Go.Proofs.YthfnndblgbjniaaGreat
namespace Go.Proofs.YthfnndblgbjniaaGreat
open Go.Sx Go.RowKit Go.Proofs.Tryz
def cutAt{α:Type}(xs:List α)(k:Nat):List α:=xs.take k++xs.drop (k+1)
def AY:az:=⟨0,⟨0,0⟩,0,0⟩
def l7(xs:List Int)(e d:Int):List Int:=xs.set e.toNat (xs.getD e.toNat 0+d)
def eh(l:bj)(r:az):bj×Bool:=
 if jt l&&eO r&&l.eb != 0&&decide (l.ek<1000000000) then (⟨l.cap,l.queue++[r],l.eb-1,l.back,l.ek+1,l.db⟩,true) else (l,false)
def dH(l:bj):bj×az×Bool:=
 if jt l then match l.queue with
  | []=>(l,AY,false)
  | r::q=>(⟨l.cap,q,l.eb,l.back+1,l.ek,l.db+1⟩,r,true)
 else (l,AY,false)
def fQ(l:bj):bj×Bool:=
 if jt l&&l.back != 0 then (⟨l.cap,l.queue,l.eb+1,l.back-1,l.ek,l.db⟩,true) else (l,false)
def e0(g:bX)(w:aK):aK×Bool:=
 if ej g&&fb g w then match w.b9,w.queue with
  | [],r::q=>(⟨q,(du g w.cells r).2.1,w.bM,(du g w.cells r).1,w.bB,w.bN,(if cr g r then w.bk.set r.bl.ba.toNat true else w.bk),w.b0⟩,true)
  | _,_=>(w,false)
 else (w,false)
def e3(g:bX)(w:aK):aK×Bool:=
 if ej g&&fb g w then match w.b9,w.queue,w.bM with
  | [],[],r::t=>(⟨[r],[],t,w.cells,w.bB,w.bN,w.bk,w.b0⟩,true)
  | _,_,_=>(w,false)
 else (w,false)
def hX(w:aK)(t:List az):aK:=⟨w.queue,t,w.bM,w.cells,w.bB,w.bN,w.bk,w.b0⟩
def kept(w:aK)(r:az):aK:=⟨w.queue++[r],w.b9,w.bM,w.cells,w.bB,w.bN,w.bk,w.b0⟩
def ii(w:aK)(r:az):aK:=⟨w.queue++[r],w.b9,w.bM,w.cells,l7 w.bB r.bl.ba (-1),w.bN.set r.bl.ba.toNat true,w.bk,w.b0⟩
def mF(w:aK)(e:Int):aK:=⟨w.queue,w.b9,w.bM,w.cells,l7 w.bB e 1,w.bN,w.bk,w.b0⟩
def eB(w:aK)(e:Int):aK:=⟨w.queue,w.b9,w.bM,w.cells,w.bB,w.bN.set e.toNat false,w.bk,w.b0⟩
def told(w:aK)(e:Int)(b:Bool):aK:=⟨w.queue,w.b9,w.bM,w.cells,w.bB,w.bN,w.bk,w.b0++[⟨e,b⟩]⟩
def eg(w:aK)(n:bT):aK:=if eD w n.ba then w else told w n.ba n.cr
def x7(w:aK)(e:Int):Bool:=w.bM.any fun r=>decide (r.bl.ba<=e)
def WW(w:aK)(e:Int):Nat:=(hF e w.queue).length+(hF e w.b9).length
def kG(w:aK)(e:Int):Bool:=!x7 w e&&WW w e==0
def setW(c:aO)(i:Int)(x:aK):aO:=⟨c.au,c.aq.set i.toNat x,c.bn,c.tokens,c.news⟩
def dd(c:aO)(i:Int)(l:bj):aO:=⟨c.au,c.aq,c.bn.set i.toNat l,c.tokens,c.news⟩
def cL(c:aO)(i:Int)(t:bQ):aO:=⟨c.au,c.aq,c.bn,c.tokens.set i.toNat t,c.news⟩
def gg(c:aO)(n:List bT):aO:=⟨c.au,c.aq,c.bn,c.tokens,n⟩
def cd(c:aO)(i:Int):Option aK:=if 0<=i then c.aq[i.toNat]? else none
def eF(c:aO)(i:Int):Option bj:=if 0<=i then c.bn[i.toNat]? else none
def hZ(c:aO)(i:Int):Option bQ:=if 0<=i then c.tokens[i.toNat]? else none
def d'(g:bX)(a b:Int):Int:=if ax a 0 (g.aq-1)&&ax b 0 (g.aq-1) then a*g.aq+b else -1
def ju(c:aO)(w:Int):aO×Bool:=
 if cx c then match cd c w with
  | some x=>(setW c w (e0 c.au x).1,(e0 c.au x).2)
  | none=>(c,false)
 else (c,false)
def jv(c:aO)(w:Int):aO×Bool:=
 if cx c then match cd c w with
  | some x=>(setW c w (e3 c.au x).1,(e3 c.au x).2)
  | none=>(c,false)
 else (c,false)
def r5(c:aO)(w:Int)(x:aK)(r:az)(t:List az)(o:Int):aO×Bool:=
 if o=w then (setW c w (kept (hX x t) r),true)
 else match eF c (d' c.au w o) with
  | some l=>if (eh l r).2 then (setW (dd c (d' c.au w o) (eh l r).1) w (mF (hX x t) r.bl.ba),true) else (c,false)
  | none=>(c,false)
def je(c:aO)(w:Int):aO×Bool:=
 if cx c then match cd c w with
  | some x=>match x.b9 with
   | r::t=>r5 c w x r t (eZ r.key c.au.aq)
   | []=>(c,false)
  | none=>(c,false)
 else (c,false)
def jS(c:aO)(a b:Int):aO×Bool:=
 if cx c&&a != b then match eF c (d' c.au a b),cd c b with
  | some l,some x=>if (dH l).2.2 then (setW (dd c (d' c.au a b) (dH l).1) b (ii x (dH l).2.1),true) else (c,false)
  | _,_=>(c,false)
 else (c,false)
def jw(c:aO)(a b:Int):aO×Bool:=
 if cx c&&a != b then match eF c (d' c.au a b) with
  | some l=>(dd c (d' c.au a b) (fQ l).1,(fQ l).2)
  | none=>(c,false)
 else (c,false)
def gv(n:Nat)(e:Int)(b:Bool):List bT:=(List.range n).map fun k:Nat=>⟨(k:Int)+1,e,b⟩
def dF(c:aO)(e:Int)(t:bQ)(x:aK):aO×Bool:=
 if kG x e then
  if !t.going then (setW (cL c e ⟨true,(c.aq.length:Int)-1,0,false,x.bk.getD e.toNat false⟩) t.place (eB x e),true)
  else if 0<t.place then
   if ax (t.sum+x.bB.getD e.toNat 0) (-1000000) 1000000 then
    (setW (cL c e ⟨true,t.place-1,t.sum+x.bB.getD e.toNat 0,t.bN||x.bN.getD e.toNat false,t.cr||x.bk.getD e.toNat false⟩) t.place (eB x e),true)
   else (c,false)
  else if !t.bN&&!x.bN.getD e.toNat false&&t.sum+x.bB.getD e.toNat 0==0 then
   (gg (setW (cL c e ⟨false,t.place,t.sum,t.bN,t.cr⟩) 0 (told x e (t.cr||x.bk.getD e.toNat false))) (c.news++gv (c.aq.length-1) e (t.cr||x.bk.getD e.toNat false)),true)
  else (cL c e ⟨false,t.place,t.sum,t.bN,t.cr⟩,true)
 else (c,false)
def iA(c:aO)(e:Int):aO×Bool:=
 if cx c&&ax e 0 3 then match cd c 0,hZ c e with
  | some cE,some t=>if eD cE e then (c,false) else match cd c t.place with
   | some x=>dF c e t x
   | none=>(c,false)
  | _,_=>(c,false)
 else (c,false)
def jT(c:aO)(w:Int):aO×Bool:=
 match c.news.findIdx? (fun n=>n.dest==w) with
 | some k=>if cx c then match c.news[k]?,cd c w with
   | some n,some x=>(gg (setW c w (eg x n)) (cutAt c.news k),true)
   | _,_=>(c,false)
  else (c,false)
 | none=>(c,false)
def cX(c:aO)(p:b7):aO×Bool:=
 if p.kind=1 then ju c p.a else if p.kind=2 then jv c p.a else if p.kind=3 then je c p.a
 else if p.kind=4 then jS c p.a p.b else if p.kind=5 then jw c p.a p.b else if p.kind=6 then iA c p.a
 else if p.kind=7 then jT c p.a else (c,false)
theorem WX(g:bX)(w:aK):((e0 g w).2=false/\(e0 g w).1=w)\/
  ((e0 g w).2=true/\∃r q,w.b9=[]/\w.queue=r::q/\(e0 g w).1=⟨q,(du g w.cells r).2.1,w.bM,(du g w.cells r).1,w.bB,w.bN,(if cr g r then w.bk.set r.bl.ba.toNat true else w.bk),w.b0⟩):=by
 grind[e0]
theorem WY(g:bX)(w:aK):((e3 g w).2=false/\(e3 g w).1=w)\/
  ((e3 g w).2=true/\∃r t,w.b9=[]/\w.queue=[]/\w.bM=r::t/\(e3 g w).1=⟨[r],[],t,w.cells,w.bB,w.bN,w.bk,w.b0⟩):=by
 grind[e3]
end Go.Proofs.YthfnndblgbjniaaGreat
namespace Go.Proofs.YthfnndblgbjniaaGreat
open Go.Sx Go.RowKit Go.Proofs.Tryz
section
variable {α : Type}
theorem Pm{p:α->Bool}{xs:List α}{i:Nat}{x:α}(h:xs.any p=false)(hi:i<xs.length):(xs.set i x).any p=p x:=by
 cases ag:p x with
 | true=>exact o7.2 ⟨x,List.mem_iff_getElem.2 ⟨i,by grind,by simp⟩,ag⟩
 | false=>
  grind
theorem Yn{p:Nat->α->Bool}{x:α}:∀{xs:List α} {k i:Nat},anyI p k xs=false->i<xs.length->anyI p k (xs.set i x)=p (k+i) x
 | [],_,_,_,h=>by simp at h
 | a::xs,k,0,h,_=>by
  simp_all[anyI,fC,List.set_cons_zero,Bool.or_false,o6]
 | a::xs,k,i+1,h,hi=>by
  simp only[anyI,fC]at h;simp only[List.set_cons_succ,anyI,h.1,hn];rw[Yn h.2 (by simpa using hi),show k+1+i=k+(i+1) by omega]
theorem Ak{p:Nat->α->Bool}{xs:List α}(h:∀i a,xs[i]?=some a->p i a=false):anyI p 0 xs=false:=by
 cases ag:anyI p 0 xs with
 | false=>rfl
 | true=>
  obtain⟨i,a,h1,U,_⟩:=N2 ag;grind
theorem Al{p:Nat->α->Bool}{xs:List α}(h:anyI p 0 xs=false){i:Nat}{a:α}(ah:xs[i]?=some a):p i a=false:=by
 have:=AO h i a ah;grind
end
variable{c:aO}
theorem fp:cx c=true<->ej c.au=true/\(c.aq.length:Int)=c.au.aq/\(c.bn.length:Int)=c.au.aq*c.au.aq/\c.tokens.length=4/\(c.aq.any fun w=>!fb c.au w)=false/\anyI (kF c.au) 0 c.bn=false/\c.tokens.any (lP c.au.aq)=false/\c.news.any (lQ c.au.aq)=false:=by
 simp only[cx,cu,gp,kq]
variable{i:Int}
theorem eR{x:aK}(h:cd c i=some x):0<=i/\i.toNat<c.aq.length/\c.aq[i.toNat]?=some x:=by
 grind[cd,aY]
variable{x:bj}
theorem iK(h:eF c i=some x):0<=i/\i.toNat<c.bn.length/\c.bn[i.toNat]?=some x:=by
 grind[eF,aY]
theorem x8{x:bQ}(h:hZ c i=some x):0<=i/\i.toNat<c.tokens.length/\c.tokens[i.toNat]?=some x:=by
 grind[hZ,aY]
theorem vY{x y:aK}(h:cx c=true)(bu:cd c i=some y):cx (setW c i x)=fb c.au x:=by
 obtain⟨h1,U,aA,aJ,a7,bw,b1,dA⟩:=fp.1 h;have hi:=(eR bu).2.1;simp only[cx,setW,ho,Pm a7 hi,h1,U,aA,aJ,bw,b1,dA,yW,o3,va,lB,Bool.not_not]
theorem Pn{y:bj}(h:cx c=true)(bu:eF c i=some y):cx (dd c i x)=!kF c.au i.toNat x:=by
 obtain⟨h1,U,aA,aJ,a7,bw,b1,dA⟩:=fp.1 h;have hi:=(iK bu).2.1;simp only[cx,dd,ho,Yn bw hi,dX,h1,U,aA,aJ,a7,b1,dA,yW,o3,va,lB]
theorem ark{x y:bQ}(h:cx c=true)(bu:hZ c i=some y):cx (cL c i x)=!lP c.au.aq x:=by
 obtain⟨h1,U,aA,aJ,a7,bw,b1,dA⟩:=fp.1 h;have hi:=(x8 bu).2.1;simp only[cx,cL,ho,Pm b1 hi,h1,U,aA,aJ,a7,bw,dA,yW,o3,va,lB]
theorem Yo{x:List bT}(h:cx c=true):cx (gg c x)=!(x.any (lQ c.au.aq)):=by
 obtain⟨h1,U,aA,aJ,a7,bw,b1,dA⟩:=fp.1 h;simp only[cx,gg,h1,U,aA,aJ,a7,bw,b1,yW,o3,lB]
theorem jU{i:Int}{x:aK}(h:cx c=true)(ag:cd c i=some x):fb c.au x=true:=by
 have a7:=(fp.1 h).2.2.2.2.1;rw[fx]at a7;simpa using a7 x (cD (eR ag).2.2)
theorem r6(h:cx c=true)(ag:eF c i=some x):kF c.au i.toNat x=false:=
 Al (fp.1 h).2.2.2.2.2.1 (iK ag).2.2
theorem Am{x:bQ}(h:cx c=true)(ag:hZ c i=some x):lP c.au.aq x=false:=by
 have a7:=(fp.1 h).2.2.2.2.2.2.1;rw[fx]at a7;simpa using a7 x (cD (x8 ag).2.2)
theorem uD{x:aK}(ag:cd c i=some x):setW c i x=c:=by
 obtain⟨_,U,aA⟩:=eR ag;have:c.aq.set i.toNat x=c.aq:=by
  grind[gO,List.set_getElem_self]
 simp_all[setW]
theorem arl(ag:eF c i=some x):dd c i x=c:=by
 obtain⟨_,U,aA⟩:=iK ag;have:c.bn.set i.toNat x=c.bn:=by
  grind[gO,List.set_getElem_self]
 simp_all[dd]
variable{g:bX}{w:aK}
theorem iB:fb g w=true<->gJ g w.queue=true/\gJ g w.b9=true/\gJ g w.bM=true/\k6 w.cells=true/\w.bB.length=4/\w.bN.length=4/\w.bk.length=4/\anyI (my w.bM) 0 w.bM=false/\w.bB.any oN=false/\anyI (nr w.b0) 0 w.b0=false:=by
 simp only[fb,cu,gp,kq]
variable{r:az}
theorem qI{q:List az}:gJ g (r::q)=true<->kl g r=false/\gJ g q=true:=by
 grind[gJ,gp,fC]
theorem Po{q:List az}:gJ g (q++[r])=true<->gJ g q=true/\kl g r=false:=by
 simp only[gJ,List.any_append,EP,List.any_nil,Bool.or_false,gp,fC]
theorem arm{t:List az}(h:anyI (my (r::t)) 0 (r::t)=false):anyI (my t) 0 t=false:=by
 refine Ak fun i a ah=>?_
 have k:=Al h (i:=i+1) (a:=a) (by grind);unfold my at k ⊢;grind
theorem arn{xs:List cS}{d:cS}(h:anyI (nr xs) 0 xs=false)(h1:ax d.ba 0 3=true)(U:(xs.any fun q=>q.ba==d.ba)=false):anyI (nr (xs++[d])) 0 (xs++[d])=false:=by
 refine Ak fun i a ah=>?_
 by_cases hi:i<xs.length
 ·grind[Al,nr]
 have al:=aY ah;simp only[f',gT,ew]at al;have e:i=xs.length:=by omega
 simp_all[fi,Nat.sub_self,nr,acD,jh]
theorem aro(h:fb g w=true)(aC:kl g r=false):fb g (kept w r)=true:=by
 obtain⟨h1,U⟩:=iB.1 h;exact iB.2 ⟨Po.2 ⟨h1,aC⟩,U⟩
theorem H4{t:List az}(h:fb g w=true)(ao:w.b9=r::t):fb g (hX w t)=true/\kl g r=false:=by
 obtain⟨h1,U,aA⟩:=iB.1 h;rw[ao,qI]at U;exact⟨iB.2 ⟨h1,U.2,aA⟩,U.1⟩
variable{e:Int}
theorem arp(h:fb g w=true):fb g (eB w e)=true:=by
 obtain⟨h1,U,aA,aJ,a7,bw,b1⟩:=iB.1 h;exact iB.2 ⟨h1,U,aA,aJ,a7,by grind[eB,ho],b1⟩
theorem Yp{b:Bool}(h:fb g w=true)(he:ax e 0 3=true)(aE:eD w e=false):fb g (told w e b)=true:=by
 obtain⟨h1,U,aA,aJ,a7,bw,b1,dA,ez,dZ⟩:=iB.1 h;exact iB.2 ⟨h1,U,aA,aJ,a7,bw,b1,dA,ez,arn dZ he aE⟩
theorem arq{n:bT}(h:fb g w=true)(he:ax n.ba 0 3=true):fb g (eg w n)=true:=by
 unfold eg;cases aE:eD w n.ba with
 | true=>exact h
 | false=>grind[Yp]
theorem Yq{e d:Int}{k:Nat}(h:fb g w=true)(hk:e.toNat=k)(aJ:k<4):(l7 w.bB e d).length=4/\(l7 w.bB e d).any oN=oN (w.bB.getD e.toNat 0+d):=by
 obtain⟨h1,U,aA,_,a7,bw,b1,dA,ez,dZ⟩:=iB.1 h;grind[l7,ho,Pm]
theorem r7{g:bX}(h:kl g r=false):0<=r.bl.ba/\r.bl.ba<=3:=by
 simp only[kl,eO,ig,ax,fC,jC,cu,cj]at h;omega
theorem ars(h:fb g w=true)(he:0<=e/\e<=3):fb g (mF w e)=ax (w.bB.getD e.toNat 0+1) (-1000000) 1000000:=by
 obtain⟨cA,bm⟩:=Yq (d:=1) h (e:=e) rfl (by omega);obtain⟨h1,U,aA,aJ,a7,bw,b1,dA,ez,dZ⟩:=iB.1 h;simp only[fb,mF,h1,U,aA,aJ,cA,bw,b1,dA,dZ,bm,oN,yW,o3,va,lB,Bool.not_not]
theorem art(h:fb g w=true)(aC:kl g r=false):fb g (ii w r)=ax (w.bB.getD r.bl.ba.toNat 0+-1) (-1000000) 1000000:=by
 have he:=r7 aC;obtain⟨cA,bm⟩:=Yq (d:=-1) h (e:=r.bl.ba) rfl (by omega);obtain⟨h1,U,aA,aJ,a7,bw,b1,dA,ez,dZ⟩:=iB.1 h;have aH:=Po.2 ⟨h1,aC⟩;simp only[fb,ii,aH,U,aA,aJ,cA,ho,bw,b1,dA,dZ,bm,oN,yW,o3,va,lB,Bool.not_not]
theorem aqR(h:fb g w=true):fb g (e3 g w).1=true:=by
 unfold e3;split
 ·split
  ·rename_i r t h1 U aA;obtain⟨_,_,eK,pD,ke,pE,k0,qC,uq,Lw⟩:=iB.1 h;rw[aA]at eK qC;exact iB.2 ⟨qI.2 ⟨(qI.1 eK).1,rfl⟩,rfl,(qI.1 eK).2,pD,ke,pE,k0,arm qC,uq,Lw⟩
  exact h
 exact h
theorem aqS:∀{xs:List Cell},k6 xs=true->∀i a b,xs[i]?=some a->xs[i+1]?=some b->i' a b<0:=by
 intro xs h i a b h1 U;simp only[k6,gp,fx]at h;have hm:(a,b)∈xs.zip (xs.drop 1):=by
  refine cD (i:=i) ?_;grind
 simp_all[HV,cj]
def vZ(a:Cell):List Int:=[a.ba,a.op,a.key,a.val]
theorem Yr(a b:Cell):i' a b=kQ (vZ a) (vZ b):=rfl
theorem Pp{a b c:Cell}(h1:i' a b<0)(U:i' b c<0):i' a c<0:=by
 rw[Yr] at*;exact NJ (vZ a) (vZ b) (vZ c) rfl rfl h1 U
theorem aqT{a b:Cell}(h1:¬i' a b<0)(U:a≠b):i' b a<0:=by
 rw[Yr] at*;refine Classical.byContradiction fun h=>U ?_
 have:=NK (vZ a) (vZ b) rfl h1 h;simp only[vZ,tD,and_true]at this;obtain⟨gY,gN,lU,sf⟩:=this;cases a;simp_all
theorem Ys:∀{xs:List Cell},k6 xs=true->xs.Pairwise fun a b=>i' a b<0
 | [],_=>List.Pairwise.nil
 | [a],_=>List.pairwise_singleton _ a
 | a::b::xs,h=>by
  have bK:k6 (b::xs)=true:=by
   simp only[k6,List.drop_succ_cons,yY,List.zip_cons_cons,EP,Bool.not_or,cu]at h ⊢;exact h.2
  have ao:=Ys bK;have ec:=aqS h 0 a b rfl rfl;refine List.Pairwise.cons (fun c ai=>?_) ao;rcases ev.1 ai with rfl | ai
  ·exact ec
  exact Pp ec ((List.pairwise_cons.1 ao).1 c ai)
variable{xs:List Cell}
theorem aqU(h:xs.Pairwise fun a b=>i' a b<0):k6 xs=true:=by
 simp only[k6,gp,fx];rintro⟨a,b⟩ hp;obtain⟨i,hi⟩:=List.getElem?_of_mem hp;obtain⟨h1,U⟩:=DI hi;have bf:=aY U;have:=List.pairwise_iff_getElem.1 h i (i+1) (by omega) bf (by omega);rw[gU (by omega)]at h1 U;rw[gO h1,gO U]at this;replace this:i' a b<0:=this;show ¬decide (i' a b>=0)=true;grind
theorem aqV(x:Cell)(h:xs.Pairwise fun a b=>i' a b<0):(kE xs x).Pairwise fun a b=>i' a b<0:=by
 unfold kE;split
 ·exact h
 rename_i jH;have ag:∀a∈xs,a≠x:=by
  intro a ah e;exact jH (o7.2 ⟨a,ah,by simp[e]⟩)
 have aw:∀i a,xs[i]?=some a->i<mD xs x->i' a x<0:=by
  intro i a ah hi;unfold mD at hi;cases bI:xs.findIdx? (fun a=>!decide (i' a x<0)) with
  | none=>
   grind
  | some k=>
   rw[bI]at hi;simp only[lW]at hi;rw[u9]at bI;grind
 have ah:∀i a,xs[i]?=some a->mD xs x<=i->i' x a<0:=by
  intro i a ah hi;have hk:mD xs x<xs.length:=by grind
  obtain⟨b,hS⟩:=c5 hk;have bJ:¬i' b x<0:=by
   unfold mD at hS hk;cases bI:xs.findIdx? (fun a=>!decide (i' a x<0)) with
   | none=>grind
   | some k=>
    rw[bI]at hS;simp only[lW]at hS;rw[u9]at bI;grind
  have aGd:=aqT bJ (ag b (cD hS));rcases Nat.lt_or_eq_of_le hi with bR | heq
  ·have bf:=aY ah;have:=List.pairwise_iff_getElem.1 h (mD xs x) i hk bf bR;grind[gO,Pp]
  grind
 rw[List.pairwise_append];refine⟨h.sublist (List.take_sublist _ _),List.Pairwise.cons (fun c ai=>?_) (h.sublist (List.drop_sublist _ _)),fun a Fw c ai=>?_⟩
 ·obtain⟨i,hi⟩:=List.getElem?_of_mem ai;grind
 obtain⟨i,hi⟩:=List.getElem?_of_mem Fw;rw[jZ]at hi;split at hi
 ·rename_i bR;have h1:=aw i a hi bR;rcases ev.1 ai with rfl | ai
  ·exact h1
  obtain⟨j,bf⟩:=List.getElem?_of_mem ai;grind[Pp]
 cases hi
theorem aqW(kind:Int)(x:Cell)(h:k6 xs=true):k6 (cB kind xs x).1=true:=by
 have ao:=Ys h;grind[aqU,aqV,List.filter_sublist,eY,cB,ih]
theorem aqX{cs:List Cell}(r:az)(h:k6 cs=true):k6 (du g cs r).1=true:=by
 unfold du;cases fZ g r.op with
 | none=>exact h
 | some x=>
  grind[aqW,dV]
theorem aqY{x:Node}{k v:Int}(ag:aU x=true)(hi:fI k v=true):fI (cK x k v).1 (cK x k v).2.1=true:=by
 have py:=ag;simp only[aU,cu]at ag;have ah:=ag.1.1.1.1;have oB:=hi;simp only[fI,ax,cu,cj]at hi;unfold cK;rw[py,oB,Bool.and_self,bq rfl];unfold bW at ah;split
 ·rename_i U;rw[bq U]at ah;simp only[ax,cu,cj]at ah;have al:0<=less (v+x.a) 999/\less (v+x.a) 999<=999:=by grind[less]
  simp_all[fI,ax,cu,cj]
 rename_i U;rw[bD U]at ah;split
 ·rename_i aJ;rw[bD (by omega),bq aJ]at ah;simp only[ax,cu,cj]at ah;simp only[fI,ax,cu,cj];grind
 grind
theorem aqZ(h:ej g=true){op:Int}{x:Node}(aW:fZ g op=some x):jR g op.toNat x=false:=by
 simp only[ej,cu,gp]at h;grind[fZ,Al]
theorem Yt(h:ej g=true){op:Int}{x:Node}(aW:fZ g op=some x){s:gQ}{k v:Int}(ao:ig s=true)(hi:fI k v=true):gJ g (fu x s k v)=true:=by
 have aw:=aqZ h aW;have ag:=Pk h aW;simp only[aU,cu]at ag;simp only[jR,fC]at aw;have he:=aw.2;rw[fx]at he;simp only[gJ,fu,List.any_map,gp,fx];intro o a8;have h1:=Np ag.2 a8;have U:=he o a8;simp only[gX,o5,not_or,cj]at U;simp only[Function.comp,kl,eO,h1,ao,hi,Bool.and_self,hy,hn,cj];omega
theorem aq0{cs:List Cell}:gJ g (du g cs r).2.1=true:=by
 unfold du;cases aW:fZ g r.op with
 | none=>rfl
 | some x=>
  simp only[dV];split
  ·rename_i ay;rw[cu]at ay;obtain⟨ay,aC⟩:=ay;have eW:=aC;simp only[eO,cu]at aC;have ai:=aqY (Pk ay aW) aC.2;split
   ·rfl
   split
   ·rfl
   split
   ·cases bK:(fg r.bl).2 with
    | false=>rfl
    | true=>
     refine Yt ay aW ?_ ai;unfold fg at bK ⊢;split
     ·rename_i h1;simp only[cu,ig,ax,cj]at h1 ⊢;omega
     grind
   grind[Yt]
  rfl
theorem asv(h:fb g w=true):fb g (e0 g w).1=true:=by
 unfold e0;split
 ·split
  ·rename_i r q h1 U;obtain⟨cA,bm,eK,pD,ke,pE,k0,qC,uq,Lw⟩:=iB.1 h;rw[U,qI]at cA;refine iB.2 ⟨cA.2,aq0,eK,aqX r pD,ke,pE,?_,qC,uq,Lw⟩;grind
  exact h
 exact h
