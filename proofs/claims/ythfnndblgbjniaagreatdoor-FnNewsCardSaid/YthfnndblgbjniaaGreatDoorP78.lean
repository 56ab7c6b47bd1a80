import Derived.Test.YthfnndblgbjniaaGreatDoorG4
import Derived.Test.YthfnndblgbjniaaGreatDoorP108
set_option linter.unusedVariables false
set_option linter.unusedSimpArgs false
namespace Go.Proofs.YthfnndblgbjniaaGreatDoor
open Go.Sx Go.RowKit Go.Proofs.Tryz
theorem afA(w:aR)(r:aH)(hw:w.sz<=8388608):ax 202 [.agg w.e,.agg r.e] [.agg (kept w r).e]:=by
 have aM:w.queue.length<=8388608:=by simp only[aR.sz]at hw;omega
 rw[JW];exact agy ⟨wS w hw,yk aM,yl aM,fG (aH.flat r),ad⟩
theorem afB(w:aR)(r:aH)(hw:w.sz<=8388608)(aO:w.bN.length=4)(aw:w.bW.length=4)(he:0<=r.bJ.bh/\r.bJ.bh<=3)(aj:-1000000<=w.bN.getD r.bJ.bh.toNat 0/\w.bN.getD r.bJ.bh.toNat 0<=1000000):
  ax 172 [.agg w.e,.agg r.e] [.agg (hR w r).e]:=by
 have k:=afA w r hw;rw[JW]at k;rw[aga];obtain⟨s1,s2⟩:=Gt aO he;obtain⟨hK,gj⟩:=vp aw he;have Fo:(↑(w.bN.map ba).length:Int)-1=3:=by rw[cr,aO];rfl
 exact afI ⟨k,⟨by rw[Fo];omega,by rw[Fo];omega⟩,fi _ _ _ true (by rw[Fo];simp only[av,cW];omega),rfl,dV hK,he.1,s1,s2,⟨by omega,by omega⟩,he.1,s1,s2,he.1,hK,gj,ad⟩
theorem afC(w:aR)(r:aH)(t:List aH)(hw:w.sz<=8388608)(h:w.cn=r::t):ax 174 [.agg w.e] [.agg (ji w t).e,.agg r.e,.one (B true)]:=by
 have au:w.cn.length<=8388608:=by simp only[aR.sz]at hw;omega
 have e:(ji w t).e=[.J 5 (w.queue.map aH.e),.J 5 ([]++((w.cn.map aH.e).drop 1).take ((w.cn.map aH.e).length-1)),.J 5 (w.cb.map aH.e),.J 4 (w.cells.map Cell.e),.J 1 (w.bN.map ba),.J 1 (w.bW.map cu),.J 1 (w.bB.map cu),.J 2 (w.bx.map ca.e)]:=by rw[rA h];rfl
 rw[e];exact agx ⟨wS w hw,oJ h,by decide,nY h,o8 h,pz,pA h,pB,p5 h au,qd h au,qe h,ad⟩
theorem afD(w:aR)(hw:w.sz<=8388608)(h:w.cn=[]):ax 174 [.agg w.e] [.agg w.e,.agg (⟨0,⟨0,0⟩,0,0⟩:aH).e,.one (B false)]:=
 agw ⟨wS w hw,tV h,ad⟩
theorem afE(g:b1)(w:aR)(ay:g.sz<=8388608)(hw:w.sz<=8388608):ax 175 [.agg g.e,.agg w.e] [.agg (fr g w).1.e,.one (B (fr g w).2)]:=by
 have fL:=wS w hw;have k:=wL g ay;have kw:=B3 g w ay hw;have qN:w.cells.length<=8388608:=by simp only[aR.sz]at hw;omega
 have kF:w.queue.length<=8388608:=by simp only[aR.sz]at hw;omega
 cases U:ei g with
 | false=>
  rw[U]at k;rw[show fr g w=(w,false) by unfold fr;simp[U]];exact afP ⟨fL,k,rfl,ad⟩
 | true=>
 rw[U]at k;cases aa:eA g w with
 | false=>
  rw[aa]at kw;rw[show fr g w=(w,false) by unfold fr;simp[aa]];exact afQ ⟨fL,k,rfl,kw,rfl,ad⟩
 | true=>
 rw[aa]at kw;have hu:fr g w=match w.cn,w.queue with
  | [],r::q=>(⟨q,(ev g w.cells r).2.1,w.cb,(ev g w.cells r).1,w.bN,w.bW,(if dq g r then w.bB.set r.bJ.bh.toNat true else w.bB),w.bx⟩,true)
  | _,_=>(w,false):=by unfold fr;rw[U,aa];rfl
 cases aA:w.cn with
 | cons r q=>
  rw[show fr g w=(w,false) by rw[hu,aA]];exact afR ⟨fL,k,rfl,kw,rfl,vZ aA,ad⟩
 | nil=>
 cases aO:w.queue with
 | nil=>
  rw[show fr g w=(w,false) by rw[hu,aA,aO]];exact afS ⟨fL,k,rfl,kw,rfl,kK aA,tV aO,ad⟩
 | cons r q=>
  have st:=Rf g w.cells r ay qN;have qy:=Rg g r ay;obtain⟨c6,_,_,_,_,_,jT,_⟩:=iy.1 aa;rw[aO,sr]at c6;have he:=ss c6.1;obtain⟨bX,cw⟩:=vp jT he;cases a8:dq g r with
  | true=>
   rw[a8]at qy;rw[show fr g w=(⟨q,(ev g w.cells r).2.1,w.cb,(ev g w.cells r).1,w.bN,w.bW,w.bB.set r.bJ.bh.toNat true,w.bx⟩,true) by rw[hu,aA,aO];simp only[a8,gO]];have e:aR.e ⟨q,(ev g w.cells r).2.1,w.cb,(ev g w.cells r).1,w.bN,w.bW,w.bB.set r.bJ.bh.toNat true,w.bx⟩=[.J 5 ([]++((w.queue.map aH.e).drop 1).take ((w.queue.map aH.e).length-1)),.J 5 ((ev g w.cells r).2.1.map aH.e),.J 5 (w.cb.map aH.e),.J 4 ((ev g w.cells r).1.map Cell.e),.J 1 (w.bN.map ba),.J 1 (w.bW.map cu),.J 1 ((w.bB.map cu).set r.bJ.bh.toNat [B true]),.J 2 (w.bx.map ca.e)]:=by
    rw[rA aO];simp only[aR.e,jK];rfl
   dsimp only;rw[e];exact afT ⟨fL,k,rfl,kw,rfl,kK aA,oJ aO,by decide,nY aO,o8 aO,st,pz,pA aO,pB,p5 aO kF,qd aO kF,qe aO,qy,rfl,he.1,bX,cw,ad⟩
  | false=>
   rw[a8]at qy;rw[show fr g w=(⟨q,(ev g w.cells r).2.1,w.cb,(ev g w.cells r).1,w.bN,w.bW,w.bB,w.bx⟩,true) by rw[hu,aA,aO];simp only[a8];rfl];have e:aR.e ⟨q,(ev g w.cells r).2.1,w.cb,(ev g w.cells r).1,w.bN,w.bW,w.bB,w.bx⟩=[.J 5 ([]++((w.queue.map aH.e).drop 1).take ((w.queue.map aH.e).length-1)),.J 5 ((ev g w.cells r).2.1.map aH.e),.J 5 (w.cb.map aH.e),.J 4 ((ev g w.cells r).1.map Cell.e),.J 1 (w.bN.map ba),.J 1 (w.bW.map cu),.J 1 (w.bB.map cu),.J 2 (w.bx.map ca.e)]:=by
    rw[rA aO];rfl
   dsimp only;rw[e];exact afU ⟨fL,k,rfl,kw,rfl,kK aA,oJ aO,by decide,nY aO,o8 aO,st,pz,pA aO,pB,p5 aO kF,qd aO kF,qe aO,qy,rfl,ad⟩
theorem afF(g:b1)(w:aR)(ay:g.sz<=8388608)(hw:w.sz<=8388608):ax 171 [.agg g.e,.agg w.e] [.agg (fs g w).1.e,.one (B (fs g w).2)]:=by
 have fL:=wS w hw;have k:=wL g ay;have kw:=B3 g w ay hw;have aM:w.queue.length<=8388608:=by simp only[aR.sz]at hw;omega
 have ij:w.cb.length<=8388608:=by simp only[aR.sz]at hw;omega
 cases U:ei g with
 | false=>
  rw[U]at k;rw[show fs g w=(w,false) by unfold fs;simp[U]];exact afJ ⟨fL,k,rfl,ad⟩
 | true=>
 rw[U]at k;cases aa:eA g w with
 | false=>
  rw[aa]at kw;rw[show fs g w=(w,false) by unfold fs;simp[aa]];exact afK ⟨fL,k,rfl,kw,rfl,ad⟩
 | true=>
 rw[aa]at kw;have hu:fs g w=match w.cn,w.queue,w.cb with
  | [],[],r::t=>(⟨[r],[],t,w.cells,w.bN,w.bW,w.bB,w.bx⟩,true)
  | _,_,_=>(w,false):=by unfold fs;rw[U,aa];rfl
 cases aA:w.cn with
 | cons r q=>
  rw[show fs g w=(w,false) by rw[hu,aA]];exact afL ⟨fL,k,rfl,kw,rfl,vZ aA,ad⟩
 | nil=>
 cases aO:w.queue with
 | cons r q=>
  rw[show fs g w=(w,false) by rw[hu,aA,aO]];exact afM ⟨fL,k,rfl,kw,rfl,kK aA,vZ aO,ad⟩
 | nil=>
 cases a8:w.cb with
 | nil=>
  rw[show fs g w=(w,false) by rw[hu,aA,aO,a8]];exact afN ⟨fL,k,rfl,kw,rfl,kK aA,kK aO,tV a8,ad⟩
 | cons r t=>
  rw[show fs g w=(⟨[r],[],t,w.cells,w.bN,w.bW,w.bB,w.bx⟩,true) by rw[hu,aA,aO,a8]];have e:aR.e ⟨[r],[],t,w.cells,w.bN,w.bW,w.bB,w.bx⟩=[.J 5 (w.queue.map aH.e++[r.e]),.J 5 (w.cn.map aH.e),.J 5 ([]++((w.cb.map aH.e).drop 1).take ((w.cb.map aH.e).length-1)),.J 4 (w.cells.map Cell.e),.J 1 (w.bN.map ba),.J 1 (w.bW.map cu),.J 1 (w.bB.map cu),.J 2 (w.bx.map ca.e)]:=by
   rw[rA a8,aO,aA];rfl
  dsimp only;rw[e];exact afO ⟨fL,k,rfl,kw,rfl,kK aA,kK aO,oJ a8,by decide,nY a8,o8 a8,yk aM,yl aM,fG (aH.flat r),pz,pA a8,pB,p5 a8 ij,qd a8 ij,qe a8,ad⟩
end Go.Proofs.YthfnndblgbjniaaGreatDoor
namespace Go.Proofs.YthfnndblgbjniaaGreatDoor
open Go.Sx Go.RowKit Go.Proofs.Tryz
inductive Step (c:bb) (p:c'):bb->Prop
 | work (x:aR) (r:aH) (q:List aH) (bc:p.kind=1) (ao:db c p.a=some x) (aj:x.cn=[]) (aM:x.queue=r::q):
   Step c p (setW c p.a ⟨q,(ev c.aG x.cells r).2.1,x.cb,(ev c.aG x.cells r).1,x.bN,x.bW,(if dq c.aG r then x.bB.set r.bJ.bh.toNat true else x.bB),x.bx⟩)
 | input (x:aR) (r:aH) (t:List aH) (bc:p.kind=2) (ao:db c p.a=some x) (aj:x.cn=[]) (aM:x.queue=[]) (hi:x.cb=r::t):
   Step c p (setW c p.a ⟨[r],[],t,x.cells,x.bN,x.bW,x.bB,x.bx⟩)
 | fa (x:aR) (r:aH) (t:List aH) (bc:p.kind=3) (ao:db c p.a=some x) (aj:x.cn=r::t) (a6:jh r.key c.aG.aB=p.a):
   Step c p (setW c p.a (kept (ji x t) r))
 | send (x:aR) (r:aH) (t:List aH) (l:bA) (bc:p.kind=3) (ao:db c p.a=some x) (aj:x.cn=r::t) (a6:jh r.key c.aG.aB≠p.a)
   (au:gE c (eZ c.aG p.a (jh r.key c.aG.aB))=some l) (h:(eY l r).2=true):
   Step c p (setW (dO c (eZ c.aG p.a (jh r.key c.aG.aB)) (eY l r).1) p.a (l1 (ji x t) r.bJ.bh))
 | take (l:bA) (x:aR) (bc:p.kind=4) (hL:p.a≠p.b) (au:gE c (eZ c.aG p.a p.b)=some l) (ao:db c p.b=some x) (h:(ef l).2.2=true):
   Step c p (setW (dO c (eZ c.aG p.a p.b) (ef l).1) p.b (hR x (ef l).2.1))
 | Ez (l:bA) (bc:p.kind=5) (hL:p.a≠p.b) (au:gE c (eZ c.aG p.a p.b)=some l) (h:(fR l).2=true):
   Step c p (dO c (eZ c.aG p.a p.b) (fR l).1)
 | token (t:b4) (x ha:aR) (bc:p.kind=6) (he:av p.a 0 3=true) (bV:db c 0=some ha) (aF:ga ha p.a=false) (bZ:iB c p.a=some t) (ao:db c t.place=some x) (h:(ft c p.a t x).2=true):
   Step c p (ft c p.a t x).1
 | Ff (k:Nat) (n:bR) (x:aR) (bc:p.kind=7) (a7:c.news[k]?=some n) (aF:n.dest=p.a) (ao:db c p.a=some x):
   Step c p (iA (setW c p.a (fw x n)) (cutAt c.news k))
theorem afG{l:bA}{r:aH}(h:(eY l r).2=true):iw l=true/\l.eK≠0/\l.fb<1000000000/\(eY l r).1=⟨l.cap,l.queue++[r],l.eK-1,l.back,l.fb+1,l.dd⟩:=by
 unfold eY at h ⊢;grind
theorem afH{l:bA}(h:(ef l).2.2=true):iw l=true/\∃r q,l.queue=r::q/\(ef l).2.1=r/\(ef l).1=⟨l.cap,q,l.eK,l.back+1,l.fb,l.dd+1⟩:=by
 unfold ef at h ⊢;grind
theorem R1(l:bA):((fR l).2=false/\(fR l).1=l)\/((fR l).2=true/\iw l=true/\l.back≠0/\(fR l).1=⟨l.cap,l.queue,l.eK+1,l.back-1,l.fb,l.dd⟩):=by
 unfold fR;grind
theorem C6 (c : bb) (e : Int) (t : b4) (x : aR) : ((ft c e t x).2 = false /\ (ft c e t x).1 = c) \/ ((ft c e t x).2 = true /\ kn x e = true /\
    ((t.going = false /\ (ft c e t x).1 = setW (ea c e ⟨true, (c.aB.length : Int) - 1, 0, false, x.bB.getD e.toNat false⟩) t.place (f' x e)) \/
     (t.going = true /\ 0 < t.place /\ (ft c e t x).1 = setW (ea c e ⟨true, t.place - 1, t.sum + x.bN.getD e.toNat 0, t.bW || x.bW.getD e.toNat false, t.dq || x.bB.getD e.toNat false⟩) t.place (f' x e)) \/
     (t.going = true /\ ¬ 0 < t.place /\ (t.bW = false /\ x.bW.getD e.toNat false = false /\ t.sum + x.bN.getD e.toNat 0 = 0) /\
       (ft c e t x).1 = iA (setW (ea c e ⟨false, t.place, t.sum, t.bW, t.dq⟩) 0 (told x e (t.dq || x.bB.getD e.toNat false))) (c.news ++ iT (c.aB.length - 1) e (t.dq || x.bB.getD e.toNat false))) \/
     (t.going = true /\ ¬ 0 < t.place /\ ¬ (t.bW = false /\ x.bW.getD e.toNat false = false /\ t.sum + x.bN.getD e.toNat 0 = 0) /\ (ft c e t x).1 = ea c e ⟨false, t.place, t.sum, t.bW, t.dq⟩))) := by
  unfold ft;split
  case isFalse => grind
  rename_i hp;cases ay : t.going with
  | false => grind
  | true =>
    rw [bE (by simp)];split
    · grind
    grind
theorem ag9(c:bb)(p:c'):((eN c p).2=false/\(eN c p).1=c)\/(cO c=true/\(eN c p).2=true/\Step c p (eN c p).1):=by
 unfold eN;split
 ·rename_i bc;unfold ll;split
  case isFalse=>grind
  rename_i cG;cases ao:db c p.a with
  | none=>grind
  | some x=>
   rcases Ri c.aG x with⟨U,aa⟩ | ⟨U,r,q,aj,aM,aa⟩
   ·grind[rv]
   refine .inr ⟨cG,U,?_⟩;dsimp only;rw[aa];exact .work x r q bc ao aj aM
 split
 ·rename_i bc;unfold lm;split
  case isFalse=>grind
  rename_i cG;cases ao:db c p.a with
  | none=>grind
  | some x=>
   rcases Rj c.aG x with⟨U,aa⟩ | ⟨U,r,t,aj,aM,hi,aa⟩
   ·grind[rv]
   refine .inr ⟨cG,U,?_⟩;dsimp only;rw[aa];exact .input x r t bc ao aj aM hi
 split
 ·rename_i bc;unfold ln;split
  case isFalse=>grind
  rename_i cG;cases ao:db c p.a with
  | none=>grind
  | some x=>
   dsimp only;cases aj:x.cn with
   | nil=>grind
   | cons r t=>
    dsimp only;unfold sZ;split
    ·rename_i a6;exact .inr ⟨cG,rfl,.fa x r t bc ao aj a6⟩
    rename_i a6;cases au:gE c (eZ c.aG p.a (jh r.key c.aG.aB)) with
    | none=>grind
    | some l=>
     dsimp only;split
     ·rename_i h;exact .inr ⟨cG,rfl,.send x r t l bc ao aj a6 au h⟩
     grind
 split
 ·rename_i bc;unfold lo;split
  case isFalse=>grind
  rename_i ap;simp only[cJ,bne_iff_ne,l']at ap;cases au:gE c (eZ c.aG p.a p.b) with
  | none=>grind
  | some l=>
   cases ao:db c p.b with
   | none=>grind
   | some x=>
    dsimp only;split
    ·rename_i h;exact .inr ⟨ap.1,rfl,.take l x bc ap.2 au ao h⟩
    grind
 split
 ·rename_i bc;unfold ko;split
  case isFalse=>grind
  rename_i ap;simp only[cJ,bne_iff_ne,l']at ap;cases au:gE c (eZ c.aG p.a p.b) with
  | none=>grind
  | some l=>
   rcases R1 l with⟨U,aa⟩ | ⟨U,_⟩
   ·grind[aaS]
   exact .inr ⟨ap.1,U,.Ez l bc ap.2 au U⟩
 split
 ·rename_i bc;unfold kp;split
  case isFalse=>grind
  rename_i ap;simp only[cJ]at ap;cases bV:db c 0 with
  | none=>grind
  | some ha=>
   cases bZ:iB c p.a with
   | none=>grind
   | some t=>
    dsimp only;cases aF:ga ha p.a with
    | true=>grind
    | false=>
     rw[bE (by simp)];cases ao:db c t.place with
     | none=>grind
     | some x=>
      dsimp only;rcases C6 c p.a t x with U | ⟨U,_⟩
      ·exact .inl U
      exact .inr ⟨ap.1,U,.token t x ha bc ap.2 bV aF bZ ao U⟩
 split
 ·rename_i bc;unfold fz;cases b7:c.news.findIdx? (fun n=>n.dest==p.a) with
  | none=>grind
  | some k=>
   dsimp only;split
   case isFalse=>grind
   rename_i cG;cases a7:c.news[k]? with
   | none=>grind
   | some n=>
    cases ao:db c p.a with
    | none=>grind
    | some x=>
     dsimp only;have aF:n.dest=p.a:=by
      have:=ti.1 b7;grind
     exact .inr ⟨cG,rfl,.Ff k n x bc a7 aF ao⟩
 grind
end Go.Proofs.YthfnndblgbjniaaGreatDoor
namespace Go.Proofs.YthfnndblgbjniaaGreatDoor
open Go.Sx Go.RowKit Go.Sort Go.Proofs.Tryz
def Dl{α:Type}(f:α->Nat)(xs:List α):Nat:=(xs.map f).sum
theorem aha{α:Type}{f:α->Nat}{y:α}(x:α){xs:List α}{i:Nat}(h:xs[i]?=some y):Dl f (xs.set i x)+f y=Dl f xs+f x:=by
 have:=ux (sz:=f) x h;simp only[eO,gz]at this;unfold Dl;omega
end Go.Proofs.YthfnndblgbjniaaGreatDoor
namespace Go.Proofs.YthfnndblgbjniaaGreatDoor
open Go.Sx Go.RowKit Go.Proofs.Tryz
def gd(e:Int)(x:aR):Int:=x.bN.getD e.toNat 0
def jq(e:Int)(x:aR):Bool:=x.bW.getD e.toNat false
def nd(e:Int)(x:aR):Bool:=x.bB.getD e.toNat false
def iR(e:Int)(c:bb)(k:Nat):Int:=((c.aB.take k).map (gd e)).sum
def im(e:Int)(c:bb):Nat:=Dl (o4 e) c.b2
def quiet(e:Int)(c:bb):Prop:=(∀x∈c.aB,kn x e=true)/\im e c=0
def Good(e:Int)(c:bb)(t:b4):Prop:=
 ((∀(i:Nat) x,t.place<i->c.aB[i]?=some x->kn x e=true/\(nd e x=true->t.dq=true))/\iR e c (t.place+1).toNat+t.sum=im e c)\/
 0<iR e c (t.place+1).toNat+t.sum\/(∃(i:Nat) (x:aR),(i:Int)<=t.place/\c.aB[i]?=some x/\jq e x=true)\/t.bW=true
structure Inv (e:Int) (c:bb):Prop where
 total:iR e c c.aB.length=im e c
 token:∀t,iB c e=some t->t.going=true->Good e c t
 zF:(wY c e||qi c e)=true->quiet e c
theorem yY{α:Type}(f:α->Int){y:α}(x:α):∀{xs:List α} {i k:Nat},xs[i]?=some y->(((xs.set i x).take k).map f).sum=((xs.take k).map f).sum+(if i<k then f x-f y else 0)
 | [],_,_,h=>by simp at h
 | a::xs,0,0,h=>by simp
 | a::xs,0,k+1,h=>by
  grind
 | a::xs,i+1,0,h=>by simp
 | a::xs,i+1,k+1,h=>by
  have d':=yY f x (xs:=xs) (i:=i) (k:=k) (by simpa using h);grind
variable{i j:Nat}
theorem R2{α:Type}{xs:List α}{y z:α}(h:(xs.set i y)[j]?=some z):(j=i/\z=y)\/(j≠i/\xs[j]?=some z):=by
 grind
theorem R3{α:Type}{xs:List α}{x y:α}(h:xs[i]?=some x):(xs.set i y)[i]?=some y:=by
 grind
theorem ahb{α:Type}{xs:List α}{y z:α}(h:xs[j]?=some z)(bm:j≠i):(xs.set i y)[j]?=some z:=by
 grind
theorem R4{α:Type}{xs:List α}{x:α}(h:xs[i]?=some x):xs.set i x=xs:=by
 grind[aZ,fB,List.set_getElem_self]
variable{e:Int}{c:bb}{x:aR}
theorem Inv.worker{i:Int}{d:bb}{y:aR}(h:Inv e c)(ao:db c i=some x)(hw:d.aB=c.aB.set i.toNat y)(bZ:iB d e=iB c e)
  (WL:(wY d e||qi d e)=true->(wY c e||qi c e)=true)
  (ap:(gd e y=gd e x/\(jq e x=true->jq e y=true)/\im e d=im e c/\(kn x e=true->kn y e=true/\nd e y=nd e x))\/
   (kn x e=false/\gd e y=gd e x+1/\(jq e x=true->jq e y=true)/\im e d=im e c+1)\/
   (im e c=im e d+1/\gd e y=gd e x-1/\jq e y=true)):Inv e d:=by
 obtain⟨i0,i1,i2⟩:=jj ao;have hlen:d.aB.length=c.aB.length:=by grind
 have vN:∀k,iR e d k=iR e c k+(if i.toNat<k then gd e y-gd e x else 0):=fun k=>by
  grind[iR,yY,gd]
 have pL:x∈c.aB:=ee i2;refine⟨?_,fun t kA ay=>?_,fun kA=>?_⟩
 ·rw[vN,hlen,bU i1,h.total];grind
 ·have ke:=h.token t (bZ▸kA) ay;unfold Good at ke ⊢;rw[vN];have asJ:(jq e x=true->jq e y=true)->(∃(j:Nat) (z:aR),(j:Int)<=t.place/\c.aB[j]?=some z/\jq e z=true)->∃(j:Nat) (z:aR),(j:Int)<=t.place/\d.aB[j]?=some z/\jq e z=true:=by
   rintro aw ⟨j,z,g1,g2,g3⟩;by_cases bm:j=i.toNat
   ·grind[R3]
   exact⟨j,z,g1,by grind,g3⟩
  rcases ap with⟨U,aa,aA,aO⟩ | ⟨U,aa,aA,aO⟩ | ⟨U,aa,aA⟩
  ·rcases ke with⟨eD,AU⟩ | g | g | g
   ·refine .inl ⟨fun j z bm bk=>?_,?_⟩
    ·grind[R2]
    grind
   ·grind
   ·grind
   grind
  ·rcases ke with⟨eD,AU⟩ | g | g | g
   ·have hle:¬t.place<i.toNat:=fun bM=>by
     grind
    omega
   ·grind
   ·grind
   grind
  by_cases hle:(i.toNat:Int)<=t.place
  ·grind[R3]
  rw[bE (by omega)];rcases ke with⟨_,AU⟩ | g | ⟨j,z,g1,g2,g3⟩ | g
  ·grind
  ·grind
  ·exact .inr (.inr (.inl ⟨j,z,g1,by grind,g3⟩))
  grind
 obtain⟨q1,lT⟩:=h.zF (WL kA);have hp:=q1 x pL;rcases ap with⟨_,_,aA,aO⟩ | ⟨U,_⟩ | ⟨U,_⟩
 ·refine⟨fun z bk=>?_,by omega⟩;grind
 ·grind
 omega
theorem o9:kn x e=true<->(∀r∈x.cb,e<r.bJ.bh)/\(∀r∈x.queue,r.bJ.bh≠e)/\∀r∈x.cn,r.bJ.bh≠e:=by
 simp only[kn,zk,Rh,o2,cJ,hT,hv,cW,jl];simp_all
theorem ahc(g:b1)(cs:List Cell)(r:aH):∀q∈(ev g cs r).2.1,q.bJ.bh=r.bJ.bh:=by
 grind[ev,eT,hd,jF,gL]
theorem C7{α:Type}{xs:List α}{a d:α}(h:i≠j):(xs.set i a).getD j d=xs.getD j d:=by
 grind
theorem R5{α:Type}{xs:List α}{a d:α}(h:i<xs.length):(xs.set i a).getD i d=a:=by
 grind
theorem J8{i e:Int}{l m:bA}(h:gE c i=some l):im e (dO c i m)+o4 e l=im e c+o4 e m:=by
 unfold im;exact aha m (p4 h).2.2
theorem ahd(e cap:Int)(q:List aH)(r:aH)(a b s g:Int)(l:bA)(au:l.queue=q):o4 e ⟨cap,q++[r],a,b,s,g⟩=o4 e l+(if r.bJ.bh=e then 1 else 0):=by
 simp only[o4,o2,List.filter_append,ku,au,List.filter_cons,List.filter_nil,jl];split<;>rfl
theorem ahe(e:Int)(r:aH)(q:List aH)(l:bA)(au:l.queue=r::q)(cap a b s g:Int):o4 e l=o4 e ⟨cap,q,a,b,s,g⟩+(if r.bJ.bh=e then 1 else 0):=by
 simp only[o4,o2,au,List.filter_cons,jl];grind
theorem o'{c d:bb}{i:Int}{y:aR}(ao:db c i=some x)(aF:d.aB=c.aB.set i.toNat y)(h:ga y e=true->ga x e=true\/qi c e=true)(a7:qi d e=true->qi c e=true):
  (wY d e||qi d e)=true->(wY c e||qi c e)=true:=by
 simp only[pt];rintro (hw | hw)
 ·unfold wY at hw ⊢;rw[aF,rV]at hw;obtain⟨z,bk,VN⟩:=hw;rcases ps bk with bk | rfl
  ·grind
  rcases h VN with U | U
  ·exact .inl (rV.2 ⟨x,ee (jj ao).2.2,U⟩)
  grind
 grind
theorem C8{a b:Int}(ai:0<=a)(aw:0<=b)(h:a≠b):a.toNat≠b.toNat:=by omega
variable{f:Int}
theorem R6{d:Int}(he:0<=e/\e<=3)(b7:0<=f/\f<=3){xs:List Int}(au:xs.length=4):(k9 xs f d).getD e.toNat 0=xs.getD e.toNat 0+(if f=e then d else 0):=by
 unfold k9;grind
theorem J9{g:b1}{w:aR}(h:eA g w=true):w.bN.length=4/\w.bW.length=4/\w.bB.length=4:=by
 obtain⟨_,_,_,_,a8,bG,b9,_⟩:=iy.1 h;grind
theorem R7{g:b1}{xs:List aH}(h:fv g xs=true){r:aH}(aI:r∈xs):0<=r.bJ.bh/\r.bJ.bh<=3:=by
 simp only[fv,hT,hv]at h;exact ss (g:=g) (by grind)
theorem R8{b:Bool}:ga (told x f b) e=(ga x e||f==e):=by
 simp[ga,told]
theorem ahf{n:bR}:ga (fw x n) e=(ga x e||n.bh==e):=by
 unfold fw;split
 ·grind
 exact R8
theorem ahg{n:bR}:kn (fw x n) e=kn x e:=by
 unfold fw;split<;>rfl
theorem ahh{x:aR}{n:bR}{e:Int}:gd e (fw x n)=gd e x/\jq e (fw x n)=jq e x/\nd e (fw x n)=nd e x:=by
 unfold fw;split<;>exact⟨rfl,rfl,rfl⟩
theorem R9{k:Nat}(h:c.aB[k]?=some x):iR e c (k+1)=iR e c k+gd e x:=by
 simp[iR,rS,h]
variable{t:b4}
theorem C9(he:0<=e)(b7:0<=f)(h:f≠e):(if 0<=e then (c.tokens.set f.toNat t)[e.toNat]? else none)=iB c e:=by
 simp_all[iB,bE,C8]
theorem ahi{n:Nat}{b:Bool}(h:f≠e):((c.news++iT n f b).any fun x=>x.bh==e)=qi c e:=by
 rw[List.any_append];have:((iT n f b).any fun x=>x.bh==e)=false:=by
  grind[hv,iT]
 rw[this,Bool.or_false];rfl
theorem Inv.arz(h:Inv e c)(he:0<=e)(b7:0<=f)(c1:f≠e)(ao:db c t.place=some x):Inv e (ft c f t x).1:=by
 have Tg:jq e (f' x f)=jq e x:=by
  grind[jq,f',C7,C8]
 rcases C6 c f t x with⟨_,aa⟩ | ⟨_,_,U⟩
 ·grind
 rcases U with⟨_,aa⟩ | ⟨_,_,aa⟩ | ⟨_,bV,_,aa⟩ | ⟨_,_,_,aa⟩
 ·rw[aa];exact h.worker ao rfl (C9 he b7 c1) (o' ao rfl (fun k=>.inl k) id) (.inl ⟨rfl,fun k=>Tg.trans k,rfl,fun k=>⟨k,rfl⟩⟩)
 ·rw[aa];exact h.worker ao rfl (C9 he b7 c1) (o' ao rfl (fun k=>.inl k) id) (.inl ⟨rfl,fun k=>Tg.trans k,rfl,fun k=>⟨k,rfl⟩⟩)
 ·rw[aa];have bk:t.place=0:=by have:=(jj ao).1;omega
  rw[bk]at ao;refine h.worker ao rfl (C9 he b7 c1) (o' ao rfl (fun k=>?_) (fun k=>(ahi c1).symm.trans k)) (.inl ⟨rfl,id,rfl,fun k=>⟨k,rfl⟩⟩);simp_all[R8,false,Bool.or_false]
 rw[aa];exact h.worker (y:=x) ao (R4 (jj ao).2.2).symm (C9 he b7 c1) (o' ao (R4 (jj ao).2.2).symm (fun k=>.inl k) id) (.inl ⟨rfl,id,rfl,fun k=>⟨k,rfl⟩⟩)
theorem ahj{n:Int}(h:0<=n):(n+1).toNat=n.toNat+1:=by omega
theorem ahk{n:Int}:(n-1+1).toNat=n.toNat:=by grind
theorem ahl{u:b4}(h:iB c e=some t):(if 0<=e then (c.tokens.set e.toNat u)[e.toNat]? else none)=some u:=by
 obtain⟨bV,_,aa⟩:=CW h;grind
theorem Inv.over(h:Inv e c)(bZ:iB c e=some t)(ay:t.going=true)(bV:¬0<t.place)(ao:db c t.place=some x)(hp:kn x e=true)
  (aw:t.bW=false/\x.bW.getD e.toNat false=false/\t.sum+x.bN.getD e.toNat 0=0):quiet e c/\((t.dq||nd e x)=false->∀z∈c.aB,nd e z=false):=by
 have bk:t.place=0:=by have:=(jj ao).1;omega
 obtain⟨_,_,j4⟩:=jj ao;rw[bk]at j4;have aj:iR e c 1=gd e x:=by rw[R9 (k:=0) j4];simp[iR]
 have ke:=h.token t bZ ay;unfold Good at ke;rw[bk]at ke;change ((_/\iR e c 1+t.sum=_)\/0<iR e c 1+t.sum\/_) at ke;rw[aj]at ke;have Mf:t.sum+gd e x=0:=aw.2.2;rcases ke with⟨eD,AU⟩ | g | ⟨i,z,g1,g2,g3⟩ | g
 ·have key:∀z∈c.aB,kn z e=true/\(nd e z=true->(t.dq||nd e x)=true):=by
   intro z bk;obtain⟨i,hi⟩:=List.getElem?_of_mem bk;grind
  refine⟨⟨fun z bk=>(key z bk).1,by omega⟩,fun hZ z bk=>?_⟩;grind
 ·omega
 ·simp_all[some,jq,false]
 grind
theorem Inv.arA(h:Inv e c)(cG:cO c=true)(bZ:iB c e=some t)(ao:db c t.place=some x):Inv e (ft c e t x).1:=by
 obtain⟨i0,i1,i2⟩:=jj ao;obtain⟨_,_,MO,_⟩:=wQ.1 (I6 cG bZ);rcases C6 c e t x with⟨_,aa⟩ | ⟨_,hp,U⟩
 ·grind
 have whole:∀u:b4,(u.going=true->Good e (setW (ea c e u) t.place (f' x e)) u)->Inv e (setW (ea c e u) t.place (f' x e)):=by
  intro u hu;have vN:∀k,iR e (setW (ea c e u) t.place (f' x e)) k=iR e c k:=fun k=>by
   have:=yY (gd e) (f' x e) (k:=k) i2;rw[show gd e (f' x e)=gd e x from rfl,Int.sub_self,ite_self,Int.add_zero]at this;exact this
  refine⟨?_,fun di kA ay=>?_,fun kA=>?_⟩
  ·rw[vN,show (setW (ea c e u) t.place (f' x e)).aB.length=c.aB.length from gz];exact h.total
  ·rw[show iB (setW (ea c e u) t.place (f' x e)) e=some u from ahl bZ]at kA;grind
  obtain⟨q1,lT⟩:=h.zF (o' (c:=c) (d:=setW (ea c e u) t.place (f' x e)) ao rfl (fun k=>.inl k) id kA);refine⟨fun z bk=>?_,lT⟩;rcases ps bk with bk | rfl
  ·exact q1 z bk
  exact hp
 have By:∀(u:b4) k,iR e (setW (ea c e u) t.place (f' x e)) k=iR e c k:=fun u k=>by
  have:=yY (gd e) (f' x e) (k:=k) i2;rw[show gd e (f' x e)=gd e x from rfl,Int.sub_self,ite_self,Int.add_zero]at this;exact this
 rcases U with⟨ay,aa⟩ | ⟨ay,bV,aa⟩ | ⟨ay,bV,aw,aa⟩ | ⟨ay,bV,aw,aa⟩
 ·rw[aa];refine whole _ fun _=>.inl ⟨fun j z bm bk=>?_,?_⟩
  ·have:=aZ bk;rw[show (setW (ea c e _) t.place (f' x e)).aB.length=c.aB.length from gz]at this;grind
  rw[By];change iR e c ((c.aB.length:Int)-1+1).toNat+0=im e c;rw[show ((c.aB.length:Int)-1+1).toNat=c.aB.length by omega,Int.add_zero];exact h.total
 ·rw[aa];have ke:=h.token t bZ ay;refine whole _ fun _=>?_
  unfold Good at ke ⊢;rw[By];change ((∀(i:Nat) z,t.place-1<i->_->_)/\iR e c (t.place-1+1).toNat+(t.sum+gd e x)=im e c)\/0<iR e c (t.place-1+1).toNat+(t.sum+gd e x)\/(∃(i:Nat) (z:aR),(i:Int)<=t.place-1/\_)\/(t.bW||jq e x)=true;rw[ahj i0,R9 i2]at ke;rw[ahk];rcases ke with⟨eD,AU⟩ | g | ⟨i,z,g1,g2,g3⟩ | g
  ·refine .inl ⟨fun j z bm bk=>?_,by omega⟩;change (c.aB.set t.place.toNat (f' x e))[j]?=some z at bk;rcases R2 bk with⟨rfl,rfl⟩ | ⟨c1,bk⟩
   ·exact⟨hp,fun k=>by change (t.dq||nd e x)=true;rw[show nd e x=true from k,Bool.or_true]⟩
   grind
  ·grind
  ·by_cases hi:i=t.place.toNat
   ·grind
   exact .inr (.inr (.inl ⟨i,z,by omega,ahb g2 hi,g3⟩))
  grind
 ·rw[aa];obtain⟨⟨q1,lT⟩,_⟩:=h.over bZ ay bV ao hp aw;have bk:t.place=0:=by omega
  rw[bk]at i2 i1;have vN:∀k,((((c.aB.set 0 (told x e (t.dq||x.bB.getD e.toNat false))).take k).map (gd e)).sum)=iR e c k:=fun k=>by
   have:=yY (gd e) (told x e (t.dq||x.bB.getD e.toNat false)) (k:=k) i2;rw[show gd e (told x e (t.dq||x.bB.getD e.toNat false))=gd e x from rfl,Int.sub_self,ite_self,Int.add_zero]at this;exact this
  refine⟨?_,fun di kA VU=>?_,fun _=>⟨fun z bk=>?_,lT⟩⟩
  ·refine (vN _).trans ?_;rw[show (iA (setW (ea c e ⟨false,t.place,t.sum,t.bW,t.dq⟩) 0 (told x e (t.dq||x.bB.getD e.toNat false))) (c.news++iT (c.aB.length-1) e (t.dq||x.bB.getD e.toNat false))).aB.length=c.aB.length from gz];exact h.total
  ·change (if 0<=e then (c.tokens.set e.toNat _)[e.toNat]? else none)=some di at kA;grind
  rcases ps bk with bk | rfl
  ·exact q1 z bk
  exact hp
 rw[aa];refine⟨h.total,fun di kA VU=>?_,h.zF⟩;change (if 0<=e then (c.tokens.set e.toNat _)[e.toNat]? else none)=some di at kA;grind
theorem Inv.step{d:bb}{p:c'}(h:Inv e c)(he:0<=e/\e<=3)(cG:cO c=true)(st:Step c p d):Inv e d:=by
 cases st with
 | work x r q bc ao aj aM=>
  have bf:=lp cG ao;obtain⟨_,_,au⟩:=J9 bf;refine h.worker ao rfl rfl (o' ao rfl (fun k=>.inl k) id) (.inl ⟨rfl,id,rfl,fun k=>?_⟩);obtain⟨c6,b8,e9⟩:=o9.1 k;rw[aM]at b8;have iQ:=b8 r (jn ..);refine⟨o9.2 ⟨c6,fun a ai=>b8 a (hb _ ai),fun a ai=>?_⟩,?_⟩
  ·grind[ahc]
  have aI:=R7 (iy.1 bf).1 (r:=r) (by grind);grind[nd,C7,C8]
 | input x r t bc ao aj aM hi=>
  refine h.worker ao rfl rfl (o' ao rfl (fun k=>.inl k) id) (.inl ⟨rfl,id,rfl,fun k=>⟨?_,rfl⟩⟩);obtain⟨c6,b8,e9⟩:=o9.1 k;rw[hi]at c6;refine o9.2 ⟨fun a ai=>c6 a (hb _ ai),fun a ai=>?_,fun a ai=>by cases ai⟩;grind
 | fa x r t bc ao aj a6=>
  refine h.worker ao rfl rfl (o' ao rfl (fun k=>.inl k) id) (.inl ⟨rfl,id,rfl,fun k=>⟨?_,rfl⟩⟩);obtain⟨c6,b8,e9⟩:=o9.1 k;rw[aj]at e9;refine o9.2 ⟨c6,fun a ai=>?_,fun a ai=>e9 a (hb _ ai)⟩;rcases lv.1 ai with ai | ai
  ·exact b8 a ai
  grind
 | send x r t l bc ao aj a6 au hsend=>
  obtain⟨_,_,_,e1⟩:=afG hsend;have bf:=lp cG ao;obtain⟨xR,_,_⟩:=J9 bf;have aI:=R7 (iy.1 bf).2.1 (r:=r) (by grind);have b7:=J8 (e:=e) (m:=(eY l r).1) au;have q0:gd e (l1 (ji x t) r.bJ.bh)=gd e x+(if r.bJ.bh=e then 1 else 0):=R6 he aI xR;rw[e1,ahd e _ _ r _ _ _ _ l rfl]at b7;refine h.worker ao (d:=setW (dO c _ (eY l r).1) p.a _) rfl rfl (o' ao rfl (fun k=>.inl k) id) ?_;have sf:im e (setW (dO c (eZ c.aG p.a (jh r.key c.aG.aB)) (eY l r).1) p.a (l1 (ji x t) r.bJ.bh))=im e c+(if r.bJ.bh=e then 1 else 0):=by
   rw[e1];change im e (dO c _ _)=_;omega
  by_cases xW:r.bJ.bh=e
  ·rw[bU xW]at q0 sf;refine .inr (.inl ⟨?_,q0,id,sf⟩);rw[D3];intro k;obtain⟨_,_,e9⟩:=o9.1 k;grind
  rw[bE xW]at q0 sf;refine .inl ⟨by omega,id,by omega,fun k=>⟨?_,rfl⟩⟩;obtain⟨c6,b8,e9⟩:=o9.1 k;rw[aj]at e9;exact o9.2 ⟨c6,b8,fun a ai=>e9 a (hb _ ai)⟩
 | take l x bc hL au ao bZ=>
  obtain⟨_,r,q,aM,e2,e1⟩:=afH bZ;have bf:=lp cG ao;obtain⟨xR,AY,_⟩:=J9 bf;have aI:=ss (I' (zl cG au) bZ).2;rw[e2]at aI;have b7:=J8 (e:=e) (m:=(ef l).1) au;have q0:gd e (hR x r)=gd e x+(if r.bJ.bh=e then -1 else 0):=R6 he aI xR;rw[e1,ahe e r q l aM l.cap l.eK (l.back+1) l.fb (l.dd+1)]at b7;rw[e2];refine h.worker ao (d:=setW (dO c _ (ef l).1) p.b _) rfl rfl (o' ao rfl (fun k=>.inl k) id) ?_;have sf:im e (setW (dO c (eZ c.aG p.a p.b) (ef l).1) p.b (hR x r))+(if r.bJ.bh=e then 1 else 0)=im e c:=by
   rw[e1];change im e (dO c _ _)+_=_;omega
  by_cases xW:r.bJ.bh=e
  ·rw[bU xW]at q0 sf;grind[jq,hR,R5]
  rw[bE xW]at q0 sf;refine .inl ⟨by omega,fun k=>?_,by omega,fun k=>⟨?_,rfl⟩⟩
  ·grind[jq,hR,C7,C8]
  obtain⟨c6,b8,e9⟩:=o9.1 k;refine o9.2 ⟨c6,fun a ai=>?_,e9⟩;rcases lv.1 ai with ai | ai
  ·exact b8 a ai
  grind
 | Ez l bc hL au ap=>
  rcases R1 l with⟨k,_⟩ | ⟨_,_,_,e1⟩
  ·grind
  have b7:=J8 (e:=e) (m:=(fR l).1) au;have aa:o4 e (fR l).1=o4 e l:=by rw[e1];rfl
  have aA:im e (dO c (eZ c.aG p.a p.b) (fR l).1)=im e c:=by omega
  refine⟨by rw[aA];exact h.total,fun t kA ay=>?_,fun kA=>⟨(h.zF kA).1,by rw[aA];exact (h.zF kA).2⟩⟩;have ke:=h.token t kA ay;unfold Good at ke ⊢;rw[aA];exact ke
 | token t x ha bc oz bV aF bZ ao VL=>
  simp only[av,cW]at oz;by_cases MI:p.a=e
  ·subst MI;exact h.arA cG bZ ao
  exact h.arz he.1 oz.1 MI ao
 | Ff k n x bc a7 aF ao=>
  obtain⟨c6,b8,e9⟩:=ahh (x:=x) (n:=n) (e:=e);refine h.worker ao rfl rfl (o' ao rfl (fun q=>?_) (fun q=>?_)) (.inl ⟨c6,fun q=>b8.trans q,rfl,fun q=>⟨ahg.trans q,e9⟩⟩)
  ·rw[ahf,pt]at q;rcases q with q | q
   ·exact .inl q
   exact .inr (rV.2 ⟨n,ee a7,q⟩)
  unfold qi at q ⊢;rw[rV]at q ⊢;obtain⟨m,hm,q⟩:=q;refine⟨m,?_,q⟩;change m∈cutAt c.news k at hm;grind[cutAt,vk,Aj]
end Go.Proofs.YthfnndblgbjniaaGreatDoor
namespace Go.Proofs.YthfnndblgbjniaaGreatDoor
open Go.Sx Go.RowKit Go.Proofs.Tryz
theorem ahm(c:bb)(l:List c')(ap:c.sz+4*l.length<=8388608):
  c0 prog (aq f119 0) (wo (l.map c'.e) 0 [] (c.aG.nodes.map Node.e) c.aG.aB c.aG.cap (c.aB.map aR.e) (c.b2.map bA.e) (c.tokens.map b4.e) (c.news.map bR.e) (cO c) 0 0) (.exit 0)
   (JS ((dK c l).2.map cu) ((dK c l).1.aG.nodes.map Node.e) (dK c l).1.aG.aB (dK c l).1.aG.cap ((dK c l).1.aB.map aR.e) ((dK c l).1.b2.map bA.e) ((dK c l).1.tokens.map b4.e) ((dK c l).1.news.map bR.e) (cO (dK c l).1) 0 0):=by
 have au:l.length<=8388608:=by omega
 have k:=eu (P:=prog) (c:=(aq f119 0)) (cI 0) l.length (fun i:Nat=>wo (l.map c'.e) i ((dK c (l.take i)).2.map cu) ((dK c (l.take i)).1.aG.nodes.map Node.e) (dK c (l.take i)).1.aG.aB (dK c (l.take i)).1.aG.cap ((dK c (l.take i)).1.aB.map aR.e) ((dK c (l.take i)).1.b2.map bA.e) ((dK c (l.take i)).1.tokens.map b4.e) ((dK c (l.take i)).1.news.map bR.e) (cO (dK c (l.take i)).1) 0 0) (fun i hi=>by
  obtain⟨p,hp⟩:=cS hi;have a7:=J2 (l.take i) c;have aj:=RS c l i;rw[RR c hp];dsimp only;rw[J1];generalize dK c (l.take i)=o at*;exact afo ⟨b3 hi,bn,bt hi,bp c'.e hp,SD o.1 p (by omega),by grind,by grind,xp [(eN o.1 p).2],cT hi au,ad⟩) (afp ⟨dv,ad⟩)
 rw[jH]at k;exact k
theorem ahn(c:bb)(l:List c')(ap:c.sz+4*l.length<=8388608)(hw:gi c):ax 119 [.agg c.e,.one (.J 3 (l.map c'.e))] [.agg (dK c l).1.e,.one (.J 1 ((dK c l).2.map cu))]:=
 afq ⟨CZ c (by omega) hw,ahm c l ap,ad⟩
def lq(c:bb):bb×Nat:=((dK c (mR c)).1,r5 (dK c (mR c)).2)
theorem aho{c d:bb}(h:d.aG=c.aG):mR d=mR c:=by grind[mR]
theorem J'(c:bb):ly c (lq c).1:=J3 _ _
theorem R'(c:bb):(lq c).1.sz<=c.sz+400:=by
 grind[C5,mR,RW,lq]
theorem ahp(c:bb)(l:List c')(ap:c.sz+4*l.length<=8388608):bP prog 73 [.ref (e7 c) (e7 (dK c l).1),.ro (.one (.J 3 (l.map c'.e)))] (.vals [.one (I (r5 (dK c l).2))]):=by
 have au:l.length<=8388608:=by omega
 have k:=eu (P:=prog) (c:=(aq f73 0)) (cI 0) l.length (fun i:Nat=>uz (l.map c'.e) i (r5 (dK c (l.take i)).2) ((dK c (l.take i)).1.aG.nodes.map Node.e) (dK c (l.take i)).1.aG.aB (dK c (l.take i)).1.aG.cap ((dK c (l.take i)).1.aB.map aR.e) ((dK c (l.take i)).1.b2.map bA.e) ((dK c (l.take i)).1.tokens.map b4.e) ((dK c (l.take i)).1.news.map bR.e) (cO (dK c (l.take i)).1)) (fun i hi=>by
  obtain⟨p,hp⟩:=cS hi;have a7:=J2 (l.take i) c;have aF:=agq (dK c (l.take i)).2;have aj:=RS c l i;have bZ:=J4 i l;rw[RR c hp];dsimp only;rw[agr];generalize dK c (l.take i)=o at*;have st:=SD o.1 p (by omega);cases aw:(eN o.1 p).2 with
  | true=>
   rw[aw]at st;exact aeE ⟨b3 hi,bn,bt hi,bp c'.e hp,st,rfl,⟨by omega,by omega⟩,cT hi au,ad⟩
  | false=>
   rw[aw]at st;exact aeF ⟨b3 hi,bn,bt hi,bp c'.e hp,st,rfl,cT hi au,ad⟩) (aeG ⟨dv,ad⟩)
 rw[jH]at k;exact aeH ⟨k,ad⟩
def gb:Nat->bb->Nat->bb×Nat
 | 0,c,k=>(c,k)
 | n+1,c,k=>if (lq c).2=0 then ((lq c).1,k+1) else gb n (lq c).1 (k+1)
def l2(c:bb)(nM:Int):bb×Nat:=gb (hl nM 0 3000).toNat c 0
theorem Ka:∀(n:Nat) (c:bb) (k:Nat),(gb n c k).1.sz<=c.sz+n*400
 | 0,c,k=>ht _
 | n+1,c,k=>by
  have U:=R' c;have aa:=Ka n (lq c).1 (k+1);unfold gb;split
  ·dsimp only;omega
  omega
theorem Kb:∀(n:Nat) (c:bb) (k:Nat),ly c (gb n c k).1
 | 0,c,k=>.rfl
 | n+1,c,k=>by
  unfold gb;split
  ·exact J' c
  exact (J' c).trans (Kb n _ _)
theorem ahq{n:Nat}{c:bb}{k:Nat}(bV:¬(lq c).2=0):gb (n+1) c k=gb n (lq c).1 (k+1):=by
 simp_all[gb,bE]
theorem Sa(n:Int):∃k:Nat,hl n 0 3000=k/\k<=3000:=by
 refine⟨(hl n 0 3000).toNat,?_,?_⟩<;>(unfold hl;grind)
theorem Sb(m:Nat)(hm:m<=3000)(l:List c'):∀(n:Nat) (c:bb) (k:Nat),k+n=m->mR c=l->c.sz+n*400<=8388608->
  c0 prog (aq f35 0) (sy (l.map c'.e) m ((k:Int)+1) (c.aG.nodes.map Node.e) c.aG.aB c.aG.cap (c.aB.map aR.e) (c.b2.map bA.e) (c.tokens.map b4.e) (c.news.map bR.e) (cO c) 0 0) .ret
    (JQ (gb n c k).2 ((gb n c k).1.aG.nodes.map Node.e) (gb n c k).1.aG.aB (gb n c k).1.aG.cap ((gb n c k).1.aB.map aR.e) ((gb n c k).1.b2.map bA.e) ((gb n c k).1.tokens.map b4.e) ((gb n c k).1.news.map bR.e))\/
  (gb n c k).2=m/\c0 prog (aq f35 0) (sy (l.map c'.e) m ((k:Int)+1) (c.aG.nodes.map Node.e) c.aG.aB c.aG.cap (c.aB.map aR.e) (c.b2.map bA.e) (c.tokens.map b4.e) (c.news.map bR.e) (cO c) 0 0) (.exit 0)
    (JR m ((gb n c k).1.aG.nodes.map Node.e) (gb n c k).1.aG.aB (gb n c k).1.aG.cap ((gb n c k).1.aB.map aR.e) ((gb n c k).1.b2.map bA.e) ((gb n c k).1.tokens.map b4.e) ((gb n c k).1.news.map bR.e) (cO (gb n c k).1) 0 0)
 | 0,c,k,bc,_,_=>.inr ⟨by grind[gb],.last (cI 0) (afk ⟨eC (by omega),ad⟩)⟩
 | n+1,c,k,bc,au,ap=>by
  have r:=ahp c l (by grind[RW]);have aj:=R' c;have ay:=(J' c).aG;have e1:lq c=((dK c l).1,r5 (dK c l).2):=by grind[lq]
  by_cases bV:(lq c).2=0
  ·rw[show gb (n+1) c k=((lq c).1,k+1) by simp_all[gb,bU]];rw[e1]at bV ⊢;exact .inl (.last eJ (afj ⟨dV (by omega),r,by grind,ad⟩))
  rw[ahq bV];have d':=Sb m hm l n (lq c).1 (k+1) (by omega) ((aho ay).trans au) (by omega);rw[e1]at bV d' ⊢;rcases d' with d' | ⟨W8,d'⟩
  ·exact .inl (.more (Sh ⟨dV (by omega),r,by grind,⟨by omega,by omega⟩,ad⟩) d')
  exact .inr ⟨W8,.more (Sh ⟨dV (by omega),r,by grind,⟨by omega,by omega⟩,ad⟩) d'⟩
theorem JK(c:bb)(nM:Int)(ap:c.sz+1200000<=8388608)(hw:gi c):ax 35 [.agg c.e,.one (I nM)] [.agg (l2 c nM).1.e,.one (I (l2 c nM).2)]:=by
 have b:=Ch nM 0 3000;obtain⟨m,hm,aw⟩:=Sa nM;unfold l2;rw[hm]at b ⊢;rw[po];rcases Sb m (by omega) (mR c) m c 0 (by omega) rfl (by omega) with k | ⟨c6,k⟩
 ·exact afl ⟨CZ c (by omega) hw,RX c,b,k,ad⟩
 rw[c6];exact afm ⟨CZ c (by omega) hw,RX c,b,k,ad⟩
end Go.Proofs.YthfnndblgbjniaaGreatDoor
namespace Go.Proofs.YthfnndblgbjniaaGreatDoor
open Go.Sx Go.RowKit Go.Proofs.Tryz
theorem RD(l:bA)(r:aH):(eY l r).1.cap=l.cap:=by grind[eY]
theorem RE(l:bA):(ef l).1.cap=l.cap:=by
 grind[ef]
theorem RF(l:bA):(fR l).1.cap=l.cap:=by grind[fR]
structure hJ (c:bb):Prop where
 tok:c.tokens.length=4
 ye:1<=c.b2.length
 cap:∀l∈c.b2,1<=l.cap/\l.cap<=4
variable{c:bb}{i:Int}
theorem hJ.dO{l m:bA}(h:hJ c)(au:gE c i=some l)(hm:m.cap=l.cap):hJ (dO c i m):=by
 refine⟨h.tok,by change 1<=(c.b2.set i.toNat m).length;rw[gz];exact h.ye,fun x ao=>?_⟩;rcases ps ao with ao | rfl
 ·exact h.cap x ao
 rw[hm];exact h.cap l (ee (p4 au).2.2)
theorem hJ.setW{x:aR}(h:hJ c):hJ (setW c i x):=⟨h.tok,h.ye,h.cap⟩
theorem hJ.iA{n:List bR}(h:hJ c):hJ (iA c n):=⟨h.tok,h.ye,h.cap⟩
theorem hJ.ea{t:b4}(h:hJ c):hJ (ea c i t):=⟨by change (c.tokens.set i.toNat t).length=4;rw[gz];exact h.tok,h.ye,h.cap⟩
theorem Step.zB{d:bb}{p:c'}(st:Step c p d)(h:hJ c):hJ d:=by
 cases st with
 | work x r q bc ao aj aM=>exact h.setW
 | input x r t bc ao aj aM hi=>exact h.setW
 | fa x r t bc ao aj a6=>exact h.setW
 | send x r t l bc ao aj a6 au hsend=>exact (h.dO au (RD l r)).setW
 | take l x bc hL au ao bZ=>exact (h.dO au (RE l)).setW
 | Ez l bc hL au ap=>exact h.dO au (RF l)
 | token t x ha bc as1 bV aF bZ ao VL=>
  rcases C6 c p.a t x with⟨_,k⟩ | ⟨_,_,⟨_,k⟩ | ⟨_,_,k⟩ | ⟨_,_,_,k⟩ | ⟨_,_,_,k⟩⟩<;>rw[k]
  ·exact h
  ·exact h.ea.setW
  ·exact h.ea.setW
  ·exact h.ea.setW.iA
  exact h.ea
 | Ff k n x bc a7 aF ao=>exact h.setW.iA
theorem ahr(h:hJ c)(p:c'):hJ (eN c p).1:=by
 rcases ag9 c p with⟨_,k⟩ | ⟨_,_,st⟩
 ·grind
 exact st.zB h
theorem JL:∀(l:List c') {c:bb},hJ c->hJ (dK c l).1
 | [],_,h=>h
 | p::l,_,h=>JL l (ahr h p)
theorem RG:∀(n:Nat) {c:bb} (k:Nat),hJ c->hJ (gb n c k).1
 | 0,_,_,h=>h
 | n+1,c,k,h=>by
  have U:hJ (lq c).1:=JL (mR c) h;unfold gb;split
  ·exact U
  exact RG n (k+1) U
theorem RH(n:Int):1<=hl n 1 4/\hl n 1 4<=4:=by
 grind[hl]
theorem ahs{g:b1}{xs:List aH}(h:nN g xs=true):hJ (lZ g xs):=by
 have a7:=mQ (Jo.1 h).1;refine⟨by simp[lZ],?_,fun l au=>?_⟩
 ·unfold lZ;rw[List.length_replicate];exact Nat.mul_pos (by omega) (by omega)
 rw[List.eq_of_mem_replicate au];exact RH g.cap
structure UY (x:bb):Prop where
 aG:kY x.aG
 zB:hJ x
 dd:gi x
 sz:x.sz<=8000
 td:x.aB.length=x.aG.aB.toNat
theorem aht(b:List Int)(c:dy)(ap:c.ok b):∃(d:dy) (x:bb),d.ok b/\UY x/\bP prog 69 [.cur (c.e b) (d.e b)] (.vals [.agg x.e]):=by
 obtain⟨d1,g,cx,ay,bF⟩:=Jp b c ap;obtain⟨d2,xs,cd,n4,j4,bY⟩:=OD b d1 cx;obtain⟨d3,ct,cD,GU,_,cg⟩:=al4 b d2 40 (by omega) cd;obtain⟨d4,f,eX,dQ⟩:=uV b d3 4 cD (by omega);have a7:=al5 ay (by omega) j4;have aj:=ay.size;have bk:=alZ a7;have nw:=alY g xs (by omega);rw[OJ a7]at nw;have dd:=al0 g xs;have gZ:=ahn (lZ g xs) ct (by omega) dd;have q4:=C5 ct (lZ g xs);have Gy:=J3 ct (lZ g xs);have S8:=JL ct (ahs a7);have vR:(lZ g xs).aB.length=g.aB.toNat:=Jl g xs _;have VV:(lZ g xs).aG=g:=rfl;have c6:=Gy.aG;have b8:=Gy.dd dd;have e9:=Gy.td;rw[VV]at c6;rw[vR]at e9;generalize dK (lZ g xs) ct=o at*;cases f with
 | false=>exact⟨d4,o.1,eX,⟨by grind,S8,b8,by omega,by grind⟩,adX ⟨bF,bY,nw,QG ⟨cg,gZ,ad⟩,dQ,rfl,ad⟩⟩
 | true=>
  obtain⟨d5,n,oO,atd,ic⟩:=dC b d4 12 eX (by omega);have cF:=JK o.1 n (by omega) b8;have aw:(hl n 0 3000).toNat<=11:=by
   grind[hl]
  have atp:=Ka (hl n 0 3000).toNat o.1 0;have Gw:=Kb (hl n 0 3000).toNat o.1 0;have f1:(l2 o.1 n).1.aG=g:=Gw.aG.trans c6;have f2:gi (l2 o.1 n).1:=Gw.dd b8;have f3:(l2 o.1 n).1.aB.length=g.aB.toNat:=Gw.td.trans e9;have f4:(l2 o.1 n).1.sz<=8000:=by grind[l2]
  have f5:hJ (l2 o.1 n).1:=RG _ 0 S8;exact⟨d5,(l2 o.1 n).1,oO,⟨by grind,f5,f2,f4,by grind⟩,adW ⟨bF,bY,nw,QG ⟨cg,gZ,ad⟩,dQ,rfl,adV ⟨ic,cF,ad⟩,ad⟩⟩
structure Aw (n:Nat) (l:bA):Prop where
 sz:l.sz<=n
 cap:1<=l.cap/\l.cap<=4
 dd:l.dd<=9223372036854775807
theorem C'(b:List Int):∀(n i:Nat) (l:bA) (c:dy),i+n=8->c.ok b->Aw i l->
  ∃(m:bA) (d:dy),d.ok b/\Aw 8 m/\c0 prog (aq f123 0) (rz (b.map gk) i l.cap (l.queue.map aH.e) l.eK l.back l.fb l.dd 0 0 0 0 0 c.i c.h) (.exit 0) (IN (b.map gk) m.cap (m.queue.map aH.e) m.eK m.back m.fb m.dd 0 0 0 0 0 d.i d.h)
 | n,i,l,c,oz,ap,au=>by
  obtain⟨d1,m,cx,aw,bF⟩:=dC b c 9 ap (by omega);have bk:=au.sz;by_cases h:(i:Int)<m
  ·match n with
   | 0=>omega
   | n+1=>
    obtain⟨d2,k,cd,bc,bY⟩:=dC b d1 4 cx (by omega);by_cases bD:k=0
    ·have z:=QO l;obtain⟨h4,d,o,e0,eU⟩:=C' b n (i+1) (ef l).1 d2 (by omega) cd ⟨by omega,by rw[RE];exact au.cap,RP l au.dd⟩;exact⟨h4,d,o,e0,.more (acE ⟨bF,j7 h,bY,by simp[bD],Ss l (by omega),⟨by omega,by omega⟩,ad⟩) eU⟩
    by_cases e1:k=1
    ·have z:=QP l;obtain⟨h4,d,o,e0,eU⟩:=C' b n (i+1) (fR l).1 d2 (by omega) cd ⟨by omega,by rw[RF];exact au.cap,RO l au.dd⟩;exact⟨h4,d,o,e0,.more (acF ⟨bF,j7 h,bY,by simp[bD],by simp[e1],St l (by omega),⟨by omega,by omega⟩,ad⟩) eU⟩
    obtain⟨d3,r,cD,aI,cg⟩:=Cg b d2 cd;have z:=RC l r;obtain⟨h4,d,o,e0,eU⟩:=C' b n (i+1) (eY l r).1 d3 (by omega) cD ⟨by omega,by rw[RD];exact au.cap,RN l r au.dd⟩;exact⟨h4,d,o,e0,.more (ad9 ⟨bF,j7 h,bY,by simp[bD],by simp[e1],ad8 ⟨cg,Sr l r (by omega),ad⟩,⟨by omega,by omega⟩,ad⟩) eU⟩
  exact⟨l,d1,cx,⟨by omega,au.cap,au.dd⟩,.last (cI 0) (aea ⟨bF,ma h,ad⟩)⟩
theorem ahu(b:List Int)(c:dy)(ap:c.ok b):∃(d:dy) (l:bA),d.ok b/\Aw 8 l/\bP prog 123 [.cur (c.e b) (d.e b)] (.vals [.agg l.e]):=by
 obtain⟨d1,n,cx,a7,bF⟩:=dC b c 4 ap (by omega);obtain⟨l,d,o,e0,eU⟩:=C' b 8 0 (o1 (1+n)) d1 rfl cx ⟨by simp[o1,bA.sz],RH _,by simp[o1]⟩;exact⟨d,l,o,e0,aeb ⟨bF,⟨by omega,by omega⟩,OH (1+n),eU,ad⟩⟩
theorem ahv(b:List Int)(c:dy)(ap:c.ok b):∃(d:dy) (l:bA),d.ok b/\Aw 9 l/\bP prog 71 [.cur (c.e b) (d.e b)] (.vals [.agg l.e]):=by
 obtain⟨d1,l,cx,⟨bk,hZ,sg⟩,bF⟩:=ahu b c ap;obtain⟨d2,k,cd,bc,bY⟩:=dC b d1 14 cx (by omega);have kF:l.queue.length<=8:=bk;by_cases bD:k=0
 ·obtain⟨d3,v,cD,br,cg⟩:=dC b d2 6 cd (by omega);exact⟨d3,⟨l.cap,l.queue,v-1,l.back,l.fb,l.dd⟩,cD,⟨Nat.le_succ_of_le bk,hZ,sg⟩,aec ⟨bF,bY,by simp[bD],cg,⟨by omega,by omega⟩,ad⟩⟩
 by_cases e1:k=1
 ·obtain⟨d3,v,cD,br,cg⟩:=dC b d2 6 cd (by omega);exact⟨d3,⟨l.cap,l.queue,l.eK,v-1,l.fb,l.dd⟩,cD,⟨Nat.le_succ_of_le bk,hZ,sg⟩,aed ⟨bF,bY,by simp[bD],by simp[e1],cg,⟨by omega,by omega⟩,ad⟩⟩
 by_cases e2:k=2
 ·obtain⟨d3,v,cD,br,cg⟩:=j1 b d2 [-1,0,1000000000,1000000001] cd (by simp);exact⟨d3,⟨l.cap,l.queue,l.eK,l.back,v,l.dd⟩,cD,⟨Nat.le_succ_of_le bk,hZ,sg⟩,aee ⟨bF,bY,by simp[bD],by simp[e1],by simp[e2],cg,ad⟩⟩
 by_cases ch:k=3
 ·obtain⟨d3,r,cD,aI,cg⟩:=OM b d2 cd;have:=aeg ⟨bF,bY,by simp[bD],by simp[e1],by simp[e2],by simp[ch],aef ⟨cg,by simp;omega,by simp;omega,EK r,ad⟩,ad⟩;refine⟨d3,⟨l.cap,l.queue++[r],l.eK,l.back,l.fb,l.dd⟩,cD,⟨by grind[bA.sz],hZ,sg⟩,?_⟩;unfold bA.e;dsimp only;rw[gy];exact this
 by_cases dP:k=4
 ·have vL:((l.queue.map aH.e).length:Int)=l.queue.length:=by simp
  have:=aeh ⟨bF,bY,by simp[bD],by simp[e1],by simp[e2],by simp[ch],by simp[dP],⟨by omega,by omega⟩,ad⟩;rw[vL]at this;exact⟨d2,⟨l.cap,l.queue,l.eK,l.back,1000000000,1000000000-(l.queue.length:Int)⟩,cd,⟨Nat.le_succ_of_le bk,hZ,by grind⟩,this⟩
 exact⟨d2,l,cd,⟨by omega,hZ,sg⟩,aei ⟨bF,bY,by simp[bD],by simp[e1],by simp[e2],by simp[ch],by simp[dP],ad⟩⟩
end Go.Proofs.YthfnndblgbjniaaGreatDoor
namespace Go.Proofs.YthfnndblgbjniaaGreatDoor
open Go.Sx Go.RowKit Go.Proofs.Tryz
theorem ahw(b:List Int)(c:dy)(g:b1)(ap:c.ok b)(ay:g.nodes.length<=1000):∃(d:dy) (r:aH),d.ok b/\(0<=r.bJ.bh/\r.bJ.bh<=3)/\bP prog 173 [.cur (c.e b) (d.e b),.ro (.agg g.e)] (.vals [.agg r.e]):=by
 obtain⟨d1,r,cx,⟨_,aa,_,_,_⟩,bF⟩:=Cg b c ap;have vL:((g.nodes.map Node.e).length:Int)=g.nodes.length:=by simp
 by_cases bV:0<g.nodes.length
 ·have aF:decide (((g.nodes.map Node.e).length:Int)>0)=true:=dV (by omega);obtain⟨d2,k,cd,bc,bY⟩:=dC b d1 (g.nodes.length:Int) cx (by omega);rw[<-vL]at bY;obtain⟨d3,x,cD,cg⟩:=uV b d2 4 cd (by omega);cases x with
  | true=>
   obtain⟨d4,t,eX,bZ,dQ⟩:=dC b d3 2 cD (by omega);exact⟨d4,⟨k,⟨r.bJ.bh,5+t⟩,r.key,r.val⟩,eX,by grind,aej ⟨bF,aF,bY,cg,rfl,dQ,⟨by omega,by omega⟩,ad⟩⟩
  | false=>exact⟨d3,⟨k,r.bJ,r.key,r.val⟩,cD,by grind,aek ⟨bF,aF,bY,cg,rfl,ad⟩⟩
 have aF:decide (((g.nodes.map Node.e).length:Int)>0)=false:=eC (by omega);obtain⟨d3,x,cD,cg⟩:=uV b d1 4 cx (by omega);cases x with
 | true=>
  obtain⟨d4,t,eX,bZ,dQ⟩:=dC b d3 2 cD (by omega);exact⟨d4,⟨r.op,⟨r.bJ.bh,5+t⟩,r.key,r.val⟩,eX,by grind,ael ⟨bF,aF,cg,rfl,dQ,⟨by omega,by omega⟩,ad⟩⟩
 | false=>exact⟨d3,r,cD,by omega,aem ⟨bF,aF,cg,rfl,ad⟩⟩
structure qq (i:Nat) (w:aR):Prop where
 sz:w.sz<=40+2*i
 bN:w.bN.length=4
 bW:w.bW.length=4
 xn:∀k:Nat,-(i:Int)<=w.bN.getD k 0/\w.bN.getD k 0<=0
 bx:w.bx=[]
theorem qq.mono{i:Nat}{w v:aR}(h:qq i w)(aj:v.sz<=w.sz+2)(U:v.bN=w.bN)(aa:v.bW=w.bW)(aA:v.bx=w.bx):qq (i+1) v:=by
 refine⟨by have:=h.sz;omega,by rw[U];exact h.bN,by rw[aa];exact h.bW,fun k=>?_,aA.trans h.bx⟩;rw[U];have:=h.xn k;omega
theorem qq.hR{i:Nat}{w:aR}{r:aH}(h:qq i w)(he:0<=r.bJ.bh/\r.bJ.bh<=3):qq (i+1) (hR w r):=by
 have aO:=h.bN;refine⟨?_,?_,?_,fun k=>?_,h.bx⟩
 ·have:=RA w r;have:=h.sz;omega
 ·unfold Go.Proofs.YthfnndblgbjniaaGreatDoor.hR k9;dsimp only;rw[gz];exact aO
 ·unfold Go.Proofs.YthfnndblgbjniaaGreatDoor.hR;dsimp only;rw[gz];exact h.bW
 unfold Go.Proofs.YthfnndblgbjniaaGreatDoor.hR k9;dsimp only;by_cases bc:r.bJ.bh.toNat=k
 ·subst bc;rw[R5 (by omega)];have:=h.xn r.bJ.bh.toNat;omega
 rw[C7 bc];have:=h.xn k;omega
theorem ahx(g:b1)(w:aR):(fr g w).1.bN=w.bN/\(fr g w).1.bW=w.bW/\(fr g w).1.bx=w.bx:=by
 grind[Ri]
theorem ahy(g:b1)(w:aR):(fs g w).1.bN=w.bN/\(fs g w).1.bW=w.bW/\(fs g w).1.bx=w.bx:=by
 grind[Rj]
theorem wq(b:List Int)(g:b1)(ay:g.sz<=1000):∀(n i:Nat) (w:aR) (c:dy),i+n=7->c.ok b->qq i w->
  ∃(v:aR) (d:dy),d.ok b/\qq 7 v/\c0 prog (aq f120 0) (o7 (b.map gk) i (w.queue.map aH.e) (w.cn.map aH.e) (w.cb.map aH.e) (w.cells.map Cell.e) (w.bN.map ba) (w.bW.map cu) (w.bB.map cu) (w.bx.map ca.e) (g.nodes.map Node.e) g.aB g.cap c.i c.h) (.exit 0)
   (IU (b.map gk) (v.queue.map aH.e) (v.cn.map aH.e) (v.cb.map aH.e) (v.cells.map Cell.e) (v.bN.map ba) (v.bW.map cu) (v.bB.map cu) (v.bx.map ca.e) d.i d.h)
 | n,i,w,c,oz,ap,hw=>by
  obtain⟨d1,m,cx,aw,bF⟩:=dC b c 8 ap (by omega);have bk:=hw.sz;have VZ:g.nodes.length<=1000:=by have:=wA (sz:=Node.sz) (xs:=g.nodes) (m:=1000) ay;exact this
  by_cases h:(i:Int)<m
  ·match n with
   | 0=>omega
   | n+1=>
    obtain⟨d2,k,cd,bc,bY⟩:=dC b d1 5 cx (by omega);by_cases bD:k=0
    ·have z:=Ry g w;obtain⟨q1,lT,GV⟩:=ahy g w;obtain⟨h4,d,o,e0,eU⟩:=wq b g ay n (i+1) (fs g w).1 d2 (by omega) cd (hw.mono (by omega) q1 lT GV);exact⟨h4,d,o,e0,.more (aen ⟨bF,j7 h,bY,by simp[bD],afF g w (by omega) (by omega),⟨by omega,by omega⟩,ad⟩) eU⟩
    by_cases e1:k=1
    ·obtain⟨d3,r,cD,he,cg⟩:=ahw b d2 g cd VZ;obtain⟨h4,d,o,e0,eU⟩:=wq b g ay n (i+1) (hR w r) d3 (by omega) cD (hw.hR he);have asR:=hw.xn r.bJ.bh.toNat;have arl:=afB w r (by omega) hw.bN hw.bW he ⟨by omega,by omega⟩;exact⟨h4,d,o,e0,.more (aep ⟨bF,j7 h,bY,by simp[bD],by simp[e1],aeo ⟨cg,arl,ad⟩,⟨by omega,by omega⟩,ad⟩) eU⟩
    by_cases e2:k=2
    ·have nv:w.cn=[]\/∃r t,w.cn=r::t:=by
      cases w.cn with
      | nil=>grind
      | cons r t=>grind
     rcases nv with e5 | ⟨r,t0,e5⟩
     ·obtain⟨h4,d,o,e0,eU⟩:=wq b g ay n (i+1) w d2 (by omega) cd (hw.mono (by omega) rfl rfl rfl);have us:=afD w (by omega) e5;exact⟨h4,d,o,e0,.more (Rc ⟨bF,j7 h,bY,by simp[bD],by simp[e1],by simp[e2],us,⟨by omega,by omega⟩,ad⟩) eU⟩
     have z:=Rz e5;obtain⟨h4,d,o,e0,eU⟩:=wq b g ay n (i+1) (ji w t0) d2 (by omega) cd (hw.mono (by omega) rfl rfl rfl);have us:=afC w r t0 (by omega) e5;exact⟨h4,d,o,e0,.more (Rc ⟨bF,j7 h,bY,by simp[bD],by simp[e1],by simp[e2],us,⟨by omega,by omega⟩,ad⟩) eU⟩
    have z:=Rx g w;obtain⟨q1,lT,GV⟩:=ahx g w;obtain⟨h4,d,o,e0,eU⟩:=wq b g ay n (i+1) (fr g w).1 d2 (by omega) cd (hw.mono (by omega) q1 lT GV);exact⟨h4,d,o,e0,.more (aeq ⟨bF,j7 h,bY,by simp[bD],by simp[e1],by simp[e2],afE g w (by omega) (by omega),⟨by omega,by omega⟩,ad⟩) eU⟩
  refine⟨w,d1,cx,⟨by omega,hw.bN,hw.bW,fun k=>?_,hw.bx⟩,.last (cI 0) (aer ⟨bF,ma h,ad⟩)⟩;have:=hw.xn k;omega
theorem agJ(b:List Int)(c:dy)(g:b1)(ay:g.sz<=1000)(ap:c.ok b):∃(d:dy) (w:aR),d.ok b/\qq 7 w/\bP prog 120 [.cur (c.e b) (d.e b),.ro (.agg g.e)] (.vals [.agg w.e]):=by
 obtain⟨d1,xs,cx,n4,j4,bF⟩:=OD b c ap;obtain⟨w,d,o,e0,eU⟩:=wq b g ay 7 0 (rq xs) d1 rfl cx (by
  refine⟨by grind[rq,aR.sz],by simp[rq],by simp[rq],fun k=>?_,rfl⟩;grind[rq,List,Int])
 exact⟨d,w,o,e0,aes ⟨bF,OI xs (by omega),eU,ad⟩⟩
theorem agK(v:Bool):Flat [[B v]]:=fG (by grind)
theorem RI(b:List Int)(c:dy)(g:b1)(ay:g.sz<=1000)(ap:c.ok b):∃(d:dy) (w:aR),d.ok b/\(w.sz<=100/\∀d∈w.bx,d.wf)/\bP prog 70 [.cur (c.e b) (d.e b),.ro (.agg g.e)] (.vals [.agg w.e]):=by
 obtain⟨d1,w,cx,hw,bF⟩:=agJ b c g ay ap;obtain⟨d2,k,cd,bc,bY⟩:=dC b d1 16 cx (by omega);have bk:=hw.sz;have aO:=hw.bN;have A1:=hw.bx;have Gr:=bk;simp only[aR.sz]at Gr;have bi:∀d∈w.bx,d.wf:=by rw[A1];exact fun _ h=>(by cases h)
 have atw:w.queue.length<=1000:=by omega
 by_cases bD:k=0
 ·obtain⟨d3,r,cD,aI,cg⟩:=OM b d2 cd;have:=aeu ⟨bF,bY,by simp[bD],aet ⟨cg,by simp;omega,by simp;omega,EK r,ad⟩,ad⟩;refine⟨d3,⟨w.queue++[r],w.cn,w.cb,w.cells,w.bN,w.bW,w.bB,w.bx⟩,cD,⟨by grind[aR.sz],bi⟩,?_⟩;unfold aR.e;dsimp only;rw[gy];exact this
 by_cases e1:k=1
 ·obtain⟨d3,r,cD,aI,cg⟩:=Cg b d2 cd;have:=aew ⟨bF,bY,by simp[bD],by simp[e1],aev ⟨cg,by simp;omega,by simp;omega,EK r,ad⟩,ad⟩;refine⟨d3,⟨w.queue,w.cn,w.cb++[r],w.cells,w.bN,w.bW,w.bB,w.bx⟩,cD,⟨by grind[aR.sz],bi⟩,?_⟩;unfold aR.e;dsimp only;rw[gy];exact this
 by_cases e2:k=2
 ·obtain⟨d3,v,cD,br,cg⟩:=dC b d2 4 cd (by omega);have vL:((w.bN.map ba).length:Int)=4:=by simp[aO]
  have:=adI ⟨bF,bY,by simp[bD],by simp[e1],by simp[e2],aex ⟨cg,by decide,br.1,by grind,ad⟩,ad⟩;refine⟨d3,⟨w.queue,w.cn,w.cb,w.cells,w.bN.take v.toNat,w.bW,w.bB,w.bx⟩,cD,⟨by grind[aR.sz],bi⟩,?_⟩;unfold aR.e;dsimp only;rw[tk];exact this
 by_cases ch:k=3
 ·obtain⟨d3,v,cD,br,cg⟩:=j1 b d2 [1000000,1000001,-1000001] cd (by simp);obtain⟨y,bO⟩:=cS (xs:=w.bN) (i:=0) (by omega);have lP:(w.bN.map ba)[0]?=some [I y]:=by rw[dk,bO];rfl
  have:=adK ⟨bF,bY,by simp[bD],by simp[e1],by simp[e2],by simp[ch],adJ ⟨cg,by decide,by simp[aO],lP,ad⟩,ad⟩;refine⟨d3,⟨w.queue,w.cn,w.cb,w.cells,w.bN.set 0 v,w.bW,w.bB,w.bx⟩,cD,⟨by grind[aR.sz],bi⟩,?_⟩;unfold aR.e;dsimp only;rw[jK];exact this
 by_cases dP:k=4
 ·obtain⟨d3,v,cD,br,cg⟩:=dC b d2 6 cd (by omega);have:=adM ⟨bF,bY,by simp[bD],by simp[e1],by simp[e2],by simp[ch],by simp[dP],adL ⟨cg,⟨by omega,by omega⟩,by simp;omega,by simp;omega,fG (ca.flat ⟨v-1,false⟩),ad⟩,ad⟩;refine⟨d3,⟨w.queue,w.cn,w.cb,w.cells,w.bN,w.bW,w.bB,w.bx++[⟨v-1,false⟩]⟩,cD,⟨by grind[aR.sz],fun d aF=>?_⟩,?_⟩
  ·rw[A1]at aF;obtain rfl:=List.mem_singleton.1 aF;exact⟨⟨by dsimp only;omega,by dsimp only;omega⟩⟩
  unfold aR.e;dsimp only;rw[gy];exact this
 by_cases gT:k=5
 ·obtain⟨d3,v,cD,br,cg⟩:=dC b d2 2 cd (by omega);have:=adN ⟨bF,bY,by simp[bD],by simp[e1],by simp[e2],by simp[ch],by simp[dP],by simp[gT],cg,ad⟩;exact⟨d3,⟨w.queue,w.cn,w.cb,w.cells,w.bN,w.bW,w.bB,[⟨1,false⟩,⟨v,true⟩]⟩,cD,⟨by grind[aR.sz],fun d aF=>by
   simp only[ep,l9,or_false]at aF;rcases aF with rfl | rfl
   ·exact⟨⟨by decide,by decide⟩⟩
   exact⟨⟨by dsimp only;omega,by dsimp only;omega⟩⟩⟩,this⟩
 by_cases k2:k=6
 ·have:=adO ⟨bF,bY,by simp[bD],by simp[e1],by simp[e2],by simp[ch],by simp[dP],by simp[gT],by simp[k2],by simp;omega,by simp;omega,agK true,ad⟩;refine⟨d2,⟨w.queue,w.cn,w.cb,w.cells,w.bN,w.bW++[true],w.bB,w.bx⟩,cd,⟨by grind[aR.sz],bi⟩,?_⟩;unfold aR.e;dsimp only;rw[gy];exact this
 by_cases ng:k=7
 ·have:=adP ⟨bF,bY,by simp[bD],by simp[e1],by simp[e2],by simp[ch],by simp[dP],by simp[gT],by simp[k2],by simp[ng],by simp;omega,by simp;omega,fG (Cell.flat ⟨0,0,0,0⟩),ad⟩;refine⟨d2,⟨w.queue,w.cn,w.cb,w.cells++[⟨0,0,0,0⟩],w.bN,w.bW,w.bB,w.bx⟩,cd,⟨by grind[aR.sz],bi⟩,?_⟩;unfold aR.e;dsimp only;rw[gy];exact this
 exact⟨d2,w,cd,⟨by omega,bi⟩,adQ ⟨bF,bY,by simp[bD],by simp[e1],by simp[e2],by simp[ch],by simp[dP],by simp[gT],by simp[k2],by simp[ng],ad⟩⟩
end Go.Proofs.YthfnndblgbjniaaGreatDoor
namespace Go.Proofs.YthfnndblgbjniaaGreatDoor
open Go.Sx Go.RowKit Go.Proofs.Tryz
theorem RJ{α:Type}{sz:α->Nat}{xs:List α}{i:Nat}{x y:α}(h:xs[i]?=some y):eO sz (xs.set i x)<=eO sz xs+sz x:=by
 have:=ux (sz:=sz) x h;omega
theorem RK(b:List Int)(c:dy)(ap:c.ok b):∃(d:dy) (x:bb),d.ok b/\(xe x/\x.sz<=8400)/\bP prog 33 [.cur (c.e b) (d.e b)] (.vals [.agg x.e]):=by
 obtain⟨d1,x,cx,sm,bF⟩:=aht b c ap;have bk:=sm.sz;have Gr:=bk;simp only[bb.sz]at Gr;have asZ:=sm.aG.size;have V1:=sm.aG.aB;have vR:=sm.td;have Mx:=sm.zB.ye;have FQ:=sm.zB.tok;have hZ:=sm.zB.cap;have sg:=sm.dd;have nums:∀l∈x.b2,aK .i64 l.cap/\l.dd<=9223372036854775807:=fun l au=>⟨⟨by have:=hZ l au;omega,by have:=hZ l au;omega⟩,sg l au⟩
 have tD:aK .i64 x.aG.aB:=⟨by omega,by omega⟩
 have Fy:((x.aB.map aR.e).length:Int)=x.aB.length:=by simp
 have A7:((x.b2.map bA.e).length:Int)=x.b2.length:=by simp
 have bM:((x.tokens.map b4.e).length:Int)=4:=by simp[FQ]
 have as7:x.b2.length<=8000:=by have:=wA (sz:=bA.sz) (xs:=x.b2) (m:=8000) (by omega);exact this
 obtain⟨d2,k,cd,bc,bY⟩:=dC b d1 (x.aB.length:Int) cx (by omega);rw[<-Fy]at bY;obtain⟨d3,m,cD,hm,cg⟩:=dC b d2 20 cd (by omega);by_cases bD:m=0
 ·obtain⟨d4,w,eX,⟨hw,_⟩,dQ⟩:=RI b d3 x.aG (by omega) cD;obtain⟨y,bO⟩:=cS (xs:=x.aB) (i:=k.toNat) (by omega);have lP:(x.aB.map aR.e)[k.toNat]?=some y.e:=by rw[dk,bO];rfl
  have:=adZ ⟨bF,bY,cg,by simp[bD],adY ⟨dQ,bc.1,by omega,lP,ad⟩,ad⟩;refine⟨d4,⟨x.aG,x.aB.set k.toNat w,x.b2,x.tokens,x.news⟩,eX,⟨⟨tD,nums⟩,?_⟩,?_⟩
  ·have:=RJ (sz:=aR.sz) (x:=w) bO;simp only[bb.sz];omega
  unfold bb.e;dsimp only;rw[jK];exact this
 by_cases e1:m=1
 ·obtain⟨d4,i,eX,hi,dQ⟩:=dC b d3 (x.b2.length:Int) cD (by omega);rw[<-A7]at dQ;obtain⟨d5,l,oO,au,ic⟩:=ahv b d4 eX;obtain⟨y,bO⟩:=cS (xs:=x.b2) (i:=i.toNat) (by omega);have lP:(x.b2.map bA.e)[i.toNat]?=some y.e:=by rw[dk,bO];rfl
  have:=ad1 ⟨bF,bY,cg,by simp[bD],by simp[e1],ad0 ⟨dQ,ic,hi.1,by omega,lP,ad⟩,ad⟩;refine⟨d5,⟨x.aG,x.aB,x.b2.set i.toNat l,x.tokens,x.news⟩,oO,⟨⟨tD,fun z bk=>?_⟩,?_⟩,?_⟩
  ·rcases ps bk with bk | rfl
   ·exact nums z bk
   exact⟨⟨by have:=au.cap;omega,by have:=au.cap;omega⟩,au.dd⟩
  ·have:=RJ (sz:=bA.sz) (x:=l) bO;have:=au.sz;simp only[bb.sz];omega
  unfold bb.e;dsimp only;rw[jK];exact this
 by_cases e2:m=2
 ·obtain⟨d4,i,eX,hi,dQ⟩:=dC b d3 4 cD (by omega);obtain⟨d5,v,oO,br,ic⟩:=dC b d4 6 eX (by omega);obtain⟨y,bO⟩:=cS (xs:=x.tokens) (i:=i.toNat) (by omega);have lP:(x.tokens.map b4.e)[i.toNat]?=some y.e:=by rw[dk,bO];rfl
  have:=ad3 ⟨bF,bY,cg,by simp[bD],by simp[e1],by simp[e2],ad2 ⟨dQ,ic,⟨by omega,by omega⟩,hi.1,by omega,lP,ad⟩,ad⟩;refine⟨d5,⟨x.aG,x.aB,x.b2,x.tokens.set i.toNat ⟨y.going,v-1,y.sum,y.bW,y.dq⟩,x.news⟩,oO,⟨⟨tD,nums⟩,?_⟩,?_⟩
  ·simp only[bb.sz,gz];omega
  unfold bb.e;dsimp only;rw[jK];exact this
 by_cases ch:m=3
 ·obtain⟨d4,v,eX,br,dQ⟩:=j1 b d3 [1000000,1000001,-1000001,3] cD (by simp);obtain⟨y,bO⟩:=cS (xs:=x.tokens) (i:=0) (by omega);have lP:(x.tokens.map b4.e)[0]?=some y.e:=by rw[dk,bO];rfl
  have:=ad5 ⟨bF,bY,cg,by simp[bD],by simp[e1],by simp[e2],by simp[ch],ad4 ⟨dQ,by decide,by omega,lP,ad⟩,ad⟩;refine⟨d4,⟨x.aG,x.aB,x.b2,x.tokens.set 0 ⟨y.going,y.place,v,y.bW,y.dq⟩,x.news⟩,eX,⟨⟨tD,nums⟩,?_⟩,?_⟩
  ·simp only[bb.sz,gz];omega
  unfold bb.e;dsimp only;rw[jK];exact this
 by_cases dP:m=4
 ·obtain⟨d4,u,eX,hu,dQ⟩:=dC b d3 6 cD (by omega);obtain⟨d5,v,oO,br,ic⟩:=dC b d4 6 eX (by omega);have qS:x.news.length<=8000:=by omega
  have:=ad7 ⟨bF,bY,cg,by simp[bD],by simp[e1],by simp[e2],by simp[ch],by simp[dP],ad6 ⟨dQ,⟨by omega,by omega⟩,ic,⟨by omega,by omega⟩,by simp;omega,by simp;omega,fG (bR.flat ⟨u-1,v-1,false⟩),ad⟩,ad⟩;refine⟨d5,⟨x.aG,x.aB,x.b2,x.tokens,x.news++[⟨u-1,v-1,false⟩]⟩,oO,⟨⟨tD,nums⟩,?_⟩,?_⟩
  ·simp only[bb.sz,ku,List.length_singleton];omega
  unfold bb.e;dsimp only;rw[gy];exact this
 by_cases gT:m=5
 ·obtain⟨d4,g,eX,ay,dQ⟩:=aff b d3 cD;have:=ady ⟨bF,bY,cg,by simp[bD],by simp[e1],by simp[e2],by simp[ch],by simp[dP],by simp[gT],dQ,ad⟩;refine⟨d4,⟨g,x.aB,x.b2,x.tokens,x.news⟩,eX,⟨⟨⟨by dsimp only;omega,by dsimp only;omega⟩,nums⟩,?_⟩,this⟩;simp only[bb.sz];omega
 by_cases k2:m=6
 ·have:=adz ⟨bF,bY,cg,by simp[bD],by simp[e1],by simp[e2],by simp[ch],by simp[dP],by simp[gT],by simp[k2],by decide,by change (0:Int)<=3;decide,by change (3:Int)<=_;omega,ad⟩;refine⟨d3,⟨x.aG,x.aB,x.b2,x.tokens.take 3,x.news⟩,cD,⟨⟨tD,nums⟩,?_⟩,?_⟩
  ·simp only[bb.sz,qm];omega
  unfold bb.e;dsimp only;rw[tk];exact this
 exact⟨d3,x,cD,⟨⟨tD,nums⟩,by omega⟩,adA ⟨bF,bY,cg,by simp[bD],by simp[e1],by simp[e2],by simp[ch],by simp[dP],by simp[gT],by simp[k2],ad⟩⟩
end Go.Proofs.YthfnndblgbjniaaGreatDoor
namespace Go.Proofs.YthfnndblgbjniaaGreatDoor
open Go.Sx Go.RowKit Go.Proofs.Tryz
theorem agL(c:bb)(nM:Int):ly c (l2 c nM).1:=Kb _ _ _
theorem RL(c:bb)(nM:Int):(l2 c nM).1.sz<=c.sz+1200000:=by
 obtain⟨m,hm,aw⟩:=Sa nM;unfold l2;rw[hm,po];have:=Ka m c 0;omega
end Go.Proofs.YthfnndblgbjniaaGreatDoor
namespace Go.Proofs.YthfnndblgbjniaaGreatDoor
open Go.Sx Go.RowKit Go.Proofs.Tryz
theorem xe.dd{c:bb}(h:xe c):gi c:=fun l au=>(h.l l au).2
theorem agM(b:List Int)(aw:Bytes b):∃(x:bb) (e:Int),x.sz<=1300000/\ax 16 [.one (.J 1 (b.map gk))] [.agg x.e,.one (I e)]:=by
 obtain⟨c,ap,fS⟩:=Cd b aw;obtain⟨d1,x,cx,⟨a7,bk⟩,bF⟩:=RK b c ap;obtain⟨d2,f,cd,bY⟩:=uV b d1 2 cx (by omega);obtain⟨d3,v,cD,br,cg⟩:=dC b d2 6 cd (by omega);cases f with
 | true=>
  have cF:=JK x 200 (by omega) a7.dd;have q4:=RL x 200;exact⟨_,v-1,by omega,ae8 ⟨fS,bF,bY,rfl,cF,adH ⟨cg,⟨by omega,by omega⟩,ad⟩,ad⟩⟩
 | false=>exact⟨x,v-1,by omega,afa ⟨fS,bF,bY,rfl,ae9 ⟨cg,⟨by omega,by omega⟩,ad⟩,ad⟩⟩
end Go.Proofs.YthfnndblgbjniaaGreatDoor
namespace Go.Proofs.YthfnndblgbjniaaGreatDoor
open Go.Sx Go.RowKit Go.Proofs.Tryz
theorem agN(b:List Int)(aw:Bytes b):∃(g:b1) (w:aR),(w.sz<=100/\∀d∈w.bx,d.wf)/\ax 88 [.one (.J 1 (b.map gk))] [.agg g.e,.agg w.e]:=by
 obtain⟨c,ap,fS⟩:=Cd b aw;obtain⟨d1,g,cx,ay,bF⟩:=Jp b c ap;have:=ay.size;obtain⟨d2,w,cd,hw,bY⟩:=RI b d1 g (by omega) cx;exact⟨g,w,hw,adS ⟨fS,bF,adR ⟨bY,ad⟩,ad⟩⟩
theorem agO(b:List Int)(aw:Bytes b):∃(w:aR) (e:Int),(w.sz<=100/\∀d∈w.bx,d.wf)/\ax 13 [.one (.J 1 (b.map gk))] [.agg w.e,.one (I e)]:=by
 obtain⟨g,w,hw,fS⟩:=agN b aw;obtain⟨c,ap,bF⟩:=Cd b aw;obtain⟨d,v,o,br,bY⟩:=dC b c 6 ap (by omega);exact⟨w,v-1,hw,adG ⟨adU ⟨fS,adT ⟨bF,bY,⟨by omega,by omega⟩,ad⟩,ad⟩,ad⟩⟩
theorem agP(b:List Int)(aw:Bytes b):∃(x:bb) (w:Int),(gi x/\x.sz<=1300000)/\ax 6 [.one (.J 1 (b.map gk))] [.agg x.e,.one (I w)]:=by
 obtain⟨c,ap,fS⟩:=Cd b aw;obtain⟨d1,x,cx,⟨a7,bk⟩,bF⟩:=RK b c ap;have EN:gi x:=fun l au=>(a7.l l au).2
 obtain⟨d2,f,cd,bY⟩:=uV b d1 2 cx (by omega);cases f with
 | true=>
  have cF:=JK x 200 (by omega) EN;have q4:=RL x 200;have bc:=agL x 200;generalize bO:(l2 x 200).1=y at cF q4 bc;have vR:y.aB.length<=8400:=by
   have:=wA (sz:=aR.sz) (xs:=x.aB) (m:=8400) (by simp only[bb.sz]at bk;omega);rw[bc.td];exact this
  have Fy:((y.aB.map aR.e).length:Int)=y.aB.length:=by simp
  have jv:y.sz<=1208400:=by omega
  simp only[bb.sz]at jv;have qS:y.news.length<=1300000:=by omega
  obtain⟨d3,u,cD,hu,cg⟩:=dC b d2 ((y.aB.length:Int)+1) cd (by omega);rw[<-Fy]at cg;obtain⟨d4,v,eX,br,dQ⟩:=dC b d3 4 cD (by omega);obtain⟨d5,k,oO,ic⟩:=uV b d4 3 eX (by omega);obtain⟨d6,w,GL,hw,kr⟩:=j1 b d5 [0,1,1,2,-1] oO (by simp);have:=adD ⟨fS,bF,bY,rfl,cF,adB ⟨⟨by omega,by omega⟩,cg,dQ,ic,by simp;omega,by simp;omega,fG (bR.flat ⟨u,v,k⟩),ad⟩,adC ⟨kr,ad⟩,ad⟩;refine⟨⟨y.aG,y.aB,y.b2,y.tokens,y.news++[⟨u,v,k⟩]⟩,w,⟨bc.dd EN,?_⟩,?_⟩
  ·simp only[bb.sz,ku,List.length_singleton];omega
  unfold bb.e;dsimp only;rw[gy];exact this
 | false=>
  obtain⟨d6,w,GL,hw,kr⟩:=j1 b d2 [0,1,1,2,-1] cd (by simp);exact⟨x,w,⟨EN,by omega⟩,adF ⟨fS,bF,bY,rfl,adE ⟨kr,ad⟩,ad⟩⟩
theorem RM{c:bb}{w:Int}(h:(fz c w).2=false):(fz c w).1=c:=by
 unfold fz at h ⊢;split at h<;>grind
end Go.Proofs.YthfnndblgbjniaaGreatDoor
namespace Go.Proofs.YthfnndblgbjniaaGreatDoor
open Go.Sx Go.RowKit Go.Proofs.Tryz
def JM(c:bb)(e:Int):Bool:=!(c.aB.any fun w=>!ga w e)
theorem agQ(c:bb)(e:Int)(ap:c.sz<=8388608):ax 18 [.agg c.e,.one (I e)] [.one (B (JM c e))]:=by
 have au:=bb.vf ap;have l:=gv (P:=prog) (c:=(aq f18 0)) c.aB (fun w=>!ga w e) (fun i=>uD (c.aG.nodes.map Node.e) c.aG.aB c.aG.cap (c.aB.map aR.e) (c.b2.map bA.e) (c.tokens.map b4.e) (c.news.map bR.e) e i) (X:=fun _ _=>J7 false) eJ (cI 0)
  (fun i a ai h=>af4 ⟨b3 (aZ ai),bn,bt (aZ ai),bp aR.e ai,Ji a e (bb.vg ap (ee ai)),h,cT (aZ ai) au,ad⟩)
  (fun i a ai h=>af3 ⟨b3 (aZ ai),bn,bt (aZ ai),bp aR.e ai,Ji a e (bb.vg ap (ee ai)),h,ad⟩)
  (af5 ⟨dv,ad⟩)
 unfold JM;rcases l with⟨_,_,U,aa⟩ | ⟨i,a,_,_,_,_,U,aa⟩
 ·rw[U];exact af7 ⟨aa,ad⟩
 rw[U];exact af6 ⟨aa,ad⟩
theorem agR(c:bb)(e:Int)(ap:c.sz<=8388608):ax 17 [.agg c.e,.one (I e)] [.one (B (JM c e))]:=
 afy ⟨an7 c.aB (fun w=>!ga w e) _ _ (bb.vf ap) (by kernel_rfl) (fun x ao=>afz ⟨Ra x e (bb.vg ap ao),ad⟩),ad⟩
def wu(c:bb)(w:Int):List bR:=c.news.filter fun n=>n.dest==w
theorem agS{c:bb}{w:Int}(h:c.sz<=8388608):(wu c w).length<=8388608:=rU (rO ..) (bb.GI h)
theorem agT(c:bb)(w:Int)(ap:c.sz<=8388608):ax 12 [.agg c.e,.one (I w)] [.one (.J 3 ((wu c w).map bR.e))]:=by
 have ao:=bb.GI ap
 let p:=fun r:bR=>r.dest==w
 have l:=eu (P:=prog) (c:=(aq f12 0)) (cI 0) c.news.length (fun i:Nat=>uB (c.aG.nodes.map Node.e) c.aG.aB c.aG.cap (c.aB.map aR.e) (c.b2.map bA.e) (c.tokens.map b4.e) (c.news.map bR.e) w i (((c.news.take i).filter p).map bR.e)) (fun i hi=>by
  obtain⟨a,ai⟩:=cS hi;have b7:=Ci p c.news i;have aj:=yn p ai;by_cases hp:p a=true
  ·rw[bU hp]at aj;rw[aj,gy];exact afV ⟨b3 hi,bn,bt hi,bp bR.e ai,hp,bn,bt hi,bp bR.e ai,by simp;omega,by simp;omega,fG a.flat,cT hi ao,ad⟩
  rw[bE hp,kt]at aj;rw[aj];exact afW ⟨b3 hi,bn,bt hi,bp bR.e ai,D3.2 hp,cT hi ao,ad⟩) (afX ⟨dv,ad⟩)
 rw[jH]at l;exact afY ⟨l,ad⟩
theorem agU(c:bb)(w:Int)(ap:c.sz<=8388608):ax 11 [.agg c.e,.one (I w)] [.one (.J 3 ((wu c w).map bR.e))]:=by
 have ao:=bb.GI ap
 let p:=fun r:bR=>r.dest==w
 have l:=eu (P:=prog) (c:=(aq f11 0)) (cI 0) c.news.length (fun i:Nat=>uC (c.news.map bR.e) w i (((c.news.take i).filter p).map bR.e)) (fun i hi=>by
  obtain⟨a,ai⟩:=cS hi;have b7:=Ci p c.news i;have aj:=yn p ai;by_cases hp:p a=true
  ·rw[bU hp]at aj;rw[aj,gy];exact afZ ⟨b3 hi,bn,bt hi,bp bR.e ai,hp,by simp;omega,by simp;omega,fG a.flat,cT hi ao,ad⟩
  rw[bE hp,kt]at aj;rw[aj];exact af0 ⟨b3 hi,bn,bt hi,bp bR.e ai,D3.2 hp,cT hi ao,ad⟩) (af1 ⟨dv,ad⟩)
 rw[jH]at l;exact af2 ⟨l,ad⟩
end Go.Proofs.YthfnndblgbjniaaGreatDoor
namespace Go.Proofs.YthfnndblgbjniaaGreatDoor
open Go.Sx Go.RowKit Go.Proofs.Tryz
theorem agV{x:aR}{n:bR}:ga (fw x n) n.bh=true:=by
 unfold fw;split
 ·assumption
 unfold ga told;simp
theorem heard{c:bb}{w:Int}(h:(fz c w).2=true):∃(n:bR) (y:aR),(wu c w)[0]?=some n/\(fz c w).1.news.length+1=c.news.length/\0<=w/\(fz c w).1.aB[w.toNat]?=some y/\ga y n.bh=true:=by
 unfold fz at h ⊢;cases b7:c.news.findIdx? (fun n=>n.dest==w) with
 | none=>rw[b7]at h;cases h
 | some k=>
  rw[b7]at h;dsimp only at h ⊢;by_cases bc:cO c=true
  ·rw[bU bc]at h ⊢;obtain⟨U,aa,aA⟩:=ti.1 b7;have a7:c.news[k]?=some c.news[k]:=ih U;rw[a7]at h ⊢;cases ao:db c w with
   | none=>rw[ao]at h;cases h
   | some x=>
    obtain⟨w0,_,hs⟩:=jj ao;refine⟨c.news[k],fw x c.news[k],?_,?_,w0,?_,agV⟩
    ·unfold wu;rw[<-List.head?_eq_getElem?,List.head?_filter,List.find?_eq_some_iff_getElem];exact⟨aa,k,U,rfl,fun j bm=>by simpa using aA j bm⟩
    ·change (cutAt c.news k).length+1=_;unfold cutAt;rw[ku,qm,List.length_drop];omega
    change (c.aB.set w.toNat (fw x c.news[k]))[w.toNat]?=_;rw[l7];simp[aZ hs]
  rw[bE bc]at h;cases h
