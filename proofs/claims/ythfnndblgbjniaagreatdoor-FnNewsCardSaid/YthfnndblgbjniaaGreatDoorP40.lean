import Derived.Test.YthfnndblgbjniaaGreatDoorP21
import Derived.WalkKit
import Derived.Deep.RegionLaw
import Derived.Shelf.RegionOpenPlain
import Derived.Lib.SliceRun
import Derived.Deep.LoopGhost
import Derived.Lib.Walk
set_option linter.unusedVariables false
set_option linter.unusedSimpArgs false
namespace Go.Proofs.YthfnndblgbjniaaGreatDoor
open Go.Sx Go.RowKit Go.Proofs.Tryz
def cutAt{α:Type}(xs:List α)(k:Nat):List α:=xs.take k++xs.drop (k+1)
def Df:aH:=⟨0,⟨0,0⟩,0,0⟩
def k9(xs:List Int)(e d:Int):List Int:=xs.set e.toNat (xs.getD e.toNat 0+d)
def eY(l:bA)(r:aH):bA×Bool:=
 if iw l&&e6 r&&l.eK != 0&&decide (l.fb<1000000000) then (⟨l.cap,l.queue++[r],l.eK-1,l.back,l.fb+1,l.dd⟩,true) else (l,false)
def ef(l:bA):bA×aH×Bool:=
 if iw l then match l.queue with
  | []=>(l,Df,false)
  | r::q=>(⟨l.cap,q,l.eK,l.back+1,l.fb,l.dd+1⟩,r,true)
 else (l,Df,false)
def fR(l:bA):bA×Bool:=
 if iw l&&l.back != 0 then (⟨l.cap,l.queue,l.eK+1,l.back-1,l.fb,l.dd⟩,true) else (l,false)
def fr(g:b1)(w:aR):aR×Bool:=
 if ei g&&eA g w then match w.cn,w.queue with
  | [],r::q=>(⟨q,(ev g w.cells r).2.1,w.cb,(ev g w.cells r).1,w.bN,w.bW,(if dq g r then w.bB.set r.bJ.bh.toNat true else w.bB),w.bx⟩,true)
  | _,_=>(w,false)
 else (w,false)
def fs(g:b1)(w:aR):aR×Bool:=
 if ei g&&eA g w then match w.cn,w.queue,w.cb with
  | [],[],r::t=>(⟨[r],[],t,w.cells,w.bN,w.bW,w.bB,w.bx⟩,true)
  | _,_,_=>(w,false)
 else (w,false)
def ji(w:aR)(t:List aH):aR:=⟨w.queue,t,w.cb,w.cells,w.bN,w.bW,w.bB,w.bx⟩
def kept(w:aR)(r:aH):aR:=⟨w.queue++[r],w.cn,w.cb,w.cells,w.bN,w.bW,w.bB,w.bx⟩
def hR(w:aR)(r:aH):aR:=⟨w.queue++[r],w.cn,w.cb,w.cells,k9 w.bN r.bJ.bh (-1),w.bW.set r.bJ.bh.toNat true,w.bB,w.bx⟩
def l1(w:aR)(e:Int):aR:=⟨w.queue,w.cn,w.cb,w.cells,k9 w.bN e 1,w.bW,w.bB,w.bx⟩
def f'(w:aR)(e:Int):aR:=⟨w.queue,w.cn,w.cb,w.cells,w.bN,w.bW.set e.toNat false,w.bB,w.bx⟩
def told(w:aR)(e:Int)(b:Bool):aR:=⟨w.queue,w.cn,w.cb,w.cells,w.bN,w.bW,w.bB,w.bx++[⟨e,b⟩]⟩
def fw(w:aR)(n:bR):aR:=if ga w n.bh then w else told w n.bh n.dq
def zk(w:aR)(e:Int):Bool:=w.cb.any fun r=>decide (r.bJ.bh<=e)
def Rh(w:aR)(e:Int):Nat:=(o2 e w.queue).length+(o2 e w.cn).length
def kn(w:aR)(e:Int):Bool:=!zk w e&&Rh w e==0
def setW(c:bb)(i:Int)(x:aR):bb:=⟨c.aG,c.aB.set i.toNat x,c.b2,c.tokens,c.news⟩
def dO(c:bb)(i:Int)(l:bA):bb:=⟨c.aG,c.aB,c.b2.set i.toNat l,c.tokens,c.news⟩
def ea(c:bb)(i:Int)(t:b4):bb:=⟨c.aG,c.aB,c.b2,c.tokens.set i.toNat t,c.news⟩
def iA(c:bb)(n:List bR):bb:=⟨c.aG,c.aB,c.b2,c.tokens,n⟩
def db(c:bb)(i:Int):Option aR:=if 0<=i then c.aB[i.toNat]? else none
def gE(c:bb)(i:Int):Option bA:=if 0<=i then c.b2[i.toNat]? else none
def iB(c:bb)(i:Int):Option b4:=if 0<=i then c.tokens[i.toNat]? else none
def eZ(g:b1)(a b:Int):Int:=if av a 0 (g.aB-1)&&av b 0 (g.aB-1) then a*g.aB+b else -1
def ll(c:bb)(w:Int):bb×Bool:=
 if cO c then match db c w with
  | some x=>(setW c w (fr c.aG x).1,(fr c.aG x).2)
  | none=>(c,false)
 else (c,false)
def lm(c:bb)(w:Int):bb×Bool:=
 if cO c then match db c w with
  | some x=>(setW c w (fs c.aG x).1,(fs c.aG x).2)
  | none=>(c,false)
 else (c,false)
def sZ(c:bb)(w:Int)(x:aR)(r:aH)(t:List aH)(o:Int):bb×Bool:=
 if o=w then (setW c w (kept (ji x t) r),true)
 else match gE c (eZ c.aG w o) with
  | some l=>if (eY l r).2 then (setW (dO c (eZ c.aG w o) (eY l r).1) w (l1 (ji x t) r.bJ.bh),true) else (c,false)
  | none=>(c,false)
def ln(c:bb)(w:Int):bb×Bool:=
 if cO c then match db c w with
  | some x=>match x.cn with
   | r::t=>sZ c w x r t (jh r.key c.aG.aB)
   | []=>(c,false)
  | none=>(c,false)
 else (c,false)
def lo(c:bb)(a b:Int):bb×Bool:=
 if cO c&&a != b then match gE c (eZ c.aG a b),db c b with
  | some l,some x=>if (ef l).2.2 then (setW (dO c (eZ c.aG a b) (ef l).1) b (hR x (ef l).2.1),true) else (c,false)
  | _,_=>(c,false)
 else (c,false)
def ko(c:bb)(a b:Int):bb×Bool:=
 if cO c&&a != b then match gE c (eZ c.aG a b) with
  | some l=>(dO c (eZ c.aG a b) (fR l).1,(fR l).2)
  | none=>(c,false)
 else (c,false)
def iT(n:Nat)(e:Int)(b:Bool):List bR:=(List.range n).map fun k:Nat=>⟨(k:Int)+1,e,b⟩
def ft(c:bb)(e:Int)(t:b4)(x:aR):bb×Bool:=
 if kn x e then
  if !t.going then (setW (ea c e ⟨true,(c.aB.length:Int)-1,0,false,x.bB.getD e.toNat false⟩) t.place (f' x e),true)
  else if 0<t.place then
   if av (t.sum+x.bN.getD e.toNat 0) (-1000000) 1000000 then
    (setW (ea c e ⟨true,t.place-1,t.sum+x.bN.getD e.toNat 0,t.bW||x.bW.getD e.toNat false,t.dq||x.bB.getD e.toNat false⟩) t.place (f' x e),true)
   else (c,false)
  else if !t.bW&&!x.bW.getD e.toNat false&&t.sum+x.bN.getD e.toNat 0==0 then
   (iA (setW (ea c e ⟨false,t.place,t.sum,t.bW,t.dq⟩) 0 (told x e (t.dq||x.bB.getD e.toNat false))) (c.news++iT (c.aB.length-1) e (t.dq||x.bB.getD e.toNat false)),true)
  else (ea c e ⟨false,t.place,t.sum,t.bW,t.dq⟩,true)
 else (c,false)
def kp(c:bb)(e:Int):bb×Bool:=
 if cO c&&av e 0 3 then match db c 0,iB c e with
  | some ha,some t=>if ga ha e then (c,false) else match db c t.place with
   | some x=>ft c e t x
   | none=>(c,false)
  | _,_=>(c,false)
 else (c,false)
def fz(c:bb)(w:Int):bb×Bool:=
 match c.news.findIdx? (fun n=>n.dest==w) with
 | some k=>if cO c then match c.news[k]?,db c w with
   | some n,some x=>(iA (setW c w (fw x n)) (cutAt c.news k),true)
   | _,_=>(c,false)
  else (c,false)
 | none=>(c,false)
def eN(c:bb)(p:c'):bb×Bool:=
 if p.kind=1 then ll c p.a else if p.kind=2 then lm c p.a else if p.kind=3 then ln c p.a
 else if p.kind=4 then lo c p.a p.b else if p.kind=5 then ko c p.a p.b else if p.kind=6 then kp c p.a
 else if p.kind=7 then fz c p.a else (c,false)
theorem Ri(g:b1)(w:aR):((fr g w).2=false/\(fr g w).1=w)\/
  ((fr g w).2=true/\∃r q,w.cn=[]/\w.queue=r::q/\(fr g w).1=⟨q,(ev g w.cells r).2.1,w.cb,(ev g w.cells r).1,w.bN,w.bW,(if dq g r then w.bB.set r.bJ.bh.toNat true else w.bB),w.bx⟩):=by
 grind[fr]
theorem Rj(g:b1)(w:aR):((fs g w).2=false/\(fs g w).1=w)\/
  ((fs g w).2=true/\∃r t,w.cn=[]/\w.queue=[]/\w.cb=r::t/\(fs g w).1=⟨[r],[],t,w.cells,w.bN,w.bW,w.bB,w.bx⟩):=by
 grind[fs]
end Go.Proofs.YthfnndblgbjniaaGreatDoor
namespace Go.Proofs.YthfnndblgbjniaaGreatDoor
open Go.Sx Go.RowKit Go.Proofs.Tryz
section
variable {α : Type}
theorem I4{p:α->Bool}{xs:List α}{i:Nat}{x:α}(h:xs.any p=false)(hi:i<xs.length):(xs.set i x).any p=p x:=by
 cases ao:p x with
 | true=>exact rV.2 ⟨x,List.mem_iff_getElem.2 ⟨i,by grind,by simp⟩,ao⟩
 | false=>
  grind
theorem Rk{p:Nat->α->Bool}{x:α}:∀{xs:List α} {k i:Nat},anyI p k xs=false->i<xs.length->anyI p k (xs.set i x)=p (k+i) x
 | [],_,_,_,h=>by simp at h
 | a::xs,k,0,h,_=>by
  simp_all[anyI,gh,List.set_cons_zero,Bool.or_false,mX]
 | a::xs,k,i+1,h,hi=>by
  simp only[anyI,gh]at h;simp only[List.set_cons_succ,anyI,h.1,iU];rw[Rk h.2 (by simpa using hi),show k+1+i=k+(i+1) by omega]
theorem Rl{p:Nat->α->Bool}{xs:List α}(h:∀i a,xs[i]?=some a->p i a=false):anyI p 0 xs=false:=by
 cases ao:anyI p 0 xs with
 | false=>rfl
 | true=>
  obtain⟨i,a,U,aa,_⟩:=H' ao;grind
theorem CV{p:Nat->α->Bool}{xs:List α}(h:anyI p 0 xs=false){i:Nat}{a:α}(ai:xs[i]?=some a):p i a=false:=by
 have:=B5 h i a ai;grind
end
variable{c:bb}
theorem ib:cO c=true<->ei c.aG=true/\(c.aB.length:Int)=c.aG.aB/\(c.b2.length:Int)=c.aG.aB*c.aG.aB/\c.tokens.length=4/\(c.aB.any fun w=>!eA c.aG w)=false/\anyI (ix c.aG) 0 c.b2=false/\c.tokens.any (j2 c.aG.aB)=false/\c.news.any (j3 c.aG.aB)=false:=by
 simp only[cO,cJ,hT,jl]
variable{i:Int}{x:aR}
theorem jj(h:db c i=some x):0<=i/\i.toNat<c.aB.length/\c.aB[i.toNat]?=some x:=by
 grind[db,aZ]
theorem p4{x:bA}(h:gE c i=some x):0<=i/\i.toNat<c.b2.length/\c.b2[i.toNat]?=some x:=by
 grind[gE,aZ]
theorem CW{x:b4}(h:iB c i=some x):0<=i/\i.toNat<c.tokens.length/\c.tokens[i.toNat]?=some x:=by
 grind[iB,aZ]
theorem sq{y:aR}(h:cO c=true)(bO:db c i=some y):cO (setW c i x)=eA c.aG x:=by
 obtain⟨U,aa,aA,aO,a8,bG,b9,da⟩:=ib.1 h;have hi:=(jj bO).2.1;simp only[cO,setW,gz,I4 a8 hi,U,aa,aA,aO,bG,b9,da,rT,n8,tm,n9,Bool.not_not]
theorem I5{x y:bA}(h:cO c=true)(bO:gE c i=some y):cO (dO c i x)=!ix c.aG i.toNat x:=by
 obtain⟨U,aa,aA,aO,a8,bG,b9,da⟩:=ib.1 h;have hi:=(p4 bO).2.1;simp only[cO,dO,gz,Rk bG hi,dL,U,aa,aA,aO,a8,b9,da,rT,n8,tm,n9]
theorem aaR{x y:b4}(h:cO c=true)(bO:iB c i=some y):cO (ea c i x)=!j2 c.aG.aB x:=by
 obtain⟨U,aa,aA,aO,a8,bG,b9,da⟩:=ib.1 h;have hi:=(CW bO).2.1;simp only[cO,ea,gz,I4 b9 hi,U,aa,aA,aO,a8,bG,da,rT,n8,tm,n9]
theorem Rm{x:List bR}(h:cO c=true):cO (iA c x)=!(x.any (j3 c.aG.aB)):=by
 obtain⟨U,aa,aA,aO,a8,bG,b9,da⟩:=ib.1 h;simp only[cO,iA,U,aa,aA,aO,a8,bG,b9,rT,n8,n9]
theorem lp(h:cO c=true)(ao:db c i=some x):eA c.aG x=true:=by
 have a8:=(ib.1 h).2.2.2.2.1;rw[hv]at a8;simpa using a8 x (ee (jj ao).2.2)
theorem zl{x:bA}(h:cO c=true)(ao:gE c i=some x):ix c.aG i.toNat x=false:=
 CV (ib.1 h).2.2.2.2.2.1 (p4 ao).2.2
theorem I6{x:b4}(h:cO c=true)(ao:iB c i=some x):j2 c.aG.aB x=false:=by
 have a8:=(ib.1 h).2.2.2.2.2.2.1;rw[hv]at a8;simpa using a8 x (ee (CW ao).2.2)
theorem rv(ao:db c i=some x):setW c i x=c:=by
 obtain⟨_,aa,aA⟩:=jj ao;have:c.aB.set i.toNat x=c.aB:=by
  grind[fB,List.set_getElem_self]
 simp_all[setW]
theorem aaS{x:bA}(ao:gE c i=some x):dO c i x=c:=by
 obtain⟨_,aa,aA⟩:=p4 ao;have:c.b2.set i.toNat x=c.b2:=by
  grind[fB,List.set_getElem_self]
 simp_all[dO]
variable{g:b1}{w:aR}
theorem iy:eA g w=true<->fv g w.queue=true/\fv g w.cn=true/\fv g w.cb=true/\iS w.cells=true/\w.bN.length=4/\w.bW.length=4/\w.bB.length=4/\anyI (k8 w.cb) 0 w.cb=false/\w.bN.any l0=false/\anyI (kP w.bx) 0 w.bx=false:=by
 simp only[eA,cJ,hT,jl]
variable{r:aH}
theorem sr{q:List aH}:fv g (r::q)=true<->km g r=false/\fv g q=true:=by
 grind[fv,hT,gh]
theorem I7{q:List aH}:fv g (q++[r])=true<->fv g q=true/\km g r=false:=by
 simp only[fv,List.any_append,Am,List.any_nil,Bool.or_false,hT,gh]
theorem aaT{t:List aH}(h:anyI (k8 (r::t)) 0 (r::t)=false):anyI (k8 t) 0 t=false:=by
 refine Rl fun i a ai=>?_
 have k:=CV h (i:=i+1) (a:=a) (by grind);unfold k8 at k ⊢;grind
theorem aaU{xs:List ca}{d:ca}(h:anyI (kP xs) 0 xs=false)(U:av d.bh 0 3=true)(aa:(xs.any fun q=>q.bh==d.bh)=false):anyI (kP (xs++[d])) 0 (xs++[d])=false:=by
 refine Rl fun i a ai=>?_
 by_cases hi:i<xs.length
 ·grind[CV,kP]
 have au:=aZ ai;simp only[ku,gP,dM]at au;have e:i=xs.length:=by omega
 simp_all[ht,Nat.sub_self,kP,UP,jH]
theorem aaV(h:eA g w=true)(aI:km g r=false):eA g (kept w r)=true:=by
 obtain⟨U,aa⟩:=iy.1 h;exact iy.2 ⟨I7.2 ⟨U,aI⟩,aa⟩
theorem I8{t:List aH}(h:eA g w=true)(aj:w.cn=r::t):eA g (ji w t)=true/\km g r=false:=by
 obtain⟨U,aa,aA⟩:=iy.1 h;rw[aj,sr]at aa;exact⟨iy.2 ⟨U,aa.2,aA⟩,aa.1⟩
variable{e:Int}
theorem aaW(h:eA g w=true):eA g (f' w e)=true:=by
 obtain⟨U,aa,aA,aO,a8,bG,b9⟩:=iy.1 h;exact iy.2 ⟨U,aa,aA,aO,a8,by grind[f',gz],b9⟩
theorem Rn{b:Bool}(h:eA g w=true)(he:av e 0 3=true)(aF:ga w e=false):eA g (told w e b)=true:=by
 obtain⟨U,aa,aA,aO,a8,bG,b9,da,dZ,dw⟩:=iy.1 h;exact iy.2 ⟨U,aa,aA,aO,a8,bG,b9,da,dZ,aaU dw he aF⟩
theorem aaX{n:bR}(h:eA g w=true)(he:av n.bh 0 3=true):eA g (fw w n)=true:=by
 unfold fw;cases aF:ga w n.bh with
 | true=>exact h
 | false=>grind[Rn]
theorem Ro{e d:Int}{k:Nat}(h:eA g w=true)(bc:e.toNat=k)(aO:k<4):(k9 w.bN e d).length=4/\(k9 w.bN e d).any l0=l0 (w.bN.getD e.toNat 0+d):=by
 obtain⟨U,aa,aA,_,a8,bG,b9,da,dZ,dw⟩:=iy.1 h;grind[k9,gz,I4]
theorem ss{g:b1}(h:km g r=false):0<=r.bJ.bh/\r.bJ.bh<=3:=by
 simp only[km,e6,h',av,gh,j6,cJ,cW]at h;omega
theorem aaY(h:eA g w=true)(he:0<=e/\e<=3):eA g (l1 w e)=av (w.bN.getD e.toNat 0+1) (-1000000) 1000000:=by
 obtain⟨c6,b8⟩:=Ro (d:=1) h (e:=e) rfl (by omega);obtain⟨U,aa,aA,aO,a8,bG,b9,da,dZ,dw⟩:=iy.1 h;simp only[eA,l1,U,aa,aA,aO,c6,bG,b9,da,dw,b8,l0,rT,n8,tm,n9,Bool.not_not]
theorem aaZ(h:eA g w=true)(aI:km g r=false):eA g (hR w r)=av (w.bN.getD r.bJ.bh.toNat 0+-1) (-1000000) 1000000:=by
 have he:=ss aI;obtain⟨c6,b8⟩:=Ro (d:=-1) h (e:=r.bJ.bh) rfl (by omega);obtain⟨U,aa,aA,aO,a8,bG,b9,da,dZ,dw⟩:=iy.1 h;have aM:=I7.2 ⟨U,aI⟩;simp only[eA,hR,aM,aa,aA,aO,c6,gz,bG,b9,da,dw,b8,l0,rT,n8,tm,n9,Bool.not_not]
theorem aa0(h:eA g w=true):eA g (fs g w).1=true:=by
 unfold fs;split
 ·split
  ·rename_i r t U aa aA;obtain⟨_,_,e9,lQ,iP,mx,jT,nJ,q6,Gv⟩:=iy.1 h;rw[aA]at e9 nJ;exact iy.2 ⟨sr.2 ⟨(sr.1 e9).1,rfl⟩,rfl,(sr.1 e9).2,lQ,iP,mx,jT,aaT nJ,q6,Gv⟩
  exact h
 exact h
theorem aar:∀{xs:List Cell},iS xs=true->∀i a b,xs[i]?=some a->xs[i+1]?=some b->hB a b<0:=by
 intro xs h i a b U aa;simp only[iS,hT,hv]at h;have hm:(a,b)∈xs.zip (xs.drop 1):=by
  refine ee (i:=i) ?_;grind
 simp_all[BZ,cW]
def su(a:Cell):List Int:=[a.bh,a.op,a.key,a.val]
theorem Rp(a b:Cell):hB a b=oe (su a) (su b):=rfl
theorem I9{a b c:Cell}(U:hB a b<0)(aa:hB b c<0):hB a c<0:=by
 rw[Rp] at*;exact QC (su a) (su b) (su c) rfl rfl U aa
theorem aas{a b:Cell}(U:¬hB a b<0)(aa:a≠b):hB b a<0:=by
 rw[Rp] at*;refine Classical.byContradiction fun h=>aa ?_
 have:=QD (su a) (su b) rfl U h;simp only[su,qo,and_true]at this;obtain⟨n4,j4,vh,te⟩:=this;cases a;simp_all
theorem Rq:∀{xs:List Cell},iS xs=true->xs.Pairwise fun a b=>hB a b<0
 | [],_=>List.Pairwise.nil
 | [a],_=>List.pairwise_singleton _ a
 | a::b::xs,h=>by
  have bZ:iS (b::xs)=true:=by
   simp only[iS,List.drop_succ_cons,xb,List.zip_cons_cons,Am,Bool.not_or,cJ]at h ⊢;exact h.2
  have aj:=Rq bZ;have hL:=aar h 0 a b rfl rfl;refine List.Pairwise.cons (fun c ap=>?_) aj;rcases ep.1 ap with rfl | ap
  ·exact hL
  exact I9 hL ((List.pairwise_cons.1 aj).1 c ap)
variable{xs:List Cell}
theorem aat(h:xs.Pairwise fun a b=>hB a b<0):iS xs=true:=by
 simp only[iS,hT,hv];rintro⟨a,b⟩ hp;obtain⟨i,hi⟩:=List.getElem?_of_mem hp;obtain⟨U,aa⟩:=zi hi;have bm:=aZ aa;have:=List.pairwise_iff_getElem.1 h i (i+1) (by omega) bm (by omega);rw[ih (by omega)]at U aa;rw[fB U,fB aa]at this;replace this:hB a b<0:=this;show ¬decide (hB a b>=0)=true;grind
theorem aau(x:Cell)(h:xs.Pairwise fun a b=>hB a b<0):(mN xs x).Pairwise fun a b=>hB a b<0:=by
 unfold mN;split
 ·exact h
 rename_i kh;have ao:∀a∈xs,a≠x:=by
  intro a ai e;exact kh (rV.2 ⟨a,ai,by simp[e]⟩)
 have aw:∀i a,xs[i]?=some a->i<mM xs x->hB a x<0:=by
  intro i a ai hi;unfold mM at hi;cases b7:xs.findIdx? (fun a=>!decide (hB a x<0)) with
  | none=>
   grind
  | some k=>
   rw[b7]at hi;simp only[j5]at hi;rw[ti]at b7;grind
 have ai:∀i a,xs[i]?=some a->mM xs x<=i->hB x a<0:=by
  intro i a ai hi;have bc:mM xs x<xs.length:=by grind
  obtain⟨b,gI⟩:=cS bc;have bV:¬hB b x<0:=by
   unfold mM at gI bc;cases b7:xs.findIdx? (fun a=>!decide (hB a x<0)) with
   | none=>grind
   | some k=>
    rw[b7]at gI;simp only[j5]at gI;rw[ti]at b7;grind
  have atn:=aas bV (ao b (ee gI));rcases Nat.lt_or_eq_of_le hi with bM | heq
  ·have bm:=aZ ai;have:=List.pairwise_iff_getElem.1 h (mM xs x) i bc bm bM;grind[fB,I9]
  grind
 rw[List.pairwise_append];refine⟨h.sublist (List.take_sublist _ _),List.Pairwise.cons (fun c ap=>?_) (h.sublist (List.drop_sublist _ _)),fun a E3 c ap=>?_⟩
 ·obtain⟨i,hi⟩:=List.getElem?_of_mem ap;grind
 obtain⟨i,hi⟩:=List.getElem?_of_mem E3;rw[pk]at hi;split at hi
 ·rename_i bM;have U:=aw i a hi bM;rcases ep.1 ap with rfl | ap
  ·exact U
  obtain⟨j,bm⟩:=List.getElem?_of_mem ap;grind[I9]
 cases hi
theorem aav(kind:Int)(x:Cell)(h:iS xs=true):iS (dN kind xs x).1=true:=by
 have aj:=Rq h;grind[aat,aau,List.filter_sublist,fZ,dN,nW]
theorem aaw{cs:List Cell}(r:aH)(h:iS cs=true):iS (ev g cs r).1=true:=by
 unfold ev;cases gK g r.op with
 | none=>exact h
 | some x=>
  grind[aav,eT]
theorem aax{x:Node}{k v:Int}(ao:aQ x=true)(hi:fQ k v=true):fQ (dJ x k v).1 (dJ x k v).2.1=true:=by
 have x6:=ao;simp only[aQ,cJ]at ao;have ai:=ao.1.1.1.1;have kD:=hi;simp only[fQ,av,cJ,cW]at hi;unfold dJ;rw[x6,kD,Bool.and_self,bU rfl];unfold bQ at ai;split
 ·rename_i aa;rw[bU aa]at ai;simp only[av,cJ,cW]at ai;have au:0<=less (v+x.a) 999/\less (v+x.a) 999<=999:=by grind[less]
  simp_all[fQ,av,cJ,cW]
 rename_i aa;rw[bE aa]at ai;split
 ·rename_i aO;rw[bE (by omega),bU aO]at ai;simp only[av,cJ,cW]at ai;simp only[fQ,av,cJ,cW];grind
 grind
theorem aay(h:ei g=true){op:Int}{x:Node}(a7:gK g op=some x):ia g op.toNat x=false:=by
 simp only[ei,cJ,hT]at h;grind[gK,CV]
theorem Rr(h:ei g=true){op:Int}{x:Node}(a7:gK g op=some x){s:hd}{k v:Int}(aj:h' s=true)(hi:fQ k v=true):fv g (jF x s k v)=true:=by
 have aw:=aay h a7;have ao:=I3 h a7;simp only[aQ,cJ]at ao;simp only[ia,gh]at aw;have he:=aw.2;rw[hv]at he;simp only[fv,jF,List.any_map,hT,hv];intro o a6;have U:=JE ao.2 a6;have aa:=he o a6;simp only[fy,pt,not_or,cW]at aa;simp only[Function.comp,km,e6,U,aj,hi,Bool.and_self,jm,iU,cW];omega
theorem aaz{cs:List Cell}:fv g (ev g cs r).2.1=true:=by
 unfold ev;cases a7:gK g r.op with
 | none=>rfl
 | some x=>
  simp only[eT];split
  ·rename_i ay;rw[cJ]at ay;obtain⟨ay,aI⟩:=ay;have eh:=aI;simp only[e6,cJ]at aI;have ap:=aax (I3 ay a7) aI.2;split
   ·rfl
   split
   ·rfl
   split
   ·cases bZ:(gL r.bJ).2 with
    | false=>rfl
    | true=>
     refine Rr ay a7 ?_ ap;unfold gL at bZ ⊢;split
     ·rename_i U;simp only[cJ,h',av,cW]at U ⊢;omega
     grind
   grind[Rr]
  rfl
theorem aaA(h:eA g w=true):eA g (fr g w).1=true:=by
 unfold fr;split
 ·split
  ·rename_i r q U aa;obtain⟨c6,b8,e9,lQ,iP,mx,jT,nJ,q6,Gv⟩:=iy.1 h;rw[aa,sr]at c6;refine iy.2 ⟨c6.2,aaz,e9,aaw r lQ,iP,mx,?_,nJ,q6,Gv⟩;grind
  exact h
 exact h
end Go.Proofs.YthfnndblgbjniaaGreatDoor
namespace Go.Proofs.YthfnndblgbjniaaGreatDoor
open Go.Sx Go.RowKit Go.Proofs.Tryz
variable{l:bA}
theorem sv:iw l=true<->av l.cap 1 4=true/\av l.eK 0 l.cap=true/\av l.back 0 l.cap=true/\l.eK+l.back+l.queue.length=l.cap/\av l.fb 0 1000000000=true/\0<=l.dd/\l.dd=l.fb-l.queue.length/\(l.queue.any fun r=>!e6 r)=false:=by
 simp only[iw,cJ,hT,jl,cW,and_assoc]
variable{g:b1}
theorem wP{i:Nat}:ix g i l=false<->iw l=true/\l.cap=g.cap/\fv g l.queue=true/\((i:Int).tdiv g.aB=(i:Int).tmod g.aB->l.queue=[]):=by
 simp only[ix,gh,j6,bne_eq_false_iff_eq,Bool.and_eq_false_imp,jl,n'];simp_all
variable{r:aH}
theorem ab3{i:Nat}(h:ix g i l=false)(aI:km g r=false)(aj:(eY l r).2=true)(aF:(i:Int).tdiv g.aB≠(i:Int).tmod g.aB):ix g i (eY l r).1=false:=by
 obtain⟨U,aa,aA,aO⟩:=wP.1 h;unfold eY at aj ⊢;split
 ·rename_i ap;simp only[cJ,bne_iff_ne,l',cW]at ap;obtain⟨⟨⟨_,lO⟩,nu⟩,MR⟩:=ap;obtain⟨c6,b8,e9,lQ,iP,mx,jT,nJ⟩:=sv.1 U;refine wP.2 ⟨sv.2 ⟨c6,?_,e9,?_,?_,mx,?_,?_⟩,aa,I7.2 ⟨aA,aI⟩,fun e=>(aF e).elim⟩
  ·simp only[av,cW]at b8 ⊢;omega
  ·grind
  ·simp only[av,cW]at iP ⊢;omega
  ·grind
  grind
 grind
theorem I'{i:Nat}(h:ix g i l=false)(aj:(ef l).2.2=true):ix g i (ef l).1=false/\km g (ef l).2.1=false:=by
 obtain⟨U,aa,aA,aO⟩:=wP.1 h;obtain⟨c6,b8,e9,lQ,iP,mx,jT,nJ⟩:=sv.1 U;unfold ef at aj ⊢;rw[bU U]at aj ⊢;split
 ·grind
 rename_i r q aM;rw[aM]at aA nJ lQ jT aO;rw[sr]at aA;rw[Am,gh]at nJ;simp only[gP]at lQ jT;refine⟨wP.2 ⟨sv.2 ⟨c6,b8,?_,?_,iP,?_,?_,nJ.2⟩,aa,aA.2,fun e=>absurd (aO e) (by simp)⟩,aA.1⟩
 ·simp only[av,cW]at b8 e9 ⊢;omega
 ·grind
 ·grind
 grind
theorem ab4{i:Nat}(h:ix g i l=false):ix g i (fR l).1=false:=by
 obtain⟨U,aa,aA,aO⟩:=wP.1 h;obtain⟨c6,b8,e9,lQ,iP,mx,jT,nJ⟩:=sv.1 U;unfold fR;split
 ·rename_i ap;simp only[cJ,bne_iff_ne,l']at ap;refine wP.2 ⟨sv.2 ⟨c6,?_,?_,?_,iP,mx,jT,nJ⟩,aa,aA,aO⟩
  ·simp only[av,cW]at b8 e9 ⊢;omega
  ·simp only[av,cW]at b8 e9 ⊢;omega
  grind
 exact h
theorem Ja{a b:Int}(a7:1<=g.aB/\g.aB<=4)(ai:av a 0 (g.aB-1)=true)(aw:av b 0 (g.aB-1)=true):
  eZ g a b=a*g.aB+b/\0<=a*g.aB+b/\a*g.aB+b<g.aB*g.aB/\(a*g.aB+b).tdiv g.aB=a/\(a*g.aB+b).tmod g.aB=b:=by
 have e:eZ g a b=a*g.aB+b:=by grind[eZ]
 simp only[av,cW]at ai aw;generalize g.aB=n at*;have bV:0<=a*n+b:=by have:=Int.mul_nonneg ai.1 (show 0<=n by omega);omega
 rw[Int.tdiv_eq_ediv_of_nonneg bV,Int.tmod_eq_emod_of_nonneg bV];have A9:n=1\/n=2\/n=3\/n=4:=by omega
 grind
variable{b:Int}
theorem zm{a:Int}(h:(av a 0 (g.aB-1)&&av b 0 (g.aB-1))=false):eZ g a b=-1:=by
 grind[eZ]
variable{n:Int}
theorem ab5(key:Int)(a7:1<=n):av (jh key n) 0 (n-1)=true:=by
 have U:=Qa key n (by omega);have aa:=Int.tmod_lt_of_pos key (show 0<n by omega);unfold jh;rw[bE (by omega)];simp only[av,cW];grind
variable{c:bb}
theorem Jb(h:cO c=true){a:Int}(ai:av a 0 (c.aG.aB-1)=true)(aw:av b 0 (c.aG.aB-1)=true):∃l,gE c (eZ c.aG a b)=some l:=by
 obtain⟨U,aa,aA,_⟩:=ib.1 h;obtain⟨e,bV,bM,_⟩:=Ja (mQ U) ai aw;simp_all[gE,bU,cS]
variable{i:Int}
theorem ab6(h:gE c i=some l):((i.toNat:Nat):Int)=i:=by have:=(p4 h).1;omega
theorem CX{c:bb}{i:Int}(bV:0<=i)(U:i<c.aB.length):∃x,db c i=some x:=by
 simp_all[db,bU,cS]
variable{e:Int}
theorem ab7(h:cO c=true)(he:av e 0 3=true):∃t,iB c e=some t:=by
 have aO:=(ib.1 h).2.2.2.1;simp only[av,cW]at he;unfold iB;rw[bU he.1];exact cS (by omega)
variable{t:b4}
theorem wQ:j2 n t=false<->(0<=t.place/\t.place<=n-1)/\(t.going=false->t.place=0)/\(-1000000<=t.sum/\t.sum<=1000000):=by
 simp only[j2,av,gh,j6,cW,Bool.and_eq_false_imp,hT,bne_eq_false_iff_eq]
theorem zn{j:Int}:db (dO c i l) j=db c j:=rfl
theorem zo{j:Int}:db (ea c i t) j=db c j:=rfl
theorem Rs:(dO c i l).aG=c.aG:=rfl
theorem Rt:(ea c i t).aG=c.aG:=rfl
variable{x:aR}
theorem ab8:(setW c i x).aG=c.aG:=rfl
theorem ab9{w o:Int}{t:List aH}(h:cO c=true)(ao:db c w=some x)(aj:x.cn=r::t)
  (a6:av o 0 (c.aG.aB-1)=true) (c1:o≠w) (au:gE c (eZ c.aG w o)=some l) (hsend:(eY l r).2=true):
  cO (setW (dO c (eZ c.aG w o) (eY l r).1) w (l1 (ji x t) r.bJ.bh))=av (x.bN.getD r.bJ.bh.toNat 0+1) (-1000000) 1000000:=by
 obtain⟨U,aa,_⟩:=ib.1 h;obtain⟨w0,w1,_⟩:=jj ao;obtain⟨ok,aI⟩:=I8 (lp h ao) aj;obtain⟨e,ki,GU,Xr,atE⟩:=Ja (mQ U) (a:=w) (b:=o) (by simp only[av,cW];omega) a6;have cz:cO (dO c (eZ c.aG w o) (eY l r).1)=true:=by
  grind[I5,ab3,zl,ab6]
 rw[sq cz (zn.trans ao),Rs,aaY ok (ss aI)];rfl
theorem aca{w:Int}{t:List aH}(h:cO c=true)(ao:db c w=some x)(aj:x.cn=r::t):cO (setW c w (kept (ji x t) r))=true:=by
 grind[I8,lp,sq,aaV]
theorem acb{k:Int}(h:cO c=true)(au:gE c k=some l)(ao:db c b=some x)(bZ:(ef l).2.2=true):
  cO (setW (dO c k (ef l).1) b (hR x (ef l).2.1))=av (x.bN.getD (ef l).2.1.bJ.bh.toNat 0+-1) (-1000000) 1000000:=by
 obtain⟨c6,b8⟩:=I' (zl h au) bZ;have cz:cO (dO c k (ef l).1)=true:=by grind[I5]
 rw[sq cz (zn.trans ao),Rs,aaZ (lp h ao) b8]
theorem acd{c:bb}{w:Int}(h:cO c=true):cO (ll c w).1=true:=by
 unfold ll;rw[bU h];grind[sq,aaA,lp]
theorem ace{c:bb}{w:Int}(h:cO c=true):cO (lm c w).1=true:=by
 unfold lm;rw[bU h];grind[sq,aa0,lp]
theorem acf{c:bb}{a b:Int}(h:cO c=true):cO (ko c a b).1=true:=by
 grind[ko,I5,ab4,zl]
theorem Ru{b:Bool}{m:Nat}(hm:(m:Int)=n-1)(he:av e 0 3=true):(iT m e b).any (j3 n)=false:=by
 rw[hv];intro x ao;simp only[iT,kX,List.mem_range]at ao;obtain⟨k,bc,rfl⟩:=ao;have U:av ((k:Int)+1) 0 (n-1)=true:=by simp only[av,cW];omega
 simp_all[j3,jm,Bool.or_false,ql,not_false_eq_true]
theorem acg{ha:aR}(h:cO c=true)(he:av e 0 3=true)(bZ:iB c e=some t)(ao:db c t.place=some x)(bV:db c 0=some ha)(aF:ga ha e=false):cO (ft c e t x).1=true:=by
 obtain⟨U,aa,aA,aO,a8,bG,b9,da⟩:=ib.1 h;have a7:=mQ U;obtain⟨t1,t2,t3⟩:=wQ.1 (I6 h bZ);have ok:=lp h ao;have S7:∀di:b4,j2 c.aG.aB di=false->cO (ea c e di)=true:=fun di k=>by grind[aaR]
 have both:∀di:b4,j2 c.aG.aB di=false->cO (setW (ea c e di) t.place (f' x e))=true:=fun di k=>by
  rw[sq (S7 di k) (zo.trans ao),Rt,aaW ok]
 unfold ft;split
 ·split
  ·exact both _ (wQ.2 ⟨by grind,by simp,by simp⟩)
  rename_i ay;split
  ·split
   ·rename_i hp aI;simp only[av,cW]at aI;exact both _ (wQ.2 ⟨by grind,by simp,aI⟩)
   exact h
  rename_i hp;have bD:t.place=0:=by omega
  have Na:=S7 ⟨false,t.place,t.sum,t.bW,t.dq⟩ (wQ.2 ⟨t1,fun _=>bD,t3⟩);split
  ·rw[bD]at ao;have ato:ha=x:=by grind
   have kw:cO (setW (ea c e ⟨false,t.place,t.sum,t.bW,t.dq⟩) 0 (told x e (t.dq||x.bB.getD e.toNat false)))=true:=by
    rw[sq Na (zo.trans ao),Rt];grind[Rn]
   rw[Rm kw,List.any_append];have e1:(setW (ea c e ⟨false,t.place,t.sum,t.bW,t.dq⟩) 0 (told x e (t.dq||x.bB.getD e.toNat false))).aG=c.aG:=rfl;grind[Ru]
  exact Na
 exact h
theorem ach{c:bb}{e:Int}(h:cO c=true):cO (kp c e).1=true:=by
 unfold kp;split
 ·rename_i ap;rw[cJ]at ap;grind[acg]
 exact h
theorem Rv{k:Nat}{n:bR}(h:cO c=true)(a7:c.news[k]?=some n):j3 c.aG.aB n=false:=by
 have da:=(ib.1 h).2.2.2.2.2.2.2;grind
theorem aci{α:Type}{p:α->Bool}{xs:List α}{k:Nat}(h:xs.any p=false):(cutAt xs k).any p=false:=by
 rw[hv]at h ⊢;intro a ai;rcases lv.1 ai with ai | ai
 ·grind
 grind
theorem acj{c:bb}{w:Int}(h:cO c=true):cO (fz c w).1=true:=by
 unfold fz;split
 ·rw[bU h];split
  ·rename_i n x a7 ao;have aw:=Rv h a7;simp only[j3,gh,j6]at aw;have kw:cO (setW c w (fw x n))=true:=by grind[sq,aaX,lp]
   rw[Rm kw,ab8,aci (ib.1 h).2.2.2.2.2.2.2];rfl
  exact h
 exact h
theorem ux{α:Type}{sz:α->Nat}{y:α}(x:α):∀{xs:List α} {i:Nat},xs[i]?=some y->eO sz (xs.set i x)+sz y=eO sz xs+sz x
 | [],i,h=>by simp at h
 | a::xs,0,h=>by
  grind[eO,gP]
 | a::xs,i+1,h=>by
  have:=ux (sz:=sz) x (xs:=xs) (i:=i) (by simpa using h);simp only[eO,List.set_cons_succ,gP,lu,Aq]at this ⊢;omega
theorem sw{c:bb}{x y:aR}(h:db c i=some y):(setW c i x).sz+y.sz=c.sz+x.sz:=by
 have:=ux (sz:=aR.sz) x (jj h).2.2;grind[setW,bb.sz]
theorem Jc{x y:bA}(h:gE c i=some y):(dO c i x).sz+y.sz=c.sz+x.sz:=by
 have:=ux (sz:=bA.sz) x (p4 h).2.2;grind[dO,bb.sz]
theorem CY{x:b4}:(ea c i x).sz=c.sz:=by
 grind[ea,bb.sz,gz]
theorem Rw{c:bb}{x:List bR}:(iA c x).sz+c.news.length=c.sz+x.length:=by
 grind[iA,bb.sz]
theorem Rx(g:b1)(w:aR):(fr g w).1.sz<=w.sz+2:=by
 unfold fr;split
 ·rename_i ap;rw[cJ]at ap;split
  ·grind[aaQ,aR.sz,gP,dM,gz]
  grind
 grind
theorem Ry(g:b1)(w:aR):(fs g w).1.sz<=w.sz:=by
 unfold fs;split
 ·split
  ·grind[aR.sz,gP,dM]
  grind
 grind
theorem Rz{w:aR}{t:List aH}(h:w.cn=r::t):(ji w t).sz+1=w.sz:=by
 grind[ji,aR.sz,gP]
theorem ack(w:aR)(r:aH):(kept w r).sz=w.sz+1:=by
 grind[kept,aR.sz,ku,gP,dM]
theorem acm(w:aR)(e:Int):(l1 w e).sz=w.sz:=by
 grind[l1,k9,aR.sz,gz]
theorem RA(w:aR)(r:aH):(hR w r).sz=w.sz+1:=by
 simp only[hR,k9,aR.sz,gz,ku,gP,dM];omega
theorem acn(w:aR)(e:Int):(f' w e).sz=w.sz:=by
 grind[f',aR.sz,gz]
theorem RB(w:aR)(e:Int)(b:Bool):(told w e b).sz=w.sz+1:=by
 grind[told,aR.sz,ku,gP,dM]
theorem aco(w:aR)(n:bR):(fw w n).sz<=w.sz+1:=by
 grind[fw,RB]
theorem RC(l:bA)(r:aH):(eY l r).1.sz<=l.sz+1:=by
 grind[eY,bA.sz]
theorem QO(l:bA):(ef l).1.sz<=l.sz:=by
 unfold ef;split
 ·split
  ·grind
  grind[bA.sz]
 grind
theorem QP(l:bA):(fR l).1.sz=l.sz:=by
 unfold fR;split<;>rfl
theorem acp{α:Type}(xs:List α)(k:Nat):(cutAt xs k).length<=xs.length:=by
 grind[cutAt,ku,qm,List.length_drop]
theorem acq(hw:c.aB.length<=4)(ao:db c t.place=some x)(bV:0<=t.place):(ft c e t x).1.sz<=c.sz+4:=by
 unfold ft;have w1:∀di,(setW (ea c e di) t.place (f' x e)).sz+x.sz=c.sz+x.sz:=fun di=>by
  have:=sw (c:=ea c e di) (x:=f' x e) (zo.trans ao);grind[CY,acn]
 split
 ·split
  ·grind
  split
  ·grind
  rename_i hp;have bD:t.place=0:=by omega
  split
  ·rw[bD]at ao;have a:=sw (c:=ea c e ⟨false,t.place,t.sum,t.bW,t.dq⟩) (x:=told x e (t.dq||x.bB.getD e.toNat false)) (zo.trans ao);rw[CY,RB]at a;have b:=Rw (c:=setW (ea c e ⟨false,t.place,t.sum,t.bW,t.dq⟩) 0 (told x e (t.dq||x.bB.getD e.toNat false))) (x:=c.news++iT (c.aB.length-1) e (t.dq||x.bB.getD e.toNat false));have d:(setW (ea c e ⟨false,t.place,t.sum,t.bW,t.dq⟩) 0 (told x e (t.dq||x.bB.getD e.toNat false))).news=c.news:=rfl;grind[ku,iT,cr,xc]
  grind[CY]
 grind
theorem acr(h:cO c=true):c.aB.length<=4:=by
 obtain⟨U,aa,_⟩:=ib.1 h;have:=mQ U;omega
theorem QQ(c:bb)(p:c'):(eN c p).1.sz<=c.sz+4:=by
 have dE:c.sz<=c.sz+4:=by omega
 unfold eN;split
 ·grind[ll,sw,fr,Rx]
 split
 ·grind[lm,sw,fs,Ry]
 split
 ·unfold ln;split
  ·split
   ·rename_i x ao;split
    ·rename_i r t aj;have hu:=Rz aj;unfold sZ;split
     ·grind[sw,kept,ji,ack]
     split
     ·rename_i l au;split
      ·have a:=Jc (x:=(eY l r).1) au;have b:=sw (c:=dO c (eZ c.aG p.a (jh r.key c.aG.aB)) (eY l r).1) (x:=l1 (ji x t) r.bJ.bh) (zn.trans ao);grind[acm,RC]
      exact dE
     exact dE
    exact dE
   exact dE
  exact dE
 split
 ·unfold lo;split
  ·split
   ·rename_i l x au ao;split
    ·have a:=Jc (x:=(ef l).1) au;have b:=sw (c:=dO c (eZ c.aG p.a p.b) (ef l).1) (x:=hR x (ef l).2.1) (zn.trans ao);grind[RA,QO]
    exact dE
   exact dE
  exact dE
 split
 ·grind[ko,Jc,fR,QP]
 split
 ·unfold kp;split
  ·rename_i ap;rw[cJ]at ap;grind[acq,acr,jj]
  exact dE
 split
 ·unfold fz;split
  ·rename_i k bc;split
   ·split
    ·rename_i n x a7 ao;have a:=sw (x:=fw x n) ao;grind[Rw,setW,fw,cutAt,aco,acp]
    exact dE
   exact dE
  exact dE
 exact dE
end Go.Proofs.YthfnndblgbjniaaGreatDoor
namespace Go.Proofs.YthfnndblgbjniaaGreatDoor
open Go.Sx Go.RowKit Go.Shelf Go.Lib Go.Proofs.Tryz
theorem acs{P:Program}{ops:Array Oper}{o:Oper}{a:Act}{w:World}{K:Act->World->Prop}{Q:Exit->Act->World->Prop}{E:Prop}
  (ay:o.guard=none) (x y:Operand) (Td ty:TypeId) (qT:o.op=Op.call { callee:=Callee.builtin Builtin.append,args:=#[x,y],argTypes:=#[Td,ty] })
  (v u:Value) (ao:a.eval x=v) (bO:a.eval y=u) {wZ:Value} {aP:World} (aI:(Builtin.append_ #[Td,ty] o.type #[v,u]).run P w=.ok wZ aP) (ii:K (a.put o.dst wZ) aP):
  if Region.wanted o (yielded ops a.tmps)=true then Oper.wp P o a w K Q else E:=by
 have hw:Region.wanted o (yielded ops a.tmps)=true:=by simp[Region.wanted,ay]
 rw[bU hw];unfold Oper.wp;simp[execOp,qT,resolve,invoke,builtin,ao,bO,aI,Result.andThen];exact ii
theorem QR{arr:Array Value}{p m j:Nat}{v:Value}(h:((arr.toList.drop p).take m)[j]?=some v):arr[p+j]?=some v/\j<m:=by
 rw[pk]at h;split at h
 ·rw[th,vj]at h;exact⟨h,‹_›⟩
 cases h
theorem cell_of_heap{w:World}{b:Nat}{arr:Array Value}{tb:TypeId}(aw:w.heap[b]?=some (.cells arr tb (0,0))){x:Nat}{v:Value}(h:arr[x]?=some v):w.cell? ⟨b,x,none⟩=some v:=by
 simp[World.cell?,aw,h]
set_option maxHeartbeats 4000000 in
set_option maxRecDepth 1000000 in
theorem acu(b off n cap i j:Nat)(arr:Array Value)(tb:TypeId)(w:World)(aw:w.heap[b]?=some (.cells arr tb (0,0)))(a7:n<=cap)(ez:off+cap*3<=arr.size)(nz:i<j)(bm:j<=n)
  (U:∀x v,off<=x->x<off+n*3->arr[x]?=some v->v.oneCell'=true):
  Calls prog 42 #[.slice (some ⟨b,off,none⟩) n cap,.int .i64 i,.int .i64 j] w fun e aP=>e=.returned (.slice (some ⟨b,off,none⟩) (i+(n-j)) cap)/\
   ∃zs:List Value,zs.length=(n-(i+(n-j)))*3/\aP=(w.drew.setRow b (laid arr (off+i*3) ((arr.toList.drop (off+j*3)).take ((n-j)*3)))).setRow b (laid (laid arr (off+i*3) ((arr.toList.drop (off+j*3)).take ((n-j)*3))) (off+(i+(n-j))*3) zs):=by
 obtain⟨news,iL⟩:∃news,news=(arr.toList.drop (off+j*3)).take ((n-j)*3):=⟨_,rfl⟩
 have qS:news.length=(n-j)*3:=by rw[iL];simp;omega
 have A8:∀u∈news,u.oneCell'=true:=by
  intro u hu;obtain⟨x,ao⟩:=pr.1 hu;rw[iL]at ao;obtain⟨aa,aA⟩:=QR ao;exact U _ u (by omega) (by omega) aa
 rw[<-iL];obtain⟨j8,E1⟩:∃j8,j8=laid arr (off+i*3) news:=⟨_,rfl⟩
 have qZ:j8.size=arr.size:=by rw[E1];exact Cu (by omega)
 obtain⟨tv,AW⟩:∃tv,tv=w.drew.setRow b j8:=⟨_,rfl⟩
 have hh:tv.heap[b]?=some (.cells j8 tb (0,0)):=by rw[AW];exact setRow_heap w.drew b arr j8 tb (0,0) aw
 obtain⟨zs,kH,xJ⟩:=NW (P:=prog) tv 30 56 0 _ (by kernel_rfl) (by rfl) b (off+(i+(n-j))*3) (n-(i+(n-j))) (cap-(i+(n-j))) j8 tb hh (by show off+(i+(n-j))*3+(n-(i+(n-j)))*3<=j8.size;omega) (by decide);rw[bE (by omega)]at xJ;obtain⟨Es,E2⟩:∃Es,Es=tv.setRow b (laid j8 (off+(i+(n-j))*3) zs):=⟨_,rfl⟩
 rw[<-E2]at xJ;have eL:(prog.info? 56).map (·.size)=some 3:=by kernel_rfl
 have kG:prog.underlying 30=some (.slice 56):=by kernel_rfl
 have sa:∀ty,(Builtin.append_ #[30,30] ty #[.slice (some ⟨b,off,none⟩) i cap,.slice (if cap=j then some ⟨b,off,none⟩ else some ⟨b,off+j*3,none⟩) (n-j) (cap-j)]).run prog w.drew=.ok (.slice (some ⟨b,off,none⟩) (i+(n-j)) cap) tv:=by
  intro ty;cases hi:prog.info? 56 with
  | none=>rw[hi]at eL;cases eL
  | some i0=>
   rw[hi]at eL;have a8:i0.size=3:=by simpa using eL
   have key:∀cl:Addr,(∀x u,news[x]?=some u->w.drew.cell? (cl.add x)=some u)->(Builtin.append_ #[30,30] ty #[.slice (some ⟨b,off,none⟩) i cap,.slice (some cl) (n-j) (cap-j)]).run prog w.drew=.ok (.slice (some ⟨b,off,none⟩) (i+(n-j)) cap) tv:=by
    intro cl E4;have:=Hw (P:=prog) (t:=30) (ty:=ty) kG hi w.drew b off i cap arr tb aw cl (n-j) (cap-j) news (by rw[qS,a8]) E4 A8 (by omega) (by rw[a8];omega);rw[this,AW,E1,a8];rfl
   split
   ·refine key _ fun x u ao=>?_
    have bV:news.length=0:=by rw[qS];have:n-j=0:=(by omega);rw[this]
    rw[List.length_eq_zero_iff.1 bV]at ao;simp at ao
   refine key _ fun x u ao=>?_
   rw[iL]at ao;obtain⟨aa,_⟩:=QR ao;rw[Addr.add_lit];exact cell_of_heap (w:=w.drew) aw aa
 have X:Aside (Es=(w.drew.setRow b j8).setRow b (laid j8 (off+(i+(n-j))*3) zs)):=by rw[E2,AW];trivial
 have asI:i+(n-j)<n:=by omega
 have as0:i<=cap:=by omega
 have as3:j<=cap:=by omega
 have mixed:prog.follows .mixedOrders=true:=by kernel_rfl
 clear AW E2 hh aw iL qS A8 qZ eL kG U
 go_enter func42,Tryz.ntmps42
 go_wp2_with fail
 go_region_law_o (refine acs rfl (.tmp 22) (.tmp 25) 30 30 rfl _ _ (by simp[Act.eval,Act.put]) (by simp[Act.eval,Act.put]) (sa _) ?_)
 go_wp2
 all_goals (go_ret;exact⟨rfl,zs,kH,by rw[<-E1];exact X⟩)
theorem bR.EC(xs:List bR):xs.map bR.e=gU (xs.map fun r=>r.e.map D.KJ):=by
 simp only[gU,List.map_map];rfl
theorem acv(es:List (List Value))(i j:Nat)(nz:i<j)(bm:j<=es.length):px prog 42 [.one (.fM 3 (gU es) none),.one (.ro (I i)),.one (.ro (I j))] [.one (.J 3 (gU (es.take i++es.drop j)))]:=by
 rintro w vs ω ⟨ay,a7,ai⟩ oG;obtain⟨y,bO,jv⟩:=ai 0 _ rfl;obtain⟨mV,gq,WM⟩:=ai 1 _ rfl;obtain⟨l6,eV,WN⟩:=ai 2 _ rfl;have e1:mV=.int .i64 i:=bS.AR WM;have e2:l6=.int .i64 j:=bS.AR WN;subst e1;subst e2;have nE:=U3 a7 bO gq eV;subst nE;rcases ay.row jv with⟨rfl,_⟩ | ⟨b,off,cap,arr,tb,c8,rfl,aI⟩
 ·simp at bm;omega
 have qU:ω b≠.bz:=by rw[c8];simp
 have qY:=aI.room;have ez:=aI.fit;have U:∀x v,off<=x->x<off+es.length*3->arr[x]?=some v->v.oneCell'=true:=by
  intro x v atm iO br;have bM:(x-off) / 3<es.length:=by omega
  have he:=ih bM;have hlen:=aI.len _ (rQ bM);have ju:(x-off) % 3<(es[(x-off) / 3]).length:=by omega
  have:=aI.cell _ _ _ _ he (ih ju);rw[show off+(x-off) / 3*3+(x-off) % 3=x by omega,br]at this;rw[fB this];exact aI.one _ (rQ bM) _ (rQ ju)
 refine (acu b off es.length cap i j arr tb w aI.heap qY ez nz bm U).mono ?_;rintro e aP ⟨rfl,zs,Bl,rfl⟩;obtain⟨news,iL⟩:∃news,news=(arr.toList.drop (off+j*3)).take ((es.length-j)*3):=⟨_,rfl⟩
 rw[<-iL];have qS:news.length=(es.length-j)*3:=by rw[iL];simp;omega
 have nA:off+i*3+news.length<=arr.size:=by omega
 have qZ:=Cu nA;have c2:off+(i+(es.length-j))*3+zs.length<=(laid arr (off+i*3) news).size:=by omega
 have A6:(es.take i++es.drop j).length=i+(es.length-j):=by simp;omega
 have cz:Ej w ((w.drew.setRow b (laid arr (off+i*3) news)).setRow b (laid (laid arr (off+i*3) news) (off+(i+(es.length-j))*3) zs)) (fun b=>ω b≠.bz) 3 (es.take i++es.drop j) (.slice (some ⟨b,off,none⟩) (i+(es.length-j)) cap):=by
  refine⟨ajE qU _ _,.inr ⟨b,off,cap,_,tb,.inl qU,by rw[A6],?_,by omega,by rw[Cu c2,qZ];exact ez,?_,?_,?_⟩⟩
  ·exact setRow_heap _ b _ _ tb (0,0) (setRow_heap w.drew b arr _ tb (0,0) aI.heap)
  ·intro e he;rcases lv.1 he with h | h
   ·exact aI.len e (vk h)
   exact aI.len e (Aj h)
  ·intro e he;rcases lv.1 he with h | h
   ·exact aI.one e (vk h)
   exact aI.one e (Aj h)
  intro x y e v ao br;have k7:=(fA.1 ao).1;rw[A6]at k7;have bO:y<3:=by
   have aa:=(fA.1 br).1;have:e.length=3:=by
    have:=fe ao;rcases lv.1 this with h | h
    ·exact aI.len e (vk h)
    exact aI.len e (Aj h)
   omega
  rw[Cv c2,bE (by omega),Cv nA];by_cases WW:x<i
  ·rw[bE (by omega)];refine aI.cell x y e v ?_ br;rwa[D5 (by simp;omega),pk,bU WW]at ao
  rw[bU (by omega),iL,pk,bU (by omega),th,vj];have:(es.take i).length=i:=by simp;omega
  rw[D4 (by omega),this,th]at ao;have:=aI.cell (j+(x-i)) y e v ao br;rw[<-this]
  congr 1
  omega
 obtain⟨a',aa,aA,aO⟩:=cz.res;refine⟨_,rfl,cz.U5.full oG,a',aa,aA,ajD ?_,aO⟩;intro fj jw eD k du cq kC ap
 match fj with
 | 0=>simp at kC;subst kC;simp only[GA.cell]at ap;split at ap<;>simp at ap
 | 1=>simp at kC;subst kC;simp only[GA.cell]at ap;split at ap<;>simp at ap
 | 2=>simp at kC;subst kC;simp only[GA.cell]at ap;split at ap<;>simp at ap
 | _+3=>simp at kC
theorem abD(xs:List bR)(i j:Nat)(nz:i<j)(bm:j<=xs.length):px prog 42 [.one (.fM 3 (xs.map bR.e) none),.one (.ro (I i)),.one (.ro (I j))] [.one (.J 3 ((xs.take i++xs.drop j).map bR.e))]:=by
 have:=acv (xs.map fun r=>r.e.map D.KJ) i j nz (by simpa using bm);rw[bR.EC,bR.EC];simpa using this
end Go.Proofs.YthfnndblgbjniaaGreatDoor
namespace Go.Proofs.YthfnndblgbjniaaGreatDoor
open Go.Sx Go.RowKit Go.Proofs.Tryz
def kQ(c:bb)(b:Bool):List D:=[.J 4 (c.aG.nodes.map Node.e),I c.aG.aB,I c.aG.cap,.J 8 (c.aB.map aR.e),.J 6 (c.b2.map bA.e),.J 5 (c.tokens.map b4.e),.J 3 (c.news.map bR.e),B b]
abbrev e7(c:bb):List D:=kQ c (cO c)
theorem QS(w:aR)(e:Int)(r:Bool)(h:ga w e=r)(hw:w.sz<=8388608):ax 43 [.agg w.e,.one (I e)] [.one (B r)]:=h▸Ra w e hw
theorem CZ(c:bb)(ap:c.sz<=8388608)(hw:gi c):bP prog 44 [.ro (.agg c.e)] (.new (e7 c)):=
 ac7 ⟨acZ c ap,Zy c ap hw,ad⟩
variable{i:Nat}
theorem Jd{α:Type}{f:α->List D}{xs:List α}{a:α}:(xs.map f).set i (f a)=(xs.set i a).map f:=List.map_set.symm
variable{c:bb}{x:aR}
theorem o5{i:Int}(h:db c i=some x):0<=i/\i<(↑(c.aB.map aR.e).length:Int)/\(c.aB.map aR.e)[i.toNat]?=some x.e:=by
 obtain⟨U,aa,aA⟩:=jj h;exact⟨U,by rw[cr];omega,bK aR.e aA⟩
theorem ry{i:Int}(h:db c i=some x)(ap:c.sz<=8388608):x.sz<=8388608:=bb.Dq ap (ee (jj h).2.2)
theorem abE{l:List bR}(hi:i<l.length):([]++((l.map bR.e).drop 0).take (((some (i:Int)).getD (↑(l.map bR.e).length:Int)).toNat-0)++((l.map bR.e).drop ((some ((i:Int)+1)).getD 0).toNat).take ((l.map bR.e).length-((some ((i:Int)+1)).getD 0).toNat))=(cutAt l i).map bR.e:=by
 have e1:((i:Int)+1).toNat=i+1:=by omega
 simp only[cutAt,j5,po,Nat.sub_zero,xb,List.nil_append,e1,gy,tk,List.map_drop]
 congr 1
 rw[D6 (by simp)]
theorem QT{l:List bR}:((l.map bR.e).drop ((some ((i:Int)+1)).getD 0).toNat).take ((l.map bR.e).length-((some ((i:Int)+1)).getD 0).toNat)=(l.drop (i+1)).map bR.e:=by
 have e1:((i:Int)+1).toNat=i+1:=by omega
 simp only[j5,e1,List.map_drop];rw[D6 (by simp)]
theorem Je(h:cO c=true){n:bR}(a7:c.news[i]?=some n){w:Int}(hw:(n.dest==w)=true):∃x,db c w=some x:=by
 have aw:=Rv h a7;simp only[j3,av,gh,j6,cW]at aw;have aa:=(ib.1 h).2.1;have e:=eq_of_beq hw;exact CX (by omega) (by omega)
theorem C0{α:Type}{f:α->List D}(h:∀a,∀d∈f a,∃x,d=.v x){l:List (List D)}{xs:List α}(au:l=xs.map f):Flat l:=au▸dD f h xs
theorem QU{w:Int}{n:bR}(U:c.news.findIdx? (fun n=>n.dest==w)=some i)(cG:cO c=true)(a7:c.news[i]?=some n)(ao:db c w=some x):fz c w=(iA (setW c w (fw x n)) (cutAt c.news i),true):=by
 unfold fz;simp only[U,cG,gO,a7,ao]
theorem QV(c:bb)(w:Int)(ap:c.sz<=8388608):bP prog 45 [.ref (e7 c) (e7 (fz c w).1),.ro (.one (I w))] (.vals [.one (B (fz c w).2)]):=by
 have au:=zj ap;have Bb:=fun h=>acj (c:=c) (w:=w) h
 cases cG:cO c with
 | false=>
  have e:fz c w=(c,false):=by
   unfold fz;split<;>simp[cG]
  rw[e];simp only[e7,cG];cases a7:c.news with
  | nil=>
   have l:c0 prog (aq f45 0) (o6 w 0 (c.aG.nodes.map Node.e) c.aG.aB c.aG.cap (c.aB.map aR.e) (c.b2.map bA.e) (c.tokens.map b4.e) (c.news.map bR.e) false) (.exit 0) _:=.last (cI 0) (Q6 ⟨by simp[a7],ad⟩);exact Jg ⟨l,ad⟩
  | cons a l=>
   have l:c0 prog (aq f45 0) (o6 w 0 (c.aG.nodes.map Node.e) c.aG.aB c.aG.cap (c.aB.map aR.e) (c.b2.map bA.e) (c.tokens.map b4.e) (c.news.map bR.e) false) (.exit 0) _:=.last (cI 0) (adb ⟨dV (by simp[a7]<;>omega),rfl,ad⟩);exact Jg ⟨l,ad⟩
 | true=>
  have Bb:=Bb cG;have l:=gv (P:=prog) (c:=(aq f45 0)) c.news (fun n=>n.dest==w) (fun i=>o6 w i (c.aG.nodes.map Node.e) c.aG.aB c.aG.cap (c.aB.map aR.e) (c.b2.map bA.e) (c.tokens.map b4.e) (c.news.map bR.e) true)
   (X:=fun i n=>match db c w with
    | some x=>C1 true (c.aG.nodes.map Node.e) c.aG.aB c.aG.cap ((setW c w (fw x n)).aB.map aR.e) (c.b2.map bA.e) (c.tokens.map b4.e) ((cutAt c.news i).map bR.e) true
    | none=>⟨[],[]⟩) eJ (cI 0)
   (fun i a ai h=>ac8 ⟨b3 (aZ ai),rfl,bn,bt (aZ ai),bp bR.e ai,by simp only[bne,h];rfl,cT (aZ ai) au,ad⟩)
   (fun i a ai h=>by
    obtain⟨x,ao⟩:=Je cG ai h;have hi:=aZ ai;obtain⟨w0,w1,hs⟩:=o5 ao;have aj:=ry ao ap;simp only[ao];rw[<-abE hi];cases aF:ga x a.bh with
    | true=>
     rw[show fw x a=x by unfold fw;rw[aF];rfl,rv ao];exact ada ⟨b3 hi,rfl,bn,bt hi,bp bR.e ai,by simp only[bne,h];rfl,by simp,by simp,by simp;omega,by simp;omega,by simp;omega,C0 (xs:=c.news.take i) bR.flat (by simp),cT hi au,by simp;omega,by simp;omega,by simp,by simp;omega,by simp;omega,C0 (xs:=c.news.drop (i+1)) bR.flat QT,w0,w1,hs,C3 x a.bh true aF aj,rfl,ad⟩
    | false=>
     have pH:x.bx.length<=8388608:=by simp only[aR.sz]at aj;omega
     have e2:(setW c w (fw x a)).aB.map aR.e=(c.aB.map aR.e).set w.toNat (told x a.bh a.dq).e:=by
      rw[show fw x a=told x a.bh a.dq by unfold fw;rw[aF];rfl];exact Jd.symm
     rw[e2];have ch:(told x a.bh a.dq).e=[.J 5 (x.queue.map aH.e),.J 5 (x.cn.map aH.e),.J 5 (x.cb.map aH.e),.J 4 (x.cells.map Cell.e),.J 1 (x.bN.map ba),.J 1 (x.bW.map cu),.J 1 (x.bB.map cu),.J 2 (x.bx.map ca.e++[[I a.bh,B a.dq]])]:=by
      simp only[told,aR.e,gy];rfl
     rw[ch];exact ac9 ⟨b3 hi,rfl,bn,bt hi,bp bR.e ai,by simp only[bne,h];rfl,by simp,by simp,by simp;omega,by simp;omega,by simp;omega,C0 (xs:=c.news.take i) bR.flat (by simp),cT hi au,by simp;omega,by simp;omega,by simp,by simp;omega,by simp;omega,C0 (xs:=c.news.drop (i+1)) bR.flat QT,w0,w1,hs,C3 x a.bh false aF aj,rfl,w0,w1,hs,by simp;omega,by simp;omega,hs,rfl,fG (ca.flat ⟨a.bh,a.dq⟩),rfl,rfl,rfl,rfl,rfl,rfl,rfl,rfl,rfl,rfl,rfl,w0,w1,hs,rfl,ad⟩)
   (Q6 ⟨dv,ad⟩)
  rcases l with⟨_,U,_,aa⟩ | ⟨i,a,ai,hp,_,U,_,aa⟩
  ·have e:fz c w=(c,false):=by unfold fz;simp only[U]
   rw[e];simp only[e7,cG];exact Jg ⟨aa,ad⟩
  obtain⟨x,ao⟩:=Je cG ai hp;rw[QU U cG ai ao]at Bb ⊢;simp only[ao]at aa;simp only[e7,cG,Bb];exact ade ⟨aa,ad⟩
theorem abF(c:bb)(w:Int)(ap:c.sz<=8388608)(hw:gi c):ax 8 [.agg c.e,.one (I w)] [.agg (fz c w).1.e,.one (B (fz c w).2)]:=
 adf ⟨CZ c ap hw,QV c w ap,ad⟩
theorem abG(c:bb)(w:Int)(ap:c.sz<=8388608)(hw:gi c):ax 7 [.agg c.e,.one (I w)] [.agg (fz c w).1.e,.one (B (fz c w).2)]:=by
 have au:=zj ap;have fL:=acY c ap;have nI:=aoa c.news (fun n=>n.dest==w) 40 [.ptr [I w]] au (by kernel_rfl) (fun x _=>adg trivial);have ok:=aa3 c ap hw;unfold nH at nI;cases U:c.news.findIdx? (fun n=>n.dest==w) with
 | none=>
  simp only[U]at nI;rw[show fz c w=(c,false) by unfold fz;simp only[U]];exact adh ⟨fL,nI,dV (by omega),ad⟩
 | some i=>
  simp only[U]at nI;cases cG:cO c with
  | false=>
   rw[cG]at ok;rw[show fz c w=(c,false) by unfold fz;simp[U,cG]];exact adi ⟨fL,nI,eC (by omega),ok,rfl,ad⟩
  | true=>
   rw[cG]at ok;obtain⟨hi,hp,_⟩:=ti.1 U;have ai:c.news[i]?=some c.news[i]:=ih hi;generalize c.news[i]=a at ai hp;obtain⟨x,ao⟩:=Je cG ai hp;obtain⟨w0,w1,hs⟩:=o5 ao;have aj:=ry ao ap;rw[QU U cG ai ao];have dl:=abD c.news i (i+1) (by omega) (by omega);rw[show (((i+1:Nat):Int))=(i:Int)+1 by omega]at dl;cases aF:ga x a.bh with
   | true=>
    rw[show fw x a=x by unfold fw;rw[aF];rfl,rv ao];exact adk ⟨fL,nI,eC (by omega),ok,rfl,bn,bt hi,bp bR.e ai,cT hi au,dl,w0,w1,hs,QS x a.bh true aF aj,rfl,ad⟩
   | false=>
    have pH:x.bx.length<=8388608:=by simp only[aR.sz]at aj;omega
    have e2:(setW c w (fw x a)).aB.map aR.e=(c.aB.map aR.e).set w.toNat (told x a.bh a.dq).e:=by
     rw[show fw x a=told x a.bh a.dq by unfold fw;rw[aF];rfl];exact Jd.symm
    have ch:(told x a.bh a.dq).e=[.J 5 (x.queue.map aH.e),.J 5 (x.cn.map aH.e),.J 5 (x.cb.map aH.e),.J 4 (x.cells.map Cell.e),.J 1 (x.bN.map ba),.J 1 (x.bW.map cu),.J 1 (x.bB.map cu),.J 2 (x.bx.map ca.e++[[I a.bh,B a.dq]])]:=by
     simp only[told,aR.e,gy];rfl
    have dP:(iA (setW c w (fw x a)) (cutAt c.news i)).e=[.J 4 (c.aG.nodes.map Node.e),I c.aG.aB,I c.aG.cap,.J 8 ((c.aB.map aR.e).set w.toNat (told x a.bh a.dq).e),.J 6 (c.b2.map bA.e),.J 5 (c.tokens.map b4.e),.J 3 ((cutAt c.news i).map bR.e)]:=by
     rw[<-e2];rfl
    rw[dP,ch];exact adj ⟨fL,nI,eC (by omega),ok,rfl,bn,bt hi,bp bR.e ai,cT hi au,dl,w0,w1,hs,QS x a.bh false aF aj,rfl,w0,w1,hs,by simp;omega,by simp;omega,hs,rfl,fG (ca.flat ⟨a.bh,a.dq⟩),rfl,rfl,rfl,rfl,rfl,rfl,rfl,rfl,w0,w1,hs,rfl,ad⟩
end Go.Proofs.YthfnndblgbjniaaGreatDoor
namespace Go.Proofs.YthfnndblgbjniaaGreatDoor
open Go.Sx Go.RowKit Go.Proofs.Tryz
theorem U6(a b:Nat):(((a:Int)+(b:Int))==0)=(a+b==0):=by
 rw[Bool.eq_iff_iff];simp only[jl];omega
theorem abH(w:aR)(e:Int)(hw:w.sz<=8388608):ax 199 [.agg w.e,.one (I e)] [.one (B (zk w e))]:=by
 have au:w.cb.length<=8388608:=by simp only[aR.sz]at hw;omega
 have l:=gv (P:=prog) (c:=(aq f199 0)) w.cb (fun r=>decide (r.bJ.bh<=e)) (fun i=>uy (w.queue.map aH.e) (w.cn.map aH.e) (w.cb.map aH.e) (w.cells.map Cell.e) (w.bN.map ba) (w.bW.map cu) (w.bB.map cu) (w.bx.map ca.e) e i) (X:=fun _ _=>Jh true) eJ (cI 0)
  (fun i a ai h=>acN ⟨b3 (aZ ai),bn,bt (aZ ai),bp aH.e ai,h,cT (aZ ai) au,ad⟩)
  (fun i a ai h=>acM ⟨b3 (aZ ai),bn,bt (aZ ai),bp aH.e ai,h,ad⟩)
  (acO ⟨dv,ad⟩)
 unfold zk;rcases l with⟨_,_,U,aa⟩ | ⟨i,a,_,_,_,_,U,aa⟩
 ·rw[U];exact acQ ⟨aa,ad⟩
 rw[U];exact acP ⟨aa,ad⟩
theorem abI(w:aR)(e:Int)(hw:w.sz<=8388608):ax 200 [.agg w.e,.one (I e)] [.one (I ((↑((o2 e w.queue).map aH.e).length:Int)+(↑((o2 e w.cn).map aH.e).length:Int)))]:=by
 simp only[aR.sz]at hw;have c6:(o2 e w.queue).length<=w.queue.length:=rO _ _;have b8:(o2 e w.cn).length<=w.cn.length:=rO _ _;exact acT ⟨PQ w.queue e (by omega),PQ w.cn e (by omega),⟨by simp only[cr];omega,by simp only[cr];omega⟩,ad⟩
theorem abJ(w:aR)(e:Int)(hw:w.sz<=8388608):ax 165 [.agg w.e,.one (I e)] [.one (B (kn w e))]:=by
 have o:=abH w e hw;unfold kn;cases h:zk w e with
 | true=>rw[h]at o;exact acS ⟨o,rfl,ad⟩
 | false=>
  rw[h]at o;have a:=abI w e hw;rw[cr,cr]at a;have b:=acR ⟨o,rfl,a,ad⟩;rw[U6]at b;exact b
theorem QW(w:aR)(e:Int)(r:Bool)(h:kn w e=r)(hw:w.sz<=8388608):ax 165 [.agg w.e,.one (I e)] [.one (B r)]:=h▸abJ w e hw
end Go.Proofs.YthfnndblgbjniaaGreatDoor
namespace Go.Proofs.YthfnndblgbjniaaGreatDoor
open Go.Sx Go.RowKit Go.Proofs.Tryz
variable{c:bb}
theorem abK{i:Int}{t:b4}(h:iB c i=some t):0<=i/\i<(↑(c.tokens.map b4.e).length:Int)/\(c.tokens.map b4.e)[i.toNat]?=some t.e:=by
 obtain⟨U,aa,aA⟩:=CW h;exact⟨U,by rw[cr];omega,bK b4.e aA⟩
variable{e:Int}
theorem Gt{xs:List Int}(aO:xs.length=4)(he:0<=e/\e<=3):e<(↑(xs.map ba).length:Int)/\(xs.map ba)[e.toNat]?=some [I (xs.getD e.toNat 0)]:=by
 have au:e.toNat<xs.length:=by omega
 refine⟨by rw[cr];omega,?_⟩;rw[dk,ih au,jJ,ih au];rfl
theorem vp{xs:List Bool}(aO:xs.length=4)(he:0<=e/\e<=3):e<(↑(xs.map cu).length:Int)/\(xs.map cu)[e.toNat]?=some [B (xs.getD e.toNat false)]:=by
 have au:e.toNat<xs.length:=by omega
 refine⟨by rw[cr];omega,?_⟩;rw[dk,ih au,jJ,ih au];rfl
theorem qF{l:List (List D)}{i:Int}{a:List D}(bV:0<=i)(h:i<(↑l.length:Int)):(l.set i.toNat a)[i.toNat]?=some a:=List.getElem?_set_self (by omega)
theorem QX(x:aR)(e:Int):(f' x e).e=[.J 5 (x.queue.map aH.e),.J 5 (x.cn.map aH.e),.J 5 (x.cb.map aH.e),.J 4 (x.cells.map Cell.e),.J 1 (x.bN.map ba),.J 1 ((x.bW.map cu).set e.toNat [B false]),.J 1 (x.bB.map cu),.J 2 (x.bx.map ca.e)]:=by
 simp only[f',aR.e,jK];rfl
theorem abL(x:aR)(e:Int)(b:Bool):(told x e b).e=[.J 5 (x.queue.map aH.e),.J 5 (x.cn.map aH.e),.J 5 (x.cb.map aH.e),.J 4 (x.cells.map Cell.e),.J 1 (x.bN.map ba),.J 1 (x.bW.map cu),.J 1 (x.bB.map cu),.J 2 (x.bx.map ca.e++[[I e,B b]])]:=by
 simp only[told,aR.e,gy];rfl
theorem QY(c:bb)(e p:Int)(t:b4)(y:aR)(b:Bool):kQ (setW (ea c e t) p y) b=[.J 4 (c.aG.nodes.map Node.e),I c.aG.aB,I c.aG.cap,.J 8 ((c.aB.map aR.e).set p.toNat y.e),.J 6 (c.b2.map bA.e),.J 5 ((c.tokens.map b4.e).set e.toNat t.e),.J 3 (c.news.map bR.e),B b]:=by
 simp only[setW,ea,kQ,jK]
theorem abM(c:bb)(e:Int)(t:b4)(b:Bool):kQ (ea c e t) b=[.J 4 (c.aG.nodes.map Node.e),I c.aG.aB,I c.aG.cap,.J 8 (c.aB.map aR.e),.J 6 (c.b2.map bA.e),.J 5 ((c.tokens.map b4.e).set e.toNat t.e),.J 3 (c.news.map bR.e),B b]:=by
 simp only[ea,kQ,jK]
theorem abN(n:Nat)(e:Int)(b:Bool):iT (n+1) e b=iT n e b++[⟨(n:Int)+1,e,b⟩]:=by simp[iT,List.range_succ]
theorem abO(n:Nat)(e:Int)(b:Bool):(iT n e b).length=n:=by simp[iT]
theorem abP{ha x:aR}{t:b4}(ok:cO c=true)(he:av e 0 3=true)(bV:db c 0=some ha)(bZ:iB c e=some t)(aF:ga ha e=false)(ao:db c t.place=some x):kp c e=ft c e t x:=by
 unfold kp;simp only[ok,he,Bool.and_self,gO,bV,bZ,aF,ql,mY,ao]
theorem abQ(ok:cO c=true)(he:av e 0 3=true):∃ha t x,db c 0=some ha/\iB c e=some t/\db c t.place=some x/\0<c.aB.length/\c.aB.length<=4/\
  (0<=t.place/\t.place<=3)/\(t.going=false->t.place=0)/\(-1000000<=t.sum/\t.sum<=1000000)/\x.bN.length=4/\x.bW.length=4/\x.bB.length=4/\(-1000000<=x.bN.getD e.toNat 0/\x.bN.getD e.toNat 0<=1000000):=by
 obtain⟨U,aa,aA,aO,a8,bG,b9,da⟩:=ib.1 ok;have a7:=mQ U;obtain⟨ha,bV⟩:=CX (c:=c) (i:=0) (by omega) (by omega);obtain⟨t,bZ⟩:=ab7 ok he;obtain⟨t1,t2,t3⟩:=wQ.1 (I6 ok bZ);obtain⟨x,ao⟩:=CX (c:=c) (i:=t.place) (by omega) (by omega);obtain⟨_,_,_,_,iP,mx,jT,_,q6,_⟩:=iy.1 (lp ok ao);refine⟨ha,t,x,bV,bZ,ao,by omega,by omega,by omega,t2,t3,iP,mx,jT,?_⟩;simp only[av,cW]at he;have au:e.toNat<x.bN.length:=by omega
 rw[hv]at q6;have:=q6 _ (rQ au);rw[jJ,ih au,j5];simpa only[l0,hT,j6,av,cW,tj,Bool.not_not,Bool.not_eq_eq_eq_not,jm,n',Classical.not_not]using this
theorem QZ(c:bb)(e:Int)(x:aR)(r:Bool)(bV:db c 0=some x)(aF:ga x e=r)(ap:c.sz<=8388608):ax 164 [.agg c.e,.one (I e)] [.one (B r)]:=by
 obtain⟨w0,w1,hs⟩:=o5 bV;exact acL ⟨dV (by omega),w0,w1,hs,C3 x e r aF (ry bV ap),ad⟩
theorem abR(c:bb)(b:Bool)(x:aR)(e:Int)(cap:Bool)(bV:db c 0=some x)(aO:c.aB.length<=4)(ap:c.sz<=8388608):
  bP prog 166 [.ref (kQ c b) (kQ (iA (setW c 0 (told x e cap)) (c.news++iT (c.aB.length-1) e cap)) b),.ro (.one (I e)),.ro (.one (B cap))] (.vals []):=by
 obtain⟨w0,w1,hs⟩:=o5 bV;have a7:=zj ap;have aj:=ry bV ap;have pH:x.bx.length<=8388608:=by simp only[aR.sz]at aj;omega
 have hlen:=(jj bV).2.1;have r':((setW c 0 (told x e cap)).aB.map aR.e).length=c.aB.length:=by simp[setW]
 have l:=eu (P:=prog) (c:=(aq f166 0)) (cI 0) (c.aB.length-1) (fun i:Nat=>zw e cap ((i:Int)+1) (c.aG.nodes.map Node.e) c.aG.aB c.aG.cap ((setW c 0 (told x e cap)).aB.map aR.e) (c.b2.map bA.e) (c.tokens.map b4.e) ((c.news++iT i e cap).map bR.e) b) (fun i hi=>by
  have hm:=abO i e cap;rw[abN,<-rR,gy (l₂:=[_])];exact adl ⟨dV (by rw[r'];omega),by simp;omega,by simp;omega,fG (bR.flat ⟨(i:Int)+1,e,cap⟩),⟨by omega,by omega⟩,ad⟩) (adm ⟨eC (by rw[r'];omega),ad⟩)
 have e2:(setW c 0 (told x e cap)).aB.map aR.e=(c.aB.map aR.e).set 0 [.J 5 (x.queue.map aH.e),.J 5 (x.cn.map aH.e),.J 5 (x.cb.map aH.e),.J 4 (x.cells.map Cell.e),.J 1 (x.bN.map ba),.J 1 (x.bW.map cu),.J 1 (x.bB.map cu),.J 2 (x.bx.map ca.e++[[I e,B cap]])]:=by
  rw[<-abL];exact Jd.symm
 have bD:iT 0 e cap=[]:=rfl;rw[e2,bD,kt]at l;have gT:kQ (iA (setW c 0 (told x e cap)) (c.news++iT (c.aB.length-1) e cap)) b=[.J 4 (c.aG.nodes.map Node.e),I c.aG.aB,I c.aG.cap,.J 8 ((setW c 0 (told x e cap)).aB.map aR.e),.J 6 (c.b2.map bA.e),.J 5 (c.tokens.map b4.e),.J 3 ((c.news++iT (c.aB.length-1) e cap).map bR.e),B b]:=rfl;rw[gT,e2];exact adn ⟨by omega,w1,hs,by simp;omega,by simp;omega,hs,rfl,fG (ca.flat ⟨e,cap⟩),rfl,rfl,rfl,rfl,rfl,rfl,rfl,by omega,w1,hs,rfl,l,ad⟩
theorem abS(c:bb)(e:Int)(ap:c.sz<=8388608):bP prog 115 [.ref (e7 c) (e7 (kp c e).1),.ro (.one (I e))] (.vals [.one (B (kp c e).2)]):=by
 have post:=fun h=>ach (c:=c) (e:=e) h
 cases ok:cO c with
 | false=>
  rw[show kp c e=(c,false) by unfold kp;simp[ok]];simp only[e7,ok];exact ado ⟨rfl,ad⟩
 | true=>
 replace post:=post ok;cases he:av e 0 3 with
 | false=>
  rw[show kp c e=(c,false) by unfold kp;simp[he]];simp only[e7,ok];exact adp ⟨rfl,fi _ _ _ _ he,rfl,ad⟩
 | true=>
 have he:=he;obtain⟨ha,t,x,bV,bZ,ao,Fv,xR,Wu,V0,ath,q0,AY,A0,x8⟩:=abQ ok he;have tK:0<=e/\e<=3:=by simpa only[av,cW]using he
 obtain⟨ej,iC,iD⟩:=abK bZ;obtain⟨dF,dT,dR⟩:=o5 ao;obtain⟨atV,atW,atX⟩:=o5 bV;obtain⟨pf,pg⟩:=Gt q0 tK;obtain⟨oH,my⟩:=vp AY tK;obtain⟨AH,AI⟩:=vp A0 tK;have eL:=ry ao ap;have pH:x.bx.length<=8388608:=by simp only[aR.sz]at eL;omega
 have Mx:(↑(c.aB.map aR.e).length:Int)=(c.aB.length:Int):=by rw[cr]
 cases aF:ga ha e with
 | true=>
  rw[show kp c e=(c,false) by unfold kp;simp only[ok,he,Bool.and_self,gO,bV,bZ,aF]];simp only[e7,ok];exact adq ⟨rfl,fi _ _ _ _ he,rfl,QZ c e ha true bV aF ap,rfl,ad⟩
 | false=>
 rw[abP ok he bV bZ aF ao]at post ⊢;have rd:=QZ c e ha false bV aF ap;have n3:=fi _ _ _ _ he;cases hp:kn x e with
 | false=>
  rw[show ft c e t x=(c,false) by unfold ft;simp[hp]];simp only[e7,ok];exact adr ⟨rfl,n3,rfl,rd,rfl,ej,iC,iD,dF,dT,dR,QW x e _ hp eL,rfl,ad⟩
 | true=>
 have oS:=QW x e _ hp eL;have k3:aK .i64 (t.sum+x.bN.getD e.toNat 0):=⟨by omega,by omega⟩
 simp only[e7,ok,post];clear post;obtain⟨Ta,ta,ts,tb,fU⟩:=t;dsimp only at*;cases Ta with
 | false=>
  obtain rfl:ta=0:=V0 rfl;rw[show ft c e ⟨false,0,ts,tb,fU⟩ x=(setW (ea c e ⟨true,(c.aB.length:Int)-1,0,false,x.bB.getD e.toNat false⟩) 0 (f' x e),true) by simp only[ft,hp,gO,n8]];dsimp only;rw[QY,QX,<-Mx];exact ads ⟨rfl,n3,rfl,rd,rfl,ej,iC,iD,dF,dT,dR,oS,rfl,ej,pf,pg,k3,rfl,⟨by omega,by omega⟩,ej,AH,AI,ej,iC,iD,by omega,dT,dR,ej,oH,my,dR,rfl,rfl,rfl,rfl,rfl,ad⟩
 | true=>
 by_cases mr:0<ta
 case pos=>
  have og:decide (ta>0)=true:=dV mr;cases aI:av (ts+x.bN.getD e.toNat 0) (-1000000) 1000000 with
  | false=>
   rw[show ft c e ⟨true,ta,ts,tb,fU⟩ x=(c,false) by simp only[ft,hp,gO,jm,ql,mY,mr,aI]];exact adt ⟨rfl,n3,rfl,rd,rfl,ej,iC,iD,dF,dT,dR,oS,rfl,ej,pf,pg,k3,rfl,og,fi _ _ _ _ aI,rfl,ad⟩
  | true=>
   have e1:ft c e ⟨true,ta,ts,tb,fU⟩ x=(setW (ea c e ⟨true,ta-1,ts+x.bN.getD e.toNat 0,tb||x.bW.getD e.toNat false,fU||x.bB.getD e.toNat false⟩) ta (f' x e),true):=by
    simp only[ft,hp,gO,jm,ql,mY,mr,aI]
   rw[e1];dsimp only;rw[QY,QX];have wr:=fi _ _ _ _ aI;cases tb with
   | true=>
    cases fU with
    | true=>exact adu ⟨rfl,n3,rfl,rd,rfl,ej,iC,iD,dF,dT,dR,oS,rfl,ej,pf,pg,k3,rfl,og,wr,rfl,⟨by omega,by omega⟩,rfl,rfl,ej,iC,iD,dF,dT,dR,ej,oH,my,dR,rfl,rfl,rfl,rfl,rfl,ad⟩
    | false=>exact adv ⟨rfl,n3,rfl,rd,rfl,ej,iC,iD,dF,dT,dR,oS,rfl,ej,pf,pg,k3,rfl,og,wr,rfl,⟨by omega,by omega⟩,rfl,rfl,ej,AH,AI,ej,iC,iD,dF,dT,dR,ej,oH,my,dR,rfl,rfl,rfl,rfl,rfl,ad⟩
   | false=>
    cases fU with
    | true=>exact adw ⟨rfl,n3,rfl,rd,rfl,ej,iC,iD,dF,dT,dR,oS,rfl,ej,pf,pg,k3,rfl,og,wr,rfl,⟨by omega,by omega⟩,rfl,ej,oH,my,rfl,ej,iC,iD,dF,dT,dR,ej,oH,my,dR,rfl,rfl,rfl,rfl,rfl,rfl,rfl,ad⟩
    | false=>exact adx ⟨rfl,n3,rfl,rd,rfl,ej,iC,iD,dF,dT,dR,oS,rfl,ej,pf,pg,k3,rfl,og,wr,rfl,⟨by omega,by omega⟩,rfl,ej,oH,my,rfl,ej,AH,AI,ej,iC,iD,dF,dT,dR,ej,oH,my,dR,rfl,rfl,rfl,rfl,rfl,rfl,rfl,ad⟩
 case neg=>
  obtain rfl:ta=0:=by omega
  have og:decide ((0:Int)>0)=false:=rfl;have e1:=fun b=>abM c e ⟨false,0,ts,tb,fU⟩ b
  have ends:=fun cap=>abR (ea c e ⟨false,0,ts,tb,fU⟩) true x e cap (zo.trans ao) xR (by rw[CY];exact ap)
  rw[e1]at ends;cases tb with
  | true=>
   rw[show ft c e ⟨true,0,ts,true,fU⟩ x=(ea c e ⟨false,0,ts,true,fU⟩,true) by simp[ft,hp]];dsimp only;rw[e1];exact acK ⟨rfl,n3,rfl,rd,rfl,ej,iC,iD,dF,dT,dR,oS,rfl,ej,pf,pg,k3,rfl,og,ej,iC,iD,rfl,ad⟩
  | false=>
  cases bc:x.bW.getD e.toNat false with
  | true=>
   rw[bc]at my;rw[show ft c e ⟨true,0,ts,false,fU⟩ x=(ea c e ⟨false,0,ts,false,fU⟩,true) by unfold ft;simp only[hp,bc];rfl];dsimp only;rw[e1];exact acJ ⟨rfl,n3,rfl,rd,rfl,ej,iC,iD,dF,dT,dR,oS,rfl,ej,pf,pg,k3,rfl,og,ej,iC,iD,rfl,ej,oH,my,rfl,ad⟩
  | false=>
  rw[bc]at my;cases bk:(ts+x.bN.getD e.toNat 0==0) with
  | false=>
   rw[show ft c e ⟨true,0,ts,false,fU⟩ x=(ea c e ⟨false,0,ts,false,fU⟩,true) by unfold ft;simp only[hp,bc,bk];rfl];dsimp only;rw[e1];exact acI ⟨rfl,n3,rfl,rd,rfl,ej,iC,iD,dF,dT,dR,oS,rfl,ej,pf,pg,k3,rfl,og,ej,iC,iD,rfl,ej,oH,my,rfl,bk,ad⟩
  | true=>
  rw[show ft c e ⟨true,0,ts,false,fU⟩ x=(iA (setW (ea c e ⟨false,0,ts,false,fU⟩) 0 (told x e (fU||x.bB.getD e.toNat false))) (c.news++iT (c.aB.length-1) e (fU||x.bB.getD e.toNat false)),true) by unfold ft;simp only[hp,bc,bk];rfl];cases fU with
  | true=>exact acG ⟨rfl,n3,rfl,rd,rfl,ej,iC,iD,dF,dT,dR,oS,rfl,ej,pf,pg,k3,rfl,og,ej,iC,iD,rfl,ej,oH,my,rfl,bk,rfl,ends true,ad⟩
  | false=>exact acH ⟨rfl,n3,rfl,rd,rfl,ej,iC,iD,dF,dT,dR,oS,rfl,ej,pf,pg,k3,rfl,og,ej,iC,iD,rfl,ej,oH,my,rfl,bk,rfl,ej,AH,AI,ends _,ad⟩
