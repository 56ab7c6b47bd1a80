import Derived.Test.YtdchjefneblpgaaGreatP16
import Derived.Test.YtdchjefneblpgaaGreatGS
set_option linter.unusedVariables false
set_option linter.unusedSimpArgs false
namespace Go.Proofs.YtdchjefneblpgaaGreat
open Go.Sx Go.RowKit Go.Proofs.Tryz
theorem adf{P:Program}{f:Nat}{args:List GA}{k:Nat}{l g':List (List D)}(h:k' P f args [.one (.J k l)])(aj:l=g'):k' P f args [.one (.J k g')]:=aj▸h
theorem MB(xs:List Cell)(p:Cell->Bool)(g:Nat)(bm:List D)(aj:xs.length<=8388608)(af:hL prog g=true)(hp:∀x∈xs,∀r,p x=r->aw g ([.agg x.e]++bm.map .one) [.one (B r)]):
  ∀(n i:Nat) (ys:List Cell),n+i=xs.length->ys.length=xs.length->ys.drop i=xs.drop i->ys.take ((xs.take i).filter fun a=>!p a).length=(xs.take i).filter (fun a=>!p a)->
  ∃zs:List Cell,c6 prog (av f345 0) (vb g bm i ((xs.take i).filter fun a=>!p a).length (ys.map Cell.e)) (.exit 0) (Ml (zs.map Cell.e) (xs.filter fun a=>!p a).length)/\zs.length=xs.length/\zs.take (xs.filter fun a=>!p a).length=xs.filter (fun a=>!p a)
 | 0,i,ys,hi,bn,_,bq=>by
  have e:xs.take i=xs:=vU (by omega);rw[e]at bq ⊢;exact⟨ys,.last (cL 0) (aq3 ⟨ee (by simp;omega),ae⟩),bn,bq⟩
 | n+1,i,ys,hi,bn,aB,bq=>by
  obtain⟨a,ad⟩:=dm (xs:=xs) (i:=i) (by omega);have yU:ys[i]?=some a:=by
   have e1:ys[i]?=(ys.drop i)[0]?:=by simp
   have e2:xs[i]?=(xs.drop i)[0]?:=by simp
   rw[e1,aB,<-e2,ad]
  have bg:=zD (fun a=>!p a) ad;have hle:=Fl (fun a=>!p a) xs i;have kO:ys.drop (i+1)=xs.drop (i+1):=by
   have:=congrArg (List.drop 1) aB;simpa[List.drop_drop,Nat.add_comm]using this
  cases h:p a with
  | true=>
   rw[h]at bg;simp only[iu,ng,k9,jX]at bg;obtain⟨zs,h1,U,ax⟩:=MB xs p g bm aj af hp n (i+1) ys (by omega) bn kO (by rw[bg];exact bq);rw[bg]at h1;exact⟨zs,.more (aq2 ⟨dr (by simp;omega),bH,by simp;omega,bI Cell.e yU,af,hp a (cG ad) true h,rfl,⟨by omega,by omega⟩,ae⟩) h1,U,ax⟩
  | false=>
   rw[h]at bg;simp only[oL,fL]at bg;generalize aP:((xs.take i).filter fun a=>!p a).length=j at*;obtain⟨b,ao⟩:=dm (xs:=ys) (i:=j) (by omega);obtain⟨zs,h1,U,ax⟩:=MB xs p g bm aj af hp n (i+1) (ys.set j a) (by omega) (by simpa using bn) (by rw[List.drop_set_of_lt (by omega)];exact kO) (by
    rw[bg,k7,aP,List.length_singleton,List.take_set,<-bq];have j9:j<ys.length:=by omega
    rw[List.take_succ_eq_append_getElem j9,List.set_append_right _ _ (by simp;omega)];simp[qs,Nat.min_eq_left (Nat.le_of_lt j9)])
   rw[bg,k7,aP,List.length_singleton]at h1;refine⟨zs,.more (x2 (fun l=>vb g bm ((i+1:Nat):Int) ((j+1:Nat):Int) l) (aq1 ⟨dr (by simp;omega),bH,by simp;omega,bI Cell.e yU,af,hp a (cG ad) false h,rfl,bH,by simp;omega,bI Cell.e ao,⟨by omega,by omega⟩,⟨by omega,by omega⟩,ae⟩) ?_) h1,U,ax⟩;show List.set _ _ a.e=_;rw[nd,<-kG]
theorem adg(xs:List Cell)(p:Cell->Bool)(g:Nat)(bm:List D)(aj:xs.length<=8388608)(af:hL prog g=true)(hp:∀x∈xs,aw g ([.agg x.e]++bm.map .one) [.one (B (p x))]):
  k' prog 345 [.one (.fh 4 (xs.map Cell.e) none),.one (.ro (.cl g bm))] [.one (.J 4 ((xs.filter fun a=>!p a).map Cell.e))]:=by
 have mi:∀x∈xs,∀r,p x=r->aw g ([.agg x.e]++bm.map .one) [.one (B r)]:=fun x aa r h=>h▸hp x aa
 have lH:=ark xs p g bm aj af hp;unfold mN at lH;cases h:xs.findIdx? p with
 | none=>
  rw[h]at lH;rw[Dq]at h;have e:(xs.filter fun a=>!p a)=xs:=List.filter_eq_self.2 fun a ad=>by simp[h a ad]
  rw[e];exact aq0 ⟨lH,rfl,ae⟩
 | some i=>
  rw[h]at lH;change ja _ _ _ [.one (I (i:Int))]at lH;rw[uq]at h;obtain⟨hi,U,ax⟩:=h;have aa:xs[i]?=some xs[i]:=gz hi;have cc:(xs.take i).filter (fun a=>!p a)=xs.take i:=List.filter_eq_self.2 fun a ad=>by
   obtain⟨j,aP,rfl⟩:=List.getElem_of_mem ad;have o3:j<i:=by simp at aP;omega
   have:=ax j o3;simpa using this
  have e1:=zD (fun a=>!p a) aa;rw[U]at e1;simp only[iu,ng,k9,jX]at e1;rw[cc]at e1;have e2:(xs.take i).length=i:=by rw[qs];omega
  obtain⟨zs,l,aW,bq⟩:=MB xs p g bm aj af mi (xs.length-(i+1)) (i+1) xs (by omega) rfl rfl (by rw[e1,e2]);rw[e1,e2]at l;have bu:(xs.filter fun a=>!p a).length<xs.length:=by
   have cJ:xs.filter (fun a=>!p a)=xs.take i++(xs.drop (i+1)).filter fun a=>!p a:=by
    have:=OA (i+1) xs;rw[<-this,List.filter_append,this,e1]
   rw[cJ,k7,e2];have:=qq (fun a=>!p a) (xs.drop (i+1));rw[List.length_drop]at this;omega
  generalize xs.filter (fun a=>!p a)=fg at*;refine adf (aqe ⟨lH,vV.2 (by omega),⟨by omega,by omega⟩,l,by simp,by simp;omega,cd _ Cell.flat _,by simp,by simp,by simp;omega,ae⟩) ?_;simp only[jx,nd,Nat.sub_zero,sV,<-sW];rw[bq,Hv (by simp),vU (by simp)]
def gI(k:Int):Bool:=k==5||k==6||k==8
def h4(xs:List Cell)(x:Cell):List Cell×Bool:=
 if (px xs x.op x.a7 x.key).2&&decide ((px xs x.op x.a7 x.key).1<=x.val) then (xs,false) else (ky (xs.filter fun a=>!eO x a) x,true)
def ct(kind:Int)(xs:List Cell)(x:Cell):List Cell×Bool:=
 if kind=6 then (if nO xs x then (xs,false) else (ky xs x,true))
 else if kind=5\/kind=8 then h4 xs x
 else (xs,true)
theorem S3(k:Int):aw 268 [.one (I k)] [.one (B (gI k))]:=by
 rcases cN (k==5) with h1 | h1
 ·skip
  rw[show gI k=true from by grind[gI]];exact arK ⟨h1,ae⟩
 skip
 rcases cN (k==6) with U | U
 ·skip
  rw[show gI k=true from by grind[gI]];exact arL ⟨h1,U,ae⟩
 skip
 rw[show gI k=(k==8) from by grind[gI]];exact arM ⟨h1,U,ae⟩
theorem S4(xs:List Cell)(x:Cell)(aj:xs.length<=8388608):aw 318 [.one (.J 4 (xs.map Cell.e)),.agg x.e] [.one (.J 4 ((h4 xs x).1.map Cell.e)),.one (B (h4 xs x).2)]:=by
 have c:=abv xs x.op x.a7 x.key aj;have cQ:=vd xs aj;have d:=adg xs (eO x) 346 [D.ptr x.e] aj (by kernel_rfl) (fun y _=>aqZ ⟨TN x y,ae⟩);have Qn:=TB (xs.filter fun a=>!eO x a) x (n1 (qq ..) aj);unfold h4;generalize px xs x.op x.a7 x.key=m at*;obtain⟨v,f⟩:=m;cases f with
 | false=>exact aqn ⟨c,rfl,cQ,d,Qn,ae⟩
 | true=>
  by_cases h:v<=x.val
  ·rw[dr h];exact aql ⟨c,rfl,dr h,cQ,ae⟩
  rw[ee h];exact aqm ⟨c,rfl,ee h,cQ,d,Qn,ae⟩
theorem adh(xs acc:List Cell)(x:Cell)(aj:xs.length<=8388608)(i:Nat)(af:acc.length<=i)(a:Cell)(ad:xs[i]?=some a):gA prog (av f269 0) (mw (xs.map Cell.e) x.op x.a7 x.key x.val i (acc.map Cell.e)) .normal (mw (xs.map Cell.e) x.op x.a7 x.key x.val ((i+1:Nat):Int) ((acc++(bif eO x a then [] else [a])).map Cell.e)):=by
 have aP:=aX ad;have dy:xs[(i:Int).toNat]?=some a:=by simpa using ad
 have eA:decide ((i:Int)<(↑(xs.map Cell.e).length:Int))=true:=b4 aP;rcases cN (a.op != x.op) with h1 | h1
 ·skip
  have ai:eO x a=false:=by grind[eO]
  rw[ai];rw[show (acc++(bif false then [] else [a])).map Cell.e=acc.map Cell.e++[a.e] from by simp];exact arQ ⟨eA,(by first | omega | (simp only[bk,dJ,bY];omega) | exact dY a.flat | (exact⟨by omega,by omega⟩)),(by first | omega | (simp only[bk,dJ,bY];omega) | exact dY a.flat | (exact⟨by omega,by omega⟩)),(bJ Cell.e dy),h1,(by first | omega | (simp only[bk,dJ,bY];omega) | exact dY a.flat | (exact⟨by omega,by omega⟩)),(by first | omega | (simp only[bk,dJ,bY];omega) | exact dY a.flat | (exact⟨by omega,by omega⟩)),(bJ Cell.e dy),(by first | omega | (simp only[bk,dJ,bY];omega) | exact dY a.flat | (exact⟨by omega,by omega⟩)),(by first | omega | (simp only[bk,dJ,bY];omega) | exact dY a.flat | (exact⟨by omega,by omega⟩)),(by first | omega | (simp only[bk,dJ,bY];omega) | exact dY a.flat | (exact⟨by omega,by omega⟩)),(by first | omega | (simp only[bk,dJ,bY];omega) | exact dY a.flat | (exact⟨by omega,by omega⟩)),ae⟩
 skip
 rcases cN (a.a7 != x.a7) with U | U
 ·skip
  have ai:eO x a=false:=by grind[eO]
  rw[ai];rw[show (acc++(bif false then [] else [a])).map Cell.e=acc.map Cell.e++[a.e] from by simp];exact arR ⟨eA,(by first | omega | (simp only[bk,dJ,bY];omega) | exact dY a.flat | (exact⟨by omega,by omega⟩)),(by first | omega | (simp only[bk,dJ,bY];omega) | exact dY a.flat | (exact⟨by omega,by omega⟩)),(bJ Cell.e dy),h1,(by first | omega | (simp only[bk,dJ,bY];omega) | exact dY a.flat | (exact⟨by omega,by omega⟩)),(by first | omega | (simp only[bk,dJ,bY];omega) | exact dY a.flat | (exact⟨by omega,by omega⟩)),(bJ Cell.e dy),U,(by first | omega | (simp only[bk,dJ,bY];omega) | exact dY a.flat | (exact⟨by omega,by omega⟩)),(by first | omega | (simp only[bk,dJ,bY];omega) | exact dY a.flat | (exact⟨by omega,by omega⟩)),(bJ Cell.e dy),(by first | omega | (simp only[bk,dJ,bY];omega) | exact dY a.flat | (exact⟨by omega,by omega⟩)),(by first | omega | (simp only[bk,dJ,bY];omega) | exact dY a.flat | (exact⟨by omega,by omega⟩)),(by first | omega | (simp only[bk,dJ,bY];omega) | exact dY a.flat | (exact⟨by omega,by omega⟩)),(by first | omega | (simp only[bk,dJ,bY];omega) | exact dY a.flat | (exact⟨by omega,by omega⟩)),ae⟩
 skip
 rcases cN (a.key != x.key) with ax | ax
 ·skip
  have ai:eO x a=false:=by grind[eO]
  rw[ai];rw[show (acc++(bif false then [] else [a])).map Cell.e=acc.map Cell.e++[a.e] from by simp];exact arS ⟨eA,(by first | omega | (simp only[bk,dJ,bY];omega) | exact dY a.flat | (exact⟨by omega,by omega⟩)),(by first | omega | (simp only[bk,dJ,bY];omega) | exact dY a.flat | (exact⟨by omega,by omega⟩)),(bJ Cell.e dy),h1,(by first | omega | (simp only[bk,dJ,bY];omega) | exact dY a.flat | (exact⟨by omega,by omega⟩)),(by first | omega | (simp only[bk,dJ,bY];omega) | exact dY a.flat | (exact⟨by omega,by omega⟩)),(bJ Cell.e dy),U,(by first | omega | (simp only[bk,dJ,bY];omega) | exact dY a.flat | (exact⟨by omega,by omega⟩)),(by first | omega | (simp only[bk,dJ,bY];omega) | exact dY a.flat | (exact⟨by omega,by omega⟩)),(bJ Cell.e dy),ax,(by first | omega | (simp only[bk,dJ,bY];omega) | exact dY a.flat | (exact⟨by omega,by omega⟩)),(by first | omega | (simp only[bk,dJ,bY];omega) | exact dY a.flat | (exact⟨by omega,by omega⟩)),(bJ Cell.e dy),(by first | omega | (simp only[bk,dJ,bY];omega) | exact dY a.flat | (exact⟨by omega,by omega⟩)),(by first | omega | (simp only[bk,dJ,bY];omega) | exact dY a.flat | (exact⟨by omega,by omega⟩)),(by first | omega | (simp only[bk,dJ,bY];omega) | exact dY a.flat | (exact⟨by omega,by omega⟩)),(by first | omega | (simp only[bk,dJ,bY];omega) | exact dY a.flat | (exact⟨by omega,by omega⟩)),ae⟩
 skip
 have ai:eO x a=true:=by grind[eO]
 rw[ai];rw[show (acc++(bif true then [] else [a])).map Cell.e=acc.map Cell.e from by simp];exact arT ⟨eA,(by first | omega | (simp only[bk,dJ,bY];omega) | exact dY a.flat | (exact⟨by omega,by omega⟩)),(by first | omega | (simp only[bk,dJ,bY];omega) | exact dY a.flat | (exact⟨by omega,by omega⟩)),(bJ Cell.e dy),h1,(by first | omega | (simp only[bk,dJ,bY];omega) | exact dY a.flat | (exact⟨by omega,by omega⟩)),(by first | omega | (simp only[bk,dJ,bY];omega) | exact dY a.flat | (exact⟨by omega,by omega⟩)),(bJ Cell.e dy),U,(by first | omega | (simp only[bk,dJ,bY];omega) | exact dY a.flat | (exact⟨by omega,by omega⟩)),(by first | omega | (simp only[bk,dJ,bY];omega) | exact dY a.flat | (exact⟨by omega,by omega⟩)),(bJ Cell.e dy),ax,(by first | omega | (simp only[bk,dJ,bY];omega) | exact dY a.flat | (exact⟨by omega,by omega⟩)),ae⟩
theorem acp(p:Cell->Bool){xs:List Cell}{i:Nat}{a:Cell}(h:xs[i]?=some a):(xs.take (i+1)).filter (fun b=>!p b)=(xs.take i).filter (fun b=>!p b)++(bif p a then [] else [a]):=by
 rw[zD _ h];cases p a<;>rfl
theorem Fv(xs:List Cell)(x:Cell)(aj:xs.length<=8388608):c6 prog (av f269 0) (mw (xs.map Cell.e) x.op x.a7 x.key x.val 0 []) (.exit 1) (zG x.op x.a7 x.key x.val ((xs.filter fun a=>!eO x a).map Cell.e)):=by
 have l:=eR (P:=prog) (c:=(av f269 0)) (cL 1) xs.length (fun i:Nat=>mw (xs.map Cell.e) x.op x.a7 x.key x.val i (((xs.take i).filter fun a=>!eO x a).map Cell.e)) (fun i hi=>by
  obtain⟨a,ad⟩:=dm hi;rw[acp (eO x) ad];exact adh xs _ x aj i (Fl _ xs i) a ad) (arU ⟨ec,ae⟩)
 rw[k6]at l;exact l
theorem S5(kind:Int)(xs:List Cell)(x:Cell)(aj:xs.length<=8388608):aw 269 [.one (I kind),.one (.J 4 (xs.map Cell.e)),.agg x.e] [.one (.J 4 (((ct kind xs x).1).map Cell.e)),.one (B ((ct kind xs x).2))]:=by
 have bg:=qq (fun a=>!eO x a) xs;rcases cN (kind==6) with h1 | h1
 ·skip
  have c2:=Tx xs x (by omega);rcases cN (nO xs x) with ax | ax
  ·skip
   rw[show ct kind xs x=(xs,false) from by grind[ct,h4]];exact arN ⟨(by first | omega | (simp only[bk,bY];omega) | exact cd _ Cell.flat _ | grind[aC]),(by first | omega | (simp only[bk,bY];omega) | exact cd _ Cell.flat _ | grind[aC]),(by first | omega | (simp only[bk,bY];omega) | exact cd _ Cell.flat _ | grind[aC]),h1,c2,ax,ae⟩
  skip
  have ez:=B6 xs x (by omega);rw[show ct kind xs x=((ky xs x),true) from by grind[ct,h4]];exact arO ⟨(by first | omega | (simp only[bk,bY];omega) | exact cd _ Cell.flat _ | grind[aC]),(by first | omega | (simp only[bk,bY];omega) | exact cd _ Cell.flat _ | grind[aC]),(by first | omega | (simp only[bk,bY];omega) | exact cd _ Cell.flat _ | grind[aC]),h1,c2,ax,ez,ae⟩
 skip
 rcases cN (kind==5) with aQ | aQ
 ·skip
  have hV:=SZ xs x.op x.a7 x.key (by omega);rcases cN ((px xs x.op x.a7 x.key).2) with bN | bN
  ·skip
   rcases cN (decide (((px xs x.op x.a7 x.key).1)<=x.val)) with dj | dj
   ·skip
    rw[show ct kind xs x=(xs,false) from by grind[ct,h4]];exact arP ⟨(by first | omega | (simp only[bk,bY];omega) | exact cd _ Cell.flat _ | grind[aC]),(by first | omega | (simp only[bk,bY];omega) | exact cd _ Cell.flat _ | grind[aC]),(by first | omega | (simp only[bk,bY];omega) | exact cd _ Cell.flat _ | grind[aC]),h1,aQ,aQ,hV,bN,dj,ae⟩
   skip
   
   have Yd:=B6 (xs.filter fun a=>!eO x a) x (by omega);rw[show ct kind xs x=((ky (xs.filter fun a=>!eO x a) x),true) from by grind[ct,h4]];exact arV ⟨(by first | omega | (simp only[bk,bY];omega) | exact cd _ Cell.flat _ | grind[aC]),(by first | omega | (simp only[bk,bY];omega) | exact cd _ Cell.flat _ | grind[aC]),(by first | omega | (simp only[bk,bY];omega) | exact cd _ Cell.flat _ | grind[aC]),h1,aQ,aQ,hV,bN,dj,(Fv xs x aj),Yd,ae⟩
  skip
  
  have yn:=B6 (xs.filter fun a=>!eO x a) x (by omega);rw[show ct kind xs x=((ky (xs.filter fun a=>!eO x a) x),true) from by grind[ct,h4]];exact arW ⟨(by first | omega | (simp only[bk,bY];omega) | exact cd _ Cell.flat _ | grind[aC]),(by first | omega | (simp only[bk,bY];omega) | exact cd _ Cell.flat _ | grind[aC]),(by first | omega | (simp only[bk,bY];omega) | exact cd _ Cell.flat _ | grind[aC]),h1,aQ,aQ,hV,bN,(Fv xs x aj),yn,ae⟩
 skip
 rcases cN (kind==8) with iJ | iJ
 ·skip
  have oU:=SZ xs x.op x.a7 x.key (by omega);rcases cN ((px xs x.op x.a7 x.key).2) with uI | uI
  ·skip
   rcases cN (decide (((px xs x.op x.a7 x.key).1)<=x.val)) with me | me
   ·skip
    rw[show ct kind xs x=(xs,false) from by grind[ct,h4]];exact arX ⟨(by first | omega | (simp only[bk,bY];omega) | exact cd _ Cell.flat _ | grind[aC]),(by first | omega | (simp only[bk,bY];omega) | exact cd _ Cell.flat _ | grind[aC]),(by first | omega | (simp only[bk,bY];omega) | exact cd _ Cell.flat _ | grind[aC]),h1,aQ,iJ,oU,uI,me,ae⟩
   skip
   
   have Yb:=B6 (xs.filter fun a=>!eO x a) x (by omega);rw[show ct kind xs x=((ky (xs.filter fun a=>!eO x a) x),true) from by grind[ct,h4]];exact arY ⟨(by first | omega | (simp only[bk,bY];omega) | exact cd _ Cell.flat _ | grind[aC]),(by first | omega | (simp only[bk,bY];omega) | exact cd _ Cell.flat _ | grind[aC]),(by first | omega | (simp only[bk,bY];omega) | exact cd _ Cell.flat _ | grind[aC]),h1,aQ,iJ,oU,uI,me,(Fv xs x aj),Yb,ae⟩
  skip
  
  have DO:=B6 (xs.filter fun a=>!eO x a) x (by omega);rw[show ct kind xs x=((ky (xs.filter fun a=>!eO x a) x),true) from by grind[ct,h4]];exact arZ ⟨(by first | omega | (simp only[bk,bY];omega) | exact cd _ Cell.flat _ | grind[aC]),(by first | omega | (simp only[bk,bY];omega) | exact cd _ Cell.flat _ | grind[aC]),(by first | omega | (simp only[bk,bY];omega) | exact cd _ Cell.flat _ | grind[aC]),h1,aQ,iJ,oU,uI,(Fv xs x aj),DO,ae⟩
 skip
 rw[show ct kind xs x=(xs,true) from by grind[ct,h4]];exact ar0 ⟨(by first | omega | (simp only[bk,bY];omega) | exact cd _ Cell.flat _ | grind[aC]),(by first | omega | (simp only[bk,bY];omega) | exact cd _ Cell.flat _ | grind[aC]),(by first | omega | (simp only[bk,bY];omega) | exact cd _ Cell.flat _ | grind[aC]),h1,aQ,iJ,ae⟩
theorem S6(kind:Int)(xs:List Cell)(x:Cell)(aj:xs.length<=8388608):aw 299 [.one (I kind),.one (.J 4 (xs.map Cell.e)),.agg x.e] [.one (.J 4 (((ct kind xs x).1).map Cell.e)),.one (B ((ct kind xs x).2))]:=by
 rcases cN (kind==5) with h1 | h1
 ·skip
  have c2:=S4 xs x (by omega);rw[show ct kind xs x=(((h4 xs x).1),(h4 xs x).2) from by grind[ct,h4,ky]];exact aqo ⟨h1,h1,c2,ae⟩
 skip
 rcases cN (kind==8) with ax | ax
 ·skip
  have ez:=S4 xs x (by omega);rw[show ct kind xs x=(((h4 xs x).1),(h4 xs x).2) from by grind[ct,h4,ky]];exact aqp ⟨h1,ax,ez,ae⟩
 skip
 rcases cN (kind==6) with aQ | aQ
 ·skip
  have hV:=TB xs x (by omega);have HN:=Tz xs x (by omega);rw[show ct kind xs x=((ky xs x),!(nO xs x)) from by grind[ct,h4,ky]];exact aqq ⟨h1,ax,aQ,hV,HN,ae⟩
 skip
 have nv:=vd xs (by omega);rw[show ct kind xs x=(xs,true) from by grind[ct,h4,ky]];exact aqr ⟨h1,ax,aQ,nv,ae⟩
def e3(x:Node)(s:hT)(key val:Int):List aE:=x.outs.map fun k=>⟨k,s,key,val⟩
def cellOf(r:aE):Cell:=⟨r.op,r.bh.a7,r.key,r.val⟩
def dS(g:b0)(cs:List Cell)(r:aE)(x:Node):List Cell×List aE×Bool:=
 if eo g&&eD r then
  if !(cC x r.key r.val).2.2&&x.kind != 8 then (cs,[],true)
  else if !(ct x.kind cs ⟨r.op,r.bh.a7,r.key,r.val⟩).2 then ((ct x.kind cs ⟨r.op,r.bh.a7,r.key,r.val⟩).1,[],true)
  else if x.kind=7 then
   ((ct x.kind cs ⟨r.op,r.bh.a7,r.key,r.val⟩).1,(bif (eS r.bh).2 then e3 x (eS r.bh).1 (cC x r.key r.val).1 (cC x r.key r.val).2.1 else []),true)
  else ((ct x.kind cs ⟨r.op,r.bh.a7,r.key,r.val⟩).1,e3 x r.bh (cC x r.key r.val).1 (cC x r.key r.val).2.1,true)
 else (cs,[],false)
theorem zc(x:Node)(s:hT)(key val:Int){i:Nat}{k:Int}(h:x.outs[i]?=some k):(((x.outs.take (i+1)).map fun k=>(⟨k,s,key,val⟩:aE)).map aE.e)=(((x.outs.take i).map fun k=>(⟨k,s,key,val⟩:aE)).map aE.e)++[(⟨k,s,key,val⟩:aE).e]:=by
 simp[sS,h]
theorem S7(x:Node)(aa:x.outs.length<=8388608)(s:hT)(key val:Int)(jJ:List (List D)):c6 prog (av f176 0) (wZ x.kind x.a x.b (x.outs.map ba) key val jJ s.a7 s.dh 0 []) (.exit 0) (vq jJ ((e3 x s key val).map aE.e)):=by
 have l:=eR (P:=prog) (c:=(av f176 0)) (cL 0) x.outs.length (fun i:Nat=>wZ x.kind x.a x.b (x.outs.map ba) key val jJ s.a7 s.dh i (((x.outs.take i).map fun k=>(⟨k,s,key,val⟩:aE)).map aE.e)) (fun i hi=>by
  obtain⟨k,hk⟩:=dm hi;rw[zc x s key val hk];exact abI ⟨b4 hi,bH,bL hi,bI ba hk,by simp;omega,by simp;omega,dY (aE.flat ⟨k,s,key,val⟩),du hi aa,ae⟩) (abJ ⟨ec,ae⟩)
 rw[k6]at l;exact l
theorem S8(x:Node)(aa:x.outs.length<=8388608)(s:hT)(key val:Int)(jJ:List (List D)):c6 prog (av f176 0) (w2 s.a7 s.dh x.kind x.a x.b (x.outs.map ba) key val jJ 0 []) (.exit 0) (vq jJ ((e3 x s key val).map aE.e)):=by
 have l:=eR (P:=prog) (c:=(av f176 0)) (cL 0) x.outs.length (fun i:Nat=>w2 s.a7 s.dh x.kind x.a x.b (x.outs.map ba) key val jJ i (((x.outs.take i).map fun k=>(⟨k,s,key,val⟩:aE)).map aE.e)) (fun i hi=>by
  obtain⟨k,hk⟩:=dm hi;rw[zc x s key val hk];exact abL ⟨b4 hi,bH,bL hi,bI ba hk,by simp;omega,by simp;omega,dY (aE.flat ⟨k,s,key,val⟩),du hi aa,ae⟩) (abM ⟨ec,ae⟩)
 rw[k6]at l;exact l
theorem S9(x:Node)(aa:x.outs.length<=8388608)(s:hT)(key val:Int)(jJ:List (List D)):c6 prog (av f176 0) (w3 jJ x.kind x.a x.b (x.outs.map ba) key val s.a7 s.dh 0 []) (.exit 0) (vr jJ ((e3 x s key val).map aE.e)):=by
 have l:=eR (P:=prog) (c:=(av f176 0)) (cL 0) x.outs.length (fun i:Nat=>w3 jJ x.kind x.a x.b (x.outs.map ba) key val s.a7 s.dh i (((x.outs.take i).map fun k=>(⟨k,s,key,val⟩:aE)).map aE.e)) (fun i hi=>by
  obtain⟨k,hk⟩:=dm hi;rw[zc x s key val hk];exact abe ⟨b4 hi,bH,bL hi,bI ba hk,by simp;omega,by simp;omega,dY (aE.flat ⟨k,s,key,val⟩),du hi aa,ae⟩) (abf ⟨ec,ae⟩)
 rw[k6]at l;exact l
theorem S'(x:Node)(aa:x.outs.length<=8388608)(s:hT)(key val:Int)(jJ:List (List D)):c6 prog (av f176 0) (w4 jJ s.a7 s.dh x.kind x.a x.b (x.outs.map ba) key val 0 []) (.exit 0) (vr jJ ((e3 x s key val).map aE.e)):=by
 have l:=eR (P:=prog) (c:=(av f176 0)) (cL 0) x.outs.length (fun i:Nat=>w4 jJ s.a7 s.dh x.kind x.a x.b (x.outs.map ba) key val i (((x.outs.take i).map fun k=>(⟨k,s,key,val⟩:aE)).map aE.e)) (fun i hi=>by
  obtain⟨k,hk⟩:=dm hi;rw[zc x s key val hk];exact abh ⟨b4 hi,bH,bL hi,bI ba hk,by simp;omega,by simp;omega,dY (aE.flat ⟨k,s,key,val⟩),du hi aa,ae⟩) (abi ⟨ec,ae⟩)
 rw[k6]at l;exact l
theorem Ta(x:Node)(aa:x.outs.length<=8388608)(s:hT)(key val:Int)(jJ:List (List D)):c6 prog (av f232 0) (xx s.a7 s.dh (x.outs.map ba) key val jJ 0 []) (.exit 0) (vt jJ ((e3 x s key val).map aE.e)):=by
 have l:=eR (P:=prog) (c:=(av f232 0)) (cL 0) x.outs.length (fun i:Nat=>xx s.a7 s.dh (x.outs.map ba) key val jJ i (((x.outs.take i).map fun k=>(⟨k,s,key,val⟩:aE)).map aE.e)) (fun i hi=>by
  obtain⟨k,hk⟩:=dm hi;rw[zc x s key val hk];exact ac1 ⟨b4 hi,bH,bL hi,bI ba hk,rfl,by simp;omega,by simp;omega,dY (aE.flat ⟨k,s,key,val⟩),du hi aa,ae⟩) (ac2 ⟨ec,ae⟩)
 rw[k6]at l;exact l
theorem Tb(x:Node)(aa:x.outs.length<=8388608)(b:Bool)(s:hT)(key val:Int)(jJ:List (List D)):c6 prog (av f232 0) (sx (x.outs.map ba) key val jJ s.a7 s.dh b 0 []) (.exit 0) (vt jJ ((bif b then e3 x s key val else []).map aE.e)):=by
 cases b with
 | true=>
  have l:=eR (P:=prog) (c:=(av f232 0)) (cL 0) x.outs.length (fun i:Nat=>sx (x.outs.map ba) key val jJ s.a7 s.dh true i (((x.outs.take i).map fun k=>(⟨k,s,key,val⟩:aE)).map aE.e)) (fun i hi=>by
   obtain⟨k,hk⟩:=dm hi;rw[zc x s key val hk];exact acY ⟨b4 hi,bH,bL hi,bI ba hk,rfl,by simp;omega,by simp;omega,dY (aE.flat ⟨k,s,key,val⟩),du hi aa,ae⟩) (S2 ⟨ec,ae⟩)
  rw[k6]at l;exact l
 | false=>
  exact eR (P:=prog) (c:=(av f232 0)) (cL 0) x.outs.length (fun i:Nat=>sx (x.outs.map ba) key val jJ s.a7 s.dh false i []) (fun i hi=>by
   obtain⟨k,hk⟩:=dm hi;exact acZ ⟨b4 hi,bH,bL hi,bI ba hk,rfl,du hi aa,ae⟩) (S2 ⟨ec,ae⟩)
theorem acq(g:b0)(cs:List Cell)(r:aE)(x:Node)(ar:g.sz<=8388608)(aj:cs.length<=8388608)(aK:fK g r.op=some x):aw 176 [.agg g.e,.one (.J 4 (cs.map Cell.e)),.agg r.e] [.one (.J 4 ((dS g cs r x).1.map Cell.e)),.one (.J 5 ((dS g cs r x).2.1.map aE.e)),.one (B (dS g cs r x).2.2)]:=by
 have aa:=b0.Bw ar (Ms aK);obtain⟨mL,q2,_,_⟩:=Fq aK;have dy:g.nodes[r.op.toNat]?=some x:=by have:=aK;unfold fK at this;rwa[aZ mL]at this
 have c1:=Ft g r.op (x,true) (by unfold ve;rw[aK]) ar;have c2:=Fu g ar;rcases cN (eo g) with ax | ax
 ·skip
  have ez:=tW r;rcases cN (eD r) with aQ | aQ
  ·skip
   have hV:=abq x r.key r.val aa;rcases cN ((cC x r.key r.val).2.2) with bN | bN
   ·skip
    have nv:=S3 x.kind;rcases cN (gI x.kind) with ej | ej
    ·skip
     have yn:=S5 x.kind cs (⟨r.op,r.bh.a7,r.key,r.val⟩:Cell) (by omega);rcases cN ((ct x.kind cs (⟨r.op,r.bh.a7,r.key,r.val⟩:Cell)).2) with iJ | iJ
     ·skip
      rcases cN (x.kind==7) with jc | jc
      ·skip
       have n4:=zJ r.bh;rcases cN ((eS r.bh).2) with me | me
       ·skip
        
        rw[show dS g cs r x=(((ct x.kind cs (⟨r.op,r.bh.a7,r.key,r.val⟩:Cell)).1),(e3 x ((eS r.bh).1) ((cC x r.key r.val).1) ((cC x r.key r.val).2.1)),true) from by grind[dS,gI,ct]];exact acQ ⟨(by first | omega | (simp only[bk,bY];omega) | exact cd _ Cell.flat _ | grind[aC]),(by first | omega | (simp only[bk,bY];omega) | exact cd _ Cell.flat _ | grind[aC]),(by first | omega | (simp only[bk,bY];omega) | exact cd _ Cell.flat _ | grind[aC]),c1,rfl,c2,(by rw[ax];rfl),ez,(by rw[aQ];rfl),hV,(by rw[bN];rfl),nv,ej,yn,(by rw[iJ];rfl),jc,n4,(by rw[me];rfl),(S7 x aa ((eS r.bh).1) ((cC x r.key r.val).1) ((cC x r.key r.val).2.1) _),ae⟩
       skip
       rw[show dS g cs r x=(((ct x.kind cs (⟨r.op,r.bh.a7,r.key,r.val⟩:Cell)).1),([]:List aE),true) from by grind[dS,gI,ct]];exact abl ⟨(by first | omega | (simp only[bk,bY];omega) | exact cd _ Cell.flat _ | grind[aC]),(by first | omega | (simp only[bk,bY];omega) | exact cd _ Cell.flat _ | grind[aC]),(by first | omega | (simp only[bk,bY];omega) | exact cd _ Cell.flat _ | grind[aC]),c1,rfl,c2,(by rw[ax];rfl),ez,(by rw[aQ];rfl),hV,(by rw[bN];rfl),nv,ej,yn,(by rw[iJ];rfl),jc,n4,(by rw[me];rfl),ae⟩
      skip
      
      rw[show dS g cs r x=(((ct x.kind cs (⟨r.op,r.bh.a7,r.key,r.val⟩:Cell)).1),(e3 x r.bh ((cC x r.key r.val).1) ((cC x r.key r.val).2.1)),true) from by grind[dS,gI,ct]];exact acR ⟨(by first | omega | (simp only[bk,bY];omega) | exact cd _ Cell.flat _ | grind[aC]),(by first | omega | (simp only[bk,bY];omega) | exact cd _ Cell.flat _ | grind[aC]),(by first | omega | (simp only[bk,bY];omega) | exact cd _ Cell.flat _ | grind[aC]),c1,rfl,c2,(by rw[ax];rfl),ez,(by rw[aQ];rfl),hV,(by rw[bN];rfl),nv,ej,yn,(by rw[iJ];rfl),jc,(S8 x aa r.bh ((cC x r.key r.val).1) ((cC x r.key r.val).2.1) _),ae⟩
     skip
     rw[show dS g cs r x=(((ct x.kind cs (⟨r.op,r.bh.a7,r.key,r.val⟩:Cell)).1),([]:List aE),true) from by grind[dS,gI,ct]];exact abk ⟨(by first | omega | (simp only[bk,bY];omega) | exact cd _ Cell.flat _ | grind[aC]),(by first | omega | (simp only[bk,bY];omega) | exact cd _ Cell.flat _ | grind[aC]),(by first | omega | (simp only[bk,bY];omega) | exact cd _ Cell.flat _ | grind[aC]),c1,rfl,c2,(by rw[ax];rfl),ez,(by rw[aQ];rfl),hV,(by rw[bN];rfl),nv,ej,yn,(by rw[iJ];rfl),ae⟩
    skip
    rcases cN (x.kind==7) with kp | kp
    ·skip
     have DO:=zJ r.bh;rcases cN ((eS r.bh).2) with rY | rY
     ·skip
      
      rw[show dS g cs r x=(cs,(e3 x ((eS r.bh).1) ((cC x r.key r.val).1) ((cC x r.key r.val).2.1)),true) from by grind[dS,gI,ct]];exact acT ⟨(by first | omega | (simp only[bk,bY];omega) | exact cd _ Cell.flat _ | grind[aC]),(by first | omega | (simp only[bk,bY];omega) | exact cd _ Cell.flat _ | grind[aC]),(by first | omega | (simp only[bk,bY];omega) | exact cd _ Cell.flat _ | grind[aC]),c1,rfl,c2,(by rw[ax];rfl),ez,(by rw[aQ];rfl),hV,(by rw[bN];rfl),nv,ej,kp,DO,(by rw[rY];rfl),(S9 x aa ((eS r.bh).1) ((cC x r.key r.val).1) ((cC x r.key r.val).2.1) _),ae⟩
     skip
     rw[show dS g cs r x=(cs,([]:List aE),true) from by grind[dS,gI,ct]];exact acS ⟨(by first | omega | (simp only[bk,bY];omega) | exact cd _ Cell.flat _ | grind[aC]),(by first | omega | (simp only[bk,bY];omega) | exact cd _ Cell.flat _ | grind[aC]),(by first | omega | (simp only[bk,bY];omega) | exact cd _ Cell.flat _ | grind[aC]),c1,rfl,c2,(by rw[ax];rfl),ez,(by rw[aQ];rfl),hV,(by rw[bN];rfl),nv,ej,kp,DO,(by rw[rY];rfl),ae⟩
    skip
    
    rw[show dS g cs r x=(cs,(e3 x r.bh ((cC x r.key r.val).1) ((cC x r.key r.val).2.1)),true) from by grind[dS,gI,ct]];exact acU ⟨(by first | omega | (simp only[bk,bY];omega) | exact cd _ Cell.flat _ | grind[aC]),(by first | omega | (simp only[bk,bY];omega) | exact cd _ Cell.flat _ | grind[aC]),(by first | omega | (simp only[bk,bY];omega) | exact cd _ Cell.flat _ | grind[aC]),c1,rfl,c2,(by rw[ax];rfl),ez,(by rw[aQ];rfl),hV,(by rw[bN];rfl),nv,ej,kp,(S' x aa r.bh ((cC x r.key r.val).1) ((cC x r.key r.val).2.1) _),ae⟩
   skip
   rcases cN (x.kind != 8) with hI | hI
   ·skip
    rw[show dS g cs r x=(cs,([]:List aE),true) from by grind[dS,gI,ct]];exact abF ⟨(by first | omega | (simp only[bk,bY];omega) | exact cd _ Cell.flat _ | grind[aC]),(by first | omega | (simp only[bk,bY];omega) | exact cd _ Cell.flat _ | grind[aC]),(by first | omega | (simp only[bk,bY];omega) | exact cd _ Cell.flat _ | grind[aC]),c1,rfl,c2,(by rw[ax];rfl),ez,(by rw[aQ];rfl),hV,(by rw[bN];rfl),hI,ae⟩
   skip
   have j4:=S3 x.kind;rcases cN (gI x.kind) with fq | fq
   ·skip
    have n5:=S5 x.kind cs (⟨r.op,r.bh.a7,r.key,r.val⟩:Cell) (by omega);rcases cN ((ct x.kind cs (⟨r.op,r.bh.a7,r.key,r.val⟩:Cell)).2) with mf | mf
    ·skip
     rcases cN (x.kind==7) with kN | kN
     ·skip
      have OP:=zJ r.bh;rcases cN ((eS r.bh).2) with qJ | qJ
      ·skip
       
       rw[show dS g cs r x=(((ct x.kind cs (⟨r.op,r.bh.a7,r.key,r.val⟩:Cell)).1),(e3 x ((eS r.bh).1) ((cC x r.key r.val).1) ((cC x r.key r.val).2.1)),true) from by grind[dS,gI,ct]];exact abK ⟨(by first | omega | (simp only[bk,bY];omega) | exact cd _ Cell.flat _ | grind[aC]),(by first | omega | (simp only[bk,bY];omega) | exact cd _ Cell.flat _ | grind[aC]),(by first | omega | (simp only[bk,bY];omega) | exact cd _ Cell.flat _ | grind[aC]),c1,rfl,c2,(by rw[ax];rfl),ez,(by rw[aQ];rfl),hV,(by rw[bN];rfl),hI,j4,fq,n5,(by rw[mf];rfl),kN,OP,(by rw[qJ];rfl),(S7 x aa ((eS r.bh).1) ((cC x r.key r.val).1) ((cC x r.key r.val).2.1) _),ae⟩
      skip
      rw[show dS g cs r x=(((ct x.kind cs (⟨r.op,r.bh.a7,r.key,r.val⟩:Cell)).1),([]:List aE),true) from by grind[dS,gI,ct]];exact abH ⟨(by first | omega | (simp only[bk,bY];omega) | exact cd _ Cell.flat _ | grind[aC]),(by first | omega | (simp only[bk,bY];omega) | exact cd _ Cell.flat _ | grind[aC]),(by first | omega | (simp only[bk,bY];omega) | exact cd _ Cell.flat _ | grind[aC]),c1,rfl,c2,(by rw[ax];rfl),ez,(by rw[aQ];rfl),hV,(by rw[bN];rfl),hI,j4,fq,n5,(by rw[mf];rfl),kN,OP,(by rw[qJ];rfl),ae⟩
     skip
     
     rw[show dS g cs r x=(((ct x.kind cs (⟨r.op,r.bh.a7,r.key,r.val⟩:Cell)).1),(e3 x r.bh ((cC x r.key r.val).1) ((cC x r.key r.val).2.1)),true) from by grind[dS,gI,ct]];exact abb ⟨(by first | omega | (simp only[bk,bY];omega) | exact cd _ Cell.flat _ | grind[aC]),(by first | omega | (simp only[bk,bY];omega) | exact cd _ Cell.flat _ | grind[aC]),(by first | omega | (simp only[bk,bY];omega) | exact cd _ Cell.flat _ | grind[aC]),c1,rfl,c2,(by rw[ax];rfl),ez,(by rw[aQ];rfl),hV,(by rw[bN];rfl),hI,j4,fq,n5,(by rw[mf];rfl),kN,(S8 x aa r.bh ((cC x r.key r.val).1) ((cC x r.key r.val).2.1) _),ae⟩
    skip
    rw[show dS g cs r x=(((ct x.kind cs (⟨r.op,r.bh.a7,r.key,r.val⟩:Cell)).1),([]:List aE),true) from by grind[dS,gI,ct]];exact abG ⟨(by first | omega | (simp only[bk,bY];omega) | exact cd _ Cell.flat _ | grind[aC]),(by first | omega | (simp only[bk,bY];omega) | exact cd _ Cell.flat _ | grind[aC]),(by first | omega | (simp only[bk,bY];omega) | exact cd _ Cell.flat _ | grind[aC]),c1,rfl,c2,(by rw[ax];rfl),ez,(by rw[aQ];rfl),hV,(by rw[bN];rfl),hI,j4,fq,n5,(by rw[mf];rfl),ae⟩
   skip
   rcases cN (x.kind==7) with qK | qK
   ·skip
    have OQ:=zJ r.bh;rcases cN ((eS r.bh).2) with oW | oW
    ·skip
     
     rw[show dS g cs r x=(cs,(e3 x ((eS r.bh).1) ((cC x r.key r.val).1) ((cC x r.key r.val).2.1)),true) from by grind[dS,gI,ct]];exact abg ⟨(by first | omega | (simp only[bk,bY];omega) | exact cd _ Cell.flat _ | grind[aC]),(by first | omega | (simp only[bk,bY];omega) | exact cd _ Cell.flat _ | grind[aC]),(by first | omega | (simp only[bk,bY];omega) | exact cd _ Cell.flat _ | grind[aC]),c1,rfl,c2,(by rw[ax];rfl),ez,(by rw[aQ];rfl),hV,(by rw[bN];rfl),hI,j4,fq,qK,OQ,(by rw[oW];rfl),(S9 x aa ((eS r.bh).1) ((cC x r.key r.val).1) ((cC x r.key r.val).2.1) _),ae⟩
    skip
    rw[show dS g cs r x=(cs,([]:List aE),true) from by grind[dS,gI,ct]];exact abd ⟨(by first | omega | (simp only[bk,bY];omega) | exact cd _ Cell.flat _ | grind[aC]),(by first | omega | (simp only[bk,bY];omega) | exact cd _ Cell.flat _ | grind[aC]),(by first | omega | (simp only[bk,bY];omega) | exact cd _ Cell.flat _ | grind[aC]),c1,rfl,c2,(by rw[ax];rfl),ez,(by rw[aQ];rfl),hV,(by rw[bN];rfl),hI,j4,fq,qK,OQ,(by rw[oW];rfl),ae⟩
   skip
   
   rw[show dS g cs r x=(cs,(e3 x r.bh ((cC x r.key r.val).1) ((cC x r.key r.val).2.1)),true) from by grind[dS,gI,ct]];exact abj ⟨(by first | omega | (simp only[bk,bY];omega) | exact cd _ Cell.flat _ | grind[aC]),(by first | omega | (simp only[bk,bY];omega) | exact cd _ Cell.flat _ | grind[aC]),(by first | omega | (simp only[bk,bY];omega) | exact cd _ Cell.flat _ | grind[aC]),c1,rfl,c2,(by rw[ax];rfl),ez,(by rw[aQ];rfl),hV,(by rw[bN];rfl),hI,j4,fq,qK,(S' x aa r.bh ((cC x r.key r.val).1) ((cC x r.key r.val).2.1) _),ae⟩
  skip
  rw[show dS g cs r x=(cs,([]:List aE),false) from by grind[dS,gI,ct]];exact abE ⟨(by first | omega | (simp only[bk,bY];omega) | exact cd _ Cell.flat _ | grind[aC]),(by first | omega | (simp only[bk,bY];omega) | exact cd _ Cell.flat _ | grind[aC]),(by first | omega | (simp only[bk,bY];omega) | exact cd _ Cell.flat _ | grind[aC]),c1,rfl,c2,(by rw[ax];rfl),ez,(by rw[aQ];rfl),ae⟩
 skip
 rw[show dS g cs r x=(cs,([]:List aE),false) from by grind[dS,gI,ct]];exact abD ⟨(by first | omega | (simp only[bk,bY];omega) | exact cd _ Cell.flat _ | grind[aC]),(by first | omega | (simp only[bk,bY];omega) | exact cd _ Cell.flat _ | grind[aC]),(by first | omega | (simp only[bk,bY];omega) | exact cd _ Cell.flat _ | grind[aC]),c1,rfl,c2,(by rw[ax];rfl),ae⟩
theorem acr(g:b0)(cs:List Cell)(r:aE)(x:Node)(ar:g.sz<=8388608)(aj:cs.length<=8388608)(aK:fK g r.op=some x):aw 232 [.agg g.e,.one (.J 4 (cs.map Cell.e)),.agg r.e] [.one (.J 4 ((dS g cs r x).1.map Cell.e)),.one (.J 5 ((dS g cs r x).2.1.map aE.e)),.one (B (dS g cs r x).2.2)]:=by
 have aa:=b0.Bw ar (Ms aK);obtain⟨mL,q2,_,_⟩:=Fq aK;have dy:g.nodes[r.op.toNat]?=some x:=by have:=aK;unfold fK at this;rwa[aZ mL]at this
 have c1:=zb g ar;rcases cN (eo g) with U | U
 ·skip
  have cH:=vp r;rcases cN (eD r) with aF | aF
  ·skip
   have gY:=zI g r.op true (by rw[aK];rfl) ar;have hV:=abr x r.key r.val aa;rcases cN ((cC x r.key r.val).2.2) with bN | bN
   ·skip
    have nv:=S6 x.kind cs (⟨r.op,r.bh.a7,r.key,r.val⟩:Cell) (by omega);rcases cN ((ct x.kind cs (⟨r.op,r.bh.a7,r.key,r.val⟩:Cell)).2) with ej | ej
    ·skip
     rcases cN (x.kind==7) with dU | dU
     ·skip
      have qz:=Mz r.bh
      
      rw[show dS g cs r x=(((ct x.kind cs (⟨r.op,r.bh.a7,r.key,r.val⟩:Cell)).1),(bif (eS r.bh).2 then e3 x ((eS r.bh).1) ((cC x r.key r.val).1) ((cC x r.key r.val).2.1) else []),true) from by grind[dS,gI,ct]];exact ac5 ⟨c1,(by rw[U];rfl),cH,(by rw[aF];rfl),gY,rfl,(by first | omega | (simp only[bk,bY];omega) | exact cd _ Cell.flat _ | grind[aC]),(by first | omega | (simp only[bk,bY];omega) | exact cd _ Cell.flat _ | grind[aC]),(bJ Node.e dy),hV,(by rw[bN];rfl),nv,(by rw[ej];rfl),dU,qz,(Tb x aa ((eS r.bh).2) ((eS r.bh).1) ((cC x r.key r.val).1) ((cC x r.key r.val).2.1) _),ae⟩
     skip
     
     rw[show dS g cs r x=(((ct x.kind cs (⟨r.op,r.bh.a7,r.key,r.val⟩:Cell)).1),(e3 x r.bh ((cC x r.key r.val).1) ((cC x r.key r.val).2.1)),true) from by grind[dS,gI,ct]];exact ac6 ⟨c1,(by rw[U];rfl),cH,(by rw[aF];rfl),gY,rfl,(by first | omega | (simp only[bk,bY];omega) | exact cd _ Cell.flat _ | grind[aC]),(by first | omega | (simp only[bk,bY];omega) | exact cd _ Cell.flat _ | grind[aC]),(bJ Node.e dy),hV,(by rw[bN];rfl),nv,(by rw[ej];rfl),dU,(Ta x aa r.bh ((cC x r.key r.val).1) ((cC x r.key r.val).2.1) _),ae⟩
    skip
    rw[show dS g cs r x=(((ct x.kind cs (⟨r.op,r.bh.a7,r.key,r.val⟩:Cell)).1),([]:List aE),true) from by grind[dS,gI,ct]];exact ac4 ⟨c1,(by rw[U];rfl),cH,(by rw[aF];rfl),gY,rfl,(by first | omega | (simp only[bk,bY];omega) | exact cd _ Cell.flat _ | grind[aC]),(by first | omega | (simp only[bk,bY];omega) | exact cd _ Cell.flat _ | grind[aC]),(bJ Node.e dy),hV,(by rw[bN];rfl),nv,(by rw[ej];rfl),ae⟩
   skip
   rcases cN (x.kind != 8) with jc | jc
   ·skip
    have n4:=vd cs (by omega);rw[show dS g cs r x=(cs,([]:List aE),true) from by grind[dS,gI,ct]];exact acW ⟨c1,(by rw[U];rfl),cH,(by rw[aF];rfl),gY,rfl,(by first | omega | (simp only[bk,bY];omega) | exact cd _ Cell.flat _ | grind[aC]),(by first | omega | (simp only[bk,bY];omega) | exact cd _ Cell.flat _ | grind[aC]),(bJ Node.e dy),hV,(by rw[bN];rfl),jc,n4,ae⟩
   skip
   have HM:=S6 x.kind cs (⟨r.op,r.bh.a7,r.key,r.val⟩:Cell) (by omega);rcases cN ((ct x.kind cs (⟨r.op,r.bh.a7,r.key,r.val⟩:Cell)).2) with kp | kp
   ·skip
    rcases cN (x.kind==7) with cA | cA
    ·skip
     have mF:=Mz r.bh
     
     rw[show dS g cs r x=(((ct x.kind cs (⟨r.op,r.bh.a7,r.key,r.val⟩:Cell)).1),(bif (eS r.bh).2 then e3 x ((eS r.bh).1) ((cC x r.key r.val).1) ((cC x r.key r.val).2.1) else []),true) from by grind[dS,gI,ct]];exact ac0 ⟨c1,(by rw[U];rfl),cH,(by rw[aF];rfl),gY,rfl,(by first | omega | (simp only[bk,bY];omega) | exact cd _ Cell.flat _ | grind[aC]),(by first | omega | (simp only[bk,bY];omega) | exact cd _ Cell.flat _ | grind[aC]),(bJ Node.e dy),hV,(by rw[bN];rfl),jc,HM,(by rw[kp];rfl),cA,mF,(Tb x aa ((eS r.bh).2) ((eS r.bh).1) ((cC x r.key r.val).1) ((cC x r.key r.val).2.1) _),ae⟩
    skip
    
    rw[show dS g cs r x=(((ct x.kind cs (⟨r.op,r.bh.a7,r.key,r.val⟩:Cell)).1),(e3 x r.bh ((cC x r.key r.val).1) ((cC x r.key r.val).2.1)),true) from by grind[dS,gI,ct]];exact ac3 ⟨c1,(by rw[U];rfl),cH,(by rw[aF];rfl),gY,rfl,(by first | omega | (simp only[bk,bY];omega) | exact cd _ Cell.flat _ | grind[aC]),(by first | omega | (simp only[bk,bY];omega) | exact cd _ Cell.flat _ | grind[aC]),(bJ Node.e dy),hV,(by rw[bN];rfl),jc,HM,(by rw[kp];rfl),cA,(Ta x aa r.bh ((cC x r.key r.val).1) ((cC x r.key r.val).2.1) _),ae⟩
   skip
   rw[show dS g cs r x=(((ct x.kind cs (⟨r.op,r.bh.a7,r.key,r.val⟩:Cell)).1),([]:List aE),true) from by grind[dS,gI,ct]];exact acX ⟨c1,(by rw[U];rfl),cH,(by rw[aF];rfl),gY,rfl,(by first | omega | (simp only[bk,bY];omega) | exact cd _ Cell.flat _ | grind[aC]),(by first | omega | (simp only[bk,bY];omega) | exact cd _ Cell.flat _ | grind[aC]),(bJ Node.e dy),hV,(by rw[bN];rfl),jc,HM,(by rw[kp];rfl),ae⟩
  skip
  have Yc:=vd cs (by omega);rw[show dS g cs r x=(cs,([]:List aE),false) from by grind[dS,gI,ct]];exact S1 ⟨c1,(by rw[U];rfl),cH,(by rw[aF];rfl),Yc,ae⟩
 skip
 have j4:=vd cs (by omega);rw[show dS g cs r x=(cs,([]:List aE),false) from by grind[dS,gI,ct]];exact S0 ⟨c1,(by rw[U];rfl),j4,ae⟩
