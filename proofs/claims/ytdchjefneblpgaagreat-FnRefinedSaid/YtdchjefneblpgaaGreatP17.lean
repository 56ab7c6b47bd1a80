import Derived.Test.YtdchjefneblpgaaGreatP16
import Derived.Test.YtdchjefneblpgaaGreatGS
set_option linter.unusedVariables false
set_option linter.unusedSimpArgs false
namespace Go.Proofs.YtdchjefneblpgaaGreat
open Go.Sx Go.RowKit Go.Proofs.Tryz
theorem aj1{P:Program}{f:Nat}{args:List GA}{k:Nat}{l hz:List (List D)}(h:jo P f args [.one (.J k l)])(ap:l=hz):jo P f args [.one (.J k hz)]:=ap▸h
theorem Mh(xs:List Cell)(p:Cell->Bool)(g:Nat)(bx:List D)(ap:xs.length<=8388608)(aj:hD prog g=true)(hp:∀x∈xs,∀r,p x=r->al g ([.agg x.e]++bx.map .one) [.one (B r)]):
  ∀(n i:Nat) (ys:List Cell),n+i=xs.length->ys.length=xs.length->ys.drop i=xs.drop i->ys.take ((xs.take i).filter fun a=>!p a).length=(xs.take i).filter (fun a=>!p a)->
  ∃zs:List Cell,c5 prog (ar f345 0) (vv g bx i ((xs.take i).filter fun a=>!p a).length (ys.map Cell.e)) (.exit 0) (MY (zs.map Cell.e) (xs.filter fun a=>!p a).length)/\zs.length=xs.length/\zs.take (xs.filter fun a=>!p a).length=xs.filter (fun a=>!p a)
 | 0,i,ys,hi,bf,_,bT=>by
  have e:xs.take i=xs:=sS (by omega);rw[e]at bT ⊢;exact⟨ys,.last (cH 0) (ayL ⟨dQ (by simp;omega),aa⟩),bf,bT⟩
 | n+1,i,ys,hi,bf,aG,bT=>by
  obtain⟨a,ak⟩:=c9 (xs:=xs) (i:=i) (by omega);have RX:ys[i]?=some a:=by
   have e1:ys[i]?=(ys.drop i)[0]?:=by simp
   have e2:xs[i]?=(xs.drop i)[0]?:=by simp
   rw[e1,aG,<-e2,ak]
  have b2:=zj (fun a=>!p a) ak;have hle:=Fs (fun a=>!p a) xs i;have wF:ys.drop (i+1)=xs.drop (i+1):=by
   have:=congrArg (List.drop 1) aG;simpa[List.drop_drop,Nat.add_comm]using this
  cases h:p a with
  | true=>
   rw[h]at b2;simp only[jC,nY,lP,kE]at b2;obtain⟨zs,h1,U,ax⟩:=Mh xs p g bx ap aj hp n (i+1) ys (by omega) bf wF (by rw[b2];exact bT);rw[b2]at h1;exact⟨zs,.more (ayK ⟨dt (by simp;omega),bD,by simp;omega,bE Cell.e RX,aj,hp a (eD ak) true h,rfl,⟨by omega,by omega⟩,aa⟩) h1,U,ax⟩
  | false=>
   rw[h]at b2;simp only[oN,fX]at b2;generalize a1:((xs.take i).filter fun a=>!p a).length=j at*;obtain⟨b,av⟩:=c9 (xs:=ys) (i:=j) (by omega);obtain⟨zs,h1,U,ax⟩:=Mh xs p g bx ap aj hp n (i+1) (ys.set j a) (by omega) (by simpa using bf) (by rw[List.drop_set_of_lt (by omega)];exact wF) (by
    rw[b2,fF,a1,List.length_singleton,List.take_set,<-bT];have jF:j<ys.length:=by omega
    rw[List.take_succ_eq_append_getElem jF,List.set_append_right _ _ (by simp;omega)];simp[ma,Nat.min_eq_left (Nat.le_of_lt jF)])
   rw[b2,fF,a1,List.length_singleton]at h1;refine⟨zs,.more (rJ (fun l=>vv g bx ((i+1:Nat):Int) ((j+1:Nat):Int) l) (ayJ ⟨dt (by simp;omega),bD,by simp;omega,bE Cell.e RX,aj,hp a (eD ak) false h,rfl,bD,by simp;omega,bE Cell.e av,⟨by omega,by omega⟩,⟨by omega,by omega⟩,aa⟩) ?_) h1,U,ax⟩;show List.set _ _ a.e=_;rw[k7,<-h6]
theorem aj2(xs:List Cell)(p:Cell->Bool)(g:Nat)(bx:List D)(ap:xs.length<=8388608)(aj:hD prog g=true)(hp:∀x∈xs,al g ([.agg x.e]++bx.map .one) [.one (B (p x))]):
  jo prog 345 [.one (.eO 4 (xs.map Cell.e) none),.one (.ro (.cl g bx))] [.one (.J 4 ((xs.filter fun a=>!p a).map Cell.e))]:=by
 have mj:∀x∈xs,∀r,p x=r->al g ([.agg x.e]++bx.map .one) [.one (B r)]:=fun x ah r h=>h▸hp x ah
 have lD:=azU xs p g bx ap aj hp;unfold mN at lD;cases h:xs.findIdx? p with
 | none=>
  rw[h]at lD;rw[ya]at h;have e:(xs.filter fun a=>!p a)=xs:=List.filter_eq_self.2 fun a ak=>by simp[h a ak]
  rw[e];exact ayI ⟨lD,rfl,aa⟩
 | some i=>
  rw[h]at lD;change jn _ _ _ [.one (I (i:Int))]at lD;rw[qs]at h;obtain⟨hi,U,ax⟩:=h;have ah:xs[i]?=some xs[i]:=fJ hi;have bu:(xs.take i).filter (fun a=>!p a)=xs.take i:=List.filter_eq_self.2 fun a ak=>by
   obtain⟨j,a1,rfl⟩:=List.getElem_of_mem ak;have o6:j<i:=by simp at a1;omega
   have:=ax j o6;simpa using this
  have e1:=zj (fun a=>!p a) ah;rw[U]at e1;simp only[jC,nY,lP,kE]at e1;rw[bu]at e1;have e2:(xs.take i).length=i:=by rw[ma];omega
  obtain⟨zs,l,bi,bT⟩:=Mh xs p g bx ap aj mj (xs.length-(i+1)) (i+1) xs (by omega) rfl rfl (by rw[e1,e2]);rw[e1,e2]at l;have bz:(xs.filter fun a=>!p a).length<xs.length:=by
   have cg:xs.filter (fun a=>!p a)=xs.take i++(xs.drop (i+1)).filter fun a=>!p a:=by
    have:=Ak (i+1) xs;rw[<-this,List.filter_append,this,e1]
   rw[cg,fF,e2];have:=qw (fun a=>!p a) (xs.drop (i+1));rw[List.length_drop]at this;omega
  generalize xs.filter (fun a=>!p a)=eU at*;refine aj1 (ayM ⟨lD,sT.2 (by omega),⟨by omega,by omega⟩,l,by simp,by simp;omega,ch _ Cell.flat _,by simp,by simp,by simp;omega,aa⟩) ?_;simp only[il,k7,Nat.sub_zero,uu,<-pJ];rw[bT,HT (by simp),sS (by simp)]
def gQ(k:Int):Bool:=k==5||k==6||k==8
def kd(xs:List Cell)(x:Cell):List Cell×Bool:=
 if (ri xs x.op x.bd x.key).2&&decide ((ri xs x.op x.bd x.key).1<=x.val) then (xs,false) else (ll (xs.filter fun a=>!fo x a) x,true)
def dg(kind:Int)(xs:List Cell)(x:Cell):List Cell×Bool:=
 if kind=6 then (if pt xs x then (xs,false) else (ll xs x,true))
 else if kind=5\/kind=8 then kd xs x
 else (xs,true)
theorem Wu(k:Int):al 268 [.one (I k)] [.one (B (gQ k))]:=by
 rcases cS (k==5) with h1 | h1
 ·skip
  rw[show gQ k=true from by grind[gQ]];exact aAf ⟨h1,aa⟩
 skip
 rcases cS (k==6) with U | U
 ·skip
  rw[show gQ k=true from by grind[gQ]];exact aAg ⟨h1,U,aa⟩
 skip
 rw[show gQ k=(k==8) from by grind[gQ]];exact aAh ⟨h1,U,aa⟩
theorem Wv(xs:List Cell)(x:Cell)(ap:xs.length<=8388608):al 318 [.one (.J 4 (xs.map Cell.e)),.agg x.e] [.one (.J 4 ((kd xs x).1.map Cell.e)),.one (B (kd xs x).2)]:=by
 have c:=akC xs x.op x.bd x.key ap;have cB:=vD xs ap;have d:=aj2 xs (fo x) 346 [D.ptr x.e] ap (by kernel_rfl) (fun y _=>ayH ⟨Wp x y,aa⟩);have Sj:=UO (xs.filter fun a=>!fo x a) x (sW (qw ..) ap);unfold kd;generalize ri xs x.op x.bd x.key=m at*;obtain⟨v,f⟩:=m;cases f with
 | false=>exact ayV ⟨c,rfl,cB,d,Sj,aa⟩
 | true=>
  by_cases h:v<=x.val
  ·rw[dt h];exact ayT ⟨c,rfl,dt h,cB,aa⟩
  rw[dQ h];exact ayU ⟨c,rfl,dQ h,cB,d,Sj,aa⟩
theorem aj3(xs acc:List Cell)(x:Cell)(ap:xs.length<=8388608)(i:Nat)(aj:acc.length<=i)(a:Cell)(ak:xs[i]?=some a):fT prog (ar f269 0) (mu (xs.map Cell.e) x.op x.bd x.key x.val i (acc.map Cell.e)) .normal (mu (xs.map Cell.e) x.op x.bd x.key x.val ((i+1:Nat):Int) ((acc++(bif fo x a then [] else [a])).map Cell.e)):=by
 have a1:=aT ak;have ck:xs[(i:Int).toNat]?=some a:=by simpa using ak
 have eL:decide ((i:Int)<(↑(xs.map Cell.e).length:Int))=true:=b5 a1;rcases cS (a.op != x.op) with h1 | h1
 ·skip
  have ao:fo x a=false:=by grind[fo]
  rw[ao];rw[show (acc++(bif false then [] else [a])).map Cell.e=acc.map Cell.e++[a.e] from by simp];exact aAl ⟨eL,(by first | omega | (simp only[bl,eh,b7];omega) | exact dD a.flat | (exact⟨by omega,by omega⟩)),(by first | omega | (simp only[bl,eh,b7];omega) | exact dD a.flat | (exact⟨by omega,by omega⟩)),(bN Cell.e ck),h1,(by first | omega | (simp only[bl,eh,b7];omega) | exact dD a.flat | (exact⟨by omega,by omega⟩)),(by first | omega | (simp only[bl,eh,b7];omega) | exact dD a.flat | (exact⟨by omega,by omega⟩)),(bN Cell.e ck),(by first | omega | (simp only[bl,eh,b7];omega) | exact dD a.flat | (exact⟨by omega,by omega⟩)),(by first | omega | (simp only[bl,eh,b7];omega) | exact dD a.flat | (exact⟨by omega,by omega⟩)),(by first | omega | (simp only[bl,eh,b7];omega) | exact dD a.flat | (exact⟨by omega,by omega⟩)),(by first | omega | (simp only[bl,eh,b7];omega) | exact dD a.flat | (exact⟨by omega,by omega⟩)),aa⟩
 skip
 rcases cS (a.bd != x.bd) with U | U
 ·skip
  have ao:fo x a=false:=by grind[fo]
  rw[ao];rw[show (acc++(bif false then [] else [a])).map Cell.e=acc.map Cell.e++[a.e] from by simp];exact aAm ⟨eL,(by first | omega | (simp only[bl,eh,b7];omega) | exact dD a.flat | (exact⟨by omega,by omega⟩)),(by first | omega | (simp only[bl,eh,b7];omega) | exact dD a.flat | (exact⟨by omega,by omega⟩)),(bN Cell.e ck),h1,(by first | omega | (simp only[bl,eh,b7];omega) | exact dD a.flat | (exact⟨by omega,by omega⟩)),(by first | omega | (simp only[bl,eh,b7];omega) | exact dD a.flat | (exact⟨by omega,by omega⟩)),(bN Cell.e ck),U,(by first | omega | (simp only[bl,eh,b7];omega) | exact dD a.flat | (exact⟨by omega,by omega⟩)),(by first | omega | (simp only[bl,eh,b7];omega) | exact dD a.flat | (exact⟨by omega,by omega⟩)),(bN Cell.e ck),(by first | omega | (simp only[bl,eh,b7];omega) | exact dD a.flat | (exact⟨by omega,by omega⟩)),(by first | omega | (simp only[bl,eh,b7];omega) | exact dD a.flat | (exact⟨by omega,by omega⟩)),(by first | omega | (simp only[bl,eh,b7];omega) | exact dD a.flat | (exact⟨by omega,by omega⟩)),(by first | omega | (simp only[bl,eh,b7];omega) | exact dD a.flat | (exact⟨by omega,by omega⟩)),aa⟩
 skip
 rcases cS (a.key != x.key) with ax | ax
 ·skip
  have ao:fo x a=false:=by grind[fo]
  rw[ao];rw[show (acc++(bif false then [] else [a])).map Cell.e=acc.map Cell.e++[a.e] from by simp];exact aAn ⟨eL,(by first | omega | (simp only[bl,eh,b7];omega) | exact dD a.flat | (exact⟨by omega,by omega⟩)),(by first | omega | (simp only[bl,eh,b7];omega) | exact dD a.flat | (exact⟨by omega,by omega⟩)),(bN Cell.e ck),h1,(by first | omega | (simp only[bl,eh,b7];omega) | exact dD a.flat | (exact⟨by omega,by omega⟩)),(by first | omega | (simp only[bl,eh,b7];omega) | exact dD a.flat | (exact⟨by omega,by omega⟩)),(bN Cell.e ck),U,(by first | omega | (simp only[bl,eh,b7];omega) | exact dD a.flat | (exact⟨by omega,by omega⟩)),(by first | omega | (simp only[bl,eh,b7];omega) | exact dD a.flat | (exact⟨by omega,by omega⟩)),(bN Cell.e ck),ax,(by first | omega | (simp only[bl,eh,b7];omega) | exact dD a.flat | (exact⟨by omega,by omega⟩)),(by first | omega | (simp only[bl,eh,b7];omega) | exact dD a.flat | (exact⟨by omega,by omega⟩)),(bN Cell.e ck),(by first | omega | (simp only[bl,eh,b7];omega) | exact dD a.flat | (exact⟨by omega,by omega⟩)),(by first | omega | (simp only[bl,eh,b7];omega) | exact dD a.flat | (exact⟨by omega,by omega⟩)),(by first | omega | (simp only[bl,eh,b7];omega) | exact dD a.flat | (exact⟨by omega,by omega⟩)),(by first | omega | (simp only[bl,eh,b7];omega) | exact dD a.flat | (exact⟨by omega,by omega⟩)),aa⟩
 skip
 have ao:fo x a=true:=by grind[fo]
 rw[ao];rw[show (acc++(bif true then [] else [a])).map Cell.e=acc.map Cell.e from by simp];exact azy ⟨eL,(by first | omega | (simp only[bl,eh,b7];omega) | exact dD a.flat | (exact⟨by omega,by omega⟩)),(by first | omega | (simp only[bl,eh,b7];omega) | exact dD a.flat | (exact⟨by omega,by omega⟩)),(bN Cell.e ck),h1,(by first | omega | (simp only[bl,eh,b7];omega) | exact dD a.flat | (exact⟨by omega,by omega⟩)),(by first | omega | (simp only[bl,eh,b7];omega) | exact dD a.flat | (exact⟨by omega,by omega⟩)),(bN Cell.e ck),U,(by first | omega | (simp only[bl,eh,b7];omega) | exact dD a.flat | (exact⟨by omega,by omega⟩)),(by first | omega | (simp only[bl,eh,b7];omega) | exact dD a.flat | (exact⟨by omega,by omega⟩)),(bN Cell.e ck),ax,(by first | omega | (simp only[bl,eh,b7];omega) | exact dD a.flat | (exact⟨by omega,by omega⟩)),aa⟩
theorem aj4(p:Cell->Bool){xs:List Cell}{i:Nat}{a:Cell}(h:xs[i]?=some a):(xs.take (i+1)).filter (fun b=>!p b)=(xs.take i).filter (fun b=>!p b)++(bif p a then [] else [a]):=by
 rw[zj _ h];cases p a<;>rfl
theorem Gk(xs:List Cell)(x:Cell)(ap:xs.length<=8388608):c5 prog (ar f269 0) (mu (xs.map Cell.e) x.op x.bd x.key x.val 0 []) (.exit 1) (zq x.op x.bd x.key x.val ((xs.filter fun a=>!fo x a).map Cell.e)):=by
 have l:=fC (P:=prog) (c:=(ar f269 0)) (cH 1) xs.length (fun i:Nat=>mu (xs.map Cell.e) x.op x.bd x.key x.val i (((xs.take i).filter fun a=>!fo x a).map Cell.e)) (fun i hi=>by
  obtain⟨a,ak⟩:=c9 hi;rw[aj4 (fo x) ak];exact aj3 xs _ x ap i (Fs _ xs i) a ak) (azz ⟨dT,aa⟩)
 rw[k5]at l;exact l
theorem Ww(kind:Int)(xs:List Cell)(x:Cell)(ap:xs.length<=8388608):al 269 [.one (I kind),.one (.J 4 (xs.map Cell.e)),.agg x.e] [.one (.J 4 (((dg kind xs x).1).map Cell.e)),.one (B ((dg kind xs x).2))]:=by
 have b2:=qw (fun a=>!fo x a) xs;rcases cS (kind==6) with h1 | h1
 ·skip
  have c2:=Vk xs x (by omega);rcases cS (pt xs x) with ax | ax
  ·skip
   rw[show dg kind xs x=(xs,false) from by grind[dg,kd]];exact aAi ⟨(by first | omega | (simp only[bl,b7];omega) | exact ch _ Cell.flat _ | grind[aD]),(by first | omega | (simp only[bl,b7];omega) | exact ch _ Cell.flat _ | grind[aD]),(by first | omega | (simp only[bl,b7];omega) | exact ch _ Cell.flat _ | grind[aD]),h1,c2,ax,aa⟩
  skip
  have eK:=CC xs x (by omega);rw[show dg kind xs x=((ll xs x),true) from by grind[dg,kd]];exact aAj ⟨(by first | omega | (simp only[bl,b7];omega) | exact ch _ Cell.flat _ | grind[aD]),(by first | omega | (simp only[bl,b7];omega) | exact ch _ Cell.flat _ | grind[aD]),(by first | omega | (simp only[bl,b7];omega) | exact ch _ Cell.flat _ | grind[aD]),h1,c2,ax,eK,aa⟩
 skip
 rcases cS (kind==5) with aZ | aZ
 ·skip
  have h8:=Wq xs x.op x.bd x.key (by omega);rcases cS ((ri xs x.op x.bd x.key).2) with bS | bS
  ·skip
   rcases cS (decide (((ri xs x.op x.bd x.key).1)<=x.val)) with dv | dv
   ·skip
    rw[show dg kind xs x=(xs,false) from by grind[dg,kd]];exact aAk ⟨(by first | omega | (simp only[bl,b7];omega) | exact ch _ Cell.flat _ | grind[aD]),(by first | omega | (simp only[bl,b7];omega) | exact ch _ Cell.flat _ | grind[aD]),(by first | omega | (simp only[bl,b7];omega) | exact ch _ Cell.flat _ | grind[aD]),h1,aZ,aZ,h8,bS,dv,aa⟩
   skip
   
   have aa3:=CC (xs.filter fun a=>!fo x a) x (by omega);rw[show dg kind xs x=((ll (xs.filter fun a=>!fo x a) x),true) from by grind[dg,kd]];exact azA ⟨(by first | omega | (simp only[bl,b7];omega) | exact ch _ Cell.flat _ | grind[aD]),(by first | omega | (simp only[bl,b7];omega) | exact ch _ Cell.flat _ | grind[aD]),(by first | omega | (simp only[bl,b7];omega) | exact ch _ Cell.flat _ | grind[aD]),h1,aZ,aZ,h8,bS,dv,(Gk xs x ap),aa3,aa⟩
  skip
  
  have yj:=CC (xs.filter fun a=>!fo x a) x (by omega);rw[show dg kind xs x=((ll (xs.filter fun a=>!fo x a) x),true) from by grind[dg,kd]];exact azB ⟨(by first | omega | (simp only[bl,b7];omega) | exact ch _ Cell.flat _ | grind[aD]),(by first | omega | (simp only[bl,b7];omega) | exact ch _ Cell.flat _ | grind[aD]),(by first | omega | (simp only[bl,b7];omega) | exact ch _ Cell.flat _ | grind[aD]),h1,aZ,aZ,h8,bS,(Gk xs x ap),yj,aa⟩
 skip
 rcases cS (kind==8) with iS | iS
 ·skip
  have oV:=Wq xs x.op x.bd x.key (by omega);rcases cS ((ri xs x.op x.bd x.key).2) with uL | uL
  ·skip
   rcases cS (decide (((ri xs x.op x.bd x.key).1)<=x.val)) with mf | mf
   ·skip
    rw[show dg kind xs x=(xs,false) from by grind[dg,kd]];exact azC ⟨(by first | omega | (simp only[bl,b7];omega) | exact ch _ Cell.flat _ | grind[aD]),(by first | omega | (simp only[bl,b7];omega) | exact ch _ Cell.flat _ | grind[aD]),(by first | omega | (simp only[bl,b7];omega) | exact ch _ Cell.flat _ | grind[aD]),h1,aZ,iS,oV,uL,mf,aa⟩
   skip
   
   have aa1:=CC (xs.filter fun a=>!fo x a) x (by omega);rw[show dg kind xs x=((ll (xs.filter fun a=>!fo x a) x),true) from by grind[dg,kd]];exact azD ⟨(by first | omega | (simp only[bl,b7];omega) | exact ch _ Cell.flat _ | grind[aD]),(by first | omega | (simp only[bl,b7];omega) | exact ch _ Cell.flat _ | grind[aD]),(by first | omega | (simp only[bl,b7];omega) | exact ch _ Cell.flat _ | grind[aD]),h1,aZ,iS,oV,uL,mf,(Gk xs x ap),aa1,aa⟩
  skip
  
  have DX:=CC (xs.filter fun a=>!fo x a) x (by omega);rw[show dg kind xs x=((ll (xs.filter fun a=>!fo x a) x),true) from by grind[dg,kd]];exact azE ⟨(by first | omega | (simp only[bl,b7];omega) | exact ch _ Cell.flat _ | grind[aD]),(by first | omega | (simp only[bl,b7];omega) | exact ch _ Cell.flat _ | grind[aD]),(by first | omega | (simp only[bl,b7];omega) | exact ch _ Cell.flat _ | grind[aD]),h1,aZ,iS,oV,uL,(Gk xs x ap),DX,aa⟩
 skip
 rw[show dg kind xs x=(xs,true) from by grind[dg,kd]];exact azF ⟨(by first | omega | (simp only[bl,b7];omega) | exact ch _ Cell.flat _ | grind[aD]),(by first | omega | (simp only[bl,b7];omega) | exact ch _ Cell.flat _ | grind[aD]),(by first | omega | (simp only[bl,b7];omega) | exact ch _ Cell.flat _ | grind[aD]),h1,aZ,iS,aa⟩
theorem Wx(kind:Int)(xs:List Cell)(x:Cell)(ap:xs.length<=8388608):al 299 [.one (I kind),.one (.J 4 (xs.map Cell.e)),.agg x.e] [.one (.J 4 (((dg kind xs x).1).map Cell.e)),.one (B ((dg kind xs x).2))]:=by
 rcases cS (kind==5) with h1 | h1
 ·skip
  have c2:=Wv xs x (by omega);rw[show dg kind xs x=(((kd xs x).1),(kd xs x).2) from by grind[dg,kd,ll]];exact ayW ⟨h1,h1,c2,aa⟩
 skip
 rcases cS (kind==8) with ax | ax
 ·skip
  have eK:=Wv xs x (by omega);rw[show dg kind xs x=(((kd xs x).1),(kd xs x).2) from by grind[dg,kd,ll]];exact ayX ⟨h1,ax,eK,aa⟩
 skip
 rcases cS (kind==6) with aZ | aZ
 ·skip
  have h8:=UO xs x (by omega);have Il:=UM xs x (by omega);rw[show dg kind xs x=((ll xs x),!(pt xs x)) from by grind[dg,kd,ll]];exact ayo ⟨h1,ax,aZ,h8,Il,aa⟩
 skip
 have nu:=vD xs (by omega);rw[show dg kind xs x=(xs,true) from by grind[dg,kd,ll]];exact ayp ⟨h1,ax,aZ,nu,aa⟩
def jg(x:Node)(s:gz)(key val:Int):List aq:=x.outs.map fun k=>⟨k,s,key,val⟩
def cellOf(r:aq):Cell:=⟨r.op,r.bq.bd,r.key,r.val⟩
def dX(g:b9)(cs:List Cell)(r:aq)(x:Node):List Cell×List aq×Bool:=
 if eM g&&fE r then
  if !(c6 x r.key r.val).2.2&&x.kind != 8 then (cs,[],true)
  else if !(dg x.kind cs ⟨r.op,r.bq.bd,r.key,r.val⟩).2 then ((dg x.kind cs ⟨r.op,r.bq.bd,r.key,r.val⟩).1,[],true)
  else if x.kind=7 then
   ((dg x.kind cs ⟨r.op,r.bq.bd,r.key,r.val⟩).1,(bif (fl r.bq).2 then jg x (fl r.bq).1 (c6 x r.key r.val).1 (c6 x r.key r.val).2.1 else []),true)
  else ((dg x.kind cs ⟨r.op,r.bq.bd,r.key,r.val⟩).1,jg x r.bq (c6 x r.key r.val).1 (c6 x r.key r.val).2.1,true)
 else (cs,[],false)
theorem y3(x:Node)(s:gz)(key val:Int){i:Nat}{k:Int}(h:x.outs[i]?=some k):(((x.outs.take (i+1)).map fun k=>(⟨k,s,key,val⟩:aq)).map aq.e)=(((x.outs.take i).map fun k=>(⟨k,s,key,val⟩:aq)).map aq.e)++[(⟨k,s,key,val⟩:aq).e]:=by
 simp[uq,h]
theorem Wy(x:Node)(ah:x.outs.length<=8388608)(s:gz)(key val:Int)(iY:List (List D)):c5 prog (ar f176 0) (xH x.kind x.a x.b (x.outs.map bh) key val iY s.bd s.dC 0 []) (.exit 0) (vH iY ((jg x s key val).map aq.e)):=by
 have l:=fC (P:=prog) (c:=(ar f176 0)) (cH 0) x.outs.length (fun i:Nat=>xH x.kind x.a x.b (x.outs.map bh) key val iY s.bd s.dC i (((x.outs.take i).map fun k=>(⟨k,s,key,val⟩:aq)).map aq.e)) (fun i hi=>by
  obtain⟨k,hk⟩:=c9 hi;rw[y3 x s key val hk];exact akP ⟨b5 hi,bD,bK hi,bE bh hk,by simp;omega,by simp;omega,dD (aq.flat ⟨k,s,key,val⟩),dj hi ah,aa⟩) (akQ ⟨dT,aa⟩)
 rw[k5]at l;exact l
theorem Wz(x:Node)(ah:x.outs.length<=8388608)(s:gz)(key val:Int)(iY:List (List D)):c5 prog (ar f176 0) (xI s.bd s.dC x.kind x.a x.b (x.outs.map bh) key val iY 0 []) (.exit 0) (vH iY ((jg x s key val).map aq.e)):=by
 have l:=fC (P:=prog) (c:=(ar f176 0)) (cH 0) x.outs.length (fun i:Nat=>xI s.bd s.dC x.kind x.a x.b (x.outs.map bh) key val iY i (((x.outs.take i).map fun k=>(⟨k,s,key,val⟩:aq)).map aq.e)) (fun i hi=>by
  obtain⟨k,hk⟩:=c9 hi;rw[y3 x s key val hk];exact akS ⟨b5 hi,bD,bK hi,bE bh hk,by simp;omega,by simp;omega,dD (aq.flat ⟨k,s,key,val⟩),dj hi ah,aa⟩) (akT ⟨dT,aa⟩)
 rw[k5]at l;exact l
theorem WA(x:Node)(ah:x.outs.length<=8388608)(s:gz)(key val:Int)(iY:List (List D)):c5 prog (ar f176 0) (xJ iY x.kind x.a x.b (x.outs.map bh) key val s.bd s.dC 0 []) (.exit 0) (vI iY ((jg x s key val).map aq.e)):=by
 have l:=fC (P:=prog) (c:=(ar f176 0)) (cH 0) x.outs.length (fun i:Nat=>xJ iY x.kind x.a x.b (x.outs.map bh) key val s.bd s.dC i (((x.outs.take i).map fun k=>(⟨k,s,key,val⟩:aq)).map aq.e)) (fun i hi=>by
  obtain⟨k,hk⟩:=c9 hi;rw[y3 x s key val hk];exact akW ⟨b5 hi,bD,bK hi,bE bh hk,by simp;omega,by simp;omega,dD (aq.flat ⟨k,s,key,val⟩),dj hi ah,aa⟩) (akX ⟨dT,aa⟩)
 rw[k5]at l;exact l
theorem WB(x:Node)(ah:x.outs.length<=8388608)(s:gz)(key val:Int)(iY:List (List D)):c5 prog (ar f176 0) (xK iY s.bd s.dC x.kind x.a x.b (x.outs.map bh) key val 0 []) (.exit 0) (vI iY ((jg x s key val).map aq.e)):=by
 have l:=fC (P:=prog) (c:=(ar f176 0)) (cH 0) x.outs.length (fun i:Nat=>xK iY s.bd s.dC x.kind x.a x.b (x.outs.map bh) key val i (((x.outs.take i).map fun k=>(⟨k,s,key,val⟩:aq)).map aq.e)) (fun i hi=>by
  obtain⟨k,hk⟩:=c9 hi;rw[y3 x s key val hk];exact aj9 ⟨b5 hi,bD,bK hi,bE bh hk,by simp;omega,by simp;omega,dD (aq.flat ⟨k,s,key,val⟩),dj hi ah,aa⟩) (aka ⟨dT,aa⟩)
 rw[k5]at l;exact l
theorem WC(x:Node)(ah:x.outs.length<=8388608)(s:gz)(key val:Int)(iY:List (List D)):c5 prog (ar f232 0) (xL s.bd s.dC (x.outs.map bh) key val iY 0 []) (.exit 0) (vJ iY ((jg x s key val).map aq.e)):=by
 have l:=fC (P:=prog) (c:=(ar f232 0)) (cH 0) x.outs.length (fun i:Nat=>xL s.bd s.dC (x.outs.map bh) key val iY i (((x.outs.take i).map fun k=>(⟨k,s,key,val⟩:aq)).map aq.e)) (fun i hi=>by
  obtain⟨k,hk⟩:=c9 hi;rw[y3 x s key val hk];exact akp ⟨b5 hi,bD,bK hi,bE bh hk,rfl,by simp;omega,by simp;omega,dD (aq.flat ⟨k,s,key,val⟩),dj hi ah,aa⟩) (akq ⟨dT,aa⟩)
 rw[k5]at l;exact l
theorem WD(x:Node)(ah:x.outs.length<=8388608)(b:Bool)(s:gz)(key val:Int)(iY:List (List D)):c5 prog (ar f232 0) (sE (x.outs.map bh) key val iY s.bd s.dC b 0 []) (.exit 0) (vJ iY ((bif b then jg x s key val else []).map aq.e)):=by
 cases b with
 | true=>
  have l:=fC (P:=prog) (c:=(ar f232 0)) (cH 0) x.outs.length (fun i:Nat=>sE (x.outs.map bh) key val iY s.bd s.dC true i (((x.outs.take i).map fun k=>(⟨k,s,key,val⟩:aq)).map aq.e)) (fun i hi=>by
   obtain⟨k,hk⟩:=c9 hi;rw[y3 x s key val hk];exact akm ⟨b5 hi,bD,bK hi,bE bh hk,rfl,by simp;omega,by simp;omega,dD (aq.flat ⟨k,s,key,val⟩),dj hi ah,aa⟩) (Wt ⟨dT,aa⟩)
  rw[k5]at l;exact l
 | false=>
  exact fC (P:=prog) (c:=(ar f232 0)) (cH 0) x.outs.length (fun i:Nat=>sE (x.outs.map bh) key val iY s.bd s.dC false i []) (fun i hi=>by
   obtain⟨k,hk⟩:=c9 hi;exact akn ⟨b5 hi,bD,bK hi,bE bh hk,rfl,dj hi ah,aa⟩) (Wt ⟨dT,aa⟩)
theorem aj5(g:b9)(cs:List Cell)(r:aq)(x:Node)(ay:g.sz<=8388608)(ap:cs.length<=8388608)(aX:gY g r.op=some x):al 176 [.agg g.e,.one (.J 4 (cs.map Cell.e)),.agg r.e] [.one (.J 4 ((dX g cs r x).1.map Cell.e)),.one (.J 5 ((dX g cs r x).2.1.map aq.e)),.one (B (dX g cs r x).2.2)]:=by
 have ah:=b9.BI ay (MI aX);obtain⟨mK,dd,_,_⟩:=Ff aX;have ck:g.nodes[r.op.toNat]?=some x:=by have:=aX;unfold gY at this;rwa[bm mK]at this
 have c1:=Fh g r.op (x,true) (by unfold vE;rw[aX]) ay;have c2:=y1 g ay;rcases cS (eM g) with ax | ax
 ·skip
  have eK:=tV r;rcases cS (fE r) with aZ | aZ
  ·skip
   have h8:=aky x r.key r.val ah;rcases cS ((c6 x r.key r.val).2.2) with bS | bS
   ·skip
    have nu:=Wu x.kind;rcases cS (gQ x.kind) with eu | eu
    ·skip
     have yj:=Ww x.kind cs (⟨r.op,r.bq.bd,r.key,r.val⟩:Cell) (by omega);rcases cS ((dg x.kind cs (⟨r.op,r.bq.bd,r.key,r.val⟩:Cell)).2) with iS | iS
     ·skip
      rcases cS (x.kind==7) with jq | jq
      ·skip
       have n2:=y0 r.bq;rcases cS ((fl r.bq).2) with mf | mf
       ·skip
        
        rw[show dX g cs r x=(((dg x.kind cs (⟨r.op,r.bq.bd,r.key,r.val⟩:Cell)).1),(jg x ((fl r.bq).1) ((c6 x r.key r.val).1) ((c6 x r.key r.val).2.1)),true) from by grind[dX,gQ,dg]];exact ake ⟨(by first | omega | (simp only[bl,b7];omega) | exact ch _ Cell.flat _ | grind[aD]),(by first | omega | (simp only[bl,b7];omega) | exact ch _ Cell.flat _ | grind[aD]),(by first | omega | (simp only[bl,b7];omega) | exact ch _ Cell.flat _ | grind[aD]),c1,rfl,c2,(by rw[ax];rfl),eK,(by rw[aZ];rfl),h8,(by rw[bS];rfl),nu,eu,yj,(by rw[iS];rfl),jq,n2,(by rw[mf];rfl),(Wy x ah ((fl r.bq).1) ((c6 x r.key r.val).1) ((c6 x r.key r.val).2.1) _),aa⟩
       skip
       rw[show dX g cs r x=(((dg x.kind cs (⟨r.op,r.bq.bd,r.key,r.val⟩:Cell)).1),([]:List aq),true) from by grind[dX,gQ,dg]];exact akd ⟨(by first | omega | (simp only[bl,b7];omega) | exact ch _ Cell.flat _ | grind[aD]),(by first | omega | (simp only[bl,b7];omega) | exact ch _ Cell.flat _ | grind[aD]),(by first | omega | (simp only[bl,b7];omega) | exact ch _ Cell.flat _ | grind[aD]),c1,rfl,c2,(by rw[ax];rfl),eK,(by rw[aZ];rfl),h8,(by rw[bS];rfl),nu,eu,yj,(by rw[iS];rfl),jq,n2,(by rw[mf];rfl),aa⟩
      skip
      
      rw[show dX g cs r x=(((dg x.kind cs (⟨r.op,r.bq.bd,r.key,r.val⟩:Cell)).1),(jg x r.bq ((c6 x r.key r.val).1) ((c6 x r.key r.val).2.1)),true) from by grind[dX,gQ,dg]];exact akf ⟨(by first | omega | (simp only[bl,b7];omega) | exact ch _ Cell.flat _ | grind[aD]),(by first | omega | (simp only[bl,b7];omega) | exact ch _ Cell.flat _ | grind[aD]),(by first | omega | (simp only[bl,b7];omega) | exact ch _ Cell.flat _ | grind[aD]),c1,rfl,c2,(by rw[ax];rfl),eK,(by rw[aZ];rfl),h8,(by rw[bS];rfl),nu,eu,yj,(by rw[iS];rfl),jq,(Wz x ah r.bq ((c6 x r.key r.val).1) ((c6 x r.key r.val).2.1) _),aa⟩
     skip
     rw[show dX g cs r x=(((dg x.kind cs (⟨r.op,r.bq.bd,r.key,r.val⟩:Cell)).1),([]:List aq),true) from by grind[dX,gQ,dg]];exact akc ⟨(by first | omega | (simp only[bl,b7];omega) | exact ch _ Cell.flat _ | grind[aD]),(by first | omega | (simp only[bl,b7];omega) | exact ch _ Cell.flat _ | grind[aD]),(by first | omega | (simp only[bl,b7];omega) | exact ch _ Cell.flat _ | grind[aD]),c1,rfl,c2,(by rw[ax];rfl),eK,(by rw[aZ];rfl),h8,(by rw[bS];rfl),nu,eu,yj,(by rw[iS];rfl),aa⟩
    skip
    rcases cS (x.kind==7) with kn | kn
    ·skip
     have DX:=y0 r.bq;rcases cS ((fl r.bq).2) with rZ | rZ
     ·skip
      
      rw[show dX g cs r x=(cs,(jg x ((fl r.bq).1) ((c6 x r.key r.val).1) ((c6 x r.key r.val).2.1)),true) from by grind[dX,gQ,dg]];exact akh ⟨(by first | omega | (simp only[bl,b7];omega) | exact ch _ Cell.flat _ | grind[aD]),(by first | omega | (simp only[bl,b7];omega) | exact ch _ Cell.flat _ | grind[aD]),(by first | omega | (simp only[bl,b7];omega) | exact ch _ Cell.flat _ | grind[aD]),c1,rfl,c2,(by rw[ax];rfl),eK,(by rw[aZ];rfl),h8,(by rw[bS];rfl),nu,eu,kn,DX,(by rw[rZ];rfl),(WA x ah ((fl r.bq).1) ((c6 x r.key r.val).1) ((c6 x r.key r.val).2.1) _),aa⟩
     skip
     rw[show dX g cs r x=(cs,([]:List aq),true) from by grind[dX,gQ,dg]];exact akg ⟨(by first | omega | (simp only[bl,b7];omega) | exact ch _ Cell.flat _ | grind[aD]),(by first | omega | (simp only[bl,b7];omega) | exact ch _ Cell.flat _ | grind[aD]),(by first | omega | (simp only[bl,b7];omega) | exact ch _ Cell.flat _ | grind[aD]),c1,rfl,c2,(by rw[ax];rfl),eK,(by rw[aZ];rfl),h8,(by rw[bS];rfl),nu,eu,kn,DX,(by rw[rZ];rfl),aa⟩
    skip
    
    rw[show dX g cs r x=(cs,(jg x r.bq ((c6 x r.key r.val).1) ((c6 x r.key r.val).2.1)),true) from by grind[dX,gQ,dg]];exact aki ⟨(by first | omega | (simp only[bl,b7];omega) | exact ch _ Cell.flat _ | grind[aD]),(by first | omega | (simp only[bl,b7];omega) | exact ch _ Cell.flat _ | grind[aD]),(by first | omega | (simp only[bl,b7];omega) | exact ch _ Cell.flat _ | grind[aD]),c1,rfl,c2,(by rw[ax];rfl),eK,(by rw[aZ];rfl),h8,(by rw[bS];rfl),nu,eu,kn,(WB x ah r.bq ((c6 x r.key r.val).1) ((c6 x r.key r.val).2.1) _),aa⟩
   skip
   rcases cS (x.kind != 8) with hZ | hZ
   ·skip
    rw[show dX g cs r x=(cs,([]:List aq),true) from by grind[dX,gQ,dg]];exact akM ⟨(by first | omega | (simp only[bl,b7];omega) | exact ch _ Cell.flat _ | grind[aD]),(by first | omega | (simp only[bl,b7];omega) | exact ch _ Cell.flat _ | grind[aD]),(by first | omega | (simp only[bl,b7];omega) | exact ch _ Cell.flat _ | grind[aD]),c1,rfl,c2,(by rw[ax];rfl),eK,(by rw[aZ];rfl),h8,(by rw[bS];rfl),hZ,aa⟩
   skip
   have jZ:=Wu x.kind;rcases cS (gQ x.kind) with fv | fv
   ·skip
    have n3:=Ww x.kind cs (⟨r.op,r.bq.bd,r.key,r.val⟩:Cell) (by omega);rcases cS ((dg x.kind cs (⟨r.op,r.bq.bd,r.key,r.val⟩:Cell)).2) with mg | mg
    ·skip
     rcases cS (x.kind==7) with kL | kL
     ·skip
      have QE:=y0 r.bq;rcases cS ((fl r.bq).2) with qG | qG
      ·skip
       
       rw[show dX g cs r x=(((dg x.kind cs (⟨r.op,r.bq.bd,r.key,r.val⟩:Cell)).1),(jg x ((fl r.bq).1) ((c6 x r.key r.val).1) ((c6 x r.key r.val).2.1)),true) from by grind[dX,gQ,dg]];exact akR ⟨(by first | omega | (simp only[bl,b7];omega) | exact ch _ Cell.flat _ | grind[aD]),(by first | omega | (simp only[bl,b7];omega) | exact ch _ Cell.flat _ | grind[aD]),(by first | omega | (simp only[bl,b7];omega) | exact ch _ Cell.flat _ | grind[aD]),c1,rfl,c2,(by rw[ax];rfl),eK,(by rw[aZ];rfl),h8,(by rw[bS];rfl),hZ,jZ,fv,n3,(by rw[mg];rfl),kL,QE,(by rw[qG];rfl),(Wy x ah ((fl r.bq).1) ((c6 x r.key r.val).1) ((c6 x r.key r.val).2.1) _),aa⟩
      skip
      rw[show dX g cs r x=(((dg x.kind cs (⟨r.op,r.bq.bd,r.key,r.val⟩:Cell)).1),([]:List aq),true) from by grind[dX,gQ,dg]];exact akO ⟨(by first | omega | (simp only[bl,b7];omega) | exact ch _ Cell.flat _ | grind[aD]),(by first | omega | (simp only[bl,b7];omega) | exact ch _ Cell.flat _ | grind[aD]),(by first | omega | (simp only[bl,b7];omega) | exact ch _ Cell.flat _ | grind[aD]),c1,rfl,c2,(by rw[ax];rfl),eK,(by rw[aZ];rfl),h8,(by rw[bS];rfl),hZ,jZ,fv,n3,(by rw[mg];rfl),kL,QE,(by rw[qG];rfl),aa⟩
     skip
     
     rw[show dX g cs r x=(((dg x.kind cs (⟨r.op,r.bq.bd,r.key,r.val⟩:Cell)).1),(jg x r.bq ((c6 x r.key r.val).1) ((c6 x r.key r.val).2.1)),true) from by grind[dX,gQ,dg]];exact akU ⟨(by first | omega | (simp only[bl,b7];omega) | exact ch _ Cell.flat _ | grind[aD]),(by first | omega | (simp only[bl,b7];omega) | exact ch _ Cell.flat _ | grind[aD]),(by first | omega | (simp only[bl,b7];omega) | exact ch _ Cell.flat _ | grind[aD]),c1,rfl,c2,(by rw[ax];rfl),eK,(by rw[aZ];rfl),h8,(by rw[bS];rfl),hZ,jZ,fv,n3,(by rw[mg];rfl),kL,(Wz x ah r.bq ((c6 x r.key r.val).1) ((c6 x r.key r.val).2.1) _),aa⟩
    skip
    rw[show dX g cs r x=(((dg x.kind cs (⟨r.op,r.bq.bd,r.key,r.val⟩:Cell)).1),([]:List aq),true) from by grind[dX,gQ,dg]];exact akN ⟨(by first | omega | (simp only[bl,b7];omega) | exact ch _ Cell.flat _ | grind[aD]),(by first | omega | (simp only[bl,b7];omega) | exact ch _ Cell.flat _ | grind[aD]),(by first | omega | (simp only[bl,b7];omega) | exact ch _ Cell.flat _ | grind[aD]),c1,rfl,c2,(by rw[ax];rfl),eK,(by rw[aZ];rfl),h8,(by rw[bS];rfl),hZ,jZ,fv,n3,(by rw[mg];rfl),aa⟩
   skip
   rcases cS (x.kind==7) with qH | qH
   ·skip
    have QF:=y0 r.bq;rcases cS ((fl r.bq).2) with oZ | oZ
    ·skip
     
     rw[show dX g cs r x=(cs,(jg x ((fl r.bq).1) ((c6 x r.key r.val).1) ((c6 x r.key r.val).2.1)),true) from by grind[dX,gQ,dg]];exact aj8 ⟨(by first | omega | (simp only[bl,b7];omega) | exact ch _ Cell.flat _ | grind[aD]),(by first | omega | (simp only[bl,b7];omega) | exact ch _ Cell.flat _ | grind[aD]),(by first | omega | (simp only[bl,b7];omega) | exact ch _ Cell.flat _ | grind[aD]),c1,rfl,c2,(by rw[ax];rfl),eK,(by rw[aZ];rfl),h8,(by rw[bS];rfl),hZ,jZ,fv,qH,QF,(by rw[oZ];rfl),(WA x ah ((fl r.bq).1) ((c6 x r.key r.val).1) ((c6 x r.key r.val).2.1) _),aa⟩
    skip
    rw[show dX g cs r x=(cs,([]:List aq),true) from by grind[dX,gQ,dg]];exact akV ⟨(by first | omega | (simp only[bl,b7];omega) | exact ch _ Cell.flat _ | grind[aD]),(by first | omega | (simp only[bl,b7];omega) | exact ch _ Cell.flat _ | grind[aD]),(by first | omega | (simp only[bl,b7];omega) | exact ch _ Cell.flat _ | grind[aD]),c1,rfl,c2,(by rw[ax];rfl),eK,(by rw[aZ];rfl),h8,(by rw[bS];rfl),hZ,jZ,fv,qH,QF,(by rw[oZ];rfl),aa⟩
   skip
   
   rw[show dX g cs r x=(cs,(jg x r.bq ((c6 x r.key r.val).1) ((c6 x r.key r.val).2.1)),true) from by grind[dX,gQ,dg]];exact akb ⟨(by first | omega | (simp only[bl,b7];omega) | exact ch _ Cell.flat _ | grind[aD]),(by first | omega | (simp only[bl,b7];omega) | exact ch _ Cell.flat _ | grind[aD]),(by first | omega | (simp only[bl,b7];omega) | exact ch _ Cell.flat _ | grind[aD]),c1,rfl,c2,(by rw[ax];rfl),eK,(by rw[aZ];rfl),h8,(by rw[bS];rfl),hZ,jZ,fv,qH,(WB x ah r.bq ((c6 x r.key r.val).1) ((c6 x r.key r.val).2.1) _),aa⟩
  skip
  rw[show dX g cs r x=(cs,([]:List aq),false) from by grind[dX,gQ,dg]];exact akL ⟨(by first | omega | (simp only[bl,b7];omega) | exact ch _ Cell.flat _ | grind[aD]),(by first | omega | (simp only[bl,b7];omega) | exact ch _ Cell.flat _ | grind[aD]),(by first | omega | (simp only[bl,b7];omega) | exact ch _ Cell.flat _ | grind[aD]),c1,rfl,c2,(by rw[ax];rfl),eK,(by rw[aZ];rfl),aa⟩
 skip
 rw[show dX g cs r x=(cs,([]:List aq),false) from by grind[dX,gQ,dg]];exact akK ⟨(by first | omega | (simp only[bl,b7];omega) | exact ch _ Cell.flat _ | grind[aD]),(by first | omega | (simp only[bl,b7];omega) | exact ch _ Cell.flat _ | grind[aD]),(by first | omega | (simp only[bl,b7];omega) | exact ch _ Cell.flat _ | grind[aD]),c1,rfl,c2,(by rw[ax];rfl),aa⟩
theorem aj6(g:b9)(cs:List Cell)(r:aq)(x:Node)(ay:g.sz<=8388608)(ap:cs.length<=8388608)(aX:gY g r.op=some x):al 232 [.agg g.e,.one (.J 4 (cs.map Cell.e)),.agg r.e] [.one (.J 4 ((dX g cs r x).1.map Cell.e)),.one (.J 5 ((dX g cs r x).2.1.map aq.e)),.one (B (dX g cs r x).2.2)]:=by
 have ah:=b9.BI ay (MI aX);obtain⟨mK,dd,_,_⟩:=Ff aX;have ck:g.nodes[r.op.toNat]?=some x:=by have:=aX;unfold gY at this;rwa[bm mK]at this
 have c1:=y2 g ay;rcases cS (eM g) with U | U
 ·skip
  have cM:=vG r;rcases cS (fE r) with aF | aF
  ·skip
   have hf:=yZ g r.op true (by rw[aX];rfl) ay;have h8:=akz x r.key r.val ah;rcases cS ((c6 x r.key r.val).2.2) with bS | bS
   ·skip
    have nu:=Wx x.kind cs (⟨r.op,r.bq.bd,r.key,r.val⟩:Cell) (by omega);rcases cS ((dg x.kind cs (⟨r.op,r.bq.bd,r.key,r.val⟩:Cell)).2) with eu | eu
    ·skip
     rcases cS (x.kind==7) with dW | dW
     ·skip
      have qC:=Mf r.bq
      
      rw[show dX g cs r x=(((dg x.kind cs (⟨r.op,r.bq.bd,r.key,r.val⟩:Cell)).1),(bif (fl r.bq).2 then jg x ((fl r.bq).1) ((c6 x r.key r.val).1) ((c6 x r.key r.val).2.1) else []),true) from by grind[dX,gQ,dg]];exact akt ⟨c1,(by rw[U];rfl),cM,(by rw[aF];rfl),hf,rfl,(by first | omega | (simp only[bl,b7];omega) | exact ch _ Cell.flat _ | grind[aD]),(by first | omega | (simp only[bl,b7];omega) | exact ch _ Cell.flat _ | grind[aD]),(bN Node.e ck),h8,(by rw[bS];rfl),nu,(by rw[eu];rfl),dW,qC,(WD x ah ((fl r.bq).2) ((fl r.bq).1) ((c6 x r.key r.val).1) ((c6 x r.key r.val).2.1) _),aa⟩
     skip
     
     rw[show dX g cs r x=(((dg x.kind cs (⟨r.op,r.bq.bd,r.key,r.val⟩:Cell)).1),(jg x r.bq ((c6 x r.key r.val).1) ((c6 x r.key r.val).2.1)),true) from by grind[dX,gQ,dg]];exact aku ⟨c1,(by rw[U];rfl),cM,(by rw[aF];rfl),hf,rfl,(by first | omega | (simp only[bl,b7];omega) | exact ch _ Cell.flat _ | grind[aD]),(by first | omega | (simp only[bl,b7];omega) | exact ch _ Cell.flat _ | grind[aD]),(bN Node.e ck),h8,(by rw[bS];rfl),nu,(by rw[eu];rfl),dW,(WC x ah r.bq ((c6 x r.key r.val).1) ((c6 x r.key r.val).2.1) _),aa⟩
    skip
    rw[show dX g cs r x=(((dg x.kind cs (⟨r.op,r.bq.bd,r.key,r.val⟩:Cell)).1),([]:List aq),true) from by grind[dX,gQ,dg]];exact aks ⟨c1,(by rw[U];rfl),cM,(by rw[aF];rfl),hf,rfl,(by first | omega | (simp only[bl,b7];omega) | exact ch _ Cell.flat _ | grind[aD]),(by first | omega | (simp only[bl,b7];omega) | exact ch _ Cell.flat _ | grind[aD]),(bN Node.e ck),h8,(by rw[bS];rfl),nu,(by rw[eu];rfl),aa⟩
   skip
   rcases cS (x.kind != 8) with jq | jq
   ·skip
    have n2:=vD cs (by omega);rw[show dX g cs r x=(cs,([]:List aq),true) from by grind[dX,gQ,dg]];exact akk ⟨c1,(by rw[U];rfl),cM,(by rw[aF];rfl),hf,rfl,(by first | omega | (simp only[bl,b7];omega) | exact ch _ Cell.flat _ | grind[aD]),(by first | omega | (simp only[bl,b7];omega) | exact ch _ Cell.flat _ | grind[aD]),(bN Node.e ck),h8,(by rw[bS];rfl),jq,n2,aa⟩
   skip
   have Ik:=Wx x.kind cs (⟨r.op,r.bq.bd,r.key,r.val⟩:Cell) (by omega);rcases cS ((dg x.kind cs (⟨r.op,r.bq.bd,r.key,r.val⟩:Cell)).2) with kn | kn
   ·skip
    rcases cS (x.kind==7) with cE | cE
    ·skip
     have mE:=Mf r.bq
     
     rw[show dX g cs r x=(((dg x.kind cs (⟨r.op,r.bq.bd,r.key,r.val⟩:Cell)).1),(bif (fl r.bq).2 then jg x ((fl r.bq).1) ((c6 x r.key r.val).1) ((c6 x r.key r.val).2.1) else []),true) from by grind[dX,gQ,dg]];exact ako ⟨c1,(by rw[U];rfl),cM,(by rw[aF];rfl),hf,rfl,(by first | omega | (simp only[bl,b7];omega) | exact ch _ Cell.flat _ | grind[aD]),(by first | omega | (simp only[bl,b7];omega) | exact ch _ Cell.flat _ | grind[aD]),(bN Node.e ck),h8,(by rw[bS];rfl),jq,Ik,(by rw[kn];rfl),cE,mE,(WD x ah ((fl r.bq).2) ((fl r.bq).1) ((c6 x r.key r.val).1) ((c6 x r.key r.val).2.1) _),aa⟩
    skip
    
    rw[show dX g cs r x=(((dg x.kind cs (⟨r.op,r.bq.bd,r.key,r.val⟩:Cell)).1),(jg x r.bq ((c6 x r.key r.val).1) ((c6 x r.key r.val).2.1)),true) from by grind[dX,gQ,dg]];exact akr ⟨c1,(by rw[U];rfl),cM,(by rw[aF];rfl),hf,rfl,(by first | omega | (simp only[bl,b7];omega) | exact ch _ Cell.flat _ | grind[aD]),(by first | omega | (simp only[bl,b7];omega) | exact ch _ Cell.flat _ | grind[aD]),(bN Node.e ck),h8,(by rw[bS];rfl),jq,Ik,(by rw[kn];rfl),cE,(WC x ah r.bq ((c6 x r.key r.val).1) ((c6 x r.key r.val).2.1) _),aa⟩
   skip
   rw[show dX g cs r x=(((dg x.kind cs (⟨r.op,r.bq.bd,r.key,r.val⟩:Cell)).1),([]:List aq),true) from by grind[dX,gQ,dg]];exact akl ⟨c1,(by rw[U];rfl),cM,(by rw[aF];rfl),hf,rfl,(by first | omega | (simp only[bl,b7];omega) | exact ch _ Cell.flat _ | grind[aD]),(by first | omega | (simp only[bl,b7];omega) | exact ch _ Cell.flat _ | grind[aD]),(bN Node.e ck),h8,(by rw[bS];rfl),jq,Ik,(by rw[kn];rfl),aa⟩
  skip
  have aa2:=vD cs (by omega);rw[show dX g cs r x=(cs,([]:List aq),false) from by grind[dX,gQ,dg]];exact Ws ⟨c1,(by rw[U];rfl),cM,(by rw[aF];rfl),aa2,aa⟩
 skip
 have jZ:=vD cs (by omega);rw[show dX g cs r x=(cs,([]:List aq),false) from by grind[dX,gQ,dg]];exact Wr ⟨c1,(by rw[U];rfl),jZ,aa⟩
