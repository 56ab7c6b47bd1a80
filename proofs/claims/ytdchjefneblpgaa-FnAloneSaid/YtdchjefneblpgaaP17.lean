import Derived.Test.YtdchjefneblpgaaP16
import Derived.Test.YtdchjefneblpgaaGS
set_option linter.unusedVariables false
set_option linter.unusedSimpArgs false
namespace Go.Proofs.Ytdchjefneblpgaa
open Go.Sx Go.RowKit Go.Proofs.Try
theorem aaG{P:Program}{f:Nat}{args:List GA}{k:Nat}{l ff:List (List D)}(h:je P f args [.one (.aa k l)])(ak:l=ff):je P f args [.one (.aa k ff)]:=ak▸h
theorem Fq(xs:List Cell)(p:Cell->Bool)(g:Nat)(cD:List D)(ak:xs.length<=8388608)(ai:hM prog g=true)(hp:∀x∈xs,∀r,p x=r->aA g ([.agg x.e]++cD.map .one) [.one (B r)]):
  ∀(n i:Nat) (ys:List Cell),n+i=xs.length->ys.length=xs.length->ys.drop i=xs.drop i->ys.take ((xs.take i).filter fun a=>!p a).length=(xs.take i).filter (fun a=>!p a)->
  ∃zs:List Cell,dk prog (aF f81 0) (q5 g cD i ((xs.take i).filter fun a=>!p a).length (ys.map Cell.e)) (.exit 0) (Em (zs.map Cell.e) (xs.filter fun a=>!p a).length)/\zs.length=xs.length/\zs.take (xs.filter fun a=>!p a).length=xs.filter (fun a=>!p a)
 | 0,i,ys,hi,a7,_,bH=>by
  have e:xs.take i=xs:=sY (by omega);rw[e]at bH ⊢;exact⟨ys,.last (di 0) (Tv ⟨gG (by simp;omega),aj⟩),a7,bH⟩
 | n+1,i,ys,hi,a7,ay,bH=>by
  obtain⟨a,aC⟩:=cT (xs:=xs) (i:=i) (by omega);have Ia:ys[i]?=some a:=by
   have aK:ys[i]?=(ys.drop i)[0]?:=by simp
   have aO:xs[i]?=(xs.drop i)[0]?:=by simp
   rw[aK,ay,<-aO,aC]
  have bn:=q3 (fun a=>!p a) aC;have hle:=pO (fun a=>!p a) xs i;have vt:ys.drop (i+1)=xs.drop (i+1):=by
   have:=congrArg (List.drop 1) ay;simpa[List.drop_drop,Nat.add_comm]using this
  cases h:p a with
  | true=>
   rw[h]at bn;simp only[uL,oT,mF,ja]at bn;obtain⟨zs,J,U,ax⟩:=Fq xs p g cD ak ai hp n (i+1) ys (by omega) a7 vt (by rw[bn];exact bH);rw[bn]at J;exact⟨zs,.more (Tu ⟨e3 (by simp;omega),c1,by simp;omega,c2 Cell.e Ia,ai,hp a (h7 aC) true h,rfl,⟨by omega,by omega⟩,aj⟩) J,U,ax⟩
  | false=>
   rw[h]at bn;simp only[aez,fZ]at bn;generalize aU:((xs.take i).filter fun a=>!p a).length=j at*;obtain⟨b,ah⟩:=cT (xs:=ys) (i:=j) (by omega);obtain⟨zs,J,U,ax⟩:=Fq xs p g cD ak ai hp n (i+1) (ys.set j a) (by omega) (by simpa using a7) (by rw[List.drop_set_of_lt (by omega)];exact vt) (by
    rw[bn,mz,aU,List.length_singleton,List.take_set,<-bH];have h0:j<ys.length:=by omega
    rw[List.take_succ_eq_append_getElem h0,List.set_append_right _ _ (by simp;omega)];simp[xp,Nat.min_eq_left (Nat.le_of_lt h0)])
   rw[bn,mz,aU,List.length_singleton]at J;refine⟨zs,.more (uI (fun l=>q5 g cD ((i+1:Nat):Int) ((j+1:Nat):Int) l) (Tt ⟨e3 (by simp;omega),c1,by simp;omega,c2 Cell.e Ia,ai,hp a (h7 aC) false h,rfl,c1,by simp;omega,c2 Cell.e ah,⟨by omega,by omega⟩,⟨by omega,by omega⟩,aj⟩) ?_) J,U,ax⟩;show List.set _ _ a.e=_;rw[uM,<-GL]
theorem aaH(xs:List Cell)(p:Cell->Bool)(g:Nat)(cD:List D)(ak:xs.length<=8388608)(ai:hM prog g=true)(hp:∀x∈xs,aA g ([.agg x.e]++cD.map .one) [.one (B (p x))]):
  je prog 81 [.one (.ed 4 (xs.map Cell.e) none),.one (.ro (.da g cD))] [.one (.aa 4 ((xs.filter fun a=>!p a).map Cell.e))]:=by
 have qw:∀x∈xs,∀r,p x=r->aA g ([.agg x.e]++cD.map .one) [.one (B r)]:=fun x ae r h=>h▸hp x ae
 have nu:=UA xs p g cD ak ai hp;unfold yn at nu;cases h:xs.findIdx? p with
 | none=>
  rw[h]at nu;rw[Az]at h;have e:(xs.filter fun a=>!p a)=xs:=List.filter_eq_self.2 fun a aC=>by simp[h a aC]
  rw[e];exact Ts ⟨nu,rfl,aj⟩
 | some i=>
  rw[h]at nu;change gm _ _ _ [.one (I (i:Int))]at nu;rw[uN]at h;obtain⟨hi,U,ax⟩:=h;have ae:xs[i]?=some xs[i]:=iM hi;have b8:(xs.take i).filter (fun a=>!p a)=xs.take i:=List.filter_eq_self.2 fun a aC=>by
   obtain⟨j,aU,rfl⟩:=List.getElem_of_mem aC;have m':j<i:=by simp at aU;omega
   have:=ax j m';simpa using this
  have aK:=q3 (fun a=>!p a) ae;rw[U]at aK;simp only[uL,oT,mF,ja]at aK;rw[b8]at aK;have aO:(xs.take i).length=i:=by rw[xp];omega
  obtain⟨zs,l,aL,bH⟩:=Fq xs p g cD ak ai qw (xs.length-(i+1)) (i+1) xs (by omega) rfl rfl (by rw[aK,aO]);rw[aK,aO]at l;have bk:(xs.filter fun a=>!p a).length<xs.length:=by
   have b2:xs.filter (fun a=>!p a)=xs.take i++(xs.drop (i+1)).filter fun a=>!p a:=by
    have:=AD (i+1) xs;rw[<-this,List.filter_append,this,aK]
   rw[b2,mz,aO];have:=mC (fun a=>!p a) (xs.drop (i+1));rw[List.length_drop]at this;omega
  generalize xs.filter (fun a=>!p a)=ec at*;refine aaG (Tw ⟨nu,sZ.2 (by omega),⟨by omega,by omega⟩,l,by simp,by simp;omega,bW _ Cell.flat _,by simp,by simp,by simp;omega,aj⟩) ?_;simp only[kh,uM,Nat.sub_zero,rn,<-uT];rw[bH,Oz (by simp),sY (by simp)]
def eW(k:Int):Bool:=k==5||k==6||k==8
def dO(xs:List Cell)(x:Cell):List Cell×Bool:=
 if (kN xs x.op x.aV x.key).2&&decide ((kN xs x.op x.aV x.key).1<=x.val) then (xs,false) else (gf (xs.filter fun a=>!ci x a) x,true)
def bZ(kind:Int)(xs:List Cell)(x:Cell):List Cell×Bool:=
 if kind=6 then (if ka xs x then (xs,false) else (gf xs x,true))
 else if kind=5\/kind=8 then dO xs x
 else (xs,true)
theorem K'(k:Int):aA 61 [.one (I k)] [.one (B (eW k))]:=by
 rcases ca (k==5) with J | J
 ·skip
  rw[show eW k=true from by grind[eW]];exact U4 ⟨J,aj⟩
 skip
 rcases ca (k==6) with U | U
 ·skip
  rw[show eW k=true from by grind[eW]];exact U5 ⟨J,U,aj⟩
 skip
 rw[show eW k=(k==8) from by grind[eW]];exact U6 ⟨J,U,aj⟩
theorem La(xs:List Cell)(x:Cell)(ak:xs.length<=8388608):aA 71 [.one (.aa 4 (xs.map Cell.e)),.agg x.e] [.one (.aa 4 ((dO xs x).1.map Cell.e)),.one (B (dO xs x).2)]:=by
 have c:=YF xs x.op x.aV x.key ak;have rF:=r' xs ak;have d:=aaH xs (ci x) 82 [D.ptr x.e] ak (by kernel_rfl) (fun y _=>Tr ⟨K3 x y,aj⟩);have ID:=LG (xs.filter fun a=>!ci x a) x (k2 (mC ..) ak);unfold dO;generalize kN xs x.op x.aV x.key=m at*;obtain⟨v,f⟩:=m;cases f with
 | false=>exact TF ⟨c,rfl,rF,d,ID,aj⟩
 | true=>
  by_cases h:v<=x.val
  ·rw[e3 h];exact TD ⟨c,rfl,e3 h,rF,aj⟩
  rw[gG h];exact TE ⟨c,rfl,gG h,rF,d,ID,aj⟩
theorem aaI(xs acc:List Cell)(x:Cell)(ak:xs.length<=8388608)(i:Nat)(ai:acc.length<=i)(a:Cell)(aC:xs[i]?=some a):eS prog (aF f62 0) (jr (xs.map Cell.e) x.op x.aV x.key x.val i (acc.map Cell.e)) .normal (jr (xs.map Cell.e) x.op x.aV x.key x.val ((i+1:Nat):Int) ((acc++(bif ci x a then [] else [a])).map Cell.e)):=by
 have aU:=ct aC;have cJ:xs[(i:Int).toNat]?=some a:=by simpa using aC
 have dq:decide ((i:Int)<(↑(xs.map Cell.e).length:Int))=true:=dr aU;rcases ca (a.op != x.op) with J | J
 ·skip
  have ad:ci x a=false:=by grind[ci]
  rw[ad];rw[show (acc++(bif false then [] else [a])).map Cell.e=acc.map Cell.e++[a.e] from by simp];exact Uj ⟨dq,(by first | omega | (simp only[br,du,bG];omega) | exact dt a.flat | (exact⟨by omega,by omega⟩)),(by first | omega | (simp only[br,du,bG];omega) | exact dt a.flat | (exact⟨by omega,by omega⟩)),(bf Cell.e cJ),J,(by first | omega | (simp only[br,du,bG];omega) | exact dt a.flat | (exact⟨by omega,by omega⟩)),(by first | omega | (simp only[br,du,bG];omega) | exact dt a.flat | (exact⟨by omega,by omega⟩)),(bf Cell.e cJ),(by first | omega | (simp only[br,du,bG];omega) | exact dt a.flat | (exact⟨by omega,by omega⟩)),(by first | omega | (simp only[br,du,bG];omega) | exact dt a.flat | (exact⟨by omega,by omega⟩)),(by first | omega | (simp only[br,du,bG];omega) | exact dt a.flat | (exact⟨by omega,by omega⟩)),(by first | omega | (simp only[br,du,bG];omega) | exact dt a.flat | (exact⟨by omega,by omega⟩)),aj⟩
 skip
 rcases ca (a.aV != x.aV) with U | U
 ·skip
  have ad:ci x a=false:=by grind[ci]
  rw[ad];rw[show (acc++(bif false then [] else [a])).map Cell.e=acc.map Cell.e++[a.e] from by simp];exact Uk ⟨dq,(by first | omega | (simp only[br,du,bG];omega) | exact dt a.flat | (exact⟨by omega,by omega⟩)),(by first | omega | (simp only[br,du,bG];omega) | exact dt a.flat | (exact⟨by omega,by omega⟩)),(bf Cell.e cJ),J,(by first | omega | (simp only[br,du,bG];omega) | exact dt a.flat | (exact⟨by omega,by omega⟩)),(by first | omega | (simp only[br,du,bG];omega) | exact dt a.flat | (exact⟨by omega,by omega⟩)),(bf Cell.e cJ),U,(by first | omega | (simp only[br,du,bG];omega) | exact dt a.flat | (exact⟨by omega,by omega⟩)),(by first | omega | (simp only[br,du,bG];omega) | exact dt a.flat | (exact⟨by omega,by omega⟩)),(bf Cell.e cJ),(by first | omega | (simp only[br,du,bG];omega) | exact dt a.flat | (exact⟨by omega,by omega⟩)),(by first | omega | (simp only[br,du,bG];omega) | exact dt a.flat | (exact⟨by omega,by omega⟩)),(by first | omega | (simp only[br,du,bG];omega) | exact dt a.flat | (exact⟨by omega,by omega⟩)),(by first | omega | (simp only[br,du,bG];omega) | exact dt a.flat | (exact⟨by omega,by omega⟩)),aj⟩
 skip
 rcases ca (a.key != x.key) with ax | ax
 ·skip
  have ad:ci x a=false:=by grind[ci]
  rw[ad];rw[show (acc++(bif false then [] else [a])).map Cell.e=acc.map Cell.e++[a.e] from by simp];exact Ul ⟨dq,(by first | omega | (simp only[br,du,bG];omega) | exact dt a.flat | (exact⟨by omega,by omega⟩)),(by first | omega | (simp only[br,du,bG];omega) | exact dt a.flat | (exact⟨by omega,by omega⟩)),(bf Cell.e cJ),J,(by first | omega | (simp only[br,du,bG];omega) | exact dt a.flat | (exact⟨by omega,by omega⟩)),(by first | omega | (simp only[br,du,bG];omega) | exact dt a.flat | (exact⟨by omega,by omega⟩)),(bf Cell.e cJ),U,(by first | omega | (simp only[br,du,bG];omega) | exact dt a.flat | (exact⟨by omega,by omega⟩)),(by first | omega | (simp only[br,du,bG];omega) | exact dt a.flat | (exact⟨by omega,by omega⟩)),(bf Cell.e cJ),ax,(by first | omega | (simp only[br,du,bG];omega) | exact dt a.flat | (exact⟨by omega,by omega⟩)),(by first | omega | (simp only[br,du,bG];omega) | exact dt a.flat | (exact⟨by omega,by omega⟩)),(bf Cell.e cJ),(by first | omega | (simp only[br,du,bG];omega) | exact dt a.flat | (exact⟨by omega,by omega⟩)),(by first | omega | (simp only[br,du,bG];omega) | exact dt a.flat | (exact⟨by omega,by omega⟩)),(by first | omega | (simp only[br,du,bG];omega) | exact dt a.flat | (exact⟨by omega,by omega⟩)),(by first | omega | (simp only[br,du,bG];omega) | exact dt a.flat | (exact⟨by omega,by omega⟩)),aj⟩
 skip
 have ad:ci x a=true:=by grind[ci]
 rw[ad];rw[show (acc++(bif true then [] else [a])).map Cell.e=acc.map Cell.e from by simp];exact Um ⟨dq,(by first | omega | (simp only[br,du,bG];omega) | exact dt a.flat | (exact⟨by omega,by omega⟩)),(by first | omega | (simp only[br,du,bG];omega) | exact dt a.flat | (exact⟨by omega,by omega⟩)),(bf Cell.e cJ),J,(by first | omega | (simp only[br,du,bG];omega) | exact dt a.flat | (exact⟨by omega,by omega⟩)),(by first | omega | (simp only[br,du,bG];omega) | exact dt a.flat | (exact⟨by omega,by omega⟩)),(bf Cell.e cJ),U,(by first | omega | (simp only[br,du,bG];omega) | exact dt a.flat | (exact⟨by omega,by omega⟩)),(by first | omega | (simp only[br,du,bG];omega) | exact dt a.flat | (exact⟨by omega,by omega⟩)),(bf Cell.e cJ),ax,(by first | omega | (simp only[br,du,bG];omega) | exact dt a.flat | (exact⟨by omega,by omega⟩)),aj⟩
theorem aaJ(p:Cell->Bool){xs:List Cell}{i:Nat}{a:Cell}(h:xs[i]?=some a):(xs.take (i+1)).filter (fun b=>!p b)=(xs.take i).filter (fun b=>!p b)++(bif p a then [] else [a]):=by
 rw[q3 _ h];cases p a<;>rfl
theorem yH(xs:List Cell)(x:Cell)(ak:xs.length<=8388608):dk prog (aF f62 0) (jr (xs.map Cell.e) x.op x.aV x.key x.val 0 []) (.exit 1) (uh x.op x.aV x.key x.val ((xs.filter fun a=>!ci x a).map Cell.e)):=by
 have l:=gx (P:=prog) (c:=(aF f62 0)) (di 1) xs.length (fun i:Nat=>jr (xs.map Cell.e) x.op x.aV x.key x.val i (((xs.take i).filter fun a=>!ci x a).map Cell.e)) (fun i hi=>by
  obtain⟨a,aC⟩:=cT hi;rw[aaJ (ci x) aC];exact aaI xs _ x ak i (pO _ xs i) a aC) (Un ⟨fb,aj⟩)
 rw[jS]at l;exact l
theorem Fs(kind:Int)(xs:List Cell)(x:Cell)(ak:xs.length<=8388608):aA 62 [.one (I kind),.one (.aa 4 (xs.map Cell.e)),.agg x.e] [.one (.aa 4 (((bZ kind xs x).1).map Cell.e)),.one (B ((bZ kind xs x).2))]:=by
 have bn:=mC (fun a=>!ci x a) xs;rcases ca (kind==6) with J | J
 ·skip
  have cL:=LB xs x (by omega);rcases ca (ka xs x) with ax | ax
  ·skip
   rw[show bZ kind xs x=(xs,false) from by grind[bZ,dO]];exact U7 ⟨(by first | omega | (simp only[br,bG];omega) | exact bW _ Cell.flat _ | grind[ap]),(by first | omega | (simp only[br,bG];omega) | exact bW _ Cell.flat _ | grind[ap]),(by first | omega | (simp only[br,bG];omega) | exact bW _ Cell.flat _ | grind[ap]),J,cL,ax,aj⟩
  skip
  have fJ:=ui xs x (by omega);rw[show bZ kind xs x=((gf xs x),true) from by grind[bZ,dO]];exact Uh ⟨(by first | omega | (simp only[br,bG];omega) | exact bW _ Cell.flat _ | grind[ap]),(by first | omega | (simp only[br,bG];omega) | exact bW _ Cell.flat _ | grind[ap]),(by first | omega | (simp only[br,bG];omega) | exact bW _ Cell.flat _ | grind[ap]),J,cL,ax,fJ,aj⟩
 skip
 rcases ca (kind==5) with a1 | a1
 ·skip
  have fm:=K4 xs x.op x.aV x.key (by omega);rcases ca ((kN xs x.op x.aV x.key).2) with bQ | bQ
  ·skip
   rcases ca (decide (((kN xs x.op x.aV x.key).1)<=x.val)) with cZ | cZ
   ·skip
    rw[show bZ kind xs x=(xs,false) from by grind[bZ,dO]];exact Ui ⟨(by first | omega | (simp only[br,bG];omega) | exact bW _ Cell.flat _ | grind[ap]),(by first | omega | (simp only[br,bG];omega) | exact bW _ Cell.flat _ | grind[ap]),(by first | omega | (simp only[br,bG];omega) | exact bW _ Cell.flat _ | grind[ap]),J,a1,a1,fm,bQ,cZ,aj⟩
   skip
   
   have OR:=ui (xs.filter fun a=>!ci x a) x (by omega);rw[show bZ kind xs x=((gf (xs.filter fun a=>!ci x a) x),true) from by grind[bZ,dO]];exact Uo ⟨(by first | omega | (simp only[br,bG];omega) | exact bW _ Cell.flat _ | grind[ap]),(by first | omega | (simp only[br,bG];omega) | exact bW _ Cell.flat _ | grind[ap]),(by first | omega | (simp only[br,bG];omega) | exact bW _ Cell.flat _ | grind[ap]),J,a1,a1,fm,bQ,cZ,(yH xs x ak),OR,aj⟩
  skip
  
  have s8:=ui (xs.filter fun a=>!ci x a) x (by omega);rw[show bZ kind xs x=((gf (xs.filter fun a=>!ci x a) x),true) from by grind[bZ,dO]];exact Up ⟨(by first | omega | (simp only[br,bG];omega) | exact bW _ Cell.flat _ | grind[ap]),(by first | omega | (simp only[br,bG];omega) | exact bW _ Cell.flat _ | grind[ap]),(by first | omega | (simp only[br,bG];omega) | exact bW _ Cell.flat _ | grind[ap]),J,a1,a1,fm,bQ,(yH xs x ak),s8,aj⟩
 skip
 rcases ca (kind==8) with gq | gq
 ·skip
  have k9:=K4 xs x.op x.aV x.key (by omega);rcases ca ((kN xs x.op x.aV x.key).2) with qo | qo
  ·skip
   rcases ca (decide (((kN xs x.op x.aV x.key).1)<=x.val)) with jg | jg
   ·skip
    rw[show bZ kind xs x=(xs,false) from by grind[bZ,dO]];exact Uq ⟨(by first | omega | (simp only[br,bG];omega) | exact bW _ Cell.flat _ | grind[ap]),(by first | omega | (simp only[br,bG];omega) | exact bW _ Cell.flat _ | grind[ap]),(by first | omega | (simp only[br,bG];omega) | exact bW _ Cell.flat _ | grind[ap]),J,a1,gq,k9,qo,jg,aj⟩
   skip
   
   have OP:=ui (xs.filter fun a=>!ci x a) x (by omega);rw[show bZ kind xs x=((gf (xs.filter fun a=>!ci x a) x),true) from by grind[bZ,dO]];exact Ur ⟨(by first | omega | (simp only[br,bG];omega) | exact bW _ Cell.flat _ | grind[ap]),(by first | omega | (simp only[br,bG];omega) | exact bW _ Cell.flat _ | grind[ap]),(by first | omega | (simp only[br,bG];omega) | exact bW _ Cell.flat _ | grind[ap]),J,a1,gq,k9,qo,jg,(yH xs x ak),OP,aj⟩
  skip
  
  have xI:=ui (xs.filter fun a=>!ci x a) x (by omega);rw[show bZ kind xs x=((gf (xs.filter fun a=>!ci x a) x),true) from by grind[bZ,dO]];exact Us ⟨(by first | omega | (simp only[br,bG];omega) | exact bW _ Cell.flat _ | grind[ap]),(by first | omega | (simp only[br,bG];omega) | exact bW _ Cell.flat _ | grind[ap]),(by first | omega | (simp only[br,bG];omega) | exact bW _ Cell.flat _ | grind[ap]),J,a1,gq,k9,qo,(yH xs x ak),xI,aj⟩
 skip
 rw[show bZ kind xs x=(xs,true) from by grind[bZ,dO]];exact Ut ⟨(by first | omega | (simp only[br,bG];omega) | exact bW _ Cell.flat _ | grind[ap]),(by first | omega | (simp only[br,bG];omega) | exact bW _ Cell.flat _ | grind[ap]),(by first | omega | (simp only[br,bG];omega) | exact bW _ Cell.flat _ | grind[ap]),J,a1,gq,aj⟩
theorem Lb(kind:Int)(xs:List Cell)(x:Cell)(ak:xs.length<=8388608):aA 55 [.one (I kind),.one (.aa 4 (xs.map Cell.e)),.agg x.e] [.one (.aa 4 (((bZ kind xs x).1).map Cell.e)),.one (B ((bZ kind xs x).2))]:=by
 rcases ca (kind==5) with J | J
 ·skip
  have cL:=La xs x (by omega);rw[show bZ kind xs x=(((dO xs x).1),(dO xs x).2) from by grind[bZ,dO,gf]];exact TG ⟨J,J,cL,aj⟩
 skip
 rcases ca (kind==8) with ax | ax
 ·skip
  have fJ:=La xs x (by omega);rw[show bZ kind xs x=(((dO xs x).1),(dO xs x).2) from by grind[bZ,dO,gf]];exact TH ⟨J,ax,fJ,aj⟩
 skip
 rcases ca (kind==6) with a1 | a1
 ·skip
  have fm:=LG xs x (by omega);have AT:=LD xs x (by omega);rw[show bZ kind xs x=((gf xs x),!(ka xs x)) from by grind[bZ,dO,gf]];exact S9 ⟨J,ax,a1,fm,AT,aj⟩
 skip
 have jX:=r' xs (by omega);rw[show bZ kind xs x=(xs,true) from by grind[bZ,dO,gf]];exact S' ⟨J,ax,a1,jX,aj⟩
def fu(x:Node)(s:fl)(key val:Int):List aQ:=x.outs.map fun k=>⟨k,s,key,val⟩
def cellOf(r:aQ):Cell:=⟨r.op,r.bl.aV,r.key,r.val⟩
def cU(g:bz)(cs:List Cell)(r:aQ)(x:Node):List Cell×List aQ×Bool:=
 if cz g&&c8 r then
  if !(bL x r.key r.val).2.2&&x.kind != 8 then (cs,[],true)
  else if !(bZ x.kind cs ⟨r.op,r.bl.aV,r.key,r.val⟩).2 then ((bZ x.kind cs ⟨r.op,r.bl.aV,r.key,r.val⟩).1,[],true)
  else if x.kind=7 then
   ((bZ x.kind cs ⟨r.op,r.bl.aV,r.key,r.val⟩).1,(bif (dm r.bl).2 then fu x (dm r.bl).1 (bL x r.key r.val).1 (bL x r.key r.val).2.1 else []),true)
  else ((bZ x.kind cs ⟨r.op,r.bl.aV,r.key,r.val⟩).1,fu x r.bl (bL x r.key r.val).1 (bL x r.key r.val).2.1,true)
 else (cs,[],false)
theorem uo(x:Node)(s:fl)(key val:Int){i:Nat}{k:Int}(h:x.outs[i]?=some k):(((x.outs.take (i+1)).map fun k=>(⟨k,s,key,val⟩:aQ)).map aQ.e)=(((x.outs.take i).map fun k=>(⟨k,s,key,val⟩:aQ)).map aQ.e)++[(⟨k,s,key,val⟩:aQ).e]:=by
 simp[uP,h]
theorem Lc(x:Node)(ae:x.outs.length<=8388608)(s:fl)(key val:Int)(fg:List (List D)):dk prog (aF f36 0) (sc x.kind x.a x.b (x.outs.map aY) key val fg s.aV s.dE 0 []) (.exit 0) (qE fg ((fu x s key val).map aQ.e)):=by
 have l:=gx (P:=prog) (c:=(aF f36 0)) (di 0) x.outs.length (fun i:Nat=>sc x.kind x.a x.b (x.outs.map aY) key val fg s.aV s.dE i (((x.outs.take i).map fun k=>(⟨k,s,key,val⟩:aQ)).map aQ.e)) (fun i hi=>by
  obtain⟨k,aT⟩:=cT hi;rw[uo x s key val aT];exact ZH ⟨dr hi,c1,dh hi,c2 aY aT,by simp;omega,by simp;omega,dt (aQ.flat ⟨k,s,key,val⟩),eN hi ae,aj⟩) (ZI ⟨fb,aj⟩)
 rw[jS]at l;exact l
theorem Ld(x:Node)(ae:x.outs.length<=8388608)(s:fl)(key val:Int)(fg:List (List D)):dk prog (aF f36 0) (sd s.aV s.dE x.kind x.a x.b (x.outs.map aY) key val fg 0 []) (.exit 0) (qE fg ((fu x s key val).map aQ.e)):=by
 have l:=gx (P:=prog) (c:=(aF f36 0)) (di 0) x.outs.length (fun i:Nat=>sd s.aV s.dE x.kind x.a x.b (x.outs.map aY) key val fg i (((x.outs.take i).map fun k=>(⟨k,s,key,val⟩:aQ)).map aQ.e)) (fun i hi=>by
  obtain⟨k,aT⟩:=cT hi;rw[uo x s key val aT];exact ZK ⟨dr hi,c1,dh hi,c2 aY aT,by simp;omega,by simp;omega,dt (aQ.flat ⟨k,s,key,val⟩),eN hi ae,aj⟩) (ZL ⟨fb,aj⟩)
 rw[jS]at l;exact l
theorem Le(x:Node)(ae:x.outs.length<=8388608)(s:fl)(key val:Int)(fg:List (List D)):dk prog (aF f36 0) (se fg x.kind x.a x.b (x.outs.map aY) key val s.aV s.dE 0 []) (.exit 0) (qF fg ((fu x s key val).map aQ.e)):=by
 have l:=gx (P:=prog) (c:=(aF f36 0)) (di 0) x.outs.length (fun i:Nat=>se fg x.kind x.a x.b (x.outs.map aY) key val s.aV s.dE i (((x.outs.take i).map fun k=>(⟨k,s,key,val⟩:aQ)).map aQ.e)) (fun i hi=>by
  obtain⟨k,aT⟩:=cT hi;rw[uo x s key val aT];exact ZO ⟨dr hi,c1,dh hi,c2 aY aT,by simp;omega,by simp;omega,dt (aQ.flat ⟨k,s,key,val⟩),eN hi ae,aj⟩) (ZP ⟨fb,aj⟩)
 rw[jS]at l;exact l
theorem Lf(x:Node)(ae:x.outs.length<=8388608)(s:fl)(key val:Int)(fg:List (List D)):dk prog (aF f36 0) (sf fg s.aV s.dE x.kind x.a x.b (x.outs.map aY) key val 0 []) (.exit 0) (qF fg ((fu x s key val).map aQ.e)):=by
 have l:=gx (P:=prog) (c:=(aF f36 0)) (di 0) x.outs.length (fun i:Nat=>sf fg s.aV s.dE x.kind x.a x.b (x.outs.map aY) key val i (((x.outs.take i).map fun k=>(⟨k,s,key,val⟩:aQ)).map aQ.e)) (fun i hi=>by
  obtain⟨k,aT⟩:=cT hi;rw[uo x s key val aT];exact ZR ⟨dr hi,c1,dh hi,c2 aY aT,by simp;omega,by simp;omega,dt (aQ.flat ⟨k,s,key,val⟩),eN hi ae,aj⟩) (ZS ⟨fb,aj⟩)
 rw[jS]at l;exact l
theorem Lg(x:Node)(ae:x.outs.length<=8388608)(s:fl)(key val:Int)(fg:List (List D)):dk prog (aF f32 0) (sg s.aV s.dE (x.outs.map aY) key val fg 0 []) (.exit 0) (qG fg ((fu x s key val).map aQ.e)):=by
 have l:=gx (P:=prog) (c:=(aF f32 0)) (di 0) x.outs.length (fun i:Nat=>sg s.aV s.dE (x.outs.map aY) key val fg i (((x.outs.take i).map fun k=>(⟨k,s,key,val⟩:aQ)).map aQ.e)) (fun i hi=>by
  obtain⟨k,aT⟩:=cT hi;rw[uo x s key val aT];exact Zh ⟨dr hi,c1,dh hi,c2 aY aT,rfl,by simp;omega,by simp;omega,dt (aQ.flat ⟨k,s,key,val⟩),eN hi ae,aj⟩) (Zi ⟨fb,aj⟩)
 rw[jS]at l;exact l
theorem Lh(x:Node)(ae:x.outs.length<=8388608)(b:Bool)(s:fl)(key val:Int)(fg:List (List D)):dk prog (aF f32 0) (oI (x.outs.map aY) key val fg s.aV s.dE b 0 []) (.exit 0) (qG fg ((bif b then fu x s key val else []).map aQ.e)):=by
 cases b with
 | true=>
  have l:=gx (P:=prog) (c:=(aF f32 0)) (di 0) x.outs.length (fun i:Nat=>oI (x.outs.map aY) key val fg s.aV s.dE true i (((x.outs.take i).map fun k=>(⟨k,s,key,val⟩:aQ)).map aQ.e)) (fun i hi=>by
   obtain⟨k,aT⟩:=cT hi;rw[uo x s key val aT];exact Z4 ⟨dr hi,c1,dh hi,c2 aY aT,rfl,by simp;omega,by simp;omega,dt (aQ.flat ⟨k,s,key,val⟩),eN hi ae,aj⟩) (K7 ⟨fb,aj⟩)
  rw[jS]at l;exact l
 | false=>
  exact gx (P:=prog) (c:=(aF f32 0)) (di 0) x.outs.length (fun i:Nat=>oI (x.outs.map aY) key val fg s.aV s.dE false i []) (fun i hi=>by
   obtain⟨k,aT⟩:=cT hi;exact Zf ⟨dr hi,c1,dh hi,c2 aY aT,rfl,eN hi ae,aj⟩) (K7 ⟨fb,aj⟩)
theorem aaK(g:bz)(cs:List Cell)(r:aQ)(x:Node)(ag:g.sz<=8388608)(ak:cs.length<=8388608)(aR:dd g r.op=some x):aA 36 [.agg g.e,.one (.aa 4 (cs.map Cell.e)),.agg r.e] [.one (.aa 4 ((cU g cs r x).1.map Cell.e)),.one (.aa 5 ((cU g cs r x).2.1.map aQ.e)),.one (B (cU g cs r x).2.2)]:=by
 have ae:=bz.tL ag (y' aR);obtain⟨jL,l4,_,_⟩:=uj aR;have cJ:g.nodes[r.op.toNat]?=some x:=by have:=aR;unfold dd at this;rwa[bb jL]at this
 have bK:=q6 g r.op (x,true) (by unfold mm;rw[aR]) ag;have cL:=ze g ag;rcases ca (cz g) with ax | ax
 ·skip
  have fJ:=zb r;rcases ca (c8 r) with a1 | a1
  ·skip
   have fm:=K2 x r.key r.val ae;rcases ca ((bL x r.key r.val).2.2) with bQ | bQ
   ·skip
    have jX:=K' x.kind;rcases ca (eW x.kind) with dQ | dQ
    ·skip
     have s8:=Fs x.kind cs (⟨r.op,r.bl.aV,r.key,r.val⟩:Cell) (by omega);rcases ca ((bZ x.kind cs (⟨r.op,r.bl.aV,r.key,r.val⟩:Cell)).2) with gq | gq
     ·skip
      rcases ca (x.kind==7) with gH | gH
      ·skip
       have ko:=um r.bl;rcases ca ((dm r.bl).2) with jg | jg
       ·skip
        
        rw[show cU g cs r x=(((bZ x.kind cs (⟨r.op,r.bl.aV,r.key,r.val⟩:Cell)).1),(fu x ((dm r.bl).1) ((bL x r.key r.val).1) ((bL x r.key r.val).2.1)),true) from by grind[cU,eW,bZ]];exact ZW ⟨(by first | omega | (simp only[br,bG];omega) | exact bW _ Cell.flat _ | grind[ap]),(by first | omega | (simp only[br,bG];omega) | exact bW _ Cell.flat _ | grind[ap]),(by first | omega | (simp only[br,bG];omega) | exact bW _ Cell.flat _ | grind[ap]),bK,rfl,cL,(by rw[ax];rfl),fJ,(by rw[a1];rfl),fm,(by rw[bQ];rfl),jX,dQ,s8,(by rw[gq];rfl),gH,ko,(by rw[jg];rfl),(Lc x ae ((dm r.bl).1) ((bL x r.key r.val).1) ((bL x r.key r.val).2.1) _),aj⟩
       skip
       rw[show cU g cs r x=(((bZ x.kind cs (⟨r.op,r.bl.aV,r.key,r.val⟩:Cell)).1),([]:List aQ),true) from by grind[cU,eW,bZ]];exact ZV ⟨(by first | omega | (simp only[br,bG];omega) | exact bW _ Cell.flat _ | grind[ap]),(by first | omega | (simp only[br,bG];omega) | exact bW _ Cell.flat _ | grind[ap]),(by first | omega | (simp only[br,bG];omega) | exact bW _ Cell.flat _ | grind[ap]),bK,rfl,cL,(by rw[ax];rfl),fJ,(by rw[a1];rfl),fm,(by rw[bQ];rfl),jX,dQ,s8,(by rw[gq];rfl),gH,ko,(by rw[jg];rfl),aj⟩
      skip
      
      rw[show cU g cs r x=(((bZ x.kind cs (⟨r.op,r.bl.aV,r.key,r.val⟩:Cell)).1),(fu x r.bl ((bL x r.key r.val).1) ((bL x r.key r.val).2.1)),true) from by grind[cU,eW,bZ]];exact ZX ⟨(by first | omega | (simp only[br,bG];omega) | exact bW _ Cell.flat _ | grind[ap]),(by first | omega | (simp only[br,bG];omega) | exact bW _ Cell.flat _ | grind[ap]),(by first | omega | (simp only[br,bG];omega) | exact bW _ Cell.flat _ | grind[ap]),bK,rfl,cL,(by rw[ax];rfl),fJ,(by rw[a1];rfl),fm,(by rw[bQ];rfl),jX,dQ,s8,(by rw[gq];rfl),gH,(Ld x ae r.bl ((bL x r.key r.val).1) ((bL x r.key r.val).2.1) _),aj⟩
     skip
     rw[show cU g cs r x=(((bZ x.kind cs (⟨r.op,r.bl.aV,r.key,r.val⟩:Cell)).1),([]:List aQ),true) from by grind[cU,eW,bZ]];exact ZU ⟨(by first | omega | (simp only[br,bG];omega) | exact bW _ Cell.flat _ | grind[ap]),(by first | omega | (simp only[br,bG];omega) | exact bW _ Cell.flat _ | grind[ap]),(by first | omega | (simp only[br,bG];omega) | exact bW _ Cell.flat _ | grind[ap]),bK,rfl,cL,(by rw[ax];rfl),fJ,(by rw[a1];rfl),fm,(by rw[bQ];rfl),jX,dQ,s8,(by rw[gq];rfl),aj⟩
    skip
    rcases ca (x.kind==7) with hE | hE
    ·skip
     have xI:=um r.bl;rcases ca ((dm r.bl).2) with n7 | n7
     ·skip
      
      rw[show cU g cs r x=(cs,(fu x ((dm r.bl).1) ((bL x r.key r.val).1) ((bL x r.key r.val).2.1)),true) from by grind[cU,eW,bZ]];exact ZZ ⟨(by first | omega | (simp only[br,bG];omega) | exact bW _ Cell.flat _ | grind[ap]),(by first | omega | (simp only[br,bG];omega) | exact bW _ Cell.flat _ | grind[ap]),(by first | omega | (simp only[br,bG];omega) | exact bW _ Cell.flat _ | grind[ap]),bK,rfl,cL,(by rw[ax];rfl),fJ,(by rw[a1];rfl),fm,(by rw[bQ];rfl),jX,dQ,hE,xI,(by rw[n7];rfl),(Le x ae ((dm r.bl).1) ((bL x r.key r.val).1) ((bL x r.key r.val).2.1) _),aj⟩
     skip
     rw[show cU g cs r x=(cs,([]:List aQ),true) from by grind[cU,eW,bZ]];exact ZY ⟨(by first | omega | (simp only[br,bG];omega) | exact bW _ Cell.flat _ | grind[ap]),(by first | omega | (simp only[br,bG];omega) | exact bW _ Cell.flat _ | grind[ap]),(by first | omega | (simp only[br,bG];omega) | exact bW _ Cell.flat _ | grind[ap]),bK,rfl,cL,(by rw[ax];rfl),fJ,(by rw[a1];rfl),fm,(by rw[bQ];rfl),jX,dQ,hE,xI,(by rw[n7];rfl),aj⟩
    skip
    
    rw[show cU g cs r x=(cs,(fu x r.bl ((bL x r.key r.val).1) ((bL x r.key r.val).2.1)),true) from by grind[cU,eW,bZ]];exact Z0 ⟨(by first | omega | (simp only[br,bG];omega) | exact bW _ Cell.flat _ | grind[ap]),(by first | omega | (simp only[br,bG];omega) | exact bW _ Cell.flat _ | grind[ap]),(by first | omega | (simp only[br,bG];omega) | exact bW _ Cell.flat _ | grind[ap]),bK,rfl,cL,(by rw[ax];rfl),fJ,(by rw[a1];rfl),fm,(by rw[bQ];rfl),jX,dQ,hE,(Lf x ae r.bl ((bL x r.key r.val).1) ((bL x r.key r.val).2.1) _),aj⟩
   skip
   rcases ca (x.kind != 8) with fv | fv
   ·skip
    rw[show cU g cs r x=(cs,([]:List aQ),true) from by grind[cU,eW,bZ]];exact Yf ⟨(by first | omega | (simp only[br,bG];omega) | exact bW _ Cell.flat _ | grind[ap]),(by first | omega | (simp only[br,bG];omega) | exact bW _ Cell.flat _ | grind[ap]),(by first | omega | (simp only[br,bG];omega) | exact bW _ Cell.flat _ | grind[ap]),bK,rfl,cL,(by rw[ax];rfl),fJ,(by rw[a1];rfl),fm,(by rw[bQ];rfl),fv,aj⟩
   skip
   have hd:=K' x.kind;rcases ca (eW x.kind) with dW | dW
   ·skip
    have kp:=Fs x.kind cs (⟨r.op,r.bl.aV,r.key,r.val⟩:Cell) (by omega);rcases ca ((bZ x.kind cs (⟨r.op,r.bl.aV,r.key,r.val⟩:Cell)).2) with jh | jh
    ·skip
     rcases ca (x.kind==7) with hX | hX
     ·skip
      have G3:=um r.bl;rcases ca ((dm r.bl).2) with mP | mP
      ·skip
       
       rw[show cU g cs r x=(((bZ x.kind cs (⟨r.op,r.bl.aV,r.key,r.val⟩:Cell)).1),(fu x ((dm r.bl).1) ((bL x r.key r.val).1) ((bL x r.key r.val).2.1)),true) from by grind[cU,eW,bZ]];exact ZJ ⟨(by first | omega | (simp only[br,bG];omega) | exact bW _ Cell.flat _ | grind[ap]),(by first | omega | (simp only[br,bG];omega) | exact bW _ Cell.flat _ | grind[ap]),(by first | omega | (simp only[br,bG];omega) | exact bW _ Cell.flat _ | grind[ap]),bK,rfl,cL,(by rw[ax];rfl),fJ,(by rw[a1];rfl),fm,(by rw[bQ];rfl),fv,hd,dW,kp,(by rw[jh];rfl),hX,G3,(by rw[mP];rfl),(Lc x ae ((dm r.bl).1) ((bL x r.key r.val).1) ((bL x r.key r.val).2.1) _),aj⟩
      skip
      rw[show cU g cs r x=(((bZ x.kind cs (⟨r.op,r.bl.aV,r.key,r.val⟩:Cell)).1),([]:List aQ),true) from by grind[cU,eW,bZ]];exact ZG ⟨(by first | omega | (simp only[br,bG];omega) | exact bW _ Cell.flat _ | grind[ap]),(by first | omega | (simp only[br,bG];omega) | exact bW _ Cell.flat _ | grind[ap]),(by first | omega | (simp only[br,bG];omega) | exact bW _ Cell.flat _ | grind[ap]),bK,rfl,cL,(by rw[ax];rfl),fJ,(by rw[a1];rfl),fm,(by rw[bQ];rfl),fv,hd,dW,kp,(by rw[jh];rfl),hX,G3,(by rw[mP];rfl),aj⟩
     skip
     
     rw[show cU g cs r x=(((bZ x.kind cs (⟨r.op,r.bl.aV,r.key,r.val⟩:Cell)).1),(fu x r.bl ((bL x r.key r.val).1) ((bL x r.key r.val).2.1)),true) from by grind[cU,eW,bZ]];exact ZM ⟨(by first | omega | (simp only[br,bG];omega) | exact bW _ Cell.flat _ | grind[ap]),(by first | omega | (simp only[br,bG];omega) | exact bW _ Cell.flat _ | grind[ap]),(by first | omega | (simp only[br,bG];omega) | exact bW _ Cell.flat _ | grind[ap]),bK,rfl,cL,(by rw[ax];rfl),fJ,(by rw[a1];rfl),fm,(by rw[bQ];rfl),fv,hd,dW,kp,(by rw[jh];rfl),hX,(Ld x ae r.bl ((bL x r.key r.val).1) ((bL x r.key r.val).2.1) _),aj⟩
    skip
    rw[show cU g cs r x=(((bZ x.kind cs (⟨r.op,r.bl.aV,r.key,r.val⟩:Cell)).1),([]:List aQ),true) from by grind[cU,eW,bZ]];exact ZF ⟨(by first | omega | (simp only[br,bG];omega) | exact bW _ Cell.flat _ | grind[ap]),(by first | omega | (simp only[br,bG];omega) | exact bW _ Cell.flat _ | grind[ap]),(by first | omega | (simp only[br,bG];omega) | exact bW _ Cell.flat _ | grind[ap]),bK,rfl,cL,(by rw[ax];rfl),fJ,(by rw[a1];rfl),fm,(by rw[bQ];rfl),fv,hd,dW,kp,(by rw[jh];rfl),aj⟩
   skip
   rcases ca (x.kind==7) with mQ | mQ
   ·skip
    have G4:=um r.bl;rcases ca ((dm r.bl).2) with la | la
    ·skip
     
     rw[show cU g cs r x=(cs,(fu x ((dm r.bl).1) ((bL x r.key r.val).1) ((bL x r.key r.val).2.1)),true) from by grind[cU,eW,bZ]];exact ZQ ⟨(by first | omega | (simp only[br,bG];omega) | exact bW _ Cell.flat _ | grind[ap]),(by first | omega | (simp only[br,bG];omega) | exact bW _ Cell.flat _ | grind[ap]),(by first | omega | (simp only[br,bG];omega) | exact bW _ Cell.flat _ | grind[ap]),bK,rfl,cL,(by rw[ax];rfl),fJ,(by rw[a1];rfl),fm,(by rw[bQ];rfl),fv,hd,dW,mQ,G4,(by rw[la];rfl),(Le x ae ((dm r.bl).1) ((bL x r.key r.val).1) ((bL x r.key r.val).2.1) _),aj⟩
    skip
    rw[show cU g cs r x=(cs,([]:List aQ),true) from by grind[cU,eW,bZ]];exact ZN ⟨(by first | omega | (simp only[br,bG];omega) | exact bW _ Cell.flat _ | grind[ap]),(by first | omega | (simp only[br,bG];omega) | exact bW _ Cell.flat _ | grind[ap]),(by first | omega | (simp only[br,bG];omega) | exact bW _ Cell.flat _ | grind[ap]),bK,rfl,cL,(by rw[ax];rfl),fJ,(by rw[a1];rfl),fm,(by rw[bQ];rfl),fv,hd,dW,mQ,G4,(by rw[la];rfl),aj⟩
   skip
   
   rw[show cU g cs r x=(cs,(fu x r.bl ((bL x r.key r.val).1) ((bL x r.key r.val).2.1)),true) from by grind[cU,eW,bZ]];exact ZT ⟨(by first | omega | (simp only[br,bG];omega) | exact bW _ Cell.flat _ | grind[ap]),(by first | omega | (simp only[br,bG];omega) | exact bW _ Cell.flat _ | grind[ap]),(by first | omega | (simp only[br,bG];omega) | exact bW _ Cell.flat _ | grind[ap]),bK,rfl,cL,(by rw[ax];rfl),fJ,(by rw[a1];rfl),fm,(by rw[bQ];rfl),fv,hd,dW,mQ,(Lf x ae r.bl ((bL x r.key r.val).1) ((bL x r.key r.val).2.1) _),aj⟩
  skip
  rw[show cU g cs r x=(cs,([]:List aQ),false) from by grind[cU,eW,bZ]];exact Ye ⟨(by first | omega | (simp only[br,bG];omega) | exact bW _ Cell.flat _ | grind[ap]),(by first | omega | (simp only[br,bG];omega) | exact bW _ Cell.flat _ | grind[ap]),(by first | omega | (simp only[br,bG];omega) | exact bW _ Cell.flat _ | grind[ap]),bK,rfl,cL,(by rw[ax];rfl),fJ,(by rw[a1];rfl),aj⟩
 skip
 rw[show cU g cs r x=(cs,([]:List aQ),false) from by grind[cU,eW,bZ]];exact Yd ⟨(by first | omega | (simp only[br,bG];omega) | exact bW _ Cell.flat _ | grind[ap]),(by first | omega | (simp only[br,bG];omega) | exact bW _ Cell.flat _ | grind[ap]),(by first | omega | (simp only[br,bG];omega) | exact bW _ Cell.flat _ | grind[ap]),bK,rfl,cL,(by rw[ax];rfl),aj⟩
theorem aaL(g:bz)(cs:List Cell)(r:aQ)(x:Node)(ag:g.sz<=8388608)(ak:cs.length<=8388608)(aR:dd g r.op=some x):aA 32 [.agg g.e,.one (.aa 4 (cs.map Cell.e)),.agg r.e] [.one (.aa 4 ((cU g cs r x).1.map Cell.e)),.one (.aa 5 ((cU g cs r x).2.1.map aQ.e)),.one (B (cU g cs r x).2.2)]:=by
 have ae:=bz.tL ag (y' aR);obtain⟨jL,l4,_,_⟩:=uj aR;have cJ:g.nodes[r.op.toNat]?=some x:=by have:=aR;unfold dd at this;rwa[bb jL]at this
 have bK:=wI g ag;rcases ca (cz g) with U | U
 ·skip
  have cI:=zc r;rcases ca (c8 r) with aJ | aJ
  ·skip
   have eT:=uk g r.op true (by rw[aR];rfl) ag;have fm:=YC x r.key r.val ae;rcases ca ((bL x r.key r.val).2.2) with bQ | bQ
   ·skip
    have jX:=Lb x.kind cs (⟨r.op,r.bl.aV,r.key,r.val⟩:Cell) (by omega);rcases ca ((bZ x.kind cs (⟨r.op,r.bl.aV,r.key,r.val⟩:Cell)).2) with dQ | dQ
    ·skip
     rcases ca (x.kind==7) with dI | dI
     ·skip
      have mM:=D1 r.bl
      
      rw[show cU g cs r x=(((bZ x.kind cs (⟨r.op,r.bl.aV,r.key,r.val⟩:Cell)).1),(bif (dm r.bl).2 then fu x ((dm r.bl).1) ((bL x r.key r.val).1) ((bL x r.key r.val).2.1) else []),true) from by grind[cU,eW,bZ]];exact Zl ⟨bK,(by rw[U];rfl),cI,(by rw[aJ];rfl),eT,rfl,(by first | omega | (simp only[br,bG];omega) | exact bW _ Cell.flat _ | grind[ap]),(by first | omega | (simp only[br,bG];omega) | exact bW _ Cell.flat _ | grind[ap]),(bf Node.e cJ),fm,(by rw[bQ];rfl),jX,(by rw[dQ];rfl),dI,mM,(Lh x ae ((dm r.bl).2) ((dm r.bl).1) ((bL x r.key r.val).1) ((bL x r.key r.val).2.1) _),aj⟩
     skip
     
     rw[show cU g cs r x=(((bZ x.kind cs (⟨r.op,r.bl.aV,r.key,r.val⟩:Cell)).1),(fu x r.bl ((bL x r.key r.val).1) ((bL x r.key r.val).2.1)),true) from by grind[cU,eW,bZ]];exact Zm ⟨bK,(by rw[U];rfl),cI,(by rw[aJ];rfl),eT,rfl,(by first | omega | (simp only[br,bG];omega) | exact bW _ Cell.flat _ | grind[ap]),(by first | omega | (simp only[br,bG];omega) | exact bW _ Cell.flat _ | grind[ap]),(bf Node.e cJ),fm,(by rw[bQ];rfl),jX,(by rw[dQ];rfl),dI,(Lg x ae r.bl ((bL x r.key r.val).1) ((bL x r.key r.val).2.1) _),aj⟩
    skip
    rw[show cU g cs r x=(((bZ x.kind cs (⟨r.op,r.bl.aV,r.key,r.val⟩:Cell)).1),([]:List aQ),true) from by grind[cU,eW,bZ]];exact Zk ⟨bK,(by rw[U];rfl),cI,(by rw[aJ];rfl),eT,rfl,(by first | omega | (simp only[br,bG];omega) | exact bW _ Cell.flat _ | grind[ap]),(by first | omega | (simp only[br,bG];omega) | exact bW _ Cell.flat _ | grind[ap]),(bf Node.e cJ),fm,(by rw[bQ];rfl),jX,(by rw[dQ];rfl),aj⟩
   skip
   rcases ca (x.kind != 8) with gH | gH
   ·skip
    have ko:=r' cs (by omega);rw[show cU g cs r x=(cs,([]:List aQ),true) from by grind[cU,eW,bZ]];exact Z2 ⟨bK,(by rw[U];rfl),cI,(by rw[aJ];rfl),eT,rfl,(by first | omega | (simp only[br,bG];omega) | exact bW _ Cell.flat _ | grind[ap]),(by first | omega | (simp only[br,bG];omega) | exact bW _ Cell.flat _ | grind[ap]),(bf Node.e cJ),fm,(by rw[bQ];rfl),gH,ko,aj⟩
   skip
   have AS:=Lb x.kind cs (⟨r.op,r.bl.aV,r.key,r.val⟩:Cell) (by omega);rcases ca ((bZ x.kind cs (⟨r.op,r.bl.aV,r.key,r.val⟩:Cell)).2) with hE | hE
   ·skip
    rcases ca (x.kind==7) with bY | bY
    ·skip
     have jG:=D1 r.bl
     
     rw[show cU g cs r x=(((bZ x.kind cs (⟨r.op,r.bl.aV,r.key,r.val⟩:Cell)).1),(bif (dm r.bl).2 then fu x ((dm r.bl).1) ((bL x r.key r.val).1) ((bL x r.key r.val).2.1) else []),true) from by grind[cU,eW,bZ]];exact Zg ⟨bK,(by rw[U];rfl),cI,(by rw[aJ];rfl),eT,rfl,(by first | omega | (simp only[br,bG];omega) | exact bW _ Cell.flat _ | grind[ap]),(by first | omega | (simp only[br,bG];omega) | exact bW _ Cell.flat _ | grind[ap]),(bf Node.e cJ),fm,(by rw[bQ];rfl),gH,AS,(by rw[hE];rfl),bY,jG,(Lh x ae ((dm r.bl).2) ((dm r.bl).1) ((bL x r.key r.val).1) ((bL x r.key r.val).2.1) _),aj⟩
    skip
    
    rw[show cU g cs r x=(((bZ x.kind cs (⟨r.op,r.bl.aV,r.key,r.val⟩:Cell)).1),(fu x r.bl ((bL x r.key r.val).1) ((bL x r.key r.val).2.1)),true) from by grind[cU,eW,bZ]];exact Zj ⟨bK,(by rw[U];rfl),cI,(by rw[aJ];rfl),eT,rfl,(by first | omega | (simp only[br,bG];omega) | exact bW _ Cell.flat _ | grind[ap]),(by first | omega | (simp only[br,bG];omega) | exact bW _ Cell.flat _ | grind[ap]),(bf Node.e cJ),fm,(by rw[bQ];rfl),gH,AS,(by rw[hE];rfl),bY,(Lg x ae r.bl ((bL x r.key r.val).1) ((bL x r.key r.val).2.1) _),aj⟩
   skip
   rw[show cU g cs r x=(((bZ x.kind cs (⟨r.op,r.bl.aV,r.key,r.val⟩:Cell)).1),([]:List aQ),true) from by grind[cU,eW,bZ]];exact Z3 ⟨bK,(by rw[U];rfl),cI,(by rw[aJ];rfl),eT,rfl,(by first | omega | (simp only[br,bG];omega) | exact bW _ Cell.flat _ | grind[ap]),(by first | omega | (simp only[br,bG];omega) | exact bW _ Cell.flat _ | grind[ap]),(bf Node.e cJ),fm,(by rw[bQ];rfl),gH,AS,(by rw[hE];rfl),aj⟩
  skip
  have OQ:=r' cs (by omega);rw[show cU g cs r x=(cs,([]:List aQ),false) from by grind[cU,eW,bZ]];exact K6 ⟨bK,(by rw[U];rfl),cI,(by rw[aJ];rfl),OQ,aj⟩
 skip
 have hd:=r' cs (by omega);rw[show cU g cs r x=(cs,([]:List aQ),false) from by grind[cU,eW,bZ]];exact K5 ⟨bK,(by rw[U];rfl),hd,aj⟩
