/- slices.DeleteFunc, Recall, StepOp: what program and reference compute (cases put together by gentree.py). -/
import Derived.Test.YtdkobdhckkjmeaaGreatP16
import Derived.Test.YtdkobdhckkjmeaaGreatC0
import Derived.Test.YtdkobdhckkjmeaaGreatGS
set_option linter.unusedVariables false
set_option linter.unusedSimpArgs false
namespace Go.Proofs.YtdkobdhckkjmeaaGreat
open Go.Sx Go.RowKit Go.Proofs.Tryz
theorem qEe{P:Program}{f:Nat}{args:List GA}{k:Nat}{l l':List (List D)}(h:RetG P f args [.one (.sl k l)])(hl:l=l'):RetG P f args [.one (.sl k l')]:=hl▸h
theorem qmC(xs:List Cell)(p:Cell→Bool)(g:Nat)(caps:List D)(hl:xs.length≤8388608)(hc:qaT prog g=true)(hp:∀x∈xs,∀r,p x=r→Rt g ([.agg x.e]++caps.map .one) [.one (B r)]):
  ∀(n i:Nat) (ys:List Cell),n+i=xs.length→ys.length=xs.length→ys.drop i=xs.drop i→ys.take ((xs.take i).filter fun a=>!p a).length=(xs.take i).filter (fun a=>!p a)→
  ∃zs:List Cell,qam prog (qaa f328 0) (qei g caps i ((xs.take i).filter fun a=>!p a).length (ys.map Cell.e)) (.exit 0) (qmm (zs.map Cell.e) (xs.filter fun a=>!p a).length)∧zs.length=xs.length∧zs.take (xs.filter fun a=>!p a).length=xs.filter (fun a=>!p a)
 | 0,i,ys,hi,hy,_,ht=>by
  have e:xs.take i=xs:=zbk (by omega);rw[e]at ht ⊢;exact⟨ys,.last (qaf 0) (qyj _ _ _ _ _ ⟨dF (by simp;omega),trivial⟩),hy,ht⟩
 | n+1,i,ys,hi,hy,hd,ht=>by
  obtain⟨a,ha⟩:=qal (xs:=xs) (i:=i) (by omega);have hya:ys[i]?=some a:=by
   have e1:ys[i]?=(ys.drop i)[0]?:=by simp
   have e2:xs[i]?=(xs.drop i)[0]?:=by simp
   rw[e1,hd,←e2,ha]
  have hf:=qe1 (fun a=>!p a) ha;have hle:=qjx (fun a=>!p a) xs i;have hdn:ys.drop (i+1)=xs.drop (i+1):=by
   have:=congrArg (List.drop 1) hd;simpa[List.drop_drop,Nat.add_comm]using this
  cases h:p a with
  | true=>
   rw[h]at hf;simp only[zZ,zao,zci,zaa]at hf;obtain⟨zs,h1,h2,h3⟩:=qmC xs p g caps hl hc hp n (i+1) ys (by omega) hy hdn (by rw[hf];exact ht);rw[hf]at h1;exact⟨zs,.more (qyi _ _ _ _ _ _ _ _ _ _ ⟨dT (by simp;omega),lt0,by simp;omega,qac Cell.e hya,hc,hp a (qag ha) true h,rfl,⟨by omega,by omega⟩,trivial⟩) h1,h2,h3⟩
  | false=>
   rw[h]at hf;simp only[zbc,zbb]at hf;generalize hj:((xs.take i).filter fun a=>!p a).length=j at*;obtain⟨b,hb⟩:=qal (xs:=ys) (i:=j) (by omega);obtain⟨zs,h1,h2,h3⟩:=qmC xs p g caps hl hc hp n (i+1) (ys.set j a) (by omega) (by simpa using hy) (by rw[List.drop_set_of_lt (by omega)];exact hdn) (by
    rw[hf,zab,hj,List.length_singleton,List.take_set,←ht];have hjl:j<ys.length:=by omega
    rw[List.take_succ_eq_append_getElem hjl,List.set_append_right _ _ (by simp;omega)];simp[zay,Nat.min_eq_left (Nat.le_of_lt hjl)])
   rw[hf,zab,hj,List.length_singleton]at h1;refine⟨zs,.more (tr_to (fun l=>qei g caps ((i+1:Nat):Int) ((j+1:Nat):Int) l) (qyh _ _ _ _ _ _ _ _ _ _ _ _ _ _ ⟨dT (by simp;omega),lt0,by simp;omega,qac Cell.e hya,hc,hp a (qag ha) false h,rfl,lt0,by simp;omega,qac Cell.e hb,⟨by omega,by omega⟩,⟨by omega,by omega⟩,trivial⟩) ?_) h1,h2,h3⟩;show List.set _ _ a.e=_;rw[zae,←zau]
theorem qEf(xs:List Cell)(p:Cell→Bool)(g:Nat)(caps:List D)(hl:xs.length≤8388608)(hc:qaT prog g=true)(hp:∀x∈xs,Rt g ([.agg x.e]++caps.map .one) [.one (B (p x))]):
  RetG prog 328 [.one (.gv 4 (xs.map Cell.e) none),.one (.ro (.cl g caps))] [.one (.sl 4 ((xs.filter fun a=>!p a).map Cell.e))]:=by
 have hp':∀x∈xs,∀r,p x=r→Rt g ([.agg x.e]++caps.map .one) [.one (B r)]:=fun x hx r h=>h▸hp x hx
 have ix:=qDp xs p g caps hl hc hp;unfold idxI at ix;cases h:xs.findIdx? p with
 | none=>
  rw[h]at ix;rw[zbs]at h;have e:(xs.filter fun a=>!p a)=xs:=List.filter_eq_self.2 fun a ha=>by simp[h a ha]
  rw[e];exact qyg _ _ _ _ ⟨ix,rfl,trivial⟩
 | some i=>
  rw[h]at ix;change Ret _ _ _ [.one (I (i:Int))]at ix;rw[zai]at h;obtain⟨hi,h2,h3⟩:=h;have hx:xs[i]?=some xs[i]:=zu hi;have e0:(xs.take i).filter (fun a=>!p a)=xs.take i:=List.filter_eq_self.2 fun a ha=>by
   obtain⟨j,hj,rfl⟩:=List.getElem_of_mem ha;have hji:j<i:=by simp at hj;omega
   have:=h3 j hji;simpa using this
  have e1:=qe1 (fun a=>!p a) hx;rw[h2]at e1;simp only[zZ,zao,zci,zaa]at e1;rw[e0]at e1;have e2:(xs.take i).length=i:=by rw[zay];omega
  obtain⟨zs,l,hz,ht⟩:=qmC xs p g caps hl hc hp' (xs.length-(i+1)) (i+1) xs (by omega) rfl rfl (by rw[e1,e2]);rw[e1,e2]at l;have hlt:(xs.filter fun a=>!p a).length<xs.length:=by
   have e3:xs.filter (fun a=>!p a)=xs.take i++(xs.drop (i+1)).filter fun a=>!p a:=by
    have:=zcb (i+1) xs;rw[←this,List.filter_append,this,e1]
   rw[e3,zab,e2];have:=zat (fun a=>!p a) (xs.drop (i+1));rw[List.length_drop]at this;omega
  generalize xs.filter (fun a=>!p a)=fs at*;refine qEe (qyk _ _ _ _ _ _ ⟨ix,zbq.2 (by omega),⟨by omega,by omega⟩,l,by simp,by simp;omega,qae _ Cell.flat _,by simp,by simp,by simp;omega,trivial⟩) ?_;simp only[zV,zae,Nat.sub_zero,zck,←zcr];rw[ht,zbw (by simp),zbk (by simp)]
def qaY(k:Int):Bool:=k==5||k==6||k==8
def qaU(xs:List Cell)(x:Cell):List Cell×Bool:=
 if (qcz xs x.op x.epoch x.key).2&&decide ((qcz xs x.op x.epoch x.key).1≤x.val) then (xs,false) else (qbv (xs.filter fun a=>!qau x a) x,true)
def qaj(kind:Int)(xs:List Cell)(x:Cell):List Cell×Bool:=
 if kind=6 then (if qcj xs x then (xs,false) else (qbv xs x,true))
 else if kind=5∨kind=8 then qaU xs x
 else (xs,true)
theorem qq4(xs:List Cell)(x:Cell)(hl:xs.length≤8388608):Rt 307 [.one (.sl 4 (xs.map Cell.e)),.agg x.e] [.one (.sl 4 ((qaU xs x).1.map Cell.e)),.one (B (qaU xs x).2)]:=by
 have c:=qDi xs x.op x.epoch x.key hl;have cp:=qej xs hl;have d:=qEf xs (qau x) 329 [D.ptr x.e] hl (by kernel_rfl) (fun y _=>qyf ⟨qqW x y,trivial⟩);have pc:=qqK (xs.filter fun a=>!qau x a) x (zce (zat ..) hl);unfold qaU;generalize qcz xs x.op x.epoch x.key=m at*;obtain⟨v,f⟩:=m;cases f with
 | false=>exact qyt ⟨c,rfl,cp,d,pc,trivial⟩
 | true=>
  by_cases h:v≤x.val
  ·rw[dT h];exact qyr ⟨c,rfl,dT h,cp,trivial⟩
  ·rw[dF h];exact qys ⟨c,rfl,dF h,cp,d,pc,trivial⟩
theorem qq6(kind:Int)(xs:List Cell)(x:Cell)(hl:xs.length≤8388608):Rt 303 [.one (I kind),.one (.sl 4 (xs.map Cell.e)),.agg x.e] [.one (.sl 4 (((qaj kind xs x).1).map Cell.e)),.one (B ((qaj kind xs x).2))]:=by
 rcases ze (kind==5) with h1 | h1
 ·skip
  have c2:=qq4 xs x (by omega);rw[show qaj kind xs x=(((qaU xs x).1),(qaU xs x).2) from by grind[qaj,qaU,qbv]];exact qyu ⟨h1,h1,c2,trivial⟩
 ·skip
  rcases ze (kind==8) with h3 | h3
  ·skip
   have c4:=qq4 xs x (by omega);rw[show qaj kind xs x=(((qaU xs x).1),(qaU xs x).2) from by grind[qaj,qaU,qbv]];exact qyv ⟨h1,h3,c4,trivial⟩
  ·skip
   rcases ze (kind==6) with h5 | h5
   ·skip
    have c6:=qqK xs x (by omega);have c7:=qqI xs x (by omega);rw[show qaj kind xs x=((qbv xs x),!(qcj xs x)) from by grind[qaj,qaU,qbv]];exact qyw ⟨h1,h3,h5,c6,c7,trivial⟩
   ·skip
    have c8:=qej xs (by omega);rw[show qaj kind xs x=(xs,true) from by grind[qaj,qaU,qbv]];exact qyx ⟨h1,h3,h5,c8,trivial⟩
def sends(x:Node)(s:Stamp)(key val:Int):List Record:=x.outs.map fun k=>⟨k,s,key,val⟩
def cellOf(r:Record):Cell:=⟨r.op,r.stamp.epoch,r.key,r.val⟩
def qas(g:Graph)(cs:List Cell)(r:Record)(x:Node):List Cell×List Record×Bool:=
 if qax g&&qaC r then
  if !(qak x r.key r.val).2.2&&x.kind != 8 then (cs,[],true)
  else if !(qaj x.kind cs ⟨r.op,r.stamp.epoch,r.key,r.val⟩).2 then ((qaj x.kind cs ⟨r.op,r.stamp.epoch,r.key,r.val⟩).1,[],true)
  else if x.kind=7 then
   ((qaj x.kind cs ⟨r.op,r.stamp.epoch,r.key,r.val⟩).1,(bif (qaG r.stamp).2 then sends x (qaG r.stamp).1 (qak x r.key r.val).1 (qak x r.key r.val).2.1 else []),true)
  else ((qaj x.kind cs ⟨r.op,r.stamp.epoch,r.key,r.val⟩).1,sends x r.stamp (qak x r.key r.val).1 (qak x r.key r.val).2.1,true)
 else (cs,[],false)
theorem qgp(x:Node)(s:Stamp)(key val:Int){i:Nat}{k:Int}(h:x.outs[i]?=some k):(((x.outs.take (i+1)).map fun k=>(⟨k,s,key,val⟩:Record)).map Record.e)=(((x.outs.take i).map fun k=>(⟨k,s,key,val⟩:Record)).map Record.e)++[(⟨k,s,key,val⟩:Record).e]:=by
 simp[zbe,h]
theorem qrb(x:Node)(hx:x.outs.length≤8388608)(s:Stamp)(key val:Int)(nx:List (List D)):qam prog (qaa f238 0) (qfr s.epoch s.turn (x.outs.map eI) key val nx 0 []) (.exit 0) (qeo nx ((sends x s key val).map Record.e)):=by
 have l:=qao (P:=prog) (c:=(qaa f238 0)) (qaf 0) x.outs.length (fun i:Nat=>qfr s.epoch s.turn (x.outs.map eI) key val nx i (((x.outs.take i).map fun k=>(⟨k,s,key,val⟩:Record)).map Record.e)) (fun i hi=>by
  obtain⟨k,hk⟩:=qal hi;rw[qgp x s key val hk];exact qD2 ⟨lt1 hi,lt0,lt2 hi,qac eI hk,rfl,by simp;omega,by simp;omega,qat (Record.flat ⟨k,s,key,val⟩),up1 hi hx,trivial⟩) (qD3 ⟨ge1,trivial⟩)
 rw[zC]at l;exact l
theorem qrc(x:Node)(hx:x.outs.length≤8388608)(b:Bool)(s:Stamp)(key val:Int)(nx:List (List D)):qam prog (qaa f238 0) (qdu (x.outs.map eI) key val nx s.epoch s.turn b 0 []) (.exit 0) (qeo nx ((bif b then sends x s key val else []).map Record.e)):=by
 cases b with
 | true=>
  have l:=qao (P:=prog) (c:=(qaa f238 0)) (qaf 0) x.outs.length (fun i:Nat=>qdu (x.outs.map eI) key val nx s.epoch s.turn true i (((x.outs.take i).map fun k=>(⟨k,s,key,val⟩:Record)).map Record.e)) (fun i hi=>by
   obtain⟨k,hk⟩:=qal hi;rw[qgp x s key val hk];exact qDZ ⟨lt1 hi,lt0,lt2 hi,qac eI hk,rfl,by simp;omega,by simp;omega,qat (Record.flat ⟨k,s,key,val⟩),up1 hi hx,trivial⟩) (qq2 ⟨ge1,trivial⟩)
  rw[zC]at l;exact l
 | false=>
  exact qao (P:=prog) (c:=(qaa f238 0)) (qaf 0) x.outs.length (fun i:Nat=>qdu (x.outs.map eI) key val nx s.epoch s.turn false i []) (fun i hi=>by
   obtain⟨k,hk⟩:=qal hi;exact qD0 ⟨lt1 hi,lt0,lt2 hi,qac eI hk,rfl,up1 hi hx,trivial⟩) (qq2 ⟨ge1,trivial⟩)
theorem qEj(g:Graph)(cs:List Cell)(r:Record)(x:Node)(hg:g.sz≤8388608)(hl:cs.length≤8388608)(hn:qaN g r.op=some x):Rt 238 [.agg g.e,.one (.sl 4 (cs.map Cell.e)),.agg r.e] [.one (.sl 4 ((qas g cs r x).1.map Cell.e)),.one (.sl 5 ((qas g cs r x).2.1.map Record.e)),.one (B (qas g cs r x).2.2)]:=by
 have hx:=Graph.outs_le hg (qmt hn);obtain⟨hk0,hk2,_,_⟩:=qhD hn;have hk1:g.nodes[r.op.toNat]?=some x:=by have:=hn;unfold qaN at this;rwa[zp hk0]at this
 have c1:=qfm g hg;rcases ze (qax g) with h2 | h2
 ·skip
  have c3:=qdt r;rcases ze (qaC r) with h4 | h4
  ·skip
   have c5:=qgn g r.op true (by rw[hn];rfl) hg;have c6:=qDf x r.key r.val hx;rcases ze ((qak x r.key r.val).2.2) with h7 | h7
   ·skip
    have c8:=qq6 x.kind cs (⟨r.op,r.stamp.epoch,r.key,r.val⟩:Cell) (by omega);rcases ze ((qaj x.kind cs (⟨r.op,r.stamp.epoch,r.key,r.val⟩:Cell)).2) with h9 | h9
    ·skip
     rcases ze (x.kind==7) with h10 | h10
     ·skip
      have c11:=qmA r.stamp
      
      rw[show qas g cs r x=(((qaj x.kind cs (⟨r.op,r.stamp.epoch,r.key,r.val⟩:Cell)).1),(bif (qaG r.stamp).2 then sends x ((qaG r.stamp).1) ((qak x r.key r.val).1) ((qak x r.key r.val).2.1) else []),true) from by grind[qas,qaY,qaj]];exact qD6 ⟨c1,(by rw[h2];rfl),c3,(by rw[h4];rfl),c5,rfl,(by first | omega | (simp only[zb,zh];omega) | exact qae _ Cell.flat _ | grind[inInt]),(by first | omega | (simp only[zb,zh];omega) | exact qae _ Cell.flat _ | grind[inInt]),(qad Node.e hk1),c6,(by rw[h7];rfl),c8,(by rw[h9];rfl),h10,c11,(qrc x hx ((qaG r.stamp).2) ((qaG r.stamp).1) ((qak x r.key r.val).1) ((qak x r.key r.val).2.1) _),trivial⟩
     ·skip
      
      rw[show qas g cs r x=(((qaj x.kind cs (⟨r.op,r.stamp.epoch,r.key,r.val⟩:Cell)).1),(sends x r.stamp ((qak x r.key r.val).1) ((qak x r.key r.val).2.1)),true) from by grind[qas,qaY,qaj]];exact qD7 ⟨c1,(by rw[h2];rfl),c3,(by rw[h4];rfl),c5,rfl,(by first | omega | (simp only[zb,zh];omega) | exact qae _ Cell.flat _ | grind[inInt]),(by first | omega | (simp only[zb,zh];omega) | exact qae _ Cell.flat _ | grind[inInt]),(qad Node.e hk1),c6,(by rw[h7];rfl),c8,(by rw[h9];rfl),h10,(qrb x hx r.stamp ((qak x r.key r.val).1) ((qak x r.key r.val).2.1) _),trivial⟩
    ·skip
     rw[show qas g cs r x=(((qaj x.kind cs (⟨r.op,r.stamp.epoch,r.key,r.val⟩:Cell)).1),([]:List Record),true) from by grind[qas,qaY,qaj]];exact qD5 ⟨c1,(by rw[h2];rfl),c3,(by rw[h4];rfl),c5,rfl,(by first | omega | (simp only[zb,zh];omega) | exact qae _ Cell.flat _ | grind[inInt]),(by first | omega | (simp only[zb,zh];omega) | exact qae _ Cell.flat _ | grind[inInt]),(qad Node.e hk1),c6,(by rw[h7];rfl),c8,(by rw[h9];rfl),trivial⟩
   ·skip
    rcases ze (x.kind != 8) with h12 | h12
    ·skip
     have c13:=qej cs (by omega);rw[show qas g cs r x=(cs,([]:List Record),true) from by grind[qas,qaY,qaj]];exact qDX ⟨c1,(by rw[h2];rfl),c3,(by rw[h4];rfl),c5,rfl,(by first | omega | (simp only[zb,zh];omega) | exact qae _ Cell.flat _ | grind[inInt]),(by first | omega | (simp only[zb,zh];omega) | exact qae _ Cell.flat _ | grind[inInt]),(qad Node.e hk1),c6,(by rw[h7];rfl),h12,c13,trivial⟩
    ·skip
     have c14:=qq6 x.kind cs (⟨r.op,r.stamp.epoch,r.key,r.val⟩:Cell) (by omega);rcases ze ((qaj x.kind cs (⟨r.op,r.stamp.epoch,r.key,r.val⟩:Cell)).2) with h15 | h15
     ·skip
      rcases ze (x.kind==7) with h16 | h16
      ·skip
       have c17:=qmA r.stamp
       
       rw[show qas g cs r x=(((qaj x.kind cs (⟨r.op,r.stamp.epoch,r.key,r.val⟩:Cell)).1),(bif (qaG r.stamp).2 then sends x ((qaG r.stamp).1) ((qak x r.key r.val).1) ((qak x r.key r.val).2.1) else []),true) from by grind[qas,qaY,qaj]];exact qD1 ⟨c1,(by rw[h2];rfl),c3,(by rw[h4];rfl),c5,rfl,(by first | omega | (simp only[zb,zh];omega) | exact qae _ Cell.flat _ | grind[inInt]),(by first | omega | (simp only[zb,zh];omega) | exact qae _ Cell.flat _ | grind[inInt]),(qad Node.e hk1),c6,(by rw[h7];rfl),h12,c14,(by rw[h15];rfl),h16,c17,(qrc x hx ((qaG r.stamp).2) ((qaG r.stamp).1) ((qak x r.key r.val).1) ((qak x r.key r.val).2.1) _),trivial⟩
      ·skip
       
       rw[show qas g cs r x=(((qaj x.kind cs (⟨r.op,r.stamp.epoch,r.key,r.val⟩:Cell)).1),(sends x r.stamp ((qak x r.key r.val).1) ((qak x r.key r.val).2.1)),true) from by grind[qas,qaY,qaj]];exact qD4 ⟨c1,(by rw[h2];rfl),c3,(by rw[h4];rfl),c5,rfl,(by first | omega | (simp only[zb,zh];omega) | exact qae _ Cell.flat _ | grind[inInt]),(by first | omega | (simp only[zb,zh];omega) | exact qae _ Cell.flat _ | grind[inInt]),(qad Node.e hk1),c6,(by rw[h7];rfl),h12,c14,(by rw[h15];rfl),h16,(qrb x hx r.stamp ((qak x r.key r.val).1) ((qak x r.key r.val).2.1) _),trivial⟩
     ·skip
      rw[show qas g cs r x=(((qaj x.kind cs (⟨r.op,r.stamp.epoch,r.key,r.val⟩:Cell)).1),([]:List Record),true) from by grind[qas,qaY,qaj]];exact qDY ⟨c1,(by rw[h2];rfl),c3,(by rw[h4];rfl),c5,rfl,(by first | omega | (simp only[zb,zh];omega) | exact qae _ Cell.flat _ | grind[inInt]),(by first | omega | (simp only[zb,zh];omega) | exact qae _ Cell.flat _ | grind[inInt]),(qad Node.e hk1),c6,(by rw[h7];rfl),h12,c14,(by rw[h15];rfl),trivial⟩
  ·skip
   have c18:=qej cs (by omega);rw[show qas g cs r x=(cs,([]:List Record),false) from by grind[qas,qaY,qaj]];exact qq1 ⟨c1,(by rw[h2];rfl),c3,(by rw[h4];rfl),c18,trivial⟩
 ·skip
  have c19:=qej cs (by omega);rw[show qas g cs r x=(cs,([]:List Record),false) from by grind[qas,qaY,qaj]];exact qq0 ⟨c1,(by rw[h2];rfl),c19,trivial⟩
end Go.Proofs.YtdkobdhckkjmeaaGreat
