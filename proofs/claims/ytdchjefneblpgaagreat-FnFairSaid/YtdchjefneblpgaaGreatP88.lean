import Derived.Test.YtdchjefneblpgaaGreatP86
import Derived.Test.YtdchjefneblpgaaGreatG1
set_option linter.unusedVariables false
set_option linter.unusedSimpArgs false
namespace Go.Proofs.YtdchjefneblpgaaGreat
open Go.Sx Go.RowKit Go.Proofs.Tryz
theorem YD(g:bV)(xs:List az)(w:Int):∀n:Nat,(po g xs w n).Pairwise (fun a b=>a.bi.a8<=b.bi.a8)/\∀r∈po g xs w n,r.bi.a8<n
 | 0=>⟨List.Pairwise.nil,fun r aD=>by grind[po]⟩
 | n+1=>by
  obtain⟨h1,U⟩:=YD g xs w n;have aA:∀r∈zx g xs w (n:Nat),r.bi.a8=(n:Nat):=fun r aD=>by
   simp_all[zx,List.mem_filter,cw,ka]
  rw[Y4];refine⟨List.pairwise_append.2 ⟨h1,?_,fun a ai b aw=>?_⟩,fun r aD=>?_⟩
  ·simp_all[List.pairwise_of_forall_mem_list,Int.le_refl]
  ·grind
  grind
theorem YE{α:Type}{R:α->α->Prop}:∀{xs:List α},xs.Pairwise R->∀{j:Nat} {a b:α},xs[j]?=some a->xs[j+1]?=some b->R a b
 | [],_,_,_,_,h,_=>by simp at h
 | x::xs,hp,0,a,b,h1,U=>by
  obtain rfl:x=a:=by grind
  exact (List.pairwise_cons.1 hp).1 b (c9 (i:=0) (by grind))
 | x::xs,hp,j+1,a,b,h1,U=>YE (List.pairwise_cons.1 hp).2 (j:=j) (by grind) (by grind)
variable{g:bV}{xs:List az}
theorem auE(h:mo g xs=true)(w:Int):e6 g (lb (own g xs w))=true:=by
 obtain⟨h1,_,aA⟩:=Aa.1 h;have al:1<=(g.nodes.length:Int):=by
  simp_all[eh,cw,av,ck]
 have Q2:∀r∈own g xs w,eJ r=true/\r.op=0/\r.bi.dg=0:=fun r aD=>by
  rw[ft]at aA;have:=aA r (HD aD).1;simp only[sI,pV,hb,bne_iff_ne,l6,not_or,Bool.not_eq_false,Decidable.not_not]at this;grind
 refine ik.2 ⟨rfl,rfl,?_,rfl,rfl,rfl,rfl,?_,rfl,rfl⟩
 ·simp only[gw,hb,ft,lb];intro r aD;obtain⟨cS,bt,_⟩:=Q2 r aD;simp only[j6,cS,bt,iU,ke,ck];omega
 refine zR fun i a ai=>?_
 change (own g xs w)[i]?=some a at ai;obtain⟨_,bt,fP⟩:=Q2 a (c9 ai);cases i with
 | zero=>grind[ml]
 | succ j=>
  unfold ml;rw[bt,fP];change (match (own g xs w)[j]? with | some q=>decide (q.bi.a8>a.bi.a8) | none=>false)=false;cases aH:(own g xs w)[j]? with
  | none=>rfl
  | some q=>
   have:=YE (YD g xs w 4).1 aH ai;grind
theorem auF(h:mo g xs=true):cB (eP g xs)=true:=by
 obtain⟨h1,_,_⟩:=Aa.1 h;have aZ:=iR h1;have ak:1<=g.cap/\g.cap<=4:=by
  simp_all[eh,cw,av,ck]
 have fZ:fT g.cap 1 4=g.cap:=by simp_all[fT,bw]
 refine fz.2 ⟨h1,?_,?_,rfl,?_,?_,?_,rfl⟩
 ·grind[eP,z']
 ·simp only[eP,List.length_replicate,Int.natCast_mul];grind
 ·rw[ft];intro x af;obtain⟨i,hi⟩:=List.getElem?_of_mem af;obtain⟨rfl,_⟩:=HE hi;grind[eP,auE,decide]
 ·refine zR fun i l al=>?_
  have:=List.eq_of_mem_replicate (c9 al);subst this;refine qy.2 ⟨pz.2 ⟨?_,?_,?_,?_,rfl,?_,rfl,rfl⟩,?_,rfl,fun _=>rfl⟩
  ·simp_all[kP,av,ck]
  ·simp only[kP,fZ,av,ck];omega
  ·simp only[kP,fZ,av,ck];omega
  ·grind[kP,et]
  ·grind[kP]
  simp only[kP,fZ];rfl
 rw[ft];intro t bG;have:=List.eq_of_mem_replicate bG;subst this;rw[show lD (eP g xs).ay.ar DP=false from sE.2 ⟨⟨by decide,by change (0:Int)<=g.ar-1;omega⟩,fun _=>rfl,by decide⟩];decide
theorem YF{α:Type}{f:α->Int}:∀{xs:List α},(∀x∈xs,f x=0)->(xs.map f).sum=0
 | [],_=>rfl
 | a::xs,h=>by
  rw[lN,wx,h a (hU ..),YF fun x af=>h x (gI _ af)];rfl
theorem kV.new(h:mo g xs=true):kV 0 (eP g xs):=by
 have hw:∀x∈(eP g xs).ar,∃w:Nat,x=lb (own g xs w):=fun x af=>by
  obtain⟨i,hi⟩:=List.getElem?_of_mem af;exact⟨i,(HE hi).1⟩
 have lp:∀l∈(eP g xs).bJ,l=kP g.cap:=fun l al=>List.eq_of_mem_replicate al
 have zero:∀(k:Nat),(List.replicate 4 (0:Int)).getD k 0=0:=fun k=>by
  grind
 refine⟨auF h,⟨fun i x af=>?_,fun i l al=>?_⟩,⟨fun x af k=>?_,fun l al=>?_,fun t bG ax=>?_⟩,fun e he=>⟨?_,fun t bG ax=>?_,fun iX=>?_⟩⟩
 ·obtain⟨rfl,_⟩:=HE af;exact⟨fun r aD=>by grind[lb],fun r aD=>(HD aD).2⟩
 ·rw[lp l (c9 al)];grind[kP]
 ·grind[lb]
 ·rw[lp l al];exact Int.le_refl _
 ·rw[List.eq_of_mem_replicate bG]at ax;cases ax
 ·have h1:gW e (eP g xs) (eP g xs).ar.length=0:=by
   refine YF fun x af=>?_
   obtain⟨w,rfl⟩:=hw x (td af);exact zero _
  have U:ja e (eP g xs)=0:=by
   unfold ja dd;simp_all[HB,py,eP,l3,kP]
  grind
 ·obtain⟨_,_,U⟩:=xG bG;rw[List.eq_of_mem_replicate (c9 U)]at ax;cases ax
 exfalso;have h1:nO (eP g xs) e=false:=by
  grind[nO,ft,ev,lb]
 grind[nj,eP]
theorem kV.drawn(h:mo g xs=true)(l:List b')(al:l.length<=200000):kV l.length (cU (eP g xs) l).1:=by
 have:=(kV.new h).run (c:=eP g xs) l (by omega);grind
end Go.Proofs.YtdchjefneblpgaaGreat
namespace Go.Proofs.YtdchjefneblpgaaGreat
open Go.Sx Go.RowKit Go.Proofs.Tryz
theorem Oc(xs:List Int)(al:xs.length<=8388608):aq 70 [.one (.J 1 (xs.map bc)),.one (.J 1 (xs.map bc))] [.one (B true)]:=by
 have l:=dY (P:=prog) (c:=(ap f70 0)) (cn 0) xs.length (fun i:Nat=>CI (xs.map bc) (xs.map bc) i) (fun i hi=>by
  obtain⟨a,ai⟩:=c4 hi;exact ahc ⟨b5 hi,bA,bH hi,bC bc ai,bA,bH hi,bC bc ai,by simp,db hi al,aa⟩) (ahd ⟨dw,aa⟩)
 exact ahe ⟨by simp,l,aa⟩
theorem YG{xs:List Bool}(al:xs.length<=8388608):aq 172 [.one (.J 1 (xs.map cv)),.one (.J 1 (xs.map cv))] [.one (B true)]:=by
 have l:=dY (P:=prog) (c:=(ap f172 0)) (cn 0) xs.length (fun i:Nat=>CJ (xs.map cv) (xs.map cv) i) (fun i hi=>by
  obtain⟨a,ai⟩:=c4 hi;exact ahf ⟨b5 hi,bA,bH hi,bC cv ai,bA,bH hi,bC cv ai,by simp,db hi al,aa⟩) (ahg ⟨dw,aa⟩)
 exact ahh ⟨by simp,l,aa⟩
theorem av1{xs:List cx}(al:xs.length<=8388608):aq 173 [.one (.J 2 (xs.map cx.e)),.one (.J 2 (xs.map cx.e))] [.one (B true)]:=by
 have l:=dY (P:=prog) (c:=(ap f173 0)) (cn 0) xs.length (fun i:Nat=>CK (xs.map cx.e) (xs.map cx.e) i) (fun i hi=>by
  obtain⟨a,ai⟩:=c4 hi;exact ahi ⟨b5 hi,bA,bH hi,bC cx.e ai,bA,bH hi,bC cx.e ai,by simp,db hi al,aa⟩) (ahj ⟨dw,aa⟩)
 exact agu ⟨by simp,l,aa⟩
theorem av2{xs:List bP}(al:xs.length<=8388608):aq 162 [.one (.J 5 (xs.map bP.e)),.one (.J 5 (xs.map bP.e))] [.one (B true)]:=by
 have l:=dY (P:=prog) (c:=(ap f162 0)) (cn 0) xs.length (fun i:Nat=>CL (xs.map bP.e) (xs.map bP.e) i) (fun i hi=>by
  obtain⟨a,ai⟩:=c4 hi;exact agv ⟨b5 hi,bA,bH hi,bC bP.e ai,bA,bH hi,bC bP.e ai,by simp,db hi al,aa⟩) (agw ⟨dw,aa⟩)
 exact agx ⟨by simp,l,aa⟩
theorem av3{xs:List bT}(al:xs.length<=8388608):aq 163 [.one (.J 3 (xs.map bT.e)),.one (.J 3 (xs.map bT.e))] [.one (B true)]:=by
 have l:=dY (P:=prog) (c:=(ap f163 0)) (cn 0) xs.length (fun i:Nat=>CM (xs.map bT.e) (xs.map bT.e) i) (fun i hi=>by
  obtain⟨a,ai⟩:=c4 hi;exact agy ⟨b5 hi,bA,bH hi,bC bT.e ai,bA,bH hi,bC bT.e ai,by simp,db hi al,aa⟩) (agz ⟨dw,aa⟩)
 exact agA ⟨by simp,l,aa⟩
theorem HH(xs:List az)(al:xs.length<=8388608):aq 37 [.one (.J 5 (xs.map az.e)),.one (.J 5 (xs.map az.e))] [.one (B true)]:=by
 have l:=dY (P:=prog) (c:=(ap f37 0)) (cn 0) xs.length (fun i:Nat=>CQ (xs.map az.e) (xs.map az.e) i) (fun i hi=>by
  obtain⟨a,ai⟩:=c4 hi;exact agP ⟨b5 hi,bA,bH hi,bC az.e ai,bA,bH hi,bC az.e ai,by simp,db hi al,aa⟩) (agQ ⟨dw,aa⟩)
 exact agR ⟨by simp,l,aa⟩
theorem av4{xs:List Cell}(al:xs.length<=8388608):aq 19 [.one (.J 4 (xs.map Cell.e)),.one (.J 4 (xs.map Cell.e))] [.one (B true)]:=by
 have l:=dY (P:=prog) (c:=(ap f19 0)) (cn 0) xs.length (fun i:Nat=>CR (xs.map Cell.e) (xs.map Cell.e) i) (fun i hi=>by
  obtain⟨a,ai⟩:=c4 hi;exact agS ⟨b5 hi,bA,bH hi,bC Cell.e ai,bA,bH hi,bC Cell.e ai,by simp,db hi al,aa⟩) (agT ⟨dw,aa⟩)
 exact agk ⟨by simp,l,aa⟩
theorem av5(x:Node)(af:x.sz<=8388608):aq 321 [.agg x.e,.agg x.e] [.one (B true)]:=
 agB ⟨by simp,by simp,by simp,Oc x.outs af,aa⟩
theorem av6(g:bV)(ax:g.sz<=8388608):aq 159 [.agg g.e,.agg g.e] [.one (B true)]:=by
 have al:g.nodes.length<=8388608:=Da (sz:=Node.sz) ax;have l:=dY (P:=prog) (c:=(ap f262 0)) (cn 0) g.nodes.length (fun i:Nat=>CN (g.nodes.map Node.e) (g.nodes.map Node.e) i) (fun i hi=>by
  obtain⟨a,ai⟩:=c4 hi;exact agC ⟨b5 hi,bA,bH hi,bC Node.e ai,bA,bH hi,bC Node.e ai,av5 a (xC (sz:=Node.sz) ax (c9 ai)),rfl,db hi al,aa⟩) (agD ⟨dw,aa⟩)
 have e:aq 159 [.agg g.e,.agg g.e] [.one (B (g.cap==g.cap))]:=agF ⟨agE ⟨by simp,l,aa⟩,rfl,by simp,aa⟩;rwa[wv]at e
theorem av7(l:bm)(al:l.sz<=8388608):aq 263 [.agg l.e,.agg l.e] [.one (B true)]:=by
 have e:aq 263 [.agg l.e,.agg l.e] [.one (B (l.cW==l.cW))]:=agG ⟨by simp,HH l.queue al,rfl,by simp,by simp,by simp,aa⟩;rwa[wv]at e
theorem av8(w:aK)(hw:w.sz<=8388608):aq 47 [.agg w.e,.agg w.e] [.one (B true)]:=by
 simp only[aK.sz]at hw;exact agK ⟨HH _ (by omega),rfl,HH _ (by omega),rfl,HH _ (by omega),rfl,av4 (by omega),rfl,Oc _ (by omega),rfl,YG (by omega),rfl,YG (by omega),rfl,av1 (by omega),aa⟩
theorem Od(c:aT)(ak:c.sz<=8388608):aq 35 [.agg c.e,.agg c.e] [.one (B true)]:=by
 simp only[aT.sz]at ak;have hw:fs aK.sz c.ar<=8388608:=by omega
 have al:fs bm.sz c.bJ<=8388608:=by omega
 have kw:=Da hw;have nD:=Da al;have hz:=dY (P:=prog) (c:=(ap f160 0)) (cn 0) c.ar.length (fun i:Nat=>CP (c.ar.map aK.e) (c.ar.map aK.e) i) (fun i hi=>by
  obtain⟨a,ai⟩:=c4 hi;exact agL ⟨b5 hi,bA,bH hi,bC aK.e ai,bA,bH hi,bC aK.e ai,av8 a (xC hw (c9 ai)),rfl,db hi kw,aa⟩) (agM ⟨dw,aa⟩)
 have mm:=dY (P:=prog) (c:=(ap f161 0)) (cn 0) c.bJ.length (fun i:Nat=>CO (c.bJ.map bm.e) (c.bJ.map bm.e) i) (fun i hi=>by
  obtain⟨a,ai⟩:=c4 hi;exact agH ⟨b5 hi,bA,bH hi,bC bm.e ai,bA,bH hi,bC bm.e ai,av7 a (xC al (c9 ai)),rfl,db hi nD,aa⟩) (agI ⟨dw,aa⟩)
 exact agO ⟨av6 c.ay (by omega),rfl,agN ⟨by simp,hz,aa⟩,rfl,agJ ⟨by simp,mm,aa⟩,rfl,av2 (by omega),rfl,av3 (by omega),aa⟩
end Go.Proofs.YtdchjefneblpgaaGreat
namespace Go.Proofs.YtdchjefneblpgaaGreat
open Go.Sx Go.RowKit Go.Proofs.Tryz
def ni(c:aT)(b:Bool):List D:=[.J 4 (c.ay.nodes.map Node.e),I c.ay.ar,I c.ay.cap,.J 8 (c.ar.map aK.e),.J 6 (c.bJ.map bm.e),.J 5 (c.tokens.map bP.e),.J 3 (c.news.map bT.e),B b]
abbrev fU(c:aT):List D:=ni c (cB c)
theorem HI(w:aK)(e:Int)(r:Bool)(h:ev w e=r)(hw:w.sz<=8388608):aq 210 [.agg w.e,.one (I e)] [.one (B r)]:=h▸Uj w e hw
theorem DH(c:aT)(ak:c.sz<=8388608)(hw:fa c):b2 prog 127 [.ro (.agg c.e)] (.new (fU c)):=
 aey ⟨afA c ak,apN c ak hw,aa⟩
variable{i:Nat}
theorem Oe{α:Type}{f:α->List D}{xs:List α}{a:α}:(xs.map f).set i (f a)=(xs.set i a).map f:=List.map_set.symm
variable{c:aT}{x:aK}
theorem mx{i:Int}(h:cc c i=some x):0<=i/\i<(↑(c.ar.map aK.e).length:Int)/\(c.ar.map aK.e)[i.toNat]?=some x.e:=by
 obtain⟨h1,U,aA⟩:=eO h;exact⟨h1,by rw[ct];omega,bQ aK.e aA⟩
theorem nh{i:Int}(h:cc c i=some x)(ak:c.sz<=8388608):x.sz<=8388608:=aT.Pt ak (c9 (eO h).2.2)
theorem av9{l:List bT}(hi:i<l.length):([]++((l.map bT.e).drop 0).take (((some (i:Int)).getD (↑(l.map bT.e).length:Int)).toNat-0)++((l.map bT.e).drop ((some ((i:Int)+1)).getD 0).toNat).take ((l.map bT.e).length-((some ((i:Int)+1)).getD 0).toNat))=(cutAt l i).map bT.e:=by
 have e1:((i:Int)+1).toNat=i+1:=by omega
 simp only[cutAt,lL,kU,Nat.sub_zero,yB,List.nil_append,e1,gi,qJ,List.map_drop]
 congr 1
 rw[yz (by simp)]
theorem YH{l:List bT}:((l.map bT.e).drop ((some ((i:Int)+1)).getD 0).toNat).take ((l.map bT.e).length-((some ((i:Int)+1)).getD 0).toNat)=(l.drop (i+1)).map bT.e:=by
 have e1:((i:Int)+1).toNat=i+1:=by omega
 simp only[lL,e1,List.map_drop];rw[yz (by simp)]
theorem Of(h:cB c=true){n:bT}(aZ:c.news[i]?=some n){w:Int}(hw:(n.dest==w)=true):∃x,cc c w=some x:=by
 have aw:=M' h aZ;simp only[lE,av,gl,kd,ck]at aw;have U:=(fz.1 h).2.1;have e:=eq_of_beq hw;exact pA (by omega) (by omega)
theorem HJ{α:Type}{f:α->List D}(h:∀a,∀d∈f a,∃x,d=.v x){l:List (List D)}{xs:List α}(al:l=xs.map f):Flat l:=al▸dz f h xs
theorem YI{w:Int}{n:bT}(h1:c.news.findIdx? (fun n=>n.dest==w)=some i)(bW:cB c=true)(aZ:c.news[i]?=some n)(af:cc c w=some x):jF c w=(fV (setW c w (ee x n)) (cutAt c.news i),true):=by
 unfold jF;simp only[h1,bW,gj,aZ,af]
theorem awa(c:aT)(w:Int)(ak:c.sz<=8388608):b2 prog 247 [.ref (fU c) (fU (jF c w).1),.ro (.one (I w))] (.vals [.one (B (jF c w).2)]):=by
 have al:=xE ak;have Fc:=fun h=>WG (c:=c) (w:=w) h
 cases bW:cB c with
 | false=>
  have e:jF c w=(c,false):=by
   unfold jF;split<;>simp[bW]
  rw[e];simp only[fU,bW];cases aZ:c.news with
  | nil=>
   have l:c8 prog (ap f247 0) (rI w 0 (c.ay.nodes.map Node.e) c.ay.ar c.ay.cap (c.ar.map aK.e) (c.bJ.map bm.e) (c.tokens.map bP.e) (c.news.map bT.e) false) (.exit 0) _:=.last (cn 0) (V0 ⟨by simp[aZ],aa⟩);exact NP ⟨l,aa⟩
  | cons a l=>
   have l:c8 prog (ap f247 0) (rI w 0 (c.ay.nodes.map Node.e) c.ay.ar c.ay.cap (c.ar.map aK.e) (c.bJ.map bm.e) (c.tokens.map bP.e) (c.news.map bT.e) false) (.exit 0) _:=.last (cn 0) (aeC ⟨dh (by simp[aZ]<;>omega),rfl,aa⟩);exact NP ⟨l,aa⟩
 | true=>
  have Fc:=Fc bW;have l:=gv (P:=prog) (c:=(ap f247 0)) c.news (fun n=>n.dest==w) (fun i=>rI w i (c.ay.nodes.map Node.e) c.ay.ar c.ay.cap (c.ar.map aK.e) (c.bJ.map bm.e) (c.tokens.map bP.e) (c.news.map bT.e) true)
   (X:=fun i n=>match cc c w with
    | some x=>Hn true (c.ay.nodes.map Node.e) c.ay.ar c.ay.cap ((setW c w (ee x n)).ar.map aK.e) (c.bJ.map bm.e) (c.tokens.map bP.e) ((cutAt c.news i).map bT.e) true
    | none=>⟨[],[]⟩) e5 (cn 0)
   (fun i a ai h=>aez ⟨b5 (a1 ai),rfl,bA,bH (a1 ai),bC bT.e ai,by simp only[bne,h];rfl,db (a1 ai) al,aa⟩)
   (fun i a ai h=>by
    obtain⟨x,af⟩:=Of bW ai h;have hi:=a1 ai;obtain⟨w0,w1,h'⟩:=mx af;have ao:=nh af ak;simp only[af];rw[<-av9 hi];cases aE:ev x a.a8 with
    | true=>
     rw[show ee x a=x by unfold ee;rw[aE];rfl,um af];exact aeB ⟨b5 hi,rfl,bA,bH hi,bC bT.e ai,by simp only[bne,h];rfl,by simp,by simp,by simp;omega,by simp;omega,by simp;omega,HJ (xs:=c.news.take i) bT.flat (by simp),db hi al,by simp;omega,by simp;omega,by simp,by simp;omega,by simp;omega,HJ (xs:=c.news.drop (i+1)) bT.flat YH,w0,w1,h',NI x a.a8 true aE ao,rfl,aa⟩
    | false=>
     have q7:x.bZ.length<=8388608:=by simp only[aK.sz]at ao;omega
     have e2:(setW c w (ee x a)).ar.map aK.e=(c.ar.map aK.e).set w.toNat (told x a.a8 a.cf).e:=by
      rw[show ee x a=told x a.a8 a.cf by unfold ee;rw[aE];rfl];exact Oe.symm
     rw[e2];have cj:(told x a.a8 a.cf).e=[.J 5 (x.queue.map az.e),.J 5 (x.b8.map az.e),.J 5 (x.bR.map az.e),.J 4 (x.cells.map Cell.e),.J 1 (x.bB.map bc),.J 1 (x.bL.map cv),.J 1 (x.bj.map cv),.J 2 (x.bZ.map cx.e++[[I a.a8,B a.cf]])]:=by
      simp only[told,aK.e,gi];rfl
     rw[cj];exact aeA ⟨b5 hi,rfl,bA,bH hi,bC bT.e ai,by simp only[bne,h];rfl,by simp,by simp,by simp;omega,by simp;omega,by simp;omega,HJ (xs:=c.news.take i) bT.flat (by simp),db hi al,by simp;omega,by simp;omega,by simp,by simp;omega,by simp;omega,HJ (xs:=c.news.drop (i+1)) bT.flat YH,w0,w1,h',NI x a.a8 false aE ao,rfl,w0,w1,h',by simp;omega,by simp;omega,h',rfl,fE (cx.flat ⟨a.a8,a.cf⟩),rfl,rfl,rfl,rfl,rfl,rfl,rfl,rfl,rfl,rfl,rfl,w0,w1,h',rfl,aa⟩)
   (V0 ⟨dw,aa⟩)
  rcases l with⟨_,h1,_,U⟩ | ⟨i,a,ai,hp,_,h1,_,U⟩
  ·have e:jF c w=(c,false):=by unfold jF;simp only[h1]
   rw[e];simp only[fU,bW];exact NP ⟨U,aa⟩
  obtain⟨x,af⟩:=Of bW ai hp;rw[YI h1 bW ai af]at Fc ⊢;simp only[af]at U;simp only[fU,bW,Fc];exact aeD ⟨U,aa⟩
theorem awb(c:aT)(w:Int)(ak:c.sz<=8388608)(hw:fa c):aq 224 [.agg c.e,.one (I w)] [.agg (jF c w).1.e,.one (B (jF c w).2)]:=by
 have al:=xE ak;have cF:=rJ c ak;have lx:=aAi c.news (fun n=>n.dest==w) 295 [.ptr [I w]] al (by kernel_rfl) (fun x _=>aeE trivial);have ok:=GZ c ak hw;unfold lv at lx;cases h1:c.news.findIdx? (fun n=>n.dest==w) with
 | none=>
  simp only[h1]at lx;rw[show jF c w=(c,false) by unfold jF;simp only[h1]];exact aeF ⟨cF,lx,dh (by omega),aa⟩
 | some i=>
  simp only[h1]at lx;cases bW:cB c with
  | false=>
   rw[bW]at ok;rw[show jF c w=(c,false) by unfold jF;simp[h1,bW]];exact aeG ⟨cF,lx,ea (by omega),ok,rfl,aa⟩
  | true=>
   rw[bW]at ok;obtain⟨hi,hp,_⟩:=uG.1 h1;have ai:c.news[i]?=some c.news[i]:=iD hi;generalize c.news[i]=a at ai hp;obtain⟨x,af⟩:=Of bW ai hp;obtain⟨w0,w1,h'⟩:=mx af;have ao:=nh af ak;rw[YI h1 bW ai af];have dl:=afE c.news i (i+1) (by omega) (by omega);rw[show (((i+1:Nat):Int))=(i:Int)+1 by omega]at dl;cases aE:ev x a.a8 with
   | true=>
    rw[show ee x a=x by unfold ee;rw[aE];rfl,um af];exact aeI ⟨cF,lx,ea (by omega),ok,rfl,bA,bH hi,bC bT.e ai,db hi al,dl,w0,w1,h',HI x a.a8 true aE ao,rfl,aa⟩
   | false=>
    have q7:x.bZ.length<=8388608:=by simp only[aK.sz]at ao;omega
    have e2:(setW c w (ee x a)).ar.map aK.e=(c.ar.map aK.e).set w.toNat (told x a.a8 a.cf).e:=by
     rw[show ee x a=told x a.a8 a.cf by unfold ee;rw[aE];rfl];exact Oe.symm
    have cj:(told x a.a8 a.cf).e=[.J 5 (x.queue.map az.e),.J 5 (x.b8.map az.e),.J 5 (x.bR.map az.e),.J 4 (x.cells.map Cell.e),.J 1 (x.bB.map bc),.J 1 (x.bL.map cv),.J 1 (x.bj.map cv),.J 2 (x.bZ.map cx.e++[[I a.a8,B a.cf]])]:=by
     simp only[told,aK.e,gi];rfl
    have d':(fV (setW c w (ee x a)) (cutAt c.news i)).e=[.J 4 (c.ay.nodes.map Node.e),I c.ay.ar,I c.ay.cap,.J 8 ((c.ar.map aK.e).set w.toNat (told x a.a8 a.cf).e),.J 6 (c.bJ.map bm.e),.J 5 (c.tokens.map bP.e),.J 3 ((cutAt c.news i).map bT.e)]:=by
     rw[<-e2];rfl
    rw[d',cj];exact aeH ⟨cF,lx,ea (by omega),ok,rfl,bA,bH hi,bC bT.e ai,db hi al,dl,w0,w1,h',HI x a.a8 false aE ao,rfl,w0,w1,h',by simp;omega,by simp;omega,h',rfl,fE (cx.flat ⟨a.a8,a.cf⟩),rfl,rfl,rfl,rfl,rfl,rfl,rfl,rfl,w0,w1,h',rfl,aa⟩
end Go.Proofs.YtdchjefneblpgaaGreat
namespace Go.Proofs.YtdchjefneblpgaaGreat
open Go.Sx Go.RowKit Go.Proofs.Tryz
theorem QM(a b:Nat):(((a:Int)+(b:Int))==0)=(a+b==0):=by
 rw[Bool.eq_iff_iff];simp only[ka];omega
theorem awc(w:aK)(e:Int)(hw:w.sz<=8388608):aq 342 [.agg w.e,.one (I e)] [.one (B (xF w e))]:=by
 have al:w.bR.length<=8388608:=by simp only[aK.sz]at hw;omega
 have l:=gv (P:=prog) (c:=(ap f342 0)) w.bR (fun r=>decide (r.bi.a8<=e)) (fun i=>x7 (w.queue.map az.e) (w.b8.map az.e) (w.bR.map az.e) (w.cells.map Cell.e) (w.bB.map bc) (w.bL.map cv) (w.bj.map cv) (w.bZ.map cx.e) e i) (X:=fun _ _=>NQ true) e5 (cn 0)
  (fun i a ai h=>agc ⟨b5 (a1 ai),bA,bH (a1 ai),bC az.e ai,h,db (a1 ai) al,aa⟩)
  (fun i a ai h=>agb ⟨b5 (a1 ai),bA,bH (a1 ai),bC az.e ai,h,aa⟩)
  (agd ⟨dw,aa⟩)
 unfold xF;rcases l with⟨_,_,h1,U⟩ | ⟨i,a,_,_,_,_,h1,U⟩
 ·rw[h1];exact agf ⟨U,aa⟩
 rw[h1];exact age ⟨U,aa⟩
theorem awd(w:aK)(e:Int)(hw:w.sz<=8388608):aq 331 [.agg w.e,.one (I e)] [.one (B (xF w e))]:=by
 have al:w.bR.length<=8388608:=by simp only[aK.sz]at hw;omega
 exact aft ⟨aAP w.bR (fun r=>decide (r.bi.a8<=e)) 353 [.ptr [I e]] al (by kernel_rfl) (fun x _=>afu trivial),aa⟩
theorem awe(w:aK)(e:Int)(hw:w.sz<=8388608):aq 343 [.agg w.e,.one (I e)] [.one (I ((↑((l3 e w.queue).map az.e).length:Int)+(↑((l3 e w.b8).map az.e).length:Int)))]:=by
 simp only[aK.sz]at hw;have cS:(l3 e w.queue).length<=w.queue.length:=pT _ _;have bt:(l3 e w.b8).length<=w.b8.length:=pT _ _;exact agj ⟨UJ w.queue e (by omega),UJ w.b8 e (by omega),⟨by simp only[ct];omega,by simp only[ct];omega⟩,aa⟩
theorem awf(w:aK)(e:Int)(hw:w.sz<=8388608):aq 316 [.agg w.e,.one (I e)] [.one (B (ks w e))]:=by
 have o:=awc w e hw;unfold ks;cases h:xF w e with
 | true=>rw[h]at o;exact agi ⟨o,rfl,aa⟩
 | false=>
  rw[h]at o;have a:=awe w e hw;rw[ct,ct]at a;have b:=agh ⟨o,rfl,a,aa⟩;rw[QM]at b;exact b
theorem awg(w:aK)(e:Int)(hw:w.sz<=8388608):aq 332 [.agg w.e,.one (I e)] [.one (I ((↑((l3 e w.queue).map az.e).length:Int)+(↑((l3 e w.b8).map az.e).length:Int)))]:=by
 simp only[aK.sz]at hw;have cS:(l3 e w.queue).length<=w.queue.length:=pT _ _;have bt:(l3 e w.b8).length<=w.b8.length:=pT _ _;exact afx ⟨UK w.queue e (by omega),UK w.b8 e (by omega),⟨by simp only[ct];omega,by simp only[ct];omega⟩,aa⟩
theorem awh(w:aK)(e:Int)(hw:w.sz<=8388608):aq 294 [.agg w.e,.one (I e)] [.one (B (ks w e))]:=by
 have o:=awd w e hw;unfold ks;cases h:xF w e with
 | true=>rw[h]at o;exact afw ⟨o,rfl,aa⟩
 | false=>
  rw[h]at o;have a:=awg w e hw;rw[ct,ct]at a;have b:=afv ⟨o,rfl,a,aa⟩;rw[QM]at b;exact b
theorem YJ(w:aK)(e:Int)(r:Bool)(h:ks w e=r)(hw:w.sz<=8388608):aq 316 [.agg w.e,.one (I e)] [.one (B r)]:=h▸awf w e hw
theorem YK(w:aK)(e:Int)(r:Bool)(h:ks w e=r)(hw:w.sz<=8388608):aq 294 [.agg w.e,.one (I e)] [.one (B r)]:=h▸awh w e hw
end Go.Proofs.YtdchjefneblpgaaGreat
namespace Go.Proofs.YtdchjefneblpgaaGreat
open Go.Sx Go.RowKit Go.Proofs.Tryz
variable{c:aT}{i:Int}
theorem YL{t:bP}(h:hR c i=some t):0<=i/\i<(↑(c.tokens.map bP.e).length:Int)/\(c.tokens.map bP.e)[i.toNat]?=some t.e:=by
 obtain⟨h1,U,aA⟩:=xG h;exact⟨h1,by rw[ct];omega,bQ bP.e aA⟩
variable{e:Int}
theorem zq{xs:List Int}(aJ:xs.length=4)(he:0<=e/\e<=3):e<(↑(xs.map bc).length:Int)/\(xs.map bc)[e.toNat]?=some [I (xs.getD e.toNat 0)]:=by
 have al:e.toNat<xs.length:=by omega
 refine⟨by rw[ct];omega,?_⟩;rw[dK,iD al,lK,iD al];rfl
theorem r9{xs:List Bool}(aJ:xs.length=4)(he:0<=e/\e<=3):e<(↑(xs.map cv).length:Int)/\(xs.map cv)[e.toNat]?=some [B (xs.getD e.toNat false)]:=by
 have al:e.toNat<xs.length:=by omega
 refine⟨by rw[ct];omega,?_⟩;rw[dK,iD al,lK,iD al];rfl
variable{l:List (List D)}{a:List D}
theorem h0(bO:0<=i)(h:i<(↑l.length:Int)):(l.set i.toNat a)[i.toNat]?=some a:=List.getElem?_set_self (by omega)
theorem uU{b:List D}(bO:0<=i)(h:i<(↑l.length:Int)):((l.set i.toNat a).set i.toNat b)[i.toNat]?=some b:=by rw[qF];exact h0 bO h
theorem uV{b d:List D}(bO:0<=i)(h:i<(↑l.length:Int)):(((l.set i.toNat a).set i.toNat b).set i.toNat d)[i.toNat]?=some d:=by rw[qF,qF];exact h0 bO h
theorem HK(x:aK)(e:Int):(ew x e).e=[.J 5 (x.queue.map az.e),.J 5 (x.b8.map az.e),.J 5 (x.bR.map az.e),.J 4 (x.cells.map Cell.e),.J 1 (x.bB.map bc),.J 1 ((x.bL.map cv).set e.toNat [B false]),.J 1 (x.bj.map cv),.J 2 (x.bZ.map cx.e)]:=by
 simp only[ew,aK.e,hE];rfl
theorem YM(x:aK)(e:Int)(b:Bool):(told x e b).e=[.J 5 (x.queue.map az.e),.J 5 (x.b8.map az.e),.J 5 (x.bR.map az.e),.J 4 (x.cells.map Cell.e),.J 1 (x.bB.map bc),.J 1 (x.bL.map cv),.J 1 (x.bj.map cv),.J 2 (x.bZ.map cx.e++[[I e,B b]])]:=by
 simp only[told,aK.e,gi];rfl
theorem YN(c:aT)(e p:Int)(t:bP)(y:aK):(setW (cJ c e t) p y).e=[.J 4 (c.ay.nodes.map Node.e),I c.ay.ar,I c.ay.cap,.J 8 ((c.ar.map aK.e).set p.toNat y.e),.J 6 (c.bJ.map bm.e),.J 5 ((c.tokens.map bP.e).set e.toNat t.e),.J 3 (c.news.map bT.e)]:=by
 simp only[setW,cJ,aT.e,hE]
theorem O'(c:aT)(e:Int)(t:bP):(cJ c e t).e=[.J 4 (c.ay.nodes.map Node.e),I c.ay.ar,I c.ay.cap,.J 8 (c.ar.map aK.e),.J 6 (c.bJ.map bm.e),.J 5 ((c.tokens.map bP.e).set e.toNat t.e),.J 3 (c.news.map bT.e)]:=by
 simp only[cJ,aT.e,hE]
theorem Ye(c:aT)(e p:Int)(t:bP)(y:aK)(b:Bool):ni (setW (cJ c e t) p y) b=[.J 4 (c.ay.nodes.map Node.e),I c.ay.ar,I c.ay.cap,.J 8 ((c.ar.map aK.e).set p.toNat y.e),.J 6 (c.bJ.map bm.e),.J 5 ((c.tokens.map bP.e).set e.toNat t.e),.J 3 (c.news.map bT.e),B b]:=by
 simp only[setW,cJ,ni,hE]
theorem awi(c:aT)(e:Int)(t:bP)(b:Bool):ni (cJ c e t) b=[.J 4 (c.ay.nodes.map Node.e),I c.ay.ar,I c.ay.cap,.J 8 (c.ar.map aK.e),.J 6 (c.bJ.map bm.e),.J 5 ((c.tokens.map bP.e).set e.toNat t.e),.J 3 (c.news.map bT.e),B b]:=by
 simp only[cJ,ni,hE]
theorem Pb(n:Nat)(e:Int)(b:Bool):gh (n+1) e b=gh n e b++[⟨(n:Int)+1,e,b⟩]:=by simp[gh,List.range_succ]
theorem Pc(n:Nat)(e:Int)(b:Bool):(gh n e b).length=n:=by simp[gh]
theorem Yf{cE x:aK}{t:bP}(ok:cB c=true)(he:av e 0 3=true)(bO:cc c 0=some cE)(bG:hR c e=some t)(aE:ev cE e=false)(af:cc c t.place=some x):ij c e=dE c e t x:=by
 unfold ij;simp only[ok,he,Bool.and_self,gj,bO,bG,aE,nR,l7,af]
theorem Yg(ok:cB c=true)(he:av e 0 3=true):∃cE t x,cc c 0=some cE/\hR c e=some t/\cc c t.place=some x/\0<c.ar.length/\c.ar.length<=4/\
  (0<=t.place/\t.place<=3)/\(t.going=false->t.place=0)/\(-1000000<=t.sum/\t.sum<=1000000)/\x.bB.length=4/\x.bL.length=4/\x.bj.length=4/\(-1000000<=x.bB.getD e.toNat 0/\x.bB.getD e.toNat 0<=1000000):=by
 obtain⟨h1,U,aA,aJ,a',bu,b1,dy⟩:=fz.1 ok;have aZ:=iR h1;obtain⟨cE,bO⟩:=pA (c:=c) (i:=0) (by omega) (by omega);obtain⟨t,bG⟩:=Wu ok he;obtain⟨t1,t2,t3⟩:=sE.1 (zS ok bG);obtain⟨x,af⟩:=pA (c:=c) (i:=t.place) (by omega) (by omega);obtain⟨_,_,_,_,kI,pb,k6,_,tQ,_⟩:=ik.1 (j4 ok af);refine⟨cE,t,x,bO,bG,af,by omega,by omega,by omega,t2,t3,kI,pb,k6,?_⟩;simp only[av,ck]at he;have al:e.toNat<x.bB.length:=by omega
 rw[ft]at tQ;have:=tQ _ (pU al);rw[lK,iD al,lL];simpa only[oA,hb,kd,av,ck,wu,Bool.not_not,Bool.not_eq_eq_eq_not,iU,mG,Classical.not_not]using this
theorem Yh(c:aT)(e:Int)(x:aK)(r:Bool)(bO:cc c 0=some x)(aE:ev x e=r)(ak:c.sz<=8388608):aq 315 [.agg c.e,.one (I e)] [.one (B r)]:=by
 obtain⟨w0,w1,h'⟩:=mx bO;exact aga ⟨dh (by omega),w0,w1,h',NI x e r aE (nh bO ak),aa⟩
theorem awj(c:aT)(b:Bool)(x:aK)(e:Int)(cap:Bool)(bO:cc c 0=some x)(aJ:c.ar.length<=4)(ak:c.sz<=8388608):
  b2 prog 317 [.ref (ni c b) (ni (fV (setW c 0 (told x e cap)) (c.news++gh (c.ar.length-1) e cap)) b),.ro (.one (I e)),.ro (.one (B cap))] (.vals []):=by
 obtain⟨w0,w1,h'⟩:=mx bO;have aZ:=xE ak;have ao:=nh bO ak;have q7:x.bZ.length<=8388608:=by simp only[aK.sz]at ao;omega
 have hlen:=(eO bO).2.1;have uZ:((setW c 0 (told x e cap)).ar.map aK.e).length=c.ar.length:=by simp[setW]
 have l:=dY (P:=prog) (c:=(ap f317 0)) (cn 0) (c.ar.length-1) (fun i:Nat=>Ds e cap ((i:Int)+1) (c.ay.nodes.map Node.e) c.ay.ar c.ay.cap ((setW c 0 (told x e cap)).ar.map aK.e) (c.bJ.map bm.e) (c.tokens.map bP.e) ((c.news++gh i e cap).map bT.e) b) (fun i hi=>by
  have hm:=Pc i e cap;rw[Pb,<-nT,gi (l₂:=[_])];exact aeJ ⟨dh (by rw[uZ];omega),by simp;omega,by simp;omega,fE (bT.flat ⟨(i:Int)+1,e,cap⟩),⟨by omega,by omega⟩,aa⟩) (aeK ⟨ea (by rw[uZ];omega),aa⟩)
 have e2:(setW c 0 (told x e cap)).ar.map aK.e=(c.ar.map aK.e).set 0 [.J 5 (x.queue.map az.e),.J 5 (x.b8.map az.e),.J 5 (x.bR.map az.e),.J 4 (x.cells.map Cell.e),.J 1 (x.bB.map bc),.J 1 (x.bL.map cv),.J 1 (x.bj.map cv),.J 2 (x.bZ.map cx.e++[[I e,B cap]])]:=by
  rw[<-YM];exact Oe.symm
 have bE:gh 0 e cap=[]:=rfl;rw[e2,bE,io]at l;have hj:ni (fV (setW c 0 (told x e cap)) (c.news++gh (c.ar.length-1) e cap)) b=[.J 4 (c.ay.nodes.map Node.e),I c.ay.ar,I c.ay.cap,.J 8 ((setW c 0 (told x e cap)).ar.map aK.e),.J 6 (c.bJ.map bm.e),.J 5 (c.tokens.map bP.e),.J 3 ((c.news++gh (c.ar.length-1) e cap).map bT.e),B b]:=rfl;rw[hj,e2];exact aeL ⟨by omega,w1,h',by simp;omega,by simp;omega,h',rfl,fE (cx.flat ⟨e,cap⟩),rfl,rfl,rfl,rfl,rfl,rfl,rfl,by omega,w1,h',rfl,l,aa⟩
theorem awk(c:aT)(e:Int)(ak:c.sz<=8388608):b2 prog 246 [.ref (fU c) (fU (ij c e).1),.ro (.one (I e))] (.vals [.one (B (ij c e).2)]):=by
 have post:=fun h=>WE (c:=c) (e:=e) h
 cases ok:cB c with
 | false=>
  rw[show ij c e=(c,false) by unfold ij;simp[ok]];simp only[fU,ok];exact aeM ⟨rfl,aa⟩
 | true=>
 replace post:=post ok;cases he:av e 0 3 with
 | false=>
  rw[show ij c e=(c,false) by unfold ij;simp[he]];simp only[fU,ok];exact aeN ⟨rfl,gg _ _ _ _ he,rfl,aa⟩
 | true=>
 have he:=he;obtain⟨cE,t,x,bO,bG,af,zc,vb,RD,JU,ady,rk,tA,y5,zn⟩:=Yg ok he;have q9:0<=e/\e<=3:=by simpa only[av,ck]using he
 obtain⟨cr,dJ,dv⟩:=YL bG;obtain⟨c6,de,cq⟩:=mx af;obtain⟨aB1,oF,oG⟩:=mx bO;obtain⟨jI,jJ⟩:=zq rk q9;obtain⟨jX,ix⟩:=r9 tA q9;obtain⟨tn,tp⟩:=r9 y5 q9;have dM:=nh af ak;have q7:x.bZ.length<=8388608:=by simp only[aK.sz]at dM;omega
 have BE:(↑(c.ar.map aK.e).length:Int)=(c.ar.length:Int):=by rw[ct]
 cases aE:ev cE e with
 | true=>
  rw[show ij c e=(c,false) by unfold ij;simp only[ok,he,Bool.and_self,gj,bO,bG,aE]];simp only[fU,ok];exact aeO ⟨rfl,gg _ _ _ _ he,rfl,Yh c e cE true bO aE ak,rfl,aa⟩
 | false=>
 rw[Yf ok he bO bG aE af]at post ⊢;have rd:=Yh c e cE false bO aE ak;have iT:=gg _ _ _ _ he;cases hp:ks x e with
 | false=>
  rw[show dE c e t x=(c,false) by unfold dE;simp[hp]];simp only[fU,ok];exact aeP ⟨rfl,iT,rfl,rd,rfl,cr,dJ,dv,c6,de,cq,YJ x e _ hp dM,rfl,aa⟩
 | true=>
 have j3:=YJ x e _ hp dM;have ie:aL .i64 (t.sum+x.bB.getD e.toNat 0):=⟨by omega,by omega⟩
 simp only[fU,ok,post];clear post;obtain⟨HX,l4,ts,tb,eQ⟩:=t;dsimp only at*;cases HX with
 | false=>
  obtain rfl:l4=0:=JU rfl;rw[show dE c e ⟨false,0,ts,tb,eQ⟩ x=(setW (cJ c e ⟨true,(c.ar.length:Int)-1,0,false,x.bj.getD e.toNat false⟩) 0 (ew x e),true) by simp only[dE,hp,gj,oH]];dsimp only;rw[Ye,HK,<-BE];exact aeQ ⟨rfl,iT,rfl,rd,rfl,cr,dJ,dv,c6,de,cq,j3,rfl,cr,jI,jJ,ie,rfl,⟨by omega,by omega⟩,cr,tn,tp,cr,dJ,dv,by omega,de,cq,cr,jX,ix,cq,rfl,rfl,rfl,rfl,rfl,aa⟩
 | true=>
 by_cases mi:0<l4
 case pos=>
  have jO:decide (l4>0)=true:=dh mi;cases aD:av (ts+x.bB.getD e.toNat 0) (-1000000) 1000000 with
  | false=>
   rw[show dE c e ⟨true,l4,ts,tb,eQ⟩ x=(c,false) by simp only[dE,hp,gj,iU,nR,l7,mi,aD]];exact aeR ⟨rfl,iT,rfl,rd,rfl,cr,dJ,dv,c6,de,cq,j3,rfl,cr,jI,jJ,ie,rfl,jO,gg _ _ _ _ aD,rfl,aa⟩
  | true=>
   have e1:dE c e ⟨true,l4,ts,tb,eQ⟩ x=(setW (cJ c e ⟨true,l4-1,ts+x.bB.getD e.toNat 0,tb||x.bL.getD e.toNat false,eQ||x.bj.getD e.toNat false⟩) l4 (ew x e),true):=by
    simp only[dE,hp,gj,iU,nR,l7,mi,aD]
   rw[e1];dsimp only;rw[Ye,HK];have wr:=gg _ _ _ _ aD;cases tb with
   | true=>
    cases eQ with
    | true=>exact aeS ⟨rfl,iT,rfl,rd,rfl,cr,dJ,dv,c6,de,cq,j3,rfl,cr,jI,jJ,ie,rfl,jO,wr,rfl,⟨by omega,by omega⟩,rfl,rfl,cr,dJ,dv,c6,de,cq,cr,jX,ix,cq,rfl,rfl,rfl,rfl,rfl,aa⟩
    | false=>exact aej ⟨rfl,iT,rfl,rd,rfl,cr,dJ,dv,c6,de,cq,j3,rfl,cr,jI,jJ,ie,rfl,jO,wr,rfl,⟨by omega,by omega⟩,rfl,rfl,cr,tn,tp,cr,dJ,dv,c6,de,cq,cr,jX,ix,cq,rfl,rfl,rfl,rfl,rfl,aa⟩
   | false=>
    cases eQ with
    | true=>exact aek ⟨rfl,iT,rfl,rd,rfl,cr,dJ,dv,c6,de,cq,j3,rfl,cr,jI,jJ,ie,rfl,jO,wr,rfl,⟨by omega,by omega⟩,rfl,cr,jX,ix,rfl,cr,dJ,dv,c6,de,cq,cr,jX,ix,cq,rfl,rfl,rfl,rfl,rfl,rfl,rfl,aa⟩
    | false=>exact ael ⟨rfl,iT,rfl,rd,rfl,cr,dJ,dv,c6,de,cq,j3,rfl,cr,jI,jJ,ie,rfl,jO,wr,rfl,⟨by omega,by omega⟩,rfl,cr,jX,ix,rfl,cr,tn,tp,cr,dJ,dv,c6,de,cq,cr,jX,ix,cq,rfl,rfl,rfl,rfl,rfl,rfl,rfl,aa⟩
 case neg=>
  obtain rfl:l4=0:=by omega
  have jO:decide ((0:Int)>0)=false:=rfl;have e1:=fun b=>awi c e ⟨false,0,ts,tb,eQ⟩ b
  have ends:=fun cap=>awj (cJ c e ⟨false,0,ts,tb,eQ⟩) true x e cap (Cy.trans af) vb (by rw[G3];exact ak)
  rw[e1]at ends;cases tb with
  | true=>
   rw[show dE c e ⟨true,0,ts,true,eQ⟩ x=(cJ c e ⟨false,0,ts,true,eQ⟩,true) by simp[dE,hp]];dsimp only;rw[e1];exact aeq ⟨rfl,iT,rfl,rd,rfl,cr,dJ,dv,c6,de,cq,j3,rfl,cr,jI,jJ,ie,rfl,jO,cr,dJ,dv,rfl,aa⟩
  | false=>
  cases hk:x.bL.getD e.toNat false with
  | true=>
   rw[hk]at ix;rw[show dE c e ⟨true,0,ts,false,eQ⟩ x=(cJ c e ⟨false,0,ts,false,eQ⟩,true) by unfold dE;simp only[hp,hk];rfl];dsimp only;rw[e1];exact aep ⟨rfl,iT,rfl,rd,rfl,cr,dJ,dv,c6,de,cq,j3,rfl,cr,jI,jJ,ie,rfl,jO,cr,dJ,dv,rfl,cr,jX,ix,rfl,aa⟩
  | false=>
  rw[hk]at ix;cases bd:(ts+x.bB.getD e.toNat 0==0) with
  | false=>
   rw[show dE c e ⟨true,0,ts,false,eQ⟩ x=(cJ c e ⟨false,0,ts,false,eQ⟩,true) by unfold dE;simp only[hp,hk,bd];rfl];dsimp only;rw[e1];exact aeo ⟨rfl,iT,rfl,rd,rfl,cr,dJ,dv,c6,de,cq,j3,rfl,cr,jI,jJ,ie,rfl,jO,cr,dJ,dv,rfl,cr,jX,ix,rfl,bd,aa⟩
  | true=>
  rw[show dE c e ⟨true,0,ts,false,eQ⟩ x=(fV (setW (cJ c e ⟨false,0,ts,false,eQ⟩) 0 (told x e (eQ||x.bj.getD e.toNat false))) (c.news++gh (c.ar.length-1) e (eQ||x.bj.getD e.toNat false)),true) by unfold dE;simp only[hp,hk,bd];rfl];cases eQ with
  | true=>exact aem ⟨rfl,iT,rfl,rd,rfl,cr,dJ,dv,c6,de,cq,j3,rfl,cr,jI,jJ,ie,rfl,jO,cr,dJ,dv,rfl,cr,jX,ix,rfl,bd,rfl,ends true,aa⟩
  | false=>exact aen ⟨rfl,iT,rfl,rd,rfl,cr,dJ,dv,c6,de,cq,j3,rfl,cr,jI,jJ,ie,rfl,jO,cr,dJ,dv,rfl,cr,jX,ix,rfl,bd,rfl,cr,tn,tp,ends _,aa⟩
theorem awl(c:aT)(e:Int)(W T:List (List D))(hlen:0<c.ar.length)(aJ:c.ar.length<=4)(ak:c.sz<=8388608):c8 prog (ap f223 0) (Ap e 1 (c.ay.nodes.map Node.e) c.ay.ar c.ay.cap W (c.bJ.map bm.e) T (c.news.map bT.e) 0 0 (c.ay.nodes.map Node.e) c.ay.ar c.ay.cap (c.ar.map aK.e) (c.bJ.map bm.e) (c.tokens.map bP.e) (c.news.map bT.e)) (.exit 1) (Aq (c.ay.nodes.map Node.e) c.ay.ar c.ay.cap W (c.bJ.map bm.e) T ((c.news++gh (c.ar.length-1) e true).map bT.e) 0 0):=by
 have aZ:=xE ak;have l:=dY (P:=prog) (c:=(ap f223 0)) (cn 1) (c.ar.length-1) (fun i:Nat=>Ap e ((i:Int)+1) (c.ay.nodes.map Node.e) c.ay.ar c.ay.cap W (c.bJ.map bm.e) T ((c.news++gh i e true).map bT.e) 0 0 (c.ay.nodes.map Node.e) c.ay.ar c.ay.cap (c.ar.map aK.e) (c.bJ.map bm.e) (c.tokens.map bP.e) (c.news.map bT.e)) (fun i hi=>by
  have hm:=Pc i e true;rw[Pb,<-nT,gi (l₂:=[_])];exact af1 ⟨dh (by simp;omega),by simp;omega,by simp;omega,fE (bT.flat ⟨(i:Int)+1,e,true⟩),⟨by omega,by omega⟩,aa⟩) (af2 ⟨ea (by simp;omega),aa⟩)
 have bE:gh 0 e true=[]:=rfl;rw[bE,io]at l;exact l
theorem awm(c:aT)(e:Int)(cap:Bool)(W T:List (List D))(hlen:0<c.ar.length)(aJ:c.ar.length<=4)(ak:c.sz<=8388608):c8 prog (ap f223 0) (Ar e cap 1 (c.ay.nodes.map Node.e) c.ay.ar c.ay.cap W (c.bJ.map bm.e) T (c.news.map bT.e) 0 0 (c.ay.nodes.map Node.e) c.ay.ar c.ay.cap (c.ar.map aK.e) (c.bJ.map bm.e) (c.tokens.map bP.e) (c.news.map bT.e)) (.exit 1) (Aq (c.ay.nodes.map Node.e) c.ay.ar c.ay.cap W (c.bJ.map bm.e) T ((c.news++gh (c.ar.length-1) e cap).map bT.e) 0 0):=by
 have aZ:=xE ak;have l:=dY (P:=prog) (c:=(ap f223 0)) (cn 1) (c.ar.length-1) (fun i:Nat=>Ar e cap ((i:Int)+1) (c.ay.nodes.map Node.e) c.ay.ar c.ay.cap W (c.bJ.map bm.e) T ((c.news++gh i e cap).map bT.e) 0 0 (c.ay.nodes.map Node.e) c.ay.ar c.ay.cap (c.ar.map aK.e) (c.bJ.map bm.e) (c.tokens.map bP.e) (c.news.map bT.e)) (fun i hi=>by
  have hm:=Pc i e cap;rw[Pb,<-nT,gi (l₂:=[_])];exact af4 ⟨dh (by simp;omega),by simp;omega,by simp;omega,fE (bT.flat ⟨(i:Int)+1,e,cap⟩),⟨by omega,by omega⟩,aa⟩) (af5 ⟨ea (by simp;omega),aa⟩)
 have bE:gh 0 e cap=[]:=rfl;rw[bE,io]at l;exact l
theorem awn(c:aT)(e:Int)(ak:c.sz<=8388608)(hw:fa c):aq 223 [.agg c.e,.one (I e)] [.agg (ij c e).1.e,.one (B (ij c e).2)]:=by
 have cF:=rJ c ak;have mq:=GZ c ak hw;cases ok:cB c with
 | false=>
  rw[ok]at mq;rw[show ij c e=(c,false) by unfold ij;simp[ok]];exact aer ⟨cF,mq,rfl,aa⟩
 | true=>
 rw[ok]at mq;cases he:av e 0 3 with
 | false=>
  rw[show ij c e=(c,false) by unfold ij;simp[he]];exact aes ⟨cF,mq,rfl,hM _ he,rfl,aa⟩
 | true=>
 have he:=he;obtain⟨cE,t,x,bO,bG,af,zc,vb,RD,JU,ady,rk,tA,y5,zn⟩:=Yg ok he;have q9:0<=e/\e<=3:=by simpa only[av,ck]using he
 obtain⟨cr,dJ,dv⟩:=YL bG;obtain⟨c6,de,cq⟩:=mx af;obtain⟨aB1,oF,oG⟩:=mx bO;obtain⟨jI,jJ⟩:=zq rk q9;obtain⟨jX,ix⟩:=r9 tA q9;obtain⟨tn,tp⟩:=r9 y5 q9;have dM:=nh af ak;have q7:x.bZ.length<=8388608:=by simp only[aK.sz]at dM;omega
 have BE:(↑(c.ar.map aK.e).length:Int)=(c.ar.length:Int):=by rw[ct]
 have iT:=hM _ he;cases aE:ev cE e with
 | true=>
  rw[show ij c e=(c,false) by unfold ij;simp only[ok,he,Bool.and_self,gj,bO,bG,aE]];exact afT ⟨cF,mq,rfl,iT,rfl,by omega,oF,oG,HI cE e true aE (nh bO ak),rfl,aa⟩
 | false=>
 have dn:=HI cE e false aE (nh bO ak);rw[Yf ok he bO bG aE af];cases hp:ks x e with
 | false=>
  rw[show dE c e t x=(c,false) by unfold dE;simp[hp]];exact afU ⟨cF,mq,rfl,iT,rfl,by omega,oF,oG,dn,rfl,cr,dJ,dv,c6,de,cq,YK x e _ hp dM,rfl,aa⟩
 | true=>
 have j3:=YK x e _ hp dM;have ie:aL .i64 (t.sum+x.bB.getD e.toNat 0):=⟨by omega,by omega⟩
 obtain⟨HX,l4,ts,tb,eQ⟩:=t;dsimp only at*;cases HX with
 | false=>
  obtain rfl:l4=0:=JU rfl;rw[show dE c e ⟨false,0,ts,tb,eQ⟩ x=(setW (cJ c e ⟨true,(c.ar.length:Int)-1,0,false,x.bj.getD e.toNat false⟩) 0 (ew x e),true) by simp only[dE,hp,gj,oH]];dsimp only;rw[YN,HK,<-BE];exact afV ⟨cF,mq,rfl,iT,rfl,by omega,oF,oG,dn,rfl,cr,dJ,dv,c6,de,cq,j3,rfl,dv,rfl,cq,cr,tn,tp,⟨by omega,by omega⟩,dv,cq,cr,jX,ix,cq,rfl,rfl,rfl,aa⟩
 | true=>
 by_cases mi:0<l4
 case pos=>
  have jO:decide (l4>0)=true:=dh mi;cases aD:av (ts+x.bB.getD e.toNat 0) (-1000000) 1000000 with
  | false=>
   rw[show dE c e ⟨true,l4,ts,tb,eQ⟩ x=(c,false) by simp only[dE,hp,gj,iU,nR,l7,mi,aD]];exact afW ⟨cF,mq,rfl,iT,rfl,by omega,oF,oG,dn,rfl,cr,dJ,dv,c6,de,cq,j3,rfl,dv,rfl,dv,jO,dv,cq,cr,jI,jJ,ie,hM _ aD,rfl,aa⟩
  | true=>
   have e1:dE c e ⟨true,l4,ts,tb,eQ⟩ x=(setW (cJ c e ⟨true,l4-1,ts+x.bB.getD e.toNat 0,tb||x.bL.getD e.toNat false,eQ||x.bj.getD e.toNat false⟩) l4 (ew x e),true):=by
    simp only[dE,hp,gj,iU,nR,l7,mi,aD]
   rw[e1];dsimp only;rw[YN,HK];have wr:=hM _ aD;have cS:aL .i64 (l4-1):=⟨by omega,by omega⟩
   cases tb with
   | true=>
    cases eQ with
    | true=>
     have key:=afX ⟨cF,mq,rfl,iT,rfl,by omega,oF,oG,dn,rfl,cr,dJ,dv,c6,de,cq,j3,rfl,dv,rfl,dv,jO,dv,cq,cr,jI,jJ,ie,wr,rfl,dv,cq,cr,jI,jJ,ie,dv,h0 cr dJ,rfl,h0 cr dJ,uU cr dJ,rfl,uU cr dJ,cq,cr,jX,ix,cq,rfl,rfl,rfl,uV cr dJ,cS,uV cr dJ,aa⟩;simp only[qF]at key;exact key
    | false=>
     have key:=afY ⟨cF,mq,rfl,iT,rfl,by omega,oF,oG,dn,rfl,cr,dJ,dv,c6,de,cq,j3,rfl,dv,rfl,dv,jO,dv,cq,cr,jI,jJ,ie,wr,rfl,dv,cq,cr,jI,jJ,ie,dv,h0 cr dJ,rfl,h0 cr dJ,uU cr dJ,rfl,cq,cr,tn,tp,uU cr dJ,cq,cr,jX,ix,cq,rfl,rfl,rfl,uV cr dJ,cS,uV cr dJ,aa⟩;simp only[qF]at key;exact key
   | false=>
    cases eQ with
    | true=>
     have key:=afZ ⟨cF,mq,rfl,iT,rfl,by omega,oF,oG,dn,rfl,cr,dJ,dv,c6,de,cq,j3,rfl,dv,rfl,dv,jO,dv,cq,cr,jI,jJ,ie,wr,rfl,dv,cq,cr,jI,jJ,ie,dv,h0 cr dJ,rfl,cq,cr,jX,ix,h0 cr dJ,uU cr dJ,rfl,uU cr dJ,cq,cr,jX,ix,cq,rfl,rfl,rfl,rfl,rfl,uV cr dJ,cS,uV cr dJ,aa⟩;simp only[qF]at key;exact key
    | false=>
     have key:=af0 ⟨cF,mq,rfl,iT,rfl,by omega,oF,oG,dn,rfl,cr,dJ,dv,c6,de,cq,j3,rfl,dv,rfl,dv,jO,dv,cq,cr,jI,jJ,ie,wr,rfl,dv,cq,cr,jI,jJ,ie,dv,h0 cr dJ,rfl,cq,cr,jX,ix,h0 cr dJ,uU cr dJ,rfl,cq,cr,tn,tp,uU cr dJ,cq,cr,jX,ix,cq,rfl,rfl,rfl,rfl,rfl,uV cr dJ,cS,uV cr dJ,aa⟩;simp only[qF]at key;exact key
 case neg=>
  obtain rfl:l4=0:=by omega
  have jO:decide ((0:Int)>0)=false:=rfl;cases tb with
  | true=>
   rw[show dE c e ⟨true,0,ts,true,eQ⟩ x=(cJ c e ⟨false,0,ts,true,eQ⟩,true) by simp[dE,hp]];dsimp only;rw[O'];exact af9 ⟨cF,mq,rfl,iT,rfl,by omega,oF,oG,dn,rfl,cr,dJ,dv,c6,de,cq,j3,rfl,dv,rfl,dv,jO,dv,h0 cr dJ,rfl,aa⟩
  | false=>
  cases hk:x.bL.getD e.toNat false with
  | true=>
   rw[hk]at ix;rw[show dE c e ⟨true,0,ts,false,eQ⟩ x=(cJ c e ⟨false,0,ts,false,eQ⟩,true) by unfold dE;simp only[hp,hk];rfl];dsimp only;rw[O'];exact af8 ⟨cF,mq,rfl,iT,rfl,by omega,oF,oG,dn,rfl,cr,dJ,dv,c6,de,cq,j3,rfl,dv,rfl,dv,jO,dv,h0 cr dJ,rfl,cq,cr,jX,ix,rfl,aa⟩
  | false=>
  rw[hk]at ix;cases bd:(ts+x.bB.getD e.toNat 0==0) with
  | false=>
   rw[show dE c e ⟨true,0,ts,false,eQ⟩ x=(cJ c e ⟨false,0,ts,false,eQ⟩,true) by unfold dE;simp only[hp,hk,bd];rfl];dsimp only;rw[O'];exact af7 ⟨cF,mq,rfl,iT,rfl,by omega,oF,oG,dn,rfl,cr,dJ,dv,c6,de,cq,j3,rfl,dv,rfl,dv,jO,dv,h0 cr dJ,rfl,cq,cr,jX,ix,rfl,h0 cr dJ,cq,cr,jI,jJ,ie,bd,aa⟩
  | true=>
  rw[show dE c e ⟨true,0,ts,false,eQ⟩ x=(fV (setW (cJ c e ⟨false,0,ts,false,eQ⟩) 0 (told x e (eQ||x.bj.getD e.toNat false))) (c.news++gh (c.ar.length-1) e (eQ||x.bj.getD e.toNat false)),true) by unfold dE;simp only[hp,hk,bd];rfl];have d':∀cap,(fV (setW (cJ c e ⟨false,0,ts,false,eQ⟩) 0 (told x e cap)) (c.news++gh (c.ar.length-1) e cap)).e=[.J 4 (c.ay.nodes.map Node.e),I c.ay.ar,I c.ay.cap,.J 8 ((c.ar.map aK.e).set 0 [.J 5 (x.queue.map az.e),.J 5 (x.b8.map az.e),.J 5 (x.bR.map az.e),.J 4 (x.cells.map Cell.e),.J 1 (x.bB.map bc),.J 1 (x.bL.map cv),.J 1 (x.bj.map cv),.J 2 (x.bZ.map cx.e++[[I e,B cap]])]),.J 6 (c.bJ.map bm.e),.J 5 ((c.tokens.map bP.e).set e.toNat (bP.e ⟨false,0,ts,false,eQ⟩)),.J 3 ((c.news++gh (c.ar.length-1) e cap).map bT.e)]:=fun cap=>by
   rw[<-YM];simp only[fV,setW,cJ,aT.e,hE];rfl
  cases eQ with
  | true=>
   dsimp only[Bool.true_or];rw[d'];exact af3 ⟨cF,mq,rfl,iT,rfl,by omega,oF,oG,dn,rfl,cr,dJ,dv,c6,de,cq,j3,rfl,dv,rfl,dv,jO,dv,h0 cr dJ,rfl,cq,cr,jX,ix,rfl,h0 cr dJ,cq,cr,jI,jJ,ie,bd,h0 cr dJ,rfl,cq,by simp;omega,by simp;omega,cq,rfl,rfl,rfl,fE (cx.flat ⟨e,true⟩),cq,rfl,awl c e _ _ zc vb ak,aa⟩
  | false=>
   dsimp only[ke];rw[d'];exact af6 ⟨cF,mq,rfl,iT,rfl,by omega,oF,oG,dn,rfl,cr,dJ,dv,c6,de,cq,j3,rfl,dv,rfl,dv,jO,dv,h0 cr dJ,rfl,cq,cr,jX,ix,rfl,h0 cr dJ,cq,cr,jI,jJ,ie,bd,h0 cr dJ,rfl,cq,cr,tn,tp,cq,by simp;omega,by simp;omega,cq,rfl,rfl,rfl,fE (cx.flat ⟨e,_⟩),cq,rfl,awm c e _ _ _ zc vb ak,aa⟩
