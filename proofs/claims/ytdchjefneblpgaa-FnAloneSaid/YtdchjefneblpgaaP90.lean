import Derived.Test.YtdchjefneblpgaaP18
set_option linter.unusedVariables false
set_option linter.unusedSimpArgs false
namespace Go.Proofs.Ytdchjefneblpgaa
open Go.Sx Go.RowKit
theorem MC{xs:List Cell}{x z:Cell}:z∈gf xs x<->z=x\/z∈xs:=by
 unfold gf;split
 ·rename_i h;have hm:=(yK xs x).1 h;exact⟨.inr,fun aL=>aL.elim (fun e=>e▸hm) id⟩
 generalize js xs x=n;have e:z∈xs<->z∈xs.take n\/z∈xs.drop n:=by rw[<-hA,AD]
 rw[e,hA,dj];constructor
 ·rintro (h | h | h)
  ·exact .inr (.inl h)
  ·exact .inl h
  exact .inr (.inr h)
 rintro (h | h | h)
 ·exact .inr (.inl h)
 ·exact .inl h
 exact .inr (.inr h)
theorem MD(op ep key:Int):∀(xs:List Cell) (s:Int×Bool),(xs.foldl (dT op ep key) s).2=true->
  (s.2=true/\(xs.foldl (dT op ep key) s).1=s.1)\/∃a∈xs,oJ op ep key a=true/\a.val=(xs.foldl (dT op ep key) s).1
 | [],s,h=>.inl ⟨h,rfl⟩
 | x::xs,s,h=>by
  rw[List.foldl_cons]at h ⊢;rcases MD op ep key xs (dT op ep key s x) h with⟨J,U⟩ | ⟨a,aC,J,U⟩
  ·rw[U];unfold dT at J ⊢;split
   ·rename_i ai;exact .inr ⟨x,fk ..,by simp only[oJ,cF];exact⟨ai.1,ai.2.1,ai.2.2.1⟩,rfl⟩
   rename_i ai;rw[aZ ai]at J;exact .inl ⟨J,rfl⟩
  exact .inr ⟨a,eQ _ aC,J,U⟩
theorem jQ{u a:Cell}:ci u a=true<->a.op=u.op/\a.aV=u.aV/\a.key=u.key:=by
 simp only[ci,b0,fR];constructor
 ·rintro⟨⟨J,U⟩,ax⟩;exact⟨J.symm,U.symm,ax.symm⟩
 rintro⟨J,U,ax⟩;exact⟨⟨J.symm,U.symm⟩,ax.symm⟩
def qJ(k:Int)(xs:List Cell)(u:Cell):Prop:=if k=6 then u∈xs else ∃a∈xs,ci u a=true/\a.val<=u.val
theorem FA(xs:List Cell)(u:Cell):(dO xs u).2=false<->∃a∈xs,ci u a=true/\a.val<=u.val:=by
 unfold dO;constructor
 ·intro h;split at h
  ·rename_i ai;simp only[b0,cF]at ai;rcases MD u.op u.aV u.key xs (0,false) ai.1 with⟨J,_⟩ | ⟨a,aC,J,U⟩
   ·cases J
   simp only[oJ,cF]at J;exact⟨a,aC,jQ.2 J,by rw[U];exact ai.2⟩
  cases h
 rintro⟨a,aC,J,U⟩;obtain⟨cf,bM⟩:=KN aC (op:=u.op) (ep:=u.aV) (key:=u.key) (by simp only[oJ,cF];exact jQ.1 J);rw[cf,p9 (by omega)];rfl
variable{k:Int}
theorem FB(aT:k=5\/k=6\/k=8)(xs:List Cell)(u:Cell):(bZ k xs u).2=false<->qJ k xs u:=by
 unfold bZ qJ;by_cases bt:k=6
 ·rw[bb bt,bb bt,<-yK];split
  ·rename_i h;exact⟨fun _=>h,fun _=>rfl⟩
  rename_i h;exact⟨fun q=>(by cases q),fun q=>absurd q h⟩
 rw[aZ bt,aZ bt,bb (by omega)];exact FA xs u
theorem FC(a1:k≠5)(bt:k≠6)(cZ:k≠8)(xs:List Cell)(u:Cell):bZ k xs u=(xs,true):=by
 unfold bZ;rw[aZ bt,aZ (by omega)]
theorem aaj{xs:List Cell}{u:Cell}(h:(bZ k xs u).2=false):(bZ k xs u).1=xs:=by
 unfold bZ at h ⊢;split
 ·rename_i bt;rw[bb bt]at h;split
  ·rfl
  rename_i J;rw[aZ J]at h;cases h
 rename_i bt;rw[aZ bt]at h;split
 ·rename_i J;rw[bb J]at h;exact yM h
 rfl
theorem ME{k:Int}(aT:k=5\/k=6\/k=8){xs:List Cell}{u z:Cell}(h:(bZ k xs u).2=true):z∈(bZ k xs u).1<->z=u\/(z∈xs/\(k≠6->ci u z=false)):=by
 unfold bZ at h ⊢;by_cases bt:k=6
 ·rw[bb bt]at h ⊢;split
  ·rename_i J;rw[bb J]at h;cases h
  rw[MC];exact⟨fun q=>q.imp id fun q=>⟨q,fun n=>absurd bt n⟩,fun q=>q.imp id fun q=>q.1⟩
 rw[aZ bt,bb (by omega)]at h ⊢;unfold dO at h ⊢;split
 ·rename_i J;rw[bb J]at h;cases h
 rw[MC,List.mem_filter];simp only[gD];exact⟨fun q=>q.imp id fun q=>⟨q.1,fun _=>q.2⟩,fun q=>q.imp id fun q=>⟨q.1,q.2 bt⟩⟩
variable{x:Node}{g:bz}
theorem MF{op:Int}(h:dd g op=some x):0<=op/\g.nodes[op.toNat]?=some x:=by
 unfold dd at h;split at h
 ·exact⟨‹_›,h⟩
 cases h
theorem wJ(ag:cz g=true){op:Int}(h:dd g op=some x):av x=true:=by
 simp only[cz,b0,gD]at ag;have:=ue ag.2 op.toNat x (MF h).2;rw[cP]at this;simp only[gM,jU,sW]at this;exact this.1.1
variable{r:aQ}
theorem MG(h:c8 r=true):c9 r.key r.val=true:=by
 simp only[c8,b0]at h;exact h.2
theorem aak{cs:List Cell}(ag:cz g=true)(ar:c8 r=true)(ae:dd g r.op=some x):(cO g cs r).1=(bZ x.kind cs (cellOf r)).1:=by
 have aR:=wJ ag ae;have hi:=MG ar;unfold cO;rw[ae];simp only[cU,ag,ar,Bool.and_self,fZ];split
 ·rename_i ai;simp only[b0,gD,bne_iff_ne,ki]at ai;have ax:x.kind=3:=by
   refine Classical.byContradiction fun ax=>?_
   have:=ai.1;unfold bL at this;rw[aR,hi]at this;simp only[Bool.and_self,fZ]at this;split at this
   ·cases this
   split at this
   ·cases this
   first
   | (rw[aZ ax]at this;simp[ai.2]at this)
   | simp[ax,ai.2]at this
  rw[FC (by omega) (by omega) (by omega)]
 split
 ·rfl
 ·split<;>rfl
theorem MH{cs:List Cell}(ag:cz g=true)(ar:c8 r=true)(ae:dd g r.op=some x):(cO g cs r).2.1=
  if (!(bL x r.key r.val).2.2&&x.kind != 8)=true then [] else if (bZ x.kind cs (cellOf r)).2=false then []
  else if x.kind=7 then (if (dm r.bl).2=true then fu x (dm r.bl).1 (bL x r.key r.val).1 (bL x r.key r.val).2.1 else []) else fu x r.bl (bL x r.key r.val).1 (bL x r.key r.val).2.1:=by
 unfold cO;rw[ae];simp only[cU,ag,ar,Bool.and_self,fZ];split
 ·rfl
 rw[show (⟨r.op,r.bl.aV,r.key,r.val⟩:Cell)=cellOf r from rfl];cases U:(bZ x.kind cs (cellOf r)).2 with
 | false=>rfl
 | true=>
  simp only[uL,oT,mF];split
  ·cases (dm r.bl).2<;>rfl
  rfl
end Go.Proofs.Ytdchjefneblpgaa
namespace Go.Proofs.Ytdchjefneblpgaa
open Go.Sx Go.RowKit Go.Sort
end Go.Proofs.Ytdchjefneblpgaa
namespace Go.Proofs.Ytdchjefneblpgaa
open Go.Sx Go.RowKit
def nN(w:c')(e:Int):Bool:=w.iz.any fun d=>d.aV==e
def uH(c:cQ)(e:Int):Bool:=c.bg.any fun w=>nN w e
def oR(c:cQ)(e:Int):Bool:=c.news.any fun x=>x.aV==e
theorem Is{α:Type}{f:α->List D}(xs:List α)(b:Bool)(h:decide (xs.length=0)=b):((↑(xs.map f).length:Int)==0)=b:=by
 subst h;by_cases h:xs.length=0
 ·simp[h]
 rw[show decide (xs.length=0)=false from gG h];simp only[br,sZ,ki];omega
