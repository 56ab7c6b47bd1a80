/- StepOp, Capped: what program and reference compute. -/
import Derived.Test.YtdkobdhckkjmeaaGreatP17
import Derived.Test.YtdkobdhckkjmeaaGreatC0
import Derived.Test.YtdkobdhckkjmeaaGreatR22
import Derived.Test.YtdkobdhckkjmeaaGreatT1
import Derived.Test.YtdkobdhckkjmeaaGreatS1
set_option linter.unusedVariables false
set_option linter.unusedSimpArgs false
namespace Go.Proofs.YtdkobdhckkjmeaaGreat
open Go.Sx Go.RowKit Go.Proofs.Tryz
def qav(g:Graph)(cs:List Cell)(r:Record):List Cell×List Record×Bool:=match qaN g r.op with | some x=>qas g cs r x | none=>(cs,[],false)
theorem qEl(g:Graph)(cs:List Cell)(r:Record)(hg:g.sz≤8388608)(hl:cs.length≤8388608):Rt 238 [.agg g.e,.one (.sl 4 (cs.map Cell.e)),.agg r.e] [.one (.sl 4 ((qav g cs r).1.map Cell.e)),.one (.sl 5 ((qav g cs r).2.1.map Record.e)),.one (B (qav g cs r).2.2)]:=by
 unfold qav;cases h:qaN g r.op with
 | some x=>exact qEj g cs r x hg hl h
 | none=>
  have c1:=qfm g hg;have c2:=qdt r;have c3:=qgn g r.op false (by rw[h];rfl) hg;have cp:=qej cs hl;generalize qax g=b1 at*;generalize qaC r=b2 at*;cases b1 with
  | false=>exact qq0 ⟨c1,rfl,cp,trivial⟩
  | true=>
   cases b2 with
   | false=>exact qq1 ⟨c1,rfl,c2,rfl,cp,trivial⟩
   | true=>exact qDW ⟨c1,rfl,c2,rfl,c3,rfl,cp,trivial⟩
def qbH(g:Graph)(r:Record)(x:Node):Bool:=qax g&&qaC r&&x.kind==7&&decide (0<x.outs.length)&&!(qaG r.stamp).2
def capped(g:Graph)(r:Record):Bool:=match qaN g r.op with | some x=>qbH g r x | none=>false
theorem qjH{g:Graph}(h:qax g=true){op:Int}{x:Node}(hn:qaN g op=some x):qab x=true:=by
 simp only[qax,zj,zS]at h;unfold qaN at hn;split at hn
 ·have:=qgg h.2 op.toNat x hn;simp only[qbw,zy,zX]at this;exact this.1.1
 ·cases hn
theorem qrd{x:Node}(h:qab x=true):x.outs.length≤2:=by
 simp only[qab,zj,zi]at h;exact h.1.1.1.2
theorem qEo(kind:Int)(cs:List Cell)(x:Cell):(qaj kind cs x).1.length≤cs.length+1:=by
 have h1:=qqF cs x;have h2:=qqF (cs.filter fun a=>!qau x a) x;have h3:=zat (fun a=>!qau x a) cs;unfold qaj;split
 ·split<;>simp<;>omega
 ·split
  ·unfold qaU;split<;>simp<;>omega
  ·simp
theorem qEp{g:Graph}(hg:qax g=true)(cs:List Cell)(r:Record):(qav g cs r).1.length≤cs.length+1∧(qav g cs r).2.1.length≤2:=by
 unfold qav;cases h:qaN g r.op with
 | none=>exact⟨by simp,by simp⟩
 | some x=>
  have hx:=qrd (qjH hg h);have hr:=qEo x.kind cs ⟨r.op,r.stamp.epoch,r.key,r.val⟩;have hs:∀s k v,(sends x s k v).length≤2:=fun s k v=>by simpa[sends]using hx
  simp only[qas];split
  ·split
   ·exact⟨by simp,by simp⟩
   ·split
    ·exact⟨hr,by simp⟩
    ·split
     ·refine⟨hr,?_⟩;cases (qaG r.stamp).2 with
      | true=>exact hs _ _ _
      | false=>simp
     ·exact⟨hr,hs _ _ _⟩
  ·exact⟨by simp,by simp⟩
end Go.Proofs.YtdkobdhckkjmeaaGreat
namespace Go.Proofs.YtdkobdhckkjmeaaGreat
open Go.Sx Go.RowKit Go.Proofs.Tryz
def qa5(e:Int)(xs:List Record):List Record:=xs.filter fun r=>r.stamp.epoch==e
theorem qgq(xs:List Record)(e:Int)(hl:xs.length≤8388608):Rt 147 [.one (.sl 5 (xs.map Record.e)),.one (I e)] [.one (.sl 5 ((qa5 e xs).map Record.e))]:=by
 let p:=fun r:Record=>r.stamp.epoch==e
 have l:=qao (P:=prog) (c:=(qaa f147 0)) (qaf 0) xs.length (fun i:Nat=>qe7 (xs.map Record.e) e i (((xs.take i).filter p).map Record.e)) (fun i hi=>by
  obtain⟨a,ha⟩:=qal hi;have hf:=qjx p xs i;have hs:=qe1 p ha;by_cases hp:p a=true
  ·rw[zp hp]at hs;rw[hs,zU];exact qw2 ⟨lt1 hi,lt0,lt2 hi,qac Record.e ha,hp,by simp;omega,by simp;omega,qat a.flat,up1 hi hl,trivial⟩
  ·rw[zo hp,zaa]at hs;rw[hs];exact qw3 ⟨lt1 hi,lt0,lt2 hi,qac Record.e ha,zQ.2 hp,up1 hi hl,trivial⟩) (qw4 ⟨ge1,trivial⟩)
 rw[zC]at l;exact qw5 ⟨l,trivial⟩
end Go.Proofs.YtdkobdhckkjmeaaGreat
namespace Go.Proofs.YtdkobdhckkjmeaaGreat
open Go.Sx Go.RowKit Go.Proofs.Tryz
def qdv(op ep key:Int)(a:Cell):Bool:=decide (a.op=op∧a.epoch=ep∧a.key=key)
theorem qrf(op ep key:Int):∀(xs:List Cell) (s:Int×Bool),
  ((s.2=true→(xs.foldl (qaM op ep key) s).2=true∧(xs.foldl (qaM op ep key) s).1≤s.1))∧
  (∀a∈xs,qdv op ep key a=true→(xs.foldl (qaM op ep key) s).2=true∧(xs.foldl (qaM op ep key) s).1≤a.val)
 | [],s=>⟨fun h=>⟨h,Int.le_refl _⟩,by simp⟩
 | x::xs,s=>by
  obtain⟨h1,h2⟩:=qrf op ep key xs (qaM op ep key s x);rw[List.foldl_cons];have hs:s.2=true→(qaM op ep key s x).2=true∧(qaM op ep key s x).1≤s.1:=by
   intro h;unfold qaM;split
   ·rename_i hc;obtain⟨_,_,_,hc⟩:=hc;refine⟨rfl,?_⟩;rcases hc with hc | hc
    ·rw[h]at hc;cases hc
    ·show x.val≤s.1;omega
   ·exact⟨h,Int.le_refl _⟩
  have hx:qdv op ep key x=true→(qaM op ep key s x).2=true∧(qaM op ep key s x).1≤x.val:=by
   intro h;simp only[qdv,zi]at h;unfold qaM;split
   ·exact⟨rfl,Int.le_refl _⟩
   ·rename_i hc;have h3:¬(s.2=false∨x.val<s.1):=fun h4=>hc ⟨h.1,h.2.1,h.2.2,h4⟩
    have h4:s.2=true:=by
     cases e:s.2 with
     | true=>rfl
     | false=>exact absurd (.inl e) h3
    exact⟨h4,by have:¬x.val<s.1:=fun h5=>h3 (.inr h5);omega⟩
  refine⟨fun h=>?_,fun a ha hsl=>?_⟩
  ·obtain⟨h3,h4⟩:=hs h;obtain⟨h5,h6⟩:=h1 h3;exact⟨h5,zaq h6 h4⟩
  ·rcases zL.1 ha with rfl | ha
   ·obtain⟨h3,h4⟩:=hx hsl;obtain⟨h5,h6⟩:=h1 h3;exact⟨h5,zaq h6 h4⟩
   ·exact h2 a ha hsl
theorem qrg{xs:List Cell}{op ep key:Int}{a:Cell}(ha:a∈xs)(h:qdv op ep key a=true):(qcz xs op ep key).2=true∧(qcz xs op ep key).1≤a.val:=
 (qrf op ep key xs (0,false)).2 a ha h
def qfs(e:Int)(a:Cell):Prop:=a.epoch=e∧0≤a.op∧a.op<8∧0≤a.key∧a.key≤99∧0≤a.val∧a.val≤999
def qep(a:Cell):Nat:=a.op.toNat*100+a.key.toNat
def worth(a:Cell):Nat:=(1000-a.val).toNat
def qbL(xs:List Cell):Nat:=(xs.map worth).sum
structure BestOk (e:Int) (xs:List Cell):Prop where
 bound:∀a∈xs,qfs e a
 apart:(xs.map qep).Nodup
theorem qrh:∀(n:Nat) (l:List Nat),l.Nodup→(∀x∈l,x<n)→l.length≤n
 | 0,l,_,h=>by
  cases l with
  | nil=>simp
  | cons a l=>exact absurd (h a (by simp)) (by omega)
 | n+1,l,hd,h=>by
  have h1:=qrh n (l.filter fun x=>x != n) (hd.filter _) (by
   intro x hx;rw[List.mem_filter]at hx;have:=h x hx.1;simp only[bne_iff_ne,zcc]at hx;omega)
  have h2:l.length≤(l.filter fun x=>x != n).length+1:=by
   clear h h1;induction l with
   | nil=>simp
   | cons a l ih=>
    rw[List.nodup_cons]at hd;rw[List.filter_cons];split
    ·have:=ih hd.2;simp only[zq];omega
    ·rename_i ha;have ha2:a=n:=by simpa using ha
     have:l.filter (fun x=>x != n)=l:=by
      rw[List.filter_eq_self];intro x hx;simp only[bne_iff_ne,zcc];rintro rfl;exact hd.1 (ha2▸hx)
     rw[this,zq];omega
  omega
theorem qri{e:Int}{xs:List Cell}(h:BestOk e xs):qbL xs≤800000:=by
 have h1:xs.length≤800:=by
  have:=qrh 800 (xs.map qep) h.apart (by
   intro x hx;obtain⟨a,ha,rfl⟩:=zbm.1 hx;obtain⟨_,h1,h2,h3,h4,_,_⟩:=h.bound a ha;unfold qep;omega)
  simpa using this
 have h2:∀ys:List Cell,(∀a∈ys,qfs e a)→qbL ys≤1000*ys.length:=by
  intro ys;induction ys with
  | nil=>intro _;simp[qbL]
  | cons a ys ih=>
   intro hb;have h3:=ih fun b hb2=>hb b (by simp[hb2])
   obtain⟨_,_,_,_,_,h4,h5⟩:=hb a (by simp);have hw:worth a≤1000:=by unfold worth;omega
   simp only[qbL,zav,zcw,zq]at h3 ⊢;omega
 have:=h2 xs h.bound;omega
theorem qrj(p:Cell→Bool):∀xs:List Cell,qbL xs=qbL (xs.filter p)+qbL (xs.filter fun a=>!p a)
 | []=>by simp[qbL]
 | a::xs=>by
  have:=qrj p xs;simp only[qbL,List.filter_cons,zav,zcw]at this ⊢;cases p a<;>simp<;>omega
theorem qmD(xs:List Cell)(x:Cell):qcj xs x=true↔x∈xs:=by
 simp only[qcj,zcj,zi];constructor
 ·rintro⟨a,ha,rfl⟩;exact ha
 ·exact fun h=>⟨x,h,rfl⟩
theorem qEq{xs:List Cell}{x:Cell}(h:¬x∈xs):(qbv xs x).Perm (x::xs):=by
 unfold qbv;rw[zo (by rw[qmD];exact h)];refine List.perm_middle.trans ?_;rw[zcb]
theorem qEr{xs ys:List Cell}(h:xs.Perm ys):qbL xs=qbL ys:=(h.map worth).sum_nat
theorem qmE{e:Int}{a x:Cell}(ha:qfs e a)(hx:qfs e x):qau x a=true↔qep a=qep x:=by
 obtain⟨h1,h2,h3,h4,h5,_,_⟩:=ha;obtain⟨g1,g2,g3,g4,g5,_,_⟩:=hx;simp only[qau,qep,zj,zE];constructor
 ·rintro⟨⟨h6,_⟩,h7⟩;rw[h6,h7]
 ·intro h;refine⟨⟨?_,?_⟩,?_⟩<;>omega
theorem qrk{e:Int}{x:Cell}(hx:qfs e x):∀{xs:List Cell},BestOk e xs→(xs.filter fun a=>qau x a).length≤1
 | [],_=>by simp
 | a::xs,h=>by
  have hb:BestOk e xs:=⟨fun b hb=>h.bound b (by simp[hb]),by have:=h.apart;rw[zav,List.nodup_cons]at this;exact this.2⟩
  have ih:=qrk hx hb;rw[List.filter_cons];split
  ·rename_i ha;have hn:=h.apart;rw[zav,List.nodup_cons]at hn;have e1:xs.filter (fun a=>qau x a)=[]:=by
    rw[List.filter_eq_nil_iff];intro b hb2 hs;have h1:=(qmE (h.bound a (by simp)) hx).1 ha;have h2:=(qmE (h.bound b (by simp[hb2])) hx).1 hs;exact hn.1 (zbm.2 ⟨b,hb2,by rw[h2,h1]⟩)
   rw[e1];simp
  ·exact ih
theorem qEs{e:Int}{xs:List Cell}{x:Cell}(h:BestOk e xs)(hx:qfs e x)(hb:(qaU xs x).2=true):BestOk e (qaU xs x).1∧qbL xs+1≤qbL (qaU xs x).1:=by
 unfold qaU at hb ⊢;split at hb
 ·cases hb
 ·rename_i hc;rw[zo hc];have hno:¬x∈xs.filter fun a=>!qau x a:=by
   rw[List.mem_filter];rintro⟨_,h2⟩;simp[qau]at h2
  have hp:=qEq hno;have hsub:∀a∈xs.filter (fun a=>!qau x a),a∈xs∧qau x a=false:=fun a ha=>by
   rw[List.mem_filter]at ha;exact⟨ha.1,by simpa using ha.2⟩
  refine⟨⟨fun a ha=>?_,?_⟩,?_⟩
  ·rcases zL.1 (hp.mem_iff.1 ha) with rfl | ha
   ·exact hx
   ·exact h.bound a (hsub a ha).1
  ·have:=(hp.map qep).nodup_iff;rw[this,zav,List.nodup_cons];refine⟨fun hm=>?_,?_⟩
   ·obtain⟨a,ha,hs⟩:=zbm.1 hm;have h1:=(qmE (h.bound a (hsub a ha).1) hx).2 hs;rw[(hsub a ha).2]at h1;cases h1
   ·exact h.apart.sublist ((List.filter_sublist (l:=xs)).map qep)
  ·rw[qEr hp];have h1:=qrj (fun a=>qau x a) xs;have h2:qbL (xs.filter fun a=>qau x a)+1≤worth x:=by
    have hl:=qrk hx h;have hv:∀a∈xs.filter (fun a=>qau x a),worth a+1≤worth x:=by
     intro a ha;rw[List.mem_filter]at ha;have hs:qdv x.op x.epoch x.key a=true:=by
      have:=ha.2;simp only[qau,zj,zE]at this;simp only[qdv,zi];exact⟨this.1.1.symm,this.1.2.symm,this.2.symm⟩
     obtain⟨h3,h4⟩:=qrg ha.1 hs;rw[h3]at hc;have h5:¬(qcz xs x.op x.epoch x.key).1≤x.val:=by simpa using hc
     obtain⟨_,_,_,_,_,h6,h7⟩:=h.bound a ha.1;obtain⟨_,_,_,_,_,h8,h9⟩:=hx;unfold worth;omega
    obtain⟨_,_,_,_,_,h8,h9⟩:=hx;revert hl hv;cases xs.filter (fun a=>qau x a) with
    | nil=>intro _ _;simp only[qbL,List.map_nil,List.sum_nil,worth];omega
    | cons a l=>
     intro hl hv;have:l=[]:=zbv (by simp at hl;simp[hl]);subst this;have:=hv a (by simp);simpa[qbL]using this
   simp only[qbL,zav,zcw]at h1 h2 ⊢;omega
theorem qrl{xs:List Cell}{x:Cell}(hb:(qaU xs x).2=false):(qaU xs x).1=xs:=by
 unfold qaU at hb ⊢;split
 ·rfl
 ·rename_i hc;rw[zo hc]at hb;cases hb
theorem qQV(e:Int):BestOk e []:=⟨by simp,by simp⟩
def sendC(n:Node)(x:Cell)(k v:Int):List Cell:=n.outs.map fun o=>⟨o,x.epoch,k,v⟩
def qdw(g:Graph)(best:List Cell)(x:Cell):List Cell×List Cell:=
 match qaN g x.op with
 | none=>(best,[])
 | some n=>
  if qax g&&inR x.epoch 0 3&&qaJ x.key x.val then
   ((qaU best x).1,if (qaU best x).2&&(qak n x.key x.val).2.2 then sendC n x (qak n x.key x.val).1 (qak n x.key x.val).2.1 else [])
  else (best,[])
theorem qEt{g:Graph}{e:Int}{best:List Cell}{x:Cell}(h:BestOk e best)(hx:x.epoch=e):
  BestOk e (qdw g best x).1∧(∀a∈(qdw g best x).2,a.epoch=e)∧3*qbL best+(qdw g best x).2.length≤3*qbL (qdw g best x).1∧(qdw g best x).2.length≤2:=by
 unfold qdw;split
 ·exact⟨h,by simp,by simp,by simp⟩
 ·rename_i n hn;split
  ·rename_i hc;simp only[zj]at hc;obtain⟨⟨hg,hxe⟩,hi⟩:=hc;have ho:=qrd (qjH hg hn);have hin:qfs e x:=by
    have h1:=qhD hn;have h2:g.nodes.length≤8:=by
     simp only[qax,zj,inR,zi]at hg;omega
    simp only[qaJ,inR,zj,zi,zb]at hi h1;exact⟨hx,by omega,by omega,by omega,by omega,by omega,by omega⟩
   cases hb:(qaU best x).2 with
   | false=>
    rw[qrl hb];exact⟨h,by simp,by simp,by simp⟩
   | true=>
    obtain⟨h1,h2⟩:=qEs h hin hb;refine⟨h1,?_,?_,?_⟩
    ·intro a ha;simp only[zbl]at ha;split at ha
     ·obtain⟨o,_,rfl⟩:=zbm.1 ha;exact hx
     ·cases ha
    ·simp only[zbl];split
     ·simp only[sendC,zb];omega
     ·simp only[zh];omega
    ·simp only[zbl];split
     ·simpa[sendC]using ho
     ·simp
  ·exact⟨h,by simp,by simp,by simp⟩
def fixGo(g:Graph):Nat→List Cell→List Cell→List Cell
 | 0,best,_=>best
 | _+1,best,[]=>best
 | k+1,best,x::l=>fixGo g k (qdw g best x).1 (l++(qdw g best x).2)
theorem fixGo_ok{g:Graph}{e:Int}:∀(k:Nat) (best l:List Cell),BestOk e best→(∀a∈l,a.epoch=e)→BestOk e (fixGo g k best l)
 | 0,_,_,h,_=>h
 | _+1,_,[],h,_=>h
 | k+1,best,x::l,h,hl=>by
  obtain⟨h1,h2,_,_⟩:=qEt (g:=g) h (hl x (by simp));refine fixGo_ok k _ _ h1 fun a ha=>?_
  rcases zaz.1 ha with ha | ha
  ·exact hl a (by simp[ha])
  ·exact h2 a ha
def toDo(best l:List Cell):Nat:=3*(800000-qbL best)+l.length
theorem qQW{g:Graph}{e:Int}{best l:List Cell}{x:Cell}(h:BestOk e best)(hx:x.epoch=e):toDo (qdw g best x).1 (l++(qdw g best x).2)+1≤toDo best (x::l):=by
 obtain⟨h1,_,h3,_⟩:=qEt (g:=g) h hx;have w1:=qri h;have w2:=qri h1;simp only[toDo,zab,zq];omega
def cellsOf(e:Int)(r:Record):Cell:=⟨0,e,r.key,r.val⟩
def qmF(e:Int)(xs:List Record):List Cell:=((qa5 e xs).filter qaC).map (cellsOf e)
theorem qQX{e:Int}{xs:List Record}:∀a∈qmF e xs,a.epoch=e:=by
 intro a ha;obtain⟨r,_,rfl⟩:=zbm.1 ha;rfl
def rounds(n:Nat):Nat:=2400000+n
def qEu(g:Graph)(e:Int)(xs:List Record):List Cell:=fixGo g (rounds (qmF e xs).length) [] (qmF e xs)
theorem qQY(l:List Cell):toDo [] l=rounds l.length:=rfl
theorem fixpoint_ok(g:Graph)(e:Int)(xs:List Record):BestOk e (qEu g e xs):=fixGo_ok _ _ _ (qQV e) qQX
end Go.Proofs.YtdkobdhckkjmeaaGreat
namespace Go.Proofs.YtdkobdhckkjmeaaGreat
open Go.Sx Go.RowKit Go.Proofs.Tryz
theorem qrm{xs:List Cell}{x z:Cell}:z∈qbv xs x↔z=x∨z∈xs:=by
 unfold qbv;split
 ·rename_i h;have hm:=(qmD xs x).1 h;exact⟨.inr,fun hz=>hz.elim (fun e=>e▸hm) id⟩
 ·generalize qbY xs x=n;have e:z∈xs↔z∈xs.take n∨z∈xs.drop n:=by rw[←zaz,zcb]
  rw[e,zaz,zL];constructor
  ·rintro (h | h | h)
   ·exact .inr (.inl h)
   ·exact .inl h
   ·exact .inr (.inr h)
  ·rintro (h | h | h)
   ·exact .inr (.inl h)
   ·exact .inl h
   ·exact .inr (.inr h)
theorem qrn(op ep key:Int):∀(xs:List Cell) (s:Int×Bool),(xs.foldl (qaM op ep key) s).2=true→
  (s.2=true∧(xs.foldl (qaM op ep key) s).1=s.1)∨∃a∈xs,qdv op ep key a=true∧a.val=(xs.foldl (qaM op ep key) s).1
 | [],s,h=>.inl ⟨h,rfl⟩
 | x::xs,s,h=>by
  rw[List.foldl_cons]at h ⊢;rcases qrn op ep key xs (qaM op ep key s x) h with⟨h1,h2⟩ | ⟨a,ha,h1,h2⟩
  ·rw[h2];unfold qaM at h1 ⊢;split
   ·rename_i hc;exact .inr ⟨x,zm ..,by simp only[qdv,zi];exact⟨hc.1,hc.2.1,hc.2.2.1⟩,rfl⟩
   ·rename_i hc;rw[zo hc]at h1;exact .inl ⟨h1,rfl⟩
  ·exact .inr ⟨a,zg _ ha,h1,h2⟩
theorem qft{u a:Cell}:qau u a=true↔a.op=u.op∧a.epoch=u.epoch∧a.key=u.key:=by
 simp only[qau,zj,zE];constructor
 ·rintro⟨⟨h1,h2⟩,h3⟩;exact⟨h1.symm,h2.symm,h3.symm⟩
 ·rintro⟨h1,h2,h3⟩;exact⟨⟨h1.symm,h2.symm⟩,h3.symm⟩
def qdU(k:Int)(xs:List Cell)(u:Cell):Prop:=if k=6 then u∈xs else ∃a∈xs,qau u a=true∧a.val≤u.val
theorem qEv(xs:List Cell)(u:Cell):(qaU xs u).2=false↔∃a∈xs,qau u a=true∧a.val≤u.val:=by
 unfold qaU;constructor
 ·intro h;split at h
  ·rename_i hc;simp only[zj,zi]at hc;rcases qrn u.op u.epoch u.key xs (0,false) hc.1 with⟨h1,_⟩ | ⟨a,ha,h1,h2⟩
   ·cases h1
   ·simp only[qdv,zi]at h1;exact⟨a,ha,qft.2 h1,by rw[h2];exact hc.2⟩
  ·cases h
 ·rintro⟨a,ha,h1,h2⟩;obtain⟨k1,k2⟩:=qrg ha (op:=u.op) (ep:=u.epoch) (key:=u.key) (by simp only[qdv,zi];exact qft.1 h1);rw[k1,zap (by omega)];rfl
theorem qjI{k:Int}(hk:k=5∨k=6∨k=8)(xs:List Cell)(u:Cell):(qaj k xs u).2=false↔qdU k xs u:=by
 unfold qaj qdU;by_cases h6:k=6
 ·rw[zp h6,zp h6,←qmD];split
  ·rename_i h;exact⟨fun _=>h,fun _=>rfl⟩
  ·rename_i h;exact⟨fun q=>(by cases q),fun q=>absurd q h⟩
 ·rw[zo h6,zo h6,zp (by omega)];exact qEv xs u
theorem qfu{k:Int}(h5:k≠5)(h6:k≠6)(h8:k≠8)(xs:List Cell)(u:Cell):qaj k xs u=(xs,true):=by
 unfold qaj;rw[zo h6,zo (by omega)]
theorem qEw{k:Int}{xs:List Cell}{u:Cell}(h:(qaj k xs u).2=false):(qaj k xs u).1=xs:=by
 unfold qaj at h ⊢;split
 ·rename_i h6;rw[zp h6]at h;split
  ·rfl
  ·rename_i h1;rw[zo h1]at h;cases h
 ·rename_i h6;rw[zo h6]at h;split
  ·rename_i h1;rw[zp h1]at h;exact qrl h
  ·rfl
theorem qjJ{k:Int}(hk:k=5∨k=6∨k=8){xs:List Cell}{u z:Cell}(h:(qaj k xs u).2=true):z∈(qaj k xs u).1↔z=u∨(z∈xs∧(k≠6→qau u z=false)):=by
 unfold qaj at h ⊢;by_cases h6:k=6
 ·rw[zp h6]at h ⊢;split
  ·rename_i h1;rw[zp h1]at h;cases h
  ·rw[qrm];exact⟨fun q=>q.imp id fun q=>⟨q,fun n=>absurd h6 n⟩,fun q=>q.imp id fun q=>q.1⟩
 ·rw[zo h6,zp (by omega)]at h ⊢;unfold qaU at h ⊢;split
  ·rename_i h1;rw[zp h1]at h;cases h
  ·rw[qrm,List.mem_filter];simp only[zS];exact⟨fun q=>q.imp id fun q=>⟨q.1,fun _=>q.2⟩,fun q=>q.imp id fun q=>⟨q.1,q.2 h6⟩⟩
theorem qEx{k k':Int}(hk:k=5∨k=6∨k=8){xs:List Cell}{u y:Cell}(hky:y.op=u.op→k'=k)(h:qdU k xs u):qdU k (qaj k' xs y).1 u:=by
 cases hr:(qaj k' xs y).2 with
 | false=>rw[qEw hr];exact h
 | true=>
  by_cases hk':k'=5∨k'=6∨k'=8
  case neg=>rw[qfu (by omega) (by omega) (by omega)];exact h
  unfold qdU at h ⊢;by_cases h6:k=6
  ·rw[zp h6]at h ⊢;rw[qjJ hk' hr];refine .inr ⟨h,fun hne=>?_⟩;rw[zQ];intro hs;exact hne ((hky (qft.1 hs).1.symm).trans h6)
  ·rw[zo h6]at h ⊢;obtain⟨a,ha,hs,hv⟩:=h;obtain⟨s1,s2,s3⟩:=qft.1 hs;by_cases hrem:k'≠6∧qau y a=true
   ·obtain⟨t1,t2,t3⟩:=qft.1 hrem.2;refine⟨y,(qjJ hk' hr).2 (.inl rfl),qft.2 ⟨by omega,by omega,by omega⟩,?_⟩;have nb:¬qdU k' xs y:=fun q=>by rw[(qjI hk' xs y).2 q]at hr;cases hr
    unfold qdU at nb;rw[zo hrem.1]at nb;have:¬a.val≤y.val:=fun q=>nb ⟨a,ha,hrem.2,q⟩
    omega
   ·refine⟨a,(qjJ hk' hr).2 (.inr ⟨ha,fun hne=>?_⟩),hs,hv⟩;rw[zQ];exact fun q=>hrem ⟨hne,q⟩
theorem qEy{k:Int}(hk:k=5∨k=6∨k=8){xs:List Cell}{u:Cell}(h:(qaj k xs u).2=true):qdU k (qaj k xs u).1 u:=by
 have hm:=(qjJ hk (z:=u) h).2 (.inl rfl);unfold qdU;split
 ·exact hm
 ·exact⟨u,hm,qft.2 ⟨rfl,rfl,rfl⟩,Int.le_refl _⟩
theorem qEz{g:Graph}{op:Int}{x:Node}(h:qaN g op=some x):0≤op∧g.nodes[op.toNat]?=some x:=by
 unfold qaN at h;split at h
 ·exact⟨‹_›,h⟩
 ·cases h
theorem qro{g:Graph}(hg:qax g=true){op:Int}{x:Node}(h:qaN g op=some x):qab x=true:=by
 simp only[qax,zj,zS]at hg;have:=qgg hg.2 op.toNat x (qEz h).2;rw[zv]at this;simp only[qbw,zy,zX]at this;exact this.1.1
theorem qhE{r:Record}(h:qaC r=true):qaJ r.key r.val=true:=by
 simp only[qaC,zj]at h;exact h.2
theorem qEA{g:Graph}{cs:List Cell}{r:Record}{x:Node}(hg:qax g=true)(hr:qaC r=true)(hx:qaN g r.op=some x):(qav g cs r).1=(qaj x.kind cs (cellOf r)).1:=by
 have hn:=qro hg hx;have hi:=qhE hr;unfold qav;rw[hx];simp only[qas,hg,hr,Bool.and_self,zbb];split
 ·rename_i hc;simp only[zj,zS,bne_iff_ne,zcc]at hc;have h3:x.kind=3:=by
   refine Classical.byContradiction fun h3=>?_
   have:=hc.1;unfold qak at this;rw[hn,hi]at this;simp only[Bool.and_self,zbb]at this;split at this
   ·cases this
   ·split at this
    ·cases this
    ·first
     | (rw[zo h3]at this;simp[hc.2]at this)
     | simp[h3,hc.2]at this
  rw[qfu (by omega) (by omega) (by omega)]
 ·split
  ·rfl
  ·split<;>rfl
theorem qEB{g:Graph}{cs:List Cell}{r:Record}{x:Node}(hg:qax g=true)(hr:qaC r=true)(hx:qaN g r.op=some x):(qav g cs r).2.1=
  if (!(qak x r.key r.val).2.2&&x.kind != 8)=true then [] else if (qaj x.kind cs (cellOf r)).2=false then []
  else if x.kind=7 then (if (qaG r.stamp).2=true then sends x (qaG r.stamp).1 (qak x r.key r.val).1 (qak x r.key r.val).2.1 else []) else sends x r.stamp (qak x r.key r.val).1 (qak x r.key r.val).2.1:=by
 unfold qav;rw[hx];simp only[qas,hg,hr,Bool.and_self,zbb];split
 ·rfl
 ·rw[show (⟨r.op,r.stamp.epoch,r.key,r.val⟩:Cell)=cellOf r from rfl];cases h2:(qaj x.kind cs (cellOf r)).2 with
  | false=>rfl
  | true=>
   simp only[zZ,zao,zci];split
   ·cases (qaG r.stamp).2<;>rfl
   ·rfl
end Go.Proofs.YtdkobdhckkjmeaaGreat
namespace Go.Proofs.YtdkobdhckkjmeaaGreat
open Go.Sx Go.RowKit Go.Shelf Go.Lib Go.Sort Go.Proofs.Tryz
instance:Inhabited Record:=⟨(by constructor<;>first | exact (0:Int) | exact⟨0,0⟩)⟩
end Go.Proofs.YtdkobdhckkjmeaaGreat
namespace Go.Proofs.YtdkobdhckkjmeaaGreat
open Go.Sx Go.RowKit Go.Sort Go.Proofs.Tryz
theorem qgs(xs:List Record)(hl:xs.length≤8388608):Rt 239 [.one (.sl 5 (xs.map Record.e))] [.one (.sl 5 (xs.map Record.e))]:=
 qv5 ⟨by simp;omega,by simp;omega,qae _ Record.flat _,trivial⟩
theorem Cluster.wlen_le{c:Cluster}(h:c.sz≤8388608):c.workers.length≤8388608:=by simp only[Cluster.sz,szS]at h;omega
theorem Cluster.llen_le{c:Cluster}(h:c.sz≤8388608):c.links.length≤8388608:=by simp only[Cluster.sz,szS]at h;omega
end Go.Proofs.YtdkobdhckkjmeaaGreat
namespace Go.Proofs.YtdkobdhckkjmeaaGreat
open Go.Sx Go.RowKit Go.Proofs.Tryz
def qaA(w:Worker)(e:Int):Bool:=w.dones.any fun d=>d.epoch==e
theorem Worker.dones_le{w:Worker}(h:w.sz≤8388608):w.dones.length≤8388608:=by simp only[Worker.sz]at h;omega
theorem Cluster.worker_sz{c:Cluster}(h:c.sz≤8388608){w:Worker}(hl:w∈c.workers):w.sz≤8388608:=by
 have:=qjm (sz:=Worker.sz) hl;simp only[Cluster.sz,szS]at h;omega
theorem qrA(xs:List Done)(e:Int)(hl:xs.length≤8388608):Rt 271 [.one (.sl 2 (xs.map Done.e)),.one (I e)] [.one (B (xs.any fun d=>d.epoch==e))]:=
 qxc ⟨qDn xs (fun d=>d.epoch==e) _ _ hl (by kernel_rfl) (fun x _=>qxd trivial),trivial⟩
theorem qrB(w:Worker)(e:Int)(hw:w.sz≤8388608):Rt 163 [.agg w.e,.one (I e)] [.one (B (qaA w e))]:=
 qxe ⟨qrA w.dones e (Worker.dones_le hw),trivial⟩
def toldW(c:Cluster)(e:Int):Bool:=c.workers.any fun w=>qaA w e
def toldN(c:Cluster)(e:Int):Bool:=c.news.any fun x=>x.epoch==e
theorem len0{α:Type}{f:α→List D}(xs:List α)(b:Bool)(h:decide (xs.length=0)=b):((↑(xs.map f).length:Int)==0)=b:=by
 subst h;by_cases h:xs.length=0
 ·simp[h]
 ·rw[show decide (xs.length=0)=false from dF h];simp only[zb,zbq,zcc];omega
end Go.Proofs.YtdkobdhckkjmeaaGreat
