/- OfEpoch: what program and reference compute. -/
import Derived.Test.YtdkobdhckkjmeaaGreatC0
import Derived.Test.YtdkobdhckkjmeaaGreatR22
import Derived.Test.YtdkobdhckkjmeaaGreatT1
import Derived.Test.YtdkobdhckkjmeaaGreatS1
set_option linter.unusedVariables false
set_option linter.unusedSimpArgs false
namespace Go.Proofs.YtdkobdhckkjmeaaGreat
open Go.Sx Go.RowKit Go.Proofs.Tryz
def qa5(e:Int)(xs:List Record):List Record:=xs.filter fun r=>r.stamp.epoch==e
theorem qqA(xs:List Record)(e:Int)(hl:xs.length≤8388608):Rt 185 [.one (.sl 5 (xs.map Record.e)),.one (I e)] [.one (.sl 5 ((qa5 e xs).map Record.e))]:=by
 let p:=fun r:Record=>r.stamp.epoch==e
 have l:=qao (P:=prog) (c:=(qaa f185 0)) (qaf 0) xs.length (fun i:Nat=>qe3 (xs.map Record.e) e i (((xs.take i).filter p).map Record.e)) (fun i hi=>by
  obtain⟨a,ha⟩:=qal hi;have hf:=qjs p xs i;have hs:=qeY p ha;by_cases hp:p a=true
  ·rw[zp hp]at hs;rw[hs,zU];exact qwL ⟨lt1 hi,lt0,lt2 hi,qac Record.e ha,hp,lt0,lt2 hi,qac Record.e ha,by simp;omega,by simp;omega,qat a.flat,up1 hi hl,trivial⟩
  ·rw[zo hp,zaa]at hs;rw[hs];exact qwM ⟨lt1 hi,lt0,lt2 hi,qac Record.e ha,zQ.2 hp,up1 hi hl,trivial⟩) (qwN ⟨ge1,trivial⟩)
 rw[zC]at l;exact qwO ⟨l,trivial⟩
theorem qgk(xs:List Record)(e:Int)(hl:xs.length≤8388608):Rt 147 [.one (.sl 5 (xs.map Record.e)),.one (I e)] [.one (.sl 5 ((qa5 e xs).map Record.e))]:=by
 let p:=fun r:Record=>r.stamp.epoch==e
 have l:=qao (P:=prog) (c:=(qaa f147 0)) (qaf 0) xs.length (fun i:Nat=>qe4 (xs.map Record.e) e i (((xs.take i).filter p).map Record.e)) (fun i hi=>by
  obtain⟨a,ha⟩:=qal hi;have hf:=qjs p xs i;have hs:=qeY p ha;by_cases hp:p a=true
  ·rw[zp hp]at hs;rw[hs,zU];exact qwP ⟨lt1 hi,lt0,lt2 hi,qac Record.e ha,hp,by simp;omega,by simp;omega,qat a.flat,up1 hi hl,trivial⟩
  ·rw[zo hp,zaa]at hs;rw[hs];exact qwQ ⟨lt1 hi,lt0,lt2 hi,qac Record.e ha,zQ.2 hp,up1 hi hl,trivial⟩) (qwR ⟨ge1,trivial⟩)
 rw[zC]at l;exact qwS ⟨l,trivial⟩
end Go.Proofs.YtdkobdhckkjmeaaGreat
namespace Go.Proofs.YtdkobdhckkjmeaaGreat
open Go.Sx Go.RowKit Go.Shelf Go.Lib Go.Sort Go.Proofs.Tryz
theorem qy8{w w':World}(h:Blw w.heap.size w w'):∃q os,w'=grow (w.drewN q) os:=by
 refine⟨w'.drawn-w.drawn,w'.heap.extract w.heap.size w'.heap.size,?_⟩;have h1:=h.below.size;have hh:w.heap++w'.heap.extract w.heap.size w'.heap.size=w'.heap:=by
  apply Array.ext_getElem?;intro i;rw[zK];by_cases hi:i<w.heap.size
  ·rw[zp hi];exact (h.below.block i hi).symm
  ·rw[zo hi,Array.getElem?_extract];by_cases h2:i<w'.heap.size
   ·rw[zp (by simp;omega)]
    congr 1
    omega
   ·rw[zo (by simp;omega)];exact (zcn (by omega)).symm
 obtain⟨heap,tape,drawn,os,output⟩:=w;obtain⟨heap',tape',drawn',os',output'⟩:=w';have e1:=h.below.os;have e2:=h.below.tape;have e3:=h.below.output;have e4:=h.drawn rfl;simp only at e1 e2 e3 e4 hh h1;subst e1 e2 e3;simp only[grow,World.drewN,hh]
 congr 1
 omega
theorem qy9{α:Type}[Inhabited α]{enc:α→List Value}{k b off n:Nat}{d:Array α}{os:Array Obj}{w:World}{arr:Array Value}{ty:TypeId}(hb:w.heap[b]?=some (.cells arr ty (0,0))):
  (sortWorldK enc k w b off n d os).heap[b]?=some (.cells (putCells id off (flatK enc k d) arr) ty (0,0)):=by
 have hlt:b<w.heap.size:=(zz.1 hb).1;have:b<(putRowK enc k (Sort.ahead w n) b off d).heap.size:=by simpa[putRowK,putRow,mapBlock,Sort.ahead]using hlt
 simp only[sortWorldK,grow,zK,zp this];simp[putRowK,putRow,mapBlock,Sort.ahead,Array.getElem?_modify,hb,onCells]
theorem qmo{α:Type}[Inhabited α]{enc:α→List Value}{k b off n:Nat}{d:Array α}{os:Array Obj}{w:World}{own:Nat→Prop}(hb:own b):Bel0 ⟨w,own,fun _=>(0,undef)⟩ (sortWorldK enc k w b off n d os):=by
 refine⟨rfl,rfl,rfl,?_,fun c hc hg=>?_,?_⟩
 ·simp[sortWorldK,grow,putRowK,putRow,mapBlock,Sort.ahead]
 ·have hne:b≠c:=fun e=>hg (by rw[←e];exact hb)
  have:c<(putRowK enc k (Sort.ahead w n) b off d).heap.size:=by simpa[putRowK,putRow,mapBlock,Sort.ahead]using hc
  simp only[sortWorldK,grow,zK,zp this];simp[putRowK,putRow,mapBlock,Sort.ahead,Array.getElem?_modify,hne]
 ·intro _;show w.drawn≤w.drawn+n;omega
theorem qqE{α:Type}[Inhabited α]{enc:α→List Value}{k:Nat}{xs:List α}(hk:∀x,(enc x).length=k){i j:Nat}{e:List Value}{v:Value}(he:(xs.map enc)[i]?=some e)(hv:e[j]?=some v):
  i*k+j<(flatK enc k xs.toArray).size∧(flatK enc k xs.toArray)[i*k+j]! = v:=by
 rw[zr,zc]at he;obtain⟨x,hx,rfl⟩:=he;have hi:i<xs.length:=(zk.1 hx).1;have hj:j<k:=by have:=(zk.1 hv).1;rwa[hk]at this
 have hlt:i*k+j<xs.length*k:=by
  have:(i+1)*k≤xs.length*k:=zB _ hi;rw[zR]at this;omega
 refine⟨by simpa using hlt,?_⟩;rw[get_flatK _ _ _ _ (by simpa using hlt)];have e1:(i*k+j) / k=i:=by rw[Nat.mul_comm,Nat.mul_add_div (by omega),Nat.div_eq_of_lt hj];rfl
 have e2:(i*k+j) % k=j:=by rw[Nat.mul_comm,Nat.mul_add_mod,zcu hj]
 rw[e1,e2];have e3:xs.toArray[i]! = x:=by
  rw[getElem!_pos xs.toArray i (by simpa using hi)];rw[zu hi]at hx;simpa using hx
 rw[e3];have hj2:j<(enc x).length:=by rw[hk];exact hj
 rw[getElem!_pos (enc x) j hj2];rw[zu hj2]at hv;exact zx hv
theorem qza{α:Type}[Inhabited α]{enc:α→List Value}{k:Nat}{xs:List α}(hk:∀x,(enc x).length=k){w:World}{b off cap:Nat}{arr:Array Value}{ty:TypeId}(hr:Row w b off k cap arr ty (xs.map enc)):HoldsK enc k w b off xs.toArray:=by
 intro j hj;rw[size_flatK]at hj;have hkpos:0<k:=by
  rcases Nat.eq_zero_or_pos k with h | h
  ·rw[h]at hj;simp at hj
  ·exact h
 have hi:j / k<xs.length:=by
  have:=Nat.div_lt_iff_lt_mul hkpos |>.2 (by simpa using hj);simpa using this
 have he:(xs.map enc)[j / k]?=some (enc xs[j / k]):=by simp[hi]
 have hjm:j % k<(enc xs[j / k]).length:=by rw[hk];exact Nat.mod_lt _ hkpos
 have hv:=zu hjm;obtain⟨_,h2⟩:=qqE hk he hv;have h3:=hr.cell _ _ _ _ he hv;have ej:j / k*k+j % k=j:=by rw[Nat.mul_comm];exact Nat.div_add_mod j k
 rw[ej]at h2;rw[zcv,ej]at h3;refine⟨?_,by simp[World.frozen?,hr.heap]⟩;simp only[id,h2];simp[World.cell?,hr.heap,h3]
theorem qzb{α:Type}[Inhabited α]{enc:α→List Value}{k:Nat}{xs ys:List α}(hk:∀x,(enc x).length=k)(h1:∀x,∀v∈enc x,v.oneCell'=true){w:World}{b off cap n:Nat}{arr:Array Value}{ty:TypeId}{os:Array Obj}
  (hr:Row w b off k cap arr ty (xs.map enc)) (hl:ys.length=xs.length):Row (sortWorldK enc k w b off n ys.toArray os) b off k cap (putCells id off (flatK enc k ys.toArray) arr) ty (ys.map enc):=by
 have hroom:=hr.room;have hfit:=hr.fit;rw[zb]at hroom;refine⟨qy9 hr.heap,by rw[zb,hl];exact hroom,by simpa[putCells]using hfit,?_,?_,?_⟩
 ·intro e he;obtain⟨x,_,rfl⟩:=zbm.1 he;exact hk x
 ·intro e he;obtain⟨x,_,rfl⟩:=zbm.1 he;exact h1 x
 ·intro i j e v he hv;obtain⟨h2,h3⟩:=qqE hk he hv;rw[size_flatK]at h2;have hcap:ys.length*k≤cap*k:=zB _ (by omega);have h2':i*k+j<ys.length*k:=by simpa using h2
  have hlt:off+i*k+j<arr.size:=by omega
  simp only[putCells,Array.getElem?_mapIdx,zD hlt,zaw];rw[zp ⟨by omega,by rw[size_flatK];simp only[zac];omega⟩,show off+i*k+j-off=i*k+j by omega,h3];rfl
instance:Inhabited Record:=⟨(by constructor<;>first | exact (0:Int) | exact⟨0,0⟩)⟩
def qb6(x:Record):List Value:=x.e.map D.unV
theorem qzc(xs:List Record)(cf:Record→Record→Int)(hO:SWO (ltOf cf))(hT:∀x y,(ltOf cf) x y=false→(ltOf cf) y x=false→x=y)(g:Nat)(eg:∀args w,(callFunc g args).run prog w=.ok (.enter g args) w)
  (hg:∀a b,Rt g [.agg a.e,.agg b.e] [.one (I (cf a b))]) (hl:xs.length≤8388608):
  RetG prog 325 [.one (.gv 5 (xs.map Record.e) (some ((xs.mergeSort fun x y=>!(ltOf cf) y x).map Record.e))),.one (.ro (.cl g []))] []:=by
 have hk:∀x,(qb6 x).length=5:=fun x=>rfl
 have hone:∀x:Record,∀d∈x.e,∃v,d=.v v∧v.oneCell'=true:=by
  intro x d hd;simp only[Record.e,zL,zbu,or_false]at hd;rcases hd with rfl | rfl | rfl | rfl | rfl<;>exact⟨_,rfl,rfl⟩
 have h1:∀x,∀v∈qb6 x,v.oneCell'=true:=by
  intro x v hv;obtain⟨d,hd,rfl⟩:=zbm.1 hv;obtain⟨v,rfl,h⟩:=hone x d hd;exact h
 have efl:∀l:List Record,l.map Record.e=fl (l.map qb6):=by
  intro l;simp only[fl,List.map_map];rfl
 rintro w vs ω ⟨hgv,hn,ha⟩ htd;obtain⟨y,hy,hy2⟩:=ha 0 _ rfl;obtain⟨u,hu,hu2⟩:=ha 1 _ rfl;have hu3:u=.func (.func g) #[] #[]:=by
  have hu4:Rep w ω Tag.free.R (.cl g []) u:=hu2;cases hu4 with
  | cl R g caps cs us hs hu hd=>
   have:cs=#[]:=Array.eq_empty_of_size_eq_zero (by simpa using hs);rw[this]
 subst hu3;have hvs:=args2 hn hy hu;subst hvs;have hy3:Rep w ω (Tag.own (gTok 0 0)).R (.sl 5 (fl (xs.map qb6))) y:=by rw[←efl];exact hy2
 have hperm:(xs.mergeSort fun x y=>!(ltOf cf) y x).length=xs.length:=(List.mergeSort_perm xs _).length_eq;have kept:∀{w':World} {b off cap:Nat} {A:Array Value} {ty:TypeId},ω b=.tok (gTok 0 0) []→Row w' b off 5 cap A ty ((xs.mergeSort fun x y=>!(ltOf cf) y x).map qb6)→y=.slice (some ⟨b,off,none⟩) xs.length cap→
   Kept w' ω [.one (.gv 5 (xs.map Record.e) (some ((xs.mergeSort fun x y=>!(ltOf cf) y x).map Record.e))),.one (.ro (.cl g []))] #[y,.func (.func g) #[] #[]]:=by
  intro w' b off cap A ty hω hr hyy i j ga k es es' hga hc
  match i with
  | 0=>
   simp only[zag,za]at hga;subst hga;simp only[GA.cell]at hc;split at hc
   ·rename_i hj;subst hj;simp only[za,GC.gv.injEq]at hc;obtain⟨rfl,_,rfl⟩:=hc;have:=hr.rep (ω:=ω) (R:=(Tag.own (gTok 0 0)).R) hω;rw[efl];rw[zb,hperm,←hyy]at this;have e:cellOf ((#[y,.func (.func g) #[] #[]]:Array Value).getD 0 undef) 0=y:=by
     rw[hyy];rfl
    rw[e];exact this
   ·cases hc
  | 1=>simp at hga;subst hga;simp only[GA.cell]at hc;split at hc<;>simp at hc
  | _+2=>simp at hga
 rcases hgv.row hy3 with⟨he,a,rfl⟩ | ⟨b,off,cap,arr,tb,hω,hyy,hr⟩
 ·
  have hxs:xs=[]:=by simpa using he
  subst hxs;have hcon:=AnyF.slices_SortFunc_none Tryz.sortRecord a 0 (.func (.func g) #[] #[]) w;change Calls prog 325 _ _ _ at hcon;refine hcon.mono ?_;rintro e w' ⟨rfl,rfl⟩;refine⟨_,rfl,Bel.start htd,ω,fun _ _ h=>h,fun c hc=>?_,?_,⟨#[],rfl,rfl,fun i ad h=>by simp at h⟩⟩
  ·obtain⟨⟨t,q,h2,_⟩,h3⟩:=hgv c hc;exact⟨⟨t,q,h2⟩,h3⟩
  ·intro i j ga k es es' hga hc
   match i with
   | 0=>
    simp only[zag,za]at hga;subst hga;simp only[GA.cell]at hc;split at hc
    ·rename_i hj;subst hj;simp only[za,GC.gv.injEq]at hc;obtain⟨rfl,_,rfl⟩:=hc;simp only[List.mergeSort_nil,List.map_nil];exact Rep.nil _ _ a
    ·cases hc
   | 1=>simp at hga;subst hga;simp only[GA.cell]at hc;split at hc<;>simp at hc
   | _+2=>simp at hga
 ·have hown:ω b≠.imm:=by rw[hω];simp
  rw[zb]at hyy;have hcmp:CmpLays prog g #[] qb6 5 cf b off xs.toArray.size w:=by
   intro m os dk _ x y;have harg:∀z:Record,ArgOk (sortWorldK qb6 5 w b off m dk os) (.agg z.e) (.agg (qb6 z).toArray):=by
    intro z;refine⟨_,rfl,by simp[qb6],fun i d hd=>?_⟩;obtain⟨v,rfl,hv⟩:=hone z d (zw hd);exact⟨v,by simp[qb6,hd,D.unV],.v _ _ hv⟩
   have htb:Tabs (sortWorldK qb6 5 w b off m dk os):=(Bel0.full (qmo hown) htd).laid;have:=hg x y (sortWorldK qb6 5 w b off m dk os) #[.agg (qb6 x).toArray,.agg (qb6 y).toArray] htb ⟨rfl,fun i ad hi=>by
    match i with
    | 0=>simp at hi;subst hi;exact⟨_,rfl,harg x⟩
    | 1=>simp at hi;subst hi;exact⟨_,rfl,harg y⟩
    | _+2=>simp at hi⟩
   simp only[Array.append_empty];refine this.mono ?_;rintro e w' ⟨v,rfl,hb,⟨ω2,_,_,hres⟩⟩;have:v=.int .i64 (cf x y):=Rep.eq_v hres;subst this;exact⟨rfl,qy8 hb⟩
  have hcon:=AnyQ.slices_SortFunc_total Tryz.sortRecord 5 Tryz.isAgg68 Tryz.sizeOf68 qb6 hk h1 cf hO g #[] b off cap xs.toArray w eg hcmp (qza hk hr) (zz.1 hr.heap).1 (by simp;omega) hT;change Calls prog 325 _ _ _ at hcon;rw[hyy];refine hcon.mono ?_;rintro e w' ⟨rfl,n,os,rfl⟩;have hr':=qzb (n:=n) (os:=os) hk h1 hr hperm;refine⟨_,rfl,(qmo hown).full htd,ω,fun _ _ h=>h,fun c hc=>?_,?_,⟨#[],rfl,rfl,fun i ad h=>by simp at h⟩⟩
  ·obtain⟨⟨t,q,h2,_⟩,arr2,ty2,h3⟩:=hgv c hc;refine⟨⟨t,q,h2⟩,?_⟩;by_cases hcb:c=b
   ·subst hcb;exact⟨_,_,hr'.heap⟩
   ·have hcl:c<w.heap.size:=(zz.1 h3).1;have hB:Bel0 ⟨w,fun x=>x=b,fun _=>(0,undef)⟩ (sortWorldK qb6 5 w b off n (xs.mergeSort fun x y=>!(ltOf cf) y x).toArray os):=qmo rfl;exact⟨arr2,ty2,(hB.block c hcl hcb).trans h3⟩
  ·have:=kept hω hr' hyy;rwa[hyy]at this
end Go.Proofs.YtdkobdhckkjmeaaGreat
namespace Go.Proofs.YtdkobdhckkjmeaaGreat
open Go.Sx Go.RowKit Go.Sort Go.Proofs.Tryz
def qqF(s:Stamp):List Int:=[s.epoch,s.turn]
def qhx(r:Record):List Int:=[r.stamp.epoch,r.stamp.turn,r.op,r.key,r.val]
def qmp(a b:Stamp):Int:=cmpL (qqF a) (qqF b)
def qdQ(a b:Record):Int:=cmpL (qhx a) (qhx b)
theorem recO:SWO (ltOf qdQ):=qy3 qhx 5 fun _=>rfl
theorem recT(x y:Record):ltOf qdQ x y=false→ltOf qdQ y x=false→x=y:=
 qy4 qhx 5 (fun _=>rfl) (fun a b h=>by
  obtain⟨_,⟨_,_⟩,_,_⟩:=a;obtain⟨_,⟨_,_⟩,_,_⟩:=b;simp[qhx]at h;simp[h]) x y
theorem qzd(a b:Stamp):qmp a b=lexN [ord3 a.epoch b.epoch,ord3 a.turn b.turn]:=rfl
theorem qze(a b:Record):qdQ a b=lexN [qmp a.stamp b.stamp,ord3 a.op b.op,ord3 a.key b.key,ord3 a.val b.val]:=by
 rw[qzd,qqs];rfl
theorem qzf{P:Program}{g:Nat}(h:qaT P g=true):∀args w,(callFunc g args).run P w=.ok (.enter g args) w:=by
 intro args w;unfold qaT at h;split at h
 ·rename_i fn hfn;simp only[zj,zS,zbq,zcc]at h;have hc2':fn.body≠none:=by intro e;rw[e]at h;simp at h
  simp[callFunc,hfn,h.1,hc2']
 ·cases h
theorem qzg(a b:Stamp):Rt 342 [.agg a.e,.agg b.e] [.one (I (qmp a b))]:=
 qwC ⟨qmk [a.epoch,a.turn] [b.epoch,b.turn] rfl (by simp),trivial⟩
theorem qzh(a b:Record):Rt 326 [.agg a.e,.agg b.e] [.one (I (qdQ a b))]:=by
 have o1:=qzg a.stamp b.stamp;have o2:=qmk [a.op,a.key,a.val] [b.op,b.key,b.val] rfl (by simp);rw[qze,qgj];split
 ·rename_i h;rw[h]at o1;exact qwE ⟨o1,rfl,o2,trivial⟩
 ·rename_i h;exact qwD ⟨o1,by simpa using h,trivial⟩
theorem qgl(xs:List Record)(hl:xs.length≤8388608):Rt 239 [.one (.sl 5 (xs.map Record.e))] [.one (.sl 5 (xs.map Record.e))]:=
 qvS ⟨by simp;omega,by simp;omega,qae _ Record.flat _,trivial⟩
theorem qzi(xs:List Record)(hl:xs.length≤8388608):Rt 300 [.one (.sl 5 (xs.map Record.e))] [.one (.sl 5 ((sortI (ltOf qdQ) xs).map Record.e))]:=by
 have s:=qzc xs qdQ recO recT 326 (qzf (by kernel_rfl)) qzh hl;rw[qy7 recO recT];exact qwF ⟨qgl xs hl,s,trivial⟩
theorem qzj(xs:List Record):(sortI (ltOf qdQ) xs).length=xs.length:=by simp[sortI,qqz]
def heldW(w:Worker):List Record:=w.queue++w.staged
def qdp(c:Cluster):List Record:=c.workers.flatMap heldW++c.links.flatMap Link.queue
def qfh(c:Cluster):List Record:=sortI (ltOf qdQ) (qdp c)
def qgm(c:Cluster)(e:Int):List Record:=qa5 e (qfh c)
theorem qjy{α β:Type}(f:α→List β)(sz:α→Nat)(h:∀a,(f a).length≤sz a):∀xs:List α,(xs.flatMap f).length≤(xs.map sz).sum
 | []=>by simp
 | a::xs=>by
  have:=qjy f sz h xs;have:=h a;simp only[List.flatMap_cons,zab,zav,zcw];omega
theorem qmq{α β:Type}(f:α→List β)(xs:List α)(i:Nat):((xs.take i).flatMap f).length≤(xs.flatMap f).length:=by
 have:xs.flatMap f=(xs.take i).flatMap f++(xs.drop i).flatMap f:=by rw[←List.flatMap_append,zcb]
 rw[this,zab];omega
theorem qmr{α β:Type}(f:α→List β){xs:List α}{i:Nat}{a:α}(h:xs[i]?=some a):(xs.take (i+1)).flatMap f=(xs.take i).flatMap f++f a:=by
 simp[zbe,h]
theorem Cluster.raw_le{c:Cluster}(h:c.sz≤8388608):(c.workers.flatMap heldW).length+(c.workers.flatMap Worker.inputs).length+(c.links.flatMap Link.queue).length≤8388608:=by
 have h1:=qjy (fun w=>heldW w++w.inputs) Worker.sz (fun w=>by simp only[Worker.sz,heldW,zab];omega) c.workers;have h2:=qjy Link.queue Link.sz (fun l=>by simp only[Link.sz];omega) c.links;have h3:(c.workers.flatMap fun w=>heldW w++w.inputs).length=(c.workers.flatMap heldW).length+(c.workers.flatMap Worker.inputs).length:=by
  generalize c.workers=ws;induction ws with
  | nil=>rfl
  | cons w ws ih=>simp only[List.flatMap_cons,zab,ih];omega
 simp only[Cluster.sz,szS]at h;omega
theorem qqG{c:Cluster}(h:c.sz≤8388608):(qdp c).length+(c.workers.flatMap Worker.inputs).length≤8388608:=by
 have:=Cluster.raw_le h;simp only[qdp,zab];omega
theorem qzk(c:Cluster):(qfh c).length=(qdp c).length:=qzj _
theorem qzl{c:Cluster}(h:c.sz≤8388608):(qfh c).length≤8388608:=by
 have:=qqG h;rw[qzk];omega
theorem Cluster.wlen_le{c:Cluster}(h:c.sz≤8388608):c.workers.length≤8388608:=by simp only[Cluster.sz,szS]at h;omega
theorem Cluster.llen_le{c:Cluster}(h:c.sz≤8388608):c.links.length≤8388608:=by simp only[Cluster.sz,szS]at h;omega
theorem qzm(c:Cluster)(hc:c.sz≤8388608):Rt 230 [.agg c.e] [.one (.sl 5 ((qfh c).map Record.e))]:=by
 have hraw:=Cluster.raw_le hc;have l0:=qao (P:=prog) (c:=(qaa f230 0)) (qaf 0) c.workers.length (fun i:Nat=>qgf (c.workers.map Worker.e) i (((c.workers.take i).flatMap heldW).map Record.e) (c.graph.nodes.map Node.e) c.graph.workers c.graph.cap (c.workers.map Worker.e) (c.links.map Link.e) (c.tokens.map Token.e) (c.news.map News.e)) (fun i hi=>by
  obtain⟨w,hw⟩:=qal hi;have h1:=qmr heldW hw;have h2:=qmq heldW c.workers (i+1);have h4:((c.workers.take i).flatMap heldW).length+w.queue.length+w.staged.length≤8388608:=by
   rw[h1,zab,heldW,zab]at h2;omega
  refine tr_to (fun l=>qgf _ _ l _ _ _ _ _ _ _) (qwG ⟨lt1 hi,lt0,lt2 hi,qac Worker.e hw,by simp only[zb];omega,by simp only[zb];omega,qae _ Record.flat _,by simp only[zb,zab];omega,by simp only[zb,zab];omega,qae _ Record.flat _,up1 hi (Cluster.wlen_le hc),trivial⟩) ?_;rw[h1,heldW];simp only[zU,zba]) (qwH ⟨ge1,trivial⟩)
 have l1:=qao (P:=prog) (c:=(qaa f230 1)) (qaf 2) c.links.length (fun i:Nat=>qgg (c.links.map Link.e) i ((c.workers.flatMap heldW++(c.links.take i).flatMap Link.queue).map Record.e)) (fun i hi=>by
  obtain⟨l,hlk⟩:=qal hi;have h1:=qmr Link.queue hlk;have h2:=qmq Link.queue c.links (i+1);have h4:(c.workers.flatMap heldW).length+((c.links.take i).flatMap Link.queue).length+l.queue.length≤8388608:=by
   rw[h1,zab]at h2;omega
  refine tr_to (qgg _ _) (qwI ⟨lt1 hi,lt0,lt2 hi,qac Link.e hlk,by simp only[zb,zab];omega,by simp only[zb,zab];omega,qae _ Record.flat _,up1 hi (Cluster.llen_le hc),trivial⟩) ?_;rw[h1];simp only[zU,zba]) (qwJ ⟨ge1,trivial⟩)
 rw[zC]at l0 l1;simp only[List.take_zero,zcm,zaa]at l0 l1;exact qwK ⟨l0,l1,qzi (qdp c) (by have:=qqG hc;omega),trivial⟩
theorem qzn(c:Cluster)(e:Int)(hc:c.sz≤8388608):Rt 222 [.agg c.e,.one (I e)] [.one (.sl 5 ((qgm c e).map Record.e))]:=
 qwT ⟨qzm c hc,qgk (qfh c) e (qzl hc),trivial⟩
end Go.Proofs.YtdkobdhckkjmeaaGreat
namespace Go.Proofs.YtdkobdhckkjmeaaGreat
open Go.Sx Go.RowKit Go.Proofs.Tryz
def qaz(w:Worker)(e:Int):Bool:=w.dones.any fun d=>d.epoch==e
theorem Worker.dones_le{w:Worker}(h:w.sz≤8388608):w.dones.length≤8388608:=by simp only[Worker.sz]at h;omega
theorem Cluster.worker_sz{c:Cluster}(h:c.sz≤8388608){w:Worker}(hl:w∈c.workers):w.sz≤8388608:=by
 have:=qjh (sz:=Worker.sz) hl;simp only[Cluster.sz,szS]at h;omega
theorem Cluster.news_le{c:Cluster}(h:c.sz≤8388608):c.news.length≤8388608:=by simp only[Cluster.sz,szS]at h;omega
theorem qzv(w:Worker)(e:Int)(hw:w.sz≤8388608):Rt 166 [.agg w.e,.one (I e)] [.one (B (qaz w e))]:=by
 have hl:=Worker.dones_le hw;have l:=qaW (P:=prog) (c:=(qaa f166 0)) w.dones (fun d=>d.epoch==e) (fun i=>qe5 (w.queue.map Record.e) (w.staged.map Record.e) (w.inputs.map Record.e) (w.cells.map Cell.e) (w.sums.map eI) (w.black.map eB) (w.caps.map eB) (w.dones.map Done.e) e i) (X:=fun _ _=>ql8 true) qaE (qaf 0)
  (fun i a ha h=>qwV ⟨lt1 (lt_of ha),lt0,lt2 (lt_of ha),qac Done.e ha,h,up1 (lt_of ha) hl,trivial⟩)
  (fun i a ha h=>qwU ⟨lt1 (lt_of ha),lt0,lt2 (lt_of ha),qac Done.e ha,h,trivial⟩)
  (qwW ⟨ge1,trivial⟩)
 unfold qaz;rcases l with⟨_,_,h1,h2⟩ | ⟨i,a,_,_,_,_,h1,h2⟩
 ·rw[h1];exact qwY ⟨h2,trivial⟩
 ·rw[h1];exact qwX ⟨h2,trivial⟩
theorem qqJ(xs:List Done)(e:Int)(hl:xs.length≤8388608):Rt 271 [.one (.sl 2 (xs.map Done.e)),.one (I e)] [.one (B (xs.any fun d=>d.epoch==e))]:=
 qwZ ⟨qzs xs (fun d=>d.epoch==e) _ _ hl (by kernel_rfl) (fun x _=>qw0 trivial),trivial⟩
theorem qqK(w:Worker)(e:Int)(hw:w.sz≤8388608):Rt 163 [.agg w.e,.one (I e)] [.one (B (qaz w e))]:=
 qw1 ⟨qqJ w.dones e (Worker.dones_le hw),trivial⟩
def qgn(c:Cluster)(e:Int):List Record:=c.workers.flatMap fun w=>qa5 e w.inputs
theorem qqL(e:Int)(xs:List Record):(qa5 e xs).length≤xs.length:=zat ..
theorem qzw{c:Cluster}(h:c.sz≤8388608)(e:Int)(i:Nat):((c.workers.take i).flatMap fun w=>qa5 e w.inputs).length≤8388608:=by
 have h1:=qmq (fun w:Worker=>qa5 e w.inputs) c.workers i;have h2:=qjy (fun w:Worker=>qa5 e w.inputs) Worker.sz (fun w=>by have:=qqL e w.inputs;simp only[Worker.sz];omega) c.workers;simp only[Cluster.sz,szS]at h;omega
theorem qzx(c:Cluster)(e:Int)(hc:c.sz≤8388608):Rt 59 [.agg c.e,.one (I e)] [.one (.sl 5 ((qgn c e).map Record.e))]:=by
 have l:=qao (P:=prog) (c:=(qaa f59 0)) (qaf 0) c.workers.length (fun i:Nat=>qhu (c.workers.map Worker.e) e i (((c.workers.take i).flatMap fun w=>qa5 e w.inputs).map Record.e)) (fun i hi=>by
  obtain⟨w,hw⟩:=qal hi;have h1:=qmr (fun w:Worker=>qa5 e w.inputs) hw;have h2:=qzw hc e (i+1);have h3:=Cluster.worker_sz hc (qag hw);rw[h1,zab]at h2;rw[h1,zU];exact qw7 ⟨lt1 hi,lt0,lt2 hi,qac Worker.e hw,qgk w.inputs e (by simp only[Worker.sz]at h3;omega),by simp only[zb];omega,by simp only[zb];omega,qae _ Record.flat _,up1 hi (Cluster.wlen_le hc),trivial⟩) (qw8 ⟨ge1,trivial⟩)
 rw[zC]at l;exact qw9 ⟨l,trivial⟩
def toldW(c:Cluster)(e:Int):Bool:=c.workers.any fun w=>qaz w e
def toldN(c:Cluster)(e:Int):Bool:=c.news.any fun x=>x.epoch==e
def qgo(c:Cluster)(e:Int):Bool:=!(toldW c e||toldN c e)||(decide ((qgm c e).length=0)&&decide ((qgn c e).length=0))
theorem qms(w:Worker)(e:Int)(r:Bool)(h:qaz w e=r)(hw:w.sz≤8388608):Rt 166 [.agg w.e,.one (I e)] [.one (B r)]:=h▸qzv w e hw
theorem len0{α:Type}{f:α→List D}(xs:List α)(b:Bool)(h:decide (xs.length=0)=b):((↑(xs.map f).length:Int)==0)=b:=by
 subst h;by_cases h:xs.length=0
 ·simp[h]
 ·rw[show decide (xs.length=0)=false from dF h];simp only[zb,zbq,zcc];omega
theorem qqM(c:Cluster)(e:Int)(hc:c.sz≤8388608):Rt 96 [.agg c.e,.one (I e)] [.one (B (qgo c e))]:=by
 have p:=qzn c e hc;have q:=qzx c e hc;have w:=qzp c.workers (fun w=>qaz w e) 219 [D.ptr [I e]] (Cluster.wlen_le hc) (by kernel_rfl) (fun x hx=>qxf ⟨qqK x e (Cluster.worker_sz hc hx),trivial⟩);have n:=qzt c.news (fun x=>x.epoch==e) 221 [D.ptr [I e]] (Cluster.news_le hc) (by kernel_rfl) (fun x hx=>qxg trivial);change Ret _ _ _ [.one (B (toldW c e))]at w;change Ret _ _ _ [.one (B (toldN c e))]at n;unfold qgo;generalize toldW c e=b1 at*;generalize toldN c e=b2 at*;cases b1 with
 | true=>
  rw[Bool.true_or,zZ,zal];cases h:decide ((qgm c e).length=0) with
  | true=>
   rw[zbl,←len0 (f:=Record.e) (qgn c e) _ rfl];exact qxa ⟨w,rfl,p,len0 _ _ h,q,trivial⟩
  | false=>
   rw[Bool.false_and];exact qxb ⟨w,rfl,p,len0 _ _ h,trivial⟩
 | false=>
  rw[zal];cases b2 with
  | false=>exact qxc ⟨w,rfl,n,rfl,trivial⟩
  | true=>
   rw[zZ,zal];cases h:decide ((qgm c e).length=0) with
   | true=>
    rw[zbl,←len0 (f:=Record.e) (qgn c e) _ rfl];exact qxd ⟨w,rfl,n,rfl,p,len0 _ _ h,q,trivial⟩
   | false=>
    rw[Bool.false_and];exact qxe ⟨w,rfl,n,rfl,p,len0 _ _ h,trivial⟩
end Go.Proofs.YtdkobdhckkjmeaaGreat
