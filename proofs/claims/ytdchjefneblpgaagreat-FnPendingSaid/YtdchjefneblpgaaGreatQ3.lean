import Derived.Test.YtdchjefneblpgaaGreatS1
import Derived.Test.YtdchjefneblpgaaGreatC0
set_option linter.unusedVariables false
set_option linter.unusedSimpArgs false
namespace Go.Proofs.YtdchjefneblpgaaGreat
open Go.Sx Go.RowKit Go.Shelf Go.Lib Go.Sort Go.Proofs.Tryz
variable{w:World}
theorem QZ{aG:World}(h:gA w.heap.size w aG):∃q os,aG=grow (w.drewN q) os:=by
 refine⟨aG.drawn-w.drawn,aG.heap.extract w.heap.size aG.heap.size,?_⟩;have h1:=h.below.size;have bI:w.heap++aG.heap.extract w.heap.size aG.heap.size=aG.heap:=by
  apply Array.ext_getElem?;intro i;rw[hj];by_cases hi:i<w.heap.size
  ·rw[a6 hi];exact (h.below.block i hi).symm
  rw[aX hi,Array.getElem?_extract];by_cases U:i<aG.heap.size
  ·rw[a6 (by simp;omega)]
   congr 1
   omega
  rw[aX (by simp;omega)];exact (zg (by omega)).symm
 obtain⟨heap,tape,drawn,os,output⟩:=w;obtain⟨arC,asv,aq9,ash,asi⟩:=aG;have e1:=h.below.os;have e2:=h.below.tape;have b2:=h.below.output;have dB:=h.drawn rfl;simp only at e1 e2 b2 dB bI h1;subst e1 e2 b2;simp only[grow,World.drewN,bI]
 congr 1
 omega
variable{k b off:Nat}{arr:Array Value}{ty:TypeId}
theorem ao5{α:Type}[Inhabited α]{enc:α->List Value}{n:Nat}{d:Array α}{os:Array Obj}(ah:w.heap[b]?=some (.cells arr ty (0,0))):
  (sortWorldK enc k w b off n d os).heap[b]?=some (.cells (putCells id off (flatK enc k d) arr) ty (0,0)):=by
 have bq:b<w.heap.size:=(hA.1 ah).1;have:b<(putRowK enc k (Sort.ahead w n) b off d).heap.size:=by simpa[putRowK,putRow,mapBlock,Sort.ahead]using bq
 simp only[sortWorldK,grow,hj,a6 this];simp[putRowK,putRow,mapBlock,Sort.ahead,Array.getElem?_modify,ah,onCells]
theorem yB{α:Type}[Inhabited α]{enc:α->List Value}{n:Nat}{d:Array α}{os:Array Obj}{own:Nat->Prop}(ah:own b):oZ ⟨w,own,fun _=>(0,undef)⟩ (sortWorldK enc k w b off n d os):=by
 refine⟨rfl,rfl,rfl,?_,fun c ad ao=>?_,?_⟩
 ·simp[sortWorldK,grow,putRowK,putRow,mapBlock,Sort.ahead]
 ·have b5:b≠c:=fun e=>ao (by rw[<-e];exact ah)
  have:c<(putRowK enc k (Sort.ahead w n) b off d).heap.size:=by simpa[putRowK,putRow,mapBlock,Sort.ahead]using ad
  simp only[sortWorldK,grow,hj,a6 this];simp[putRowK,putRow,mapBlock,Sort.ahead,Array.getElem?_modify,b5]
 intro _;show w.drawn<=w.drawn+n;omega
theorem Q0{α:Type}[Inhabited α]{enc:α->List Value}{xs:List α}(hk:∀x,(enc x).length=k){i j:Nat}{e:List Value}{v:Value}(he:(xs.map enc)[i]?=some e)(bj:e[j]?=some v):
  i*k+j<(flatK enc k xs.toArray).size/\(flatK enc k xs.toArray)[i*k+j]! = v:=by
 rw[c9,bX]at he;obtain⟨x,aa,rfl⟩:=he;have hi:i<xs.length:=(dK.1 aa).1;have aM:j<k:=by have:=(dK.1 bj).1;rwa[hk]at this
 have bq:i*k+j<xs.length*k:=by
  have:(i+1)*k<=xs.length*k:=gW _ hi;rw[fB]at this;omega
 refine⟨by simpa using bq,?_⟩;rw[get_flatK _ _ _ _ (by simpa using bq)];have e1:(i*k+j) / k=i:=by rw[Nat.mul_comm,Nat.mul_add_div (by omega),Nat.div_eq_of_lt aM];rfl
 have e2:(i*k+j) % k=j:=by rw[Nat.mul_comm,Nat.mul_add_mod,zi aM]
 rw[e1,e2];have b2:xs.toArray[i]! = x:=by
  rw[getElem!_pos xs.toArray i (by simpa using hi)];rw[fC hi]at aa;simpa using aa
 rw[b2];have Nx:j<(enc x).length:=by rw[hk];exact aM
 rw[getElem!_pos (enc x) j Nx];rw[fC Nx]at bj;exact ei bj
theorem Q1{α:Type}[Inhabited α]{enc:α->List Value}{xs:List α}(hk:∀x,(enc x).length=k){cap:Nat}(ar:Row w b off k cap arr ty (xs.map enc)):HoldsK enc k w b off xs.toArray:=by
 intro j aM;rw[size_flatK]at aM;have NA:0<k:=by
  rcases Nat.eq_zero_or_pos k with h | h
  ·rw[h]at aM;simp at aM
  exact h
 have hi:j / k<xs.length:=by
  have:=Nat.div_lt_iff_lt_mul NA |>.2 (by simpa using aM);simpa using this
 have he:(xs.map enc)[j / k]?=some (enc xs[j / k]):=by simp[hi]
 have XU:j % k<(enc xs[j / k]).length:=by rw[hk];exact Nat.mod_lt _ NA
 have bj:=fC XU;obtain⟨_,U⟩:=Q0 hk he bj;have au:=ar.cell _ _ _ _ he bj;have sg:j / k*k+j % k=j:=by rw[Nat.mul_comm];exact Nat.div_add_mod j k
 rw[sg]at U;rw[u4,sg]at au;refine⟨?_,by simp[World.frozen?,ar.heap]⟩;simp only[id,U];simp[World.cell?,ar.heap,au]
theorem Q2{α:Type}[Inhabited α]{enc:α->List Value}{xs ys:List α}(hk:∀x,(enc x).length=k)(h1:∀x,∀v∈enc x,v.oneCell'=true){cap n:Nat}{os:Array Obj}
  (ar:Row w b off k cap arr ty (xs.map enc)) (af:ys.length=xs.length):Row (sortWorldK enc k w b off n ys.toArray os) b off k cap (putCells id off (flatK enc k ys.toArray) arr) ty (ys.map enc):=by
 have nD:=ar.room;have dD:=ar.fit;rw[bp]at nD;refine⟨ao5 ar.heap,by rw[bp,af];exact nD,by simpa[putCells]using dD,?_,?_,?_⟩
 ·intro e he;obtain⟨x,_,rfl⟩:=h'.1 he;exact hk x
 ·intro e he;obtain⟨x,_,rfl⟩:=h'.1 he;exact h1 x
 intro i j e v he bj;obtain⟨U,au⟩:=Q0 hk he bj;rw[size_flatK]at U;have eY:ys.length*k<=cap*k:=gW _ (by omega);have aro:i*k+j<ys.length*k:=by simpa using U
 have bq:off+i*k+j<arr.size:=by omega
 simp only[putCells,Array.getElem?_mapIdx,gN bq,mn];rw[a6 ⟨by omega,by rw[size_flatK];simp only[kN];omega⟩,show off+i*k+j-off=i*k+j by omega,au];rfl
instance:Inhabited aA:=⟨(by constructor<;>first | exact (0:Int) | exact⟨0,0⟩)⟩
def l5(x:aA):List Value:=x.e.map D.tn
theorem ao6(xs:List aA)(iA:aA->aA->Int)(hO:SWO (ltOf iA))(fs:∀x y,(ltOf iA) x y=false->(ltOf iA) y x=false->x=y)(g:Nat)(Gd:∀args w,(callFunc g args).run prog w=.ok (.enter g args) w)
  (ao:∀a b,aK g [.agg a.e,.agg b.e] [.one (I (iA a b))]) (af:xs.length<=8388608):
  nm prog 301 [.one (.eM 5 (xs.map aA.e) (some ((xs.mergeSort fun x y=>!(ltOf iA) y x).map aA.e))),.one (.ro (.cl g []))] []:=by
 have hk:∀x,(l5 x).length=5:=fun x=>rfl
 have lp:∀x:aA,∀d∈x.e,∃v,d=.v v/\v.oneCell'=true:=by
  intro x d ax;simp only[aA.e,dG,mr,or_false]at ax;rcases ax with rfl | rfl | rfl | rfl | rfl<;>exact⟨_,rfl,rfl⟩
 have h1:∀x,∀v∈l5 x,v.oneCell'=true:=by
  intro x v bj;obtain⟨d,ax,rfl⟩:=h'.1 bj;obtain⟨v,rfl,h⟩:=lp x d ax;exact h
 have zr:∀l:List aA,l.map aA.e=fE (l.map l5):=by
  intro l;simp only[fE,List.map_map];rfl
 rintro w vs ω ⟨vB,aL,ag⟩ kE;obtain⟨y,a1,sJ⟩:=ag 0 _ rfl;obtain⟨u,hu,eG⟩:=ag 1 _ rfl;have z6:u=.func (.func g) #[] #[]:=by
  have Hq:bR w ω Tag.free.R (.cl g []) u:=eG;cases Hq with
  | cl R g bA cs us ae hu ax=>
   have:cs=#[]:=Array.eq_empty_of_size_eq_zero (by simpa using ae);rw[this]
 subst z6;have oo:=ML aL a1 hu;subst oo;have Hw:bR w ω (Tag.own (eL 0 0)).R (.J 5 (fE (xs.map l5))) y:=by rw[<-zr];exact sJ
 have zP:(xs.mergeSort fun x y=>!(ltOf iA) y x).length=xs.length:=(List.mergeSort_perm xs _).length_eq;have kept:∀{aG:World} {b off cap:Nat} {A:Array Value} {ty:TypeId},ω b=.tok (eL 0 0) []->Row aG b off 5 cap A ty ((xs.mergeSort fun x y=>!(ltOf iA) y x).map l5)->y=.slice (some ⟨b,off,none⟩) xs.length cap->
   Kept aG ω [.one (.eM 5 (xs.map aA.e) (some ((xs.mergeSort fun x y=>!(ltOf iA) y x).map aA.e))),.one (.ro (.cl g []))] #[y,.func (.func g) #[] #[]]:=by
  intro aG b off cap A ty cQ ar kW i j ed k es cp fw ad
  match i with
  | 0=>
   simp only[iy,aQ]at fw;subst fw;simp only[GA.cell]at ad;split at ad
   ·rename_i aM;subst aM;simp only[aQ,eR.eM.injEq]at ad;obtain⟨rfl,_,rfl⟩:=ad;have:=ar.rep (ω:=ω) (R:=(Tag.own (eL 0 0)).R) cQ;rw[zr];rw[bp,zP,<-kW]at this;have e:cellOf ((#[y,.func (.func g) #[] #[]]:Array Value).getD 0 undef) 0=y:=by
     rw[kW];rfl
    rw[e];exact this
   cases ad
  | 1=>simp at fw;subst fw;simp only[GA.cell]at ad;split at ad<;>simp at ad
  | _+2=>simp at fw
 rcases vB.row Hw with⟨he,a,rfl⟩ | ⟨b,off,cap,arr,tb,cQ,kW,ar⟩
 ·
  have ra:xs=[]:=by simpa using he
  subst ra;have p0:=AnyF.slices_SortFunc_none Tryz.U9 a 0 (.func (.func g) #[] #[]) w;change Calls prog 301 _ _ _ at p0;refine p0.mono ?_;rintro e aG ⟨rfl,rfl⟩;refine⟨_,rfl,gn.start kE,ω,fun _ _ h=>h,fun c ad=>?_,?_,⟨#[],rfl,rfl,fun i cj h=>by simp at h⟩⟩
  ·obtain⟨⟨t,q,U,_⟩,au⟩:=vB c ad;exact⟨⟨t,q,U⟩,au⟩
  intro i j ed k es cp fw ad
  match i with
  | 0=>
   simp only[iy,aQ]at fw;subst fw;simp only[GA.cell]at ad;split at ad
   ·rename_i aM;subst aM;simp only[aQ,eR.eM.injEq]at ad;obtain⟨rfl,_,rfl⟩:=ad;simp only[List.mergeSort_nil,List.map_nil];exact bR.nil _ _ a
   cases ad
  | 1=>simp at fw;subst fw;simp only[GA.cell]at ad;split at ad<;>simp at ad
  | _+2=>simp at fw
 have jC:ω b≠.bx:=by rw[cQ];simp
 rw[bp]at kW;have GJ:CmpLays prog g #[] l5 5 iA b off xs.toArray.size w:=by
  intro m os vg _ x y;have zD:∀z:aA,r3 (sortWorldK l5 5 w b off m vg os) (.agg z.e) (.agg (l5 z).toArray):=by
   intro z;refine⟨_,rfl,by simp[l5],fun i d ax=>?_⟩;obtain⟨v,rfl,bj⟩:=lp z d (e4 ax);exact⟨v,by simp[l5,ax,D.tn],.v _ _ bj⟩
  have Hp:n5 (sortWorldK l5 5 w b off m vg os):=(oZ.full (yB jC) kE).laid;have:=ao x y (sortWorldK l5 5 w b off m vg os) #[.agg (l5 x).toArray,.agg (l5 y).toArray] Hp ⟨rfl,fun i cj hi=>by
   match i with
   | 0=>simp at hi;subst hi;exact⟨_,rfl,zD x⟩
   | 1=>simp at hi;subst hi;exact⟨_,rfl,zD y⟩
   | _+2=>simp at hi⟩
  simp only[Array.append_empty];refine this.mono ?_;rintro e aG ⟨v,rfl,ah,⟨aqP,_,_,eA⟩⟩;have:v=.int .i64 (iA x y):=bR.Gi eA;subst this;exact⟨rfl,QZ ah⟩
 have p0:=AnyQ.slices_SortFunc_total Tryz.U9 5 Tryz.isAgg68 Tryz.sizeOf68 l5 hk h1 iA hO g #[] b off cap xs.toArray w Gd GJ (Q1 hk ar) (hA.1 ar.heap).1 (by simp;omega) fs;change Calls prog 301 _ _ _ at p0;rw[kW];refine p0.mono ?_;rintro e aG ⟨rfl,n,os,rfl⟩;have dy:=Q2 (n:=n) (os:=os) hk h1 ar zP;refine⟨_,rfl,(yB jC).full kE,ω,fun _ _ h=>h,fun c ad=>?_,?_,⟨#[],rfl,rfl,fun i cj h=>by simp at h⟩⟩
 ·obtain⟨⟨t,q,U,_⟩,hB,hL,au⟩:=vB c ad;refine⟨⟨t,q,U⟩,?_⟩;by_cases ft:c=b
  ·subst ft;exact⟨_,_,dy.heap⟩
  have mB:c<w.heap.size:=(hA.1 au).1;have od:oZ ⟨w,fun x=>x=b,fun _=>(0,undef)⟩ (sortWorldK l5 5 w b off n (xs.mergeSort fun x y=>!(ltOf iA) y x).toArray os):=yB rfl;exact⟨hB,hL,(od.block c mB ft).trans au⟩
 have:=kept cQ dy kW;rwa[kW]at this
instance:Inhabited bD:=⟨(by constructor<;>first | exact (0:Int) | exact⟨0,0⟩)⟩
def l6(x:bD):List Value:=x.e.map D.tn
theorem ao7(xs:List bD)(iA:bD->bD->Int)(hO:SWO (ltOf iA))(fs:∀x y,(ltOf iA) x y=false->(ltOf iA) y x=false->x=y)(g:Nat)(Gd:∀args w,(callFunc g args).run prog w=.ok (.enter g args) w)
  (ao:∀a b,aK g [.agg a.e,.agg b.e] [.one (I (iA a b))]) (af:xs.length<=8388608):
  nm prog 312 [.one (.eM 2 (xs.map bD.e) (some ((xs.mergeSort fun x y=>!(ltOf iA) y x).map bD.e))),.one (.ro (.cl g []))] []:=by
 have hk:∀x,(l6 x).length=2:=fun x=>rfl
 have lp:∀x:bD,∀d∈x.e,∃v,d=.v v/\v.oneCell'=true:=by
  intro x d ax;simp only[bD.e,dG,mr,or_false]at ax;rcases ax with rfl | rfl<;>exact⟨_,rfl,rfl⟩
 have h1:∀x,∀v∈l6 x,v.oneCell'=true:=by
  intro x v bj;obtain⟨d,ax,rfl⟩:=h'.1 bj;obtain⟨v,rfl,h⟩:=lp x d ax;exact h
 have zr:∀l:List bD,l.map bD.e=fE (l.map l6):=by
  intro l;simp only[fE,List.map_map];rfl
 rintro w vs ω ⟨vB,aL,ag⟩ kE;obtain⟨y,a1,sJ⟩:=ag 0 _ rfl;obtain⟨u,hu,eG⟩:=ag 1 _ rfl;have z6:u=.func (.func g) #[] #[]:=by
  have Hq:bR w ω Tag.free.R (.cl g []) u:=eG;cases Hq with
  | cl R g bA cs us ae hu ax=>
   have:cs=#[]:=Array.eq_empty_of_size_eq_zero (by simpa using ae);rw[this]
 subst z6;have oo:=ML aL a1 hu;subst oo;have Hw:bR w ω (Tag.own (eL 0 0)).R (.J 2 (fE (xs.map l6))) y:=by rw[<-zr];exact sJ
 have zP:(xs.mergeSort fun x y=>!(ltOf iA) y x).length=xs.length:=(List.mergeSort_perm xs _).length_eq;have kept:∀{aG:World} {b off cap:Nat} {A:Array Value} {ty:TypeId},ω b=.tok (eL 0 0) []->Row aG b off 2 cap A ty ((xs.mergeSort fun x y=>!(ltOf iA) y x).map l6)->y=.slice (some ⟨b,off,none⟩) xs.length cap->
   Kept aG ω [.one (.eM 2 (xs.map bD.e) (some ((xs.mergeSort fun x y=>!(ltOf iA) y x).map bD.e))),.one (.ro (.cl g []))] #[y,.func (.func g) #[] #[]]:=by
  intro aG b off cap A ty cQ ar kW i j ed k es cp fw ad
  match i with
  | 0=>
   simp only[iy,aQ]at fw;subst fw;simp only[GA.cell]at ad;split at ad
   ·rename_i aM;subst aM;simp only[aQ,eR.eM.injEq]at ad;obtain⟨rfl,_,rfl⟩:=ad;have:=ar.rep (ω:=ω) (R:=(Tag.own (eL 0 0)).R) cQ;rw[zr];rw[bp,zP,<-kW]at this;have e:cellOf ((#[y,.func (.func g) #[] #[]]:Array Value).getD 0 undef) 0=y:=by
     rw[kW];rfl
    rw[e];exact this
   cases ad
  | 1=>simp at fw;subst fw;simp only[GA.cell]at ad;split at ad<;>simp at ad
  | _+2=>simp at fw
 rcases vB.row Hw with⟨he,a,rfl⟩ | ⟨b,off,cap,arr,tb,cQ,kW,ar⟩
 ·
  have ra:xs=[]:=by simpa using he
  subst ra;have p0:=AnyF.slices_SortFunc_none Tryz.U' a 0 (.func (.func g) #[] #[]) w;change Calls prog 312 _ _ _ at p0;refine p0.mono ?_;rintro e aG ⟨rfl,rfl⟩;refine⟨_,rfl,gn.start kE,ω,fun _ _ h=>h,fun c ad=>?_,?_,⟨#[],rfl,rfl,fun i cj h=>by simp at h⟩⟩
  ·obtain⟨⟨t,q,U,_⟩,au⟩:=vB c ad;exact⟨⟨t,q,U⟩,au⟩
  intro i j ed k es cp fw ad
  match i with
  | 0=>
   simp only[iy,aQ]at fw;subst fw;simp only[GA.cell]at ad;split at ad
   ·rename_i aM;subst aM;simp only[aQ,eR.eM.injEq]at ad;obtain⟨rfl,_,rfl⟩:=ad;simp only[List.mergeSort_nil,List.map_nil];exact bR.nil _ _ a
   cases ad
  | 1=>simp at fw;subst fw;simp only[GA.cell]at ad;split at ad<;>simp at ad
  | _+2=>simp at fw
 have jC:ω b≠.bx:=by rw[cQ];simp
 rw[bp]at kW;have GJ:CmpLays prog g #[] l6 2 iA b off xs.toArray.size w:=by
  intro m os vg _ x y;have zD:∀z:bD,r3 (sortWorldK l6 2 w b off m vg os) (.agg z.e) (.agg (l6 z).toArray):=by
   intro z;refine⟨_,rfl,by simp[l6],fun i d ax=>?_⟩;obtain⟨v,rfl,bj⟩:=lp z d (e4 ax);exact⟨v,by simp[l6,ax,D.tn],.v _ _ bj⟩
  have Hp:n5 (sortWorldK l6 2 w b off m vg os):=(oZ.full (yB jC) kE).laid;have:=ao x y (sortWorldK l6 2 w b off m vg os) #[.agg (l6 x).toArray,.agg (l6 y).toArray] Hp ⟨rfl,fun i cj hi=>by
   match i with
   | 0=>simp at hi;subst hi;exact⟨_,rfl,zD x⟩
   | 1=>simp at hi;subst hi;exact⟨_,rfl,zD y⟩
   | _+2=>simp at hi⟩
  simp only[Array.append_empty];refine this.mono ?_;rintro e aG ⟨v,rfl,ah,⟨aqP,_,_,eA⟩⟩;have:v=.int .i64 (iA x y):=bR.Gi eA;subst this;exact⟨rfl,QZ ah⟩
 have p0:=AnyQ.slices_SortFunc_total Tryz.U' 2 Tryz.isAgg66 Tryz.sizeOf66 l6 hk h1 iA hO g #[] b off cap xs.toArray w Gd GJ (Q1 hk ar) (hA.1 ar.heap).1 (by simp;omega) fs;change Calls prog 312 _ _ _ at p0;rw[kW];refine p0.mono ?_;rintro e aG ⟨rfl,n,os,rfl⟩;have dy:=Q2 (n:=n) (os:=os) hk h1 ar zP;refine⟨_,rfl,(yB jC).full kE,ω,fun _ _ h=>h,fun c ad=>?_,?_,⟨#[],rfl,rfl,fun i cj h=>by simp at h⟩⟩
 ·obtain⟨⟨t,q,U,_⟩,hB,hL,au⟩:=vB c ad;refine⟨⟨t,q,U⟩,?_⟩;by_cases ft:c=b
  ·subst ft;exact⟨_,_,dy.heap⟩
  have mB:c<w.heap.size:=(hA.1 au).1;have od:oZ ⟨w,fun x=>x=b,fun _=>(0,undef)⟩ (sortWorldK l6 2 w b off n (xs.mergeSort fun x y=>!(ltOf iA) y x).toArray os):=yB rfl;exact⟨hB,hL,(od.block c mB ft).trans au⟩
 have:=kept cQ dy kW;rwa[kW]at this
end Go.Proofs.YtdchjefneblpgaaGreat
namespace Go.Proofs.YtdchjefneblpgaaGreat
open Go.Sx Go.RowKit Go.Sort Go.Proofs.Tryz
def A3(s:bD):List Int:=[s.a8,s.cD]
def A4(r:aA):List Int:=[r.bc.a8,r.bc.cD,r.op,r.key,r.val]
def jc(a b:bD):Int:=jU (A3 a) (A3 b)
def il(a b:aA):Int:=jU (A4 a) (A4 b)
theorem vW:SWO (ltOf jc):=QU A3 2 fun _=>rfl
theorem UY:SWO (ltOf il):=QU A4 5 fun _=>rfl
theorem Ec(x y:bD):ltOf jc x y=false->ltOf jc y x=false->x=y:=
 QV A3 2 (fun _=>rfl) (fun a b h=>by cases a;cases b;simp[A3]at h;simp[h]) x y
theorem UZ(x y:aA):ltOf il x y=false->ltOf il y x=false->x=y:=
 QV A4 5 (fun _=>rfl) (fun a b h=>by
  obtain⟨_,⟨_,_⟩,_,_⟩:=a;obtain⟨_,⟨_,_⟩,_,_⟩:=b;simp[A4]at h;simp[h]) x y
theorem ao8(d:Int):kY [d]=d:=by
 rw[ud];split
 ·rename_i h;rw[h];rfl
 rfl
theorem Q3(a b:bD):jc a b=kY [hc a.a8 b.a8,hc a.cD b.cD]:=rfl
theorem Q4(a b:aA):il a b=kY [jc a.bc b.bc,hc a.op b.op,hc a.key b.key,hc a.val b.val]:=by
 rw[Q3,QR];rfl
theorem Q5{P:Program}{g:Nat}(h:k4 P g=true):∀args w,(callFunc g args).run P w=.ok (.enter g args) w:=by
 intro args w;unfold k4 at h;split at h
 ·rename_i fn j';simp only[ca,fr,uZ,ho]at h;have pX:fn.body≠none:=by intro e;rw[e]at h;simp at h
  simp[callFunc,j',h.1,pX]
 cases h
theorem Kw(a b:bD):aK 314 [.agg a.e,.agg b.e] [.one (I (jc a b))]:=by
 have cd:=sY a.a8 b.a8;have bY:=sY a.cD b.cD;rw[Q3,ud,ao8];split
 ·rename_i h;rw[h]at cd;exact al4 ⟨cd,rfl,bY,aj⟩
 rename_i h;exact al3 ⟨cd,by simpa using h,aj⟩
theorem Q6(a b:bD):aK 313 [.agg a.e,.agg b.e] [.one (I (jc a b))]:=
 al5 ⟨I2 [a.a8,a.cD] [b.a8,b.cD] rfl (by simp),aj⟩
theorem Q7(a b:aA):aK 264 [.agg a.e,.agg b.e] [.one (I (il a b))]:=by
 have cd:=Kw a.bc b.bc;have bY:=sY a.op b.op;have cr:=sY a.key b.key;have fl:=sY a.val b.val;rw[Q4];generalize jc a.bc b.bc=kp at*;generalize hc a.op b.op=gM at*;generalize hc a.key b.key=hY at*;generalize hc a.val b.val=pK at*;have l:=jb (P:=prog) (c:=(az f264 0)) [kp,gM,hY,pK] (fun d=>d != 0) (fun i=>wu kp gM hY pK i) (X:=fun _ d=>Jo d) hd (cL 0)
  (fun i d ax h=>al7 ⟨dU (by have:=bh ax;simp at this;omega),bG,by have:=bh ax;simp at this ⊢;omega,bF cv ax,h,⟨by omega,by have:=bh ax;simp at this;omega⟩,aj⟩)
  (fun i d ax h=>al6 ⟨dU (by have:=bh ax;simp at this;omega),bG,by have:=bh ax;simp at this ⊢;omega,bF cv ax,h,bG,by have:=bh ax;simp at this ⊢;omega,bF cv ax,aj⟩)
  (al8 ⟨rfl,aj⟩)
 unfold kY;rcases l with⟨h1,_,_,U⟩ | ⟨i,a,_,_,h1,_,_,U⟩
 ·rw[h1];exact ama ⟨cd,bY,cr,fl,U,aj⟩
 rw[h1];exact al9 ⟨cd,bY,cr,fl,U,aj⟩
theorem ao9(a b:aA):aK 302 [.agg a.e,.agg b.e] [.one (I (il a b))]:=by
 have cd:=Q6 a.bc b.bc;have bY:=I2 [a.op,a.key,a.val] [b.op,b.key,b.val] rfl (by simp);rw[Q4,ud];split
 ·rename_i h;rw[h]at cd;exact amc ⟨cd,rfl,bY,aj⟩
 rename_i h;exact amb ⟨cd,by simpa using h,aj⟩
theorem Q8(x:aA)(S R:List aA)(n:Int)(af:S.length+R.length+1<=8388608):∀(k:Nat) (y:aA),k<=S.length->∃fq,dd prog (az f165 1)
  (uc n k ((S.take k++y::(S.drop k++R)).map aA.e) x.op x.bc.a8 x.bc.cD x.key x.val) (.exit 2)
  (EV n ((S.take (iK (ltOf il) x S k)++fq::(S.drop (iK (ltOf il) x S k)++R)).map aA.e) (iK (ltOf il) x S k:Nat) x.op x.bc.a8 x.bc.cD x.key x.val)
 | 0,y,_=>⟨y,.last (cL 2) (alo ⟨eX (by simp),aj⟩)⟩
 | k+1,y,hk=>by
  obtain⟨z,aR⟩:=dv (xs:=S) (i:=k) (by omega);have e1:(((k+1:Nat):Int)-1).toNat=k:=by omega
  have gE:((S.take (k+1)++y::(S.drop (k+1)++R)).map aA.e)[(((k+1:Nat):Int)-1).toNat]?=some z.e:=by
   rw[e1,c9,xf (by simp;omega),gX,a6 (by omega),aR];rfl
  have GZ:((S.take (k+1)++y::(S.drop (k+1)++R)).map aA.e)[(((k+1:Nat):Int)).toNat]?=some y.e:=by
   rw[jh,c9,rY (by simp;omega)];simp[lJ,Nat.min_eq_left hk]
  have hlen:(↑((S.take (k+1)++y::(S.drop (k+1)++R)).map aA.e).length:Int)=S.length+R.length+1:=by simp;omega
  have CN:bf .i64 (((k+1:Nat):Int)-1):=⟨by omega,by omega⟩
  have Nt:decide (((k+1:Nat):Int)>0)=true:=dU (by omega);simp only[iK,aR];by_cases ad:ltOf il x z=true
  ·rw[a6 ad];obtain⟨fq,a1⟩:=Q8 x S R n af k z (by omega);refine⟨fq,.more ?_ a1⟩;have pW:decide (il x z<0)=true:=ad;refine pH (fun l=>uc n k l x.op x.bc.a8 x.bc.cD x.key x.val) (pH (fun i=>uc n i _ x.op x.bc.a8 x.bc.cD x.key x.val) (amd ⟨Nt,CN,by omega,by omega,gE,Q7 x z,pW,CN,by omega,by omega,gE,by omega,by omega,GZ,CN,aj⟩) (by omega:((k+1:Nat):Int)-1=k)) ?_;show List.set _ _ z.e=_;rw[jh,<-jj]
   congr 1
   rw[List.set_append_right _ _ (by simp;omega)];have mM:S[k]'(bh aR)=z:=by have:=aR;rw[fC (bh aR)]at this;exact ei this
   simp only[lJ,Nat.min_eq_left hk,Nat.sub_self,List.set_cons_zero];rw[List.take_succ_eq_append_getElem (bh aR),mM,<-List.getElem_cons_drop (bh aR),mM];simp
  rw[aX ad];have pW:decide (il x z<0)=false:=by simpa[ltOf]using ad
  exact⟨y,.last (cL 2) (ame ⟨Nt,CN,by omega,by omega,gE,Q7 x z,pW,aj⟩)⟩
theorem apa(xs:List aA)(af:xs.length<=8388608):aK 165 [.one (.J 5 (xs.map aA.e))] [.one (.J 5 ((gx (ltOf il) xs).map aA.e))]:=by
 have hlen:∀ys:List aA,(gx (ltOf il) ys).length=ys.length:=fun ys=>by simp[gx,Eb]
 let f:=fun i:Nat=>pu i ((gx (ltOf il) (xs.take i)++xs.drop i).map aA.e)
 have step:∀i,1<=i->i<xs.length->fP prog (az f165 0) (f i) .normal (f (i+1)):=by
  intro i _ hi;obtain⟨x,aa⟩:=dv hi;have De:xs[i]=x:=by rw[fC hi]at aa;exact ei aa
  have fF:(gx (ltOf il) (xs.take i)).length=i:=by rw[hlen,lJ];omega
  have bE:∀S:List aA,S.length=i->S++xs.drop i=S.take i++x::(S.drop i++xs.drop (i+1)):=by
   intro S h;rw[tp (l:=S) (by omega),List.drop_eq_nil_of_le (show S.length<=i by omega),List.nil_append,<-List.getElem_cons_drop hi,De]
  show fP _ _ (pu i _) _ (pu (i+1:Nat) _);rw[ao1 aa,nG,fF,bE _ fF];generalize gx (ltOf il) (xs.take i)=S at*;have bq:S.length+(xs.drop (i+1)).length+1=xs.length:=by simp;omega
  obtain⟨fq,a1⟩:=Q8 x S (xs.drop (i+1)) i (by omega) i x (by omega);have hp:=D' (ltOf il) x S i;generalize iK (ltOf il) x S i=p at*;have gE:((S.take i++x::(S.drop i++xs.drop (i+1))).map aA.e)[((i:Nat):Int).toNat]?=some x.e:=by
   rw[jh,c9,rY (by simp;omega)];simp[lJ,Nat.min_eq_left (show i<=S.length by omega)]
  have GZ:((S.take p++fq::(S.drop p++xs.drop (i+1))).map aA.e)[((p:Nat):Int).toNat]?=some fq.e:=by
   rw[jh,c9,rY (by simp;omega)];simp[lJ,Nat.min_eq_left (show p<=S.length by omega)]
  have jB:(↑((S.take i++x::(S.drop i++xs.drop (i+1))).map aA.e).length:Int)=xs.length:=by simp;omega
  have cU:(↑((S.take p++fq::(S.drop p++xs.drop (i+1))).map aA.e).length:Int)=xs.length:=by simp;omega
  refine pH (pu ((i+1:Nat):Int)) (alp ⟨dU (by omega),by omega,by omega,gE,a1,by omega,by omega,GZ,⟨by omega,by omega⟩,aj⟩) ?_;show List.set _ _ x.e=_;rw[jh,<-jj]
  congr 1
  rw[List.set_append_right _ _ (by simp;omega)];simp[lJ,Nat.min_eq_left (show p<=S.length by omega)]
 have l:dd prog (az f165 0) (pu 1 (xs.map aA.e)) (.exit 0) (EW ((gx (ltOf il) xs).map aA.e)):=by
  rcases Nat.eq_zero_or_pos xs.length with bm | bm
  ·have aa:xs=[]:=u0 bm;rw[aa];exact .last (cL 0) (PL ⟨rfl,aj⟩)
  have e:=ako (P:=prog) (c:=(az f165 0)) (cL 0) 1 xs.length f bm step (stE:=EW ((gx (ltOf il) xs).map aA.e)) (by
   show fP _ _ (pu _ _) _ _;rw[hP,List.drop_length,ix];exact PL ⟨eX (by rw[bp,hlen];omega),aj⟩)
  have e1:gx (ltOf il) (xs.take 1)++xs.drop 1=xs:=by
   obtain⟨a,ys,rfl⟩:=List.exists_cons_of_length_pos bm;rfl
  have e2:f 1=pu 1 (xs.map aA.e):=by
   show pu _ _=_;rw[e1];rfl
  rw[e2]at e;exact e
 exact alq ⟨by simp;omega,by simp;omega,cn _ aA.flat _,l,aj⟩
theorem apb(xs:List aA)(af:xs.length<=8388608):aK 233 [.one (.J 5 (xs.map aA.e))] [.one (.J 5 (xs.map aA.e))]:=
 akF ⟨by simp;omega,by simp;omega,cn _ aA.flat _,aj⟩
theorem apc(xs:List aA)(af:xs.length<=8388608):aK 236 [.one (.J 5 (xs.map aA.e))] [.one (.J 5 ((gx (ltOf il) xs).map aA.e))]:=by
 have s:=ao6 xs il UY UZ 302 (Q5 (by kernel_rfl)) ao9 af;rw[QX UY UZ];exact alr ⟨apb xs af,s,aj⟩
theorem apd{xs:List aA}:(gx (ltOf il) xs).length=xs.length:=by simp[gx,Eb]
def jx(w:aP):List aA:=w.queue++w.ck
def yC(c:aU):List aA:=c.ap.flatMap jx++c.bQ.flatMap bC.queue
def lB(c:aU):List aA:=gx (ltOf il) (yC c)
def Kx(c:aU)(e:Int):List aA:=mU e (lB c)
theorem Ky{α β:Type}(f:α->List β)(sz:α->Nat)(h:∀a,(f a).length<=sz a):∀xs:List α,(xs.flatMap f).length<=(xs.map sz).sum
 | []=>by simp
 | a::xs=>by
  have:=Ky f sz h xs;have:=h a;simp only[List.flatMap_cons,eK,iT,oY];omega
theorem x4{α β:Type}(f:α->List β)(xs:List α)(i:Nat):((xs.take i).flatMap f).length<=(xs.flatMap f).length:=by
 have:xs.flatMap f=(xs.take i).flatMap f++(xs.drop i).flatMap f:=by rw[<-List.flatMap_append,zf]
 rw[this,eK];omega
theorem x5{α β:Type}(f:α->List β){xs:List α}{i:Nat}{a:α}(h:xs[i]?=some a):(xs.take (i+1)).flatMap f=(xs.take i).flatMap f++f a:=by
 simp[lK,h]
variable{c:aU}
theorem aU.LW(h:c.sz<=8388608):(c.ap.flatMap jx).length+(c.ap.flatMap aP.bT).length+(c.bQ.flatMap bC.queue).length<=8388608:=by
 have h1:=Ky (fun w=>jx w++w.bT) aP.sz (fun w=>by simp only[aP.sz,jx,eK];omega) c.ap;have U:=Ky bC.queue bC.sz (fun l=>by simp only[bC.sz];omega) c.bQ;have au:(c.ap.flatMap fun w=>jx w++w.bT).length=(c.ap.flatMap jx).length+(c.ap.flatMap aP.bT).length:=by
  generalize c.ap=ws;induction ws with
  | nil=>rfl
  | cons w ws dt=>simp only[List.flatMap_cons,eK,dt];omega
 simp only[aU.sz,fp]at h;omega
theorem Ed(h:c.sz<=8388608):(yC c).length+(c.ap.flatMap aP.bT).length<=8388608:=by
 have:=aU.LW h;simp only[yC,eK];omega
theorem Kz(c:aU):(lB c).length=(yC c).length:=apd
theorem Ee{c:aU}(h:c.sz<=8388608):(lB c).length<=8388608:=by
 have:=Ed h;rw[Kz];omega
theorem ape{e:Int}(h:c.sz<=8388608):(Kx c e).length<=8388608:=ni (qL ..) (Ee h)
theorem aU.xe(h:c.sz<=8388608):c.ap.length<=8388608:=by simp only[aU.sz,fp]at h;omega
theorem aU.xY(h:c.sz<=8388608):c.bQ.length<=8388608:=by simp only[aU.sz,fp]at h;omega
theorem KA(c:aU)(ad:c.sz<=8388608):aK 38 [.agg c.e] [.one (.J 5 ((lB c).map aA.e))]:=by
 have Yu:=aU.LW ad;have ej:=ef (P:=prog) (c:=(az f38 0)) (cL 0) c.ap.length (fun i:Nat=>yq (c.aF.nodes.map Node.e) c.aF.ap c.aF.cap (c.ap.map aP.e) (c.bQ.map bC.e) (c.tokens.map b'.e) (c.news.map cA.e) i (((c.ap.take i).flatMap jx).map aA.e)) (fun i hi=>by
  obtain⟨w,hw⟩:=dv hi;have h1:=x5 jx hw;have U:=x4 jx c.ap (i+1);have aH:((c.ap.take i).flatMap jx).length+w.queue.length+w.ck.length<=8388608:=by
   rw[h1,eK,jx,eK]at U;omega
  refine pH (yq _ _ _ _ _ _ _ _) (als ⟨cg hi,bG,bJ hi,bF aP.e hw,by simp only[bp];omega,by simp only[bp];omega,cn _ aA.flat _,bG,bJ hi,bF aP.e hw,by simp only[bp,eK];omega,by simp only[bp,eK];omega,cn _ aA.flat _,cY hi (aU.xe ad),aj⟩) ?_;rw[h1,jx];simp only[e3,mo]) (alu ⟨dH,aj⟩)
 have gT:=ef (P:=prog) (c:=(az f38 1)) (cL 2) c.bQ.length (fun i:Nat=>yr (c.aF.nodes.map Node.e) c.aF.ap c.aF.cap (c.ap.map aP.e) (c.bQ.map bC.e) (c.tokens.map b'.e) (c.news.map cA.e) i ((c.ap.flatMap jx++(c.bQ.take i).flatMap bC.queue).map aA.e)) (fun i hi=>by
  obtain⟨l,iB⟩:=dv hi;have h1:=x5 bC.queue iB;have U:=x4 bC.queue c.bQ (i+1);have aH:(c.ap.flatMap jx).length+((c.bQ.take i).flatMap bC.queue).length+l.queue.length<=8388608:=by
   rw[h1,eK]at U;omega
  refine pH (yr _ _ _ _ _ _ _ _) (alv ⟨cg hi,bG,bJ hi,bF bC.e iB,by simp only[bp,eK];omega,by simp only[bp,eK];omega,cn _ aA.flat _,cY hi (aU.xY ad),aj⟩) ?_;rw[h1];simp only[e3,mo]) (alw ⟨dH,aj⟩)
 rw[hP]at ej gT;simp only[List.take_zero,xi,ix]at ej gT;exact alx ⟨ej,gT,apa (yC c) (by have:=Ed ad;omega),aj⟩
theorem Ef(c:aU)(ad:c.sz<=8388608):aK 103 [.agg c.e] [.one (.J 5 ((lB c).map aA.e))]:=by
 have Yu:=aU.LW ad;have ej:=ef (P:=prog) (c:=(az f103 0)) (cL 0) c.ap.length (fun i:Nat=>yt (c.ap.map aP.e) i (((c.ap.take i).flatMap jx).map aA.e) (c.aF.nodes.map Node.e) c.aF.ap c.aF.cap (c.ap.map aP.e) (c.bQ.map bC.e) (c.tokens.map b'.e) (c.news.map cA.e)) (fun i hi=>by
  obtain⟨w,hw⟩:=dv hi;have h1:=x5 jx hw;have U:=x4 jx c.ap (i+1);have aH:((c.ap.take i).flatMap jx).length+w.queue.length+w.ck.length<=8388608:=by
   rw[h1,eK,jx,eK]at U;omega
  refine pH (fun l=>yt _ _ l _ _ _ _ _ _ _) (aly ⟨cg hi,bG,bJ hi,bF aP.e hw,by simp only[bp];omega,by simp only[bp];omega,cn _ aA.flat _,by simp only[bp,eK];omega,by simp only[bp,eK];omega,cn _ aA.flat _,cY hi (aU.xe ad),aj⟩) ?_;rw[h1,jx];simp only[e3,mo]) (alz ⟨dH,aj⟩)
 have gT:=ef (P:=prog) (c:=(az f103 1)) (cL 2) c.bQ.length (fun i:Nat=>yu (c.bQ.map bC.e) i ((c.ap.flatMap jx++(c.bQ.take i).flatMap bC.queue).map aA.e)) (fun i hi=>by
  obtain⟨l,iB⟩:=dv hi;have h1:=x5 bC.queue iB;have U:=x4 bC.queue c.bQ (i+1);have aH:(c.ap.flatMap jx).length+((c.bQ.take i).flatMap bC.queue).length+l.queue.length<=8388608:=by
   rw[h1,eK]at U;omega
  refine pH (yu _ _) (alA ⟨cg hi,bG,bJ hi,bF bC.e iB,by simp only[bp,eK];omega,by simp only[bp,eK];omega,cn _ aA.flat _,cY hi (aU.xY ad),aj⟩) ?_;rw[h1];simp only[e3,mo]) (alB ⟨dH,aj⟩)
 rw[hP]at ej gT;simp only[List.take_zero,xi,ix]at ej gT;exact alC ⟨ej,gT,apc (yC c) (by have:=Ed ad;omega),aj⟩
theorem apf(c:aU)(e:Int)(ad:c.sz<=8388608):aK 115 [.agg c.e,.one (I e)] [.one (.J 5 ((Kx c e).map aA.e))]:=
 alL ⟨Ef c ad,ao4 (lB c) e (Ee ad),aj⟩
end Go.Proofs.YtdchjefneblpgaaGreat
namespace Go.Proofs.YtdchjefneblpgaaGreat
open Go.Sx Go.RowKit Go.Proofs.Tryz
def eD(w:aP)(e:Int):Bool:=w.cu.any fun d=>d.a8==e
theorem aP.Wu{w:aP}(h:w.sz<=8388608):w.cu.length<=8388608:=by simp only[aP.sz]at h;omega
theorem aU.Vg{c:aU}(h:c.sz<=8388608){w:aP}(af:w∈c.ap):w.sz<=8388608:=by
 have:=yn (sz:=aP.sz) af;simp only[aU.sz,fp]at h;omega
theorem apg(w:aP)(e:Int)(hw:w.sz<=8388608):aK 213 [.agg w.e,.one (I e)] [.one (B (eD w e))]:=by
 have af:=aP.Wu hw;have l:=jb (P:=prog) (c:=(az f213 0)) w.cu (fun d=>d.a8==e) (fun i=>wx (w.queue.map aA.e) (w.ck.map aA.e) (w.bT.map aA.e) (w.cells.map Cell.e) (w.bK.map cv) (w.bL.map c6) (w.bA.map c6) (w.cu.map dA.e) e i) (X:=fun _ _=>Jp true) hd (cL 0)
  (fun i a ag h=>alN ⟨cg (bh ag),bG,bJ (bh ag),bF dA.e ag,h,cY (bh ag) af,aj⟩)
  (fun i a ag h=>alM ⟨cg (bh ag),bG,bJ (bh ag),bF dA.e ag,h,aj⟩)
  (alO ⟨dH,aj⟩)
 unfold eD;rcases l with⟨_,_,h1,U⟩ | ⟨i,a,_,_,_,_,h1,U⟩
 ·rw[h1];exact ale ⟨U,aj⟩
 rw[h1];exact ald ⟨U,aj⟩
def m'(c:aU)(e:Int):Bool:=c.ap.any fun w=>eD w e
def mi(c:aU)(e:Int):Bool:=c.news.any fun x=>x.a8==e
theorem KB(w:aP)(e:Int)(r:Bool)(h:eD w e=r)(hw:w.sz<=8388608):aK 213 [.agg w.e,.one (I e)] [.one (B r)]:=h▸apg w e hw
theorem Oj{α:Type}{f:α->List D}(xs:List α)(b:Bool)(h:decide (xs.length=0)=b):((↑(xs.map f).length:Int)==0)=b:=by
 subst h;by_cases h:xs.length=0
 ·simp[h]
 rw[show decide (xs.length=0)=false from eX h];simp only[bp,uZ,ho];omega
end Go.Proofs.YtdchjefneblpgaaGreat
namespace Go.Proofs.YtdchjefneblpgaaGreat
open Go.Sx Go.RowKit Go.Sort Go.Proofs.Tryz
section
variable {α : Type}
def ij(lt:α->α->Bool)(S:List α)(x:α):Nat:=(S.findIdx? fun a=>!lt a x).getD S.length
theorem Wi{lt:α->α->Bool}(hO:SWO lt){a b:α}(h:lt a b=true):lt b a=false:=by
 cases U:lt b a with
 | false=>rfl
 | true=>have:=hO.trans _ _ _ h U;rw[hO.irrefl]at this;cases this
theorem Q9(lt:α->α->Bool)(S:List α)(x:α):ij lt S x<=S.length:=by
 unfold ij;cases h:S.findIdx? (fun a=>!lt a x) with
 | none=>simp
 | some i=>
  rw[qK]at h;have:=h.1;simp;omega
theorem Q'(lt:α->α->Bool)(S:List α)(x:α)(j:Nat)(y:α)(aM:j<ij lt S x)(a1:S[j]?=some y):lt y x=true:=by
 unfold ij at aM;cases h:S.findIdx? (fun a=>!lt a x) with
 | none=>
  rw[Cj]at h;simpa using h y (e4 a1)
 | some i=>
  rw[qK]at h;obtain⟨hi,_,au⟩:=h;rw[show S.findIdx? (fun a=>!lt a x)=some i from by rw[qK];exact⟨hi,by assumption,au⟩]at aM;have:=au j (by simpa using aM);have h4:=(dK.1 a1).1;rw[fC h4]at a1;cases a1;simpa using this
theorem Ra(lt:α->α->Bool)(S:List α)(x y:α)(a1:S[ij lt S x]?=some y):lt y x=false:=by
 unfold ij at a1;cases h:S.findIdx? (fun a=>!lt a x) with
 | none=>rw[h]at a1;simp at a1
 | some i=>
  rw[h]at a1;rw[qK]at h;obtain⟨hi,U,_⟩:=h;simp only[hl]at a1;rw[fC hi]at a1;cases a1;simpa using U
theorem Rb{lt:α->α->Bool}{S:List α}(fF:qR lt S){i j:Nat}{a b:α}(ag:S[i]?=some a)(ah:S[j]?=some b)(lV:i<j):lt b a=false:=by
 have hi:=(dK.1 ag).1;have aM:=(dK.1 ah).1;have:=List.pairwise_iff_getElem.1 fF i j hi aM lV;rw[fC hi]at ag;rw[fC aM]at ah;cases ag;cases ah;simpa using this
theorem aph{lt:α->α->Bool}(hO:SWO lt)(fs:∀x y,lt x y=false->lt y x=false->x=y){S:List α}(fF:qR lt S){x:α}(aa:x∈S):S[ij lt S x]?=some x:=by
 obtain⟨j,aM⟩:=ng.1 aa;have h4:=(dK.1 aM).1;have h1:ij lt S x<=j:=by
  rcases lN j (ij lt S x) with h | h
  ·have:=Q' lt S x j x h aM;rw[hO.irrefl]at this;cases this
  exact h
 obtain⟨y,a1⟩:∃y,S[ij lt S x]?=some y:=⟨S[ij lt S x]'(by omega),by simp[show ij lt S x<S.length by omega]⟩
 have U:=Ra lt S x y a1;rcases lN (ij lt S x) j with h | h
 ·have au:=Rb fF a1 aM h;rw[fs y x U au]at a1;exact a1
 rw[show ij lt S x=j by omega];exact aM
theorem aos{lt:α->α->Bool}(hO:SWO lt)(fs:∀x y,lt x y=false->lt y x=false->x=y){S:List α}(fF:qR lt S){x:α}(aa:¬x∈S):iK lt x S S.length=ij lt S x:=by
 have bm:=D' lt x S S.length;have h1:=Q9 lt S x;have up:∀j y,ij lt S x<=j->S[j]?=some y->lt x y=true:=by
  intro j y aM a1;have h4:=(dK.1 a1).1;obtain⟨z,aR⟩:∃z,S[ij lt S x]?=some z:=⟨S[ij lt S x]'(by omega),by simp[show ij lt S x<S.length by omega]⟩
  have U:=Ra lt S x z aR;have au:lt x z=true:=by
   cases h:lt x z with
   | true=>rfl
   | false=>exact absurd (by rw[fs x z h U];exact e4 aR) aa
  rcases lN (ij lt S x) j with h | h
  ·cases aH:lt x y with
   | true=>rfl
   | false=>
    have:=hO.ntrans _ _ _ aH (Rb fF aR a1 h);rw[au]at this;cases this
  have:ij lt S x=j:=by omega
  rw[this,a1]at aR;cases aR;exact au
 rcases Nat.lt_trichotomy (iK lt x S S.length) (ij lt S x) with h | h | h
 ·obtain⟨y,a1⟩:∃y,S[iK lt x S S.length]?=some y:=⟨S[iK lt x S S.length]'(by omega),by simp[show iK lt x S S.length<S.length by omega]⟩
  have U:=I5 lt x S S.length _ y (dm _) (by omega) a1;have au:=Q' lt S x _ y h a1;rw[Wi hO au]at U;cases U
 ·exact h
 obtain⟨y,a1⟩:∃y,S[iK lt x S S.length-1]?=some y:=⟨S[iK lt x S S.length-1]'(by omega),by simp[show iK lt x S S.length-1<S.length by omega]⟩
 have U:=Ku lt x S S.length y (by omega) a1;have au:=up _ y (by omega) a1;rw[U]at au;cases au
theorem aot{lt:α->α->Bool}(hO:SWO lt)(xs:List α):qR lt (gx lt xs):=(Ea hO xs [] List.Pairwise.nil).1
theorem QD{lt:α->α->Bool}(hO:SWO lt)(xs:List α)(a:α):a∈gx lt xs<->a∈xs:=by
 have:=(Ea hO xs [] List.Pairwise.nil).2.mem_iff (a:=a);simpa[gx]using this
theorem aou(lt:α->α->Bool)(xs:List α)(a:α):gx lt (xs++[a])=nG lt (gx lt xs) a:=by simp[gx,List.foldl_append]
end
end Go.Proofs.YtdchjefneblpgaaGreat
namespace Go.Proofs.YtdchjefneblpgaaGreat
open Go.Sx Go.RowKit Go.Sort Go.Proofs.Tryz
def mN(a b:bD):Bool:=if a.a8<=b.a8 then decide (a.cD<=b.cD) else false
theorem QE(a b:bD):aK 241 [.agg a.e,.agg b.e] [.one (B (mN a b))]:=by
 unfold mN;by_cases h:a.a8<=b.a8
 ·rw[a6 h];exact amT ⟨dU h,aj⟩
 rw[aX h];exact amU ⟨eX h,aj⟩
theorem aov(a b:bD):aK 310 [.agg a.e,.agg b.e] [.one (B (mN a b))]:=by
 unfold mN;by_cases h:a.a8<=b.a8
 ·rw[a6 h];exact amV ⟨dU h,aj⟩
 rw[aX h];exact amW ⟨eX h,aj⟩
theorem vX(a x:bD):(a.a8==x.a8&&a.cD==x.cD)=decide (a=x):=by
 cases a;cases x;simp only[bD.mk.injEq];rw[Bool.eq_iff_iff];simp
theorem QF(a x:bD):(x.a8==a.a8&&x.cD==a.cD)=decide (a=x):=by
 rw[vX x a];exact decide_eq_decide.2 ⟨Eq.symm,Eq.symm⟩
def under(x y:bD):Bool:=!decide (y=x)&&mN y x
def least(xs:List bD)(x:bD):Bool:=!(xs.any (under x))
def tI(xs:List bD)(x:bD):Bool:=xs.any fun a=>decide (a=x)
def qx(xs out:List bD)(x:bD):List bD:=if least xs x&&!tI out x then out++[x] else out
def hI(xs:List bD)(i:Nat):List bD:=jw (qx xs) [] xs i
def ue(xs:List bD):List bD:=gx (ltOf jc) (hI xs xs.length)
theorem QG(xs:List bD)(x:bD):tI xs x=true<->x∈xs:=by
 simp only[tI,lg,ci];constructor
 ·rintro⟨a,ag,rfl⟩;exact ag
 exact fun h=>⟨x,h,rfl⟩
theorem A5(xs:List bD):∀i,i<=xs.length->(hI xs i).length<=i
 | 0,_=>by simp[hI,jw]
 | i+1,h=>by
  obtain⟨a,ag⟩:=dv (xs:=xs) (i:=i) (by omega);have:=A5 xs i (by omega);have e:hI xs (i+1)=qx xs (hI xs i) a:=sS ag;rw[e];unfold qx;split
  ·rw[eK];simp;omega
  omega
theorem QH(xs:List bD):(gx (ltOf jc) xs).length=xs.length:=by simp[gx,Eb]
theorem aow{xs:List bD}:(ue xs).length<=xs.length:=by
 rw[ue,QH];exact A5 xs _ (dm _)
theorem aox(a x:bD):aK 309 [.agg a.e,.one (.ptr x.e)] [.one (B (under x a))]:=by
 unfold under;by_cases h:a=x
 ·rw[show decide (a=x)=true from dU h];exact amq ⟨by rw[vX,dU h];rfl,aj⟩
 rw[show decide (a=x)=false from eX h,nZ,lM];exact amp ⟨by rw[vX,eX h];rfl,aov a x,aj⟩
theorem aoy(xs:List bD)(x:bD)(af:xs.length<=8388608):aK 340 [.one (.J 2 (xs.map bD.e)),.agg x.e] [.one (I (vN (fun a=>decide (a=x)) xs))]:=by
 have l:=jb (P:=prog) (c:=(az f340 0)) xs (fun a=>decide (a=x)) (fun i=>wz (xs.map bD.e) x.a8 x.cD i) (X:=fun i _=>Jr i) hd (cL 0)
  (fun i a ag h=>aln ⟨cg (bh ag),bG,bJ (bh ag),bF bD.e ag,(QF a x).trans h,cY (bh ag) af,aj⟩)
  (fun i a ag h=>alm ⟨cg (bh ag),bG,bJ (bh ag),bF bD.e ag,(QF a x).trans h,aj⟩)
  (amP ⟨dH,aj⟩)
 unfold vN;rcases l with⟨_,h1,_,U⟩ | ⟨i,a,_,_,_,h1,_,U⟩
 ·simp only[h1];exact amR ⟨U,aj⟩
 simp only[h1];exact amQ ⟨U,aj⟩
theorem QI{xs:List bD}(x:bD)(r:Bool)(h:tI xs x=r)(af:xs.length<=8388608):aK 311 [.one (.J 2 (xs.map bD.e)),.agg x.e] [.one (B r)]:=by
 rw[<-h,tI,<-QY];exact amS ⟨aoy xs x af,aj⟩
theorem KC(xs:List bD)(x:bD)(r:Bool)(h:xs.any (under x)=r)(af:xs.length<=8388608):aK 308 [.one (.J 2 (xs.map bD.e)),.one (.cl 309 [D.ptr x.e])] [.one (B r)]:=
 h▸ao3 xs (under x) 309 [D.ptr x.e] af (by kernel_rfl) (fun a _=>aox a x)
theorem aoz(xs:List bD)(af:xs.length<=8388608):aK 239 [.one (.J 2 (xs.map bD.e))] [.one (.J 2 ((ue xs).map bD.e))]:=by
 have l:=ef (P:=prog) (c:=(az f239 0)) (cL 0) xs.length (fun i:Nat=>sV (xs.map bD.e) i ((hI xs i).map bD.e)) (fun i hi=>by
  obtain⟨a,ag⟩:=dv hi;have hm:=A5 xs i (by omega);have e:hI xs (i+1)=qx xs (hI xs i) a:=sS ag;rw[e];unfold qx least;cases h1:xs.any (under a) with
  | true=>
   simp only[ks,Bool.false_and,mm,j4];exact anc ⟨cg hi,bG,bJ hi,bF bD.e ag,KC xs a true h1 af,rfl,cY hi af,aj⟩
  | false=>
   cases U:tI (hI xs i) a with
   | true=>
    simp only[nZ,ks,lM,mm,j4];exact anb ⟨cg hi,bG,bJ hi,bF bD.e ag,KC xs a false h1 af,rfl,QI a true U (by omega),rfl,cY hi af,aj⟩
   | false=>
    simp only[nZ,lM,fO,e3];exact ana ⟨cg hi,bG,bJ hi,bF bD.e ag,KC xs a false h1 af,rfl,QI a false U (by omega),rfl,by simp;omega,by simp;omega,dk a.flat,cY hi af,aj⟩) (ane ⟨dH,aj⟩)
 have hm:=A5 xs xs.length (dm _);have s:=ao7 (hI xs xs.length) jc vW Ec 313 (Q5 (by kernel_rfl)) Q6 (by omega);rw[ue,QX vW Ec];exact anf ⟨l,s,aj⟩
theorem aoA{α:Type}(p:α->Bool){xs:List α}{i:Nat}{a:α}(h:xs[i]?=some a):(xs.take (i+1)).all p=((xs.take i).all p&&p a):=by
 simp[lK,h,List.all_append]
theorem aoB(xs:List bD)(af:xs.length<=8388608):aK 240 [.one (.J 2 (xs.map bD.e))] [.one (.J 2 ((ue xs).map bD.e))]:=by
 have inner:∀(i:Nat) (x:bD) (S:List bD),xs[i]?=some x->dd prog (az f240 1) (ru (xs.map bD.e) i (S.map bD.e) 0 true) (.exit 2) (H4 (xs.map bD.e) i (S.map bD.e) (least xs x)):=by
  intro i x S aa
  let p:=fun y:bD=>!under x y
  have l:=ef (P:=prog) (c:=(az f240 1)) (cL 2) xs.length (fun j:Nat=>ru (xs.map bD.e) i (S.map bD.e) j ((xs.take j).all p)) (fun j aM=>by
   obtain⟨y,a1⟩:=dv aM;rw[aoA p a1];cases ah:(xs.take j).all p with
   | false=>
    rw[Bool.false_and];exact amZ ⟨cg aM,rfl,cY aM af,aj⟩
   | true=>
    rw[lM];by_cases he:y=x
    ·have hp:p y=true:=by simp[p,under,he]
     rw[hp];exact amX ⟨cg aM,rfl,bG,bJ aM,bF bD.e a1,bG,bJ (bh aa),bF bD.e aa,by rw[vX,dU he],cY aM af,aj⟩
    have hp:p y=!mN y x:=by simp[p,under,he]
    rw[hp];exact amY ⟨cg aM,rfl,bG,bJ aM,bF bD.e a1,bG,bJ (bh aa),bF bD.e aa,by rw[vX,eX he],bG,bJ aM,bF bD.e a1,bG,bJ (bh aa),bF bD.e aa,QE y x,cY aM af,aj⟩) (am0 ⟨dH,aj⟩)
  rw[hP]at l;have e:xs.all p=least xs x:=by unfold least;rw[List.not_any_eq_all_not]
  rw[e]at l;exact l
 have place:∀(i:Nat) (x:bD) (S:List bD),xs[i]?=some x->S.length<=8388608->dd prog (az f240 2) (vU (xs.map bD.e) i (S.map bD.e) 0) (.exit 4) (Av (xs.map bD.e) i (S.map bD.e) (ij (ltOf jc) S x:Nat)):=by
  intro i x S aa fF;have l:=jb (P:=prog) (c:=(az f240 2)) S (fun a=>!ltOf jc a x) (fun j=>vU (xs.map bD.e) i (S.map bD.e) j) (X:=fun j _=>Av (xs.map bD.e) i (S.map bD.e) j) (cL 4) (cL 4)
   (fun j a ag h=>am2 ⟨cg (bh ag),bG,bJ (bh ag),bF bD.e ag,bG,bJ (bh aa),bF bD.e aa,Kw a x,by simpa[ltOf]using h,cY (bh ag) fF,aj⟩)
   (fun j a ag h=>am3 ⟨cg (bh ag),bG,bJ (bh ag),bF bD.e ag,bG,bJ (bh aa),bF bD.e aa,Kw a x,by simpa[ltOf]using h,aj⟩)
   (am4 ⟨dH,aj⟩)
  unfold ij;rcases l with⟨_,h1,_,U⟩ | ⟨j,a,_,_,_,h1,_,U⟩
  ·rw[h1];exact U
  rw[h1];exact U
 have l:=ef (P:=prog) (c:=(az f240 0)) (cL 0) xs.length (fun i:Nat=>oM (xs.map bD.e) i ((gx (ltOf jc) (hI xs i)).map bD.e)) (fun i hi=>by
  obtain⟨a,ag⟩:=dv hi;have hm:=A5 xs i (by omega);have e:hI xs (i+1)=qx xs (hI xs i) a:=sS ag;rw[e];have oi:=inner i a (gx (ltOf jc) (hI xs i)) ag;have hlen:=QH (hI xs i);unfold qx;cases h1:least xs a with
  | false=>
   rw[h1]at oi;simp only[Bool.false_and,mm,j4];exact am1 ⟨cg hi,oi,rfl,cY hi af,aj⟩
  | true=>
   rw[h1]at oi;have sA:=place i a (gx (ltOf jc) (hI xs i)) ag (by omega);have mF:=QG (hI xs i) a;rw[<-QD vW]at mF;have zV:=aou (ltOf jc) (hI xs i) a;have NW:=aot vW (hI xs i);cases U:tI (hI xs i) a with
   | true=>
    have ny:=aph vW Ec NW (mF.1 U);simp only[lM,ks,mm,j4];generalize gx (ltOf jc) (hI xs i)=S at*;generalize ij (ltOf jc) S a=p at*;exact am5 ⟨cg hi,oi,rfl,sA,cg (bh ny),bG,bJ (bh ny),bF bD.e ny,bG,bJ hi,bF bD.e ag,by rw[vX];exact dU rfl,cY hi af,aj⟩
   | false=>
    have gi:¬a∈gx (ltOf jc) (hI xs i):=by rw[<-mF,U];simp
    have Yp:=aos vW Ec NW gi;have NQ:=Q9 (ltOf jc) (gx (ltOf jc) (hI xs i)) a;simp only[lM,nZ,fO];rw[zV,nG,Yp];generalize gx (ltOf jc) (hI xs i)=S at*;generalize ij (ltOf jc) S a=p at*;have fin:∀q:List (List D),q=(S.take p++a::S.drop p).map bD.e->q=(S.take p++a::S.drop p).map bD.e:=fun _ h=>h
    rcases lN p S.length with hp | hp
    ·obtain⟨z,aR⟩:=dv hp;have Y0:¬z=a:=fun h=>gi (h▸c8 aR)
     refine pH (oM _ _) (am6 ⟨cg hi,oi,rfl,sA,cg hp,bG,bJ hp,bF bD.e aR,bG,bJ hi,bF bD.e ag,by rw[vX];exact eX Y0,by simp,by simp,by simp;omega,by simp;omega,by simp;omega,?_,bG,bJ hi,bF bD.e ag,by simp;omega,by simp;omega,dk a.flat,by simp,by simp;omega,by simp,by simp;omega,by simp;omega,?_,cY hi af,aj⟩) ?_
     ·simp only[hl,jh,Nat.sub_zero,oX,<-lO];exact cn _ bD.flat _
     ·simp only[hl,jh,<-lO,<-List.map_drop];exact cn _ bD.flat _
     simp only[hl,jh,Nat.sub_zero,oX,List.nil_append,<-lO,<-List.map_drop,e3,iT,mo]
     congr 1
     rw[tp (by simp)];rfl
    refine pH (oM _ _) (am7 ⟨cg hi,oi,rfl,sA,eX (by simp;omega),by simp,by simp,by simp;omega,by simp;omega,by simp;omega,?_,bG,bJ hi,bF bD.e ag,by simp;omega,by simp;omega,dk a.flat,by simp,by simp;omega,by simp,by simp;omega,by simp;omega,?_,cY hi af,aj⟩) ?_
    ·simp only[hl,jh,Nat.sub_zero,oX,<-lO];exact cn _ bD.flat _
    ·simp only[hl,jh,<-lO,<-List.map_drop];exact cn _ bD.flat _
    simp only[hl,jh,Nat.sub_zero,oX,List.nil_append,<-lO,<-List.map_drop,e3,iT,mo]
    congr 1
    rw[tp (by simp)];rfl) (am8 ⟨dH,aj⟩)
 exact am9 ⟨l,aj⟩
def oN(c:aU):List aA:=lB c++c.ap.flatMap aP.bT
def pv(c:aU):List bD:=ue ((oN c).map aA.bc)
theorem KD{c:aU}(h:c.sz<=8388608):(oN c).length<=8388608:=by
 have:=Ed h;rw[oN,eK,Kz];omega
theorem QJ{c:aU}(h:c.sz<=8388608):(pv c).length<=8388608:=by
 have:=KD h;have U:=aow (xs:=(oN c).map aA.bc);rw[bp]at U;exact ni U this
theorem aoC(c:aU)(ad:c.sz<=8388608):aK 110 [.agg c.e] [.one (.J 2 ((pv c).map bD.e))]:=by
 have ar:=KD ad;have ej:=ef (P:=prog) (c:=(az f110 0)) (cL 0) c.ap.length (fun i:Nat=>yv (c.aF.nodes.map Node.e) c.aF.ap c.aF.cap (c.ap.map aP.e) (c.bQ.map bC.e) (c.tokens.map b'.e) (c.news.map cA.e) i ((lB c++(c.ap.take i).flatMap aP.bT).map aA.e)) (fun i hi=>by
  obtain⟨w,hw⟩:=dv hi;have h1:=x5 aP.bT hw;have U:=x4 aP.bT c.ap (i+1);have aH:(lB c).length+((c.ap.take i).flatMap aP.bT).length+w.bT.length<=8388608:=by
   rw[h1,eK]at U;rw[oN,eK]at ar;omega
  refine pH (yv _ _ _ _ _ _ _ _) (amr ⟨cg hi,bG,bJ hi,bF aP.e hw,by simp only[bp,eK];omega,by simp only[bp,eK];omega,cn _ aA.flat _,cY hi (aU.xe ad),aj⟩) ?_;rw[h1];simp only[e3,mo]) (ams ⟨dH,aj⟩)
 rw[hP]at ej;simp only[List.take_zero,xi,ix]at ej;change dd _ _ _ _ (Js ((oN c).map aA.e)) at ej;have p:=KA c ad;have m:=aoB ((oN c).map aA.bc) (by rw[bp];exact ar);unfold pv;generalize oN c=xs at*;have gT:=ef (P:=prog) (c:=(az f110 1)) (cL 2) xs.length (fun i:Nat=>AX (xs.map aA.e) i (((xs.take i).map aA.bc).map bD.e)) (fun i hi=>by
  obtain⟨a,ag⟩:=dv hi;have e:(xs.take (i+1)).map aA.bc=(xs.take i).map aA.bc++[a.bc]:=by simp[lK,ag]
  rw[e,e3];exact amt ⟨cg hi,bG,bJ hi,bF aA.e ag,by simp;omega,by simp;omega,dk a.bc.flat,cY hi ar,aj⟩) (amu ⟨dH,aj⟩)
 rw[hP]at gT;exact amv ⟨p,ej,gT,m,aj⟩
theorem aoD(c:aU)(ad:c.sz<=8388608):aK 108 [.agg c.e] [.one (.J 2 ((pv c).map bD.e))]:=by
 have ar:=KD ad;have ej:=ef (P:=prog) (c:=(az f108 0)) (cL 0) c.ap.length (fun i:Nat=>yw (c.ap.map aP.e) i ((lB c++(c.ap.take i).flatMap aP.bT).map aA.e)) (fun i hi=>by
  obtain⟨w,hw⟩:=dv hi;have h1:=x5 aP.bT hw;have U:=x4 aP.bT c.ap (i+1);have aH:(lB c).length+((c.ap.take i).flatMap aP.bT).length+w.bT.length<=8388608:=by
   rw[h1,eK]at U;rw[oN,eK]at ar;omega
  refine pH (yw _ _) (amw ⟨cg hi,bG,bJ hi,bF aP.e hw,by simp only[bp,eK];omega,by simp only[bp,eK];omega,cn _ aA.flat _,cY hi (aU.xe ad),aj⟩) ?_;rw[h1];simp only[e3,mo]) (amx ⟨dH,aj⟩)
 rw[hP]at ej;simp only[List.take_zero,xi,ix]at ej;change dd _ _ _ _ (Jt ((oN c).map aA.e)) at ej;have p:=Ef c ad;have m:=aoz ((oN c).map aA.bc) (by rw[bp];exact ar);unfold pv;generalize oN c=xs at*;have gT:=ef (P:=prog) (c:=(az f108 1)) (cL 2) xs.length (fun i:Nat=>AY (xs.map aA.e) i (((xs.take i).map aA.bc).map bD.e)) (fun i hi=>by
  obtain⟨a,ag⟩:=dv hi;have e:(xs.take (i+1)).map aA.bc=(xs.take i).map aA.bc++[a.bc]:=by simp[lK,ag]
  rw[e,e3];exact amy ⟨cg hi,bG,bJ hi,bF aA.e ag,by simp;omega,by simp;omega,dk a.bc.flat,cY hi ar,aj⟩) (amz ⟨dH,aj⟩)
 rw[hP]at gT;exact amA ⟨p,ej,gT,m,aj⟩
end Go.Proofs.YtdchjefneblpgaaGreat
namespace Go.Proofs.YtdchjefneblpgaaGreat
open Go.Sx Go.RowKit Go.Sort Go.Proofs.Tryz
theorem QK{α:Type}(f:α->Int):∀(l:List α),l≠[]->∃m∈l,∀y∈l,f m<=f y
 | [],h=>absurd rfl h
 | [a],_=>⟨a,List.mem_singleton.2 rfl,fun y a1=>by rw[List.mem_singleton.1 a1];omega⟩
 | a::b::l,_=>by
  obtain⟨m,hm,h⟩:=QK f (b::l) (by simp);by_cases ad:f a<=f m
  ·refine⟨a,eF ..,fun y a1=>?_⟩;rcases dG.1 a1 with rfl | a1
   ·omega
   have:=h y a1;omega
  refine⟨m,fc _ hm,fun y a1=>?_⟩;rcases dG.1 a1 with rfl | a1
  ·omega
  exact h y a1
theorem Eg{a b:bD}:mN a b=true<->a.a8<=b.a8/\a.cD<=b.cD:=by
 unfold mN;split<;>simp[*]
theorem aoE{xs:List bD}{x:bD}(aa:x∈xs):∃m∈xs,mN m x=true/\least xs m=true:=by
 obtain⟨m,hm,h⟩:=QK (fun s:bD=>s.a8+s.cD) (xs.filter fun y=>mN y x) (fun e=>by
  have:x∈xs.filter fun y=>mN y x:=List.mem_filter.2 ⟨aa,Eg.2 ⟨Int.le_refl _,Int.le_refl _⟩⟩
  rw[e]at this;cases this)
 obtain⟨o8,NE⟩:=List.mem_filter.1 hm;refine⟨m,o8,NE,?_⟩;unfold least;rw[fr,eW];intro y a1 hu;unfold under at hu;rw[ca,fr,jO,Eg]at hu;obtain⟨b5,h1,U⟩:=hu;have au:=Eg.1 NE;have:=h y (List.mem_filter.2 ⟨a1,Eg.2 ⟨by omega,by omega⟩⟩);apply b5;obtain⟨asD,asE⟩:=y;obtain⟨ar9,mt⟩:=m;simp only[bD.mk.injEq] at*;omega
theorem QL(xs:List bD){x:bD}(af:least xs x=true):∀i,i<=xs.length->x∈xs.take i->x∈hI xs i
 | 0,_,h=>by simp at h
 | i+1,hi,h=>by
  obtain⟨a,ag⟩:=dv (xs:=xs) (i:=i) (by omega);have e:hI xs (i+1)=qx xs (hI xs i) a:=sS ag;rw[e];have hk:∀out:List bD,x∈out->x∈qx xs out a:=by
   intro out aN;unfold qx;split
   ·exact gm _ aN
   exact aN
  rw[lK,ag,xj,gY,List.mem_singleton]at h;rcases h with h | rfl
  ·exact hk _ (QL xs af i (by omega) h)
  by_cases hm:x∈hI xs i
  ·exact hk _ hm
  have bl:tI (hI xs i) x=false:=by
   rw[<-tq,QG];exact hm
  unfold qx;rw[af,bl];simp
theorem aoF{xs:List bD}{x:bD}(aa:x∈xs):∃m∈ue xs,mN m x=true:=by
 obtain⟨m,h1,U,au⟩:=aoE aa;refine⟨m,?_,U⟩;unfold ue;rw[QD vW];exact QL xs au _ (dm _) (by rwa[hP])
def ahead(xs:List bD)(s:bD):Bool:=xs.any fun a=>mN a s
theorem aoG(c:aU){r:aA}(h:r∈lB c):ahead (pv c) r.bc=true:=by
 obtain⟨m,h1,U⟩:=aoF (xs:=(oN c).map aA.bc) (x:=r.bc) (h'.2 ⟨r,gm _ h,rfl⟩);exact lg.2 ⟨m,h1,U⟩
