import Derived.Test.YthfnndblgbjniaaGreatC0
import Derived.Test.YthfnndblgbjniaaGreatS1
set_option linter.unusedVariables false
set_option linter.unusedSimpArgs false
namespace Go.Proofs.YthfnndblgbjniaaGreat
open Go.Sx Go.RowKit Go.Proofs.Tryz
def hF(e:Int)(xs:List az):List az:=xs.filter fun r=>r.bl.ba==e
theorem C1(xs:List az)(e:Int)(al:xs.length<=8388608):ar 81 [.one (.J 5 (xs.map az.e)),.one (I e)] [.one (.J 5 ((hF e xs).map az.e))]:=by
 let p:=fun r:az=>r.bl.ba==e
 have l:=er (P:=prog) (c:=(ap f81 0)) (cn 0) xs.length (fun i:Nat=>yq (xs.map az.e) e i (((xs.take i).filter p).map az.e)) (fun i hi=>by
  obtain⟨a,ah⟩:=c5 hi;have bI:=G0 p xs i;have ao:=AN p ah;by_cases hp:p a=true
  ·rw[bq hp]at ao;rw[ao,gi];exact aDB ⟨bV hi,bx,bH hi,bA az.e ah,hp,bx,bH hi,bA az.e ah,by simp;omega,by simp;omega,gb a.flat,c0 hi al,aa⟩
  rw[bD hp,iO]at ao;rw[ao];exact aDC ⟨bV hi,bx,bH hi,bA az.e ah,wW.2 hp,c0 hi al,aa⟩) (aDD ⟨dq,aa⟩)
 rw[jh]at l;exact aDE ⟨l,aa⟩
theorem C2(xs:List az)(e:Int)(al:xs.length<=8388608):ar 79 [.one (.J 5 (xs.map az.e)),.one (I e)] [.one (.J 5 ((hF e xs).map az.e))]:=by
 let p:=fun r:az=>r.bl.ba==e
 have l:=er (P:=prog) (c:=(ap f79 0)) (cn 0) xs.length (fun i:Nat=>yr (xs.map az.e) e i (((xs.take i).filter p).map az.e)) (fun i hi=>by
  obtain⟨a,ah⟩:=c5 hi;have bI:=G0 p xs i;have ao:=AN p ah;by_cases hp:p a=true
  ·rw[bq hp]at ao;rw[ao,gi];exact aDF ⟨bV hi,bx,bH hi,bA az.e ah,hp,by simp;omega,by simp;omega,gb a.flat,c0 hi al,aa⟩
  rw[bD hp,iO]at ao;rw[ao];exact aDG ⟨bV hi,bx,bH hi,bA az.e ah,wW.2 hp,c0 hi al,aa⟩) (aDH ⟨dq,aa⟩)
 rw[jh]at l;exact aDI ⟨l,aa⟩
end Go.Proofs.YthfnndblgbjniaaGreat
namespace Go.Proofs.YthfnndblgbjniaaGreat
open Go.Sx Go.RowKit Go.Shelf Go.Lib Go.Sort Go.Proofs.Tryz
variable{w:World}
theorem ams{aN:World}(h:g' w.heap.size w aN):∃q os,aN=grow (w.drewN q) os:=by
 refine⟨aN.drawn-w.drawn,aN.heap.extract w.heap.size aN.heap.size,?_⟩;have h1:=h.below.size;have bO:w.heap++aN.heap.extract w.heap.size aN.heap.size=aN.heap:=by
  apply Array.ext_getElem?;intro i;rw[ji];by_cases hi:i<w.heap.size
  ·rw[bq hi];exact (h.below.block i hi).symm
  rw[bD hi,Array.getElem?_extract];by_cases U:i<aN.heap.size
  ·rw[bq (by simp;omega)]
   congr 1
   omega
  rw[bD (by simp;omega)];exact (EQ (by omega)).symm
 obtain⟨heap,tape,drawn,os,output⟩:=w;obtain⟨aFx,aGE,aES,aGq,aGs⟩:=aN;have e1:=h.below.os;have e2:=h.below.tape;have ch:=h.below.output;have dS:=h.drawn rfl;simp only at e1 e2 ch dS bO h1;subst e1 e2 ch;simp only[grow,World.drewN,bO]
 congr 1
 omega
variable{k b off:Nat}{arr:Array Value}{ty:TypeId}
theorem amt{α:Type}[Inhabited α]{enc:α->List Value}{n:Nat}{d:Array α}{os:Array Obj}(aw:w.heap[b]?=some (.cells arr ty (0,0))):
  (sortWorldK enc k w b off n d os).heap[b]?=some (.cells (putCells id off (flatK enc k d) arr) ty (0,0)):=by
 have bR:b<w.heap.size:=(jj.1 aw).1;have:b<(putRowK enc k (Sort.ahead w n) b off d).heap.size:=by simpa[putRowK,putRow,mapBlock,Sort.ahead]using bR
 simp only[sortWorldK,grow,ji,bq this];simp[putRowK,putRow,mapBlock,Sort.ahead,Array.getElem?_modify,aw,onCells]
theorem Nq{α:Type}[Inhabited α]{enc:α->List Value}{n:Nat}{d:Array α}{os:Array Obj}{own:Nat->Prop}(aw:own b):sm ⟨w,own,fun _=>(0,undef)⟩ (sortWorldK enc k w b off n d os):=by
 refine⟨rfl,rfl,rfl,?_,fun c ai ay=>?_,?_⟩
 ·simp[sortWorldK,grow,putRowK,putRow,mapBlock,Sort.ahead]
 ·have cZ:b≠c:=fun e=>ay (by rw[<-e];exact aw)
  have:c<(putRowK enc k (Sort.ahead w n) b off d).heap.size:=by simpa[putRowK,putRow,mapBlock,Sort.ahead]using ai
  simp only[sortWorldK,grow,ji,bq this];simp[putRowK,putRow,mapBlock,Sort.ahead,Array.getElem?_modify,cZ]
 intro _;show w.drawn<=w.drawn+n;omega
theorem VW{α:Type}[Inhabited α]{enc:α->List Value}{xs:List α}(hk:∀x,(enc x).length=k){i j:Nat}{e:List Value}{v:Value}(he:(xs.map enc)[i]?=some e)(bF:e[j]?=some v):
  i*k+j<(flatK enc k xs.toArray).size/\(flatK enc k xs.toArray)[i*k+j]! = v:=by
 rw[dI,ca]at he;obtain⟨x,ag,rfl⟩:=he;have hi:i<xs.length:=(ga.1 ag).1;have bf:j<k:=by have:=(ga.1 bF).1;rwa[hk]at this
 have bR:i*k+j<xs.length*k:=by
  have:(i+1)*k<=xs.length*k:=hI _ hi;rw[hK]at this;omega
 refine⟨by simpa using bR,?_⟩;rw[get_flatK _ _ _ _ (by simpa using bR)];have e1:(i*k+j) / k=i:=by rw[Nat.mul_comm,Nat.mul_add_div (by omega),Nat.div_eq_of_lt bf];rfl
 have e2:(i*k+j) % k=j:=by rw[Nat.mul_comm,Nat.mul_add_mod,ER bf]
 rw[e1,e2];have ch:xs.toArray[i]! = x:=by
  rw[getElem!_pos xs.toArray i (by simpa using hi)];rw[gU hi]at ag;simpa using ag
 rw[ch];have Ss:j<(enc x).length:=by rw[hk];exact bf
 rw[getElem!_pos (enc x) j Ss];rw[gU Ss]at bF;exact gO bF
theorem amu{α:Type}[Inhabited α]{enc:α->List Value}{xs:List α}(hk:∀x,(enc x).length=k){cap:Nat}(aC:Row w b off k cap arr ty (xs.map enc)):HoldsK enc k w b off xs.toArray:=by
 intro j bf;rw[size_flatK]at bf;have Sw:0<k:=by
  rcases Nat.eq_zero_or_pos k with h | h
  ·rw[h]at bf;simp at bf
  exact h
 have hi:j / k<xs.length:=by
  have:=Nat.div_lt_iff_lt_mul Sw |>.2 (by simpa using bf);simpa using this
 have he:(xs.map enc)[j / k]?=some (enc xs[j / k]):=by simp[hi]
 have ad8:j % k<(enc xs[j / k]).length:=by rw[hk];exact Nat.mod_lt _ Sw
 have bF:=gU ad8;obtain⟨_,U⟩:=VW hk he bF;have aA:=aC.cell _ _ _ _ he bF;have tQ:j / k*k+j % k=j:=by rw[Nat.mul_comm];exact Nat.div_add_mod j k
 rw[tQ]at U;rw[ES,tQ]at aA;refine⟨?_,by simp[World.frozen?,aC.heap]⟩;simp only[id,U];simp[World.cell?,aC.heap,aA]
theorem amv{α:Type}[Inhabited α]{enc:α->List Value}{xs ys:List α}(hk:∀x,(enc x).length=k)(h1:∀x,∀v∈enc x,v.oneCell'=true){cap n:Nat}{os:Array Obj}
  (aC:Row w b off k cap arr ty (xs.map enc)) (al:ys.length=xs.length):Row (sortWorldK enc k w b off n ys.toArray os) b off k cap (putCells id off (flatK enc k ys.toArray) arr) ty (ys.map enc):=by
 have nc:=aC.room;have eo:=aC.fit;rw[b']at nc;refine⟨amt aC.heap,by rw[b',al];exact nc,by simpa[putCells]using eo,?_,?_,?_⟩
 ·intro e he;obtain⟨x,_,rfl⟩:=kr.1 he;exact hk x
 ·intro e he;obtain⟨x,_,rfl⟩:=kr.1 he;exact h1 x
 intro i j e v he bF;obtain⟨U,aA⟩:=VW hk he bF;rw[size_flatK]at U;have ff:ys.length*k<=cap*k:=hI _ (by omega);have aE9:i*k+j<ys.length*k:=by simpa using U
 have bR:off+i*k+j<arr.size:=by omega
 simp only[putCells,Array.getElem?_mapIdx,lV bR,sk];rw[bq ⟨by omega,by rw[size_flatK];simp only[o1];omega⟩,show off+i*k+j-off=i*k+j by omega,aA];rfl
instance:Inhabited az:=⟨(by constructor<;>first | exact (0:Int) | exact⟨0,0⟩)⟩
def nm(x:az):List Value:=x.e.map D.yP
theorem amw(xs:List az)(mV:az->az->Int)(hO:SWO (ltOf mV))(hQ:∀x y,(ltOf mV) x y=false->(ltOf mV) y x=false->x=y)(g:Nat)(ac3:∀args w,(callFunc g args).run prog w=.ok (.enter g args) w)
  (ay:∀a b,ar g [.agg a.e,.agg b.e] [.one (I (mV a b))]) (al:xs.length<=8388608):
  ks prog 169 [.one (.e5 5 (xs.map az.e) (some ((xs.mergeSort fun x y=>!(ltOf mV) y x).map az.e))),.one (.ro (.cl g []))] []:=by
 have hk:∀x,(nm x).length=5:=fun x=>rfl
 have oG:∀x:az,∀d∈x.e,∃v,d=.v v/\v.oneCell'=true:=by
  intro x d aE;simp only[az.e,ev,od,or_false]at aE;rcases aE with rfl | rfl | rfl | rfl | rfl<;>exact⟨_,rfl,rfl⟩
 have h1:∀x,∀v∈nm x,v.oneCell'=true:=by
  intro x v bF;obtain⟨d,aE,rfl⟩:=kr.1 bF;obtain⟨v,rfl,h⟩:=oG x d aE;exact h
 have RX:∀l:List az,l.map az.e=gG (l.map nm):=by
  intro l;simp only[gG,List.map_map];rfl
 rintro w vs ω ⟨Kt,aW,ah⟩ mx;obtain⟨y,bu,kY⟩:=ah 0 _ rfl;obtain⟨u,hu,fG⟩:=ah 1 _ rfl;have SU:u=.func (.func g) #[] #[]:=by
  have ae2:b3 w ω Tag.free.R (.cl g []) u:=fG;cases ae2 with
  | cl R g bk cs us ao hu aE=>
   have:cs=#[]:=Array.eq_empty_of_size_eq_zero (by simpa using ao);rw[this]
 subst SU;have qw:=acO aW bu hu;subst qw;have afc:b3 w ω (Tag.own (fy 0 0)).R (.J 5 (gG (xs.map nm))) y:=by rw[<-RX];exact kY
 have SJ:(xs.mergeSort fun x y=>!(ltOf mV) y x).length=xs.length:=(List.mergeSort_perm xs _).length_eq;have kept:∀{aN:World} {b off cap:Nat} {A:Array Value} {ty:TypeId},ω b=.tok (fy 0 0) []->Row aN b off 5 cap A ty ((xs.mergeSort fun x y=>!(ltOf mV) y x).map nm)->y=.slice (some ⟨b,off,none⟩) xs.length cap->
   Kept aN ω [.one (.e5 5 (xs.map az.e) (some ((xs.mergeSort fun x y=>!(ltOf mV) y x).map az.e))),.one (.ro (.cl g []))] #[y,.func (.func g) #[] #[]]:=by
  intro aN b off cap A ty di aC sR i j fe k es cC gI ai
  match i with
  | 0=>
   simp only[lY,aZ]at gI;subst gI;simp only[GA.cell]at ai;split at ai
   ·rename_i bf;subst bf;simp only[aZ,eM.e5.injEq]at ai;obtain⟨rfl,_,rfl⟩:=ai;have:=aC.rep (ω:=ω) (R:=(Tag.own (fy 0 0)).R) di;rw[RX];rw[b',SJ,<-sR]at this;have e:cellOf ((#[y,.func (.func g) #[] #[]]:Array Value).getD 0 undef) 0=y:=by
     rw[sR];rfl
    rw[e];exact this
   cases ai
  | 1=>simp at gI;subst gI;simp only[GA.cell]at ai;split at ai<;>simp at ai
  | _+2=>simp at gI
 rcases Kt.row afc with⟨he,a,rfl⟩ | ⟨b,off,cap,arr,tb,di,sR,aC⟩
 ·
  have vG:xs=[]:=by simpa using he
  subst vG;have BV:=AnyF.slices_SortFunc_none Tryz.aaH a 0 (.func (.func g) #[] #[]) w;change Calls prog 169 _ _ _ at BV;refine BV.mono ?_;rintro e aN ⟨rfl,rfl⟩;refine⟨_,rfl,gZ.start mx,ω,fun _ _ h=>h,fun c ai=>?_,?_,⟨#[],rfl,rfl,fun i cw h=>by simp at h⟩⟩
  ·obtain⟨⟨t,q,U,_⟩,aA⟩:=Kt c ai;exact⟨⟨t,q,U⟩,aA⟩
  intro i j fe k es cC gI ai
  match i with
  | 0=>
   simp only[lY,aZ]at gI;subst gI;simp only[GA.cell]at ai;split at ai
   ·rename_i bf;subst bf;simp only[aZ,eM.e5.injEq]at ai;obtain⟨rfl,_,rfl⟩:=ai;simp only[List.mergeSort_nil,List.map_nil];exact b3.nil _ _ a
   cases ai
  | 1=>simp at gI;subst gI;simp only[GA.cell]at ai;split at ai<;>simp at ai
  | _+2=>simp at gI
 have lK:ω b≠.bP:=by rw[di];simp
 rw[b']at sR;have ady:CmpLays prog g #[] nm 5 mV b off xs.toArray.size w:=by
  intro m os JH _ x y;have R':∀z:az,vb (sortWorldK nm 5 w b off m JH os) (.agg z.e) (.agg (nm z).toArray):=by
   intro z;refine⟨_,rfl,by simp[nm],fun i d aE=>?_⟩;obtain⟨v,rfl,bF⟩:=oG z d (gj aE);exact⟨v,by simp[nm,aE,D.yP],.v _ _ bF⟩
  have aeV:qa (sortWorldK nm 5 w b off m JH os):=(sm.full (Nq lK) mx).laid;have:=ay x y (sortWorldK nm 5 w b off m JH os) #[.agg (nm x).toArray,.agg (nm y).toArray] aeV ⟨rfl,fun i cw hi=>by
   match i with
   | 0=>simp at hi;subst hi;exact⟨_,rfl,R' x⟩
   | 1=>simp at hi;subst hi;exact⟨_,rfl,R' y⟩
   | _+2=>simp at hi⟩
  simp only[Array.append_empty];refine this.mono ?_;rintro e aN ⟨v,rfl,aw,⟨aGT,_,_,fl⟩⟩;have:v=.int .i64 (mV x y):=b3.Fl fl;subst this;exact⟨rfl,ams aw⟩
 have BV:=AnyQ.slices_SortFunc_total Tryz.aaH 5 Tryz.isAgg81 Tryz.sizeOf81 nm hk h1 mV hO g #[] b off cap xs.toArray w ac3 ady (amu hk aC) (jj.1 aC.heap).1 (by simp;omega) hQ;change Calls prog 169 _ _ _ at BV;rw[sR];refine BV.mono ?_;rintro e aN ⟨rfl,n,os,rfl⟩;have eW:=amv (n:=n) (os:=os) hk h1 aC SJ;refine⟨_,rfl,(Nq lK).full mx,ω,fun _ _ h=>h,fun c ai=>?_,?_,⟨#[],rfl,rfl,fun i cw h=>by simp at h⟩⟩
 ·obtain⟨⟨t,q,U,_⟩,kt,kJ,aA⟩:=Kt c ai;refine⟨⟨t,q,U⟩,?_⟩;by_cases iT:c=b
  ·subst iT;exact⟨_,_,eW.heap⟩
  have ps:c<w.heap.size:=(jj.1 aA).1;have qm:sm ⟨w,fun x=>x=b,fun _=>(0,undef)⟩ (sortWorldK nm 5 w b off n (xs.mergeSort fun x y=>!(ltOf mV) y x).toArray os):=Nq rfl;exact⟨kt,kJ,(qm.block c ps iT).trans aA⟩
 have:=kept di eW sR;rwa[sR]at this
end Go.Proofs.YthfnndblgbjniaaGreat
namespace Go.Proofs.YthfnndblgbjniaaGreat
open Go.Sx Go.RowKit Go.Sort Go.Proofs.Tryz
def VX(s:gQ):List Int:=[s.ba,s.dc]
def C3(r:az):List Int:=[r.bl.ba,r.bl.dc,r.op,r.key,r.val]
def C4(a b:gQ):Int:=kQ (VX a) (VX b)
def jd(a b:az):Int:=kQ (C3 a) (C3 b)
theorem Qf:SWO (ltOf jd):=ahg C3 5 fun _=>rfl
theorem aaw(x y:az):ltOf jd x y=false->ltOf jd y x=false->x=y:=
 ahh C3 5 (fun _=>rfl) (fun a b h=>by
  obtain⟨_,⟨_,_⟩,_,_⟩:=a;obtain⟨_,⟨_,_⟩,_,_⟩:=b;simp[C3]at h;simp[h]) x y
theorem amx(d:Int):l8 [d]=d:=by
 rw[wE];split
 ·rename_i h;rw[h];rfl
 rfl
theorem Xo(a b:gQ):C4 a b=l8 [hE a.ba b.ba,hE a.dc b.dc]:=rfl
theorem Xp(a b:az):jd a b=l8 [C4 a.bl b.bl,hE a.op b.op,hE a.key b.key,hE a.val b.val]:=by
 rw[Xo,V2];rfl
theorem amy{P:Program}{g:Nat}(h:fX P g=true):∀args w,(callFunc g args).run P w=.ok (.enter g args) w:=by
 intro args w;unfold fX at h;split at h
 ·rename_i fn lG;simp only[cu,gp,yU,lZ]at h;have rn:fn.body≠none:=by intro e;rw[e]at h;simp at h
  simp[callFunc,lG,h.1,rn]
 cases h
theorem amz(a b:gQ):ar 150 [.agg a.e,.agg b.e] [.one (I (C4 a b))]:=by
 have cy:=uS a.ba b.ba;have ci:=uS a.dc b.dc;rw[Xo,wE,amx];split
 ·rename_i h;rw[h]at cy;exact aBM ⟨cy,rfl,ci,aa⟩
 rename_i h;exact aCl ⟨cy,by simpa using h,aa⟩
theorem amA(a b:gQ):ar 191 [.agg a.e,.agg b.e] [.one (I (C4 a b))]:=
 aBN ⟨NI [a.ba,a.dc] [b.ba,b.dc] rfl (by simp),aa⟩
theorem Xq(a b:az):ar 103 [.agg a.e,.agg b.e] [.one (I (jd a b))]:=by
 have cy:=amz a.bl b.bl;have ci:=uS a.op b.op;have cI:=uS a.key b.key;have fs:=uS a.val b.val;rw[Xp];generalize C4 a.bl b.bl=gY at*;generalize hE a.op b.op=gN at*;generalize hE a.key b.key=lU at*;generalize hE a.val b.val=sf at*;have l:=gl (P:=prog) (c:=(ap f103 0)) [gY,gN,lU,sf] (fun d=>d != 0) (fun i=>yp gY gN lU sf i) (X:=fun _ d=>Om d) eC (cn 0)
  (fun i d aE h=>aBP ⟨dh (by have:=aY aE;simp at this;omega),bx,by have:=aY aE;simp at this ⊢;omega,bA bd aE,h,⟨by omega,by have:=aY aE;simp at this;omega⟩,aa⟩)
  (fun i d aE h=>aBO ⟨dh (by have:=aY aE;simp at this;omega),bx,by have:=aY aE;simp at this ⊢;omega,bA bd aE,h,bx,by have:=aY aE;simp at this ⊢;omega,bA bd aE,aa⟩)
  (aBQ ⟨rfl,aa⟩)
 unfold l8;rcases l with⟨h1,_,_,U⟩ | ⟨i,a,_,_,h1,_,_,U⟩
 ·rw[h1];exact aBS ⟨cy,ci,cI,fs,U,aa⟩
 rw[h1];exact aBR ⟨cy,ci,cI,fs,U,aa⟩
theorem amB(a b:az):ar 170 [.agg a.e,.agg b.e] [.one (I (jd a b))]:=by
 have cy:=amA a.bl b.bl;have ci:=NI [a.op,a.key,a.val] [b.op,b.key,b.val] rfl (by simp);rw[Xp,wE];split
 ·rename_i h;rw[h]at cy;exact aBU ⟨cy,rfl,ci,aa⟩
 rename_i h;exact aBT ⟨cy,by simpa using h,aa⟩
theorem Xr(x:az)(S R:List az)(n:Int)(al:S.length+R.length+1<=8388608):∀(k:Nat) (y:az),k<=S.length->∃gh,c8 prog (ap f54 1)
  (wC n k ((S.take k++y::(S.drop k++R)).map az.e) x.op x.bl.ba x.bl.dc x.key x.val) (.exit 2)
  (GX n ((S.take (mC (ltOf jd) x S k)++gh::(S.drop (mC (ltOf jd) x S k)++R)).map az.e) (mC (ltOf jd) x S k:Nat) x.op x.bl.ba x.bl.dc x.key x.val)
 | 0,y,_=>⟨y,.last (cn 2) (aDn ⟨ea (by simp),aa⟩)⟩
 | k+1,y,hk=>by
  obtain⟨z,bb⟩:=c5 (xs:=S) (i:=k) (by omega);have e1:(((k+1:Nat):Int)-1).toNat=k:=by omega
  have hT:((S.take (k+1)++y::(S.drop (k+1)++R)).map az.e)[(((k+1:Nat):Int)-1).toNat]?=some z.e:=by
   rw[e1,dI,Ba (by simp;omega),jZ,bq (by omega),bb];rfl
  have Kr:((S.take (k+1)++y::(S.drop (k+1)++R)).map az.e)[(((k+1:Nat):Int)).toNat]?=some y.e:=by
   rw[lz,dI,wX (by simp;omega)];simp[nC,Nat.min_eq_left hk]
  have hlen:(↑((S.take (k+1)++y::(S.drop (k+1)++R)).map az.e).length:Int)=S.length+R.length+1:=by simp;omega
  have mq:aL .i64 (((k+1:Nat):Int)-1):=⟨by omega,by omega⟩
  have Sp:decide (((k+1:Nat):Int)>0)=true:=dh (by omega);simp only[mC,bb];by_cases ai:ltOf jd x z=true
  ·rw[bq ai];obtain⟨gh,bu⟩:=Xr x S R n al k z (by omega);refine⟨gh,.more ?_ bu⟩;have rm:decide (jd x z<0)=true:=ai;refine oX (fun l=>wC n k l x.op x.bl.ba x.bl.dc x.key x.val) (oX (fun i=>wC n i _ x.op x.bl.ba x.bl.dc x.key x.val) (aBV ⟨Sp,mq,by omega,by omega,hT,Xq x z,rm,mq,by omega,by omega,hT,by omega,by omega,Kr,mq,aa⟩) (by omega:((k+1:Nat):Int)-1=k)) ?_;show List.set _ _ z.e=_;rw[lz,<-hL]
   congr 1
   rw[List.set_append_right _ _ (by simp;omega)];have nS:S[k]'(aY bb)=z:=by have:=bb;rw[gU (aY bb)]at this;exact gO this
   simp only[nC,Nat.min_eq_left hk,Nat.sub_self,List.set_cons_zero];rw[List.take_succ_eq_append_getElem (aY bb),nS,<-List.getElem_cons_drop (aY bb),nS];simp
  rw[bD ai];have rm:decide (jd x z<0)=false:=by simpa[ltOf]using ai
  exact⟨y,.last (cn 2) (aDm ⟨Sp,mq,by omega,by omega,hT,Xq x z,rm,aa⟩)⟩
theorem amC(xs:List az)(al:xs.length<=8388608):ar 54 [.one (.J 5 (xs.map az.e))] [.one (.J 5 ((me (ltOf jd) xs).map az.e))]:=by
 have hlen:∀ys:List az,(me (ltOf jd) ys).length=ys.length:=fun ys=>by simp[me,NN]
 let f:=fun i:Nat=>qR i ((me (ltOf jd) (xs.take i)++xs.drop i).map az.e)
 have step:∀i,1<=i->i<xs.length->fS prog (ap f54 0) (f i) .normal (f (i+1)):=by
  intro i _ hi;obtain⟨x,ag⟩:=c5 hi;have zC:xs[i]=x:=by rw[gU hi]at ag;exact gO ag
  have fF:(me (ltOf jd) (xs.take i)).length=i:=by rw[hlen,nC];omega
  have bE:∀S:List az,S.length=i->S++xs.drop i=S.take i++x::(S.drop i++xs.drop (i+1)):=by
   intro S h;rw[yS (l:=S) (by omega),List.drop_eq_nil_of_le (show S.length<=i by omega),List.nil_append,<-List.getElem_cons_drop hi,zC]
  show fS _ _ (qR i _) _ (qR (i+1:Nat) _);rw[agL ag,qA,fF,bE _ fF];generalize me (ltOf jd) (xs.take i)=S at*;have bR:S.length+(xs.drop (i+1)).length+1=xs.length:=by simp;omega
  obtain⟨gh,bu⟩:=Xr x S (xs.drop (i+1)) i (by omega) i x (by omega);have hp:=NL (ltOf jd) x S i;generalize mC (ltOf jd) x S i=p at*;have hT:((S.take i++x::(S.drop i++xs.drop (i+1))).map az.e)[((i:Nat):Int).toNat]?=some x.e:=by
   rw[lz,dI,wX (by simp;omega)];simp[nC,Nat.min_eq_left (show i<=S.length by omega)]
  have Kr:((S.take p++gh::(S.drop p++xs.drop (i+1))).map az.e)[((p:Nat):Int).toNat]?=some gh.e:=by
   rw[lz,dI,wX (by simp;omega)];simp[nC,Nat.min_eq_left (show p<=S.length by omega)]
  have jm:(↑((S.take i++x::(S.drop i++xs.drop (i+1))).map az.e).length:Int)=xs.length:=by simp;omega
  have c4:(↑((S.take p++gh::(S.drop p++xs.drop (i+1))).map az.e).length:Int)=xs.length:=by simp;omega
  refine oX (qR ((i+1:Nat):Int)) (aDo ⟨dh (by omega),by omega,by omega,hT,bu,by omega,by omega,Kr,⟨by omega,by omega⟩,aa⟩) ?_;show List.set _ _ x.e=_;rw[lz,<-hL]
  congr 1
  rw[List.set_append_right _ _ (by simp;omega)];simp[nC,Nat.min_eq_left (show p<=S.length by omega)]
 have l:c8 prog (ap f54 0) (qR 1 (xs.map az.e)) (.exit 0) (GY ((me (ltOf jd) xs).map az.e)):=by
  rcases Nat.eq_zero_or_pos xs.length with bJ | bJ
  ·have ag:xs=[]:=yV bJ;rw[ag];exact .last (cn 0) (Wr ⟨rfl,aa⟩)
  have e:=azO (P:=prog) (c:=(ap f54 0)) (cn 0) 1 xs.length f bJ step (stE:=GY ((me (ltOf jd) xs).map az.e)) (by
   show fS _ _ (qR _ _) _ _;rw[jh,List.drop_length,iO];exact Wr ⟨ea (by rw[b',hlen];omega),aa⟩)
  have e1:me (ltOf jd) (xs.take 1)++xs.drop 1=xs:=by
   obtain⟨a,ys,rfl⟩:=List.exists_cons_of_length_pos bJ;rfl
  have e2:f 1=qR 1 (xs.map az.e):=by
   show qR _ _=_;rw[e1];rfl
  rw[e2]at e;exact e
 exact aDp ⟨by simp;omega,by simp;omega,dt _ az.flat _,l,aa⟩
theorem C5(xs:List az)(al:xs.length<=8388608):ar 168 [.one (.J 5 (xs.map az.e))] [.one (.J 5 (xs.map az.e))]:=
 aCr ⟨by simp;omega,by simp;omega,dt _ az.flat _,aa⟩
theorem amD(xs:List az)(al:xs.length<=8388608):ar 121 [.one (.J 5 (xs.map az.e))] [.one (.J 5 ((me (ltOf jd) xs).map az.e))]:=by
 have s:=amw xs jd Qf aaw 170 (amy (by kernel_rfl)) amB al;rw[agK Qf aaw];exact aDq ⟨C5 xs al,s,aa⟩
theorem amE{xs:List az}:(me (ltOf jd) xs).length=xs.length:=by simp[me,NN]
def j9(w:aK):List az:=w.queue++w.b9
def pX(c:aO):List az:=c.aq.flatMap j9++c.bn.flatMap bj.queue
def nn(c:aO):List az:=me (ltOf jd) (pX c)
def wJ(c:aO)(e:Int):List az:=hF e (nn c)
theorem G7{α β:Type}(f:α->List β)(sz:α->Nat)(h:∀a,(f a).length<=sz a):∀xs:List α,(xs.flatMap f).length<=(xs.map sz).sum
 | []=>by simp
 | a::xs=>by
  have:=G7 f sz h xs;have:=h a;simp only[List.flatMap_cons,f',mg,w4];omega
theorem C6{α β:Type}(f:α->List β)(xs:List α)(i:Nat):((xs.take i).flatMap f).length<=(xs.flatMap f).length:=by
 have:xs.flatMap f=(xs.take i).flatMap f++(xs.drop i).flatMap f:=by rw[<-List.flatMap_append,yX]
 rw[this,f'];omega
theorem Ad{α β:Type}(f:α->List β){xs:List α}{i:Nat}{a:α}(h:xs[i]?=some a):(xs.take (i+1)).flatMap f=(xs.take i).flatMap f++f a:=by
 simp[o4,h]
variable{c:aO}
theorem aO.Qe(h:c.sz<=8388608):(c.aq.flatMap j9).length+(c.aq.flatMap aK.bM).length+(c.bn.flatMap bj.queue).length<=8388608:=by
 have h1:=G7 (fun w=>j9 w++w.bM) aK.sz (fun w=>by simp only[aK.sz,j9,f'];omega) c.aq;have U:=G7 bj.queue bj.sz (fun l=>by simp only[bj.sz];omega) c.bn;have aA:(c.aq.flatMap fun w=>j9 w++w.bM).length=(c.aq.flatMap j9).length+(c.aq.flatMap aK.bM).length:=by
  generalize c.aq=ws;induction ws with
  | nil=>rfl
  | cons w ws eA=>simp only[List.flatMap_cons,f',eA];omega
 simp only[aO.sz,fw]at h;omega
theorem Nr(h:c.sz<=8388608):(pX c).length+(c.aq.flatMap aK.bM).length<=8388608:=by
 have:=aO.Qe h;simp only[pX,f'];omega
theorem Xs(c:aO):(nn c).length=(pX c).length:=amE
theorem Ns(h:c.sz<=8388608):(nn c).length<=8388608:=by
 have:=Nr h;rw[Xs];omega
theorem aO.nA(h:c.sz<=8388608):c.aq.length<=8388608:=by simp only[aO.sz,fw]at h;omega
theorem aO.zJ(h:c.sz<=8388608):c.bn.length<=8388608:=by simp only[aO.sz,fw]at h;omega
theorem Xt(c:aO)(ai:c.sz<=8388608):ar 21 [.agg c.e] [.one (.J 5 ((nn c).map az.e))]:=by
 have aeH:=aO.Qe ai;have dn:=er (P:=prog) (c:=(ap f21 0)) (cn 0) c.aq.length (fun i:Nat=>AT (c.au.nodes.map Node.e) c.au.aq c.au.cap (c.aq.map aK.e) (c.bn.map bj.e) (c.tokens.map bQ.e) (c.news.map bT.e) i (((c.aq.take i).flatMap j9).map az.e)) (fun i hi=>by
  obtain⟨w,hw⟩:=c5 hi;have h1:=Ad j9 hw;have U:=C6 j9 c.aq (i+1);have aJ:((c.aq.take i).flatMap j9).length+w.queue.length+w.b9.length<=8388608:=by
   rw[h1,f',j9,f']at U;omega
  refine oX (AT _ _ _ _ _ _ _ _) (aDr ⟨bV hi,bx,bH hi,bA aK.e hw,by simp only[b'];omega,by simp only[b'];omega,dt _ az.flat _,bx,bH hi,bA aK.e hw,by simp only[b',f'];omega,by simp only[b',f'];omega,dt _ az.flat _,c0 hi (aO.nA ai),aa⟩) ?_;rw[h1,j9];simp only[gi,mO]) (aDs ⟨dq,aa⟩)
 have eX:=er (P:=prog) (c:=(ap f21 1)) (cn 2) c.bn.length (fun i:Nat=>AU (c.au.nodes.map Node.e) c.au.aq c.au.cap (c.aq.map aK.e) (c.bn.map bj.e) (c.tokens.map bQ.e) (c.news.map bT.e) i ((c.aq.flatMap j9++(c.bn.take i).flatMap bj.queue).map az.e)) (fun i hi=>by
  obtain⟨l,jn⟩:=c5 hi;have h1:=Ad bj.queue jn;have U:=C6 bj.queue c.bn (i+1);have aJ:(c.aq.flatMap j9).length+((c.bn.take i).flatMap bj.queue).length+l.queue.length<=8388608:=by
   rw[h1,f']at U;omega
  refine oX (AU _ _ _ _ _ _ _ _) (aDt ⟨bV hi,bx,bH hi,bA bj.e jn,by simp only[b',f'];omega,by simp only[b',f'];omega,dt _ az.flat _,c0 hi (aO.zJ ai),aa⟩) ?_;rw[h1];simp only[gi,mO]) (aDu ⟨dq,aa⟩)
 rw[jh]at dn eX;simp only[List.take_zero,w2,iO]at dn eX;exact aDv ⟨dn,eX,amC (pX c) (by have:=Nr ai;omega),aa⟩
theorem amF(c:aO)(ai:c.sz<=8388608):ar 80 [.agg c.e] [.one (.J 5 ((nn c).map az.e))]:=by
 have aeH:=aO.Qe ai;have dn:=er (P:=prog) (c:=(ap f80 0)) (cn 0) c.aq.length (fun i:Nat=>AV (c.aq.map aK.e) i (((c.aq.take i).flatMap j9).map az.e) (c.au.nodes.map Node.e) c.au.aq c.au.cap (c.aq.map aK.e) (c.bn.map bj.e) (c.tokens.map bQ.e) (c.news.map bT.e)) (fun i hi=>by
  obtain⟨w,hw⟩:=c5 hi;have h1:=Ad j9 hw;have U:=C6 j9 c.aq (i+1);have aJ:((c.aq.take i).flatMap j9).length+w.queue.length+w.b9.length<=8388608:=by
   rw[h1,f',j9,f']at U;omega
  refine oX (fun l=>AV _ _ l _ _ _ _ _ _ _) (aDw ⟨bV hi,bx,bH hi,bA aK.e hw,by simp only[b'];omega,by simp only[b'];omega,dt _ az.flat _,by simp only[b',f'];omega,by simp only[b',f'];omega,dt _ az.flat _,c0 hi (aO.nA ai),aa⟩) ?_;rw[h1,j9];simp only[gi,mO]) (aDx ⟨dq,aa⟩)
 have eX:=er (P:=prog) (c:=(ap f80 1)) (cn 2) c.bn.length (fun i:Nat=>z6 (c.bn.map bj.e) i ((c.aq.flatMap j9++(c.bn.take i).flatMap bj.queue).map az.e)) (fun i hi=>by
  obtain⟨l,jn⟩:=c5 hi;have h1:=Ad bj.queue jn;have U:=C6 bj.queue c.bn (i+1);have aJ:(c.aq.flatMap j9).length+((c.bn.take i).flatMap bj.queue).length+l.queue.length<=8388608:=by
   rw[h1,f']at U;omega
  refine oX (z6 _ _) (aDy ⟨bV hi,bx,bH hi,bA bj.e jn,by simp only[b',f'];omega,by simp only[b',f'];omega,dt _ az.flat _,c0 hi (aO.zJ ai),aa⟩) ?_;rw[h1];simp only[gi,mO]) (aDz ⟨dq,aa⟩)
 rw[jh]at dn eX;simp only[List.take_zero,w2,iO]at dn eX;exact aDA ⟨dn,eX,amD (pX c) (by have:=Nr ai;omega),aa⟩
theorem amG(c:aO)(e:Int)(ai:c.sz<=8388608):ar 37 [.agg c.e,.one (I e)] [.one (.J 5 ((wJ c e).map az.e))]:=
 aDJ ⟨Xt c ai,C1 (nn c) e (Ns ai),aa⟩
theorem amH(c:aO)(e:Int)(ai:c.sz<=8388608):ar 34 [.agg c.e,.one (I e)] [.one (.J 5 ((wJ c e).map az.e))]:=
 aDK ⟨amF c ai,C2 (nn c) e (Ns ai),aa⟩
end Go.Proofs.YthfnndblgbjniaaGreat
namespace Go.Proofs.YthfnndblgbjniaaGreat
open Go.Sx Go.RowKit Go.Proofs.Tryz
def eD(w:aK)(e:Int):Bool:=w.b0.any fun d=>d.ba==e
theorem aK.RS{w:aK}(h:w.sz<=8388608):w.b0.length<=8388608:=by simp only[aK.sz]at h;omega
variable{c:aO}
theorem aO.oY(h:c.sz<=8388608){w:aK}(al:w∈c.aq):w.sz<=8388608:=by
 have:=Hv (sz:=aK.sz) al;simp only[aO.sz,fw]at h;omega
theorem aO.LI(h:c.sz<=8388608):c.news.length<=8388608:=by simp only[aO.sz,fw]at h;omega
theorem Xu(w:aK)(e:Int)(hw:w.sz<=8388608):ar 36 [.agg w.e,.one (I e)] [.one (B (eD w e))]:=by
 have al:=aK.RS hw;have l:=gl (P:=prog) (c:=(ap f36 0)) w.b0 (fun d=>d.ba==e) (fun i=>yt (w.queue.map az.e) (w.b9.map az.e) (w.bM.map az.e) (w.cells.map Cell.e) (w.bB.map bd) (w.bN.map cG) (w.bk.map cG) (w.b0.map cS.e) e i) (X:=fun _ _=>Nw true) eC (cn 0)
  (fun i a ah h=>aCW ⟨bV (aY ah),bx,bH (aY ah),bA cS.e ah,h,c0 (aY ah) al,aa⟩)
  (fun i a ah h=>aDL ⟨bV (aY ah),bx,bH (aY ah),bA cS.e ah,h,aa⟩)
  (aCX ⟨dq,aa⟩)
 unfold eD;rcases l with⟨_,_,h1,U⟩ | ⟨i,a,_,_,_,_,h1,U⟩
 ·rw[h1];exact aCZ ⟨U,aa⟩
 rw[h1];exact aCY ⟨U,aa⟩
theorem Xv(xs:List cS)(e:Int)(al:xs.length<=8388608):ar 77 [.one (.J 2 (xs.map cS.e)),.one (I e)] [.one (B (xs.any fun d=>d.ba==e))]:=
 aC0 ⟨agQ xs (fun d=>d.ba==e) _ _ al (by kernel_rfl) (fun x _=>aC1 trivial),aa⟩
theorem Xw(w:aK)(e:Int)(hw:w.sz<=8388608):ar 31 [.agg w.e,.one (I e)] [.one (B (eD w e))]:=
 aC2 ⟨Xv w.b0 e (aK.RS hw),aa⟩
def wK(c:aO)(e:Int):List az:=c.aq.flatMap fun w=>hF e w.bM
theorem amI(e:Int)(xs:List az):(hF e xs).length<=xs.length:=o2 ..
theorem Xx(h:c.sz<=8388608)(e:Int)(i:Nat):((c.aq.take i).flatMap fun w=>hF e w.bM).length<=8388608:=by
 have h1:=C6 (fun w:aK=>hF e w.bM) c.aq i;have U:=G7 (fun w:aK=>hF e w.bM) aK.sz (fun w=>by have:=amI e w.bM;simp only[aK.sz];omega) c.aq;simp only[aO.sz,fw]at h;omega
theorem amJ(c:aO)(e:Int)(ai:c.sz<=8388608):ar 38 [.agg c.e,.one (I e)] [.one (.J 5 ((wK c e).map az.e))]:=by
 have l:=er (P:=prog) (c:=(ap f38 0)) (cn 0) c.aq.length (fun i:Nat=>CU (c.au.nodes.map Node.e) c.au.aq c.au.cap (c.aq.map aK.e) (c.bn.map bj.e) (c.tokens.map bQ.e) (c.news.map bT.e) e i (((c.aq.take i).flatMap fun w=>hF e w.bM).map az.e)) (fun i hi=>by
  obtain⟨w,hw⟩:=c5 hi;have h1:=Ad (fun w:aK=>hF e w.bM) hw;have U:=Xx ai e (i+1);have aA:=aO.oY ai (cD hw);rw[h1,f']at U;rw[h1,gi];exact aC3 ⟨bV hi,bx,bH hi,bA aK.e hw,C1 w.bM e (by simp only[aK.sz]at aA;omega),by simp only[b'];omega,by simp only[b'];omega,dt _ az.flat _,c0 hi (aO.nA ai),aa⟩) (aC4 ⟨dq,aa⟩)
 rw[jh]at l;exact aC5 ⟨l,aa⟩
theorem amK(c:aO)(e:Int)(ai:c.sz<=8388608):ar 35 [.agg c.e,.one (I e)] [.one (.J 5 ((wK c e).map az.e))]:=by
 have l:=er (P:=prog) (c:=(ap f35 0)) (cn 0) c.aq.length (fun i:Nat=>CV (c.aq.map aK.e) e i (((c.aq.take i).flatMap fun w=>hF e w.bM).map az.e)) (fun i hi=>by
  obtain⟨w,hw⟩:=c5 hi;have h1:=Ad (fun w:aK=>hF e w.bM) hw;have U:=Xx ai e (i+1);have aA:=aO.oY ai (cD hw);rw[h1,f']at U;rw[h1,gi];exact aC6 ⟨bV hi,bx,bH hi,bA aK.e hw,C2 w.bM e (by simp only[aK.sz]at aA;omega),by simp only[b'];omega,by simp only[b'];omega,dt _ az.flat _,c0 hi (aO.nA ai),aa⟩) (aC7 ⟨dq,aa⟩)
 rw[jh]at l;exact aC8 ⟨l,aa⟩
def jA(c:aO)(e:Int):Bool:=c.aq.any fun w=>eD w e
def kI(c:aO)(e:Int):Bool:=c.news.any fun x=>x.ba==e
def uU(c:aO)(e:Int):Bool:=!(jA c e||kI c e)||(decide ((wJ c e).length=0)&&decide ((wK c e).length=0))
theorem Xy{α:Type}{p:α->Bool}{xs:List α}{i:Nat}{a:α}(h:xs[i]?=some a):(xs.take (i+1)).any p=((xs.take i).any p||p a):=by
 simp[o4,h,List.any_append]
theorem Nt(w:aK)(e:Int)(r:Bool)(h:eD w e=r)(hw:w.sz<=8388608):ar 36 [.agg w.e,.one (I e)] [.one (B r)]:=h▸Xu w e hw
theorem rI{α:Type}{f:α->List D}(xs:List α)(b:Bool)(h:decide (xs.length=0)=b):((↑(xs.map f).length:Int)==0)=b:=by
 subst h;by_cases h:xs.length=0
 ·simp[h]
 rw[show decide (xs.length=0)=false from ea h];simp only[b',yU,lZ];omega
theorem Nu(c:aO)(e:Int)(ai:c.sz<=8388608):ar 11 [.agg c.e,.one (I e)] [.one (B (uU c e))]:=by
 have dn:c8 prog (ap f11 0) (vN (c.au.nodes.map Node.e) c.au.aq c.au.cap (c.aq.map aK.e) (c.bn.map bj.e) (c.tokens.map bQ.e) (c.news.map bT.e) e 0 false) (.exit 0) (LY (c.au.nodes.map Node.e) c.au.aq c.au.cap (c.aq.map aK.e) (c.bn.map bj.e) (c.tokens.map bQ.e) (c.news.map bT.e) e (jA c e)):=by
  have l:=er (P:=prog) (c:=(ap f11 0)) (cn 0) c.aq.length (fun i:Nat=>vN (c.au.nodes.map Node.e) c.au.aq c.au.cap (c.aq.map aK.e) (c.bn.map bj.e) (c.tokens.map bQ.e) (c.news.map bT.e) e i ((c.aq.take i).any fun w=>eD w e)) (fun i hi=>by
   obtain⟨w,hw⟩:=c5 hi;rw[Xy hw];cases h:(c.aq.take i).any fun w=>eD w e with
   | true=>
    rw[Bool.true_or];exact aC9 ⟨bV hi,rfl,c0 hi (aO.nA ai),aa⟩
   | false=>
    rw[hn];exact aDa ⟨bV hi,rfl,bx,bH hi,bA aK.e hw,Xu w e (aO.oY ai (cD hw)),c0 hi (aO.nA ai),aa⟩) (aDb ⟨dq,aa⟩)
  rw[jh]at l;exact l
 have eX:c8 prog (ap f11 1) (vO (c.au.nodes.map Node.e) c.au.aq c.au.cap (c.aq.map aK.e) (c.bn.map bj.e) (c.tokens.map bQ.e) (c.news.map bT.e) e 0 (jA c e)) (.exit 2) (LZ (c.au.nodes.map Node.e) c.au.aq c.au.cap (c.aq.map aK.e) (c.bn.map bj.e) (c.tokens.map bQ.e) (c.news.map bT.e) e (jA c e||kI c e)):=by
  have l:=er (P:=prog) (c:=(ap f11 1)) (cn 2) c.news.length (fun i:Nat=>vO (c.au.nodes.map Node.e) c.au.aq c.au.cap (c.aq.map aK.e) (c.bn.map bj.e) (c.tokens.map bQ.e) (c.news.map bT.e) e i (jA c e||(c.news.take i).any fun x=>x.ba==e)) (fun i hi=>by
   obtain⟨w,hw⟩:=c5 hi;rw[Xy hw,<-Bool.or_assoc];cases h:(jA c e||(c.news.take i).any fun x=>x.ba==e) with
   | true=>
    rw[Bool.true_or];exact aDc ⟨bV hi,rfl,c0 hi (aO.LI ai),aa⟩
   | false=>
    rw[hn];exact aDd ⟨bV hi,rfl,bx,bH hi,bA bT.e hw,c0 hi (aO.LI ai),aa⟩) (aDe ⟨dq,aa⟩)
  simp only[List.take_zero,List.any_nil,Bool.or_false]at l;rw[jh]at l;exact l
 have p:=amG c e ai;have q:=amJ c e ai;unfold uU;generalize (jA c e||kI c e)=b at*;cases b with
 | false=>exact aDf ⟨dn,eX,rfl,aa⟩
 | true=>
  rw[hy,hn];cases h:decide ((wJ c e).length=0) with
  | true=>
   rw[lB,<-rI (f:=az.e) (wK c e) _ rfl];exact aDg ⟨dn,eX,rfl,p,rI _ _ h,q,aa⟩
  | false=>
   rw[Bool.false_and];exact aDh ⟨dn,eX,rfl,p,rI _ _ h,aa⟩
theorem Nv(c:aO)(e:Int)(ai:c.sz<=8388608):ar 10 [.agg c.e,.one (I e)] [.one (B (uU c e))]:=by
 have p:=amH c e ai;have q:=amK c e ai;have w:=agN c.aq (fun w=>eD w e) 30 [D.ptr [I e]] (aO.nA ai) (by kernel_rfl) (fun x ag=>aCN ⟨Xw x e (aO.oY ai ag),aa⟩);have n:=agR c.news (fun x=>x.ba==e) 33 [D.ptr [I e]] (aO.LI ai) (by kernel_rfl) (fun x ag=>aCO trivial);change iF _ _ _ [.one (B (jA c e))]at w;change iF _ _ _ [.one (B (kI c e))]at n;unfold uU;generalize jA c e=e7 at*;generalize kI c e=fT at*;cases e7 with
 | true=>
  rw[Bool.true_or,hy,hn];cases h:decide ((wJ c e).length=0) with
  | true=>
   rw[lB,<-rI (f:=az.e) (wK c e) _ rfl];exact aDi ⟨w,rfl,p,rI _ _ h,q,aa⟩
  | false=>
   rw[Bool.false_and];exact aDj ⟨w,rfl,p,rI _ _ h,aa⟩
 | false=>
  rw[hn];cases fT with
  | false=>exact aDk ⟨w,rfl,n,rfl,aa⟩
  | true=>
   rw[hy,hn];cases h:decide ((wJ c e).length=0) with
   | true=>
    rw[lB,<-rI (f:=az.e) (wK c e) _ rfl];exact aDl ⟨w,rfl,n,rfl,p,rI _ _ h,q,aa⟩
   | false=>
    rw[Bool.false_and];exact aCM ⟨w,rfl,n,rfl,p,rI _ _ h,aa⟩
