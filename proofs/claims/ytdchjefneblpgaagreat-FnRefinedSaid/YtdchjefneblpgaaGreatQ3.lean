import Derived.Test.YtdchjefneblpgaaGreatS1
import Derived.Test.YtdchjefneblpgaaGreatC0
import Derived.WalkKit
import Derived.Deep.RegionLaw
import Derived.Shelf.RegionOpenPlain
import Derived.Lib.SliceRun
import Derived.Deep.LoopGhost
import Derived.Lib.Walk
set_option linter.unusedVariables false
set_option linter.unusedSimpArgs false
namespace Go.Proofs.YtdchjefneblpgaaGreat
open Go.Sx Go.RowKit Go.Shelf Go.Lib Go.Sort Go.Proofs.Tryz
variable{w:World}
theorem azV{aO:World}(h:hb w.heap.size w aO):∃q os,aO=grow (w.drewN q) os:=by
 refine⟨aO.drawn-w.drawn,aO.heap.extract w.heap.size aO.heap.size,?_⟩;have h1:=h.below.size;have bJ:w.heap++aO.heap.extract w.heap.size aO.heap.size=aO.heap:=by
  apply Array.ext_getElem?;intro i;rw[hW];by_cases hi:i<w.heap.size
  ·rw[bm hi];exact (h.below.block i hi).symm
  rw[bk hi,Array.getElem?_extract];by_cases U:i<aO.heap.size
  ·rw[bm (by simp;omega)]
   congr 1
   omega
  rw[bk (by simp;omega)];exact (Al (by omega)).symm
 obtain⟨heap,tape,drawn,os,output⟩:=w;obtain⟨aCM,aDu,aCo,aDj,aDk⟩:=aO;have e1:=h.below.os;have e2:=h.below.tape;have cg:=h.below.output;have eo:=h.drawn rfl;simp only at e1 e2 cg eo bJ h1;subst e1 e2 cg;simp only[grow,World.drewN,bJ]
 congr 1
 omega
variable{k b off:Nat}{arr:Array Value}{ty:TypeId}
theorem azW{α:Type}[Inhabited α]{enc:α->List Value}{n:Nat}{d:Array α}{os:Array Obj}(av:w.heap[b]?=some (.cells arr ty (0,0))):
  (sortWorldK enc k w b off n d os).heap[b]?=some (.cells (putCells id off (flatK enc k d) arr) ty (0,0)):=by
 have bz:b<w.heap.size:=(iB.1 av).1;have:b<(putRowK enc k (Sort.ahead w n) b off d).heap.size:=by simpa[putRowK,putRow,mapBlock,Sort.ahead]using bz
 simp only[sortWorldK,grow,hW,bm this];simp[putRowK,putRow,mapBlock,Sort.ahead,Array.getElem?_modify,av,onCells]
theorem M8{α:Type}[Inhabited α]{enc:α->List Value}{n:Nat}{d:Array α}{os:Array Obj}{own:Nat->Prop}(av:own b):rQ ⟨w,own,fun _=>(0,undef)⟩ (sortWorldK enc k w b off n d os):=by
 refine⟨rfl,rfl,rfl,?_,fun c aj ay=>?_,?_⟩
 ·simp[sortWorldK,grow,putRowK,putRow,mapBlock,Sort.ahead]
 ·have cC:b≠c:=fun e=>ay (by rw[<-e];exact av)
  have:c<(putRowK enc k (Sort.ahead w n) b off d).heap.size:=by simpa[putRowK,putRow,mapBlock,Sort.ahead]using aj
  simp only[sortWorldK,grow,hW,bm this];simp[putRowK,putRow,mapBlock,Sort.ahead,Array.getElem?_modify,cC]
 intro _;show w.drawn<=w.drawn+n;omega
theorem Vx{α:Type}[Inhabited α]{enc:α->List Value}{xs:List α}(hk:∀x,(enc x).length=k){i j:Nat}{e:List Value}{v:Value}(he:(xs.map enc)[i]?=some e)(bp:e[j]?=some v):
  i*k+j<(flatK enc k xs.toArray).size/\(flatK enc k xs.toArray)[i*k+j]! = v:=by
 rw[dq,cc]at he;obtain⟨x,ah,rfl⟩:=he;have hi:i<xs.length:=(ek.1 ah).1;have a1:j<k:=by have:=(ek.1 bp).1;rwa[hk]at this
 have bz:i*k+j<xs.length*k:=by
  have:(i+1)*k<=xs.length*k:=hF _ hi;rw[gg]at this;omega
 refine⟨by simpa using bz,?_⟩;rw[get_flatK _ _ _ _ (by simpa using bz)];have e1:(i*k+j) / k=i:=by rw[Nat.mul_comm,Nat.mul_add_div (by omega),Nat.div_eq_of_lt a1];rfl
 have e2:(i*k+j) % k=j:=by rw[Nat.mul_comm,Nat.mul_add_mod,Ao a1]
 rw[e1,e2];have cg:xs.toArray[i]! = x:=by
  rw[getElem!_pos xs.toArray i (by simpa using hi)];rw[fJ hi]at ah;simpa using ah
 rw[cg];have Ro:j<(enc x).length:=by rw[hk];exact a1
 rw[getElem!_pos (enc x) j Ro];rw[fJ Ro]at bp;exact eW bp
theorem azX{α:Type}[Inhabited α]{enc:α->List Value}{xs:List α}(hk:∀x,(enc x).length=k){cap:Nat}(aA:Row w b off k cap arr ty (xs.map enc)):HoldsK enc k w b off xs.toArray:=by
 intro j a1;rw[size_flatK]at a1;have Rq:0<k:=by
  rcases Nat.eq_zero_or_pos k with h | h
  ·rw[h]at a1;simp at a1
  exact h
 have hi:j / k<xs.length:=by
  have:=Nat.div_lt_iff_lt_mul Rq |>.2 (by simpa using a1);simpa using this
 have he:(xs.map enc)[j / k]?=some (enc xs[j / k]):=by simp[hi]
 have acq:j % k<(enc xs[j / k]).length:=by rw[hk];exact Nat.mod_lt _ Rq
 have bp:=fJ acq;obtain⟨_,U⟩:=Vx hk he bp;have ax:=aA.cell _ _ _ _ he bp;have tc:j / k*k+j % k=j:=by rw[Nat.mul_comm];exact Nat.div_add_mod j k
 rw[tc]at U;rw[wc,tc]at ax;refine⟨?_,by simp[World.frozen?,aA.heap]⟩;simp only[id,U];simp[World.cell?,aA.heap,ax]
theorem azo{α:Type}[Inhabited α]{enc:α->List Value}{xs ys:List α}(hk:∀x,(enc x).length=k)(h1:∀x,∀v∈enc x,v.oneCell'=true){cap n:Nat}{os:Array Obj}
  (aA:Row w b off k cap arr ty (xs.map enc)) (ap:ys.length=xs.length):Row (sortWorldK enc k w b off n ys.toArray os) b off k cap (putCells id off (flatK enc k ys.toArray) arr) ty (ys.map enc):=by
 have lV:=aA.room;have dI:=aA.fit;rw[bl]at lV;refine⟨azW aA.heap,by rw[bl,ap];exact lV,by simpa[putCells]using dI,?_,?_,?_⟩
 ·intro e he;obtain⟨x,_,rfl⟩:=lo.1 he;exact hk x
 ·intro e he;obtain⟨x,_,rfl⟩:=lo.1 he;exact h1 x
 intro i j e v he bp;obtain⟨U,ax⟩:=Vx hk he bp;rw[size_flatK]at U;have gA:ys.length*k<=cap*k:=hF _ (by omega);have aCA:i*k+j<ys.length*k:=by simpa using U
 have bz:off+i*k+j<arr.size:=by omega
 simp only[putCells,Array.getElem?_mapIdx,ht bz,mz];rw[bm ⟨by omega,by rw[size_flatK];simp only[lO];omega⟩,show off+i*k+j-off=i*k+j by omega,ax];rfl
instance:Inhabited aq:=⟨(by constructor<;>first | exact (0:Int) | exact⟨0,0⟩)⟩
def mT(x:aq):List Value:=x.e.map D.um
theorem azp(xs:List aq)(pO:aq->aq->Int)(hO:SWO (ltOf pO))(jr:∀x y,(ltOf pO) x y=false->(ltOf pO) y x=false->x=y)(g:Nat)(abf:∀args w,(callFunc g args).run prog w=.ok (.enter g args) w)
  (ay:∀a b,al g [.agg a.e,.agg b.e] [.one (I (pO a b))]) (ap:xs.length<=8388608):
  jo prog 301 [.one (.eO 5 (xs.map aq.e) (some ((xs.mergeSort fun x y=>!(ltOf pO) y x).map aq.e))),.one (.ro (.cl g []))] []:=by
 have hk:∀x,(mT x).length=5:=fun x=>rfl
 have oq:∀x:aq,∀d∈x.e,∃v,d=.v v/\v.oneCell'=true:=by
  intro x d aG;simp only[aq.e,eP,nZ,or_false]at aG;rcases aG with rfl | rfl | rfl | rfl | rfl<;>exact⟨_,rfl,rfl⟩
 have h1:∀x,∀v∈mT x,v.oneCell'=true:=by
  intro x v bp;obtain⟨d,aG,rfl⟩:=lo.1 bp;obtain⟨v,rfl,h⟩:=oq x d aG;exact h
 have QP:∀l:List aq,l.map aq.e=fY (l.map mT):=by
  intro l;simp only[fY,List.map_map];rfl
 rintro w vs ω ⟨Jf,aX,ak⟩ lC;obtain⟨y,bf,j6⟩:=ak 0 _ rfl;obtain⟨u,hu,eY⟩:=ak 1 _ rfl;have JD:u=.func (.func g) #[] #[]:=by
  have adf:b0 w ω Tag.free.R (.cl g []) u:=eY;cases adf with
  | cl R g bx cs us ao hu aG=>
   have:cs=#[]:=Array.eq_empty_of_size_eq_zero (by simpa using ao);rw[this]
 subst JD;have nJ:=aaY aX bf hu;subst nJ;have adp:b0 w ω (Tag.own (fu 0 0)).R (.J 5 (fY (xs.map mT))) y:=by rw[<-QP];exact j6
 have RE:(xs.mergeSort fun x y=>!(ltOf pO) y x).length=xs.length:=(List.mergeSort_perm xs _).length_eq;have kept:∀{aO:World} {b off cap:Nat} {A:Array Value} {ty:TypeId},ω b=.tok (fu 0 0) []->Row aO b off 5 cap A ty ((xs.mergeSort fun x y=>!(ltOf pO) y x).map mT)->y=.slice (some ⟨b,off,none⟩) xs.length cap->
   Kept aO ω [.one (.eO 5 (xs.map aq.e) (some ((xs.mergeSort fun x y=>!(ltOf pO) y x).map aq.e))),.one (.ro (.cl g []))] #[y,.func (.func g) #[] #[]]:=by
  intro aO b off cap A ty da aA sb i j eJ k es cv fw aj
  match i with
  | 0=>
   simp only[kh,aV]at fw;subst fw;simp only[GA.cell]at aj;split at aj
   ·rename_i a1;subst a1;simp only[aV,eB.eO.injEq]at aj;obtain⟨rfl,_,rfl⟩:=aj;have:=aA.rep (ω:=ω) (R:=(Tag.own (fu 0 0)).R) da;rw[QP];rw[bl,RE,<-sb]at this;have e:cellOf ((#[y,.func (.func g) #[] #[]]:Array Value).getD 0 undef) 0=y:=by
     rw[sb];rfl
    rw[e];exact this
   cases aj
  | 1=>simp at fw;subst fw;simp only[GA.cell]at aj;split at aj<;>simp at aj
  | _+2=>simp at fw
 rcases Jf.row adp with⟨he,a,rfl⟩ | ⟨b,off,cap,arr,tb,da,sb,aA⟩
 ·
  have sa:xs=[]:=by simpa using he
  subst sa;have A0:=AnyF.slices_SortFunc_none Tryz.YU a 0 (.func (.func g) #[] #[]) w;change Calls prog 301 _ _ _ at A0;refine A0.mono ?_;rintro e aO ⟨rfl,rfl⟩;refine⟨_,rfl,ha.start lC,ω,fun _ _ h=>h,fun c aj=>?_,?_,⟨#[],rfl,rfl,fun i cm h=>by simp at h⟩⟩
  ·obtain⟨⟨t,q,U,_⟩,ax⟩:=Jf c aj;exact⟨⟨t,q,U⟩,ax⟩
  intro i j eJ k es cv fw aj
  match i with
  | 0=>
   simp only[kh,aV]at fw;subst fw;simp only[GA.cell]at aj;split at aj
   ·rename_i a1;subst a1;simp only[aV,eB.eO.injEq]at aj;obtain⟨rfl,_,rfl⟩:=aj;simp only[List.mergeSort_nil,List.map_nil];exact b0.nil _ _ a
   cases aj
  | 1=>simp at fw;subst fw;simp only[GA.cell]at aj;split at aj<;>simp at aj
  | _+2=>simp at fw
 have j4:ω b≠.bI:=by rw[da];simp
 rw[bl]at sb;have abK:CmpLays prog g #[] mT 5 pO b off xs.toArray.size w:=by
  intro m os Ip _ x y;have Q3:∀z:aq,uv (sortWorldK mT 5 w b off m Ip os) (.agg z.e) (.agg (mT z).toArray):=by
   intro z;refine⟨_,rfl,by simp[mT],fun i d aG=>?_⟩;obtain⟨v,rfl,bp⟩:=oq z d (ft aG);exact⟨v,by simp[mT,aG,D.um],.v _ _ bp⟩
  have ac7:pM (sortWorldK mT 5 w b off m Ip os):=(rQ.full (M8 j4) lC).laid;have:=ay x y (sortWorldK mT 5 w b off m Ip os) #[.agg (mT x).toArray,.agg (mT y).toArray] ac7 ⟨rfl,fun i cm hi=>by
   match i with
   | 0=>simp at hi;subst hi;exact⟨_,rfl,Q3 x⟩
   | 1=>simp at hi;subst hi;exact⟨_,rfl,Q3 y⟩
   | _+2=>simp at hi⟩
  simp only[Array.append_empty];refine this.mono ?_;rintro e aO ⟨v,rfl,av,⟨aDF,_,_,fi⟩⟩;have:v=.int .i64 (pO x y):=b0.ym fi;subst this;exact⟨rfl,azV av⟩
 have A0:=AnyQ.slices_SortFunc_total Tryz.YU 5 Tryz.isAgg68 Tryz.sizeOf68 mT hk h1 pO hO g #[] b off cap xs.toArray w abf abK (azX hk aA) (iB.1 aA.heap).1 (by simp;omega) jr;change Calls prog 301 _ _ _ at A0;rw[sb];refine A0.mono ?_;rintro e aO ⟨rfl,n,os,rfl⟩;have ep:=azo (n:=n) (os:=os) hk h1 aA RE;refine⟨_,rfl,(M8 j4).full lC,ω,fun _ _ h=>h,fun c aj=>?_,?_,⟨#[],rfl,rfl,fun i cm h=>by simp at h⟩⟩
 ·obtain⟨⟨t,q,U,_⟩,iD,iM,ax⟩:=Jf c aj;refine⟨⟨t,q,U⟩,?_⟩;by_cases gp:c=b
  ·subst gp;exact⟨_,_,ep.heap⟩
  have nE:c<w.heap.size:=(iB.1 ax).1;have pV:rQ ⟨w,fun x=>x=b,fun _=>(0,undef)⟩ (sortWorldK mT 5 w b off n (xs.mergeSort fun x y=>!(ltOf pO) y x).toArray os):=M8 rfl;exact⟨iD,iM,(pV.block c nE gp).trans ax⟩
 have:=kept da ep sb;rwa[sb]at this
instance:Inhabited gz:=⟨(by constructor<;>first | exact (0:Int) | exact⟨0,0⟩)⟩
end Go.Proofs.YtdchjefneblpgaaGreat
namespace Go.Proofs.YtdchjefneblpgaaGreat
open Go.Sx Go.RowKit Go.Sort Go.Proofs.Tryz
def Vy(s:gz):List Int:=[s.bd,s.dC]
def BO(r:aq):List Int:=[r.bq.bd,r.bq.dC,r.op,r.key,r.val]
def BP(a b:gz):Int:=kK (Vy a) (Vy b)
def gO(a b:aq):Int:=kK (BO a) (BO b)
theorem zZ:SWO (ltOf gO):=azJ BO 5 fun _=>rfl
theorem OV(x y:aq):ltOf gO x y=false->ltOf gO y x=false->x=y:=
 azK BO 5 (fun _=>rfl) (fun a b h=>by
  obtain⟨_,⟨_,_⟩,_,_⟩:=a;obtain⟨_,⟨_,_⟩,_,_⟩:=b;simp[BO]at h;simp[h]) x y
theorem azq(d:Int):lX [d]=d:=by
 rw[vw];split
 ·rename_i h;rw[h];rfl
 rfl
theorem Vz(a b:gz):BP a b=lX [hP a.bd b.bd,hP a.dC b.dC]:=rfl
theorem VA(a b:aq):gO a b=lX [BP a.bq b.bq,hP a.op b.op,hP a.key b.key,hP a.val b.val]:=by
 rw[Vz,Vo];rfl
theorem azr{P:Program}{g:Nat}(h:hD P g=true):∀args w,(callFunc g args).run P w=.ok (.enter g args) w:=by
 intro args w;unfold hD at h;split at h
 ·rename_i fn la;simp only[cx,gT,sT,gy]at h;have qO:fn.body≠none:=by intro e;rw[e]at h;simp at h
  simp[callFunc,la,h.1,qO]
 cases h
theorem azs(a b:gz):al 314 [.agg a.e,.agg b.e] [.one (I (BP a b))]:=by
 have ci:=tQ a.bd b.bd;have b6:=tQ a.dC b.dC;rw[Vz,vw,azq];split
 ·rename_i h;rw[h]at ci;exact ayf ⟨ci,rfl,b6,aa⟩
 rename_i h;exact aye ⟨ci,by simpa using h,aa⟩
theorem azt(a b:gz):al 313 [.agg a.e,.agg b.e] [.one (I (BP a b))]:=
 ayg ⟨M3 [a.bd,a.dC] [b.bd,b.dC] rfl (by simp),aa⟩
theorem VB(a b:aq):al 264 [.agg a.e,.agg b.e] [.one (I (gO a b))]:=by
 have ci:=azs a.bq b.bq;have b6:=tQ a.op b.op;have ct:=tQ a.key b.key;have fB:=tQ a.val b.val;rw[VA];generalize BP a.bq b.bq=hs at*;generalize hP a.op b.op=gS at*;generalize hP a.key b.key=rL at*;generalize hP a.val b.val=qq at*;have l:=gN (P:=prog) (c:=(ar f264 0)) [hs,gS,rL,qq] (fun d=>d != 0) (fun i=>xw hs gS rL qq i) (X:=fun _ d=>MR d) e0 (cH 0)
  (fun i d aG h=>ayi ⟨dt (by have:=aT aG;simp at this;omega),bD,by have:=aT aG;simp at this ⊢;omega,bE bh aG,h,⟨by omega,by have:=aT aG;simp at this;omega⟩,aa⟩)
  (fun i d aG h=>ayh ⟨dt (by have:=aT aG;simp at this;omega),bD,by have:=aT aG;simp at this ⊢;omega,bE bh aG,h,bD,by have:=aT aG;simp at this ⊢;omega,bE bh aG,aa⟩)
  (ayj ⟨rfl,aa⟩)
 unfold lX;rcases l with⟨h1,_,_,U⟩ | ⟨i,a,_,_,h1,_,_,U⟩
 ·rw[h1];exact ayl ⟨ci,b6,ct,fB,U,aa⟩
 rw[h1];exact ayk ⟨ci,b6,ct,fB,U,aa⟩
theorem azu(a b:aq):al 302 [.agg a.e,.agg b.e] [.one (I (gO a b))]:=by
 have ci:=azt a.bq b.bq;have b6:=M3 [a.op,a.key,a.val] [b.op,b.key,b.val] rfl (by simp);rw[VA,vw];split
 ·rename_i h;rw[h]at ci;exact ayn ⟨ci,rfl,b6,aa⟩
 rename_i h;exact aym ⟨ci,by simpa using h,aa⟩
theorem VC(x:aq)(S R:List aq)(n:Int)(ap:S.length+R.length+1<=8388608):∀(k:Nat) (y:aq),k<=S.length->∃fP,c5 prog (ar f165 1)
  (vu n k ((S.take k++y::(S.drop k++R)).map aq.e) x.op x.bq.bd x.bq.dC x.key x.val) (.exit 2)
  (Fo n ((S.take (mo (ltOf gO) x S k)++fP::(S.drop (mo (ltOf gO) x S k)++R)).map aq.e) (mo (ltOf gO) x S k:Nat) x.op x.bq.bd x.bq.dC x.key x.val)
 | 0,y,_=>⟨y,.last (cH 2) (axA ⟨dQ (by simp),aa⟩)⟩
 | k+1,y,hk=>by
  obtain⟨z,bi⟩:=c9 (xs:=S) (i:=k) (by omega);have e1:(((k+1:Nat):Int)-1).toNat=k:=by omega
  have hg:((S.take (k+1)++y::(S.drop (k+1)++R)).map aq.e)[(((k+1:Nat):Int)-1).toNat]?=some z.e:=by
   rw[e1,dq,ur (by simp;omega),gI,bm (by omega),bi];rfl
  have Jd:((S.take (k+1)++y::(S.drop (k+1)++R)).map aq.e)[(((k+1:Nat):Int)).toNat]?=some y.e:=by
   rw[k7,dq,qv (by simp;omega)];simp[ma,Nat.min_eq_left hk]
  have hlen:(↑((S.take (k+1)++y::(S.drop (k+1)++R)).map aq.e).length:Int)=S.length+R.length+1:=by simp;omega
  have mi:aD .i64 (((k+1:Nat):Int)-1):=⟨by omega,by omega⟩
  have uU:decide (((k+1:Nat):Int)>0)=true:=dt (by omega);simp only[mo,bi];by_cases aj:ltOf gO x z=true
  ·rw[bm aj];obtain⟨fP,bf⟩:=VC x S R n ap k z (by omega);refine⟨fP,.more ?_ bf⟩;have qN:decide (gO x z<0)=true:=aj;refine rJ (fun l=>vu n k l x.op x.bq.bd x.bq.dC x.key x.val) (rJ (fun i=>vu n i _ x.op x.bq.bd x.bq.dC x.key x.val) (axy ⟨uU,mi,by omega,by omega,hg,VB x z,qN,mi,by omega,by omega,hg,by omega,by omega,Jd,mi,aa⟩) (by omega:((k+1:Nat):Int)-1=k)) ?_;show List.set _ _ z.e=_;rw[k7,<-h6]
   congr 1
   rw[List.set_append_right _ _ (by simp;omega)];have nK:S[k]'(aT bi)=z:=by have:=bi;rw[fJ (aT bi)]at this;exact eW this
   simp only[ma,Nat.min_eq_left hk,Nat.sub_self,List.set_cons_zero];rw[List.take_succ_eq_append_getElem (aT bi),nK,<-List.getElem_cons_drop (aT bi),nK];simp
  rw[bk aj];have qN:decide (gO x z<0)=false:=by simpa[ltOf]using aj
  exact⟨y,.last (cH 2) (axz ⟨uU,mi,by omega,by omega,hg,VB x z,qN,aa⟩)⟩
theorem M9(xs:List aq)(ap:xs.length<=8388608):al 165 [.one (.J 5 (xs.map aq.e))] [.one (.J 5 ((jh (ltOf gO) xs).map aq.e))]:=by
 have hlen:∀ys:List aq,(jh (ltOf gO) ys).length=ys.length:=fun ys=>by simp[jh,M7]
 let f:=fun i:Nat=>qj i ((jh (ltOf gO) (xs.take i)++xs.drop i).map aq.e)
 have step:∀i,1<=i->i<xs.length->fT prog (ar f165 0) (f i) .normal (f (i+1)):=by
  intro i _ hi;obtain⟨x,ah⟩:=c9 hi;have Bs:xs[i]=x:=by rw[fJ hi]at ah;exact eW ah
  have AW:(jh (ltOf gO) (xs.take i)).length=i:=by rw[hlen,ma];omega
  have bu:∀S:List aq,S.length=i->S++xs.drop i=S.take i++x::(S.drop i++xs.drop (i+1)):=by
   intro S h;rw[sS (l:=S) (by omega),List.drop_eq_nil_of_le (show S.length<=i by omega),List.nil_append,<-List.getElem_cons_drop hi,Bs]
  show fT _ _ (qj i _) _ (qj (i+1:Nat) _);rw[azO ah,p5,AW,bu _ AW];generalize jh (ltOf gO) (xs.take i)=S at*;have bz:S.length+(xs.drop (i+1)).length+1=xs.length:=by simp;omega
  obtain⟨fP,bf⟩:=VC x S (xs.drop (i+1)) i (by omega) i x (by omega);have hp:=M6 (ltOf gO) x S i;generalize mo (ltOf gO) x S i=p at*;have hg:((S.take i++x::(S.drop i++xs.drop (i+1))).map aq.e)[((i:Nat):Int).toNat]?=some x.e:=by
   rw[k7,dq,qv (by simp;omega)];simp[ma,Nat.min_eq_left (show i<=S.length by omega)]
  have Jd:((S.take p++fP::(S.drop p++xs.drop (i+1))).map aq.e)[((p:Nat):Int).toNat]?=some fP.e:=by
   rw[k7,dq,qv (by simp;omega)];simp[ma,Nat.min_eq_left (show p<=S.length by omega)]
  have iu:(↑((S.take i++x::(S.drop i++xs.drop (i+1))).map aq.e).length:Int)=xs.length:=by simp;omega
  have c4:(↑((S.take p++fP::(S.drop p++xs.drop (i+1))).map aq.e).length:Int)=xs.length:=by simp;omega
  refine rJ (qj ((i+1:Nat):Int)) (axB ⟨dt (by omega),by omega,by omega,hg,bf,by omega,by omega,Jd,⟨by omega,by omega⟩,aa⟩) ?_;show List.set _ _ x.e=_;rw[k7,<-h6]
  congr 1
  rw[List.set_append_right _ _ (by simp;omega)];simp[ma,Nat.min_eq_left (show p<=S.length by omega)]
 have l:c5 prog (ar f165 0) (qj 1 (xs.map aq.e)) (.exit 0) (Fp ((jh (ltOf gO) xs).map aq.e)):=by
  rcases Nat.eq_zero_or_pos xs.length with bG | bG
  ·have ah:xs=[]:=sV bG;rw[ah];exact .last (cH 0) (Ub ⟨rfl,aa⟩)
  have e:=aw7 (P:=prog) (c:=(ar f165 0)) (cH 0) 1 xs.length f bG step (stE:=Fp ((jh (ltOf gO) xs).map aq.e)) (by
   show fT _ _ (qj _ _) _ _;rw[k5,List.drop_length,kE];exact Ub ⟨dQ (by rw[bl,hlen];omega),aa⟩)
  have e1:jh (ltOf gO) (xs.take 1)++xs.drop 1=xs:=by
   obtain⟨a,ys,rfl⟩:=List.exists_cons_of_length_pos bG;rfl
  have e2:f 1=qj 1 (xs.map aq.e):=by
   show qj _ _=_;rw[e1];rfl
  rw[e2]at e;exact e
 exact axC ⟨by simp;omega,by simp;omega,ch _ aq.flat _,l,aa⟩
theorem yW(xs:List aq)(ap:xs.length<=8388608):al 233 [.one (.J 5 (xs.map aq.e))] [.one (.J 5 (xs.map aq.e))]:=
 awG ⟨by simp;omega,by simp;omega,ch _ aq.flat _,aa⟩
theorem M'(xs:List aq)(ap:xs.length<=8388608):al 236 [.one (.J 5 (xs.map aq.e))] [.one (.J 5 ((jh (ltOf gO) xs).map aq.e))]:=by
 have s:=azp xs gO zZ OV 302 (azr (by kernel_rfl)) azu ap;rw[azN zZ OV];exact axD ⟨yW xs ap,s,aa⟩
theorem BQ(xs:List aq):(jh (ltOf gO) xs).length=xs.length:=by simp[jh,M7]
def iH(w:aP):List aq:=w.queue++w.cj
def hQ(c:a'):List aq:=c.az.flatMap iH++c.bP.flatMap bw.queue
def fc(c:a'):List aq:=jh (ltOf gO) (hQ c)
theorem BR{α β:Type}(f:α->List β)(sz:α->Nat)(h:∀a,(f a).length<=sz a):∀xs:List α,(xs.flatMap f).length<=(xs.map sz).sum
 | []=>by simp
 | a::xs=>by
  have:=BR f sz h xs;have:=h a;simp only[List.flatMap_cons,fF,l',we];omega
theorem Fw{α β:Type}(f:α->List β)(xs:List α)(i:Nat):((xs.take i).flatMap f).length<=(xs.flatMap f).length:=by
 have:xs.flatMap f=(xs.take i).flatMap f++(xs.drop i).flatMap f:=by rw[<-List.flatMap_append,Ak]
 rw[this,fF];omega
theorem Fx{α β:Type}(f:α->List β){xs:List α}{i:Nat}{a:α}(h:xs[i]?=some a):(xs.take (i+1)).flatMap f=(xs.take i).flatMap f++f a:=by
 simp[uq,h]
variable{c:a'}
theorem a'.OU(h:c.sz<=8388608):(c.az.flatMap iH).length+(c.az.flatMap aP.bO).length+(c.bP.flatMap bw.queue).length<=8388608:=by
 have h1:=BR (fun w=>iH w++w.bO) aP.sz (fun w=>by simp only[aP.sz,iH,fF];omega) c.az;have U:=BR bw.queue bw.sz (fun l=>by simp only[bw.sz];omega) c.bP;have ax:(c.az.flatMap fun w=>iH w++w.bO).length=(c.az.flatMap iH).length+(c.az.flatMap aP.bO).length:=by
  generalize c.az=ws;induction ws with
  | nil=>rfl
  | cons w ws ee=>simp only[List.flatMap_cons,fF,ee];omega
 simp only[a'.sz,fs]at h;omega
theorem Mj(h:c.sz<=8388608):(hQ c).length+(c.az.flatMap aP.bO).length<=8388608:=by
 have:=a'.OU h;simp only[hQ,fF];omega
theorem VD(c:a'):(fc c).length=(hQ c).length:=BQ _
theorem VE(h:c.sz<=8388608):(fc c).length<=8388608:=by
 have:=Mj h;rw[VD];omega
theorem a'.x5(h:c.sz<=8388608):c.az.length<=8388608:=by simp only[a'.sz,fs]at h;omega
theorem a'.yR(h:c.sz<=8388608):c.bP.length<=8388608:=by simp only[a'.sz,fs]at h;omega
theorem VF(c:a')(aj:c.sz<=8388608):al 38 [.agg c.e] [.one (.J 5 ((fc c).map aq.e))]:=by
 have acV:=a'.OU aj;have ea:=fC (P:=prog) (c:=(ar f38 0)) (cH 0) c.az.length (fun i:Nat=>zm (c.aE.nodes.map Node.e) c.aE.az c.aE.cap (c.az.map aP.e) (c.bP.map bw.e) (c.tokens.map b4.e) (c.news.map b1.e) i (((c.az.take i).flatMap iH).map aq.e)) (fun i hi=>by
  obtain⟨w,hw⟩:=c9 hi;have h1:=Fx iH hw;have U:=Fw iH c.az (i+1);have aF:((c.az.take i).flatMap iH).length+w.queue.length+w.cj.length<=8388608:=by
   rw[h1,fF,iH,fF]at U;omega
  refine rJ (zm _ _ _ _ _ _ _ _) (axE ⟨b5 hi,bD,bK hi,bE aP.e hw,by simp only[bl];omega,by simp only[bl];omega,ch _ aq.flat _,bD,bK hi,bE aP.e hw,by simp only[bl,fF];omega,by simp only[bl,fF];omega,ch _ aq.flat _,dj hi (a'.x5 aj),aa⟩) ?_;rw[h1,iH];simp only[fQ,oM]) (axF ⟨dT,aa⟩)
 have gr:=fC (P:=prog) (c:=(ar f38 1)) (cH 2) c.bP.length (fun i:Nat=>zn (c.aE.nodes.map Node.e) c.aE.az c.aE.cap (c.az.map aP.e) (c.bP.map bw.e) (c.tokens.map b4.e) (c.news.map b1.e) i ((c.az.flatMap iH++(c.bP.take i).flatMap bw.queue).map aq.e)) (fun i hi=>by
  obtain⟨l,qX⟩:=c9 hi;have h1:=Fx bw.queue qX;have U:=Fw bw.queue c.bP (i+1);have aF:(c.az.flatMap iH).length+((c.bP.take i).flatMap bw.queue).length+l.queue.length<=8388608:=by
   rw[h1,fF]at U;omega
  refine rJ (zn _ _ _ _ _ _ _ _) (axG ⟨b5 hi,bD,bK hi,bE bw.e qX,by simp only[bl,fF];omega,by simp only[bl,fF];omega,ch _ aq.flat _,dj hi (a'.yR aj),aa⟩) ?_;rw[h1];simp only[fQ,oM]) (axH ⟨dT,aa⟩)
 rw[k5]at ea gr;simp only[List.take_zero,DC,kE]at ea gr;exact axI ⟨ea,gr,M9 (hQ c) (by have:=Mj aj;omega),aa⟩
theorem VG(c:a')(aj:c.sz<=8388608):al 103 [.agg c.e] [.one (.J 5 ((fc c).map aq.e))]:=by
 have acV:=a'.OU aj;have ea:=fC (P:=prog) (c:=(ar f103 0)) (cH 0) c.az.length (fun i:Nat=>zo (c.az.map aP.e) i (((c.az.take i).flatMap iH).map aq.e) (c.aE.nodes.map Node.e) c.aE.az c.aE.cap (c.az.map aP.e) (c.bP.map bw.e) (c.tokens.map b4.e) (c.news.map b1.e)) (fun i hi=>by
  obtain⟨w,hw⟩:=c9 hi;have h1:=Fx iH hw;have U:=Fw iH c.az (i+1);have aF:((c.az.take i).flatMap iH).length+w.queue.length+w.cj.length<=8388608:=by
   rw[h1,fF,iH,fF]at U;omega
  refine rJ (fun l=>zo _ _ l _ _ _ _ _ _ _) (axJ ⟨b5 hi,bD,bK hi,bE aP.e hw,by simp only[bl];omega,by simp only[bl];omega,ch _ aq.flat _,by simp only[bl,fF];omega,by simp only[bl,fF];omega,ch _ aq.flat _,dj hi (a'.x5 aj),aa⟩) ?_;rw[h1,iH];simp only[fQ,oM]) (axK ⟨dT,aa⟩)
 have gr:=fC (P:=prog) (c:=(ar f103 1)) (cH 2) c.bP.length (fun i:Nat=>zp (c.bP.map bw.e) i ((c.az.flatMap iH++(c.bP.take i).flatMap bw.queue).map aq.e)) (fun i hi=>by
  obtain⟨l,qX⟩:=c9 hi;have h1:=Fx bw.queue qX;have U:=Fw bw.queue c.bP (i+1);have aF:(c.az.flatMap iH).length+((c.bP.take i).flatMap bw.queue).length+l.queue.length<=8388608:=by
   rw[h1,fF]at U;omega
  refine rJ (zp _ _) (axL ⟨b5 hi,bD,bK hi,bE bw.e qX,by simp only[bl,fF];omega,by simp only[bl,fF];omega,ch _ aq.flat _,dj hi (a'.yR aj),aa⟩) ?_;rw[h1];simp only[fQ,oM]) (axM ⟨dT,aa⟩)
 rw[k5]at ea gr;simp only[List.take_zero,DC,kE]at ea gr;exact axN ⟨ea,gr,M' (hQ c) (by have:=Mj aj;omega),aa⟩
end Go.Proofs.YtdchjefneblpgaaGreat
namespace Go.Proofs.YtdchjefneblpgaaGreat
open Go.Sx Go.RowKit Go.Proofs.Tryz
def ja(w:aP)(e:Int):Bool:=w.b8.any fun d=>d.bd==e
theorem aP.QN{w:aP}(h:w.sz<=8388608):w.b8.length<=8388608:=by simp only[aP.sz]at h;omega
theorem a'.G6{c:a'}(h:c.sz<=8388608){w:aP}(ap:w∈c.az):w.sz<=8388608:=by
 have:=Cg (sz:=aP.sz) ap;simp only[a'.sz,fs]at h;omega
theorem azv(w:aP)(e:Int)(hw:w.sz<=8388608):al 213 [.agg w.e,.one (I e)] [.one (B (ja w e))]:=by
 have ap:=aP.QN hw;have l:=gN (P:=prog) (c:=(ar f213 0)) w.b8 (fun d=>d.bd==e) (fun i=>w3 (w.queue.map aq.e) (w.cj.map aq.e) (w.bO.map aq.e) (w.cells.map Cell.e) (w.bL.map bh) (w.bU.map cD) (w.bx.map cD) (w.b8.map cR.e) e i) (X:=fun _ _=>MS true) e0 (cH 0)
  (fun i a ak h=>axX ⟨b5 (aT ak),bD,bK (aT ak),bE cR.e ak,h,dj (aT ak) ap,aa⟩)
  (fun i a ak h=>axW ⟨b5 (aT ak),bD,bK (aT ak),bE cR.e ak,h,aa⟩)
  (axo ⟨dT,aa⟩)
 unfold ja;rcases l with⟨_,_,h1,U⟩ | ⟨i,a,_,_,_,_,h1,U⟩
 ·rw[h1];exact axq ⟨U,aa⟩
 rw[h1];exact axp ⟨U,aa⟩
theorem VH(xs:List cR)(e:Int)(ap:xs.length<=8388608):al 281 [.one (.J 2 (xs.map cR.e)),.one (I e)] [.one (B (xs.any fun d=>d.bd==e))]:=
 axr ⟨azS xs (fun d=>d.bd==e) _ _ ap (by kernel_rfl) (fun x _=>axs trivial),aa⟩
theorem azw(w:aP)(e:Int)(hw:w.sz<=8388608):al 210 [.agg w.e,.one (I e)] [.one (B (ja w e))]:=
 axt ⟨VH w.b8 e (aP.QN hw),aa⟩
def Aa(c:a')(e:Int):Bool:=c.az.any fun w=>ja w e
def sP(c:a')(e:Int):Bool:=c.news.any fun x=>x.bd==e
theorem Mk(w:aP)(e:Int)(r:Bool)(h:ja w e=r)(hw:w.sz<=8388608):al 213 [.agg w.e,.one (I e)] [.one (B r)]:=h▸azv w e hw
theorem R8{α:Type}{f:α->List D}(xs:List α)(b:Bool)(h:decide (xs.length=0)=b):((↑(xs.map f).length:Int)==0)=b:=by
 subst h;by_cases h:xs.length=0
 ·simp[h]
 rw[show decide (xs.length=0)=false from dQ h];simp only[bl,sT,gy];omega
end Go.Proofs.YtdchjefneblpgaaGreat
namespace Go.Proofs.YtdchjefneblpgaaGreat
open Go.Sx Go.RowKit Go.Shelf Go.Lib Go.Proofs.Tryz
theorem VI{P:Program}{ops:Array Oper}{o:Oper}{a:Act}{w:World}{K:Act->World->Prop}{Q:Exit->Act->World->Prop}{E:Prop}
  (ay:o.guard=none) (x y:Operand) (YY ty:TypeId) (q0:o.op=Op.call { callee:=Callee.builtin Builtin.append,args:=#[x,y],argTypes:=#[YY,ty] })
  (v u:Value) (ah:a.eval x=v) (bf:a.eval y=u) {nh:Value} {aO:World} (aA:(Builtin.append_ #[YY,ty] o.type #[v,u]).run P w=.ok nh aO) (gW:K (a.put o.dst nh) aO):
  if Region.wanted o (yielded ops a.tmps)=true then Oper.wp P o a w K Q else E:=by
 have hw:Region.wanted o (yielded ops a.tmps)=true:=by simp[Region.wanted,ay]
 rw[bm hw];unfold Oper.wp;simp[execOp,q0,resolve,invoke,builtin,ah,bf,aA,Result.andThen];exact gW
theorem Fy{arr:Array Value}{p m j:Nat}{v:Value}(h:((arr.toList.drop p).take m)[j]?=some v):arr[p+j]?=some v/\j<m:=by
 rw[gI]at h;split at h
 ·rw[gH,iO]at h;exact⟨h,‹_›⟩
 cases h
theorem cell_of_heap{w:World}{b:Nat}{arr:Array Value}{tb:TypeId}(av:w.heap[b]?=some (.cells arr tb (0,0))){x:Nat}{v:Value}(h:arr[x]?=some v):w.cell? ⟨b,x,none⟩=some v:=by
 simp[World.cell?,av,h]
set_option maxHeartbeats 4000000 in
set_option maxRecDepth 1000000 in
theorem azx(b off n cap i j:Nat)(arr:Array Value)(tb:TypeId)(w:World)(av:w.heap[b]?=some (.cells arr tb (0,0)))(aX:n<=cap)(dI:off+cap*5<=arr.size)(lf:i<j)(a1:j<=n)
  (h1:∀x v,off<=x->x<off+n*5->arr[x]?=some v->v.oneCell'=true):
  Calls prog 235 #[.slice (some ⟨b,off,none⟩) n cap,.int .i64 i,.int .i64 j] w fun e aO=>e=.returned (.slice (some ⟨b,off,none⟩) (i+(n-j)) cap)/\
   ∃zs:List Value,zs.length=(n-(i+(n-j)))*5/\aO=(w.drew.setRow b (laid arr (off+i*5) ((arr.toList.drop (off+j*5)).take ((n-j)*5)))).setRow b (laid (laid arr (off+i*5) ((arr.toList.drop (off+j*5)).take ((n-j)*5))) (off+(i+(n-j))*5) zs):=by
 obtain⟨news,hK⟩:∃news,news=(arr.toList.drop (off+j*5)).take ((n-j)*5):=⟨_,rfl⟩
 have pZ:news.length=(n-j)*5:=by rw[hK];simp;omega
 have wN:∀u∈news,u.oneCell'=true:=by
  intro u hu;obtain⟨x,ah⟩:=nj.1 hu;rw[hK]at ah;obtain⟨U,ax⟩:=Fy ah;exact h1 _ u (by omega) (by omega) U
 rw[<-hK];obtain⟨dr,nB⟩:∃dr,dr=laid arr (off+i*5) news:=⟨_,rfl⟩
 have kq:dr.size=arr.size:=by rw[nB];exact oA (by omega)
 obtain⟨gV,kM⟩:∃gV,gV=w.drew.setRow b dr:=⟨_,rfl⟩
 have fZ:gV.heap[b]?=some (.cells dr tb (0,0)):=by rw[kM];exact setRow_heap w.drew b arr dr tb (0,0) av
 obtain⟨zs,lh,uP⟩:=LY (P:=prog) gV 27 68 0 _ (by kernel_rfl) (by rfl) b (off+(i+(n-j))*5) (n-(i+(n-j))) (cap-(i+(n-j))) dr tb fZ (by show off+(i+(n-j))*5+(n-(i+(n-j)))*5<=dr.size;omega) (by decide);rw[bk (by omega)]at uP;obtain⟨mc,nC⟩:∃mc,mc=gV.setRow b (laid dr (off+(i+(n-j))*5) zs):=⟨_,rfl⟩
 rw[<-nC]at uP;have c':(prog.info? 68).map (·.size)=some 5:=by kernel_rfl
 have fx:prog.underlying 27=some (.slice 68):=by kernel_rfl
 have r0:∀ty,(Builtin.append_ #[27,27] ty #[.slice (some ⟨b,off,none⟩) i cap,.slice (if cap=j then some ⟨b,off,none⟩ else some ⟨b,off+j*5,none⟩) (n-j) (cap-j)]).run prog w.drew=.ok (.slice (some ⟨b,off,none⟩) (i+(n-j)) cap) gV:=by
  intro ty;cases hi:prog.info? 68 with
  | none=>rw[hi]at c';cases c'
  | some i0=>
   rw[hi]at c';have aZ:i0.size=5:=by simpa using c'
   have key:∀cm:Addr,(∀x u,news[x]?=some u->w.drew.cell? (cm.add x)=some u)->(Builtin.append_ #[27,27] ty #[.slice (some ⟨b,off,none⟩) i cap,.slice (some cm) (n-j) (cap-j)]).run prog w.drew=.ok (.slice (some ⟨b,off,none⟩) (i+(n-j)) cap) gV:=by
    intro cm AX;have:=B0 (P:=prog) (t:=27) (ty:=ty) fx hi w.drew b off i cap arr tb av cm (n-j) (cap-j) news (by rw[pZ,aZ]) AX wN (by omega) (by rw[aZ];omega);rw[this,kM,nB,aZ];rfl
   split
   ·refine key _ fun x u ah=>?_
    have bG:news.length=0:=by rw[pZ];have:n-j=0:=(by omega);rw[this]
    rw[List.length_eq_zero_iff.1 bG]at ah;simp at ah
   refine key _ fun x u ah=>?_
   rw[hK]at ah;obtain⟨U,_⟩:=Fy ah;rw[Addr.add_lit];exact cell_of_heap (w:=w.drew) av U
 have X:Aside (mc=(w.drew.setRow b dr).setRow b (laid dr (off+(i+(n-j))*5) zs)):=by rw[nC,kM];trivial
 have abr:i+(n-j)<n:=by omega
 have Rl:i<=cap:=by omega
 have aco:j<=cap:=by omega
 have mixed:prog.follows .mixedOrders=true:=by kernel_rfl
 clear kM nC fZ av hK pZ wN kq c' fx h1
 go_enter func235,Tryz.ntmps235
 go_wp2_with fail
 go_region_law_o (refine VI rfl (.tmp 22) (.tmp 25) 27 27 rfl _ _ (by simp[Act.eval,Act.put]) (by simp[Act.eval,Act.put]) (r0 _) ?_)
 go_wp2
 all_goals (go_ret;exact⟨rfl,zs,lh,by rw[<-nB];exact X⟩)
theorem aq.uF(xs:List aq):xs.map aq.e=fY (xs.map fun r=>r.e.map D.um):=by
 simp only[fY,List.map_map];rfl
theorem aAY(es:List (List Value))(i j:Nat)(lf:i<j)(a1:j<=es.length):jo prog 235 [.one (.eO 5 (fY es) none),.one (.ro (I i)),.one (.ro (I j))] [.one (.J 5 (fY (es.take i++es.drop j)))]:=by
 rintro w vs ω ⟨ay,aX,ak⟩ lC;obtain⟨y,bf,j6⟩:=ak 0 _ rfl;obtain⟨g',f',Bl⟩:=ak 1 _ rfl;obtain⟨kf,eY,JC⟩:=ak 2 _ rfl;have e1:g'=.int .i64 i:=b0.ym Bl;have e2:kf=.int .i64 j:=b0.ym JC;subst e1;subst e2;have nJ:=H7 aX bf f' eY;subst nJ;rcases ay.row j6 with⟨rfl,_⟩ | ⟨b,off,cap,arr,tb,da,rfl,aA⟩
 ·simp at a1;omega
 have j4:ω b≠.bI:=by rw[da];simp
 have lV:=aA.room;have dI:=aA.fit;have h1:∀x v,off<=x->x<off+es.length*5->arr[x]?=some v->v.oneCell'=true:=by
  intro x v o' iV bp;have bz:(x-off) / 5<es.length:=by omega
  have he:=fJ bz;have hlen:=aA.len _ (nn bz);have hJ:(x-off) % 5<(es[(x-off) / 5]).length:=by omega
  have:=aA.cell _ _ _ _ he (fJ hJ);rw[show off+(x-off) / 5*5+(x-off) % 5=x by omega,bp]at this;rw[eW this];exact aA.one _ (nn bz) _ (nn hJ)
 refine (azx b off es.length cap i j arr tb w aA.heap lV dI lf a1 h1).mono ?_;rintro e aO ⟨rfl,zs,Bv,rfl⟩;obtain⟨news,hK⟩:∃news,news=(arr.toList.drop (off+j*5)).take ((es.length-j)*5):=⟨_,rfl⟩
 rw[<-hK];have pZ:news.length=(es.length-j)*5:=by rw[hK];simp;omega
 have iu:off+i*5+news.length<=arr.size:=by omega
 have kq:=oA iu;have c4:off+(i+(es.length-j))*5+zs.length<=(laid arr (off+i*5) news).size:=by omega
 have wJ:(es.take i++es.drop j).length=i+(es.length-j):=by simp;omega
 have cz:As w ((w.drew.setRow b (laid arr (off+i*5) news)).setRow b (laid (laid arr (off+i*5) news) (off+(i+(es.length-j))*5) zs)) (fun b=>ω b≠.bI) 5 (es.take i++es.drop j) (.slice (some ⟨b,off,none⟩) (i+(es.length-j)) cap):=by
  refine⟨MK j4 _ _,.inr ⟨b,off,cap,_,tb,.inl j4,by rw[wJ],?_,by omega,by rw[oA c4,kq];exact dI,?_,?_,?_⟩⟩
  ·exact setRow_heap _ b _ _ tb (0,0) (setRow_heap w.drew b arr _ tb (0,0) aA.heap)
  ·intro e he;rcases ki.1 he with h | h
   ·exact aA.len e (qx h)
   exact aA.len e (rP h)
  ·intro e he;rcases ki.1 he with h | h
   ·exact aA.one e (qx h)
   exact aA.one e (rP h)
  intro x y e v ah bp;have gi:=(ek.1 ah).1;rw[wJ]at gi;have bf:y<5:=by
   have U:=(ek.1 bp).1;have:e.length=5:=by
    have:=ft ah;rcases ki.1 this with h | h
    ·exact aA.len e (qx h)
    exact aA.len e (rP h)
   omega
  rw[l0 c4,bk (by omega),l0 iu];by_cases Bs:x<i
  ·rw[bk (by omega)];refine aA.cell x y e v ?_ bp;rwa[ur (by simp;omega),gI,bm Bs]at ah
  rw[bm (by omega),hK,gI,bm (by omega),gH,iO];have:(es.take i).length=i:=by simp;omega
  rw[qv (by omega),this,gH]at ah;have:=aA.cell (j+(x-i)) y e v ah bp;rw[<-this]
  congr 1
  omega
 obtain⟨bc,U,ax,aF⟩:=cz.res;refine⟨_,rfl,cz.Ii.full lC,bc,U,ax,MJ ?_,aF⟩;intro fy kQ eJ k dS cv fw aj
 match fy with
 | 0=>simp at fw;subst fw;simp only[GA.cell]at aj;split at aj<;>simp at aj
 | 1=>simp at fw;subst fw;simp only[GA.cell]at aj;split at aj<;>simp at aj
 | 2=>simp at fw;subst fw;simp only[GA.cell]at aj;split at aj<;>simp at aj
 | _+3=>simp at fw
theorem aAZ(xs:List aq)(i j:Nat)(lf:i<j)(a1:j<=xs.length):jo prog 235 [.one (.eO 5 (xs.map aq.e) none),.one (.ro (I i)),.one (.ro (I j))] [.one (.J 5 ((xs.take i++xs.drop j).map aq.e))]:=by
 have:=aAY (xs.map fun r=>r.e.map D.um) i j lf (by simpa using a1);rw[aq.uF,aq.uF];simpa using this
set_option maxHeartbeats 4000000 in
set_option maxRecDepth 1000000 in
theorem aA0(b off n cap i j:Nat)(arr:Array Value)(tb:TypeId)(w:World)(av:w.heap[b]?=some (.cells arr tb (0,0)))(aX:n<=cap)(dI:off+cap*3<=arr.size)(lf:i<j)(a1:j<=n)
  (h1:∀x v,off<=x->x<off+n*3->arr[x]?=some v->v.oneCell'=true):
  Calls prog 296 #[.slice (some ⟨b,off,none⟩) n cap,.int .i64 i,.int .i64 j] w fun e aO=>e=.returned (.slice (some ⟨b,off,none⟩) (i+(n-j)) cap)/\
   ∃zs:List Value,zs.length=(n-(i+(n-j)))*3/\aO=(w.drew.setRow b (laid arr (off+i*3) ((arr.toList.drop (off+j*3)).take ((n-j)*3)))).setRow b (laid (laid arr (off+i*3) ((arr.toList.drop (off+j*3)).take ((n-j)*3))) (off+(i+(n-j))*3) zs):=by
 obtain⟨news,hK⟩:∃news,news=(arr.toList.drop (off+j*3)).take ((n-j)*3):=⟨_,rfl⟩
 have pZ:news.length=(n-j)*3:=by rw[hK];simp;omega
 have wN:∀u∈news,u.oneCell'=true:=by
  intro u hu;obtain⟨x,ah⟩:=nj.1 hu;rw[hK]at ah;obtain⟨U,ax⟩:=Fy ah;exact h1 _ u (by omega) (by omega) U
 rw[<-hK];obtain⟨dr,nB⟩:∃dr,dr=laid arr (off+i*3) news:=⟨_,rfl⟩
 have kq:dr.size=arr.size:=by rw[nB];exact oA (by omega)
 obtain⟨gV,kM⟩:∃gV,gV=w.drew.setRow b dr:=⟨_,rfl⟩
 have fZ:gV.heap[b]?=some (.cells dr tb (0,0)):=by rw[kM];exact setRow_heap w.drew b arr dr tb (0,0) av
 obtain⟨zs,lh,uP⟩:=LY (P:=prog) gV 34 181 0 _ (by kernel_rfl) (by rfl) b (off+(i+(n-j))*3) (n-(i+(n-j))) (cap-(i+(n-j))) dr tb fZ (by show off+(i+(n-j))*3+(n-(i+(n-j)))*3<=dr.size;omega) (by decide);rw[bk (by omega)]at uP;obtain⟨mc,nC⟩:∃mc,mc=gV.setRow b (laid dr (off+(i+(n-j))*3) zs):=⟨_,rfl⟩
 rw[<-nC]at uP;have c':(prog.info? 181).map (·.size)=some 3:=by kernel_rfl
 have fx:prog.underlying 34=some (.slice 181):=by kernel_rfl
 have r0:∀ty,(Builtin.append_ #[34,34] ty #[.slice (some ⟨b,off,none⟩) i cap,.slice (if cap=j then some ⟨b,off,none⟩ else some ⟨b,off+j*3,none⟩) (n-j) (cap-j)]).run prog w.drew=.ok (.slice (some ⟨b,off,none⟩) (i+(n-j)) cap) gV:=by
  intro ty;cases hi:prog.info? 181 with
  | none=>rw[hi]at c';cases c'
  | some i0=>
   rw[hi]at c';have aZ:i0.size=3:=by simpa using c'
   have key:∀cm:Addr,(∀x u,news[x]?=some u->w.drew.cell? (cm.add x)=some u)->(Builtin.append_ #[34,34] ty #[.slice (some ⟨b,off,none⟩) i cap,.slice (some cm) (n-j) (cap-j)]).run prog w.drew=.ok (.slice (some ⟨b,off,none⟩) (i+(n-j)) cap) gV:=by
    intro cm AX;have:=B0 (P:=prog) (t:=34) (ty:=ty) fx hi w.drew b off i cap arr tb av cm (n-j) (cap-j) news (by rw[pZ,aZ]) AX wN (by omega) (by rw[aZ];omega);rw[this,kM,nB,aZ];rfl
   split
   ·refine key _ fun x u ah=>?_
    have bG:news.length=0:=by rw[pZ];have:n-j=0:=(by omega);rw[this]
    rw[List.length_eq_zero_iff.1 bG]at ah;simp at ah
   refine key _ fun x u ah=>?_
   rw[hK]at ah;obtain⟨U,_⟩:=Fy ah;rw[Addr.add_lit];exact cell_of_heap (w:=w.drew) av U
 have X:Aside (mc=(w.drew.setRow b dr).setRow b (laid dr (off+(i+(n-j))*3) zs)):=by rw[nC,kM];trivial
 have abr:i+(n-j)<n:=by omega
 have Rl:i<=cap:=by omega
 have aco:j<=cap:=by omega
 have mixed:prog.follows .mixedOrders=true:=by kernel_rfl
 clear kM nC fZ av hK pZ wN kq c' fx h1
 go_enter func296,Tryz.ntmps296
 go_wp2_with fail
 go_region_law_o (refine VI rfl (.tmp 22) (.tmp 25) 34 34 rfl _ _ (by simp[Act.eval,Act.put]) (by simp[Act.eval,Act.put]) (r0 _) ?_)
 go_wp2
 all_goals (go_ret;exact⟨rfl,zs,lh,by rw[<-nB];exact X⟩)
theorem b1.uF(xs:List b1):xs.map b1.e=fY (xs.map fun r=>r.e.map D.um):=by
 simp only[fY,List.map_map];rfl
theorem aA1(es:List (List Value))(i j:Nat)(lf:i<j)(a1:j<=es.length):jo prog 296 [.one (.eO 3 (fY es) none),.one (.ro (I i)),.one (.ro (I j))] [.one (.J 3 (fY (es.take i++es.drop j)))]:=by
 rintro w vs ω ⟨ay,aX,ak⟩ lC;obtain⟨y,bf,j6⟩:=ak 0 _ rfl;obtain⟨g',f',Bl⟩:=ak 1 _ rfl;obtain⟨kf,eY,JC⟩:=ak 2 _ rfl;have e1:g'=.int .i64 i:=b0.ym Bl;have e2:kf=.int .i64 j:=b0.ym JC;subst e1;subst e2;have nJ:=H7 aX bf f' eY;subst nJ;rcases ay.row j6 with⟨rfl,_⟩ | ⟨b,off,cap,arr,tb,da,rfl,aA⟩
 ·simp at a1;omega
 have j4:ω b≠.bI:=by rw[da];simp
 have lV:=aA.room;have dI:=aA.fit;have h1:∀x v,off<=x->x<off+es.length*3->arr[x]?=some v->v.oneCell'=true:=by
  intro x v o' iV bp;have bz:(x-off) / 3<es.length:=by omega
  have he:=fJ bz;have hlen:=aA.len _ (nn bz);have hJ:(x-off) % 3<(es[(x-off) / 3]).length:=by omega
  have:=aA.cell _ _ _ _ he (fJ hJ);rw[show off+(x-off) / 3*3+(x-off) % 3=x by omega,bp]at this;rw[eW this];exact aA.one _ (nn bz) _ (nn hJ)
 refine (aA0 b off es.length cap i j arr tb w aA.heap lV dI lf a1 h1).mono ?_;rintro e aO ⟨rfl,zs,Bv,rfl⟩;obtain⟨news,hK⟩:∃news,news=(arr.toList.drop (off+j*3)).take ((es.length-j)*3):=⟨_,rfl⟩
 rw[<-hK];have pZ:news.length=(es.length-j)*3:=by rw[hK];simp;omega
 have iu:off+i*3+news.length<=arr.size:=by omega
 have kq:=oA iu;have c4:off+(i+(es.length-j))*3+zs.length<=(laid arr (off+i*3) news).size:=by omega
 have wJ:(es.take i++es.drop j).length=i+(es.length-j):=by simp;omega
 have cz:As w ((w.drew.setRow b (laid arr (off+i*3) news)).setRow b (laid (laid arr (off+i*3) news) (off+(i+(es.length-j))*3) zs)) (fun b=>ω b≠.bI) 3 (es.take i++es.drop j) (.slice (some ⟨b,off,none⟩) (i+(es.length-j)) cap):=by
  refine⟨MK j4 _ _,.inr ⟨b,off,cap,_,tb,.inl j4,by rw[wJ],?_,by omega,by rw[oA c4,kq];exact dI,?_,?_,?_⟩⟩
  ·exact setRow_heap _ b _ _ tb (0,0) (setRow_heap w.drew b arr _ tb (0,0) aA.heap)
  ·intro e he;rcases ki.1 he with h | h
   ·exact aA.len e (qx h)
   exact aA.len e (rP h)
  ·intro e he;rcases ki.1 he with h | h
   ·exact aA.one e (qx h)
   exact aA.one e (rP h)
  intro x y e v ah bp;have gi:=(ek.1 ah).1;rw[wJ]at gi;have bf:y<3:=by
   have U:=(ek.1 bp).1;have:e.length=3:=by
    have:=ft ah;rcases ki.1 this with h | h
    ·exact aA.len e (qx h)
    exact aA.len e (rP h)
   omega
  rw[l0 c4,bk (by omega),l0 iu];by_cases Bs:x<i
  ·rw[bk (by omega)];refine aA.cell x y e v ?_ bp;rwa[ur (by simp;omega),gI,bm Bs]at ah
  rw[bm (by omega),hK,gI,bm (by omega),gH,iO];have:(es.take i).length=i:=by simp;omega
  rw[qv (by omega),this,gH]at ah;have:=aA.cell (j+(x-i)) y e v ah bp;rw[<-this]
  congr 1
  omega
 obtain⟨bc,U,ax,aF⟩:=cz.res;refine⟨_,rfl,cz.Ii.full lC,bc,U,ax,MJ ?_,aF⟩;intro fy kQ eJ k dS cv fw aj
 match fy with
 | 0=>simp at fw;subst fw;simp only[GA.cell]at aj;split at aj<;>simp at aj
 | 1=>simp at fw;subst fw;simp only[GA.cell]at aj;split at aj<;>simp at aj
 | 2=>simp at fw;subst fw;simp only[GA.cell]at aj;split at aj<;>simp at aj
 | _+3=>simp at fw
theorem aA2(xs:List b1)(i j:Nat)(lf:i<j)(a1:j<=xs.length):jo prog 296 [.one (.eO 3 (xs.map b1.e) none),.one (.ro (I i)),.one (.ro (I j))] [.one (.J 3 ((xs.take i++xs.drop j).map b1.e))]:=by
 have:=aA1 (xs.map fun r=>r.e.map D.um) i j lf (by simpa using a1);rw[b1.uF,b1.uF];simpa using this
end Go.Proofs.YtdchjefneblpgaaGreat
namespace Go.Proofs.YtdchjefneblpgaaGreat
open Go.Sx Go.RowKit Go.Proofs.Tryz
def l2(xs:List aq)(r:aq):List aq:=
 match xs.findIdx? (fun a=>decide (a=r)) with
 | some i=>xs.take i++xs.drop (i+1)
 | none=>xs
theorem Fz(xs:List aq)(r:aq):(l2 xs r).length<=xs.length:=by
 unfold l2;split
 ·simp;omega
 exact fI _
theorem VJ(xs:List aq)(r:aq)(ap:xs.length<=8388608):al 100 [.one (.J 5 (xs.map aq.e)),.agg r.e] [.one (.J 5 ((l2 xs r).map aq.e))]:=by
 have l:=gN (P:=prog) (c:=(ar f100 0)) xs (fun a=>decide (a=r)) (fun i=>xt (xs.map aq.e) r.op r.bq.bd r.bq.dC r.key r.val i) (X:=fun i _=>Fm ((xs.take i++xs.drop (i+1)).map aq.e)) e0 (cH 0)
  (fun i a ak h=>awA ⟨b5 (aT ak),bD,bK (aT ak),bE aq.e ak,(xX a r).trans h,dj (aT ak) ap,aa⟩)
  (fun i a ak h=>by
   have hi:=aT ak;refine rJ Fm (awz ⟨b5 hi,bD,bK hi,bE aq.e ak,(xX a r).trans h,by simp,by simp,by simp;omega,by simp;omega,by simp;omega,?_,dj hi ap,by simp;omega,by simp;omega,by simp,by simp;omega,by simp;omega,?_,aa⟩) ?_
   ·simp only[il,k7,Nat.sub_zero,uu,<-pJ];exact ch _ aq.flat _
   ·simp only[il,<-pJ,<-List.map_drop];exact ch _ aq.flat _
   have e1:((i:Int)+1).toNat=i+1:=by omega
   simp only[il,k7,Nat.sub_zero,uu,List.nil_append,e1,<-pJ,<-List.map_drop,<-fQ]
   congr 2
   rw[sS (by simp)])
  (awB ⟨dT,aa⟩)
 unfold l2;rcases l with⟨_,h1,_,U⟩ | ⟨i,a,_,_,_,h1,_,U⟩
 ·simp only[h1];exact awD ⟨U,by simp;omega,by simp;omega,ch _ aq.flat _,aa⟩
 simp only[h1];exact awC ⟨U,aa⟩
def Ke(xs:List aq)(r:aq):Int:=match xs.findIdx? (fun a=>decide (a=r)) with | some i=>i | none=>-1
theorem aA3(xs:List aq)(r:aq)(ap:xs.length<=8388608):al 234 [.one (.J 5 (xs.map aq.e)),.agg r.e] [.one (I (Ke xs r))]:=by
 have l:=gN (P:=prog) (c:=(ar f234 0)) xs (fun a=>decide (a=r)) (fun i=>xr (xs.map aq.e) r.op r.bq.bd r.bq.dC r.key r.val i) (X:=fun i _=>MP i) e0 (cH 0)
  (fun i a ak h=>axl ⟨b5 (aT ak),bD,bK (aT ak),bE aq.e ak,(TU a r).trans h,dj (aT ak) ap,aa⟩)
  (fun i a ak h=>axk ⟨b5 (aT ak),bD,bK (aT ak),bE aq.e ak,(TU a r).trans h,aa⟩)
  (axm ⟨dT,aa⟩)
 unfold Ke;rcases l with⟨_,h1,_,U⟩ | ⟨i,a,_,_,_,h1,_,U⟩
 ·simp only[h1];exact awy ⟨U,aa⟩
 simp only[h1];exact axn ⟨U,aa⟩
theorem VK(xs:List aq)(r:aq)(ap:xs.length<=8388608):al 99 [.one (.J 5 (xs.map aq.e)),.agg r.e] [.one (.J 5 ((l2 xs r).map aq.e))]:=by
 have c:=yW xs ap;have x:=aA3 xs r ap;unfold l2;unfold Ke at x;cases h:xs.findIdx? (fun a=>decide (a=r)) with
 | none=>
  simp only[h]at x ⊢;exact awF ⟨c,x,dQ (by omega),aa⟩
 | some i=>
  simp only[h]at x ⊢;have hi:i<xs.length:=by
   rw[qs]at h;exact h.1
  exact awE ⟨c,x,dt (by omega),⟨by omega,by omega⟩,aAZ xs i (i+1) (by omega) (by omega),aa⟩
def mU(c:a')(a:Int):Option aP:=if 0<=a then c.az[a.toNat]? else none
def fV(c:a')(p:cN):aq×Bool:=
 match mU c p.a with
 | none=>(⟨0,⟨0,0⟩,0,0⟩,false)
 | some w=>match (if p.kind=2 then w.bO else if p.kind=1 then w.queue else []) with
  | []=>(⟨0,⟨0,0⟩,0,0⟩,false)
  | r::_=>(r,true)
variable{c:a'}
theorem a'.Y1(h:c.sz<=8388608):c.az.length<=8388608:=by simp only[a'.sz,fs]at h;omega
theorem FA{a:Int}{w:aP}(h:mU c a=some w):0<=a/\a<(↑(c.az.map aP.e).length:Int)/\(c.az.map aP.e)[a.toNat]?=some w.e/\aw a 0 (↑(c.az.map aP.e).length-1)=true:=by
 unfold mU at h;split at h
 ·have:=(ek.1 h).1;refine⟨‹_›,by simp;omega,by simp[h],?_⟩;simp only[aw,bl,cV];omega
 cases h
theorem VL{a:Int}(h:mU c a=none):aw a 0 (↑(c.az.map aP.e).length-1)=false:=by
 unfold mU at h;simp only[aw,bl,lp];split at h
 ·rw[List.getElem?_eq_none_iff]at h;omega
 omega
theorem Ml(c:a')(p:cN)(aj:c.sz<=8388608):al 93 [.agg c.e,.agg p.e] [.agg (fV c p).1.e,.one (B (fV c p).2)]:=by
 have ah:=a'.Y1 aj;have up:aD .i64 ((↑(c.az.map aP.e).length:Int)-1):=⟨by simp;omega,by simp;omega⟩
 unfold fV;cases h:mU c p.a with
 | none=>exact awH ⟨up,gb _ (VL h),rfl,aa⟩
 | some w=>
  obtain⟨h1,U,ax,aF⟩:=FA h;have b:=gb _ aF;by_cases bM:p.kind=2
  ·simp only[bM,fX];have e2:(p.kind==2)=true:=by simp[bM]
   have e1:(p.kind==1)=false:=by simp[bM]
   cases hi:w.bO with
   | nil=>
    exact awJ ⟨up,b,rfl,h1,U,ax,e2,by simp[hi],e1,aa⟩
   | cons r rs=>
    exact awI ⟨up,b,rfl,h1,U,ax,e2,by first | (simp[hi];done) | (simp[hi];omega),by omega,by first | (simp[hi];done) | (simp[hi];omega),by simp[hi];rfl,aa⟩
  have e2:(p.kind==2)=false:=by simp[bM]
  simp only[bk bM];by_cases cG:p.kind=1
  ·simp only[cG,fX];have e1:(p.kind==1)=true:=by simp[cG]
   cases hi:w.queue with
   | nil=>exact awL ⟨up,b,rfl,h1,U,ax,e2,e1,by simp[hi],aa⟩
   | cons r rs=>exact awK ⟨up,b,rfl,h1,U,ax,e2,e1,by first | (simp[hi];done) | (simp[hi];omega),by omega,by first | (simp[hi];done) | (simp[hi];omega),by simp[hi];rfl,aa⟩
  simp only[bk cG];exact awM ⟨up,b,rfl,h1,U,ax,e2,by simp[cG],aa⟩
theorem Mm(c:a')(p:cN)(aj:c.sz<=8388608):al 92 [.agg c.e,.agg p.e] [.agg (fV c p).1.e,.one (B (fV c p).2)]:=by
 have ah:=a'.Y1 aj;have up:aD .i64 ((↑(c.az.map aP.e).length:Int)-1):=⟨by simp;omega,by simp;omega⟩
 unfold fV;cases h:mU c p.a with
 | none=>exact awN ⟨up,hA _ (VL h),rfl,aa⟩
 | some w=>
  obtain⟨h1,U,ax,aF⟩:=FA h;have b:=hA _ aF;by_cases bM:p.kind=2
  ·simp only[bM,fX];have e2:(p.kind==2)=true:=by simp[bM]
   cases hi:w.bO with
   | nil=>exact awO ⟨up,b,rfl,e2,h1,U,ax,by simp[hi],aa⟩
   | cons r rs=>exact awP ⟨up,b,rfl,e2,h1,U,ax,by first | (simp[hi];done) | (simp[hi];omega),by omega,by first | (simp[hi];done) | (simp[hi];omega),by simp[hi];rfl,aa⟩
  have e2:(p.kind==2)=false:=by simp[bM]
  simp only[bk bM];by_cases cG:p.kind=1
  ·simp only[cG,fX];have e1:(p.kind==1)=true:=by simp[cG]
   cases hi:w.queue with
   | nil=>exact awQ ⟨up,b,rfl,e2,e1,h1,U,ax,by simp[hi],aa⟩
   | cons r rs=>exact awR ⟨up,b,rfl,e2,e1,h1,U,ax,by first | (simp[hi];done) | (simp[hi];omega),by omega,by first | (simp[hi];done) | (simp[hi];omega),by simp[hi];rfl,aa⟩
  simp only[bk cG];exact awS ⟨up,b,rfl,e2,by simp[cG],rfl,aa⟩
def BS(w:Nat):List cN:=[⟨1,w,0⟩,⟨3,w,0⟩,⟨2,w,0⟩,⟨7,w,0⟩]
def uj(a b:Nat):List cN:=if a=b then [] else [⟨4,a,b⟩,⟨5,a,b⟩]
def tR(n:Nat):List cN:=(List.range n).flatMap BS
def tS(a n:Nat):List cN:=(List.range n).flatMap (uj a)
def tT(m n:Nat):List cN:=(List.range n).flatMap fun a=>tS a m
def oneOf(e:Nat):List cN:=[⟨6,e,0⟩]
def xz(n:Nat):List cN:=(List.range n).flatMap oneOf
def ps(c:a'):List cN:=tR (iZ c.aE.az 0 4).toNat++tT (iZ c.aE.az 0 4).toNat (iZ c.aE.az 0 4).toNat++xz 4
theorem aA4(n:Nat):tR (n+1)=tR n++BS n:=by simp[tR,List.range_succ]
theorem aA5(a n:Nat):tS a (n+1)=tS a n++uj a n:=by simp[tS,List.range_succ]
theorem aA6(m n:Nat):tT m (n+1)=tT m n++tS n m:=by simp[tT,List.range_succ]
theorem aA7(n:Nat):xz (n+1)=xz n++[⟨6,n,0⟩]:=by simp[xz,List.range_succ,oneOf]
theorem Mn(n:Nat):(tR n).length<=n*4:=by
 have h:=zr BS 4 (fun _=>by simp[BS]) (List.range n);rwa[An]at h
theorem UX(a n:Nat):(tS a n).length<=n*2:=by
 have h:=zr (uj a) 2 (fun b=>by unfold uj;split<;>simp) (List.range n);rwa[An]at h
theorem Mo(m n:Nat):(tT m n).length<=n*(m*2):=by
 have h:=zr (fun a=>tS a m) (m*2) (fun a=>UX a m) (List.range n);rwa[An]at h
theorem UY(n:Nat):(xz n).length<=n*1:=by
 have h:=zr oneOf 1 (fun _=>by simp[oneOf]) (List.range n);rwa[An]at h
theorem UZ(n:Int):∃k:Nat,iZ n 0 4=k/\k<=4:=by
 refine⟨(iZ n 0 4).toNat,?_,?_⟩<;>(unfold iZ;simp only[show ¬(4:Int)<0 by omega,lP];split<;>(try split)<;>omega)
theorem Kp(a b:Nat)(ak:a<=4)(av:b<=4):a*(b*2)<=32:=by
 have:=Nat.mul_le_mul ak (hF 2 av);omega
theorem U0(c:a'):(ps c).length<=100:=by
 obtain⟨k,hk,aF⟩:=UZ c.aE.az;unfold ps;rw[hk];have a:=Mn k;have b:=Mo k k;have e:=UY 4;have m:=Kp k k aF aF;simp only[fF,k7];omega
theorem U1(c:a'):al 129 [.agg c.e] [.one (.J 3 ((ps c).map cN.e))]:=by
 have b:=Fq c.aE.az 0 4;obtain⟨k,hk,aF⟩:=UZ c.aE.az;unfold ps;rw[hk]at b ⊢;have aC7:=Mn k;have aC8:=Mo k k;have m:=Kp k k aF aF;have ea:=fC (P:=prog) (c:=(ar f129 0)) (cH 0) k (fun i:Nat=>BJ k i ((tR i).map cN.e)) (fun i hi=>by
  have h1:=Mn i;rw[aA4,fQ];exact awX ⟨dt (by omega),by simp;omega,by simp;omega,ch cN.e cN.flat (BS i),⟨by omega,by omega⟩,aa⟩) (awo ⟨dQ (by omega),aa⟩)
 have mP:=fun (a:Nat) (ak:a<k)=>fC (P:=prog) (c:=(ar f129 2)) (cH 4) k (fun i:Nat=>xu k a i ((tR k++tT k a++tS a i).map cN.e)) (fun i hi=>by
  have h1:=UX a i;have U:=Mo k a;have ax:=Kp a k (by omega) aF;rw[aA5,<-oM,fQ (l₂:=uj a i)];by_cases fk:a=i
  ·have e:(uj a i).map cN.e=[]:=by simp[uj,fk]
   rw[e,kE];exact awq ⟨dt (by omega),by simp[fk],⟨by omega,by omega⟩,aa⟩
  have e:(uj a i).map cN.e=[[I 4,I a,I i],[I 5,I a,I i]]:=by simp[uj,fk,cN.e]
  rw[e];have b2:Flat [[I 4,I a,I i],[I 5,I a,I i]]:=by rw[<-e];exact ch cN.e cN.flat _
  exact awp ⟨dt (by omega),by simp;omega,by simp;omega,by simp;omega,b2,⟨by omega,by omega⟩,aa⟩) (awr ⟨dQ (by omega),aa⟩)
 have gr:=fC (P:=prog) (c:=(ar f129 1)) (cH 2) k (fun i:Nat=>BK k i ((tR k++tT k i).map cN.e)) (fun i hi=>by
  have h:=mP i hi;rw[aA6,<-oM];simp only[tS,Qu,DC,kE]at h;exact aws ⟨dt (by omega),h,⟨by omega,by omega⟩,aa⟩) (awt ⟨dQ (by omega),aa⟩)
 have ED:=fC (P:=prog) (c:=(ar f129 3)) (cH 6) 4 (fun i:Nat=>BL i ((tR k++tT k k++xz i).map cN.e)) (fun i hi=>by
  have h1:=UY i;rw[aA7,<-oM,fQ (l₂:=[_])];exact awu ⟨dt (by omega),by simp;omega,by simp;omega,ch cN.e cN.flat [⟨6,i,0⟩],⟨by omega,by omega⟩,aa⟩) (awv ⟨dQ (by omega),aa⟩)
 simp only[tT,Qu,DC,kE]at gr;simp only[xz,Qu,DC,kE]at ED;rw[k7];exact aww ⟨b,ea,gr,ED,aa⟩
