import Derived.Test.YthfnndblgbjniaaGreatDoorT5
import Derived.Test.YthfnndblgbjniaaGreatDoorR35
import Derived.Test.YthfnndblgbjniaaGreatDoorGD
import Derived.Test.YthfnndblgbjniaaGreatDoorP72
set_option linter.unusedVariables false
set_option linter.unusedSimpArgs false
namespace Go.Proofs.YthfnndblgbjniaaGreatDoor
open Go.Sx Go.RowKit Go.Proofs.Tryz
def gk(n:Int):List D:=[.v (.int .u8 n)]
structure dy where
 i:Int
 h:Int
def dy.e(b:List Int)(c:dy):List D:=[.J 1 (b.map gk),I c.i,I c.h]
def Bytes(b:List Int):Prop:=b.length<=8388608/\∀x∈b,0<=x/\x<=255
def dy.ok(b:List Int)(c:dy):Prop:=Bytes b/\0<=c.i/\c.i<=b.length
theorem arD{P:Program}{t:TypeId}{ds:List D}(hu:P.underlying t=some (.int .u8))(h:iF P t ds):∃n,ds=gk n/\0<=n/\n<=255:=by
 have aa:∃n,ds=[.v (.int .u8 n)]/\(Lit.int .u8 n).wf=true:=by cases h<;>simp_all
 obtain⟨n,e,hw⟩:=aa;refine⟨n,e,?_⟩;simp[Lit.wf]at hw;have aA:IntKind.u8.min=0:=rfl;rw[aA]at hw;exact hw
theorem akk:prog.cellsOf 5=1:=by kernel_rfl
theorem akl{ds:List D}(h:iF prog 22 ds):∃xs:List Int,ds=[.J 1 (xs.map gk)]/\(xs.length:Int)<=9223372036854775807/\∀a∈xs,(fun n=>0<=n/\n<=255) a:=
 ajr gk (fun n=>0<=n/\n<=255) Tryz.underlying22 akk (fun ds h=>arD Tryz.underlying5 h) h
theorem alO{cl:cE}(h:Ay prog 22 cl):∃xs:List Int,cl=.one (.J 1 (xs.map gk))/\(xs.length:Int)<=9223372036854775807/\∀a∈xs,(fun n=>0<=n/\n<=255) a:=by
 cases cl with
 | agg ds=>have:=h.2;simp[qs,Tryz.underlying22]at this
 | one d=>
  obtain⟨x,e,ao⟩:=akl h.1;grind
theorem O'{P:Program}(a:Int)(n:Nat):∃m:Int,∀t x y,gF P .shr t x y (.int .i64 a) (.int .u64 (n:Int)) (.int .i64 m):=⟨_,fun _ _ _=>ajy⟩
theorem alP{P:Program}(a b:Int):∃m:Int,∀t x y,gF P .xor t x y (.int .i64 a) (.int .i64 b) (.int .i64 m):=⟨_,fun _ _ _=>ajz⟩
theorem Jk{P:Program}(a:Int)(k:Nat)(bc:k<2 ^ 62):∃m:Int,(0<=m/\m<=k)/\∀t x y,gF P .and t x y (.int .i64 a) (.int .i64 (k:Int)) (.int .i64 m):=⟨_,ajB a k bc,fun _ _ _=>ajA⟩
theorem Pb(b:List Int)(aw:Bytes b):∀(n i:Nat) (h:Int),i+n=b.length->0<=h/\h<=1073741823->∃qG,c0 prog (aq f32 0) (wD (b.map gk) i h) (.exit 0) (Cb (b.map gk) qG)
 | 0,i,h,hi,bH=>⟨h,.last (cI 0) (ajK ⟨by grind,ad⟩)⟩
 | n+1,i,h,hi,bH=>by
  have au:=aw.1;obtain⟨x,ao⟩:=cS (xs:=b) (i:=i) (by omega);have aw:=aw.2 x (ee ao);by_cases aO:(i:Int)<4000
  ·obtain⟨m,hm,r⟩:=Jk (P:=prog) (h*131+x+7) 1073741823 (by decide);obtain⟨qG,l⟩:=Pb b ‹Bytes b› n (i+1) m (by omega) hm;exact⟨qG,.more (ajI ⟨b3 (by omega),j7 aO,⟨by omega,by omega⟩,bn,bt (by omega),bp gk ao,⟨by omega,by omega⟩,⟨by omega,by omega⟩,⟨by omega,by omega⟩,r _ _ _,⟨by omega,by omega⟩,ad⟩) l⟩
  exact⟨h,.last (cI 0) (ajJ ⟨b3 (by omega),ma aO,ad⟩)⟩
theorem Cd(b:List Int)(aw:Bytes b):∃c:dy,c.ok b/\bP prog 32 [.ro (.one (.J 1 (b.map gk)))] (.gW [some 0,none,none] (c.e b)):=by
 have au:=aw.1;obtain⟨qG,l⟩:=Pb b aw b.length 0 (94701+(↑(b.map gk).length:Int)) (by omega) ⟨by omega,by simp;omega⟩;exact⟨⟨0,qG⟩,⟨aw,by grind,by grind⟩,ajL ⟨⟨by omega,by simp;omega⟩,l,ad⟩⟩
theorem Ce(b:List Int)(c:dy)(ap:c.ok b):∃(d:dy) (n:Int),d.ok b/\(0<=n/\n<=255)/\bP prog 74 [.cur (c.e b) (d.e b)] (.vals [.one (I n)]):=by
 obtain⟨⟨U,aa⟩,aA,aO⟩:=ap;obtain⟨la,cg⟩:=O' (P:=prog) (IntKind.i64.wrap (IntKind.i64.wrap (c.h*6364136223846793005)+1442695040888963407)) 33;obtain⟨kJ,dQ⟩:=O' (P:=prog) (IntKind.i64.wrap (IntKind.i64.wrap (c.h*6364136223846793005)+1442695040888963407)) 45;obtain⟨mC,ic⟩:=alP (P:=prog) la kJ;obtain⟨n6,m6,kr⟩:=Jk (P:=prog) mC 255 (by decide);by_cases hi:c.i<b.length
 ·obtain⟨x,ao⟩:=cS (xs:=b) (i:=c.i.toNat) (by omega);have aw:=aa x (ee ao);obtain⟨Xh,m8,ark⟩:=Jk (P:=prog) (IntKind.i64.wrap (n6+IntKind.i64.wrap x)) 255 (by decide);exact⟨⟨c.i+1,IntKind.i64.wrap (IntKind.i64.wrap (c.h*6364136223846793005)+1442695040888963407)⟩,Xh,⟨⟨U,aa⟩,by grind,by grind⟩,m8,ajc ⟨cg _ _ _,dQ _ _ _,ic _ _ _,kr _ _ _,by grind,aA,by grind,by rw[dk,ao];rfl,ark _ _ _,⟨by omega,by omega⟩,ad⟩⟩
 exact⟨⟨c.i,IntKind.i64.wrap (IntKind.i64.wrap (c.h*6364136223846793005)+1442695040888963407)⟩,n6,⟨⟨U,aa⟩,aA,aO⟩,m6,ajd ⟨cg _ _ _,dQ _ _ _,ic _ _ _,kr _ _ _,by grind,ad⟩⟩
theorem dC(b:List Int)(c:dy)(k:Int)(ap:c.ok b)(bc:1<=k/\k<=1000000):∃(d:dy) (n:Int),d.ok b/\(0<=n/\n<k)/\bP prog 36 [.cur (c.e b) (d.e b),.ro (.one (I k))] (.vals [.one (I n)]):=by
 have md:∀m:Int,0<=m->0<=m.tmod k/\m.tmod k<k:=fun m hm=>⟨Int.tmod_nonneg _ hm,Int.tmod_lt_of_pos m (by omega)⟩
 obtain⟨d1,je,cx,hK,bF⟩:=Ce b c ap;by_cases h:k<=256
 ·exact⟨d1,_,cx,md je hK.1,aje ⟨ma (by omega),j7 h,bF,by omega,ad⟩⟩
 obtain⟨d2,jy,cd,gj,bY⟩:=Ce b d1 cx;obtain⟨d3,la,cD,xj,cg⟩:=Ce b d2 cd;obtain⟨d4,kJ,eX,Ex,dQ⟩:=Ce b d3 cD;exact⟨d4,_,eX,md _ (by omega),ajf ⟨ma (by omega),ma h,bF,bY,cg,dQ,⟨by omega,by omega⟩,⟨by omega,by omega⟩,⟨by omega,by omega⟩,⟨by omega,by omega⟩,⟨by omega,by omega⟩,⟨by omega,by omega⟩,by omega,ad⟩⟩
theorem uV(b:List Int)(c:dy)(k:Int)(ap:c.ok b)(bc:1<=k/\k<=1000000):∃(d:dy) (x:Bool),d.ok b/\bP prog 34 [.cur (c.e b) (d.e b),.ro (.one (I k))] (.vals [.one (B x)]):=by
 obtain⟨d,n,o,_,r⟩:=dC b c k ap bc;exact⟨d,_,o,ajg ⟨r,ad⟩⟩
theorem j1(b:List Int)(c:dy)(xs:List Int)(ap:c.ok b)(bc:1<=xs.length/\xs.length<=1000):∃(d:dy) (n:Int),d.ok b/\n∈xs/\bP prog 37 [.cur (c.e b) (d.e b),.ro (.one (.J 1 (xs.map ba)))] (.vals [.one (I n)]):=by
 obtain⟨d,n,o,aw,r⟩:=dC b c (xs.length:Int) ap (by omega);obtain⟨x,ao⟩:=cS (xs:=xs) (i:=n.toNat) (by omega);refine⟨d,x,o,ee ao,ajh ⟨?_,aw.1,by grind,by rw[dk,ao];rfl,ad⟩⟩;rw[cr];exact r
end Go.Proofs.YthfnndblgbjniaaGreatDoor
namespace Go.Proofs.YthfnndblgbjniaaGreatDoor
open Go.Sx Go.RowKit Go.Proofs.Tryz
def Input(r:aH):Prop:=r.op=0/\r.bJ.eo=0/\(0<=r.bJ.bh/\r.bJ.bh<=2)/\(0<=r.key/\r.key<12)/\(0<=r.val/\r.val<40)
theorem Pc(b:List Int):∀(n i:Nat) (e:Int) (xs:List aH) (c:dy),i+n=5->c.ok b->(0<=e/\e<=2)->xs.length<=i->(∀r∈xs,Input r)->
  ∃(ys:List aH) (d:dy),d.ok b/\ys.length<=5/\(∀r∈ys,Input r)/\c0 prog (aq f118 0) (yq (b.map gk) i e (xs.map aH.e) c.i c.h) (.exit 0) (HI (b.map gk) (ys.map aH.e) d.i d.h)
 | n,i,e,xs,c,oz,ap,he,au,ao=>by
  obtain⟨d1,m,cx,aw,bF⟩:=dC b c 6 ap (by omega);by_cases h:(i:Int)<m
  ·match n with
   | 0=>omega
   | n+1=>
    obtain⟨d2,a,cd,ai,bY⟩:=dC b d1 2 cx (by omega);obtain⟨d3,k,cD,bc,cg⟩:=dC b d2 12 cd (by omega);obtain⟨d4,v,eX,br,dQ⟩:=dC b d3 40 cD (by omega);have na:=Ch (e+a) 0 2;have Mj:0<=hl (e+a) 0 2/\hl (e+a) 0 2<=2:=by
     unfold hl;simp only[show ¬(2:Int)<0 by omega,mY];split<;>(try split)<;>omega
    obtain⟨ys,d,o,e0,eU,l⟩:=Pc b n (i+1) (hl (e+a) 0 2) (xs++[⟨0,⟨hl (e+a) 0 2,0⟩,k,v⟩]) d4 (by omega) eX Mj (by simp;omega) (fun r aI=>by
     rcases lv.1 aI with aI | aI
     ·exact ao r aI
     rw[List.mem_singleton]at aI;subst aI;exact⟨rfl,rfl,Mj,bc,br⟩)
    refine⟨ys,d,o,e0,eU,.more ?_ l⟩;rw[gy];exact akn ⟨bF,j7 h,bY,⟨by omega,by omega⟩,na,cg,dQ,by simp;omega,by simp;omega,fG (fun d aF=>by simp only[ep,l9,or_false]at aF;rcases aF with rfl | rfl | rfl | rfl | rfl<;>exact⟨_,rfl⟩),⟨by omega,by omega⟩,ad⟩
  exact⟨xs,d1,cx,by omega,ao,.last (cI 0) (ako ⟨bF,ma h,ad⟩)⟩
theorem OD(b:List Int)(c:dy)(ap:c.ok b):∃(d:dy) (xs:List aH),d.ok b/\xs.length<=5/\(∀r∈xs,Input r)/\bP prog 118 [.cur (c.e b) (d.e b)] (.vals [.one (.J 5 (xs.map aH.e))]):=by
 obtain⟨ys,d,o,e0,eU,l⟩:=Pc b 5 0 0 [] c rfl ap (by omega) (by simp) (by simp);exact⟨d,ys,o,e0,eU,akp ⟨l,ad⟩⟩
end Go.Proofs.YthfnndblgbjniaaGreatDoor
namespace Go.Proofs.YthfnndblgbjniaaGreatDoor
open Go.Sx Go.RowKit Go.Proofs.Tryz
def rp(r:aH):Bool:=!e6 r||r.op != 0||r.bJ.eo != 0
def GR(g:b1)(xs:List aH)(w e:Int):List aH:=xs.filter fun r=>r.bJ.bh==e&&jh r.key g.aB==w
def so(g:b1)(xs:List aH)(w:Int)(n:Nat):List aH:=(List.range n).flatMap fun e=>GR g xs w (e:Nat)
def own(g:b1)(xs:List aH)(w:Int):List aH:=so g xs w 4
def rq(xs:List aH):aR:=⟨[],[],xs,[],List.replicate 4 0,List.replicate 4 false,List.replicate 4 false,[]⟩
def o1(cap:Int):bA:=⟨hl cap 1 4,[],hl cap 1 4,0,0,0⟩
def Dp:b4:=⟨false,0,0,false,false⟩
def pW(g:b1)(xs:List aH)(n:Nat):List aR:=(List.range n).map fun w=>rq (own g xs (w:Nat))
def lZ(g:b1)(xs:List aH):bb:=⟨g,pW g xs g.aB.toNat,List.replicate (g.aB.toNat*g.aB.toNat) (o1 g.cap),List.replicate 4 Dp,[]⟩
def OE:bb:=⟨⟨[],0,0⟩,[],[],[],[]⟩
def nN(g:b1)(xs:List aH):Bool:=ei g&&decide (xs.length<=20)&&!xs.any rp
def wG(g:b1)(xs:List aH):bb×Bool:=if nN g xs then (lZ g xs,true) else (OE,false)
theorem alQ(g:b1)(xs:List aH)(w:Int)(n:Nat):so g xs w (n+1)=so g xs w n++GR g xs w (n:Nat):=by
 simp[so,List.range_succ]
theorem OF(g:b1)(xs:List aH)(w:Int)(n:Nat):(so g xs w n).length<=n*xs.length:=by
 have h:=wJ (fun e:Nat=>GR g xs w (e:Nat)) xs.length (fun _=>rO _ _) (List.range n);rwa[xc]at h
variable{xs:List aH}
theorem OG{g:b1}(au:xs.length<=20)(w:Int):(own g xs w).length<=80:=by
 have:=OF g xs w 4;unfold own;omega
theorem alR{g:b1}(au:xs.length<=20)(w:Int){n:Nat}(a7:n<4):(so g xs w n).length<=60:=by
 have:=OF g xs w n;have:n*xs.length<=3*20:=Nat.mul_le_mul (by omega) au;omega
theorem alS(g:b1)(xs:List aH)(n:Nat):pW g xs (n+1)=pW g xs n++[rq (own g xs (n:Nat))]:=by
 simp[pW,List.range_succ]
theorem Jl(g:b1)(xs:List aH)(n:Nat):(pW g xs n).length=n:=by simp[pW]
theorem alU{α:Type}{f:α->List D}{x:α}{m:Nat}:(List.replicate m x).map f++[f x]=(List.replicate (m+1) x).map f:=by
 rw[List.replicate_succ',gy];rfl
theorem OH(cap:Int):ax 170 [.one (I cap)] [.agg (o1 cap).e]:=aki ⟨Ch cap 1 4,ad⟩
theorem OI(xs:List aH)(au:xs.length<=1000):ax 168 [.one (.J 5 (xs.map aH.e))] [.agg (rq xs).e]:=
 akj ⟨nl (by simp;omega),jf (by simp;omega),dD _ aH.flat _,by omega,by omega,by decide,by omega,by omega,by omega,by decide,by omega,by omega,by omega,by decide,by omega,ad⟩
theorem alV(g:b1)(xs:List aH)(w:Int)(a7:1<=g.aB/\g.aB<=4)(au:xs.length<=20):ax 169 [.agg g.e,.one (.J 5 (xs.map aH.e)),.one (I w)] [.one (.J 5 ((own g xs w).map aH.e))]:=by
 have kI:=fun (e:Nat) (he:e<4) (acc:List aH) (ai:acc.length<=100)=>eu (P:=prog) (c:=(aq f169 1)) (cI 2) xs.length (fun i:Nat=>rn (g.nodes.map Node.e) g.aB g.cap (xs.map aH.e) w e i ((acc++(xs.take i).filter fun r=>r.bJ.bh==(e:Int)&&jh r.key g.aB==w).map aH.e)) (fun i hi=>by
  obtain⟨r,aI⟩:=cS hi;have b7:((xs.take i).filter fun r=>r.bJ.bh==(e:Int)&&jh r.key g.aB==w).length<=20:=by
   have:=rO (fun r:aH=>r.bJ.bh==(e:Int)&&jh r.key g.aB==w) (xs.take i);have:=J4 i xs;omega
  rw[yn _ aI];generalize (xs.take i).filter (fun r=>r.bJ.bh==(e:Int)&&jh r.key g.aB==w)=ey at*;have t':=Qb r.key g.aB (by omega);cases U:(r.bJ.bh==(e:Int)) with
  | false=>
   rw[Bool.false_and,bE (by decide),kt];exact akd ⟨b3 hi,bn,bt hi,bp aH.e aI,U,cT hi (by omega),ad⟩
  | true=>
   cases aa:(jh r.key g.aB==w) with
   | false=>
    rw[Bool.and_false,bE (by decide),kt];exact akc ⟨b3 hi,bn,bt hi,bp aH.e aI,U,bn,bt hi,bp aH.e aI,t',aa,cT hi (by omega),ad⟩
   | true=>
    rw[tm,bU rfl,<-rR,J1];exact akL ⟨b3 hi,bn,bt hi,bp aH.e aI,U,bn,bt hi,bp aH.e aI,t',aa,bn,bt hi,bp aH.e aI,by simp;omega,by simp;omega,fG (aH.flat r),cT hi (by omega),ad⟩) (ake ⟨dv,ad⟩)
 have fk:=eu (P:=prog) (c:=(aq f169 0)) (cI 0) 4 (fun n:Nat=>yu (g.nodes.map Node.e) g.aB g.cap (xs.map aH.e) w n ((so g xs w n).map aH.e)) (fun n a7=>by
  have:=kI n a7 (so g xs w n) (by have:=alR (g:=g) au w a7;omega);rw[jH,List.take_zero,List.filter_nil,kt]at this;rw[alQ];exact akf ⟨dV (by omega),this,⟨by omega,by omega⟩,ad⟩) (akg ⟨eC (by omega),ad⟩)
 exact akh ⟨fk,ad⟩
theorem Jm{g:b1}(h:nN g xs=false):wG g xs=(OE,false):=by unfold wG;rw[h];rfl
theorem OJ{g:b1}(h:nN g xs=true):wG g xs=(lZ g xs,true):=by unfold wG;rw[h];rfl
theorem alW(g:b1)(xs:List aH)(au:xs.length<=20):
  (xs.any rp=false/\c0 prog (aq f116 0) (o0 (xs.map aH.e) 0 0 0 (g.nodes.map Node.e) g.aB g.cap) (.exit 0) (HO (xs.map aH.e) 0 0 (g.nodes.map Node.e) g.aB g.cap))\/
  (xs.any rp=true/\c0 prog (aq f116 0) (o0 (xs.map aH.e) 0 0 0 (g.nodes.map Node.e) g.aB g.cap) .ret (wE false 0 0)):=by
 have l:=gv (P:=prog) (c:=(aq f116 0)) xs rp (fun i=>o0 (xs.map aH.e) i 0 0 (g.nodes.map Node.e) g.aB g.cap) (e1:=.ret) (e2:=.exit 0) (X:=fun _ _=>wE false 0 0) eJ (cI 0)
  (fun i a ai h=>by
   simp only[rp,gh]at h;have hi:=aZ ai;exact akD ⟨b3 hi,bn,bt hi,bp aH.e ai,rr a,h.1.1,bn,bt hi,bp aH.e ai,h.1.2,bn,bt hi,bp aH.e ai,h.2,cT hi (by omega),ad⟩)
  (fun i a ai h=>by
   have hi:=aZ ai;have iQ:=rr a;unfold rp at h;cases U:(!e6 a) with
   | true=>exact akA ⟨b3 hi,bn,bt hi,bp aH.e ai,iQ,U,ad⟩
   | false=>
    cases aa:(a.op != 0) with
    | true=>exact akB ⟨b3 hi,bn,bt hi,bp aH.e ai,iQ,U,bn,bt hi,bp aH.e ai,aa,ad⟩
    | false=>
     rw[U,aa,iU,iU]at h;exact akC ⟨b3 hi,bn,bt hi,bp aH.e ai,iQ,U,bn,bt hi,bp aH.e ai,aa,bn,bt hi,bp aH.e ai,h,ad⟩)
  (akE ⟨dv,ad⟩)
 rcases l with⟨_,_,U,aa⟩ | ⟨i,a,_,_,_,_,U,aa⟩
 ·exact .inl ⟨U,aa⟩
 exact .inr ⟨U,aa⟩
theorem alX(g:b1)(xs:List aH)(a7:1<=g.aB/\g.aB<=4)(au:xs.length<=20):
  c0 prog (aq f116 1) (wF (xs.map aH.e) 0 (g.nodes.map Node.e) g.aB g.cap [] [] ((List.replicate 4 Dp).map b4.e) 0 0 (g.nodes.map Node.e) g.aB g.cap) (.exit 2)
   (HP (g.nodes.map Node.e) g.aB g.cap ((pW g xs g.aB.toNat).map aR.e) ((List.replicate (g.aB.toNat*g.aB.toNat) (o1 g.cap)).map bA.e) ((List.replicate 4 Dp).map b4.e) 0 0):=by
 obtain⟨n,A'⟩:∃n:Nat,g.aB=n:=⟨g.aB.toNat,by omega⟩
 have A9:n<=4:=by omega
 have yd:=fun (w:Nat) (m:Nat) (W T:List (List D)) (hm:m<=16)=>eu (P:=prog) (c:=(aq f116 2)) (cI 4) n (fun k:Nat=>yt (xs.map aH.e) w k (g.nodes.map Node.e) g.aB g.cap W ((List.replicate (m+k) (o1 g.cap)).map bA.e) T 0 0 (g.nodes.map Node.e) g.aB g.cap) (fun k bc=>by
  rw[<-UQ,<-alU];exact akG ⟨dV (by omega),OH g.cap,by simp;omega,by simp;omega,⟨by omega,by omega⟩,ad⟩) (akH ⟨eC (by omega),ad⟩)
 have kI:=eu (P:=prog) (c:=(aq f116 1)) (cI 2) n (fun w:Nat=>wF (xs.map aH.e) w (g.nodes.map Node.e) g.aB g.cap ((pW g xs w).map aR.e) ((List.replicate (w*n) (o1 g.cap)).map bA.e) ((List.replicate 4 Dp).map b4.e) 0 0 (g.nodes.map Node.e) g.aB g.cap) (fun w hw=>by
  have vR:=Jl g xs w;have hm:w*n<=3*4:=Nat.mul_le_mul (by omega) A9;rw[alS,J1,show (w+1)*n=w*n+n by rw[gx,Nat.one_mul]];exact akI ⟨dV (by omega),alV g xs w a7 au,OI _ (by have:=OG (g:=g) au (w:Nat);omega),by simp[vR];omega,by simp[vR];omega,yd w (w*n) _ _ (by omega),⟨by omega,by omega⟩,ad⟩) (akJ ⟨eC (by omega),ad⟩)
 rw[show ((0:Nat)*n)=0 by omega]at kI;rw[A',po];rw[A']at kI;exact kI
theorem alY(g:b1)(xs:List aH)(ay:g.sz<=8388608):ax 116 [.agg g.e,.one (.J 5 (xs.map aH.e))] [.agg (wG g xs).1.e,.one (B (wG g xs).2)]:=by
 have vw:=wL g ay;cases U:ei g with
 | false=>
  rw[U]at vw;rw[Jm (by unfold nN;rw[U];rfl)];exact aky ⟨vw,rfl,ad⟩
 | true=>
 rw[U]at vw;by_cases au:xs.length<=20
 case neg=>
  rw[Jm (by unfold nN;rw[ma au,Bool.and_false];rfl)];exact akz ⟨vw,rfl,dV (by simp;omega),ad⟩
 rcases alW g xs au with⟨aa,l⟩ | ⟨aa,l⟩
 ·rw[OJ (by unfold nN;rw[U,aa,j7 au];rfl)];exact akK ⟨vw,rfl,eC (by simp;omega),l,Q9 g ay,by omega,by omega,by decide,by omega,alX g xs (mQ U) au,ad⟩
 rw[Jm (by unfold nN;rw[aa];simp)];exact akF ⟨vw,rfl,eC (by simp;omega),l,ad⟩
end Go.Proofs.YthfnndblgbjniaaGreatDoor
namespace Go.Proofs.YthfnndblgbjniaaGreatDoor
open Go.Sx Go.RowKit Go.Proofs.Tryz
theorem Jn{α:Type}{f:α->Nat}{k:Nat}:∀{xs:List α},(∀x∈xs,f x<=k)->(xs.map f).sum<=xs.length*k
 | [],_=>by simp
 | a::xs,h=>by
  have U:=h a (by simp);have aa:=Jn (f:=f) (k:=k) (xs:=xs) (fun x ao=>h x (by simp[ao]));simp only[lu,Aq,gP,gx,Nat.one_mul];omega
theorem Jo{g:b1}{xs:List aH}:nN g xs=true<->ei g=true/\xs.length<=20/\xs.any rp=false:=by
 simp only[nN,cJ,cW,hT,and_assoc]
theorem alZ{g:b1}{xs:List aH}(h:nN g xs=true):(lZ g xs).sz<=g.sz+1000:=by
 obtain⟨U,aa,_⟩:=Jo.1 h;have a7:=mQ U;obtain⟨n,A'⟩:∃n:Nat,g.aB=n:=⟨g.aB.toNat,by omega⟩
 have a:=Jn (f:=aR.sz) (k:=92) (xs:=pW g xs n) (fun x ao=>by
  simp only[pW,kX]at ao;obtain⟨w,_,rfl⟩:=ao;have:=OG (g:=g) aa (w:Nat);simp only[rq,aR.sz,dM,List.length_replicate];omega)
 have b:=Jn (f:=bA.sz) (k:=0) (xs:=List.replicate (n*n) (o1 g.cap)) (fun x ao=>by
  rw[List.eq_of_mem_replicate ao];simp[o1,bA.sz])
 have hm:n*n<=4*4:=Nat.mul_le_mul (by omega) (by omega);simp only[lZ,bb.sz,eO,A',po,List.length_replicate,dM,Jl]at a b ⊢;omega
theorem al0(g:b1)(xs:List aH):gi (lZ g xs):=by
 intro l au;have:=List.eq_of_mem_replicate au;subst this;simp[o1]
end Go.Proofs.YthfnndblgbjniaaGreatDoor
namespace Go.Proofs.YthfnndblgbjniaaGreatDoor
open Go.Sx Go.RowKit Go.Proofs.Tryz
def sN(x:aR)(e:Int):ca×Bool:=
 match x.bx.find? (fun d=>d.bh==e) with
 | some d=>(d,true)
 | none=>(⟨0,false⟩,false)
theorem al1(x:aR)(e:Int)(ao:x.sz<=8388608):ax 15 [.agg x.e,.one (I e)] [.agg (sN x e).1.e,.one (B (sN x e).2)]:=by
 have au:x.bx.length<=8388608:=by simp only[aR.sz]at ao;omega
 let st:=fun i:Nat=>u0 e i 0 false (x.queue.map aH.e) (x.cn.map aH.e) (x.cb.map aH.e) (x.cells.map Cell.e) (x.bN.map ba) (x.bW.map cu) (x.bB.map cu) (x.bx.map ca.e)
 have step:∀i,i<x.bx.length->(∀b,x.bx[i]?=some b->(b.bh==e)=false)->fJ prog (aq f15 0) (st i) .normal (st (i+1)):=by
  intro i hi h;obtain⟨a,ai⟩:=cS hi;exact amQ ⟨b3 hi,bn,bt hi,bp ca.e ai,h a ai,cT hi au,ad⟩
 rcases CT (fun d:ca=>d.bh==e) x.bx with⟨U,aa⟩ | ⟨i,a,U,aa,aA,aO⟩
 ·simp only[sN,U];have l:=eu (cI 0) x.bx.length st (fun i hi=>step i hi fun b aw=>aa b (ee aw)) (amR ⟨dv,ad⟩);exact amT ⟨l,ad⟩
 simp only[sN,aA];have hi:=aZ U;have l:=eu eJ i st (fun j bm=>step j (by omega) fun b aw=>aO j b bm aw) (amP ⟨b3 hi,bn,bt hi,bp ca.e U,aa,bn,bt hi,bp ca.e U,ad⟩);exact amS ⟨l,ad⟩
theorem al2(x:aR)(e:Int)(ao:x.sz<=8388608):ax 14 [.agg x.e,.one (I e)] [.agg (sN x e).1.e,.one (B (sN x e).2)]:=by
 have au:x.bx.length<=8388608:=by simp only[aR.sz]at ao;omega
 let st:=fun i:Nat=>u1 (x.bx.map ca.e) e i 0 false
 have step:∀i,i<x.bx.length->(∀b,x.bx[i]?=some b->(b.bh==e)=false)->fJ prog (aq f14 0) (st i) .normal (st (i+1)):=by
  intro i hi h;obtain⟨a,ai⟩:=cS hi;exact amV ⟨b3 hi,bn,bt hi,bp ca.e ai,h a ai,cT hi au,ad⟩
 rcases CT (fun d:ca=>d.bh==e) x.bx with⟨U,aa⟩ | ⟨i,a,U,aa,aA,aO⟩
 ·simp only[sN,U];have l:=eu (cI 0) x.bx.length st (fun i hi=>step i hi fun b aw=>aa b (ee aw)) (amW ⟨dv,ad⟩);exact amY ⟨l,ad⟩
 simp only[sN,aA];have hi:=aZ U;have l:=eu eJ i st (fun j bm=>step j (by omega) fun b aw=>aO j b bm aw) (amU ⟨b3 hi,bn,bt hi,bp ca.e U,aa,ad⟩);exact amX ⟨l,ad⟩
end Go.Proofs.YthfnndblgbjniaaGreatDoor
namespace Go.Proofs.YthfnndblgbjniaaGreatDoor
open Go.Sx Go.RowKit Go.Proofs.Tryz
def wH(k a b:Int):List Node:=[⟨1,0,0,[1]⟩,⟨k,0,0,[2,5]⟩,⟨4,1+a,0,[3]⟩,⟨2,b,0,[4]⟩,⟨7,0,0,[1]⟩,⟨8,0,0,[]⟩]
def nV(k a b c:Int):Nat->List Node
 | 0=>(wH k a b).set 3 ⟨3,1+c,0,[4]⟩
 | 1=>(wH k a b).set 4 ⟨8,0,0,[]⟩
 | 2=>(wH k a b).set 2 ⟨4,1+a,0,[3,4]⟩
 | 3=>(wH k a b++[(⟨8,0,0,[]⟩:Node)]).set 0 ⟨1,0,0,[1,6]⟩
 | _=>wH k a b
structure kY (g:b1):Prop where
 nodes:∃(k a b c:Int) (v:Nat),(k=5\/k=6)/\(0<=a/\a<3)/\(0<=b/\b<4)/\(0<=c/\c<3)/\v<=4/\g.nodes=nV k a b c v
 aB:1<=g.aB/\g.aB<=3
 cap:1<=g.cap/\g.cap<=3
theorem kY.ok{g:b1}(h:kY g):ei g=true:=by
 obtain⟨⟨k,a,b,c,v,bc,ai,aw,ap,br,a7⟩,hw,hZ⟩:=h;obtain⟨nodes,aB,cap⟩:=g;simp only at a7 hw hZ;have asv:a=0\/a=1\/a=2:=by omega
 have asw:b=0\/b=1\/b=2\/b=3:=by omega
 have asx:c=0\/c=1\/c=2:=by omega
 have bj:v=0\/v=1\/v=2\/v=3\/v=4:=by omega
 have asA:aB=1\/aB=2\/aB=3:=by omega
 have cU:cap=1\/cap=2\/cap=3:=by omega
 have key:∀k∈[(5:Int),6],∀a∈[(0:Int),1,2],∀b∈[(0:Int),1,2,3],∀c∈[(0:Int),1,2],∀v∈[0,1,2,3,4],(!(anyI (ia ⟨nV k a b c v,1,1⟩) 0 (nV k a b c v))&&decide ((nV k a b c v).length<=7)&&decide (1<=(nV k a b c v).length))=true:=by decide +kernel
 have:=key k (by grind) a (by grind) b (by grind) c (by grind) v (by rcases bj with h | h | h | h | h<;>simp[h]);simp only[cJ,cW]at this;obtain⟨⟨U,aa⟩,aA⟩:=this;subst a7;have Wo:ia ⟨nV k a b c v,aB,cap⟩=ia ⟨nV k a b c v,1,1⟩:=rfl;unfold ei;simp only[cJ];rw[Wo];refine⟨⟨⟨?_,?_⟩,?_⟩,U⟩
 ·simp only[av,cJ,cW];omega
 ·simp only[av,cJ,cW];omega
 simp only[av,cJ,cW];omega
theorem Jp(b:List Int)(c:dy)(ap:c.ok b):∃(d:dy) (g:b1),d.ok b/\kY g/\bP prog 117 [.cur (c.e b) (d.e b)] (.vals [.agg g.e]):=by
 obtain⟨d1,je,cx,U,bF⟩:=dC b c 3 ap (by omega);obtain⟨d2,jy,cd,aa,bY⟩:=dC b d1 3 cx (by omega);obtain⟨d3,x,cD,cg⟩:=uV b d2 3 cd (by omega);obtain⟨d4,kJ,eX,aO,dQ⟩:=dC b d3 3 cD (by omega);obtain⟨d5,mC,oO,a8,ic⟩:=dC b d4 4 eX (by omega);obtain⟨d6,n6,GL,bG,kr⟩:=dC b d5 3 oO (by omega);obtain⟨d7,tY,Xj,b9,qf⟩:=dC b d6 6 GL (by omega);have i1:aK .i64 (1+je):=⟨by omega,by omega⟩
 have i2:aK .i64 (1+jy):=⟨by omega,by omega⟩
 have i4:aK .i64 (1+kJ):=⟨by omega,by omega⟩
 have i6:aK .i64 (1+n6):=⟨by omega,by omega⟩
 have fin:∀(k:Int) (v:Nat) {ds:List (List D)},(k=5\/k=6)->v<=4->kZ ds ((nV k kJ mC n6 v).map Node.e)->bP prog 117 [.cur (c.e b) (d7.e b)] (.vals [.agg [.J 4 ds,I (1+je),I (1+jy)]])->
   ∃(d:dy) (g:b1),d.ok b/\kY g/\bP prog 117 [.cur (c.e b) (d.e b)] (.vals [.agg g.e]):=by
  intro k v ds bc br b7 aI;exact⟨d7,⟨nV k kJ mC n6 v,1+je,1+jy⟩,Xj,⟨⟨k,kJ,mC,n6,v,bc,aO,a8,bG,br,rfl⟩,by grind,by grind⟩,
   aI.fit (.cons (.agg (.cons (.J 4 b7) (iY.refl _))) .nil)⟩
 have f1:∀d,Fit d d:=.refl;by_cases bD:tY=0
 ·cases x
  ·exact fin 5 0 (.inl rfl) (by omega) (by repeat (first | exact .refl _ | constructor)) (akX ⟨bF,i1,bY,i2,cg,rfl,dQ,i4,ic,kr,i6,qf,by simp[bD],by omega,by simp,rfl,ad⟩)
  exact fin 6 0 (.inr rfl) (by omega) (by repeat (first | exact .refl _ | constructor)) (akS ⟨bF,i1,bY,i2,cg,rfl,dQ,i4,ic,kr,i6,qf,by simp[bD],by omega,by simp,rfl,ad⟩)
 by_cases e1:tY=1
 ·cases x
  ·exact fin 5 1 (.inl rfl) (by omega) (by repeat (first | exact .refl _ | constructor)) (akY ⟨bF,i1,bY,i2,cg,rfl,dQ,i4,ic,kr,i6,qf,by simp[bD],by simp[e1],by omega,by simp,rfl,ad⟩)
  exact fin 6 1 (.inr rfl) (by omega) (by repeat (first | exact .refl _ | constructor)) (akT ⟨bF,i1,bY,i2,cg,rfl,dQ,i4,ic,kr,i6,qf,by simp[bD],by simp[e1],by omega,by simp,rfl,ad⟩)
 by_cases e2:tY=2
 ·cases x
  ·exact fin 5 2 (.inl rfl) (by omega) (by repeat (first | exact .refl _ | constructor)) (akZ ⟨bF,i1,bY,i2,cg,rfl,dQ,i4,ic,kr,i6,qf,by simp[bD],by simp[e1],by simp[e2],by omega,by simp,rfl,ad⟩)
  exact fin 6 2 (.inr rfl) (by omega) (by repeat (first | exact .refl _ | constructor)) (akU ⟨bF,i1,bY,i2,cg,rfl,dQ,i4,ic,kr,i6,qf,by simp[bD],by simp[e1],by simp[e2],by omega,by simp,rfl,ad⟩)
 by_cases ch:tY=3
 ·cases x
  ·exact fin 5 3 (.inl rfl) (by omega) (by repeat (first | exact .refl _ | constructor)) (ak0 ⟨bF,i1,bY,i2,cg,rfl,dQ,i4,ic,kr,i6,qf,by simp[bD],by simp[e1],by simp[e2],by simp[ch],by simp,by simp,by omega,by simp,rfl,ad⟩)
  exact fin 6 3 (.inr rfl) (by omega) (by repeat (first | exact .refl _ | constructor)) (akV ⟨bF,i1,bY,i2,cg,rfl,dQ,i4,ic,kr,i6,qf,by simp[bD],by simp[e1],by simp[e2],by simp[ch],by simp,by simp,by omega,by simp,rfl,ad⟩)
 cases x
 ·exact fin 5 4 (.inl rfl) (by omega) (by repeat (first | exact .refl _ | constructor)) (ak1 ⟨bF,i1,bY,i2,cg,rfl,dQ,i4,ic,kr,i6,qf,by simp[bD],by simp[e1],by simp[e2],by simp[ch],ad⟩)
 exact fin 6 4 (.inr rfl) (by omega) (by repeat (first | exact .refl _ | constructor)) (akW ⟨bF,i1,bY,i2,cg,rfl,dQ,i4,ic,kr,i6,qf,by simp[bD],by simp[e1],by simp[e2],by simp[ch],ad⟩)
def Cf(p:c'):Prop:=(1<=p.kind/\p.kind<=7)/\(0<=p.a/\p.a<3)/\(0<=p.b/\p.b<3)
theorem al3(b:List Int)(c:dy)(ap:c.ok b):∃(d:dy) (p:c'),d.ok b/\Cf p/\bP prog 95 [.cur (c.e b) (d.e b)] (.vals [.agg p.e]):=by
 obtain⟨d1,k,cx,U,bF⟩:=j1 b c [1,1,1,2,3,3,3,4,4,5,6,6,7] ap (by simp);obtain⟨d2,a,cd,aa,bY⟩:=dC b d1 3 cx (by omega);have bc:1<=k/\k<=7:=by
  simp only[ep,l9,or_false]at U;omega
 by_cases dP:k=4
 ·obtain⟨d3,m,cD,aA,cg⟩:=dC b d2 2 cd (by omega);have vV:aK .i64 (a+1):=⟨by omega,by omega⟩
  have tU:aK .i64 (a+1+m):=⟨by omega,by omega⟩
  exact⟨d3,⟨k,a,(a+1+m).tmod 3⟩,cD,⟨bc,aa,Int.tmod_nonneg _ (by omega),Int.tmod_lt_of_pos _ (by omega)⟩,akr ⟨bF,bY,by simp[dP],akq ⟨vV,cg,tU,by decide,ad⟩,ad⟩⟩
 by_cases gT:k=5
 ·obtain⟨d3,m,cD,aA,cg⟩:=dC b d2 2 cd (by omega);have vV:aK .i64 (a+1):=⟨by omega,by omega⟩
  have tU:aK .i64 (a+1+m):=⟨by omega,by omega⟩
  exact⟨d3,⟨k,a,(a+1+m).tmod 3⟩,cD,⟨bc,aa,Int.tmod_nonneg _ (by omega),Int.tmod_lt_of_pos _ (by omega)⟩,akt ⟨bF,bY,by simp[dP],by simp[gT],aks ⟨vV,cg,tU,by decide,ad⟩,ad⟩⟩
 exact⟨d2,⟨k,a,0⟩,cd,⟨bc,aa,by grind⟩,aku ⟨bF,bY,by simp[dP],by simp[gT],ad⟩⟩
theorem Vj(p:c'):Flat [p.e]:=fG fun d aF=>by
 simp only[c'.e,ep,l9,or_false]at aF;grind
theorem OK(b:List Int)(m:Nat)(hm:m<=1000):∀(n i:Nat) (xs:List c') (c:dy),i+n=m+1->c.ok b->xs.length<=i->(∀p∈xs,Cf p)->
  ∃(ys:List c') (d:dy),d.ok b/\ys.length<=m+1/\(∀p∈ys,Cf p)/\c0 prog (aq f66 0) (yr (b.map gk) m i (xs.map c'.e) c.i c.h) (.exit 0) (HN (b.map gk) (ys.map c'.e) d.i d.h)
 | n,i,xs,c,oz,ap,au,ao=>by
  obtain⟨d1,k,cx,bc,bF⟩:=dC b c ((m:Int)+1) ap (by omega);by_cases h:(i:Int)<k
  ·match n with
   | 0=>omega
   | n+1=>
    obtain⟨d2,p,cd,hp,bY⟩:=al3 b d1 cx;obtain⟨ys,d,o,e0,eU,l⟩:=OK b m hm n (i+1) (xs++[p]) d2 (by omega) cd (by simp;omega) (fun z bk=>by
     grind)
    refine⟨ys,d,o,e0,eU,.more ?_ l⟩;rw[gy];exact akv ⟨⟨by omega,by omega⟩,bF,j7 h,bY,by simp;omega,by simp;omega,Vj p,⟨by omega,by omega⟩,ad⟩
  exact⟨xs,d1,cx,by omega,ao,.last (cI 0) (akw ⟨⟨by omega,by omega⟩,bF,ma h,ad⟩)⟩
theorem al4(b:List Int)(c:dy)(m:Nat)(hm:m<=1000)(ap:c.ok b):∃(d:dy) (ct:List c'),d.ok b/\ct.length<=m+1/\(∀p∈ct,Cf p)/\bP prog 66 [.cur (c.e b) (d.e b),.ro (.one (I m))] (.vals [.one (.J 3 (ct.map c'.e))]):=by
 obtain⟨ys,d,o,e0,eU,l⟩:=OK b m hm (m+1) 0 [] c (by omega) ap (by simp) (by simp);exact⟨d,ys,o,e0,eU,akx ⟨l,ad⟩⟩
end Go.Proofs.YthfnndblgbjniaaGreatDoor
namespace Go.Proofs.YthfnndblgbjniaaGreatDoor
open Go.Sx Go.RowKit Go.Proofs.Tryz
theorem kY.size{g:b1}(h:kY g):g.sz<=100:=by
 obtain⟨⟨k,a,b,c,v,bc,ai,aw,ap,br,a7⟩,hw,hZ⟩:=h;obtain⟨nodes,aB,cap⟩:=g;simp only at a7;subst a7;have e:(⟨nV k a b c v,aB,cap⟩:b1).sz=eO Node.sz (nV k a b c v):=rfl;rw[e];have bj:v=0\/v=1\/v=2\/v=3\/v=4:=by omega
 rcases bj with rfl | rfl | rfl | rfl | rfl<;>simp[eO,nV,wH,Node.sz]
theorem Input.Vg{r:aH}(h:Input r):rp r=false:=by
 obtain⟨U,aa,aA,aO,a8⟩:=h;have ok:e6 r=true:=by
  simp only[e6,h',fQ,av,cJ,cW,U,aa];omega
 simp[rp,ok,U,aa]
theorem al5{g:b1}{xs:List aH}(ay:kY g)(au:xs.length<=6)(ao:∀r∈xs,Input r):nN g xs=true:=
 Jo.2 ⟨ay.ok,by omega,hv.2 fun r aI=>by simp[(ao r aI).Vg]⟩
end Go.Proofs.YthfnndblgbjniaaGreatDoor
namespace Go.Proofs.YthfnndblgbjniaaGreatDoor
open Go.Sx Go.RowKit Go.Proofs.Tryz
def Fair(r:aH):Prop:=(0<=r.op/\r.op<5)/\(0<=r.bJ.bh/\r.bJ.bh<4)/\(0<=r.bJ.eo/\r.bJ.eo<5)/\(0<=r.key/\r.key<12)/\(0<=r.val/\r.val<40)
theorem tT{n:Int}(U:-9223372036854775808<=n)(aa:n<=9223372036854775807):aK .i64 n:=⟨U,aa⟩
theorem Fair.wf{r:aH}(h:Fair r):r.wf:=by
 obtain⟨U,aa,aA,aO,a8⟩:=h;exact⟨tT (by omega) (by omega),⟨tT (by omega) (by omega),tT (by omega) (by omega)⟩,tT (by omega) (by omega),tT (by omega) (by omega)⟩
theorem OL(b:List Int)(c:dy)(ap:c.ok b):∃(d:dy) (s:hd),d.ok b/\((0<=s.bh/\s.bh<4)/\(0<=s.eo/\s.eo<5))/\bP prog 177 [.cur (c.e b) (d.e b)] (.vals [.agg s.e]):=by
 obtain⟨d1,x,cx,U,bF⟩:=dC b c 4 ap (by omega);obtain⟨d2,y,cd,aa,bY⟩:=dC b d1 5 cx (by omega);exact⟨d2,⟨x,y⟩,cd,⟨U,aa⟩,aji ⟨bF,bY,ad⟩⟩
theorem yv{n:Int}{xs:List Int}(h:n∈xs)(ao:(xs.all fun x=>decide (-9223372036854775808<=x)&&decide (x<=9223372036854775807))=true):aK .i64 n:=by
 have:=fp.1 ao n h;simp only[cJ,cW]at this;exact this
theorem al6(b:List Int)(c:dy)(ap:c.ok b):∃(d:dy) (s:hd),d.ok b/\s.wf/\bP prog 176 [.cur (c.e b) (d.e b)] (.vals [.agg s.e]):=by
 obtain⟨d1,s,cx,⟨U,aa⟩,bF⟩:=OL b c ap;obtain⟨d2,k,cd,aA,bY⟩:=dC b d1 10 cx (by omega);have w1:aK .i64 s.bh:=tT (by omega) (by omega);have hs:aK .i64 s.eo:=tT (by omega) (by omega);by_cases bD:k=0
 ·obtain⟨d3,x,cD,aO,cg⟩:=j1 b d2 [-1,3,4,9223372036854775807] cd (by simp);exact⟨d3,⟨x,s.eo⟩,cD,⟨yv aO (by decide),hs⟩,ajj ⟨bF,bY,by simp[bD],cg,ad⟩⟩
 by_cases e1:k=1
 ·obtain⟨d3,x,cD,aO,cg⟩:=j1 b d2 [-1,5,6,7,-9223372036854775808] cd (by simp);exact⟨d3,⟨s.bh,x⟩,cD,⟨w1,yv aO (by decide)⟩,ajk ⟨bF,bY,by simp[bD],by simp[e1],cg,ad⟩⟩
 exact⟨d2,s,cd,⟨w1,hs⟩,ajl ⟨bF,bY,by simp[bD],by simp[e1],ad⟩⟩
theorem Cg(b:List Int)(c:dy)(ap:c.ok b):∃(d:dy) (r:aH),d.ok b/\Fair r/\bP prog 122 [.cur (c.e b) (d.e b)] (.vals [.agg r.e]):=by
 obtain⟨d1,x,cx,U,bF⟩:=dC b c 5 ap (by omega);obtain⟨d2,s,cd,⟨aa,aA⟩,bY⟩:=OL b d1 cx;obtain⟨d3,k,cD,aO,cg⟩:=dC b d2 12 cd (by omega);obtain⟨d4,v,eX,a8,dQ⟩:=dC b d3 40 cD (by omega);exact⟨d4,⟨x,s,k,v⟩,eX,⟨U,aa,aA,aO,a8⟩,akM ⟨bF,bY,cg,dQ,ad⟩⟩
theorem OM(b:List Int)(c:dy)(ap:c.ok b):∃(d:dy) (r:aH),d.ok b/\r.wf/\bP prog 121 [.cur (c.e b) (d.e b)] (.vals [.agg r.e]):=by
 obtain⟨d1,r,cx,aI,bF⟩:=Cg b c ap;obtain⟨w1,hs,KL,KM⟩:=aI.wf;obtain⟨d2,k,cd,aA,bY⟩:=dC b d1 12 cx (by omega);by_cases bD:k=0
 ·obtain⟨d3,x,cD,aO,cg⟩:=j1 b d2 [-1,7,8] cd (by simp);exact⟨d3,⟨x,r.bJ,r.key,r.val⟩,cD,⟨yv aO (by decide),hs,KL,KM⟩,akN ⟨bF,bY,by simp[bD],cg,ad⟩⟩
 by_cases e1:k=1
 ·obtain⟨d3,s,cD,aO,cg⟩:=al6 b d2 cd;exact⟨d3,⟨r.op,s,r.key,r.val⟩,cD,⟨w1,aO,KL,KM⟩,akO ⟨bF,bY,by simp[bD],by simp[e1],cg,ad⟩⟩
 by_cases e2:k=2
 ·obtain⟨d3,x,cD,aO,cg⟩:=j1 b d2 [-1,99,100,-9223372036854775808] cd (by simp);exact⟨d3,⟨r.op,r.bJ,x,r.val⟩,cD,⟨w1,hs,yv aO (by decide),KM⟩,akP ⟨bF,bY,by simp[bD],by simp[e1],by simp[e2],cg,ad⟩⟩
 by_cases ch:k=3
 ·obtain⟨d3,x,cD,aO,cg⟩:=j1 b d2 [-1,999,1000,9223372036854775807] cd (by simp);exact⟨d3,⟨r.op,r.bJ,r.key,x⟩,cD,⟨w1,hs,KL,yv aO (by decide)⟩,akQ ⟨bF,bY,by simp[bD],by simp[e1],by simp[e2],by simp[ch],cg,ad⟩⟩
 exact⟨d2,r,cd,aI.wf,akR ⟨bF,bY,by simp[bD],by simp[e1],by simp[e2],by simp[ch],ad⟩⟩
theorem EK(r:aH):Flat [r.e]:=fG fun d aF=>by
 simp only[aH.e,ep,l9,or_false]at aF;grind
