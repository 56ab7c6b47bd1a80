import Derived.Test.YtdchjefneblpgaaGreatP42
import Derived.Test.YtdchjefneblpgaaGreatGW
import Derived.Test.YtdchjefneblpgaaGreatGX
set_option linter.unusedVariables false
set_option linter.unusedSimpArgs false
namespace Go.Proofs.YtdchjefneblpgaaGreat
open Go.Sx Go.RowKit
end Go.Proofs.YtdchjefneblpgaaGreat
namespace Go.Proofs.YtdchjefneblpgaaGreat
open Go.Sx Go.RowKit
section
variable {xs : List aA} {r : aA} {t : List aA}
theorem tU(h:xs=r::t):((xs.map aA.e).drop 1).take ((xs.map aA.e).length-1)=t.map aA.e:=by subst h;exact ya (by simp)
theorem kZ(h:xs=r::t):(0:Int)<(↑(xs.map aA.e).length:Int):=by subst h;simp only[bm,dH];omega
theorem mN(h:xs=r::t):(xs.map aA.e)[0]?=some r.e:=by subst h;rfl
theorem kN(h:xs=r::t):((↑(xs.map aA.e).length:Int)==0)=false:=by
 have:=kZ h;rw[lr,gM,dY];omega
theorem qI(h:xs=[]):((↑(xs.map aA.e).length:Int)==0)=true:=by subst h;rfl
theorem tf(h:xs=r::t):decide ((↑(xs.map aA.e).length:Int)>0)=true:=dZ (kZ h)
theorem jB(h:xs=[]):decide ((↑(xs.map aA.e).length:Int)>0)=false:=by subst h;rfl
theorem ng:(0:Int)<=(some (1:Int)).getD 0:=by decide
theorem nh(h:xs=r::t):(some (1:Int)).getD 0<=(none:Option Int).getD (↑(xs.map aA.e).length:Int):=by
 have:=kZ h;simp only[iA,Option.getD_none];omega
theorem ni{l:List (List D)}:(none:Option Int).getD (↑l.length:Int)<=(↑l.length:Int):=by simp
theorem q3(h:xs=r::t)(ak:xs.length<=8388608):(([]:List (List D)).length+(((xs.map aA.e).drop 1).take ((xs.map aA.e).length-1)).length)*40<=140737488355328:=by
 rw[tU h];refine nl ?_;subst h;simp only[bm,dH]at *;omega
theorem q4(h:xs=r::t)(ak:xs.length<=8388608):([]:List (List D)).length+(((xs.map aA.e).drop 1).take ((xs.map aA.e).length-1)).length<=9223372036854775807:=by
 rw[tU h];refine jA ?_;subst h;simp only[bm,dH]at *;omega
theorem q5(h:xs=r::t):Flat (((xs.map aA.e).drop 1).take ((xs.map aA.e).length-1)):=by rw[tU h];exact cr _ aA.flat _
theorem sr(h:xs=r::t):([]:List (List D))++((xs.map aA.e).drop 1).take ((xs.map aA.e).length-1)=t.map aA.e:=tU h
end
theorem ta{xs:List aA}{a:List D}(h:xs.length<=8388608):((xs.map aA.e).length+[a].length)*40<=140737488355328:=by simp;omega
theorem tc{xs:List aA}{a:List D}(h:xs.length<=8388608):(xs.map aA.e).length+[a].length<=9223372036854775807:=by simp;omega
theorem SS(a:Int)(q:List aA)(r:aA)(b c d e:Int):bt.e ⟨a,q++[r],b,c,d,e⟩=[I a,.J 5 (q.map aA.e++[r.e]),I b,I c,I d,I e]:=by
 simp only[bt.e,ha];rfl
theorem xq{l:bt}(h:ie l=true):(0<=l.eo/\l.eo<=4)/\(0<=l.back/\l.back<=4)/\(0<=l.eQ/\l.eQ<=1000000000)/\(0<=l.c5/\l.c5<=1000000000)/\l.queue.length<=4:=by
 obtain⟨cV,cA,fl,pL,jv,nz,jT,nA⟩:=tn.1 h;simp only[ap,cK]at cV cA fl jv;omega
theorem SU(l:bt)(r:aA)(ak:l.sz<=8388608):av 258 [.agg l.e,.agg r.e] [.agg (dR l r).1.e,.one (B (dR l r).2)]:=by
 have dp:=Ea l ak;have k:=DZ l ak;have gF:=si r;have aC:l.queue.length<=8388608:=ak;cases h1:ie l with
 | false=>
  rw[h1]at k;rw[show dR l r=(l,false) by unfold dR;simp[h1]];exact afT ⟨dp,k,rfl,aa⟩
 | true=>
 rw[h1]at k;cases U:fe r with
 | false=>
  rw[U]at gF;rw[show dR l r=(l,false) by unfold dR;simp[U]];exact afU ⟨dp,k,rfl,gF,rfl,aa⟩
 | true=>
 rw[U]at gF;by_cases ax:l.eo=0
 ·rw[show dR l r=(l,false) by unfold dR;simp[ax]];exact afV ⟨dp,k,rfl,gF,rfl,by rw[dY];exact ax,aa⟩
 have yu:(l.eo==0)=false:=by rw[lr,gM,dY];exact ax
 obtain⟨jz,kb,lc,jU,ks⟩:=xq h1;by_cases aK:l.eQ<1000000000
 ·rw[show dR l r=(⟨l.cap,l.queue++[r],l.eo-1,l.back,l.eQ+1,l.c5⟩,true) by unfold dR;simp[h1,U,ax,aK]];dsimp only;rw[SS];exact afX ⟨dp,k,rfl,gF,rfl,yu,eD (by omega),ta aC,tc aC,dG (aA.flat r),⟨by omega,by omega⟩,⟨by omega,by omega⟩,aa⟩
 rw[show dR l r=(l,false) by unfold dR;simp[aK]];dsimp only;exact afW ⟨dp,k,rfl,gF,rfl,yu,dZ (by omega),aa⟩
theorem SV(l:bt)(ak:l.sz<=8388608):av 260 [.agg l.e] [.agg (dt l).1.e,.agg (dt l).2.1.e,.one (B (dt l).2.2)]:=by
 have dp:=Ea l ak;have k:=DZ l ak;have aC:l.queue.length<=8388608:=ak;cases h1:ie l with
 | false=>
  rw[h1]at k;rw[show dt l=(l,xV,false) by unfold dt;simp[h1]];exact afY ⟨dp,k,rfl,aa⟩
 | true=>
 rw[h1]at k;cases U:l.queue with
 | nil=>
  rw[show dt l=(l,xV,false) by unfold dt;rw[br h1];simp only[U]];exact afZ ⟨dp,k,rfl,qI U,aa⟩
 | cons r q=>
  obtain⟨jz,kb,lc,jU,ks⟩:=xq h1;rw[show dt l=(⟨l.cap,q,l.eo,l.back+1,l.eQ,l.c5+1⟩,r,true) by unfold dt;rw[br h1];simp only[U]];have e:bt.e ⟨l.cap,q,l.eo,l.back+1,l.eQ,l.c5+1⟩=[I l.cap,.J 5 (((l.queue.map aA.e).drop 1).take ((l.queue.map aA.e).length-1)),I l.eo,I (l.back+1),I l.eQ,I (l.c5+1)]:=by rw[tU U];rfl
  dsimp only;rw[e];exact ahr ⟨dp,k,rfl,kN U,by omega,kZ U,mN U,ng,nh U,ni,q3 U aC,q4 U aC,q5 U,⟨by omega,by omega⟩,⟨by omega,by omega⟩,aa⟩
theorem SX(l:bt)(ak:l.sz<=8388608):av 261 [.agg l.e] [.agg (eY l).1.e,.one (B (eY l).2)]:=by
 have dp:=Ea l ak;have k:=DZ l ak;cases h1:ie l with
 | false=>
  rw[h1]at k;rw[show eY l=(l,false) by unfold eY;simp[h1]];exact agj ⟨dp,k,rfl,aa⟩
 | true=>
 rw[h1]at k;by_cases ax:l.back=0
 ·rw[show eY l=(l,false) by unfold eY;simp[ax]];exact agk ⟨dp,k,rfl,by rw[dY];exact ax,aa⟩
 obtain⟨jz,kb,lc,jU,ks⟩:=xq h1;rw[show eY l=(⟨l.cap,l.queue,l.eo+1,l.back-1,l.eQ,l.c5⟩,true) by unfold eY;simp[h1,ax]];exact agl ⟨dp,k,rfl,by rw[lr,gM,dY];exact ax,⟨by omega,by omega⟩,⟨by omega,by omega⟩,aa⟩
theorem ahb(l:bt)(r:aA)(ak:l.sz<=8388608)(au:l.c5<=9223372036854775807):av 149 [.agg l.e,.agg r.e] [.agg (dR l r).1.e,.one (B (dR l r).2)]:=by
 have dp:=D' l ak;have k:=DY l ak au;have gF:=Av r;have aC:l.queue.length<=8388608:=ak;cases h1:ie l with
 | false=>
  rw[h1]at k;rw[show dR l r=(l,false) by unfold dR;simp[h1]];exact agP ⟨dp,k,rfl,aa⟩
 | true=>
 rw[h1]at k;cases U:fe r with
 | false=>
  rw[U]at gF;rw[show dR l r=(l,false) by unfold dR;simp[U]];exact agQ ⟨dp,k,rfl,gF,rfl,aa⟩
 | true=>
 rw[U]at gF;by_cases ax:l.eo=0
 ·rw[show dR l r=(l,false) by unfold dR;simp[ax]];exact af0 ⟨dp,k,rfl,gF,rfl,by rw[dY];exact ax,aa⟩
 have yu:(l.eo==0)=false:=by rw[lr,gM,dY];exact ax
 obtain⟨jz,kb,lc,jU,ks⟩:=xq h1;by_cases aK:l.eQ<1000000000
 ·rw[show dR l r=(⟨l.cap,l.queue++[r],l.eo-1,l.back,l.eQ+1,l.c5⟩,true) by unfold dR;simp[h1,U,ax,aK]];dsimp only;rw[SS];exact af2 ⟨dp,k,rfl,gF,rfl,yu,by rw[lr,gM,dY];omega,ta aC,tc aC,dG (aA.flat r),⟨by omega,by omega⟩,⟨by omega,by omega⟩,aa⟩
 rw[show dR l r=(l,false) by unfold dR;simp[aK]];dsimp only;exact af1 ⟨dp,k,rfl,gF,rfl,yu,by rw[dY];omega,aa⟩
theorem ahc(l:bt)(ak:l.sz<=8388608)(au:l.c5<=9223372036854775807):av 154 [.agg l.e] [.agg (dt l).1.e,.agg (dt l).2.1.e,.one (B (dt l).2.2)]:=by
 have dp:=D' l ak;have k:=DY l ak au;have aC:l.queue.length<=8388608:=ak;cases h1:ie l with
 | false=>
  rw[h1]at k;rw[show dt l=(l,xV,false) by unfold dt;simp[h1]];exact af4 ⟨dp,k,rfl,aa⟩
 | true=>
 rw[h1]at k;cases U:l.queue with
 | nil=>
  rw[show dt l=(l,xV,false) by unfold dt;rw[br h1];simp only[U]];exact af5 ⟨dp,k,rfl,qI U,aa⟩
 | cons r q=>
  obtain⟨jz,kb,lc,jU,ks⟩:=xq h1;rw[show dt l=(⟨l.cap,q,l.eo,l.back+1,l.eQ,l.c5+1⟩,r,true) by unfold dt;rw[br h1];simp only[U]];have e:bt.e ⟨l.cap,q,l.eo,l.back+1,l.eQ,l.c5+1⟩=[I l.cap,.J 5 (((l.queue.map aA.e).drop 1).take ((l.queue.map aA.e).length-1)),I l.eo,I (l.back+1),I l.eQ,I (l.c5+1)]:=by rw[tU U];rfl
  dsimp only;rw[e];exact af6 ⟨dp,k,rfl,kN U,ng,nh U,ni,⟨by omega,by omega⟩,⟨by omega,by omega⟩,by omega,kZ U,mN U,aa⟩
theorem ahd(l:bt)(ak:l.sz<=8388608)(au:l.c5<=9223372036854775807):av 157 [.agg l.e] [.agg (eY l).1.e,.one (B (eY l).2)]:=by
 have dp:=D' l ak;have k:=DY l ak au;cases h1:ie l with
 | false=>
  rw[h1]at k;rw[show eY l=(l,false) by unfold eY;simp[h1]];exact agz ⟨dp,k,rfl,aa⟩
 | true=>
 rw[h1]at k;by_cases ax:l.back=0
 ·rw[show eY l=(l,false) by unfold eY;simp[ax]];exact agA ⟨dp,k,rfl,by rw[dY];exact ax,aa⟩
 obtain⟨jz,kb,lc,jU,ks⟩:=xq h1;rw[show eY l=(⟨l.cap,l.queue,l.eo+1,l.back-1,l.eQ,l.c5⟩,true) by unfold eY;simp[h1,ax]];exact agB ⟨dp,k,rfl,by rw[lr,gM,dY];exact ax,⟨by omega,by omega⟩,⟨by omega,by omega⟩,aa⟩
theorem SY{n a b:Int}(aT:1<=n/\n<=4)(aj:ap a 0 (n-1)=true)(aq:ap b 0 (n-1)=true):az .i64 (a*n)/\az .i64 (a*n+b):=by
 simp only[ap,cK]at aj aq;have yV:n=1\/n=2\/n=3\/n=4:=by omega
 rcases yV with rfl | rfl | rfl | rfl<;>exact⟨⟨by omega,by omega⟩,⟨by omega,by omega⟩⟩
theorem KE{n:Int}(h:az .i64 n):IntKind.i64.wrap n=n:=by
 obtain⟨h1,U⟩:=h;simp only[IntKind.wrap_i64];omega
theorem SZ(g:b1)(a b:Int):∃v,av 61 [.agg g.e,.one (I a),.one (I b)] [.one (I v)]:=by
 cases aj:ap a 0 (IntKind.i64.wrap (g.ay-1)) with
 | false=>exact⟨_,SK ⟨fu _ aj,rfl,aa⟩⟩
 | true=>
 cases aq:ap b 0 (IntKind.i64.wrap (g.ay-1)) with
 | false=>exact⟨_,SL ⟨fu _ aj,rfl,fu _ aq,rfl,aa⟩⟩
 | true=>
 by_cases aT:g.ay<1
 ·exact⟨_,agq ⟨fu _ aj,rfl,fu _ aq,rfl,dZ aT,aa⟩⟩
 exact⟨_,SM ⟨fu _ aj,rfl,fu _ aq,rfl,eD aT,aa⟩⟩
theorem KF(g:b1)(a b:Int)(aT:1<=g.ay/\g.ay<=4):av 61 [.agg g.e,.one (I a),.one (I b)] [.one (I (eE g a b))]:=by
 have i1:IntKind.i64.wrap (g.ay-1)=g.ay-1:=KE ⟨by omega,by omega⟩;have zh:∀(x:Int) (r:Bool),ap x 0 (g.ay-1)=r->av 168 [.one (I x),.one (I 0),.one (I (IntKind.i64.wrap (g.ay-1)))] [.one (B r)]:=fun x r h=>by
  rw[i1];exact fu _ h
 cases aj:ap a 0 (g.ay-1) with
 | false=>
  rw[tp (by rw[aj];rfl)];exact SK ⟨zh _ _ aj,rfl,aa⟩
 | true=>
 cases aq:ap b 0 (g.ay-1) with
 | false=>
  rw[tp (by rw[aj,aq];rfl)];exact SL ⟨zh _ _ aj,rfl,zh _ _ aq,rfl,aa⟩
 | true=>
  obtain⟨pK,qF⟩:=SY aT aj aq;have key:av 61 [.agg g.e,.one (I a),.one (I b)] [.one (I (IntKind.i64.wrap (IntKind.i64.wrap (a*g.ay)+b)))]:=SM ⟨zh a true aj,rfl,zh b true aq,rfl,eD (by omega),aa⟩;rw[KE pK,KE qF]at key;rw[(D5 aT aj aq).1];exact key
theorem S0(g:b1)(a b:Int)(aT:1<=g.ay/\g.ay<=4):av 60 [.agg g.e,.one (I a),.one (I b)] [.one (I (eE g a b))]:=by
 cases bB:(ap a 0 (g.ay-1)&&ap b 0 (g.ay-1)) with
 | true=>
  rw[cq]at bB;obtain⟨pK,qF⟩:=SY aT bB.1 bB.2;rw[(D5 aT bB.1 bB.2).1];obtain⟨aj,aq⟩:=bB;simp only[ap,cK]at aj aq;exact agF ⟨eD (by split<;>omega),eD (by split<;>omega),pK,qF,aa⟩
 | false=>
  rw[tp bB];have qy:¬((0<=a/\a<=g.ay-1)/\(0<=b/\b<=g.ay-1)):=by
   intro k;have:(ap a 0 (g.ay-1)&&ap b 0 (g.ay-1))=true:=by simp only[ap,cq,cK];exact k
   rw[this]at bB;cases bB
  by_cases hm:(if b<a then b else a)<0
  ·exact agD ⟨dZ hm,aa⟩
  ·exact agE ⟨eD hm,dZ (by split at hm<;>split<;>omega),aa⟩
theorem z'(w:aP)(r:aA):(kept w r).e=[.J 5 (w.queue.map aA.e++[r.e]),.J 5 (w.cg.map aA.e),.J 5 (w.b8.map aA.e),.J 4 (w.cells.map Cell.e),.J 1 (w.bH.map a8),.J 1 (w.bU.map cu),.J 1 (w.bK.map cu),.J 2 (w.b'.map cD.e)]:=by
 simp only[kept,aP.e,ha];rfl
theorem S1(w:aP)(r:aA):(ho w r).e=[.J 5 (w.queue.map aA.e++[r.e]),.J 5 (w.cg.map aA.e),.J 5 (w.b8.map aA.e),.J 4 (w.cells.map Cell.e),.J 1 ((w.bH.map a8).set r.bx.bf.toNat [I (w.bH.getD r.bx.bf.toNat 0-1)]),.J 1 ((w.bU.map cu).set r.bx.bf.toNat [B true]),.J 1 (w.bK.map cu),.J 2 (w.b'.map cD.e)]:=by
 simp only[ho,lO,aP.e,ha,iB];rfl
theorem S2(w:aP)(e:Int):(kx w e).e=[.J 5 (w.queue.map aA.e),.J 5 (w.cg.map aA.e),.J 5 (w.b8.map aA.e),.J 4 (w.cells.map Cell.e),.J 1 ((w.bH.map a8).set e.toNat [I (w.bH.getD e.toNat 0+1)]),.J 1 (w.bU.map cu),.J 1 (w.bK.map cu),.J 2 (w.b'.map cD.e)]:=by
 simp only[kx,lO,aP.e,iB];rfl
theorem S3(w:aP)(r:aA)(hw:w.sz<=8388608):av 148 [.agg w.e,.agg r.e] [.agg (kept w r).e]:=by
 have aC:w.queue.length<=8388608:=by simp only[aP.sz]at hw;omega
 rw[z'];exact agC ⟨zX w hw,ta aC,tc aC,dG (aA.flat r),aa⟩
theorem ahe(w:aP)(r:aA)(hw:w.sz<=8388608)(aK:w.bH.length=4)(aq:w.bU.length=4)(he:0<=r.bx.bf/\r.bx.bf<=3)(ai:-1000000<=w.bH.getD r.bx.bf.toNat 0/\w.bH.getD r.bx.bf.toNat 0<=1000000):
  av 155 [.agg w.e,.agg r.e] [.agg (ho w r).e]:=by
 have k:=S3 w r hw;rw[z']at k;rw[S1];obtain⟨s1,s2⟩:=zj aK he;obtain⟨gD,gf⟩:=uK aq he;have pA:(if (↑(w.bU.map cu).length:Int)<(↑(w.bH.map a8).length:Int) then (↑(w.bU.map cu).length:Int) else (↑(w.bH.map a8).length:Int))-1=3:=by
  rw[bm,bm,aK,aq];rfl
 exact agO ⟨k,⟨by rw[pA];omega,by rw[pA];omega⟩,hS true (by rw[pA];simp only[ap,cK];omega),rfl,he.1,s1,s2,⟨by omega,by omega⟩,he.1,s1,s2,he.1,gD,gf,aa⟩
theorem ahf(w:aP)(e:Int)(hw:w.sz<=8388608)(aK:w.bH.length=4)(he:0<=e/\e<=3)(ai:-1000000<=w.bH.getD e.toNat 0/\w.bH.getD e.toNat 0<=1000000):
  av 150 [.agg w.e,.one (I e)] [.agg (kx w e).e]:=by
 rw[S2];obtain⟨s1,s2⟩:=zj aK he;have pA:(↑(w.bH.map a8).length:Int)-1=3:=by rw[bm,aK];rfl
 exact af3 ⟨zX w hw,⟨by rw[pA];omega,by rw[pA];omega⟩,hS true (by rw[pA];simp only[ap,cK];omega),rfl,he.1,s1,s2,⟨by omega,by omega⟩,he.1,s1,s2,aa⟩
theorem ahg(w:aP)(r:aA)(t:List aA)(hw:w.sz<=8388608)(h:w.cg=r::t):av 146 [.agg w.e] [.agg (gy w t).e,.agg r.e,.one (B true)]:=by
 have e:(gy w t).e=[.J 5 (w.queue.map aA.e),.J 5 (((w.cg.map aA.e).drop 1).take ((w.cg.map aA.e).length-1)),.J 5 (w.b8.map aA.e),.J 4 (w.cells.map Cell.e),.J 1 (w.bH.map a8),.J 1 (w.bU.map cu),.J 1 (w.bK.map cu),.J 2 (w.b'.map cD.e)]:=by rw[tU h];rfl
 rw[e];exact agd ⟨zX w hw,kN h,ng,nh h,ni,by omega,kZ h,mN h,aa⟩
theorem ahh(g:b1)(w:aP)(au:g.sz<=8388608)(hw:w.sz<=8388608):av 164 [.agg g.e,.agg w.e] [.agg (eB g w).1.e,.one (B (eB g w).2)]:=by
 have dp:=zX w hw;have k:=QX g au;have kw:=KW g w au hw;have aC:w.queue.length<=8388608:=by simp only[aP.sz]at hw;omega
 cases h1:eA g with
 | false=>
  rw[h1]at k;rw[show eB g w=(w,false) by unfold eB;simp[h1]];exact af7 ⟨dp,k,rfl,aa⟩
 | true=>
 rw[h1]at k;cases U:eJ g w with
 | false=>
  rw[U]at kw;rw[show eB g w=(w,false) by unfold eB;simp[U]];exact af8 ⟨dp,k,rfl,kw,rfl,aa⟩
 | true=>
 rw[U]at kw;have hu:eB g w=match w.cg,w.queue,w.b8 with
  | [],[],r::t=>(⟨[r],[],t,w.cells,w.bH,w.bU,w.bK,w.b'⟩,true)
  | _,_,_=>(w,false):=by unfold eB;rw[h1,U];rfl
 cases ax:w.cg with
 | cons r q=>
  rw[show eB g w=(w,false) by rw[hu,ax]];exact af9 ⟨dp,k,rfl,kw,rfl,tf ax,aa⟩
 | nil=>
 cases aK:w.queue with
 | cons r q=>
  rw[show eB g w=(w,false) by rw[hu,ax,aK]];exact aga ⟨dp,k,rfl,kw,rfl,jB ax,tf aK,aa⟩
 | nil=>
 cases aV:w.b8 with
 | nil=>
  rw[show eB g w=(w,false) by rw[hu,ax,aK,aV]];exact agb ⟨dp,k,rfl,kw,rfl,jB ax,jB aK,qI aV,aa⟩
 | cons r t=>
  rw[show eB g w=(⟨[r],[],t,w.cells,w.bH,w.bU,w.bK,w.b'⟩,true) by rw[hu,ax,aK,aV]];have e:aP.e ⟨[r],[],t,w.cells,w.bH,w.bU,w.bK,w.b'⟩=[.J 5 (w.queue.map aA.e++[r.e]),.J 5 (w.cg.map aA.e),.J 5 (((w.b8.map aA.e).drop 1).take ((w.b8.map aA.e).length-1)),.J 4 (w.cells.map Cell.e),.J 1 (w.bH.map a8),.J 1 (w.bU.map cu),.J 1 (w.bK.map cu),.J 2 (w.b'.map cD.e)]:=by
   rw[tU aV,aK,ax];rfl
  dsimp only;rw[e];exact agc ⟨dp,k,rfl,kw,rfl,jB ax,jB aK,kN aV,by omega,kZ aV,mN aV,ta aC,tc aC,dG (aA.flat r),ng,nh aV,ni,aa⟩
