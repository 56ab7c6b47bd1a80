import Derived.Test.YtdchjefneblpgaaP68
import Derived.Test.YtdchjefneblpgaaP79
import Derived.Test.YtdchjefneblpgaaG5
set_option linter.unusedVariables false
set_option linter.unusedSimpArgs false
namespace Go.Proofs.Ytdchjefneblpgaa
open Go.Sx Go.RowKit Go.Proofs.Try
theorem Na(b:List Int)(c:dV)(ai:c.ok b):∃(d:dV) (x:Cell),d.ok b/\cv prog 64 [.cur (c.e b) (d.e b)] (.vals [.agg x.e]):=by
 obtain⟨d1,ov,cu,_,bO⟩:=eu b c 3 ai (by omega);obtain⟨d2,pH,cc,_,b6⟩:=eu b d1 2 cu (by omega);obtain⟨d3,vZ,c7,_,cC⟩:=eu b d2 4 cc (by omega);obtain⟨d4,ow,gw,_,eo⟩:=eu b d3 5 c7 (by omega);exact⟨d4,⟨ov,pH,vZ,ow⟩,gw,adw ⟨bO,b6,cC,eo,aj⟩⟩
theorem Nb(b:List Int):∀(n i:Nat) (xs:List Cell) (c:dV),i+n=9->c.ok b->xs.length<=i->
  ∃(ys:List Cell) (d:dV),d.ok b/\ys.length<=9/\dk prog (aF f41 0) (uz (b.map hg) i (xs.map Cell.e) c.i c.h) (.exit 0) (zU (b.map hg) (ys.map Cell.e) d.i d.h)
 | n,i,xs,c,aR,ai,ae=>by
  obtain⟨d,v,ay,a8,r⟩:=eu b c 9 ai (by omega);by_cases ak:(i:Int)<v
  ·match n,aR with
   | 0,aR=>omega
   | n+1,aR=>
    obtain⟨d2,x,cc,b6⟩:=Na b d ay;have pm:=DU xs x;obtain⟨ys,cN,c7,ax,k⟩:=Nb b n (i+1) (gf xs x) d2 (by omega) cc (by omega);exact⟨ys,cN,c7,ax,.more (adx ⟨r,e3 ak,b6,ui xs x (by omega),⟨by omega,by omega⟩,aj⟩) k⟩
  exact⟨xs,d,ay,by omega,.last (di 0) (ady ⟨r,gG ak,aj⟩)⟩
theorem He(xs:List Cell):Flat (xs.map Cell.e):=bW _ Cell.flat _
theorem Nc(b:List Int)(c:dV)(ai:c.ok b):∃(d:dV) (xs:List Cell),d.ok b/\xs.length<=10/\cv prog 41 [.cur (c.e b) (d.e b)] (.vals [.one (.aa 4 (xs.map Cell.e))]):=by
 obtain⟨ys,d,ay,a7,l⟩:=Nb b 9 0 [] c rfl ai (fF _);obtain⟨d2,f,cc,b6⟩:=uw b d 10 ay (by omega);cases f with
 | true=>
  obtain⟨d3,x,c7,cC⟩:=Na b d2 cc;have e:(ys++[x]).map Cell.e=ys.map Cell.e++[x.e]:=by simp
  exact⟨d3,ys++[x],c7,by simp;omega,e▸adz ⟨l,b6,rfl,cC,by simp;omega,by simp;omega,He [x],aj⟩⟩
 | false=>exact⟨d2,ys,cc,by omega,adA ⟨l,b6,rfl,aj⟩⟩
theorem adh(b:List Int)(ah:Bytes b):∃xs ys:List Cell,xs.length<=10/\aA 14 [.one (.aa 1 (b.map hg))] [.one (.aa 4 (xs.map Cell.e)),.one (.aa 4 (ys.map Cell.e))]:=by
 obtain⟨c,ai,mr⟩:=MS b ah;obtain⟨d1,xs,cu,ae,bO⟩:=Nc b c ai;obtain⟨d2,f,cc,b6⟩:=uw b d1 3 cu (by omega);cases f with
 | true=>exact⟨xs,xs,ae,M' ⟨adK ⟨mr,bO,b6,rfl,by simp;omega,by simp;omega,He xs,aj⟩,aj⟩⟩
 | false=>
  obtain⟨d3,ys,c7,_,cC⟩:=Nc b d2 cc;exact⟨xs,ys,ae,M' ⟨adL ⟨mr,bO,b6,rfl,cC,aj⟩,aj⟩⟩
theorem adi(b:List Int)(ah:Bytes b):∃(g:bz) (e:Int) (xs:List aQ),g.sz<=120/\xs.length<=6/\aA 28 [.one (.aa 1 (b.map hg))] [.agg g.e,.one (I e),.one (.aa 5 (xs.map aQ.e))]:=by
 obtain⟨c,ai,mr⟩:=MS b ah;obtain⟨d1,g,cu,ag,bO⟩:=MV b c ai;have aeB:=ag.size;obtain⟨d2,f,cc,b6⟩:=uw b d1 10 cu (by omega);cases f with
 | true=>
  obtain⟨d3,dg,c7,tu,cC⟩:=acd b d2 cc;obtain⟨d4,xs,gw,ae,_,eo⟩:=MU b d3 c7;obtain⟨d5,f,r5,iH⟩:=uw b d4 6 gw (by omega);cases f with
  | true=>
   obtain⟨d6,r,wa,_,jv⟩:=MX b d5 r5;obtain⟨d7,v,wb,a8,iX⟩:=eu b d6 5 wa (by omega);have e:(xs++[r]).map aQ.e=xs.map aQ.e++[r.e]:=by simp
   exact⟨dg,v-1,xs++[r],tu.1,by simp;omega,e▸adC ⟨mr,bO,b6,rfl,cC,eo,iH,rfl,jv,by simp;omega,by simp;omega,Hf r,adB ⟨iX,⟨by omega,by omega⟩,aj⟩,aj⟩⟩
  | false=>
   obtain⟨d7,v,wb,a8,iX⟩:=eu b d5 5 r5 (by omega);exact⟨dg,v-1,xs,tu.1,by omega,adE ⟨mr,bO,b6,rfl,cC,eo,iH,rfl,adD ⟨iX,⟨by omega,by omega⟩,aj⟩,aj⟩⟩
 | false=>
  obtain⟨d4,xs,gw,ae,_,eo⟩:=MU b d2 cc;obtain⟨d5,f,r5,iH⟩:=uw b d4 6 gw (by omega);cases f with
  | true=>
   obtain⟨d6,r,wa,_,jv⟩:=MX b d5 r5;obtain⟨d7,v,wb,a8,iX⟩:=eu b d6 5 wa (by omega);have e:(xs++[r]).map aQ.e=xs.map aQ.e++[r.e]:=by simp
   exact⟨g,v-1,xs++[r],by omega,by simp;omega,e▸adG ⟨mr,bO,b6,rfl,eo,iH,rfl,jv,by simp;omega,by simp;omega,Hf r,adF ⟨iX,⟨by omega,by omega⟩,aj⟩,aj⟩⟩
  | false=>
   obtain⟨d7,v,wb,a8,iX⟩:=eu b d5 5 r5 (by omega);exact⟨g,v-1,xs,by omega,by omega,adI ⟨mr,bO,b6,rfl,eo,iH,rfl,adH ⟨iX,⟨by omega,by omega⟩,aj⟩,aj⟩⟩
def EU:bz:=⟨[⟨1,0,0,[1]⟩,⟨8,0,0,[]⟩],1,1⟩
def EV:aQ:=⟨0,⟨0,0⟩,5,0⟩
theorem adj:(gh EU [EV] 0).2.1=2:=by decide +kernel
theorem adk:k4 [.agg [.aa 4 [[I 1,I 0,I 0,.aa 1 [[I 1]]],[I 8,I 0,I 0,.v (.slice none 0 0)]],I 1,I 1],.one (.aa 5 [[I 0,I 0,I 0,I 5,I 0]]),.one (I 0)] [.agg EU.e,.one (.aa 5 ([EV].map aQ.e)),.one (I 0)]:=
 .cons (.agg (.cons (.aa 4 (.cons (hQ.refl _) (.cons (.cons (.refl _) (.cons (.refl _) (.cons (.refl _) (.cons (.nil 1) .nil)))) .nil))) (hQ.refl _))) (.cons (.one (.refl _)) (.cons (.one (.refl _)) .nil))
theorem adl(b:List Int)(ah:∀a∈b,(fun n=>0<=n/\n<=255) a):aA 3 [.one (.aa 1 (b.map hg))] [.one (B true)]:=by
 by_cases x0:(b.length:Int)>1048576
 ·have:=Kl (b.map hg) trivial;rw[p9 (by simpa using x0)]at this;exact adb ⟨this,rfl,aj⟩
 have big:=Kl (b.map hg) trivial;rw[oZ (by simpa using x0)]at big;have rJ:Bytes b:=⟨by omega,ah⟩
 obtain⟨g,e,xs,aeB,agi,OW⟩:=adi b rJ;have AW:=ada ⟨adJ ⟨OW,aj⟩,aj⟩;obtain⟨us,vs,hu,AX⟩:=adh b rJ;have rp:g.sz<=8388608:=by omega
 have rq:xs.length<=8388608:=by omega
 have dy:=Fx g xs e rp rq;have a2:=aaY g xs e rp rq;have s1:=M9 (gh g xs e).1 (zI g xs e);have a3:=Mv g xs e rp rq;have a4:=adv g xs e rp rq;have a5:=aaW g xs e rp rq;have xB:=aa1 g xs e rp rq;have AP:=aa0 g xs e rp rq;have s2:=M9 (sj g xs e) (aaZ g xs e);have cu:=abW us vs (by omega);have cc:=abV us vs (by omega);have one:=(Mv EU [EV] 0 (by decide) (by decide)).args adk;rw[adj]at one;cases aT:(gh g xs e).2.2 with
 | false=>
  rw[aT]at dy a2;exact ade ⟨big,rfl,AW,dy,a2,by simp,rfl,s1,rfl,a3,by simp,a4,a5,by simp,xB,AP,s2,rfl,AX,cu,cc,by simp,rfl,one,aj⟩
 | true=>
  rw[aT]at dy a2;cases ai:qI g xs e with
  | true=>
   rw[ai]at a4 a5;exact adf ⟨big,rfl,AW,dy,a2,by simp,rfl,s1,rfl,a3,by simp,a4,a5,rfl,xB,AP,s2,rfl,AX,cu,cc,by simp,rfl,a5,rfl,one,aj⟩
  | false=>
   rw[ai]at a4 a5;have rs:=ab4 g e xs rp rq;rw[<-aai aT ai]at rs;exact adg ⟨big,rfl,AW,dy,a2,by simp,rfl,s1,rfl,a3,by simp,a4,a5,rfl,xB,AP,s2,rfl,AX,cu,cc,by simp,rfl,a5,rfl,xB,rs,s2,rfl,one,aj⟩
