/- What can be read as an expression is printed as a text that reads as the same, and is printed as itself: for every argument; a part of its proof. -/
import Derived.Test.YtjaobihcdkjmbaaGreatDoorDa
import Derived.Test.YtjaobihcdkjmbaaGreatDoorDb
set_option linter.unusedVariables false
set_option linter.unusedSimpArgs false
namespace Go.Proofs.YtjaobihcdkjmbaaGreatDoor.PReadTokens
end Go.Proofs.YtjaobihcdkjmbaaGreatDoor.PReadTokens
namespace Go.Proofs.YtjaobihcdkjmbaaGreatDoorW.PrintWords
end Go.Proofs.YtjaobihcdkjmbaaGreatDoorW.PrintWords
section
namespace Go.Proofs.YtjaobihcdkjmbaaGreatDoor
open Go.RowKit Go.Proofs.YtjaobihcdkjmbaaGreatDoorW.PrintWords Go.Proofs.YtjaobihcdkjmbaaGreatDoor.PReadTokens
theorem g_low {W T z H u D q x:Int} (hW:0<W) (hu:u=x+W*T) (hx1:x<W) (hD:D=z+W*H) (hz0:0≤z) (hq0:0≤q) (hqD:q*D≤u):q*H≤T:=by
 rcases (show T<q*H∨q*H≤T by omega) with h | h
 ·exfalso;have h1:W*(T+1)≤W*(q*H):=kAG kD4 (kBh hW);have h2:0≤q*z:=kCa hq0 hz0;have h3:q*D=q*z+W*(q*H):=by rw[hD,kBB,← kB3,kBg q W,kB3]
  rw[kBB,kCZ] at h1;omega
 ·exact h
theorem g_up {W T z H u D q x g:Int} (hW:0<W) (hu:u=x+W*T) (hx0:0≤x) (hD:D=z+W*H) (hz0:0≤z) (hz1:z<W) (hDp:0<D) (hgH:g*H≤T) (h1:1≤g) (hgl:g-1≤H) (hq:u<(q+1)*D):g≤q+1:=by
 have a1:(g-1)*z≤(g-1)*W:=kAG kD4 kD4;have a2:(g-1)*D=(g-1)*z+W*((g-1)*H):=by rw[hD,kBB,← kB3,kBg (g-1) W,kB3]
 have a3:(g-1)*H=g*H-H:=by rw[Int.sub_mul,kCj]
 have a4:W*((g-1)*H)+(g-1)*W=W*((g-1)*H+(g-1)):=by rw[kBB,kBg W (g-1)]
 have a5:W*((g-1)*H+(g-1))≤W*T:=kAG kD4 (kBh hW);have a6:(g-1)*D<(q+1)*D:=kD4
 have:=Int.lt_of_mul_lt_mul_right a6 (kBh hDp);omega
structure Guess (u D q x z W top u2 h nx:Int):Prop where
 hW:0<W
 hu:u=x+W*(top*1000000000+u2)
 hx0:0≤x
 hx1:x<W
 hD:D=z+W*(h*1000000000+nx)
 hz0:0≤z
 hz1:z<W
 hn0:0≤nx
 hn1:nx<1000000000
 h20:0≤u2
 h21:u2<1000000000
 hh0:500000000≤h
 hh1:h<1000000000
 ht0:0≤top
 hDp:0<D
 hq0:0≤q
 hq1:q<1000000000
 hqD:q*D≤u
 hqD2:u<(q+1)*D
theorem Guess.top {u D q x z W top u2 h nx:Int} (g:Guess u D q x z W top u2 h nx):top<h*1000000000+1000000000:=by
 have hq1:=g.hq1;have hDp:=g.hDp;have h1:(q+1)*D≤1000000000*D:=kB9 kD4 kD4;have h2:=g.hqD2;have h3:W*(top*1000000000+u2)<W*(1000000000*(h*1000000000+nx+1)):=by
  have:=g.hu;have:=g.hD;have:=g.hx0;have:=g.hz1;have e:W*(1000000000*(h*1000000000+nx+1))=1000000000*(W*(h*1000000000+nx))+1000000000*W:=by
   rw[Int.mul_left_comm,kBB W _ 1,kCZ,kBB]
  rw[e];omega
 have h4:=Int.lt_of_mul_lt_mul_left h3 (kBh g.hW);have:=g.hn1;have:=g.h20;omega
theorem Guess.start {u D q x z W top u2 h nx:Int} (g:Guess u D q x z W top u2 h nx):q≤top / h∧top / h≤1000000001:=by
 have hh:=g.hh0;refine⟨(Int.le_ediv_iff_mul_le kD4).2 ?_,?_⟩
 ·have h1:=g_low g.hW g.hu g.hx1 g.hD g.hz0 g.hq0 g.hqD;have h2:0≤q*nx:=kCa g.hq0 g.hn0;rw[kBB,← kB3] at h1;have:=g.h21;omega
 ·have h1:=g.top;have:top / h<1000000002:=kCN kD4 kD4;omega
theorem Guess.more {u D q x z W top u2 h nx gs left:Int} (g:Guess u D q x z W top u2 h nx) (hgl:gs*h+left=top) (hc:left*1000000000+u2<gs*nx):q≤gs-1:=by
 have h1:=g_low g.hW g.hu g.hx1 g.hD g.hz0 g.hq0 g.hqD;rcases (show q<gs∨gs≤q by omega) with hq | hq
 ·omega
 ·exfalso;have:=g.hh0;have:=g.hn0;have h2:gs*(h*1000000000+nx)≤q*(h*1000000000+nx):=kB9 hq kD4;rw[kBB gs,← kB3] at h2;omega
theorem Guess.less {u D q x z W top u2 h nx gs left:Int} (g:Guess u D q x z W top u2 h nx) (hgl:gs*h+left=top) (h0:0≤gs) (h1:gs≤1000000000) (hc:gs*nx≤left*1000000000+u2):gs≤q+1:=by
 rcases (show 0<gs∨gs≤0 by omega) with h | h
 ·refine g_up g.hW g.hu g.hx0 g.hD g.hz0 g.hz1 g.hDp ?_ kD4 (by have:=g.hh0;have:=g.hn0;omega) g.hqD2;rw[kBB,← kB3];omega
 ·have:=g.hq0;omega
theorem Guess.less2 {u D q x z W top u2 h nx gs left:Int} (g:Guess u D q x z W top u2 h nx) (hgl:gs*h+left=top) (h0:0≤gs) (h1:gs≤1000000000) (hc:1000000000≤left):gs≤q+1:=by
 refine g.less hgl h0 h1 ?_;have h2:gs*nx≤1000000000*999999999:=Int.mul_le_mul h1 (by have:=g.hn1;omega) g.hn0 kD4;have:=g.h20;omega
theorem by_great {v:Int} (h0:1≤v) (h1:v<1000000000):500000000≤v*(1000000000 / (v+1))∧1≤1000000000 / (v+1)∧(v+1)*(1000000000 / (v+1))≤1000000000:=by
 have e:=kBN 1000000000 (v+1);have r0:=kBM 1000000000 (show v+1≠0 by omega);have r1:=kBD 1000000000 (show 0<v+1 by omega);have hb:1≤1000000000 / (v+1):=(Int.le_ediv_iff_mul_le kD4).2 kD4;generalize 1000000000 / (v+1)=b at *;have h2:0≤(v-1)*(b-1):=kCa kD4 kD4;have h3:(v-1)*(b-1)=v*b-v-b+1:=by rw[Int.sub_mul,Int.mul_sub];omega
 have h4:(v+1)*b=v*b+b:=by rw[Int.add_mul,kCj]
 refine⟨?_,hb,?_⟩<;>omega
end Go.Proofs.YtjaobihcdkjmbaaGreatDoor
end
