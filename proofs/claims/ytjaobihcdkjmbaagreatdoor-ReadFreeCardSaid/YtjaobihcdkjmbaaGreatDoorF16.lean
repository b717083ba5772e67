/- The law ReadFree answers true for every argument; a part of its proof. -/
import Derived.Lib.SliceRun
import Derived.Scope
import Derived.Test.YtjaobihcdkjmbaaGreatDoorF15
set_option linter.unusedVariables false
set_option linter.unusedSimpArgs false
section
namespace Go.Proofs.YtjaobihcdkjmbaaGreatDoor
open Go.RowKit Go.Proofs.YtjaobihcdkjmbaaGreatDoorW.PrintWords Go.Proofs.YtjaobihcdkjmbaaGreatDoor.PReadTokens
theorem push_step {P C V T A B y c x q r:Int} (h:P+B * c=A+C * V) (hB:B=C * T) (he:q * 1000000000+r=x+c+y) :
  P+B * r+B * 1000000000 * q=A+B * x+C * (V+T * y):=by
 subst hB
 have h2:C * T * (x+c+y)=C * T * (q * 1000000000+r):=by rw [he]
 grind
theorem push_round {a r bb:List Int} {n i at_:Nat} {c y:Int} (hn:n≤bb.length) (hi:i≤n) (hy:(∃ h:i < n,y=bb[i]'(by omega))∨(i=n∧y=0)) (hl:r.length=a.length) (hat:at_+i < r.length) (hd:r.drop (at_+i)=a.drop (at_+i))
  (hV:val (r.take (at_+i))+1000000000 ^ (at_+i) * c=val (a.take (at_+i))+1000000000 ^ at_ * val (bb.take (min i n))) :
  val ((r.set (at_+i) ((r[at_+i]+c+y) % 1000000000)).take (at_+(i+1)))+1000000000 ^ (at_+(i+1)) * ((r[at_+i]+c+y) / 1000000000)=val (a.take (at_+(i+1)))+1000000000 ^ at_ * val (bb.take (min (i+1) n)):=by
 rw [show at_+(i+1)=(at_+i)+1 from by omega,val_set _ hat,val_take_succ (l:=a) _ (by omega),← drop_same hat (by omega) hd,take_min hn hi hy]
 have e:=Int.mul_ediv_add_emod (r[at_+i]+c+y) 1000000000
 rw [Int.mul_comm] at e
 have h:=push_step (T:=1000000000 ^ i) hV (Int.pow_add _ _ _) e
 rw [Int.pow_succ]
 exact h
def PushPost (a bb:List Int) (n at_:Nat) (Ba L:Nat) (w:World) (e:Ending) (w':World):Prop :=
 ∃ (r:List Int) (d:Int),0≤d∧d≤1∧e=.returned (.tuple #[])∧r.length=L∧Limb r∧r.drop (at_+n+1)=a.drop (at_+n+1) ∧
   val (r.take (at_+n+1))+1000000000 ^ (at_+n+1) * d=val (a.take (at_+n+1))+1000000000 ^ at_ * val (bb.take n)∧w'.heap[Ba]?=some (.cells (limbsV r) 270 (0,0))∧w.grownBy w' (some Ba)
set_option maxRecDepth 100000 in
set_option maxHeartbeats 8000000 in
theorem push_calls (a bb:List Int) (n at_:Nat) (Ba Bb ca cb:Nat) (w:World) (hA:w.heap[Ba]?=some (.cells (limbsV a) 270 (0,0))) (hBb:w.heap[Bb]?=some (.cells (limbsV bb) 270 (0,0))) (hab:Ba≠Bb)
  (la:Limb a) (lb:Limb bb) (hn:n≤bb.length) (hat:at_+n+1≤a.length) (hs:a.length≤1002) :
  Calls Tryz.prog 282 #[.slice (some ⟨Ba,0,none⟩) a.length ca,.slice (some ⟨Bb,0,none⟩) n cb,.int .i64 (at_:Int)] w (PushPost a bb n at_ Ba a.length w):=by
 replace la:=Lib.hid la
 replace lb:=Lib.hid lb
 obtain ⟨L,hL⟩:∃ L,L=a.length:=⟨_,rfl⟩
 rw [← hL] at hat hs ⊢
 replace hL:=Lib.hid hL
 replace hA:=Lib.hid hA
 replace hBb:=Lib.hid hBb
 go_enter Tryz.func282,Tryz.ntmps282
 go_wp2_with fail
 go_loopg [6,12] (n+1) (fun gk v6 v12 wr=>∃ (i:Nat) (r:List Int) (c:Int),i+gk=n+1∧v6=.int .u32 c∧v12=.int .i64 (i:Int)∧0≤c∧c≤1∧Hid (r.length=L)∧Hid (Limb r)∧Hid (r.drop (at_+i)=a.drop (at_+i))∧Hid (val (r.take (at_+i))+1000000000 ^ (at_+i) * c=val (a.take (at_+i))+1000000000 ^ at_ * val (bb.take (min i n)))∧Hid (wr.heap[Ba]?=some (.cells (limbsV r) 270 (0,0)))∧w.grownBy wr (some Ba))
 case atStart=>exact ⟨0,a,0,by omega,rfl,rfl,by omega,by omega,Lib.hid hL.out.symm,la,Lib.hid rfl,Lib.hid (by simp [val]),hA,World.grownBy.refl _ _⟩
 case round =>
  obtain ⟨i,r,c,hi,rfl,rfl,hc0,hc1,hrl,hrL,hrd,hV,hH,hG⟩:=hrel
  cases gk with
  | zero =>
   obtain rfl:i=n+1:=by omega
   have hR:Hid (val (r.take (at_+n+1))+1000000000 ^ (at_+n+1) * c=val (a.take (at_+n+1))+1000000000 ^ at_ * val (bb.take n)):=Lib.hid (by
    have:=hV.out
    rw [Nat.min_eq_right (by omega)] at this
    exact this)
   clear hV
   go_wp2
   exact bodyPost_end (results_none rfl _ _ _) rfl ⟨r,c,hc0,hc1,rfl,hrl.out,hrL.out,hrd.out,hR.out,hH.out,hG⟩
  | succ k =>
   have hin:i≤n:=by omega
   have hlt:at_+i < r.length:=by have:=hrl.out;omega
   have hltL:at_+i < L:=by omega
   have hlti:(at_:Int)+(i:Int) < (L:Int):=by omega
   have hx:=limbs_cell hH.out (at_+i) hlt
   have hfz:=blk_frozen hH.out (at_+i)
   obtain ⟨hx0,hx1⟩:=hrL.out.at (at_+i) hlt
   obtain ⟨x,hxx⟩:∃ x,x=r[at_+i]:=⟨_,rfl⟩
   rw [← hxx] at hx hx0 hx1
   have hb:=(hG.block Bb (blk_lt hBb.out) (by intro e;injection e with e;omega)).trans hBb.out
   have hd3:Hid (∀ v:Int,(r.set (at_+i) v).drop (at_+(i+1))=a.drop (at_+(i+1))):=Lib.hid (fun v=>drop_next (by rw [hrl.out,hL.out]) hrd.out)
   by_cases hii:i < n
   ·have hyc:=limbs_cell hb i (by omega)
    obtain ⟨hy1,hy2⟩:=lb.out.at i (by omega)
    have hfin:=push_round (c:=c) (y:=bb[i]'(by omega)) (by omega:n≤bb.length) hin (.inl ⟨hii,rfl⟩) (by rw [hrl.out,hL.out]) hlt hrd.out hV.out
    rw [← hxx] at hfin
    replace hxx:=Lib.hid hxx
    have hdi:(i:Int) < (n:Int):=by omega
    generalize bb[i]'(by omega)=y at *
    have hr0:=Int.emod_nonneg (x+c+y) (show (1000000000:Int)≠0 by omega)
    have hr1:=Int.emod_lt_of_pos (x+c+y) (show (0:Int) < 1000000000 by omega)
    have hq0:0≤(x+c+y) / 1000000000:=by omega
    have hq1:(x+c+y) / 1000000000≤1:=by omega
    replace hfin:=Lib.hid hfin
    clear hV hb
    go_wp2
    go_roundg k
    case measure=>omega
    case rel =>
     refine ⟨i+1,r.set (at_+i) ((x+c+y) % 1000000000),(x+c+y) / 1000000000,by omega,rfl,by go_num,by omega,by omega,Lib.hid (by simp [hrl.out]),Lib.hid (limb_set hrL.out _ _ (by omega)),Lib.hid (hd3.out _),Lib.hid ?_,Lib.hid (limbs_set hH.out _ _),Lib.grownBy_trans hG (Lib.grownBy_setCell _ _ _ _)⟩
     exact hfin.out
   ·obtain rfl:i=n:=by omega
    have hfin:=push_round (c:=c) (y:=0) (by omega:i≤bb.length) hin (.inr ⟨rfl,rfl⟩) (by rw [hrl.out,hL.out]) hlt hrd.out hV.out
    rw [← hxx,Int.add_zero] at hfin
    replace hxx:=Lib.hid hxx
    have hr0:=Int.emod_nonneg (x+c) (show (1000000000:Int)≠0 by omega)
    have hr1:=Int.emod_lt_of_pos (x+c) (show (0:Int) < 1000000000 by omega)
    have hq0:0≤(x+c) / 1000000000:=by omega
    have hq1:(x+c) / 1000000000≤1:=by omega
    replace hfin:=Lib.hid hfin
    clear hV hb
    go_wp2
    go_roundg k
    case measure=>omega
    case rel =>
     refine ⟨i+1,r.set (at_+i) ((x+c) % 1000000000),(x+c) / 1000000000,by omega,rfl,by go_num,by omega,by omega,Lib.hid (by simp [hrl.out]),Lib.hid (limb_set hrL.out _ _ (by omega)),Lib.hid (hd3.out _),Lib.hid ?_,Lib.hid (limbs_set hH.out _ _),Lib.grownBy_trans hG (Lib.grownBy_setCell _ _ _ _)⟩
     exact hfin.out
end Go.Proofs.YtjaobihcdkjmbaaGreatDoor
end
section
namespace Go.Proofs.YtjaobihcdkjmbaaGreatDoor
open Go.RowKit Go.Proofs.YtjaobihcdkjmbaaGreatDoorW.PrintWords Go.Proofs.YtjaobihcdkjmbaaGreatDoor.PReadTokens
theorem g_low {W T z H u D q x:Int} (hW:0 < W) (hu:u=x+W * T) (hx1:x < W) (hD:D=z+W * H) (hz0:0≤z) (hq0:0≤q) (hqD:q * D≤u):q * H≤T:=by
 rcases (show T < q * H∨q * H≤T by omega) with h | h
 ·exfalso
  have h1:W * (T+1)≤W * (q * H):=Int.mul_le_mul_of_nonneg_left (by omega) (Int.le_of_lt hW)
  have h2:0≤q * z:=Int.mul_nonneg hq0 hz0
  have h3:q * D=q * z+W * (q * H):=by rw [hD,Int.mul_add,← Int.mul_assoc,Int.mul_comm q W,Int.mul_assoc]
  rw [Int.mul_add,Int.mul_one] at h1
  omega
 ·exact h
theorem g_up {W T z H u D q x g:Int} (hW:0 < W) (hu:u=x+W * T) (hx0:0≤x) (hD:D=z+W * H) (hz0:0≤z) (hz1:z < W) (hDp:0 < D) (hgH:g * H≤T) (h1:1≤g) (hgl:g - 1≤H) (hq:u < (q+1) * D):g≤q+1:=by
 have a1:(g - 1) * z≤(g - 1) * W:=Int.mul_le_mul_of_nonneg_left (by omega) (by omega)
 have a2:(g - 1) * D=(g - 1) * z+W * ((g - 1) * H):=by rw [hD,Int.mul_add,← Int.mul_assoc,Int.mul_comm (g - 1) W,Int.mul_assoc]
 have a3:(g - 1) * H=g * H - H:=by rw [Int.sub_mul,Int.one_mul]
 have a4:W * ((g - 1) * H)+(g - 1) * W=W * ((g - 1) * H+(g - 1)):=by rw [Int.mul_add,Int.mul_comm W (g - 1)]
 have a5:W * ((g - 1) * H+(g - 1))≤W * T:=Int.mul_le_mul_of_nonneg_left (by omega) (Int.le_of_lt hW)
 have a6:(g - 1) * D < (q+1) * D:=by omega
 have:=Int.lt_of_mul_lt_mul_right a6 (Int.le_of_lt hDp)
 omega
structure Guess (u D q x z W top u2 h nx:Int):Prop where
 hW:0 < W
 hu:u=x+W * (top * 1000000000+u2)
 hx0:0≤x
 hx1:x < W
 hD:D=z+W * (h * 1000000000+nx)
 hz0:0≤z
 hz1:z < W
 hn0:0≤nx
 hn1:nx < 1000000000
 h20:0≤u2
 h21:u2 < 1000000000
 hh0:500000000≤h
 hh1:h < 1000000000
 ht0:0≤top
 hDp:0 < D
 hq0:0≤q
 hq1:q < 1000000000
 hqD:q * D≤u
 hqD2:u < (q+1) * D
theorem Guess.top {u D q x z W top u2 h nx:Int} (g:Guess u D q x z W top u2 h nx):top < h * 1000000000+1000000000:=by
 have hq1:=g.hq1
 have hDp:=g.hDp
 have h1:(q+1) * D≤1000000000 * D:=Int.mul_le_mul_of_nonneg_right (by omega) (by omega)
 have h2:=g.hqD2
 have h3:W * (top * 1000000000+u2) < W * (1000000000 * (h * 1000000000+nx+1)):=by
  have:=g.hu;have:=g.hD;have:=g.hx0;have:=g.hz1
  have e:W * (1000000000 * (h * 1000000000+nx+1))=1000000000 * (W * (h * 1000000000+nx))+1000000000 * W:=by
   rw [Int.mul_left_comm,Int.mul_add W _ 1,Int.mul_one,Int.mul_add]
  rw [e]
  omega
 have h4:=Int.lt_of_mul_lt_mul_left h3 (Int.le_of_lt g.hW)
 have:=g.hn1;have:=g.h20
 omega
theorem Guess.start {u D q x z W top u2 h nx:Int} (g:Guess u D q x z W top u2 h nx):q≤top / h∧top / h≤1000000001:=by
 have hh:=g.hh0
 refine ⟨(Int.le_ediv_iff_mul_le (by omega)).2 ?_,?_⟩
 ·have h1:=g_low g.hW g.hu g.hx1 g.hD g.hz0 g.hq0 g.hqD
  have h2:0≤q * nx:=Int.mul_nonneg g.hq0 g.hn0
  rw [Int.mul_add,← Int.mul_assoc] at h1
  have:=g.h21
  omega
 ·have h1:=g.top
  have:top / h < 1000000002:=Int.ediv_lt_of_lt_mul (by omega) (by omega)
  omega
theorem Guess.more {u D q x z W top u2 h nx gs left:Int} (g:Guess u D q x z W top u2 h nx) (hgl:gs * h+left=top) (hc:left * 1000000000+u2 < gs * nx):q≤gs - 1:=by
 have h1:=g_low g.hW g.hu g.hx1 g.hD g.hz0 g.hq0 g.hqD
 rcases (show q < gs∨gs≤q by omega) with hq | hq
 ·omega
 ·exfalso
  have:=g.hh0;have:=g.hn0
  have h2:gs * (h * 1000000000+nx)≤q * (h * 1000000000+nx):=Int.mul_le_mul_of_nonneg_right hq (by omega)
  rw [Int.mul_add gs,← Int.mul_assoc] at h2
  omega
theorem Guess.less {u D q x z W top u2 h nx gs left:Int} (g:Guess u D q x z W top u2 h nx) (hgl:gs * h+left=top) (h0:0≤gs) (h1:gs≤1000000000) (hc:gs * nx≤left * 1000000000+u2):gs≤q+1:=by
 rcases (show 0 < gs∨gs≤0 by omega) with h | h
 ·refine g_up g.hW g.hu g.hx0 g.hD g.hz0 g.hz1 g.hDp ?_ (by omega) (by have:=g.hh0;have:=g.hn0;omega) g.hqD2
  rw [Int.mul_add,← Int.mul_assoc]
  omega
 ·have:=g.hq0;omega
theorem Guess.less2 {u D q x z W top u2 h nx gs left:Int} (g:Guess u D q x z W top u2 h nx) (hgl:gs * h+left=top) (h0:0≤gs) (h1:gs≤1000000000) (hc:1000000000≤left):gs≤q+1:=by
 refine g.less hgl h0 h1 ?_
 have h2:gs * nx≤1000000000 * 999999999:=Int.mul_le_mul h1 (by have:=g.hn1;omega) g.hn0 (by omega)
 have:=g.h20
 omega
theorem by_great {v:Int} (h0:1≤v) (h1:v < 1000000000):500000000≤v * (1000000000 / (v+1))∧1≤1000000000 / (v+1)∧(v+1) * (1000000000 / (v+1))≤1000000000:=by
 have e:=Int.mul_ediv_add_emod 1000000000 (v+1)
 have r0:=Int.emod_nonneg 1000000000 (show v+1≠0 by omega)
 have r1:=Int.emod_lt_of_pos 1000000000 (show 0 < v+1 by omega)
 have hb:1≤1000000000 / (v+1):=(Int.le_ediv_iff_mul_le (by omega)).2 (by omega)
 generalize 1000000000 / (v+1)=b at *
 have h2:0≤(v - 1) * (b - 1):=Int.mul_nonneg (by omega) (by omega)
 have h3:(v - 1) * (b - 1)=v * b - v - b+1:=by rw [Int.sub_mul,Int.mul_sub];omega
 have h4:(v+1) * b=v * b+b:=by rw [Int.add_mul,Int.one_mul]
 refine ⟨?_,hb,?_⟩ <;> omega
end Go.Proofs.YtjaobihcdkjmbaaGreatDoor
end
section
namespace Go.Proofs.YtjaobihcdkjmbaaGreatDoor
open Go.RowKit Go.Proofs.YtjaobihcdkjmbaaGreatDoorW.PrintWords Go.Proofs.YtjaobihcdkjmbaaGreatDoor.PReadTokens
theorem val_three {l:List Int} (i:Nat) (h:i+2 < l.length):val (l.take (i+3))=val (l.take i)+1000000000 ^ i * ((l[i+2] * 1000000000+l[i+1]) * 1000000000+l[i]):=by
 rw [val_take_succ (i+2) h,val_take_succ (i+1) (by omega),val_take_succ i (by omega),show (1000000000:Int) ^ (i+2)=1000000000 ^ i * 1000000000 * 1000000000 from by rw [Int.pow_succ,Int.pow_succ],show (1000000000:Int) ^ (i+1)=1000000000 ^ i * 1000000000 from Int.pow_succ _ _]
 generalize (1000000000:Int) ^ i=B
 grind
theorem val_pair {l:List Int} (i:Nat) (h:i+1 < l.length):val (l.take (i+2))=val (l.take i)+1000000000 ^ i * (l[i+1] * 1000000000+l[i]):=by
 rw [val_take_succ (i+1) h,val_take_succ i (by omega),Int.pow_succ]
 generalize (1000000000:Int) ^ i=B
 grind
theorem over_guess {r bb:List Int} {j at_:Nat} (hr:Limb r) (hbb:Limb bb) (hat:at_+j+2 < r.length) (hn:j+1 < bb.length) (hh:500000000≤bb[j+1])
  (hI:val (r.take (at_+j+3)) < val (bb.take (j+2)) * 1000000000 ^ (at_+1)) :
  ∃ q x z W,Guess (val (r.take (at_+j+3))) (val (bb.take (j+2)) * 1000000000 ^ at_) q x z W (r[at_+j+2] * 1000000000+r[at_+j+1]) r[at_+j] bb[j+1] bb[j]:=by
 have hb1:=hbb.at (j+1) (by omega)
 have hb0:=hbb.at j (by omega)
 have hr2:=hr.at (at_+j+2) (by omega)
 have hr1:=hr.at (at_+j+1) (by omega)
 have hr0:=hr.at (at_+j) (by omega)
 have hz0:=val_nonneg (hbb.take j)
 have hz1:=val_lt (hbb.take j)
 rw [List.length_take,Nat.min_eq_left (by omega)] at hz1
 have hx0:=val_nonneg (hr.take (at_+j))
 have hx1:=val_lt (hr.take (at_+j))
 rw [List.length_take,Nat.min_eq_left (by omega)] at hx1
 have hu0:=val_nonneg (hr.take (at_+j+3))
 have hV:=val_pair (l:=bb) j (by omega)
 have hP:=pow9_pos at_
 have hQ:=pow9_pos j
 have hVp:0 < val (bb.take (j+2)):=by
  rw [hV]
  have:0 < (1000000000:Int) ^ j * (bb[j+1] * 1000000000+bb[j]):=Int.mul_pos hQ (by omega)
  omega
 have hDp:0 < val (bb.take (j+2)) * 1000000000 ^ at_:=Int.mul_pos hVp hP
 have hI2:val (r.take (at_+j+3)) < 1000000000 * (val (bb.take (j+2)) * 1000000000 ^ at_):=by
  rw [Int.pow_succ,← Int.mul_assoc,Int.mul_comm] at hI
  exact hI
 refine ⟨val (r.take (at_+j+3)) / (val (bb.take (j+2)) * 1000000000 ^ at_),val (r.take (at_+j)),1000000000 ^ at_ * val (bb.take j),1000000000 ^ (at_+j),?_⟩
 exact {
  hW:=pow9_pos _
  hu:=val_three (at_+j) (by omega)
  hx0:=hx0
  hx1:=hx1
  hD:=by rw [hV,Int.mul_comm,Int.mul_add,← Int.mul_assoc,← Int.pow_add]
  hz0:=Int.mul_nonneg (Int.le_of_lt hP) hz0
  hz1:=by rw [Int.pow_add];exact Int.mul_lt_mul_of_pos_left hz1 hP
  hn0:=hb0.1
  hn1:=hb0.2
  h20:=hr0.1
  h21:=hr0.2
  hh0:=hh
  hh1:=hb1.2
  ht0:=by omega
  hDp:=hDp
  hq0:=Int.ediv_nonneg hu0 (Int.le_of_lt hDp)
  hq1:=Int.ediv_lt_of_lt_mul hDp hI2
  hqD:=Int.ediv_mul_le _ (by omega)
  hqD2:=Int.lt_mul_of_ediv_lt hDp (by omega) }
theorem over_guess2 {r bb:List Int} {n at_:Nat} {h nx:Int} (hr:Limb r) (hbb:Limb bb) (hn2:2≤n) (hnb:n≤bb.length) (hat:at_+n < r.length) (he:h=bb[n - 1]) (hxe:nx=bb[n - 2]) (hh:500000000≤h)
  (hI:val (r.take (at_+1+n)) < val (bb.take n) * 1000000000 ^ (at_+1)) :
  ∃ q x z W,Guess (val (r.take (at_+1+n))) (val (bb.take n) * 1000000000 ^ at_) q x z W (r[at_+n] * 1000000000+r[at_+n - 1]) r[at_+n - 2] h nx:=by
 obtain ⟨j,rfl⟩:∃ j,n=j+2:=⟨n - 2,by omega⟩
 subst he hxe
 have e:at_+1+(j+2)=at_+j+3:=by omega
 rw [e] at hI ⊢
 exact over_guess hr hbb (by omega) (by omega) hh hI
theorem over_left {u D q g d R N:Int} (hDp:0 < D) (hq0:0≤q) (hqD:q * D≤u) (hqD2:u < (q+1) * D) (hg0:q≤g) (hg1:g≤q+1) (hR0:0≤R) (hR1:R < N) (hR:R+g * D=u+N * d) (hd:d=0∨d=1) :
  (d=0∧g=q∧R=u - q * D)∨(d=1∧g=q+1∧R=u - q * D - D+N):=by
 have e1:(q+1) * D=q * D+D:=by rw [Int.add_mul,Int.one_mul]
 rcases (show g=q∨g=q+1 by omega) with rfl | rfl <;> rcases hd with rfl | rfl
 ·exact .inl ⟨rfl,rfl,by omega⟩
 ·exfalso;omega
 ·exfalso;omega
 ·exact .inr ⟨rfl,rfl,by omega⟩
theorem over_back {u D q R R2 N c:Int} (hqD:q * D≤u) (hqD2:u < (q+1) * D) (hR:R=u - q * D - D+N) (h0:0≤c) (h1:c≤1) (hb0:0≤R2) (hb1:R2 < N) (hN:D≤N) (h:R2+N * c=R+D):R2=u - q * D:=by
 have e1:(q+1) * D=q * D+D:=by rw [Int.add_mul,Int.one_mul]
 rcases (show c=0∨c=1 by omega) with rfl | rfl <;> omega
end Go.Proofs.YtjaobihcdkjmbaaGreatDoor
end
section
namespace Go.Proofs.YtjaobihcdkjmbaaGreatDoor
open Go.RowKit Go.Proofs.YtjaobihcdkjmbaaGreatDoorW.PrintWords Go.Proofs.YtjaobihcdkjmbaaGreatDoor.PReadTokens
theorem cells_C {w:World} {A:Addr} {l:List Int} (hs:l.length≤100000) (h:∀ i (hi:i < l.length),w.cell? (A.add i)=some (.int .u32 l[i])):U32.C w (some A) l.length l :=
 ⟨rfl,by omega,fun _=>⟨A,rfl,fun j p hj=>by
  have hj2:j < l.length:=(List.getElem?_eq_some_iff.1 hj).1
  have hp:l[j]=p:=(List.getElem?_eq_some_iff.1 hj).2
  subst hp
  refine ⟨[.int .u32 l[j]],rfl,rfl,fun i u hu=>?_⟩
  cases i with
  | zero =>
   simp at hu;subst hu
   have:=h j hj2
   show w.cell? (A.add (j * 1+0))=_
   rw [Nat.mul_one]
   exact this
  | succ i=>simp at hu⟩⟩
theorem limbs_C {w:World} {b n:Nat} {l:List Int} {t:TypeId} (hs:l.length≤100000) (h:w.heap[b]?=some (.cells (limbsV l) t (0,0))) (hn:n≤l.length):U32.C w (some ⟨b,0,none⟩) n (l.take n):=by
 have:=cells_C (w:=w) (A:=⟨b,0,none⟩) (l:=l.take n) (by simp;omega) (fun i hi=>by
  have hi2:i < l.length:=by simp at hi;omega
  rw [List.getElem_take]
  rw [add_plain]
  exact limbs_cell h i hi2)
 rwa [List.length_take,Nat.min_eq_left hn] at this
theorem short_calls (l:List Int) (m:Int) (A:Option Addr) (c:Nat) (w:World) (hC:U32.C w A l.length l) (hc:l.length≤c) (hl:Limb l) (hm:0 < m) (hm2:m < 1000000000) (hs:l.length≤1002) :
  Calls Tryz.prog 259 #[.slice A l.length c,.int .u32 m] w fun e w'=>∃ (q:List Int) (r:Int) (Aq:Option Addr) (cq:Nat),e=.returned (.tuple #[.slice Aq q.length cq,.int .u32 r])∧q.length=l.length∧q.length≤cq∧U32.C w' Aq q.length q∧Limb q∧0≤r∧r < m∧val l=val q * m+r∧Below w.heap.size w w':=by
 obtain ⟨q,r,e1,e2,e3,e4,e5,e6⟩:=shortly_val l m hl hm hm2 (by omega)
 refine (limbs_shortly.calls _ A c l m q r w hC hc e1).mono ?_
 rintro e w' ⟨v,rfl,hR,hb⟩
 obtain ⟨Aq,cq,rfl,h1,h2⟩:=Kd.R_reads hR
 exact ⟨q,r,Aq,cq,rfl,e2,h1,h2,e3,e4,e5,e6,hb⟩
theorem limbs_cleared (b M:Nat):∀ (k o:Nat) (w:World),w.heap[b]?=some (.cells (limbsV (List.replicate M 0)) 270 (0,0))→(w.setCells b o (List.replicate k (.int .u32 0))).heap[b]?=some (.cells (limbsV (List.replicate M 0)) 270 (0,0))∧w.grownBy (w.setCells b o (List.replicate k (.int .u32 0))) (some b)
 | 0,o,w,h=>⟨h,World.grownBy.refl _ _⟩
 | k+1,o,w,h=>by
  have h1:=limbs_set h o 0
  rw [List.set_replicate_self] at h1
  obtain ⟨a1,a2⟩:=limbs_cleared b M k (o+1) _ h1
  exact ⟨a1,Lib.grownBy_trans (Lib.grownBy_setCell _ _ _ _) a2⟩
theorem zero270 (w:World):(zeroValue 270).run Tryz.prog w=.ok (.int .u32 0) w:=by kernel_rfl
theorem limbs_clear (b M:Nat) (hM:0 < M) (w:World) (h:w.heap[b]?=some (.cells (limbsV (List.replicate M 0)) 270 (0,0))) :
  ∃ w',(∀ ty,(Builtin.clear_ #[232] ty #[.slice (some ⟨b,0,none⟩) M M]).run Tryz.prog w=.ok (.tuple #[]) w')∧w'.heap[b]?=some (.cells (limbsV (List.replicate M 0)) 270 (0,0))∧w.grownBy w' (some b):=by
 obtain ⟨h1,h2⟩:=limbs_cleared b M M 0 w h
 refine ⟨_,fun ty=>Lib.run_clear_slice w 232 270 ty (.int .u32 0) Tryz.underlying232 zero270 rfl rfl b 0 M M hM (fun j hj=>?_) (fun j hj=>?_),h1,h2⟩
 ·rw [Nat.zero_add,limbs_cell h j (by simpa using hj)];rfl
 ·rw [Nat.zero_add];exact blk_frozen h j
theorem over_setup {a b aa bb:List Int} {n la M:Nat} {v m h:Int} (hn:b.length=n) (hla:a.length=la) (ha:Limb a) (hb:Limb b) (hbb:Limb bb) (hn2:2≤n) (hM:la+1 - n=M) (hnla:n≤la)
  (haa:val aa=val a * m) (hbl:bb.length=n+1) (hbv:val bb=val b * m) (hv:v=b[n - 1]'(by omega)) (hv1:1≤v) (hh:h=bb[n - 1]'(by omega)) (g1:500000000≤v * m) (g2:1≤m) (g3:(v+1) * m≤1000000000) :
  val (bb.take n)=val b * m∧500000000≤h∧val (bb.take n) < 1000000000 ^ n∧val aa < val (bb.take n) * 1000000000 ^ M:=by
 obtain ⟨k,rfl⟩:∃ k,n=k+1:=⟨n - 1,by omega⟩
 have e1:=val_take_succ (l:=b) k (by omega)
 rw [show k+1=b.length from hn.symm,List.take_length] at e1
 have hve:b[k]=v:=hv.symm
 rw [hve] at e1
 have hbt0:=val_nonneg (hb.take k)
 have hbt1:=val_lt (hb.take k)
 rw [List.length_take,Nat.min_eq_left (by omega)] at hbt1
 have hP:=pow9_pos k
 have lo:1000000000 ^ k * v≤val b:=by omega
 have hi:val b < 1000000000 ^ k * (v+1):=by rw [Int.mul_add,Int.mul_one];omega
 have lo2:1000000000 ^ k * (v * m)≤val b * m:=by
  rw [← Int.mul_assoc]
  exact Int.mul_le_mul_of_nonneg_right lo (by omega)
 have hi2:val b * m < 1000000000 ^ (k+1):=by
  have s1:val b * m < 1000000000 ^ k * (v+1) * m:=Int.mul_lt_mul_of_pos_right hi (by omega)
  have s2:(1000000000:Int) ^ k * ((v+1) * m)≤1000000000 ^ k * 1000000000:=Int.mul_le_mul_of_nonneg_left g3 (Int.le_of_lt hP)
  rw [Int.pow_succ]
  rw [Int.mul_assoc] at s1
  omega
 have e2:=val_take_succ (l:=bb) (k+1) (by omega)
 rw [show k+1+1=bb.length from hbl.symm,List.take_length] at e2
 have hbb0:=val_nonneg (hbb.take (k+1))
 have hbl1:=hbb.at (k+1) (by omega)
 have hz:bb[k+1]=0:=by
  rcases (show bb[k+1]=0∨1≤bb[k+1] by omega) with h | h
  ·exact h
  ·exfalso
   have:(1000000000:Int) ^ (k+1) * 1≤1000000000 ^ (k+1) * bb[k+1]:=Int.mul_le_mul_of_nonneg_left h (Int.le_of_lt (pow9_pos _))
   omega
 rw [hz,Int.mul_zero,Int.add_zero] at e2
 have eV:val (bb.take (k+1))=val b * m:=by rw [← e2,hbv]
 have e3:=val_take_succ (l:=bb) k (by omega)
 have hhe:bb[k]=h:=hh.symm
 rw [hhe] at e3
 have hbt2:=val_lt (hbb.take k)
 rw [List.length_take,Nat.min_eq_left (by omega)] at hbt2
 have hh2:500000000≤h:=by
  have s1:(1000000000:Int) ^ k * (v * m) < 1000000000 ^ k * (h+1):=by rw [Int.mul_add _ h,Int.mul_one];omega
  have:=Int.lt_of_mul_lt_mul_left s1 (Int.le_of_lt hP)
  omega
 refine ⟨eV,hh2,by omega,?_⟩
 rw [haa,eV]
 have hal:=val_lt ha
 rw [hla] at hal
 have s1:val a * m < 1000000000 ^ la * m:=Int.mul_lt_mul_of_pos_right hal (by omega)
 have s2:(1000000000:Int) ^ k * (v * m) * 1000000000 ^ M≤val b * m * 1000000000 ^ M:=Int.mul_le_mul_of_nonneg_right lo2 (Int.le_of_lt (pow9_pos M))
 have s3:(1000000000:Int) ^ la * m≤1000000000 ^ k * (v * m) * 1000000000 ^ M:=by
  have e:(1000000000:Int) ^ la=1000000000 ^ k * 1000000000 ^ M:=by rw [← Int.pow_add];congr 1;omega
  have e':(1000000000:Int) ^ k * (v * m) * 1000000000 ^ M=1000000000 ^ k * 1000000000 ^ M * (v * m):=by rw [Int.mul_assoc,Int.mul_comm (v * m),← Int.mul_assoc]
  rw [e,e']
  refine Int.mul_le_mul_of_nonneg_left ?_ (Int.le_of_lt (Int.mul_pos hP (pow9_pos M)))
  have:1 * m≤v * m:=Int.mul_le_mul_of_nonneg_right hv1 (by omega)
  omega
 omega
theorem over_end {A B Q V T R e m:Int} (hm:0 < m) (hV:V=B * m) (h1:T < V) (h2:T+V * Q=A * m) (h3:T=R * m+e) (he0:0≤e) (he1:e < m):A=B * Q+R∧R < B:=by
 subst hV
 have e1:m * (A - B * Q - R)=e:=by
  have:B * m * Q=B * Q * m:=by rw [Int.mul_assoc,Int.mul_comm m,← Int.mul_assoc]
  rw [this] at h2
  rw [Int.mul_comm,Int.sub_mul,Int.sub_mul]
  omega
 have e2:A - B * Q - R=0:=by
  rcases (show A - B * Q - R=0∨1≤A - B * Q - R∨A - B * Q - R≤-1 by omega) with h | h | h
  ·exact h
  ·have:=Int.mul_le_mul_of_nonneg_left h (Int.le_of_lt hm);omega
  ·have:=Int.mul_le_mul_of_nonneg_left h (Int.le_of_lt hm);omega
 refine ⟨by omega,?_⟩
 have:R * m < B * m:=by omega
 exact Int.lt_of_mul_lt_mul_right this (Int.le_of_lt hm)
theorem val_drop1 {l:List Int} (n:Nat) (h:n < l.length):val (l.drop n)=l[n]+1000000000 * val (l.drop (n+1)):=by
 rw [List.drop_eq_getElem_cons h,val]
theorem over_next {r' qs:List Int} {n at_:Nat} {V qq A u:Int} (hr':Limb r') (hlen:at_+n < r'.length) (hV:V < 1000000000 ^ n) (hval:val (r'.take (at_+n+1))=u - qq * (V * 1000000000 ^ at_))
  (hI2:u+V * 1000000000 ^ (at_+1) * val (qs.drop (at_+1))=A) (hqD2:u < (qq+1) * (V * 1000000000 ^ at_)) (hq:at_ < qs.length) :
  val (r'.take (at_+n)) < V * 1000000000 ^ at_∧val (r'.take (at_+n))+V * 1000000000 ^ at_ * val ((qs.set at_ qq).drop at_)=A:=by
 have e1:=val_take_succ (l:=r') (at_+n) hlen
 have h0:=hr'.at (at_+n) hlen
 have hP:=pow9_pos at_
 have hlt:val (r'.take (at_+n+1)) < V * 1000000000 ^ at_:=by
  rw [hval]
  rw [Int.add_mul,Int.one_mul] at hqD2
  omega
 have hlt2:V * 1000000000 ^ at_ < 1000000000 ^ (at_+n):=by
  rw [Int.pow_add,Int.mul_comm V]
  exact Int.mul_lt_mul_of_pos_left hV hP
 have hnn:=val_nonneg (hr'.take (at_+n))
 have hz:r'[at_+n]=0:=by
  rcases (show r'[at_+n]=0∨1≤r'[at_+n] by omega) with h | h
  ·exact h
  ·exfalso
   have:(1000000000:Int) ^ (at_+n) * 1≤1000000000 ^ (at_+n) * r'[at_+n]:=Int.mul_le_mul_of_nonneg_left h (Int.le_of_lt (pow9_pos _))
   omega
 rw [hz,Int.mul_zero,Int.add_zero] at e1
 rw [← e1]
 refine ⟨hlt,?_⟩
 have e2:val ((qs.set at_ qq).drop at_)=qq+1000000000 * val (qs.drop (at_+1)):=by
  rw [val_drop1 at_ (by simp;omega),List.getElem_set_self,List.drop_set_of_lt (by omega)]
 rw [e2,hval,← hI2,Int.mul_add,Int.pow_succ]
 generalize (1000000000:Int) ^ at_=B
 generalize val (List.drop (at_+1) qs)=T
 have s1:V * B * qq=qq * (V * B):=Int.mul_comm _ _
 have s2:V * B * (1000000000 * T)=V * (B * 1000000000) * T:=by rw [← Int.mul_assoc,Int.mul_assoc V B]
 omega
def OverPost (a b:List Int) (w:World) (e:Ending) (w':World):Prop :=
 ∃ (q r:List Int) (Bq cq:Nat) (Ar:Option Addr) (cr:Nat),e=.returned (.tuple #[.slice (some ⟨Bq,0,none⟩) q.length cq,.slice Ar r.length cr])∧q.length≤cq∧r.length≤cr∧0 < q.length∧q.length≤1001∧r.length=b.length∧Limb q∧Limb r ∧
  w'.heap[Bq]?=some (.cells (limbsV q) 270 (0,0))∧U32.C w' Ar r.length r∧val a=val b * val q+val r∧val r < val b∧Below w.heap.size w w'
set_option maxRecDepth 100000 in
set_option maxHeartbeats 8000000 in
theorem over_calls (a b:List Int) (A B:Option Addr) (ca cb:Nat) (w:World) (hA:U32.C w A a.length a) (hB:U32.C w B b.length b) (la:Limb a) (lb:Limb b) (hLb:Last b) (h2:2≤b.length) (hab:b.length≤a.length) (hs:a.length≤1000) :
  Calls Tryz.prog 260 #[.slice A a.length ca,.slice B b.length cb] w (OverPost a b w):=by
 obtain ⟨n,hn⟩:∃ n,b.length=n:=⟨_,rfl⟩
 obtain ⟨la',hla⟩:∃ n,a.length=n:=⟨_,rfl⟩
 have hv:=u32_at hB (n - 1) (by omega)
 obtain ⟨bd,rfl,hvc⟩:=hv
 have hv0:=hLb (n - 1) (by omega) (by omega)
 obtain ⟨hv1,hv2⟩:=lb.at (n - 1) (by omega)
 obtain ⟨v,hvv⟩:∃ v,v=b[n - 1]'(by omega):=⟨_,rfl⟩
 rw [← hvv] at hvc hv0 hv1 hv2
 obtain ⟨g1,g2,g3⟩:=by_great (v:=v) (by omega) hv2
 obtain ⟨m,hm⟩:∃ m,m=1000000000 / (v+1):=⟨_,rfl⟩
 rw [← hm] at g1 g2 g3
 have hm2:m < 1000000000:=by
  have:(1+1) * m≤(v+1) * m:=Int.mul_le_mul_of_nonneg_right (by omega) (by omega)
  omega
 have hc1:=scaled_calls a m A ca w hA la (by omega) hm2 (by omega)
 have hc2:=fun W (h:Below w.heap.size w W)=>scaled_calls b m (some bd) cb W (Kd.C_below hB h) lb (by omega) hm2 (by omega)
 rw [hla] at hc1 ⊢
 rw [hn] at hc2 ⊢
 have hnl:((n:Int) - 1)=((n - 1:Nat):Int):=by omega
 have hmT:IntKind.u64.wrap 1000000000=1000000000:=by kernel_rfl
 have hmD:Int.tdiv 1000000000 (v+1)=m:=by rw [hm];exact Int.tdiv_eq_ediv_of_nonneg (by omega)
 have hnla:n≤la':=by omega
 have hlas:la'≤1000:=by omega
 have hn2:2≤n:=by omega
 replace hvv:=Lib.hid hvv
 replace hm:=Lib.hid hm
 replace g1:=Lib.hid g1
 replace g3:=Lib.hid g3
 replace hn:=Lib.hid hn
 replace hla:=Lib.hid hla
 replace la:=Lib.hid la
 replace lb:=Lib.hid lb
 replace hLb:=Lib.hid hLb
 replace hA:=Lib.hid hA
 replace hB:=Lib.hid hB
 replace hc2:=Lib.hid hc2
 go_enter Tryz.func260,Tryz.ntmps260
 go_wp2_with fail
 refine hc1.mono ?_
 rintro e w1 ⟨aa,ha1,ha2,ha3,rfl,ha4,hb1⟩
 have hs1:=hb1.size
 have hsz1:=blk_lt ha4
 have hc3:=hc2.out w1 hb1
 clear hc1
 go_wp2_with fail
 refine hc3.mono ?_
 rintro e w2 ⟨bb,hbb1,hbb2,hbb3,rfl,hbb4,hb2⟩
 have ha5:=bcell hb2 ha4
 have hb02:=hb1.trans (hb2.mono hs1)
 have hne:w.heap.size≠w1.heap.size:=by omega
 clear hc3 hc2 ha4 hb1 hb2 hs1 hvc
 obtain ⟨Ba,hBa⟩:∃ x,x=w.heap.size:=⟨_,rfl⟩
 obtain ⟨Bb,hBb⟩:∃ x,x=w1.heap.size:=⟨_,rfl⟩
 simp only [← hBa,← hBb] at ha5 hbb4 hne hsz1 ⊢
 replace hBa:=Lib.hid hBa
 clear hBb
 have hh:=limbs_cell hbb4 (n - 1) (by omega)
 have hx:=limbs_cell hbb4 (n - 2) (by omega)
 obtain ⟨h,hhe⟩:∃ h,h=bb[n - 1]'(by omega):=⟨_,rfl⟩
 obtain ⟨nx,hxe⟩:∃ h,h=bb[n - 2]'(by omega):=⟨_,rfl⟩
 rw [← hhe] at hh
 rw [← hxe] at hx
 obtain ⟨hh1,hh2⟩:=hbb2.at (n - 1) (by omega)
 obtain ⟨hx1,hx2⟩:=hbb2.at (n - 2) (by omega)
 rw [← hhe] at hh1 hh2
 rw [← hxe] at hx1 hx2
 replace hhe:=Lib.hid hhe
 replace hxe:=Lib.hid hxe
 replace ha1:=Lib.hid ha1
 replace ha3:=Lib.hid ha3
 replace hbb1:=Lib.hid hbb1
 replace hbb3:=Lib.hid hbb3
 replace ha5:=Lib.hid ha5
 replace hbb4:=Lib.hid hbb4
 replace ha2:=Lib.hid ha2
 replace hbb2:=Lib.hid hbb2
 have hn1:(n:Int)+1 - 1=(n:Int):=by omega
 have hnl2:((n:Int) - 2)=((n - 2:Nat):Int):=by omega
 obtain ⟨M,hM⟩:∃ M,la'+1 - n=M:=⟨_,rfl⟩
 have hMi:(la':Int)+1 - (n:Int)=(M:Int):=by omega
 have hM0:0 < M:=by omega
 have hM1:M≤1001:=by omega
 replace hM:=Lib.hid hM
 have hi1:((n - 1:Nat):Int) < (n:Int):=by omega
 have hi2:((n - 2:Nat):Int) < (n:Int):=by omega
 have hmk:=limbs_make M (by omega)
 replace hmk:=Lib.hid hmk
 go_upto_region 5 with (fail)
 go_quiet (fail)
 have hmk2:=hmk.out (w2.drewN nq)
 obtain ⟨w3,hw3⟩:∃ Y,Y=(w2.drewN nq).alloc (.cells (limbsV (List.replicate M 0)) 270):=⟨_,rfl⟩
 rw [← hw3] at hmk2
 have hB3:Below w2.heap.size w2 w3:=by rw [hw3];exact (pw_below_drewN (Below.refl _ w2) _).alloc (Nat.le_refl _) _
 have hq3:w3.heap[w2.heap.size]?=some (.cells (limbsV (List.replicate M 0)) 270 (0,0)):=by rw [hw3];exact blk_new _ _
 obtain ⟨Bq,hBq⟩:∃ x,x=w2.heap.size:=⟨_,rfl⟩
 have hBq':(w2.drewN nq).heap.size=Bq:=by rw [hBq];rfl
 rw [hBq'] at hmk2
 obtain ⟨w4,hcl,hq4,hg4⟩:=limbs_clear Bq M hM0 w3 (by rw [hBq];exact hq3)
 replace hcl:=hcl
 clear hw3 hmk
 replace hBq':=Lib.hid hBq'
 replace hBq:=Lib.hid hBq
 have hA4:Hid (w4.heap[Ba]?=some (.cells (limbsV aa) 270 (0,0))):=Lib.hid ((hg4.block Ba (by have:=blk_lt (bcell hB3 ha5.out);omega) (by intro e;injection e with e;have:=blk_lt ha5.out;have:=hBq.out;omega)).trans (bcell hB3 ha5.out))
 have hB4:Hid (w4.heap[Bb]?=some (.cells (limbsV bb) 270 (0,0))):=Lib.hid ((hg4.block Bb (by have:=blk_lt (bcell hB3 hbb4.out);omega) (by intro e;injection e with e;have:=blk_lt hbb4.out;have:=hBq.out;omega)).trans (bcell hB3 hbb4.out))
 have hQa:Ba≠Bq:=by have:=blk_lt ha5.out;have:=hBq.out;omega
 have hQb:Bb≠Bq:=by have:=blk_lt hbb4.out;have:=hBq.out;omega
 have hlow:w.heap.size≤Ba∧w.heap.size≤Bb∧w.heap.size≤Bq:=by have:=hBa.out;have:=hBq.out;have:=hb02.size;omega
 have hBel:Below w.heap.size w w4:=(hb02.trans (hB3.mono hb02.size)).grown hg4 (hb02.trans (hB3.mono hb02.size)).size (fun k e=>by injection e with e;subst e;omega)
 obtain ⟨hV1,hV2,hV3,hV4⟩:=over_setup hn.out hla.out la.out lb.out hbb2.out hn2 hM.out hnla ha3.out hbb1.out hbb3.out hvv.out (by omega) hhe.out g1.out g2 g3.out
 obtain ⟨V,hVV⟩:∃ V,V=val (bb.take n):=⟨_,rfl⟩
 rw [← hVV] at hV1 hV3 hV4
 replace hVV:=Lib.hid hVV
 replace hV1:=Lib.hid hV1
 replace hV3:=Lib.hid hV3
 replace hV4:=Lib.hid hV4
 replace hq4:=Lib.hid hq4
 replace hlow:=Lib.hid hlow
 replace hg4:=Lib.hid hg4
 replace hq3:=Lib.hid hq3
 replace hh:=Lib.hid hh
 replace hx:=Lib.hid hx
 go_upto_region 8 with (fail)
 clear hcl hmk2
 go_wp2_with fail
 go_loopg [61] M (fun s v61 wr=>∃ r qs:List Int,s≤M∧v61=.int .i64 ((M:Int) - (s:Int))∧Hid (r.length=la'+1)∧Hid (Limb r)∧Hid (qs.length=M)∧Hid (Limb qs)∧Hid (val (r.take (s+n)) < V * 1000000000 ^ s)∧Hid (val (r.take (s+n))+V * 1000000000 ^ s * val (qs.drop s)=val aa) ∧
  Hid (wr.heap[Ba]?=some (.cells (limbsV r) 270 (0,0)))∧Hid (wr.heap[Bb]?=some (.cells (limbsV bb) 270 (0,0)))∧Hid (wr.heap[Bq]?=some (.cells (limbsV qs) 270 (0,0)))∧Below w.heap.size w wr)
 case atStart =>
  have hMn:M+n=aa.length:=by have:=ha1.out;have:=hM.out;omega
  exact ⟨aa,List.replicate M 0,Nat.le_refl _,by simp,ha1,ha2,Lib.hid (by simp),Lib.hid (fun x hx=>by simp at hx;omega),Lib.hid (by rw [hMn,List.take_length];exact hV4.out),Lib.hid (by rw [hMn,List.take_length,List.drop_of_length_le (by simp)];simp [val]),hA4,hB4,hq4,hBel⟩
 case round =>
  obtain ⟨r,qs,hsM,rfl,hrl,hrL,hql,hqL,hI1,hI2,hA4,hB4,hq4,hBel⟩:=hrel
  cases gk with
  | zero =>
   have hlen:(r.take n).length=n:=by rw [List.length_take,hrl.out];omega
   have hsh:=short_calls (r.take n) m (some ⟨Ba,0,none⟩) (la'+1) wr (by rw [hlen];exact limbs_C (by rw [hrl.out];omega) hA4.out (by rw [hrl.out];omega)) (by rw [hlen];omega) (hrL.out.take n) (by omega) hm2 (by rw [hlen];omega)
   rw [hlen] at hsh
   replace hsh:=Lib.hid hsh
   replace hlen:=Lib.hid hlen
   go_wp2_with fail
   refine hsh.out.mono ?_
   rintro e w5 ⟨q,e5,Aq,cq,rfl,f1,f2,f3,f4,f5,f6,f7,f8⟩
   clear hsh
   replace f1:=Lib.hid f1
   replace f2:=Lib.hid f2
   replace f3:=Lib.hid f3
   replace f4:=Lib.hid f4
   replace f7:=Lib.hid f7
   go_wp2
   go_ret2
   have hI:=hI1.out
   have hJ:=hI2.out
   rw [Nat.zero_add,Int.pow_zero,Int.mul_one] at hI hJ
   rw [List.drop_zero] at hJ
   have hend:=over_end (by omega:0 < m) hV1.out hI (by rw [hJ];exact ha3.out) f7.out f5 f6
   refine ⟨qs,q,Bq,M,Aq,cq,by rw [hql.out];rfl,by rw [hql.out];omega,f2.out,by rw [hql.out];omega,by rw [hql.out];omega,by rw [f1.out,hn.out],hqL.out,f4.out,bcell f8 hq4.out,f3.out,hend.1,hend.2,hBel.trans (f8.mono hBel.size)⟩
  | succ at_ =>
   rw [show ((at_+1:Nat):Int)=(at_:Int)+1 from by omega]
   have hat:at_+n < r.length:=by have:=hrl.out;have:=hM.out;omega
   have hatL:at_+n < la'+1:=by have:=hrl.out;omega
   obtain ⟨qq,x,z,W,hG⟩:=over_guess2 hrL.out hbb2.out hn2 (by have:=hbb1.out;omega) hat hhe.out hxe.out hV2 (by rw [← hVV.out];exact hI1.out)
   rw [← hVV.out] at hG
   have hix:(M:Int) - 1 - ((M:Int) - ((at_:Int)+1))=(at_:Int):=by omega
   have c1:=limbs_cell hA4.out (at_+n) hat
   have c2:=limbs_cell hA4.out (at_+n - 1) (by omega)
   have c3:=limbs_cell hA4.out (at_+n - 2) (by omega)
   obtain ⟨y1,hy1⟩:∃ y,y=r[at_+n]:=⟨_,rfl⟩
   obtain ⟨y2,hy2⟩:∃ y,y=r[at_+n - 1]'(by omega):=⟨_,rfl⟩
   obtain ⟨y3,hy3⟩:∃ y,y=r[at_+n - 2]'(by omega):=⟨_,rfl⟩
   obtain ⟨d1,d1'⟩:=hrL.out.at (at_+n) hat
   obtain ⟨d2,d2'⟩:=hrL.out.at (at_+n - 1) (by omega)
   obtain ⟨d3,d3'⟩:=hrL.out.at (at_+n - 2) (by omega)
   rw [← hy1] at c1 d1 d1'
   rw [← hy2] at c2 d2 d2'
   rw [← hy3] at c3 d3 d3'
   rw [← hy1,← hy2,← hy3] at hG
   replace hy1:=Lib.hid hy1
   replace hy2:=Lib.hid hy2
   replace hy3:=Lib.hid hy3
   replace hix:=Lib.hid hix
   replace hG:=Lib.hid hG
   have hA1:(at_:Int)+(n:Int) - 1=((at_+n - 1:Nat):Int):=by omega
   have hA2:(at_:Int)+(n:Int) - 2=((at_+n - 2:Nat):Int):=by omega
   have b1:(at_:Int)+(n:Int) < (la':Int)+1:=by omega
   have b2:((at_+n - 1:Nat):Int) < (la':Int)+1:=by omega
   have b3:((at_+n - 2:Nat):Int) < (la':Int)+1:=by omega
   have hh0:(h == 0)=false:=beq_no (by omega)
   have hix2:=hix.out
   have hlt62:(M:Int) - ((at_:Int)+1) < (M:Int):=by omega
   go_wp2
   refine wp_scope_straight ?_
   go_wp2
   clear hix2
   go_quiet (fail)
   replace hA4:Hid ((wr.drewN nq).heap[Ba]?=some (.cells (limbsV r) 270 (0,0))):=hA4
   replace hB4:Hid ((wr.drewN nq).heap[Bb]?=some (.cells (limbsV bb) 270 (0,0))):=hB4
   replace hq4:Hid ((wr.drewN nq).heap[Bq]?=some (.cells (limbsV qs) 270 (0,0))):=hq4
   replace hBel:=pw_below_drewN hBel nq
   replace c3:(wr.drewN nq).cell? { block:=Ba,off:=at_+n - 2 }=some (Value.int IntKind.u32 y3):=c3
   clear c1 c2
   generalize wr.drewN nq=wx at *
   go_wp2
   have hTd:Int.tdiv (y1 * 1000000000+y2) h=(y1 * 1000000000+y2) / h:=Int.tdiv_eq_ediv_of_nonneg (by omega)
   have hTm:Int.tmod (y1 * 1000000000+y2) h=(y1 * 1000000000+y2) % h:=Int.tmod_eq_emod_of_nonneg (by omega)
   go_quiet (fail)
   obtain ⟨s1,s2⟩:=hG.out.start
   have s3:=Int.mul_ediv_add_emod (y1 * 1000000000+y2) h
   have s4:=Int.emod_nonneg (y1 * 1000000000+y2) (show h≠0 by omega)
   have s5:=Int.emod_lt_of_pos (y1 * 1000000000+y2) (show 0 < h by omega)
   have s0:=hG.out.hq0
   have s6:=hG.out.hh1
   rw [u64_at (show 0≤(y1 * 1000000000+y2) / h by omega) (by omega)]
   clear hTd hTm
   obtain ⟨tp,htp⟩:∃ t,t=y1 * 1000000000+y2:=⟨_,rfl⟩
   rw [← htp] at s1 s2 s3 s4 s5 hG ⊢
   rw [Int.mul_comm] at s3
   generalize tp / h=g0 at *
   generalize tp % h=l0 at *
   replace htp:=Lib.hid htp
   replace s3:=Lib.hid s3
   replace hA4:Hid ((wx.drewN nq).heap[Ba]?=some (.cells (limbsV r) 270 (0,0))):=hA4
   replace hB4:Hid ((wx.drewN nq).heap[Bb]?=some (.cells (limbsV bb) 270 (0,0))):=hB4
   replace hq4:Hid ((wx.drewN nq).heap[Bq]?=some (.cells (limbsV qs) 270 (0,0))):=hq4
   replace hBel:=pw_below_drewN hBel nq
   replace c3:(wx.drewN nq).cell? { block:=Ba,off:=at_+n - 2 }=some (Value.int IntKind.u32 y3):=c3
   generalize wx.drewN nq=wy at *
   go_upto_block 2 with (fail)
   refine wp_label ?_
   go_upto_block 2 with (fail)
   go_cut [13,14] (fun v13 v14 wc=>∃ g l:Int,v13=.int .u64 g∧v14=.int .u64 l∧qq≤g∧g≤qq+1∧wc=wy)
   case first =>
    clear hA4 hB4 hq4 hBel hI1 hI2
    go_wp2_with fail
    go_loopg [13,14] (1000000000 - l0).toNat (fun gk v13 v14 w6=>∃ g l:Int,v13=.int .u64 g∧v14=.int .u64 l∧gk=(1000000000 - l).toNat∧0≤l∧l < 1000000000∧qq≤g∧g≤1000000001∧Hid (g * h+l=tp)∧w6=wy)
    case atStart=>exact ⟨g0,l0,rfl,rfl,rfl,s4,by omega,s1,s2,s3,rfl⟩
    case round =>
     obtain ⟨g,l,rfl,rfl,hgk,hl0,hl1,hg0,hg1,hgl,rfl⟩:=hrel
     have hgl':Hid ((g - 1) * h+(l+h)=tp):=Lib.hid (by have:=hgl.out;rw [Int.sub_mul,Int.one_mul];omega)
     by_cases hgB:1000000000≤g
     ·have hq':qq≤g - 1:=by have:=hG.out.hq1;omega
      by_cases hl2:1000000000≤l+h
      ·go_wp2
       go_meet
       exact ⟨g - 1,l+h,rfl,rfl,hq',hG.out.less2 hgl'.out (by omega) (by omega) (by omega),rfl⟩
      ·go_wp2
       go_roundg (1000000000 - (l+h)).toNat
       case measure=>omega
       case rel=>exact ⟨g - 1,l+h,rfl,rfl,rfl,by omega,by omega,hq',by omega,hgl',rfl⟩
     ·obtain ⟨p,hp⟩:∃ p,p=g * nx:=⟨_,rfl⟩
      have p0:0≤p:=by rw [hp];exact Int.mul_nonneg (by omega) hx1
      have p1:p≤1000000000 * 999999999:=by rw [hp];exact Int.mul_le_mul (by omega) (by omega) hx1 (by omega)
      have hpw:IntKind.u64.wrap (g * nx)=p:=by rw [← hp];exact u64_at p0 (by omega)
      replace hp:=Lib.hid hp
      by_cases hc:l * 1000000000+y3 < p
      ·have hq':qq≤g - 1:=hG.out.more hgl.out (by rw [← hp.out];exact hc)
       by_cases hl2:1000000000≤l+h
       ·go_wp2
        go_meet
        exact ⟨g - 1,l+h,rfl,rfl,hq',hG.out.less2 hgl'.out (by omega) (by omega) (by omega),rfl⟩
       ·go_wp2
        go_roundg (1000000000 - (l+h)).toNat
        case measure=>omega
        case rel=>exact ⟨g - 1,l+h,rfl,rfl,rfl,by omega,by omega,hq',by omega,hgl',rfl⟩
      ·go_wp2
       go_meet
       exact ⟨g,l,rfl,rfl,hg0,hG.out.less hgl.out (by omega) (by omega) (by rw [← hp.out];omega),rfl⟩
   case rest =>
    obtain ⟨g,l,rfl,rfl,hg0,hg1,rfl⟩:=hcut
    have hqq:=hG.out.hq1
    have hpl:=pull_calls r bb n at_ g Ba Bb (la'+1) n wc hA4.out hB4.out hne hrL.out hbb2.out (by have:=hbb1.out;omega) (by omega) (by omega) (by omega) (by have:=hrl.out;omega)
    rw [hrl.out] at hpl
    replace hpl:=Lib.hid hpl
    go_wp2_with fail
    refine hpl.out.mono ?_
    clear hpl
    rintro e w7 ⟨r1,d,hd,rfl,p1,p2,p3,p4,p5,p6⟩
    have hB7:=(p6.block Bb (blk_lt hB4.out) (by intro e;injection e with e;omega)).trans hB4.out
    have hq7:=(p6.block Bq (blk_lt hq4.out) (by intro e;injection e with e;omega)).trans hq4.out
    have hBel7:=hBel.grown p6 hBel.size (fun k e=>by injection e with e;subst e;exact hlow.out.1)
    have hDp:=hG.out.hDp
    have hR0:=val_nonneg (p2.take (at_+n+1))
    have hR1:=val_lt (p2.take (at_+n+1))
    rw [List.length_take,p1,Nat.min_eq_left (by omega)] at hR1
    rw [← hVV.out,Int.mul_left_comm,Int.mul_comm _ V,show at_+n+1=at_+1+n from by omega] at p4
    rw [show at_+n+1=at_+1+n from by omega] at hR0 hR1
    have hl7:=over_left hDp hG.out.hq0 hG.out.hqD hG.out.hqD2 hg0 hg1 hR0 hR1 p4 hd
    have hatq:at_ < qs.length:=by rw [hql.out];omega
    have hatM:(at_:Int) < (M:Int):=by omega
    have hqq0:=hG.out.hq0
    have hI2o:=hI2.out
    replace hq7:=Lib.hid hq7
    replace hB7:=Lib.hid hB7
    replace p5:=Lib.hid p5
    replace p2:=Lib.hid p2
    replace p3:=Lib.hid p3
    replace p4:=Lib.hid p4
    replace hI2o:=Lib.hid hI2o
    rcases hl7 with ⟨rfl,rfl,hv7⟩ | ⟨rfl,rfl,hv7⟩
    ·have hN:=over_next p2.out (by rw [p1];omega) hV3.out (by rw [show at_+n+1=at_+1+n from by omega];exact hv7) hI2o.out hG.out.hqD2 hatq
     have y0:=limbs_cell hq7.out at_ hatq
     have yf:=blk_frozen hq7.out at_
     replace hv7:=Lib.hid hv7
     replace hN:=Lib.hid hN
     clear hd
     go_wp2
     simp only [Exit.noGoto]
     go_wp2
     go_roundg at_
     case measure=>omega
     case rel=>exact ⟨r1,qs.set at_ g,by omega,by go_num,Lib.hid p1,Lib.hid p2.out,Lib.hid (by simp [hql.out]),Lib.hid (limb_set hqL.out _ _ (by have:=hG.out.hq1;have:=hG.out.hq0;omega)),Lib.hid hN.out.1,Lib.hid hN.out.2,Lib.hid (((Lib.grownBy_setCell _ _ _ _).block Ba (blk_lt p5.out) (by intro e;injection e with e;omega)).trans p5.out),Lib.hid (((Lib.grownBy_setCell _ _ _ _).block Bb (blk_lt hB7.out) (by intro e;injection e with e;omega)).trans hB7.out),Lib.hid (limbs_set hq7.out _ _),hBel7.setCell (p:=⟨Bq,at_,none⟩) hlow.out.2.2 _⟩
    ·have hps:=push_calls r1 bb n at_ Ba Bb (la'+1) n w7 p5.out hB7.out hne p2.out hbb2.out (by have:=hbb1.out;omega) (by rw [p1];omega) (by rw [p1];omega)
     rw [p1] at hps
     have hg1':qq+1 - 1=qq:=by omega
     replace hv7:=Lib.hid hv7
     replace hps:=Lib.hid hps
     clear hd
     go_wp2_with fail
     refine hps.out.mono ?_
     clear hps
     rintro e w8 ⟨r2,c,m1,m2,rfl,m3,m4,m5,m6,m7,m8⟩
     have hB8:=(m8.block Bb (blk_lt hB7.out) (by intro e;injection e with e;omega)).trans hB7.out
     have hq8:=(m8.block Bq (blk_lt hq7.out) (by intro e;injection e with e;omega)).trans hq7.out
     have hBel8:=hBel7.grown m8 hBel7.size (fun k e=>by injection e with e;subst e;exact hlow.out.1)
     have hR20:=val_nonneg (m4.take (at_+n+1))
     have hR21:=val_lt (m4.take (at_+n+1))
     rw [List.length_take,m3,Nat.min_eq_left (by omega)] at hR21
     rw [← hVV.out,Int.mul_comm _ V,show at_+n+1=at_+1+n from by omega] at m6
     rw [show at_+n+1=at_+1+n from by omega] at hR20 hR21
     have hDN:V * 1000000000 ^ at_≤1000000000 ^ (at_+1+n):=by
      have h1:(1000000000:Int) ^ at_ * V≤1000000000 ^ at_ * 1000000000 ^ n:=Int.mul_le_mul_of_nonneg_left (Int.le_of_lt hV3.out) (Int.le_of_lt (pow9_pos at_))
      have h2:(1000000000:Int) ^ (at_+n)≤1000000000 ^ (at_+1+n):=pow9_le (by omega)
      rw [← Int.pow_add,Int.mul_comm] at h1
      omega
     have hv8:=over_back hG.out.hqD hG.out.hqD2 hv7.out m1 m2 hR20 hR21 hDN m6
     have hN:=over_next m4 (by rw [m3];omega) hV3.out (by rw [show at_+n+1=at_+1+n from by omega];exact hv8) hI2o.out hG.out.hqD2 hatq
     have y0:=limbs_cell hq8 at_ hatq
     have yf:=blk_frozen hq8 at_
     replace hv8:=Lib.hid hv8
     replace hN:=Lib.hid hN
     replace m4:=Lib.hid m4
     replace m5:=Lib.hid m5
     replace m6:=Lib.hid m6
     replace m7:=Lib.hid m7
     replace hq8:=Lib.hid hq8
     replace hB8:=Lib.hid hB8
     go_wp2
     simp only [Exit.noGoto]
     go_wp2
     go_roundg at_
     case measure=>omega
     case rel=>exact ⟨r2,qs.set at_ qq,by omega,by go_num,Lib.hid m3,Lib.hid m4.out,Lib.hid (by simp [hql.out]),Lib.hid (limb_set hqL.out _ _ (by have:=hG.out.hq1;have:=hG.out.hq0;omega)),Lib.hid hN.out.1,Lib.hid hN.out.2,Lib.hid (((Lib.grownBy_setCell _ _ _ _).block Ba (blk_lt m7.out) (by intro e;injection e with e;omega)).trans m7.out),Lib.hid (((Lib.grownBy_setCell _ _ _ _).block Bb (blk_lt hB8.out) (by intro e;injection e with e;omega)).trans hB8.out),Lib.hid (limbs_set hq8.out _ _),hBel8.setCell (p:=⟨Bq,at_,none⟩) hlow.out.2.2 _⟩
end Go.Proofs.YtjaobihcdkjmbaaGreatDoor
end
section
namespace Go.Proofs.YtjaobihcdkjmbaaGreatDoor
open Go.RowKit Go.Proofs.YtjaobihcdkjmbaaGreatDoorW.PrintWords Go.Proofs.YtjaobihcdkjmbaaGreatDoor.PReadTokens
structure LN (w:World) (z:Int) (v:Value):Prop where
 out:∃ (l:List Int) (A:Option Addr) (c:Nat),v=.agg #[.int .i64 (Int.sign z),.slice A l.length c]∧l.length≤c∧l.length≤1000∧U32.C w A l.length l∧Limb l∧Last l∧val l=z.natAbs
theorem LN.below {w w1:World} {z:Int} {v:Value} (h:LN w z v) (hb:Below w.heap.size w w1):LN w1 z v:=by
 obtain ⟨l,A,c,h1,h2,h3,h4,h5⟩:=h.out
 exact ⟨l,A,c,h1,h2,h3,Kd.C_below h4 hb,h5⟩
theorem val_trim (l:List Int) (k:Nat) (h:Trim l k):val l=val (l.take k):=by
 have e:=congrArg val (List.take_append_drop k l)
 rw [val_app] at e
 have hz:∀ m:List Int,(∀ x ∈ m,x=0)→val m=0:=by
  intro m
  induction m with
  | nil=>intro _;rfl
  | cons x r ih =>
   intro h
   have h1:=h x (List.mem_cons_self ..)
   have h2:=ih (fun y hy=>h y (List.mem_cons_of_mem _ hy))
   simp only [val];omega
 have hd:val (l.drop k)=0:=hz _ (fun x hx=>by
  obtain ⟨i,hi,rfl⟩:=List.getElem_of_mem hx
  rw [List.getElem_drop]
  exact h.zero _ (by simp at hi;omega) (by omega))
 rw [hd,Int.mul_zero,Int.add_zero] at e
 exact e.symm
theorem last_trim (l:List Int) (k:Nat) (h:Trim l k):Last (l.take k):=by
 intro i hi he
 have hk:=h.le
 rw [List.length_take,Nat.min_eq_left hk] at he
 rw [List.getElem_take]
 exact h.last i (by omega) he
theorem sign_mul_abs {s x:Int} (hs:s=1∨s=-1) (hx:0 < x):Int.sign (s * x)=s∧((s * x).natAbs:Int)=x:=by
 rcases hs with rfl | rfl
 ·rw [Int.one_mul];exact ⟨Int.sign_eq_one_of_pos hx,by omega⟩
 ·rw [Int.neg_mul,Int.one_mul,Int.sign_neg,Int.sign_eq_one_of_pos hx];exact ⟨rfl,by omega⟩
theorem C_cells {w:World} {A:Option Addr} {l:List Int} (h:U32.C w A l.length l) (hn:l≠[]):∃ ad,A=some ad∧∀ i (hi:i < l.length),w.cell? (ad.add i)=some (.int .u32 l[i]):=by
 have hp:0 < l.length:=List.length_pos_iff.2 hn
 obtain ⟨ad,rfl,_⟩:=u32_at h 0 hp
 refine ⟨ad,rfl,fun i hi=>?_⟩
 obtain ⟨ad2,e,h2⟩:=u32_at h i hi
 obtain rfl:ad=ad2:=by injection e
 exact h2
theorem made_LN (s:Int) (A:Option Addr) (l:List Int) (c:Nat) (w:World) (hs:s=1∨s=-1) (hn:l≠[]) (hc:l.length≤c) (hsm:l.length≤1000∨(l.length≤1001∧val l < 1000000000 ^ 1000)) (hC:U32.C w A l.length l) (hl:Limb l) :
  Calls Tryz.prog 229 #[.int .i64 s,.slice A l.length c] w fun e w'=>∃ v,e=.returned v∧LN w' (s * val l) v∧Below w.heap.size w w':=by
 obtain ⟨ad,rfl,hcells⟩:=C_cells hC hn
 refine (made_calls s ad l c w hc (by omega) hcells).mono ?_
 rintro e w' ⟨k,ht,rfl,hb⟩
 refine ⟨_,rfl,?_,hb⟩
 have hv:=val_trim l k ht
 have hla:=last_trim l k ht
 have hk:=ht.le
 have hlk:(l.take k).length=k:=by rw [List.length_take,Nat.min_eq_left hk]
 by_cases h0:k=0
 ·subst h0
  have hz:val l=0:=by rw [hv];rfl
  rw [hz,Int.mul_zero]
  refine ⟨[],none,0,by simp [madeV],Nat.le_refl _,by simp,Kd.C_below (w:=w) ?_ hb,(by intro x hx;cases hx),(by intro i hi;cases hi),rfl⟩
  exact ⟨rfl,by simp,fun h=>by simp at h⟩
 ·have hne:l.take k≠[]:=by intro e;rw [e] at hlk;simp at hlk;omega
  have hpos:0 < val l:=by
   rw [hv]
   have:=val_ge (hl.take k) hla hne
   have:=pow9_pos ((l.take k).length - 1)
   omega
  obtain ⟨e1,e2⟩:=sign_mul_abs hs hpos
  have hk1000:k≤1000:=by
   rcases hsm with h | ⟨h,h'⟩
   ·omega
   ·rcases (show k≤1000∨1000 < k by omega) with h2 | h2
    ·exact h2
    ·exfalso
     have h3:=val_ge (hl.take k) hla hne
     rw [← hv,hlk] at h3
     have h4:(1000000000:Int) ^ 1000≤1000000000 ^ (k - 1):=pow9_le (by omega)
     omega
  refine ⟨l.take k,some ad,k,?_,by rw [hlk];exact Nat.le_refl _,by rw [hlk];exact hk1000,?_,hl.take k,hla,by rw [e2,hv]⟩
  ·rw [e1,hlk];unfold madeV;rw [if_neg h0]
  ·exact Kd.C_below (cells_C (by rw [hlk];omega) (fun i hi=>by rw [List.getElem_take];exact hcells i (by rw [hlk] at hi;omega))) hb
end Go.Proofs.YtjaobihcdkjmbaaGreatDoor
end
