/- The law ReadFree answers true for every argument; a part of its proof. -/
import Derived.Test.YtjaobihcdkjmbaaGreatDoorF15
import Derived.Test.YtjaobihcdkjmbaaGreatDoorF16
set_option linter.unusedVariables false
set_option linter.unusedSimpArgs false
section
namespace Go.Proofs.YtjaobihcdkjmbaaGreatDoor
open Go.RowKit Go.Proofs.YtjaobihcdkjmbaaGreatDoorW.PrintWords Go.Proofs.YtjaobihcdkjmbaaGreatDoor.PReadTokens
theorem sign_three (a:Int):Int.sign a=0∨Int.sign a=1∨Int.sign a=-1:=by
 rcases Int.lt_trichotomy a 0 with h | h | h
 ·exact .inr (.inr (Int.sign_eq_neg_one_of_neg h))
 ·subst h;exact .inl rfl
 ·exact .inr (.inl (Int.sign_eq_one_of_pos h))
set_option maxHeartbeats 4000000 in
theorem times3_calls (a b:Int) (ha:a=0∨a=1∨a=-1) (hb:b=0∨b=1∨b=-1) (w:World):Calls Tryz.prog 258 #[.int .i64 a,.int .i64 b] w fun e w'=>e=.returned (.int .i64 (a * b))∧w'=w:=by
 rcases ha with rfl | rfl | rfl <;> rcases hb with rfl | rfl | rfl <;>
 ·go_enter Tryz.func258,Tryz.ntmps258
  go_wp2
  go_ret
  exact ⟨rfl,rfl⟩
theorem quo_plain {a b q r:Int} (ha:(a.natAbs:Int)=b.natAbs * q+r) (h0:0≤r) (h1:r < b.natAbs) (hq:0≤q):a.tdiv b=Int.sign a * Int.sign b * q∧a.tmod b=Int.sign a * r:=by
 have hbn:(0:Int) < b.natAbs:=by omega
 have hd:(a.natAbs:Int) / b.natAbs=q:=by
  rw [ha,Int.add_comm,Int.add_mul_ediv_left _ _ (by omega),Int.ediv_eq_zero_of_lt h0 h1];omega
 have hm:(a.natAbs:Int) % b.natAbs=r:=by
  rw [ha,Int.add_comm,Int.add_mul_emod_self_left,Int.emod_eq_of_lt h0 h1]
 have e1:(a.natAbs:Int).tdiv b.natAbs=q:=by rw [Int.tdiv_eq_ediv_of_nonneg (by omega),hd]
 have e2:(a.natAbs:Int).tmod b.natAbs=r:=by rw [Int.tmod_eq_emod_of_nonneg (by omega),hm]
 rcases Int.lt_trichotomy a 0 with ha' | ha' | ha' <;> rcases Int.lt_trichotomy b 0 with hb' | hb' | hb'
 ·rw [show (a.natAbs:Int)=-a by omega,show (b.natAbs:Int)=-b by omega] at e1 e2
  rw [Int.sign_eq_neg_one_of_neg ha',Int.sign_eq_neg_one_of_neg hb']
  rw [Int.neg_tdiv,Int.tdiv_neg] at e1
  rw [Int.neg_tmod,Int.tmod_neg] at e2
  constructor <;> omega
 ·omega
 ·rw [show (a.natAbs:Int)=-a by omega,show (b.natAbs:Int)=b by omega] at e1 e2
  rw [Int.sign_eq_neg_one_of_neg ha',Int.sign_eq_one_of_pos hb']
  rw [Int.neg_tdiv] at e1
  rw [Int.neg_tmod] at e2
  constructor <;> omega
 ·subst ha'
  have hr0:r=0:=by rw [← e2];simp
  simp [hr0]
 ·omega
 ·subst ha'
  have hr0:r=0:=by rw [← e2];simp
  simp [hr0]
 ·rw [show (a.natAbs:Int)=a by omega,show (b.natAbs:Int)=-b by omega] at e1 e2
  rw [Int.sign_eq_one_of_pos ha',Int.sign_eq_neg_one_of_neg hb']
  rw [Int.tdiv_neg] at e1
  rw [Int.tmod_neg] at e2
  constructor <;> omega
 ·omega
 ·rw [show (a.natAbs:Int)=a by omega,show (b.natAbs:Int)=b by omega] at e1 e2
  rw [Int.sign_eq_one_of_pos ha',Int.sign_eq_one_of_pos hb']
  constructor <;> omega
theorem LN_zero (w:World):LN w 0 (.agg #[.int .i64 0,.slice none 0 0]) :=
 ⟨[],none,0,rfl,Nat.le_refl _,by simp,⟨rfl,by simp,fun h=>by simp at h⟩,(by intro x hx;cases hx),(by intro i hi;cases hi),rfl⟩
theorem sign_abs (a:Int):Int.sign a * (a.natAbs:Int)=a:=by
 rcases Int.lt_trichotomy a 0 with h | h | h
 ·rw [Int.sign_eq_neg_one_of_neg h];omega
 ·subst h;rfl
 ·rw [Int.sign_eq_one_of_pos h];omega
theorem LN_far {W:World} {z:Int} {v:Value} {R:Nat} {x:Int} {B:Option Addr} {n c:Nat} {t:TypeId} (h:LN W z v) (hR:W.heap[R]?=some (.cells #[.int .i64 x,.slice B n c] t (0,0))) (v0 v1:Value):LN ((W.setCell ⟨R,0,none⟩ v0).setCell ⟨R,1,none⟩ v1) z v:=by
 obtain ⟨l,A,c',h1,h2,h3,h4,h5⟩:=h.out
 refine ⟨l,A,c',h1,h2,h3,?_,h5⟩
 by_cases hn:l=[]
 ·subst hn
  exact ⟨h4.1,by simp,fun h=>by simp at h⟩
 ·obtain ⟨ad,rfl,hc⟩:=C_cells h4 hn
  refine cells_C (by omega) (fun i hi=>?_)
  have h6:=hc i hi
  have hne:=num_ne h6 hR
  rw [World.cell?_setCell_far _ _ _ _ (Ne.symm hne),World.cell?_setCell_far _ _ _ _ (Ne.symm hne)]
  exact h6
theorem four_set {W:World} {p q:Nat} {a0 a1 b0 b1:Value} {t u:TypeId} (v0 v1 v2 v3:Value) (hne:p≠q) (h1:W.heap[p]?=some (.cells #[a0,a1] t (0,0))) (h2:W.heap[q]?=some (.cells #[b0,b1] u (0,0))) :
  let Z:=(((W.setCell ⟨p,0,none⟩ v0).setCell ⟨p,1,none⟩ v1).setCell ⟨q,0,none⟩ v2).setCell ⟨q,1,none⟩ v3
  Z.heap[p]?=some (.cells #[v0,v1] t (0,0))∧Z.heap[q]?=some (.cells #[v2,v3] u (0,0)) :=
 ⟨(Below.heap_setCell _ _ _ _ (by simp;omega)).trans ((Below.heap_setCell _ _ _ _ (by simp;omega)).trans (set2_fin _ _ h1)),set2_fin _ _ ((Below.heap_setCell _ _ _ _ (by simp;omega)).trans ((Below.heap_setCell _ _ _ _ (by simp;omega)).trans h2))⟩
set_option maxRecDepth 100000 in
set_option maxHeartbeats 8000000 in
theorem quo_calls (a b:Int) (hb0:b≠0) (va vb:Value) (w:World) (ha:LN w a va) (hb:LN w b vb) :
  Calls Tryz.prog 232 #[va,vb] w fun e w'=>∃ vq vr,e=.returned (.tuple #[vq,vr])∧LN w' (a.tdiv b) vq∧LN w' (a.tmod b) vr∧Below w.heap.size w w':=by
 obtain ⟨la,A,ca,rfl,ha1,ha2,ha3,ha4,ha5,ha6⟩:=ha.out
 obtain ⟨lb,B,cb,rfl,hb1,hb2,hb3,hb4,hb5,hb6⟩:=hb.out
 obtain ⟨sa,hsa⟩:∃ s,s=Int.sign a:=⟨_,rfl⟩
 obtain ⟨sb,hsb⟩:∃ s,s=Int.sign b:=⟨_,rfl⟩
 have ht:=times3_calls sa sb (hsa ▸ sign_three a) (hsb ▸ sign_three b)
 rw [← hsa] at ha ⊢
 rw [← hsb] at hb ⊢
 obtain ⟨X,hX⟩:∃ X,X=(((w.alloc (.cells #[.int .i64 sa,.slice A la.length ca] 234)).alloc (.cells #[.int .i64 sb,.slice B lb.length cb] 234)).alloc (.cells #[.int .i64 0,.slice none 0 0] 234)).alloc (.cells #[.int .i64 0,.slice none 0 0] 234):=⟨_,rfl⟩
 have hbX:Below w.heap.size w X:=by rw [hX];exact ((((Below.refl _ w).alloc (Nat.le_refl _) _).alloc (by simp) _).alloc (by simp <;> omega) _).alloc (by simp <;> omega) _
 have h0:X.heap[w.heap.size]?=some (.cells #[.int .i64 sa,.slice A la.length ca] 234 (0,0)):=by rw [hX];exact (Below.heap_alloc _ _ _ (by simp <;> omega)).trans ((Below.heap_alloc _ _ _ (by simp <;> omega)).trans ((Below.heap_alloc _ _ _ (by simp)).trans (blk_new w _)))
 have h1:X.heap[w.heap.size+1]?=some (.cells #[.int .i64 sb,.slice B lb.length cb] 234 (0,0)):=by rw [hX];exact (Below.heap_alloc _ _ _ (by simp <;> omega)).trans ((Below.heap_alloc _ _ _ (by simp)).trans (alloc_at _ _ _ (by simp)))
 have h2:X.heap[w.heap.size+1+1]?=some (.cells #[.int .i64 0,.slice none 0 0] 234 (0,0)):=by rw [hX];exact (Below.heap_alloc _ _ _ (by simp)).trans (alloc_at _ _ _ (by simp))
 have h3:X.heap[w.heap.size+1+1+1]?=some (.cells #[.int .i64 0,.slice none 0 0] 234 (0,0)):=by rw [hX];exact alloc_at _ _ _ (by simp)
 have hsz:=size_list sa sb la lb A B ca cb X ha2 hb2 (Kd.C_below ha3 hbX) (Kd.C_below hb3 hbX) ha4 hb4 ha5 hb5
 obtain ⟨r,hr⟩:∃ r,r=cmpI (val la) (val lb):=⟨_,rfl⟩
 rw [← hr] at hsz
 replace ha:=Lib.hid ha
 replace hb:=Lib.hid hb
 replace ha3:=Lib.hid ha3
 replace hb3:=Lib.hid hb3
 replace ha4:=Lib.hid ha4
 replace hb4:=Lib.hid hb4
 replace ha5:=Lib.hid ha5
 replace hb5:=Lib.hid hb5
 replace ha6:=Lib.hid ha6
 replace hb6:=Lib.hid hb6
 replace hsa:=Lib.hid hsa
 replace hsb:=Lib.hid hsb
 replace hr:=Lib.hid hr
 replace ht:=Lib.hid ht
 replace hb0:=Lib.hid hb0
 go_enter Tryz.func232,Tryz.ntmps232
 go_wp2_with fail
 rw [← hX]
 clear hX
 refine hsz.mono ?_
 clear hsz
 rintro e w1 ⟨rfl,hbw⟩
 have k0:=bcell hbw h0
 have k1:=bcell hbw h1
 have k2:=bcell hbw h2
 have k3:=bcell hbw h3
 have hbw1:=hbX.trans (hbw.mono hbX.size)
 clear h0 h1 h2 h3 hbw hbX
 have a0:=blk_cell k0 0
 have a1:=blk_cell k0 1
 have b0:=blk_cell k1 0
 have b1:=blk_cell k1 1
 by_cases hlt:val la < val lb
 ·have hrn:r < 0:=by rw [hr.out,cmpI_lt hlt];omega
  have d0:=blk_cell k2 0
  have d1:=blk_cell k2 1
  have e0:=blk_cell k3 0
  have e1:=blk_cell k3 1
  have fd0:=blk_frozen k2 0
  have fd1:=blk_frozen k2 1
  have fe0:=blk_frozen k3 0
  have fe1:=blk_frozen k3 1
  replace hlt:=Lib.hid hlt
  go_wp2
  go_region
  all_goals go_wp2
  all_goals
   obtain ⟨q2,q3⟩:=four_set (.int .i64 0) (.slice none 0 0) (.int .i64 sa) (.slice A la.length ca) (by omega) k2 k3
   have qb:=(((hbw1.setCell (p:=⟨w.heap.size+1+1,0,none⟩) (by simp;omega) (.int .i64 0)).setCell (p:=⟨w.heap.size+1+1,1,none⟩) (by simp;omega) (.slice none 0 0)).setCell (p:=⟨w.heap.size+1+1+1,0,none⟩) (by simp;omega) (.int .i64 sa)).setCell (p:=⟨w.heap.size+1+1+1,1,none⟩) (by simp;omega) (.slice A la.length ca)
   generalize (((w1.setCell ⟨w.heap.size+1+1,0,none⟩ (.int .i64 0)).setCell ⟨w.heap.size+1+1,1,none⟩ (.slice none 0 0)).setCell ⟨w.heap.size+1+1+1,0,none⟩ (.int .i64 sa)).setCell ⟨w.heap.size+1+1+1,1,none⟩ (.slice A la.length ca)=W9 at *
   have hlt':=hlt.out
   rw [ha6.out,hb6.out] at hlt'
   have hp:=quo_plain (a:=a) (b:=b) (q:=0) (r:=(a.natAbs:Int)) (by rw [Int.mul_zero,Int.zero_add]) (by omega) hlt' (by omega)
   rw [Int.mul_zero,sign_abs] at hp
   refine bodyPost_ret (results_cc2 Tryz.results232 _ _ (w.heap.size+1+1) (w.heap.size+1+1+1) 234 _ _ (0,0) (0,0) _ rfl rfl q2 q3 Tryz.underlying234 rfl size234 size234) rfl ⟨_,_,rfl,by rw [hp.1];exact LN_zero _,by rw [hp.2];exact ha.out.below qb.drew,qb.drew⟩
 ·have hrn:decide (r < 0)=false:=by
   rw [hr.out];unfold cmpI;rw [if_neg hlt];split <;> rfl
  replace hlt:=Lib.hid hlt
  have htw:=ht.out w1
  have hlbne:lb≠[]:=by
   intro e
   have:=hb6.out
   rw [e] at this
   have:=hb0.out
   simp [val] at *
   omega
  have hlen:lb.length≤la.length:=by
   rcases (show lb.length≤la.length∨la.length < lb.length by omega) with h | h
   ·exact h
   ·exact absurd (val_lt_len ha4.out hb4.out hb5.out h) hlt.out
  have hsig:Int.sign a=1∨Int.sign a=-1:=by
   rcases sign_three a with h | h
   ·exfalso
    have ha0:a=0:=Int.sign_eq_zero_iff_zero.1 h
    have:=ha6.out
    have h2:=val_ge hb4.out hb5.out hlbne
    have h3:=pow9_pos (lb.length - 1)
    have:=hlt.out
    rw [ha0] at *
    simp at *
    omega
   ·exact h
  have hsigb:Int.sign b=1∨Int.sign b=-1:=by
   rcases sign_three b with h | h
   ·exact absurd (Int.sign_eq_zero_iff_zero.1 h) hb0.out
   ·exact h
  have hss:sa * sb=1∨sa * sb=-1:=by
   rw [hsa.out,hsb.out]
   rcases hsig with h | h <;> rcases hsigb with h' | h' <;> rw [h,h'] <;> simp
  have hpos:0 < lb.length:=List.length_pos_iff.2 hlbne
  replace hlbne:=Lib.hid hlbne
  replace hsig:=Lib.hid hsig
  replace hsigb:=Lib.hid hsigb
  replace hss:=Lib.hid hss
  by_cases hone:lb.length=1
  ·have hone2:((lb.length:Int) == 1)=true:=by rw [hone];rfl
   obtain ⟨m,hm⟩:∃ m,lb=[m]:=by
    match lb,hone with
    | [m],_=>exact ⟨m,rfl⟩
   obtain ⟨bd,hBd,hmc⟩:=u32_at hb3.out 0 hpos
   have hm0:lb[0]=m:=by simp [hm]
   rw [hm0,Addr.add_zero'] at hmc
   have hmb:=hb4.out.at 0 hpos
   rw [hm0] at hmb
   have hmv:val lb=m:=by rw [hm];simp [val]
   have hmp:0 < m:=by
    have h2:=val_ge hb4.out hb5.out hlbne.out
    have h3:=pow9_pos (lb.length - 1)
    omega
   have hmc1:=pw_cell_below hbw1 hmc
   have hsh:=short_calls la m A ca w1.drew (Kd.C_below ha3.out hbw1.drew) ha1 ha4.out hmp hmb.2 (by omega)
   replace hm:=Lib.hid hm
   replace hone:=Lib.hid hone
   replace hsh:=Lib.hid hsh
   replace hm0:=Lib.hid hm0
   replace hmv:=Lib.hid hmv
   subst hBd
   go_wp2_with (go_at_call 258;refine htw.mono ?_;rintro e wq ⟨rfl,hq⟩;subst wq)
   have K:w1.drew.cell? ⟨w.heap.size,1,none⟩=some (.slice A la.length ca)∧w1.drew.cell? ⟨w.heap.size+1,1,none⟩=some (.slice (some bd) lb.length cb)∧w1.drew.cell? bd=some (.int .u32 m):=⟨a1,b1,hmc1⟩
   clear a0 a1 b0 b1 hmc1 htw
   go_region_held3 (fun w':World=>w'.cell? ⟨w.heap.size,1,none⟩=some (.slice A la.length ca)∧w'.cell? ⟨w.heap.size+1,1,none⟩=some (.slice (some bd) lb.length cb)∧w'.cell? bd=some (.int .u32 m)) (first | exact K) (first
    | (go_at_call 259;refine hsh.out.mono ?_;clear hsh;rintro e w2 ⟨q,r2,Aq,cq,rfl,o3,o1,o7,o5,o8,o9,o10,o11⟩;have K:=And.intro (pw_cell_below o11 K.1) (And.intro (pw_cell_below o11 K.2.1) (pw_cell_below o11 K.2.2))))
   have hbw2:=hbw1.drew.trans (o11.mono hbw1.drew.size)
   have K0:w2.cell? ⟨w.heap.size,0,none⟩=some (.int .i64 sa):=pw_cell_below o11 (show w1.drew.cell? _=_ from blk_cell k0 0)
   have j2:w2.heap[w.heap.size+1+1]?=some (.cells #[.int .i64 0,.slice none 0 0] 234 (0,0)):=bcell o11 (bcell (Below.refl _ w1).drew k2)
   have j3:w2.heap[w.heap.size+1+1+1]?=some (.cells #[.int .i64 0,.slice none 0 0] 234 (0,0)):=bcell o11 (bcell (Below.refl _ w1).drew k3)
   have hqne:q≠[]:=by intro e;rw [e] at o3;simp at o3;omega
   have HM1:Hid (∀ W:World,Below w2.heap.size w2 W→Calls Tryz.prog 229 #[.int .i64 (sa * sb),.slice Aq la.length cq] W fun e w'=>∃ s A n c,e=.returned (.agg #[.int .i64 s,.slice A n c])∧LN w' (sa * sb * val q) (.agg #[.int .i64 s,.slice A n c])∧Below W.heap.size W w'):=Lib.hid (fun W hW=>by
    have h:=made_LN (sa * sb) Aq q cq W hss.out hqne o1 (.inl (by omega)) (Kd.C_below o7 hW) o5
    rw [o3] at h
    refine h.mono ?_
    rintro _ _ ⟨v,h1,h2,h3⟩
    obtain ⟨l,A,c,rfl,_⟩:=h2.out
    exact ⟨_,_,_,_,h1,h2,h3⟩)
   have HM2:Hid (∀ (W:World) (A':Addr),W.cell? A'=some (.int .u32 r2)→Calls Tryz.prog 229 #[.int .i64 sa,.slice (some A') 1 1] W fun e w'=>∃ s A n c,e=.returned (.agg #[.int .i64 s,.slice A n c])∧LN w' (sa * r2) (.agg #[.int .i64 s,.slice A n c])∧Below W.heap.size W w'):=Lib.hid (fun W A' hW=>by
    have h:=made_LN sa (some A') [r2] 1 W (by rw [hsa.out];exact hsig.out) (by simp) (by simp) (.inl (by simp)) (cells_C (by simp) (fun i hi=>by
     obtain rfl:i=0:=by simp at hi;omega
     rw [Addr.add_zero'];exact hW)) (by intro x hx;simp at hx;subst hx;omega)
    have hv:val [r2]=r2:=by simp [val]
    rw [hv] at h
    refine h.mono ?_
    rintro _ _ ⟨v,h1,h2,h3⟩
    obtain ⟨l,A,c,rfl,_⟩:=h2.out
    exact ⟨_,_,_,_,h1,h2,h3⟩)
   have hp:=quo_plain (a:=a) (b:=b) (q:=val q) (r:=r2) (by rw [← ha6.out,← hb6.out,hmv.out,Int.mul_comm];exact o10) o8 (by rw [← hb6.out,hmv.out];exact o9) (val_nonneg o5)
   rw [← hsa.out,← hsb.out] at hp
   replace hp:=Lib.hid hp
   replace hbw2:=Lib.hid hbw2
   clear K o1 o5 o7 o8 o9 o10 o11 k0 k1 k2 k3
   go_wp2_with fail
   have K:w2.drew.cell? ⟨w.heap.size,0,none⟩=some (.int .i64 sa):=K0
   have J2:w2.drew.heap[w.heap.size+1+1]?=some (.cells #[.int .i64 0,.slice none 0 0] 234 (0,0)):=j2
   have J3:w2.drew.heap[w.heap.size+1+1+1]?=some (.cells #[.int .i64 0,.slice none 0 0] 234 (0,0)):=j3
   clear K0 j2 j3
   have BC0:Hid (Below w2.heap.size w2 w2.drew):=Lib.hid (Below.refl _ w2).drew
   have HAD:Hid (Below w2.drew.heap.size w2.drew (w2.alloc (.cells #[.int .u32 r2] 270)).drew):=Lib.hid (by
    have h:=((Below.refl w2.heap.size w2).alloc (Nat.le_refl _) (.cells #[.int .u32 r2] 270)).drew
    exact ⟨h.os,h.tape,h.output,h.size,h.block⟩)
   have BCA:Hid (Below w2.heap.size w2 (w2.alloc (.cells #[.int .u32 r2] 270)).drew):=Lib.hid ((Below.refl w2.heap.size w2).alloc (Nat.le_refl _) (.cells #[.int .u32 r2] 270)).drew
   have KN0:Hid ((w2.alloc (.cells #[.int .u32 r2] 270)).drew.cell? ⟨w2.heap.size,0,none⟩=some (.int .u32 r2)):=Lib.hid (blk_cell (blk_new w2 (.cells #[.int .u32 r2] 270)) 0)
   have KA2:Hid (∀ (W:World) (o:Obj),W.cell? ⟨w.heap.size,0,none⟩=some (.int .i64 sa)→(W.alloc o).cell? ⟨w.heap.size,0,none⟩=some (.int .i64 sa)):=Lib.hid (fun W o k=>pw_cell_below ((Below.refl _ _).alloc (Nat.le_refl _) _) k)
   have KD2:Hid (∀ (W:World) (o:Obj),W.drew.cell? ⟨w.heap.size,0,none⟩=some (.int .i64 sa)→(W.alloc o).drew.cell? ⟨w.heap.size,0,none⟩=some (.int .i64 sa)):=Lib.hid (fun W o k=>show (W.alloc o).cell? _=_ from pw_cell_below ((Below.refl _ _).alloc (Nat.le_refl _) _) (show W.cell? _=_ from k))
   have KS2:Hid (∀ (W:World) (v v':Value),W.cell? ⟨w.heap.size,0,none⟩=some (.int .i64 sa)→((W.setCell ⟨w.heap.size+1+1,0,none⟩ v).setCell ⟨w.heap.size+1+1,1,none⟩ v').cell? ⟨w.heap.size,0,none⟩=some (.int .i64 sa)):=Lib.hid (fun W v v' k=>by
    rw [World.cell?_setCell_far _ _ _ _ (by simp <;> omega),World.cell?_setCell_far _ _ _ _ (by simp <;> omega)];exact k)
   have KS3:Hid (∀ (W:World) (v v':Value),W.cell? ⟨w.heap.size,0,none⟩=some (.int .i64 sa)→((W.setCell ⟨w.heap.size+1+1+1,0,none⟩ v).setCell ⟨w.heap.size+1+1+1,1,none⟩ v').cell? ⟨w.heap.size,0,none⟩=some (.int .i64 sa)):=Lib.hid (fun W v v' k=>by
    rw [World.cell?_setCell_far _ _ _ _ (by simp <;> omega),World.cell?_setCell_far _ _ _ _ (by simp <;> omega)];exact k)
   go_region_held3 (fun w':World=>w'.cell? ⟨w.heap.size,0,none⟩=some (.int .i64 sa)) (first | with_reducible exact K | with_reducible exact KA2.out _ _ K | with_reducible exact KD2.out _ _ K | with_reducible exact KS2.out _ _ _ K | with_reducible exact KS3.out _ _ _ (KS2.out _ _ _ K) | with_reducible exact KS3.out _ _ _ K) (first
    | (go_at_call 229;refine (HM1.out _ BC0.out).mono ?_;clear HM1;rintro e wr ⟨s1,A1,n1,c1,rfl,L1,hq⟩;have K:=pw_cell_below hq K;have J2:=bcell hq J2;have J3:=bcell hq J3;have BC:=BC0.out.trans (hq.mono (by simp)))
    | (go_at_call 229;refine (HM1.out _ BCA.out).mono ?_;clear HM1;rintro e wr ⟨s1,A1,n1,c1,rfl,L1,hq⟩;have KN:=pw_cell_below hq KN0.out;have hal:=HAD.out.trans (hq.mono (by simp));have K:=pw_cell_below hal K;have J2:=bcell hal J2;have J3:=bcell hal J3;have BC:=BCA.out.trans (hq.mono (by simp)))
    | (go_at_call 229;refine (HM2.out _ _ (blk_cell (blk_new _ _) 0)).mono ?_;rintro e wr ⟨s2,A2,n2,c2,rfl,L2,hq⟩;have hal:=(Below.refl _ _).alloc (Nat.le_refl _) (.cells #[.int .u32 r2] 270) |>.trans (hq.mono (by simp));have K:=pw_cell_below hal K;have L1:=L1.below hal;have BC:=BC.trans (hal.mono BC.size);have J2:=bcell hal J2;have J3:=bcell hal J3;have d20:=blk_cell J2 0;have d21:=blk_cell J2 1;have e20:=blk_frozen J2 0;have e21:=blk_frozen J2 1;have d30:=blk_cell J3 0;have d31:=blk_cell J3 1;have e30:=blk_frozen J3 0;have e31:=blk_frozen J3 1)
    | (go_at_call 229;refine (HM2.out _ _ KN).mono ?_;rintro e wr ⟨s2,A2,n2,c2,rfl,L2,hal⟩;have K:=pw_cell_below hal K;have L1:=L1.below hal;have BC:=BC.trans (hal.mono BC.size);have J2:=bcell hal J2;have J3:=bcell hal J3;have d20:=blk_cell J2 0;have d21:=blk_cell J2 1;have e20:=blk_frozen J2 0;have e21:=blk_frozen J2 1;have d30:=blk_cell J3 0;have d31:=blk_cell J3 1;have e30:=blk_frozen J3 0;have e31:=blk_frozen J3 1))
   all_goals go_wp2
   all_goals
    obtain ⟨q2,q3⟩:=four_set (.int .i64 s1) (.slice A1 n1 c1) (.int .i64 s2) (.slice A2 n2 c2) (by omega) J2 J3
    have j3:((wr.setCell ⟨w.heap.size+1+1,0,none⟩ (.int .i64 s1)).setCell ⟨w.heap.size+1+1,1,none⟩ (.slice A1 n1 c1)).heap[w.heap.size+1+1+1]?=some (.cells #[.int .i64 0,.slice none 0 0] 234 (0,0)):=(Below.heap_setCell _ _ _ _ (by simp)).trans ((Below.heap_setCell _ _ _ _ (by simp)).trans J3)
    have L1':=LN_far (LN_far L1 J2 (.int .i64 s1) (.slice A1 n1 c1)) j3 (.int .i64 s2) (.slice A2 n2 c2)
    have L2':=LN_far (LN_far L2 J2 (.int .i64 s1) (.slice A1 n1 c1)) j3 (.int .i64 s2) (.slice A2 n2 c2)
    have hbr:=hbw2.out.trans (BC.mono hbw2.out.size)
    have qb:=(((hbr.setCell (p:=⟨w.heap.size+1+1,0,none⟩) (by simp;omega) (.int .i64 s1)).setCell (p:=⟨w.heap.size+1+1,1,none⟩) (by simp;omega) (.slice A1 n1 c1)).setCell (p:=⟨w.heap.size+1+1+1,0,none⟩) (by simp;omega) (.int .i64 s2)).setCell (p:=⟨w.heap.size+1+1+1,1,none⟩) (by simp;omega) (.slice A2 n2 c2)
    generalize (((wr.setCell ⟨w.heap.size+1+1,0,none⟩ (.int .i64 s1)).setCell ⟨w.heap.size+1+1,1,none⟩ (.slice A1 n1 c1)).setCell ⟨w.heap.size+1+1+1,0,none⟩ (.int .i64 s2)).setCell ⟨w.heap.size+1+1+1,1,none⟩ (.slice A2 n2 c2)=W9 at *
    refine bodyPost_ret (results_cc2 Tryz.results232 _ _ (w.heap.size+1+1) (w.heap.size+1+1+1) 234 _ _ (0,0) (0,0) _ rfl rfl q2 q3 Tryz.underlying234 rfl size234 size234) rfl ⟨_,_,rfl,by rw [hp.out.1];exact L1',by rw [hp.out.2];exact L2',qb⟩
  ·have hone2:((lb.length:Int) == 1)=false:=beq_no (by omega)
   have hov:=over_calls la lb A B ca cb w1 (Kd.C_below ha3.out hbw1) (Kd.C_below hb3.out hbw1) ha4.out hb4.out hb5.out (by omega) hlen ha2
   replace hone:=Lib.hid hone
   replace hov:=Lib.hid hov
   go_wp2_with (go_at_call 258;refine htw.mono ?_;rintro e wq ⟨rfl,hq⟩;subst wq)
   refine hov.out.mono ?_
   clear hov htw
   rintro e w2 ⟨q,r2,Bq,cq,Ar,cr,rfl,o1,o2,o3,o3',o4,o5,o6,o7,o8,o9,o10,o11⟩
   have k0:=bcell o11 k0
   have k2:=bcell o11 k2
   have k3:=bcell o11 k3
   have hbw2:=hbw1.trans (o11.mono hbw1.size)
   have K:w2.cell? ⟨w.heap.size,0,none⟩=some (.int .i64 sa):=blk_cell k0 0
   have hqp:val q < 1000000000 ^ 1000:=by
    have h1:=val_lt ha4.out
    have h2:(1000000000:Int) ^ la.length≤1000000000 ^ 1000:=pow9_le ha2
    have h3:=val_nonneg o5
    have h4:=val_nonneg o6
    have h5:=val_ge hb4.out hb5.out hlbne.out
    have h6:=pow9_pos (lb.length - 1)
    have h7:1 * val q≤val lb * val q:=Int.mul_le_mul_of_nonneg_right (by omega) h3
    omega
   have HM1:Hid (∀ W:World,Below w2.heap.size w2 W→Calls Tryz.prog 229 #[.int .i64 (sa * sb),.slice (some ⟨Bq,0,none⟩) q.length cq] W fun e w'=>∃ s A n c,e=.returned (.agg #[.int .i64 s,.slice A n c])∧LN w' (sa * sb * val q) (.agg #[.int .i64 s,.slice A n c])∧Below W.heap.size W w'):=Lib.hid (fun W hW=>(made_LN (sa * sb) _ q cq W hss.out (by intro e;rw [e] at o3;simp at o3) o1 (.inr ⟨o3',hqp⟩) (by have:=limbs_C (n:=q.length) (by omega) (bcell hW o7) (Nat.le_refl _);rwa [List.take_length] at this) o5).mono fun _ _ ⟨v,h1,h2,h3⟩=>by
    obtain ⟨l,A,c,rfl,_⟩:=h2.out
    exact ⟨_,_,_,_,h1,h2,h3⟩)
   have HM2:Hid (∀ W:World,Below w2.heap.size w2 W→Calls Tryz.prog 229 #[.int .i64 sa,.slice Ar r2.length cr] W fun e w'=>∃ s A n c,e=.returned (.agg #[.int .i64 s,.slice A n c])∧LN w' (sa * val r2) (.agg #[.int .i64 s,.slice A n c])∧Below W.heap.size W w'):=Lib.hid (fun W hW=>(made_LN sa _ r2 cr W (by rw [hsa.out];exact hsig.out) (by intro e;rw [e] at o4;simp at o4;omega) o2 (.inl (by omega)) (Kd.C_below o8 hW) o6).mono fun _ _ ⟨v,h1,h2,h3⟩=>by
    obtain ⟨l,A,c,rfl,_⟩:=h2.out
    exact ⟨_,_,_,_,h1,h2,h3⟩)
   have hp:=quo_plain (a:=a) (b:=b) (q:=val q) (r:=val r2) (by rw [← ha6.out,← hb6.out];exact o9) (val_nonneg o6) (by rw [← hb6.out];exact o10) (val_nonneg o5)
   rw [← hsa.out,← hsb.out] at hp
   replace hp:=Lib.hid hp
   clear o1 o2 o3 o3' o4 o5 o6 o7 o8 o9 o10 hqp
   have BC:Below w2.heap.size w2 w2.drew:=(Below.refl _ w2).drew
   have HBW:=Lib.hid hbw2.drew
   have K2:Hid (∀ (W:World) (v v':Value),W.cell? ⟨w.heap.size,0,none⟩=some (.int .i64 sa)→((W.setCell ⟨w.heap.size+1+1,0,none⟩ v).setCell ⟨w.heap.size+1+1,1,none⟩ v').cell? ⟨w.heap.size,0,none⟩=some (.int .i64 sa)):=Lib.hid (fun W v v' k=>by
    rw [World.cell?_setCell_far _ _ _ _ (by simp <;> omega),World.cell?_setCell_far _ _ _ _ (by simp <;> omega)];exact k)
   have K3:Hid (∀ (W:World) (v v':Value),W.cell? ⟨w.heap.size,0,none⟩=some (.int .i64 sa)→((W.setCell ⟨w.heap.size+1+1+1,0,none⟩ v).setCell ⟨w.heap.size+1+1+1,1,none⟩ v').cell? ⟨w.heap.size,0,none⟩=some (.int .i64 sa)):=Lib.hid (fun W v v' k=>by
    rw [World.cell?_setCell_far _ _ _ _ (by simp <;> omega),World.cell?_setCell_far _ _ _ _ (by simp <;> omega)];exact k)
   have J2:=k2
   have J3:=k3
   clear k2 k3 k0
   go_wp2_with fail
   replace K:w2.drew.cell? ⟨w.heap.size,0,none⟩=some (.int .i64 sa):=K
   go_region_held3 (fun w':World=>w'.cell? ⟨w.heap.size,0,none⟩=some (.int .i64 sa)) (first | with_reducible exact K | with_reducible exact K2.out _ _ _ K | with_reducible exact K3.out _ _ _ (K2.out _ _ _ K) | with_reducible exact K2.out _ _ _ (K3.out _ _ _ K) | with_reducible exact K3.out _ _ _ K) (first
    | (go_at_call 229;refine (HM1.out _ BC).mono ?_;clear HM1;rintro e wr ⟨s1,A1,n1,c1,rfl,L1,q1⟩;have K:=pw_cell_below q1 K;have BC:=BC.trans (q1.mono BC.size);have J2:=bcell q1 J2;have J3:=bcell q1 J3;have d20:=blk_cell J2 0;have d21:=blk_cell J2 1;have e20:=blk_frozen J2 0;have e21:=blk_frozen J2 1;have d30:=blk_cell J3 0;have d31:=blk_cell J3 1;have e30:=blk_frozen J3 0;have e31:=blk_frozen J3 1;try (have L2:=L2.below q1))
    | (go_at_call 229;refine (HM2.out _ BC).mono ?_;clear HM2;rintro e wr ⟨s2,A2,n2,c2,rfl,L2,q2⟩;have K:=pw_cell_below q2 K;have BC:=BC.trans (q2.mono BC.size);have J2:=bcell q2 J2;have J3:=bcell q2 J3;have d20:=blk_cell J2 0;have d21:=blk_cell J2 1;have e20:=blk_frozen J2 0;have e21:=blk_frozen J2 1;have d30:=blk_cell J3 0;have d31:=blk_cell J3 1;have e30:=blk_frozen J3 0;have e31:=blk_frozen J3 1;try (have L1:=L1.below q2)))
   all_goals go_wp2
   all_goals
    obtain ⟨q2,q3⟩:=four_set (.int .i64 s1) (.slice A1 n1 c1) (.int .i64 s2) (.slice A2 n2 c2) (by omega) J2 J3
    have j3:((wr.setCell ⟨w.heap.size+1+1,0,none⟩ (.int .i64 s1)).setCell ⟨w.heap.size+1+1,1,none⟩ (.slice A1 n1 c1)).heap[w.heap.size+1+1+1]?=some (.cells #[.int .i64 0,.slice none 0 0] 234 (0,0)):=(Below.heap_setCell _ _ _ _ (by simp)).trans ((Below.heap_setCell _ _ _ _ (by simp)).trans J3)
    have L1':=LN_far (LN_far L1 J2 (.int .i64 s1) (.slice A1 n1 c1)) j3 (.int .i64 s2) (.slice A2 n2 c2)
    have L2':=LN_far (LN_far L2 J2 (.int .i64 s1) (.slice A1 n1 c1)) j3 (.int .i64 s2) (.slice A2 n2 c2)
    have hbr:=hbw2.trans (BC.mono hbw2.size)
    have qb:=(((hbr.setCell (p:=⟨w.heap.size+1+1,0,none⟩) (by simp;omega) (.int .i64 s1)).setCell (p:=⟨w.heap.size+1+1,1,none⟩) (by simp;omega) (.slice A1 n1 c1)).setCell (p:=⟨w.heap.size+1+1+1,0,none⟩) (by simp;omega) (.int .i64 s2)).setCell (p:=⟨w.heap.size+1+1+1,1,none⟩) (by simp;omega) (.slice A2 n2 c2)
    generalize (((wr.setCell ⟨w.heap.size+1+1,0,none⟩ (.int .i64 s1)).setCell ⟨w.heap.size+1+1,1,none⟩ (.slice A1 n1 c1)).setCell ⟨w.heap.size+1+1+1,0,none⟩ (.int .i64 s2)).setCell ⟨w.heap.size+1+1+1,1,none⟩ (.slice A2 n2 c2)=W9 at *
    refine bodyPost_ret (results_cc2 Tryz.results232 _ _ (w.heap.size+1+1) (w.heap.size+1+1+1) 234 _ _ (0,0) (0,0) _ rfl rfl q2 q3 Tryz.underlying234 rfl size234 size234) rfl ⟨_,_,rfl,by rw [hp.out.1];exact L1',by rw [hp.out.2];exact L2',qb⟩
end Go.Proofs.YtjaobihcdkjmbaaGreatDoor
end
section
namespace Go.Proofs.YtjaobihcdkjmbaaGreatDoor
open Go.RowKit Go.Proofs.YtjaobihcdkjmbaaGreatDoorW.PrintWords Go.Proofs.YtjaobihcdkjmbaaGreatDoor.PReadTokens
set_option maxRecDepth 100000 in
set_option maxHeartbeats 2000000 in
theorem abs3_calls (s t:Int) (hs:s=0∨s=1∨s=-1) (ht':s * s=t) (A:Option Addr) (n c:Nat) (w:World):Calls Tryz.prog 230 #[.agg #[.int .i64 s,.slice A n c]] w fun e w'=>e=.returned (.agg #[.int .i64 t,.slice A n c])∧Below w.heap.size w w':=by
 have ht:=times3_calls s s hs hs
 rw [ht'] at ht
 clear ht' hs
 go_enter Tryz.func230,Tryz.ntmps230
 go_wp2_with fail
 have h0:((w.alloc (.cells #[.int .i64 s,.slice A n c] 234)).alloc (.cells #[.int .i64 0,.slice none 0 0] 234)).heap[w.heap.size]?=_:=(Below.heap_alloc _ _ _ (by simp)).trans (blk_new w (.cells #[.int .i64 s,.slice A n c] 234))
 have h1:((w.alloc (.cells #[.int .i64 s,.slice A n c] 234)).alloc (.cells #[.int .i64 0,.slice none 0 0] 234)).heap[w.heap.size+1]?=some (.cells #[.int .i64 0,.slice none 0 0] 234 (0,0)):=alloc_at _ _ _ (by simp)
 have hb:Below w.heap.size w ((w.alloc (.cells #[.int .i64 s,.slice A n c] 234)).alloc (.cells #[.int .i64 0,.slice none 0 0] 234)):=((Below.refl _ w).alloc (Nat.le_refl _) _).alloc (by simp) _
 generalize (w.alloc (.cells #[.int .i64 s,.slice A n c] 234)).alloc (.cells #[.int .i64 0,.slice none 0 0] 234)=X at *
 have c0:=blk_cell h0 0
 have c1:=blk_cell h0 1
 have d0:=blk_cell h1 0
 have d1:=blk_cell h1 1
 have f0:=blk_frozen h1 0
 have f1:=blk_frozen h1 1
 go_still_tail 8,(by kernel_rfl)
 still_call (ht _)
 repeat still_step
 try refine wpStill_nil ?_
 change wpList _ _ _ _ _ X.drew
 go_wp2
 exact bodyPost_ret (results_c Tryz.results230 _ _ (w.heap.size+1) 234 _ (0,0) _ rfl (bcell (Below.refl _ _).drew (set2_fin _ _ h1)) Tryz.underlying234 rfl size234) rfl ⟨rfl,((hb.setCell (p:=⟨w.heap.size+1,0,none⟩) (by simp) _).setCell (p:=⟨w.heap.size+1,1,none⟩) (by simp) _).drew⟩
theorem sign_sq (a:Int):Int.sign a * Int.sign a=Int.sign (a.natAbs:Int):=by
 rcases Int.lt_trichotomy a 0 with h | h | h
 ·rw [Int.sign_eq_neg_one_of_neg h,Int.sign_eq_one_of_pos (by omega)];rfl
 ·subst h;rfl
 ·rw [Int.sign_eq_one_of_pos h,Int.sign_eq_one_of_pos (by omega)];rfl
theorem abs_LN (a:Int) (va:Value) (w:World) (ha:LN w a va) :
  ∃ s A n c,va=.agg #[.int .i64 s,.slice A n c]∧(∀ W:World,Below w.heap.size w W→LN W (a.natAbs:Int) (.agg #[.int .i64 (Int.sign (a.natAbs:Int)),.slice A n c])) ∧
   ∀ W:World,Calls Tryz.prog 230 #[va] W fun e w'=>e=.returned (.agg #[.int .i64 (Int.sign (a.natAbs:Int)),.slice A n c])∧Below W.heap.size W w':=by
 obtain ⟨l,A,c,rfl,h1,h2,h3,h4,h5,h6⟩:=ha.out
 exact ⟨_,A,l.length,c,rfl,fun W hW=>⟨l,A,c,rfl,h1,h2,Kd.C_below h3 hW,h4,h5,by rw [h6];simp⟩,fun W=>abs3_calls _ _ (sign_three a) (sign_sq a) A l.length c W⟩
theorem gcd_step (a b:Int) (hb:b≠0) (ha0:0≤a) (hb0:0≤b):0≤a.tmod b∧a.tmod b < b∧Int.gcd b (a.tmod b)=Int.gcd a b:=by
 have e:a.tmod b=a % b:=Int.tmod_eq_emod_of_nonneg ha0
 rw [e]
 refine ⟨Int.emod_nonneg _ hb,Int.emod_lt_of_pos _ (by omega),?_⟩
 obtain ⟨m,rfl⟩:=Int.eq_ofNat_of_zero_le ha0
 obtain ⟨n,rfl⟩:=Int.eq_ofNat_of_zero_le hb0
 rw [show ((m:Int) % (n:Int))=((m % n:Nat):Int) from by omega]
 show Nat.gcd n (m % n)=Nat.gcd m n
 rw [Nat.gcd_comm n,← Nat.gcd_rec,Nat.gcd_comm]
end Go.Proofs.YtjaobihcdkjmbaaGreatDoor
end
section
namespace Go.Proofs.YtjaobihcdkjmbaaGreatDoor
open Go.RowKit Go.Proofs.YtjaobihcdkjmbaaGreatDoorW.PrintWords Go.Proofs.YtjaobihcdkjmbaaGreatDoor.PReadTokens
set_option maxRecDepth 100000 in
set_option maxHeartbeats 8000000 in
theorem common_calls (a b:Int) (va vb:Value) (w:World) (ha:LN w a va) (hb:LN w b vb) :
  Calls Tryz.prog 190 #[va,vb] w fun e w'=>∃ v,e=.returned v∧LN w' (Int.gcd a b:Int) v∧Below w.heap.size w w':=by
 obtain ⟨s,A,n,c,rfl,hLA,hCA⟩:=abs_LN a va w ha
 obtain ⟨t,B,m,d,rfl,hLB,hCB⟩:=abs_LN b vb w hb
 obtain ⟨X,hX⟩:∃ X,X=((w.alloc (.cells #[.int .i64 s,.slice A n c] 234)).alloc (.cells #[.int .i64 t,.slice B m d] 234)).alloc (.cells #[.int .i64 0,.slice none 0 0] 234):=⟨_,rfl⟩
 have hb0:Below w.heap.size w X:=by rw [hX];exact (((Below.refl _ w).alloc (Nat.le_refl _) _).alloc (by simp) _).alloc (by simp;omega) _
 have h0:X.heap[w.heap.size]?=some (.cells #[.int .i64 s,.slice A n c] 234 (0,0)):=by rw [hX];exact (Below.heap_alloc _ _ _ (by simp <;> omega)).trans ((Below.heap_alloc _ _ _ (by simp <;> omega)).trans (blk_new w _))
 have h1:X.heap[w.heap.size+1]?=some (.cells #[.int .i64 t,.slice B m d] 234 (0,0)):=by rw [hX];exact (Below.heap_alloc _ _ _ (by simp <;> omega)).trans (alloc_at _ _ _ (by simp))
 have h2:X.heap[w.heap.size+1+1]?=some (.cells #[.int .i64 0,.slice none 0 0] 234 (0,0)):=by rw [hX];exact alloc_at _ _ _ (by simp)
 obtain ⟨x,hx⟩:∃ x,x=Int.sign (a.natAbs:Int):=⟨_,rfl⟩
 obtain ⟨y,hy⟩:∃ x,x=Int.sign (b.natAbs:Int):=⟨_,rfl⟩
 rw [← hx] at hLA hCA
 rw [← hy] at hLB hCB
 replace hLA:=Lib.hid hLA
 replace hCA:=Lib.hid hCA
 replace hLB:=Lib.hid hLB
 replace hCB:=Lib.hid hCB
 replace hx:=Lib.hid hx
 replace hy:=Lib.hid hy
 clear ha hb
 go_enter Tryz.func190,Tryz.ntmps190
 go_wp2_with fail
 rw [← hX]
 clear hX
 have c0:=blk_cell h0 0
 have c1:=blk_cell h0 1
 have d0:=blk_cell h1 0
 have d1:=blk_cell h1 1
 have f0:=blk_frozen h0 0
 have f1:=blk_frozen h0 1
 have g0:=blk_frozen h1 0
 have g1:=blk_frozen h1 1
 go_upto_region 1 with (fail)
 go_cut [] (fun wc=>Hid (wc.heap[w.heap.size]?=some (.cells #[.int .i64 x,.slice A n c] 234 (0,0)))∧Hid (wc.heap[w.heap.size+1]?=some (.cells #[.int .i64 y,.slice B m d] 234 (0,0)))∧Hid (wc.heap[w.heap.size+1+1]?=some (.cells #[.int .i64 0,.slice none 0 0] 234 (0,0)))∧Below w.heap.size w wc)
 case first =>
  replace h0:X.drew.heap[w.heap.size]?=_:=h0
  replace h1:X.drew.heap[w.heap.size+1]?=_:=h1
  replace h2:X.drew.heap[w.heap.size+1+1]?=_:=h2
  have BW:=hb0.drew
  clear hb0
  go_region_with (first
   | (go_at_call 230;refine (hCA.out _).mono ?_;rintro e wp ⟨rfl,hp⟩;clear hCA;have h0:=bcell hp h0;have h1:=bcell hp h1;have h2:=bcell hp h2;have c0:=blk_cell h0 0;have c1:=blk_cell h0 1;have d0:=blk_cell h1 0;have d1:=blk_cell h1 1;have f0:=blk_frozen h0 0;have f1:=blk_frozen h0 1;have g0:=blk_frozen h1 0;have g1:=blk_frozen h1 1;have BW:=BW.trans (hp.mono BW.size))
   | (go_at_call 230;refine (hCB.out _).mono ?_;rintro e wq ⟨rfl,hq⟩;clear hCB;have h0:=bcell hq h0;have h1:=bcell hq h1;have h2:=bcell hq h2;have c0:=blk_cell h0 0;have c1:=blk_cell h0 1;have d0:=blk_cell h1 0;have d1:=blk_cell h1 1;have f0:=blk_frozen h0 0;have f1:=blk_frozen h0 1;have g0:=blk_frozen h1 0;have g1:=blk_frozen h1 1;have BW:=BW.trans (hq.mono BW.size)))
  all_goals
   go_wp2_with fail
   go_meet
   obtain ⟨q2,q3⟩:=four_set (.int .i64 x) (.slice A n c) (.int .i64 y) (.slice B m d) (by omega) h0 h1
   exact ⟨Lib.hid q2,Lib.hid q3,Lib.hid ((Below.heap_setCell _ _ _ _ (by simp)).trans ((Below.heap_setCell _ _ _ _ (by simp)).trans ((Below.heap_setCell _ _ _ _ (by simp <;> omega)).trans ((Below.heap_setCell _ _ _ _ (by simp <;> omega)).trans h2)))),(((BW.setCell (p:=⟨w.heap.size,0,none⟩) (Nat.le_refl _) _).setCell (p:=⟨w.heap.size,1,none⟩) (Nat.le_refl _) _).setCell (p:=⟨w.heap.size+1,0,none⟩) (by simp) _).setCell (p:=⟨w.heap.size+1,1,none⟩) (by simp) _⟩
 case rest =>
  obtain ⟨k0,k1,k2,hBW⟩:=hcut
  have L0:=hLA.out wc hBW
  have L1:=hLB.out wc hBW
  clear h0 h1 h2 hb0 c0 c1 d0 d1 f0 f1 g0 g1 hLA hLB hCA hCB
  go_wp2_with fail
  go_loopg [] (b.natAbs+1) (fun gk wr=>∃ (p q sp sq:Int) (Ap Aq:Option Addr) (np cp nq cq:Nat),0≤p∧0≤q∧q.toNat+1≤gk∧Hid (Int.gcd p q=Int.gcd a b)∧Hid (sq=Int.sign q)∧LN wr p (.agg #[.int .i64 sp,.slice Ap np cp])∧LN wr q (.agg #[.int .i64 sq,.slice Aq nq cq])∧Hid (wr.heap[w.heap.size]?=some (.cells #[.int .i64 sp,.slice Ap np cp] 234 (0,0)))∧Hid (wr.heap[w.heap.size+1]?=some (.cells #[.int .i64 sq,.slice Aq nq cq] 234 (0,0)))∧Hid (wr.heap[w.heap.size+1+1]?=some (.cells #[.int .i64 0,.slice none 0 0] 234 (0,0)))∧Below w.heap.size w wr)
  case atStart=>exact ⟨(a.natAbs:Int),(b.natAbs:Int),x,y,A,B,n,c,m,d,by omega,by omega,by omega,Lib.hid (by simp [Int.gcd]),hy,L0,L1,k0,k1,k2,hBW⟩
  case round =>
   obtain ⟨p,q,sp,sq,Ap,Aq,np,cp,nq,cq,hp0,hq0,hgk,hgcd,hsq,Lp,Lq,k0,k1,k2,hBr⟩:=hrel
   have c0:=blk_cell k0.out 0
   have c1:=blk_cell k0.out 1
   have d0:=blk_cell k1.out 0
   have d1:=blk_cell k1.out 1
   have e0:=blk_cell k2.out 0
   have e1:=blk_cell k2.out 1
   have f0:=blk_frozen k2.out 0
   have f1:=blk_frozen k2.out 1
   by_cases hz:q=0
   ·have hs0:sq=0:=by rw [hsq.out,hz];rfl
    have hg:(Int.gcd a b:Int)=p:=by
     rw [← hgcd.out,hz];simp [Int.gcd];omega
    subst hs0
    replace hz:=Lib.hid hz
    replace hg:=Lib.hid hg
    have hzc:=zero_calls 0
    go_wp2_with (go_at_call 231;refine (hzc _).mono ?_;rintro e wr2 ⟨rfl,hr⟩;subst wr2)
    exact bodyPost_ret (results_c Tryz.results190 _ _ (w.heap.size+1+1) 234 _ (0,0) _ rfl (set2_fin _ _ k2.out) Tryz.underlying234 rfl size234) rfl ⟨_,rfl,by rw [hg.out];exact LN_far Lp k2.out _ _,(hBr.setCell (p:=⟨w.heap.size+1+1,0,none⟩) (by simp;omega) _).setCell (p:=⟨w.heap.size+1+1,1,none⟩) (by simp;omega) _⟩
   ·have hs1:sq=1:=by rw [hsq.out];exact Int.sign_eq_one_of_pos (by omega)
    obtain ⟨g1,g2,g3⟩:=gcd_step p q hz hp0 hq0
    have hqc:=quo_calls p q hz _ _ wr Lp Lq
    subst hs1
    have hzc:=zero_calls 1
    replace hz:=Lib.hid hz
    replace hqc:=Lib.hid hqc
    replace g3:=Lib.hid g3
    go_wp2_with (go_at_call 231;refine (hzc _).mono ?_;rintro e wr2 ⟨rfl,hr⟩;subst wr2)
    refine hqc.out.mono ?_
    clear hqc hzc
    rintro e w2 ⟨vq,vr,rfl,L1,L2,hb2⟩
    obtain ⟨l1,A1,c1',rfl,_⟩:=L1.out
    obtain ⟨l2,A2,c2',rfl,_⟩:=L2.out
    obtain ⟨s2,hs2⟩:∃ s,s=Int.sign (p.tmod q):=⟨_,rfl⟩
    obtain ⟨s1,hs1⟩:∃ s,s=Int.sign (p.tdiv q):=⟨_,rfl⟩
    rw [← hs2] at L2 ⊢
    rw [← hs1] at L1 ⊢
    replace hs1:=Lib.hid hs1
    replace hs2:=Lib.hid hs2
    have k0:=bcell hb2 k0.out
    have k1:=bcell hb2 k1.out
    have k2:=bcell hb2 k2.out
    have hb3:=hBr.trans (hb2.mono hBr.size)
    clear c0 c1 d0 d1 e0 e1 f0 f1 hBr L1
    go_wp2_with fail
    obtain ⟨Z,hZ⟩:∃ Z,Z=(w2.alloc (.cells #[.int .i64 s1,.slice A1 l1.length c1'] 234)).alloc (.cells #[.int .i64 s2,.slice A2 l2.length c2'] 234):=⟨_,rfl⟩
    have z0:Z.heap[w.heap.size]?=some (.cells #[.int .i64 sp,.slice Ap np cp] 234 (0,0)):=by rw [hZ];exact (Below.heap_alloc _ _ _ (by have:=blk_lt k0;simp;omega)).trans ((Below.heap_alloc _ _ _ (blk_lt k0)).trans k0)
    have z1:Z.heap[w.heap.size+1]?=some (.cells #[.int .i64 1,.slice Aq nq cq] 234 (0,0)):=by rw [hZ];exact (Below.heap_alloc _ _ _ (by have:=blk_lt k1;simp;omega)).trans ((Below.heap_alloc _ _ _ (blk_lt k1)).trans k1)
    have z2:Z.heap[w.heap.size+1+1]?=some (.cells #[.int .i64 0,.slice none 0 0] 234 (0,0)):=by rw [hZ];exact (Below.heap_alloc _ _ _ (by have:=blk_lt k2;simp;omega)).trans ((Below.heap_alloc _ _ _ (blk_lt k2)).trans k2)
    have z3:Z.heap[w2.heap.size+1]?=some (.cells #[.int .i64 s2,.slice A2 l2.length c2'] 234 (0,0)):=by rw [hZ];exact alloc_at _ _ _ (by simp)
    have hbZ2:Below w2.heap.size w2 Z:=by rw [hZ];exact ((Below.refl _ w2).alloc (Nat.le_refl _) _).alloc (by simp) _
    have hbZ:=hb3.trans (hbZ2.mono hb3.size)
    have hw2l:=blk_lt k2
    have LqZ:=(Lq.below hb2).below hbZ2
    have LrZ:=L2.below hbZ2
    rw [← hZ]
    clear hZ k0 k1 k2 hb2 hb3 L2 Lp Lq hbZ2
    have c0:=blk_cell z0 0
    have c1:=blk_cell z0 1
    have d0:=blk_cell z1 0
    have d1:=blk_cell z1 1
    have e0:=blk_cell z3 0
    have e1:=blk_cell z3 1
    have f0:=blk_frozen z0 0
    have f1:=blk_frozen z0 1
    have f2:=blk_frozen z1 0
    have f3:=blk_frozen z1 1
    go_region
    all_goals go_wp2
    all_goals
     obtain ⟨q2,q3⟩:=four_set (.int .i64 1) (.slice Aq nq cq) (.int .i64 s2) (.slice A2 l2.length c2') (by omega) z0 z1
     have j1:((Z.setCell ⟨w.heap.size,0,none⟩ (.int .i64 1)).setCell ⟨w.heap.size,1,none⟩ (.slice Aq nq cq)).heap[w.heap.size+1]?=some (.cells #[.int .i64 1,.slice Aq nq cq] 234 (0,0)):=(Below.heap_setCell _ _ _ _ (by simp)).trans ((Below.heap_setCell _ _ _ _ (by simp)).trans z1)
     have M1:=LN_far (LN_far LqZ z0 (.int .i64 1) (.slice Aq nq cq)) j1 (.int .i64 s2) (.slice A2 l2.length c2')
     have M2:=LN_far (LN_far LrZ z0 (.int .i64 1) (.slice Aq nq cq)) j1 (.int .i64 s2) (.slice A2 l2.length c2')
     go_roundg (gk - 1)
     case measure=>omega
     case rel=>exact ⟨q,p.tmod q,1,s2,Aq,A2,nq,cq,l2.length,c2',hq0,g1,by omega,Lib.hid (by rw [g3.out,hgcd.out]),hs2,M1.below (Below.refl _ _).drew,M2.below (Below.refl _ _).drew,Lib.hid q2,Lib.hid q3,Lib.hid ((Below.heap_setCell _ _ _ _ (by simp)).trans ((Below.heap_setCell _ _ _ _ (by simp)).trans ((Below.heap_setCell _ _ _ _ (by simp <;> omega)).trans ((Below.heap_setCell _ _ _ _ (by simp <;> omega)).trans z2)))),((((hbZ.setCell (p:=⟨w.heap.size,0,none⟩) (Nat.le_refl _) _).setCell (p:=⟨w.heap.size,1,none⟩) (Nat.le_refl _) _).setCell (p:=⟨w.heap.size+1,0,none⟩) (by simp) _).setCell (p:=⟨w.heap.size+1,1,none⟩) (by simp) _).drew⟩
end Go.Proofs.YtjaobihcdkjmbaaGreatDoor
end
section
namespace Go.Proofs.YtjaobihcdkjmbaaGreatDoor
open Go.RowKit Go.Proofs.YtjaobihcdkjmbaaGreatDoorW.PrintWords Go.Proofs.YtjaobihcdkjmbaaGreatDoor.PReadTokens
set_option maxHeartbeats 2000000 in
theorem cmp_sign (a b:Int) (w:World):Calls Tryz.prog 233 #[.int .i64 a,.int .i64 b] w fun e w'=>e=.returned (.int .i64 (cmpI a b))∧Below w.heap.size w w':=by
 rcases Int.lt_trichotomy a b with h | h | h
 ·rw [cmpI_lt h]
  have h1:decide (a < b)=true:=decide_eq_true h
  go_enter Tryz.func233,Tryz.ntmps233
  go_wp2
  go_ret
  exact ⟨rfl,Below.refl _ _⟩
 ·subst h
  rw [cmpI_self]
  have h1:decide (a < a)=false:=decide_eq_false (by omega)
  go_enter Tryz.func233,Tryz.ntmps233
  go_wp2
  go_ret
  exact ⟨rfl,Below.refl _ _⟩
 ·rw [cmpI_gt h]
  have h1:decide (a < b)=false:=decide_eq_false (by omega)
  have h2:decide (b < a)=true:=decide_eq_true h
  go_enter Tryz.func233,Tryz.ntmps233
  go_wp2
  go_ret
  exact ⟨rfl,Below.refl _ _⟩
end Go.Proofs.YtjaobihcdkjmbaaGreatDoor
end
section
namespace Go.Proofs.YtjaobihcdkjmbaaGreatDoor
open Go.RowKit Go.Proofs.YtjaobihcdkjmbaaGreatDoorW.PrintWords Go.Proofs.YtjaobihcdkjmbaaGreatDoor.PReadTokens
def chunkF:Nat→ByteArray→List ByteArray
 | 0,_=>[]
 | k+1,t=>if t.size=0 then [] else t.extract (t.size - 9) t.size :: chunkF k (t.extract 0 (t.size - 9))
def chunksOf (s:ByteArray):List ByteArray:=chunkF (s.size+1) s
theorem chunkF_length (k:Nat):∀ t,(chunkF k t).length≤k:=by
 induction k with
 | zero=>intro t;exact Nat.le_refl _
 | succ k ih =>
  intro t
  rw [chunkF]
  split
  ·simp
  ·rw [List.length_cons];have:=ih (t.extract 0 (t.size - 9));omega
set_option maxRecDepth 100000 in
set_option maxHeartbeats 2000000 in
theorem chunksN_in (n l:Nat) (box:Addr) (s:ByteArray) (hs:s.size≤2147483648) (W:World) (J:List ByteArray→World→Prop) (hbox:W.cell? box=some (.string s))
  (hJ:∀ pre A u,J pre A→J pre (A.setCell box (.string u)))
  (hY:∀ pre t A,J pre A→(∃ rest,chunksOf s=pre++t :: rest)→YieldAt Fence.wide (n - 1) Tryz.prog l #[.string t] A fun e B=>e=.returned (.bool true)∧J (pre++[t]) B∧B.cell? box=A.cell? box∧B.frozen? box=false)
  (h0:J [] W) :
  CallsIn Fence.wide n Tryz.prog 257 #[.func (.yield l) #[] #[],.pointer (some box)] W fun e W'=>e=.returned (.tuple #[])∧J (chunksOf s) W':=by
 have hD:Fence.wide.depth.isSome=false:=rfl
 have HJ:=Lib.hid hJ
 have HY:=Lib.hid hY
 have H0:=Lib.hid h0
 clear hJ hY h0
 refine callsIn_of_wp Tryz.func257 rfl trivial ?_ rfl
 simp only [Tryz.ntmps257,List.size_toArray,List.length_cons,List.length_nil,Nat.reduceAdd,Nat.reduceSub,Array.replicate_succ,Array.replicate_zero,List.push_toArray,List.append_toArray,List.nil_append,List.cons_append]
 gi_wp2
 gi_loopg [] (s.size+1) (fun k wr=>∃ pre t,t.size < k∧t.size≤2147483648∧wr.cell? box=some (.string t)∧Hid (J pre wr)∧Hid (chunksOf s=pre++chunkF k t))
 case atStart=>exact ⟨[],s,by omega,hs,hbox,H0,Lib.hid rfl⟩
 case round =>
  clear hbox H0
  obtain ⟨pre,t,htk,hts,hbx,HJ1,HC⟩:=hrel
  cases gk with
  | zero=>omega
  | succ m =>
   by_cases h0:0 < t.size
   ·have hpos:decide (0 < (t.size:Int))=true:=decide_eq_true (by omega)
    have hpos2:decide (0 < t.size)=true:=decide_eq_true h0
    have Hun:Hid (chunkF (m+1) t=t.extract (t.size - 9) t.size :: chunkF m (t.extract 0 (t.size - 9))):=Lib.hid (by rw [chunkF,if_neg (by omega)])
    obtain ⟨a,ha⟩:∃ a,a=t.size - 9:=⟨_,rfl⟩
    have hmax:max 0 ((t.size:Int) - 9)=(a:Int):=by omega
    have hal:a≤t.size:=by omega
    have ham:a < m:=by omega
    rw [← ha] at Hun
    have Hfull:Hid (chunksOf s=pre++t.extract a t.size :: chunkF m (t.extract 0 a)):=Lib.hid (by rw [HC.out,Hun.out])
    replace ha:=Lib.hid ha
    clear h0
    obtain ⟨fn,tmps,assign,body,hy,hR⟩:=HY.out pre (t.extract a t.size) wr HJ1.out ⟨_,Hfull.out⟩
    gi_wp2
    refine hR.mono ?_
    rintro e B ⟨rfl,hJ2,hb,hf⟩
    rw [hbx] at hb
    have HJ2:=Lib.hid hJ2
    clear hR hy hbx hJ2
    gi_wp2
    gi_roundg m
    case measure=>omega
    case rel=>exact ⟨pre++[t.extract a t.size],t.extract 0 a,by simp;omega,by simp;omega,World.cell?_setCell_same _ _ _ hb,Lib.hid (HJ.out _ _ _ HJ2.out),Lib.hid (by rw [Hfull.out,List.append_assoc];rfl)⟩
   ·have hpos:decide (0 < (t.size:Int))=false:=decide_eq_false (by omega)
    have hpos2:decide (0 < t.size)=false:=decide_eq_false h0
    have Hfull:Hid (chunksOf s=pre):=Lib.hid (by rw [HC.out,chunkF,if_pos (by omega),List.append_nil])
    clear h0
    gi_wp2
    refine bodyPost_end (results_none rfl _ _ _) rfl ⟨rfl,?_⟩
    rw [Hfull.out]
    exact HJ1.out
theorem wpIn_range_chunks {n:Nat} {g:Operand} {p:Tmp} {assign body:Code} {Q:Exit→Act→World→Prop} {a:Act} {w:World} {bb:Nat} {s:ByteArray} (tm:ByteArray→Array Value)
  (hg:a.eval g=.func (.func 257) #[] #[.pointer (some ⟨bb,0,none⟩)]) (hs:s.size≤2147483648) (hbox:w.heap[bb]?=some (.cells #[.string s] 9 (0,0)))
  (I:List ByteArray→World→Prop) (hI:∀ pre A B k,I pre A→(k=w.heap.size+1∨k=bb)→A.grownBy B (some k)→I pre B) (h0:I [] w)
  (hI1:∀ A B,I [] A→A.grownBy B none→I [] B)
  (hassign:∀ (l:Nat) (t:ByteArray) (A:World) (K:Act→World→Prop),K { tmps:=tm t,defers:=[] } A →
   assign.wpIn (Fence.wide.inRound l) (n - 1 - 1) Tryz.prog (Exit.then K (fun _ _ _=>False)) { tmps:=a.tmps.setIfInBounds p (.string t),defers:=[] } A)
  (hbody:∀ (pre:List ByteArray) (t:ByteArray) (A W0:World),I pre A→(∃ rest,chunksOf s=pre++t :: rest)→w.heap.size+2≤A.heap.size→A.grownBy W0 (some (w.heap.size+1))→W0.heap.size=A.heap.size →
   body.wpIn (Fence.wide.inRound (w.heap.size+1)) (n - 1 - 1) Tryz.prog (chunkPost bb (I (pre++[t])) W0) { tmps:=tm t,defers:=[] } W0)
  (hdone:∀ (W:World),I (chunksOf s) W→W.heap[w.heap.size]?=some (.deferred (some []))→Q .normal { a with defers:={ target:=.collected w.heap.size,args:=#[] } :: a.defers } W) :
  (Code.rangeFunc g #[p] assign body).wpIn Fence.wide n Tryz.prog Q a w:=by
 refine wpIn_rangeFunc ?_
 intro fn _
 obtain ⟨rec,hrec⟩:∃ rec:LoopState→Option Code→Loop,rec=fun st pe=>{ state:=st,pending:=pe,fn,tmps:=a.tmps,params:=#[p],assign,body,defers:=w.heap.size }:=⟨_,rfl⟩
 obtain ⟨W1,hW1⟩:∃ W1,(w.alloc (.deferred (some []))).alloc (.loop (rec .ready none))=W1:=⟨_,rfl⟩
 have hsz1:W1.heap.size=w.heap.size+2:=by rw [← hW1];simp
 have hL1:W1.heap[w.heap.size+1]?=some (.loop (rec .ready none)):=by
  rw [← hW1];have:=World.alloc_heap_new (w.alloc (.deferred (some []))) (.loop (rec .ready none));rwa [World.size_alloc] at this
 have hK1:W1.heap[w.heap.size]?=some (.deferred (some [])):=by
  rw [← hW1];exact (Below.heap_alloc _ _ _ (by simp)).trans (World.alloc_heap_new w _)
 have hbl:=blk_lt hbox
 have hg1:w.grownBy W1 none:=by rw [← hW1];exact grown_alloc2 _ _ _ _
 have hb1:W1.heap[bb]?=some (.cells #[.string s] 9 (0,0)):=(hg1.block _ hbl (by simp)).trans hbox
 refine ⟨w.heap.size+1,[{ target:=.collected w.heap.size,args:=#[] }],W1,{ target:=.fn (.func 257) #[.pointer (some ⟨bb,0,none⟩)],args:=#[.func (.yield (w.heap.size+1)) #[] #[]] },W1,257,
  #[.func (.yield (w.heap.size+1)) #[] #[],.pointer (some ⟨bb,0,none⟩)],W1,?_,?_,?_,?_,wide_depth,?_⟩
 ·rw [← hW1,hrec];exact run_enterLoop_outer _ _ _ _ _
 ·simp only [resolve,hg]
  simp [go_sem]
 ·intro f' _;trivial
 ·simp only [invoke]
  simp [go_sem]
 ·refine (chunksN_in (n - 1) (w.heap.size+1) ⟨bb,0,none⟩ s hs W1
   (fun pre W=>I pre W∧W.heap[w.heap.size+1]?=some (.loop (rec .ready none))∧W.heap[w.heap.size]?=some (.deferred (some []))∧∃ u,W.heap[bb]?=some (.cells #[.string u] 9 (0,0))) (blk_cell hb1 0) ?_ ?_ ⟨hI1 _ _ h0 hg1,hL1,hK1,s,hb1⟩).mono ?_
  ·rintro pre A u ⟨hi,hl,hk,u0,hu⟩
   exact ⟨hI _ _ _ _ hi (.inr rfl) (Lib.grownBy_setCell _ _ _ _),(Below.heap_setCell _ _ _ _ (by simp;omega)).trans hl,(Below.heap_setCell _ _ _ _ (by simp;omega)).trans hk,u,blk_set hu 0 _⟩
  ·rintro pre t A ⟨hi,hl,hk,u,hu⟩ hrest
   have hlA:=blk_lt hl
   have hy:=run_yield (P:=Tryz.prog) (args:=#[.string t]) hl (by rw [hrec];rfl)
   rw [hrec] at hy
   refine ⟨fn,_,assign,body,hy,roundIn_of_wpIn trivial ?_⟩
   have hzip:(#[p].zip #[Value.string t]).foldl (fun tmps (x:Tmp × Value)=>tmps.setIfInBounds x.1 x.2) a.tmps=a.tmps.setIfInBounds p (.string t):=by simp
   show assign.wpIn _ _ _ _ { tmps:=(#[p].zip #[Value.string t]).foldl (fun tmps (x:Tmp × Value)=>tmps.setIfInBounds x.1 x.2) a.tmps,defers:=[] } _
   rw [hzip]
   refine hassign _ t _ _ ?_
   refine ⟨_,run_beginRound hl (by rw [hrec]),?_⟩
   obtain ⟨W0,hW0⟩:∃ W0,W0=A.putObj (w.heap.size+1) (.loop { rec .ready none with state:=.busy }):=⟨_,rfl⟩
   show Code.wpIn _ _ _ body _ _ (A.putObj (w.heap.size+1) (.loop { rec .ready none with state:=.busy }))
   rw [← hW0]
   have hgr0:A.grownBy W0 (some (w.heap.size+1)):=by rw [hW0];exact grown_putObj _ _ _
   have hz0:W0.heap.size=A.heap.size:=by rw [hW0];simp
   have hl2:W0.heap[w.heap.size+1]?=some (.loop { rec .ready none with state:=.busy }):=by rw [hW0];exact World.putObj_heap_same hlA
   have hk2:W0.heap[w.heap.size]?=some (.deferred (some [])):=(hgr0.block _ (by omega) (by intro e;injection e with e;omega)).trans hk
   have hb2:W0.heap[bb]?=some (.cells #[.string u] 9 (0,0)):=(hgr0.block _ (by omega) (by intro e;injection e with e;omega)).trans hu
   refine wpIn_mono (hbody pre t A W0 hi hrest (by omega) hgr0 hz0) ?_
   rintro e a3 W3 hp
   cases e with
   | normal =>
    obtain ⟨hk3,hi3,hbb⟩:=hp
    have hl3:=hk3.same _ _ hl2 rfl
    have hd3:=hk3.same _ _ hk2 rfl
    have hr:=run_endRound (P:=Tryz.prog) none hl3
    rw [hrec] at hr hl3
    have hb3:(W3.putObj (w.heap.size+1) (.loop (rec .ready none))).heap[bb]?=some (.cells #[.string u] 9 (0,0)):=(World.putObj_heap_other (by omega)).trans (hbb.trans hb2)
    rw [hrec] at hb3
    have hbA:=blk_cell hu 0
    refine ⟨_,_,hr,rfl,⟨hI _ _ _ _ hi3 (.inl rfl) (grown_putObj _ _ _),?_,(World.putObj_heap_other (by omega)).trans hd3,u,hb3⟩,(blk_cell hb3 0).trans hbA.symm,blk_frozen hb3 0⟩
    rw [hrec];exact World.putObj_heap_same (blk_lt hl3)
   | ret=>exact hp.elim
   | exit id=>exact hp.elim
   | goto t=>exact hp.elim
   | panic ch=>exact hp.elim
   | outgrown=>exact hp.elim
  ·rintro e W2 ⟨rfl,hi,hl,hk,_⟩
   have he:=run_endLoop (P:=Tryz.prog) hl (by rw [hrec];simp)
   rw [hrec] at he
   exact ⟨none,_,he,hdone _ (hI _ _ _ _ hi (.inl rfl) (grown_putObj _ _ _)) ((World.putObj_heap_other (by omega)).trans hk)⟩
end Go.Proofs.YtjaobihcdkjmbaaGreatDoor
end
