/- The law ReadFree answers true for every argument; a part of its proof. -/
import Derived.Test.YtjaobihcdkjmbaaGreatDoorF3
import Derived.Test.YtjaobihcdkjmbaaGreatDoorF22
import Derived.Test.YtjaobihcdkjmbaaGreatDoorF25
set_option linter.unusedVariables false
set_option linter.unusedSimpArgs false
section
namespace Go.Proofs.YtjaobihcdkjmbaaGreatDoor.PReadFree
open Go.RowKit Go.Proofs.YtjaobihcdkjmbaaGreatDoorW.PrintWords Go.Proofs.YtjaobihcdkjmbaaGreatDoorW.PrintLast Go.Proofs.YtjaobihcdkjmbaaGreatDoorW.PrintMore Go.Proofs.YtjaobihcdkjmbaaGreatDoor.PReadTokens
attribute [local go_sem] max2_int min2_int max_two min_two max_three min_three max_four min_four   -- for this text's walks alone
set_option linter.unusedVariables false
set_option linter.unusedSimpArgs false
mutual
def metewandlaw13_count.j0:Nat→ByteArray→Bool→Int→ByteArray→ByteArray→ByteArray→Int→List (S31)→Option (Int)
 | 0,_,_,_,_,_,_,_,_=>none
 | k+1,x1,x15,x384000,x384001,x384002,x384003,x384004,x384005=>if x15=true then (some 1) else (metewandlaw13_count.l0 k x1 0 0 x384000 x384001 x384002 x384003 x384004 x384005)
def metewandlaw13_count.l0:Nat→ByteArray→Int→Int→Int→ByteArray→ByteArray→ByteArray→Int→List (S31)→Option (Int)
 | 0,_,_,_,_,_,_,_,_,_=>none
 | k+1,x1,x5,x6,x384000,x384001,x384002,x384003,x384004,x384005=>if x6 < (x384005.length:Int) then (if x384003.toList=x1.toList then (if x384000=10 then (metewandlaw13_count.l0 k x1 x5 (wrap64 (x6+1)) x384000 x384001 x384002 x384003 x384004 x384005) else (if x384000=11 then (metewandlaw13_count.l0 k x1 x5 (wrap64 (x6+1)) x384000 x384001 x384002 x384003 x384004 x384005) else (if x384000=13 then (if x6=1 then (metewandlaw13_count.l0 k x1 x5 (wrap64 (x6+1)) x384000 x384001 x384002 x384003 x384004 x384005) else (if 0≤x6 then ((metewandlaw13_count.f k ((rd_T31 x384005 x6).f0) ((rd_T31 x384005 x6).f1.f0) ((rd_T31 x384005 x6).f1.f1) ((rd_T31 x384005 x6).f2) ((rd_T31 x384005 x6).f3) ((rd_T31 x384005 x6).f4) x1).bind fun t385=>(metewandlaw13_count.l0 k x1 (wrap64 (x5+t385)) (wrap64 (x6+1)) x384000 x384001 x384002 x384003 x384004 x384005)) else (none))) else (if 0≤x6 then ((metewandlaw13_count.f k ((rd_T31 x384005 x6).f0) ((rd_T31 x384005 x6).f1.f0) ((rd_T31 x384005 x6).f1.f1) ((rd_T31 x384005 x6).f2) ((rd_T31 x384005 x6).f3) ((rd_T31 x384005 x6).f4) x1).bind fun t387=>(metewandlaw13_count.l0 k x1 (wrap64 (x5+t387)) (wrap64 (x6+1)) x384000 x384001 x384002 x384003 x384004 x384005)) else (none))))) else (if 0≤x6 then ((metewandlaw13_count.f k ((rd_T31 x384005 x6).f0) ((rd_T31 x384005 x6).f1.f0) ((rd_T31 x384005 x6).f1.f1) ((rd_T31 x384005 x6).f2) ((rd_T31 x384005 x6).f3) ((rd_T31 x384005 x6).f4) x1).bind fun t389=>(metewandlaw13_count.l0 k x1 (wrap64 (x5+t389)) (wrap64 (x6+1)) x384000 x384001 x384002 x384003 x384004 x384005)) else (none))) else (some x5)
def metewandlaw13_count.f:Nat→Int→ByteArray→ByteArray→ByteArray→Int→List (S31)→ByteArray→Option (Int)
 | 0,_,_,_,_,_,_,_=>none
 | k+1,a0_0,a0_1,a0_2,a0_3,a0_4,l0_5,a1=>if a0_0=1 then (metewandlaw13_count.j0 k a1 (a0_3.toList == a1.toList) a0_0 a0_1 a0_2 a0_3 a0_4 l0_5) else (metewandlaw13_count.j0 k a1 false a0_0 a0_1 a0_2 a0_3 a0_4 l0_5)
end
theorem metewandlaw13_count.mono_l:∀ k,(∀ y0 y1 y2 y3 y4 y5 y6,LeO (metewandlaw13_count.f k y0 y1 y2 y3 y4 y5 y6) (metewandlaw13_count.f (k+1) y0 y1 y2 y3 y4 y5 y6))∧(∀ y0 y1 y2 y3 y4 y5 y6 y7,LeO (metewandlaw13_count.j0 k y0 y1 y2 y3 y4 y5 y6 y7) (metewandlaw13_count.j0 (k+1) y0 y1 y2 y3 y4 y5 y6 y7))∧(∀ y0 y1 y2 y3 y4 y5 y6 y7 y8,LeO (metewandlaw13_count.l0 k y0 y1 y2 y3 y4 y5 y6 y7 y8) (metewandlaw13_count.l0 (k+1) y0 y1 y2 y3 y4 y5 y6 y7 y8))
 | 0=>⟨fun _ _ _ _ _ _ _ r h=>by simp [metewandlaw13_count.f] at h,fun _ _ _ _ _ _ _ _ r h=>by simp [metewandlaw13_count.j0] at h,fun _ _ _ _ _ _ _ _ _ r h=>by simp [metewandlaw13_count.l0] at h⟩
 | k+1=>by
  obtain ⟨ih0,ih1,ih2⟩:=metewandlaw13_count.mono_l k
  refine ⟨?_,?_,?_⟩
  ·intro y0 y1 y2 y3 y4 y5 y6
   unfold metewandlaw13_count.f
   repeat' first
   | (with_reducible exact ih0 _ _ _ _ _ _ _)
   | (with_reducible exact ih1 _ _ _ _ _ _ _ _)
   | (with_reducible exact ih2 _ _ _ _ _ _ _ _ _)
   | (with_reducible exact LeO.refl _)
   | (with_reducible exact LeO.none _)
   | (with_reducible refine LeO.ite ?_ ?_)
   | (with_reducible refine LeO.bind ?_ (fun _=>?_))
   | exact ih0 _ _ _ _ _ _ _
   | exact ih1 _ _ _ _ _ _ _ _
   | exact ih2 _ _ _ _ _ _ _ _ _
   | exact LeO.none _
   | refine LeO.ite ?_ ?_
   | refine LeO.bind ?_ (fun _=>?_)
  ·intro y0 y1 y2 y3 y4 y5 y6 y7
   unfold metewandlaw13_count.j0
   repeat' first
   | (with_reducible exact ih0 _ _ _ _ _ _ _)
   | (with_reducible exact ih1 _ _ _ _ _ _ _ _)
   | (with_reducible exact ih2 _ _ _ _ _ _ _ _ _)
   | (with_reducible exact LeO.refl _)
   | (with_reducible exact LeO.none _)
   | (with_reducible refine LeO.ite ?_ ?_)
   | (with_reducible refine LeO.bind ?_ (fun _=>?_))
   | exact ih0 _ _ _ _ _ _ _
   | exact ih1 _ _ _ _ _ _ _ _
   | exact ih2 _ _ _ _ _ _ _ _ _
   | exact LeO.none _
   | refine LeO.ite ?_ ?_
   | refine LeO.bind ?_ (fun _=>?_)
  ·intro y0 y1 y2 y3 y4 y5 y6 y7 y8
   unfold metewandlaw13_count.l0
   repeat' first
   | (with_reducible exact ih0 _ _ _ _ _ _ _)
   | (with_reducible exact ih1 _ _ _ _ _ _ _ _)
   | (with_reducible exact ih2 _ _ _ _ _ _ _ _ _)
   | (with_reducible exact LeO.refl _)
   | (with_reducible exact LeO.none _)
   | (with_reducible refine LeO.ite ?_ ?_)
   | (with_reducible refine LeO.bind ?_ (fun _=>?_))
   | exact ih0 _ _ _ _ _ _ _
   | exact ih1 _ _ _ _ _ _ _ _
   | exact ih2 _ _ _ _ _ _ _ _ _
   | exact LeO.none _
   | refine LeO.ite ?_ ?_
   | refine LeO.bind ?_ (fun _=>?_)
theorem metewandlaw13_count.mono:∀ a0 a1 a2 a3 a4 a5 a6 k,LeO (metewandlaw13_count.f k a0 a1 a2 a3 a4 a5 a6) (metewandlaw13_count.f (k+1) a0 a1 a2 a3 a4 a5 a6):=by
 intro a0 a1 a2 a3 a4 a5 a6 k
 obtain ⟨ih0,ih1,ih2⟩:=metewandlaw13_count.mono_l k
 exact ih0 a0 a1 a2 a3 a4 a5 a6
set_option maxHeartbeats 8000000 in
set_option maxRecDepth 100000 in
theorem metewandlaw13_count.calls (k:Nat):∀ (a0_0:Int) (a0_1:ByteArray) (a0_2:ByteArray) (a0_3:ByteArray) (a0_4:Int) (A0_5:Option Addr) (c0_5:Nat) (l0_5:List (S31)) (a1:ByteArray) (r:Int) (w:World) (hr0_5:Kd.C k31 w A0_5 l0_5.length l0_5) (hc0_5:l0_5.length≤c0_5) (h:metewandlaw13_count.f k a0_0 a0_1 a0_2 a0_3 a0_4 l0_5 a1=some r),
  Calls Tryz.prog 36 #[.agg #[.int .i64 a0_0,.string a0_1,.string a0_2,.string a0_3,.int .i64 a0_4,.slice A0_5 l0_5.length c0_5],.string a1] w fun e w'=>e=.returned (.int .i64 r)∧Below w.heap.size w w':=by
 induction k using Nat.strongRecOn with
 | _ k ih =>
 intro a0_0 a0_1 a0_2 a0_3 a0_4 A0_5 c0_5 l0_5 a1 r w hr0_5 hc0_5 h
 cases k with
 | zero=>exact absurd h (by simp [metewandlaw13_count.f])
 | succ k =>
 simp only [metewandlaw13_count.f] at h
 have hu31:=Tryz.underlying31
 have HR0_5:=Aside0.mk hr0_5
 have HC0_5:=Aside0.mk hc0_5
 clear hr0_5 hc0_5
 have HB:=Aside0.mk (Below.refl w.heap.size w)
 have H:(if a0_0=1 then (metewandlaw13_count.j0 k a1 (a0_3.toList == a1.toList) a0_0 a0_1 a0_2 a0_3 a0_4 l0_5) else (metewandlaw13_count.j0 k a1 false a0_0 a0_1 a0_2 a0_3 a0_4 l0_5))=some r:=h
 clear h
 have HC3:=Aside0.mk H
 clear H
 go_enter Tryz.func36,Tryz.ntmps36
 go_upto_region 1 with (first | ((with_reducible refine gate_dst (N:=2) rfl ?_);refine box_event ?hg (N:=2) ?hd (cs:=#[.int .i64 a0_0,.string a0_1,.string a0_2,.string a0_3,.int .i64 a0_4,.slice A0_5 l0_5.length c0_5]) (t:=31) ?hr ?_;(case hd=>rfl);(case hg=>rfl);(case hr=>first | (go_simp;done) | (go_simp;rfl));intro gb383 hg w4 hbox hb;have n0_:=Aside0.mk (below_step (by repeat (first | (with_reducible first | exact HB.out | apply below_alloc | apply pw_below_drewN | apply below_drew1) | exact HB.out)) hb);have n1_:=Aside0.mk (hbox);have n2_:=Aside0.mk ((by rw [hg];exact (below_size (by repeat (first | (with_reducible first | exact HB.out | apply below_alloc | apply pw_below_drewN | apply below_drew1) | exact HB.out))):w.heap.size≤gb383));have n3_:=Aside0.mk ((by rw [hg];exact (below_size (by repeat (first | (with_reducible first | exact HB.out | apply below_alloc | apply pw_below_drewN | apply below_drew1) | exact HB.out))):w.heap.size≤gb383));clear HB;have HB:=n0_;have BK383:=n1_;have GW383:=n2_;have GE383:=n3_;clear n0_ n1_ n2_ n3_;clear hb hbox hg))
 (try simp only [Act.put,List.setIfInBounds_toArray,List.set_cons_zero,List.set_cons_succ])
 go_cut [15] (fun v15 wc=>∃ (kq:Nat) (x15_2:Bool),v15=.bool x15_2∧Aside0 (metewandlaw13_count.j0 kq a1 x15_2 a0_0 a0_1 a0_2 a0_3 a0_4 l0_5=some r)∧Aside0 (kq≤k)∧Aside0 (wc.heap[gb383]?=some (.cells #[.int .i64 a0_0,.string a0_1,.string a0_2,.string a0_3,.int .i64 a0_4,(.slice A0_5 l0_5.length c0_5)] 31 (0,0)))∧Aside0 (Below w.heap.size w wc))
 case first =>
  have H:=HC3.out
  clear HC3
  by_cases c5:a0_0=1
  ·rw [if_pos c5] at H
   have c5b0:(a0_0 == 1)=true:=beq_iff_eq.mpr c5
   have c5b1:(a0_0 != 1)=false:=bne_eq_false_iff_eq.mpr c5
   clear c5
   (first | rw [c5b0] | (simp only [i64_w,i32_w];rw [c5b0]) | skip)
   have H':=Aside0.mk H
   clear H
   have hcz6_0:w4.cell? ⟨gb383,0,none⟩=some (.int .i64 a0_0):=(blk_cell BK383.out 0).trans rfl
   have hcz6_1:w4.cell? ⟨gb383,1,none⟩=some (.string a0_1):=(blk_cell BK383.out 1).trans rfl
   have hcz6_2:w4.cell? ⟨gb383,2,none⟩=some (.string a0_2):=(blk_cell BK383.out 2).trans rfl
   have hcz6_3:w4.cell? ⟨gb383,3,none⟩=some (.string a0_3):=(blk_cell BK383.out 3).trans rfl
   have hcz6_4:w4.cell? ⟨gb383,4,none⟩=some (.int .i64 a0_4):=(blk_cell BK383.out 4).trans rfl
   have hcz6_5:w4.cell? ⟨gb383,5,none⟩=some (.slice A0_5 l0_5.length c0_5):=(blk_cell BK383.out 5).trans rfl
   have hfz6_0:=blk_frozen BK383.out 0
   have hfz6_1:=blk_frozen BK383.out 1
   have hfz6_2:=blk_frozen BK383.out 2
   have hfz6_3:=blk_frozen BK383.out 3
   have hfz6_4:=blk_frozen BK383.out 4
   have hfz6_5:=blk_frozen BK383.out 5
   go_wp2
   go_meet
   case rel=>exact ⟨_,((a0_3.toList == a1.toList)),(by first | rfl | (simp;done) | (simp [*];done)),H',⟨by first | omega | exact Nat.le_refl _⟩,⟨by (with_reducible repeat (first | refine blk_drewN ?_ _ | refine blk_drew ?_ | refine blk_alloc ?_ _));exact BK383.out⟩,⟨by repeat (first | (with_reducible first | exact HB.out | apply below_alloc | apply pw_below_drewN | apply below_drew1 | refine below_set ?_ GE383.out) | exact HB.out)⟩⟩
  ·rw [if_neg c5] at H
   have c5b0:(a0_0 == 1)=false:=beq_eq_false_iff_ne.mpr c5
   have c5b1:(a0_0 != 1)=true:=bne_iff_ne.mpr c5
   (first | rw [c5b0] | (simp only [i64_w,i32_w];rw [c5b0]) | skip)
   have H':=Aside0.mk H
   clear H
   have hcz7_0:w4.cell? ⟨gb383,0,none⟩=some (.int .i64 a0_0):=(blk_cell BK383.out 0).trans rfl
   have hcz7_1:w4.cell? ⟨gb383,1,none⟩=some (.string a0_1):=(blk_cell BK383.out 1).trans rfl
   have hcz7_2:w4.cell? ⟨gb383,2,none⟩=some (.string a0_2):=(blk_cell BK383.out 2).trans rfl
   have hcz7_3:w4.cell? ⟨gb383,3,none⟩=some (.string a0_3):=(blk_cell BK383.out 3).trans rfl
   have hcz7_4:w4.cell? ⟨gb383,4,none⟩=some (.int .i64 a0_4):=(blk_cell BK383.out 4).trans rfl
   have hcz7_5:w4.cell? ⟨gb383,5,none⟩=some (.slice A0_5 l0_5.length c0_5):=(blk_cell BK383.out 5).trans rfl
   have hfz7_0:=blk_frozen BK383.out 0
   have hfz7_1:=blk_frozen BK383.out 1
   have hfz7_2:=blk_frozen BK383.out 2
   have hfz7_3:=blk_frozen BK383.out 3
   have hfz7_4:=blk_frozen BK383.out 4
   have hfz7_5:=blk_frozen BK383.out 5
   go_wp2
   go_meet
   case rel=>exact ⟨_,(false),(by first | rfl | (simp;done) | (simp [*];done)),H',⟨by first | omega | exact Nat.le_refl _⟩,⟨by (with_reducible repeat (first | refine blk_drewN ?_ _ | refine blk_drew ?_ | refine blk_alloc ?_ _));exact BK383.out⟩,⟨by repeat (first | (with_reducible first | exact HB.out | apply below_alloc | apply pw_below_drewN | apply below_drew1 | refine below_set ?_ GE383.out) | exact HB.out)⟩⟩
 case rest =>
  clear HC3
  try clear p2
  try clear c3
  try clear c5
  try clear c5b0
  try clear c5b1
  try clear hcz6_0
  try clear hcz6_1
  try clear hcz6_2
  try clear hcz6_3
  try clear hcz6_4
  try clear hcz6_5
  try clear hcz7_0
  try clear hcz7_1
  try clear hcz7_2
  try clear hcz7_3
  try clear hcz7_4
  try clear hcz7_5
  try clear hfz6_0
  try clear hfz6_1
  try clear hfz6_2
  try clear hfz6_3
  try clear hfz6_4
  try clear hfz6_5
  try clear hfz7_0
  try clear hfz7_1
  try clear hfz7_2
  try clear hfz7_3
  try clear hfz7_4
  try clear hfz7_5
  obtain ⟨kq,x15_2,rfl,HA,HJ2,BK383,HB⟩:=hcut
  cases kq with
  | zero=>exact absurd HA.out (by simp [metewandlaw13_count.j0])
  | succ kj2 =>
   have H:=HA.out
   clear HA
   simp only [metewandlaw13_count.j0] at H
   by_cases c8:x15_2=true
   ·subst c8
    have H1:(some 1)=some r:=by rw [if_pos rfl] at H;exact H
    clear H
    have H:=H1
    clear H1
    obtain rfl:=Option.some.inj H
    go_wp2
    go_ret
    exact ⟨by first | rfl | (simp [errW_none,errW_some] <;> rfl) | (simp [*,errW_none,errW_some] <;> rfl),by repeat (first | (with_reducible first | exact HB.out | apply below_alloc | apply pw_below_drewN | apply below_drew1 | refine below_set ?_ GE383.out) | exact HB.out)⟩
   ·replace c8:=Bool.eq_false_iff.mpr c8
    subst c8
    have H1:(metewandlaw13_count.l0 kj2 a1 0 0 a0_0 a0_1 a0_2 a0_3 a0_4 l0_5)=some r:=by rw [if_neg (show ¬ (false=true) by decide)] at H;exact H
    clear H
    have H:=H1
    clear H1
    have H':=Aside0.mk H
    clear H
    go_wp2
    go_loopg [5,6] kj2 (fun kq v5 v6 w'=>∃ (x5_2:Int) (x6_2:Int),v5=.int .i64 x5_2∧v6=.int .i64 x6_2∧Aside0 (metewandlaw13_count.l0 kq a1 x5_2 x6_2 a0_0 a0_1 a0_2 a0_3 a0_4 l0_5=some r)∧Aside0 (kq≤kj2)∧Aside0 (w'.heap[gb383]?=some (.cells #[.int .i64 a0_0,.string a0_1,.string a0_2,.string a0_3,.int .i64 a0_4,(.slice A0_5 l0_5.length c0_5)] 31 (0,0)))∧Aside0 (Below w.heap.size w w'))
    case atStart=>exact ⟨(0),(0),(by first | rfl | (simp;done) | (simp [*];done)),(by first | rfl | (simp;done) | (simp [*];done)),H',⟨Nat.le_refl _⟩,⟨by (with_reducible repeat (first | refine blk_drewN ?_ _ | refine blk_drew ?_ | refine blk_alloc ?_ _));exact BK383.out⟩,⟨by repeat (first | (with_reducible first | exact HB.out | apply below_alloc | apply pw_below_drewN | apply below_drew1 | refine below_set ?_ GE383.out) | exact HB.out)⟩⟩
    case round =>
     clear H'
     try clear p2
     try clear c3
     try clear c5
     try clear c5b0
     try clear c5b1
     try clear c8
     try clear hcz6_0
     try clear hcz6_1
     try clear hcz6_2
     try clear hcz6_3
     try clear hcz6_4
     try clear hcz6_5
     try clear hcz7_0
     try clear hcz7_1
     try clear hcz7_2
     try clear hcz7_3
     try clear hcz7_4
     try clear hcz7_5
     try clear hfz6_0
     try clear hfz6_1
     try clear hfz6_2
     try clear hfz6_3
     try clear hfz6_4
     try clear hfz6_5
     try clear hfz7_0
     try clear hfz7_1
     try clear hfz7_2
     try clear hfz7_3
     try clear hfz7_4
     try clear hfz7_5
     try clear p2
     obtain ⟨x5_2,x6_2,rfl,rfl,HA,HK2,BK383,HB⟩:=hrel
     cases gk with
     | zero=>exact absurd HA.out (by simp [metewandlaw13_count.l0])
     | succ k2 =>
      have H:=HA.out
      clear HA
      simp only [metewandlaw13_count.l0] at H
      by_cases c9:x6_2 < (l0_5.length:Int)
      ·rw [if_pos c9] at H
       have c9b0:decide (x6_2 < (l0_5.length:Int))=true:=decide_eq_true c9
       clear c9
       by_cases c10:a0_3.toList=a1.toList
       ·rw [if_pos c10] at H
        have c10b0:(a0_3.toList == a1.toList)=true:=beq_iff_eq.mpr c10
        have c10b1:(a0_3.toList != a1.toList)=false:=bne_eq_false_iff_eq.mpr c10
        clear c10
        by_cases c11:a0_0=10
        ·rw [if_pos c11] at H
         have c11b0:(a0_0 == 10)=true:=beq_iff_eq.mpr c11
         have c11b1:(a0_0 != 10)=false:=bne_eq_false_iff_eq.mpr c11
         clear c11
         have H':=Aside0.mk H
         clear H
         have hcz12_0:wr.cell? ⟨gb383,0,none⟩=some (.int .i64 a0_0):=(blk_cell BK383.out 0).trans rfl
         have hcz12_1:wr.cell? ⟨gb383,1,none⟩=some (.string a0_1):=(blk_cell BK383.out 1).trans rfl
         have hcz12_2:wr.cell? ⟨gb383,2,none⟩=some (.string a0_2):=(blk_cell BK383.out 2).trans rfl
         have hcz12_3:wr.cell? ⟨gb383,3,none⟩=some (.string a0_3):=(blk_cell BK383.out 3).trans rfl
         have hcz12_4:wr.cell? ⟨gb383,4,none⟩=some (.int .i64 a0_4):=(blk_cell BK383.out 4).trans rfl
         have hcz12_5:wr.cell? ⟨gb383,5,none⟩=some (.slice A0_5 l0_5.length c0_5):=(blk_cell BK383.out 5).trans rfl
         have hfz12_0:=blk_frozen BK383.out 0
         have hfz12_1:=blk_frozen BK383.out 1
         have hfz12_2:=blk_frozen BK383.out 2
         have hfz12_3:=blk_frozen BK383.out 3
         have hfz12_4:=blk_frozen BK383.out 4
         have hfz12_5:=blk_frozen BK383.out 5
         go_wp2
         go_roundg k2
         case measure=>have:=HJ2.out;have:=HK2.out;omega
         case rel=>exact ⟨(x5_2),(wrap64 (x6_2+1)),(by first | rfl | (simp;done) | (simp [*];done)),(by first | rfl | (simp;done) | (simp [*];done)),H',⟨by have:=HJ2.out;have:=HK2.out;omega⟩,⟨by (with_reducible repeat (first | refine blk_drewN ?_ _ | refine blk_drew ?_ | refine blk_alloc ?_ _));exact BK383.out⟩,⟨by repeat (first | (with_reducible first | exact HB.out | apply below_alloc | apply pw_below_drewN | apply below_drew1 | refine below_set ?_ GE383.out) | exact HB.out)⟩⟩
        ·rw [if_neg c11] at H
         have c11b0:(a0_0 == 10)=false:=beq_eq_false_iff_ne.mpr c11
         have c11b1:(a0_0 != 10)=true:=bne_iff_ne.mpr c11
         by_cases c13:a0_0=11
         ·rw [if_pos c13] at H
          have c13b0:(a0_0 == 11)=true:=beq_iff_eq.mpr c13
          have c13b1:(a0_0 != 11)=false:=bne_eq_false_iff_eq.mpr c13
          clear c13
          have H':=Aside0.mk H
          clear H
          have hcz14_0:wr.cell? ⟨gb383,0,none⟩=some (.int .i64 a0_0):=(blk_cell BK383.out 0).trans rfl
          have hcz14_1:wr.cell? ⟨gb383,1,none⟩=some (.string a0_1):=(blk_cell BK383.out 1).trans rfl
          have hcz14_2:wr.cell? ⟨gb383,2,none⟩=some (.string a0_2):=(blk_cell BK383.out 2).trans rfl
          have hcz14_3:wr.cell? ⟨gb383,3,none⟩=some (.string a0_3):=(blk_cell BK383.out 3).trans rfl
          have hcz14_4:wr.cell? ⟨gb383,4,none⟩=some (.int .i64 a0_4):=(blk_cell BK383.out 4).trans rfl
          have hcz14_5:wr.cell? ⟨gb383,5,none⟩=some (.slice A0_5 l0_5.length c0_5):=(blk_cell BK383.out 5).trans rfl
          have hfz14_0:=blk_frozen BK383.out 0
          have hfz14_1:=blk_frozen BK383.out 1
          have hfz14_2:=blk_frozen BK383.out 2
          have hfz14_3:=blk_frozen BK383.out 3
          have hfz14_4:=blk_frozen BK383.out 4
          have hfz14_5:=blk_frozen BK383.out 5
          go_wp2
          go_roundg k2
          case measure=>have:=HJ2.out;have:=HK2.out;omega
          case rel=>exact ⟨(x5_2),(wrap64 (x6_2+1)),(by first | rfl | (simp;done) | (simp [*];done)),(by first | rfl | (simp;done) | (simp [*];done)),H',⟨by have:=HJ2.out;have:=HK2.out;omega⟩,⟨by (with_reducible repeat (first | refine blk_drewN ?_ _ | refine blk_drew ?_ | refine blk_alloc ?_ _));exact BK383.out⟩,⟨by repeat (first | (with_reducible first | exact HB.out | apply below_alloc | apply pw_below_drewN | apply below_drew1 | refine below_set ?_ GE383.out) | exact HB.out)⟩⟩
         ·rw [if_neg c13] at H
          have c13b0:(a0_0 == 11)=false:=beq_eq_false_iff_ne.mpr c13
          have c13b1:(a0_0 != 11)=true:=bne_iff_ne.mpr c13
          by_cases c15:a0_0=13
          ·rw [if_pos c15] at H
           have c15b0:(a0_0 == 13)=true:=beq_iff_eq.mpr c15
           have c15b1:(a0_0 != 13)=false:=bne_eq_false_iff_eq.mpr c15
           clear c15
           by_cases c16:x6_2=1
           ·rw [if_pos c16] at H
            have c16b0:(x6_2 == 1)=true:=beq_iff_eq.mpr c16
            have c16b1:(x6_2 != 1)=false:=bne_eq_false_iff_eq.mpr c16
            clear c16
            have H':=Aside0.mk H
            clear H
            have hcz17_0:wr.cell? ⟨gb383,0,none⟩=some (.int .i64 a0_0):=(blk_cell BK383.out 0).trans rfl
            have hcz17_1:wr.cell? ⟨gb383,1,none⟩=some (.string a0_1):=(blk_cell BK383.out 1).trans rfl
            have hcz17_2:wr.cell? ⟨gb383,2,none⟩=some (.string a0_2):=(blk_cell BK383.out 2).trans rfl
            have hcz17_3:wr.cell? ⟨gb383,3,none⟩=some (.string a0_3):=(blk_cell BK383.out 3).trans rfl
            have hcz17_4:wr.cell? ⟨gb383,4,none⟩=some (.int .i64 a0_4):=(blk_cell BK383.out 4).trans rfl
            have hcz17_5:wr.cell? ⟨gb383,5,none⟩=some (.slice A0_5 l0_5.length c0_5):=(blk_cell BK383.out 5).trans rfl
            have hfz17_0:=blk_frozen BK383.out 0
            have hfz17_1:=blk_frozen BK383.out 1
            have hfz17_2:=blk_frozen BK383.out 2
            have hfz17_3:=blk_frozen BK383.out 3
            have hfz17_4:=blk_frozen BK383.out 4
            have hfz17_5:=blk_frozen BK383.out 5
            go_wp2
            go_roundg k2
            case measure=>have:=HJ2.out;have:=HK2.out;omega
            case rel=>exact ⟨(x5_2),(wrap64 (x6_2+1)),(by first | rfl | (simp;done) | (simp [*];done)),(by first | rfl | (simp;done) | (simp [*];done)),H',⟨by have:=HJ2.out;have:=HK2.out;omega⟩,⟨by (with_reducible repeat (first | refine blk_drewN ?_ _ | refine blk_drew ?_ | refine blk_alloc ?_ _));exact BK383.out⟩,⟨by repeat (first | (with_reducible first | exact HB.out | apply below_alloc | apply pw_below_drewN | apply below_drew1 | refine below_set ?_ GE383.out) | exact HB.out)⟩⟩
           ·rw [if_neg c16] at H
            have c16b0:(x6_2 == 1)=false:=beq_eq_false_iff_ne.mpr c16
            have c16b1:(x6_2 != 1)=true:=bne_iff_ne.mpr c16
            by_cases c18:0≤x6_2
            ·rw [if_pos c18] at H
             have c18b0:decide (0≤x6_2)=true:=decide_eq_true c18
             clear c18
             replace H:=Option.bind_eq_some_iff.mp H
             obtain ⟨t385,A190,H⟩:=H
             replace H:(metewandlaw13_count.l0 k2 a1 (wrap64 (x5_2+t385)) (wrap64 (x6_2+1)) a0_0 a0_1 a0_2 a0_3 a0_4 l0_5)=some r:=H
             have A19:=Aside0.mk A190
             clear A190
             have H':=Aside0.mk H
             clear H
             have hcz20_0:wr.cell? ⟨gb383,0,none⟩=some (.int .i64 a0_0):=(blk_cell BK383.out 0).trans rfl
             have hcz20_1:wr.cell? ⟨gb383,1,none⟩=some (.string a0_1):=(blk_cell BK383.out 1).trans rfl
             have hcz20_2:wr.cell? ⟨gb383,2,none⟩=some (.string a0_2):=(blk_cell BK383.out 2).trans rfl
             have hcz20_3:wr.cell? ⟨gb383,3,none⟩=some (.string a0_3):=(blk_cell BK383.out 3).trans rfl
             have hcz20_4:wr.cell? ⟨gb383,4,none⟩=some (.int .i64 a0_4):=(blk_cell BK383.out 4).trans rfl
             have hcz20_5:wr.cell? ⟨gb383,5,none⟩=some (.slice A0_5 l0_5.length c0_5):=(blk_cell BK383.out 5).trans rfl
             have hfz20_0:=blk_frozen BK383.out 0
             have hfz20_1:=blk_frozen BK383.out 1
             have hfz20_2:=blk_frozen BK383.out 2
             have hfz20_3:=blk_frozen BK383.out 3
             have hfz20_4:=blk_frozen BK383.out 4
             have hfz20_5:=blk_frozen BK383.out 5
             have p384:0≤(x6_2:Int):=of_decide_eq_true (by first | (with_reducible assumption) | assumption)
             have q384:x6_2 < (l0_5.length:Int):=of_decide_eq_true (by first | (with_reducible assumption) | assumption)
             obtain ⟨ad384,A384_5,c384_5,e384,hx384_0,hx384_1,hx384_2,hx384_3,hx384_4,hx384_5,hl384_5,hi384_5⟩:=at_T31 HR0_5.out x6_2 p384 q384
             cases e384
             replace hx384_0:=(HB.out.cell (World.block_lt_of_cell? w _ hx384_0)).trans hx384_0
             replace hx384_1:=(HB.out.cell (World.block_lt_of_cell? w _ hx384_1)).trans hx384_1
             replace hx384_2:=(HB.out.cell (World.block_lt_of_cell? w _ hx384_2)).trans hx384_2
             replace hx384_3:=(HB.out.cell (World.block_lt_of_cell? w _ hx384_3)).trans hx384_3
             replace hx384_4:=(HB.out.cell (World.block_lt_of_cell? w _ hx384_4)).trans hx384_4
             replace hx384_5:=(HB.out.cell (World.block_lt_of_cell? w _ hx384_5)).trans hx384_5
             have HR384_5:=Aside0.mk hi384_5
             have HC384_5:=Aside0.mk hl384_5
             clear hi384_5 hl384_5
             replace p384:=eq_true p384
             replace q384:=eq_true q384
             go_wp2_with (first | ((with_reducible refine gate_callee (f:=36) rfl ?_);refine goesL_ (some 53) rfl rfl Tryz.func36 (by kernel_rfl) rfl #[.agg #[.int .i64 ((rd_T31 l0_5 x6_2).f0),.string ((rd_T31 l0_5 x6_2).f1.f0),.string ((rd_T31 l0_5 x6_2).f1.f1),.string ((rd_T31 l0_5 x6_2).f2),.int .i64 ((rd_T31 l0_5 x6_2).f3),.slice A384_5 ((rd_T31 l0_5 x6_2).f4).length c384_5],.string a1] rfl (by (try simp only [List.map_toArray,List.map_cons,List.map_nil]);first | done | rfl | (simp only [List.length_drop,List.length_take];rfl)) ?_;(with_reducible refine (ih k2 (by have:=HJ2.out;have:=HK2.out;omega) ((rd_T31 l0_5 x6_2).f0) ((rd_T31 l0_5 x6_2).f1.f0) ((rd_T31 l0_5 x6_2).f1.f1) ((rd_T31 l0_5 x6_2).f2) ((rd_T31 l0_5 x6_2).f3) _ _ ((rd_T31 l0_5 x6_2).f4) a1 t385 _ ?side1 ?side2 A19.out).mono ?_);(case side1=>repeat (first | exact (Kd.C_below HR384_5.out HB.out) | (with_reducible refine Kd.C_alloc ?_ _) | (with_reducible refine Kd.C_drewN ?_ _) | (with_reducible refine Kd.C_drew ?_)));(case side2=>exact HC384_5.out);rintro e w21 ⟨rfl,hb⟩;refine ⟨_,rfl,?_⟩;have n0_:=Aside0.mk (blk_below (g:=gb383) (o:=.cells #[.int .i64 a0_0,.string a0_1,.string a0_2,.string a0_3,.int .i64 a0_4,.slice (some ad384) l0_5.length c0_5] 31 (0,0)) (by (with_reducible repeat (first | refine blk_drewN ?_ _ | refine blk_drew ?_ | refine blk_alloc ?_ _));exact BK383.out) hb);have n1_:=Aside0.mk (below_step (by repeat (first | (with_reducible first | exact HB.out | apply below_alloc | apply pw_below_drewN | apply below_drew1 | refine below_set ?_ GE383.out) | exact HB.out)) hb);clear BK383;clear HB;have BK383:=n0_;have HB:=n1_;clear n0_ n1_;(try clear hb);(try clear hb2);(try clear hk);(try clear hi)))
             go_roundg k2
             case measure=>have:=HJ2.out;have:=HK2.out;omega
             case rel=>exact ⟨(wrap64 (x5_2+t385)),(wrap64 (x6_2+1)),(by first | rfl | (simp;done) | (simp [*];done)),(by first | rfl | (simp;done) | (simp [*];done)),H',⟨by have:=HJ2.out;have:=HK2.out;omega⟩,⟨by (with_reducible repeat (first | refine blk_drewN ?_ _ | refine blk_drew ?_ | refine blk_alloc ?_ _));exact BK383.out⟩,⟨by repeat (first | (with_reducible first | exact HB.out | apply below_alloc | apply pw_below_drewN | apply below_drew1 | refine below_set ?_ GE383.out) | exact HB.out)⟩⟩
            ·rw [if_neg c18] at H
             exact absurd H (by simp)
          ·rw [if_neg c15] at H
           have c15b0:(a0_0 == 13)=false:=beq_eq_false_iff_ne.mpr c15
           have c15b1:(a0_0 != 13)=true:=bne_iff_ne.mpr c15
           by_cases c22:0≤x6_2
           ·rw [if_pos c22] at H
            have c22b0:decide (0≤x6_2)=true:=decide_eq_true c22
            clear c22
            replace H:=Option.bind_eq_some_iff.mp H
            obtain ⟨t387,A230,H⟩:=H
            replace H:(metewandlaw13_count.l0 k2 a1 (wrap64 (x5_2+t387)) (wrap64 (x6_2+1)) a0_0 a0_1 a0_2 a0_3 a0_4 l0_5)=some r:=H
            have A23:=Aside0.mk A230
            clear A230
            have H':=Aside0.mk H
            clear H
            have hcz24_0:wr.cell? ⟨gb383,0,none⟩=some (.int .i64 a0_0):=(blk_cell BK383.out 0).trans rfl
            have hcz24_1:wr.cell? ⟨gb383,1,none⟩=some (.string a0_1):=(blk_cell BK383.out 1).trans rfl
            have hcz24_2:wr.cell? ⟨gb383,2,none⟩=some (.string a0_2):=(blk_cell BK383.out 2).trans rfl
            have hcz24_3:wr.cell? ⟨gb383,3,none⟩=some (.string a0_3):=(blk_cell BK383.out 3).trans rfl
            have hcz24_4:wr.cell? ⟨gb383,4,none⟩=some (.int .i64 a0_4):=(blk_cell BK383.out 4).trans rfl
            have hcz24_5:wr.cell? ⟨gb383,5,none⟩=some (.slice A0_5 l0_5.length c0_5):=(blk_cell BK383.out 5).trans rfl
            have hfz24_0:=blk_frozen BK383.out 0
            have hfz24_1:=blk_frozen BK383.out 1
            have hfz24_2:=blk_frozen BK383.out 2
            have hfz24_3:=blk_frozen BK383.out 3
            have hfz24_4:=blk_frozen BK383.out 4
            have hfz24_5:=blk_frozen BK383.out 5
            have p386:0≤(x6_2:Int):=of_decide_eq_true (by first | (with_reducible assumption) | assumption)
            have q386:x6_2 < (l0_5.length:Int):=of_decide_eq_true (by first | (with_reducible assumption) | assumption)
            obtain ⟨ad386,A386_5,c386_5,e386,hx386_0,hx386_1,hx386_2,hx386_3,hx386_4,hx386_5,hl386_5,hi386_5⟩:=at_T31 HR0_5.out x6_2 p386 q386
            cases e386
            replace hx386_0:=(HB.out.cell (World.block_lt_of_cell? w _ hx386_0)).trans hx386_0
            replace hx386_1:=(HB.out.cell (World.block_lt_of_cell? w _ hx386_1)).trans hx386_1
            replace hx386_2:=(HB.out.cell (World.block_lt_of_cell? w _ hx386_2)).trans hx386_2
            replace hx386_3:=(HB.out.cell (World.block_lt_of_cell? w _ hx386_3)).trans hx386_3
            replace hx386_4:=(HB.out.cell (World.block_lt_of_cell? w _ hx386_4)).trans hx386_4
            replace hx386_5:=(HB.out.cell (World.block_lt_of_cell? w _ hx386_5)).trans hx386_5
            have HR386_5:=Aside0.mk hi386_5
            have HC386_5:=Aside0.mk hl386_5
            clear hi386_5 hl386_5
            replace p386:=eq_true p386
            replace q386:=eq_true q386
            go_wp2_with (first | ((with_reducible refine gate_callee (f:=36) rfl ?_);refine goesL_ (some 53) rfl rfl Tryz.func36 (by kernel_rfl) rfl #[.agg #[.int .i64 ((rd_T31 l0_5 x6_2).f0),.string ((rd_T31 l0_5 x6_2).f1.f0),.string ((rd_T31 l0_5 x6_2).f1.f1),.string ((rd_T31 l0_5 x6_2).f2),.int .i64 ((rd_T31 l0_5 x6_2).f3),.slice A386_5 ((rd_T31 l0_5 x6_2).f4).length c386_5],.string a1] rfl (by (try simp only [List.map_toArray,List.map_cons,List.map_nil]);first | done | rfl | (simp only [List.length_drop,List.length_take];rfl)) ?_;(with_reducible refine (ih k2 (by have:=HJ2.out;have:=HK2.out;omega) ((rd_T31 l0_5 x6_2).f0) ((rd_T31 l0_5 x6_2).f1.f0) ((rd_T31 l0_5 x6_2).f1.f1) ((rd_T31 l0_5 x6_2).f2) ((rd_T31 l0_5 x6_2).f3) _ _ ((rd_T31 l0_5 x6_2).f4) a1 t387 _ ?side1 ?side2 A23.out).mono ?_);(case side1=>repeat (first | exact (Kd.C_below HR386_5.out HB.out) | (with_reducible refine Kd.C_alloc ?_ _) | (with_reducible refine Kd.C_drewN ?_ _) | (with_reducible refine Kd.C_drew ?_)));(case side2=>exact HC386_5.out);rintro e w25 ⟨rfl,hb⟩;refine ⟨_,rfl,?_⟩;have n0_:=Aside0.mk (blk_below (g:=gb383) (o:=.cells #[.int .i64 a0_0,.string a0_1,.string a0_2,.string a0_3,.int .i64 a0_4,.slice (some ad386) l0_5.length c0_5] 31 (0,0)) (by (with_reducible repeat (first | refine blk_drewN ?_ _ | refine blk_drew ?_ | refine blk_alloc ?_ _));exact BK383.out) hb);have n1_:=Aside0.mk (below_step (by repeat (first | (with_reducible first | exact HB.out | apply below_alloc | apply pw_below_drewN | apply below_drew1 | refine below_set ?_ GE383.out) | exact HB.out)) hb);clear BK383;clear HB;have BK383:=n0_;have HB:=n1_;clear n0_ n1_;(try clear hb);(try clear hb2);(try clear hk);(try clear hi)))
            go_roundg k2
            case measure=>have:=HJ2.out;have:=HK2.out;omega
            case rel=>exact ⟨(wrap64 (x5_2+t387)),(wrap64 (x6_2+1)),(by first | rfl | (simp;done) | (simp [*];done)),(by first | rfl | (simp;done) | (simp [*];done)),H',⟨by have:=HJ2.out;have:=HK2.out;omega⟩,⟨by (with_reducible repeat (first | refine blk_drewN ?_ _ | refine blk_drew ?_ | refine blk_alloc ?_ _));exact BK383.out⟩,⟨by repeat (first | (with_reducible first | exact HB.out | apply below_alloc | apply pw_below_drewN | apply below_drew1 | refine below_set ?_ GE383.out) | exact HB.out)⟩⟩
           ·rw [if_neg c22] at H
            exact absurd H (by simp)
       ·rw [if_neg c10] at H
        have c10b0:(a0_3.toList == a1.toList)=false:=beq_eq_false_iff_ne.mpr c10
        have c10b1:(a0_3.toList != a1.toList)=true:=bne_iff_ne.mpr c10
        by_cases c26:0≤x6_2
        ·rw [if_pos c26] at H
         have c26b0:decide (0≤x6_2)=true:=decide_eq_true c26
         clear c26
         replace H:=Option.bind_eq_some_iff.mp H
         obtain ⟨t389,A270,H⟩:=H
         replace H:(metewandlaw13_count.l0 k2 a1 (wrap64 (x5_2+t389)) (wrap64 (x6_2+1)) a0_0 a0_1 a0_2 a0_3 a0_4 l0_5)=some r:=H
         have A27:=Aside0.mk A270
         clear A270
         have H':=Aside0.mk H
         clear H
         have hcz28_0:wr.cell? ⟨gb383,0,none⟩=some (.int .i64 a0_0):=(blk_cell BK383.out 0).trans rfl
         have hcz28_1:wr.cell? ⟨gb383,1,none⟩=some (.string a0_1):=(blk_cell BK383.out 1).trans rfl
         have hcz28_2:wr.cell? ⟨gb383,2,none⟩=some (.string a0_2):=(blk_cell BK383.out 2).trans rfl
         have hcz28_3:wr.cell? ⟨gb383,3,none⟩=some (.string a0_3):=(blk_cell BK383.out 3).trans rfl
         have hcz28_4:wr.cell? ⟨gb383,4,none⟩=some (.int .i64 a0_4):=(blk_cell BK383.out 4).trans rfl
         have hcz28_5:wr.cell? ⟨gb383,5,none⟩=some (.slice A0_5 l0_5.length c0_5):=(blk_cell BK383.out 5).trans rfl
         have hfz28_0:=blk_frozen BK383.out 0
         have hfz28_1:=blk_frozen BK383.out 1
         have hfz28_2:=blk_frozen BK383.out 2
         have hfz28_3:=blk_frozen BK383.out 3
         have hfz28_4:=blk_frozen BK383.out 4
         have hfz28_5:=blk_frozen BK383.out 5
         have p388:0≤(x6_2:Int):=of_decide_eq_true (by first | (with_reducible assumption) | assumption)
         have q388:x6_2 < (l0_5.length:Int):=of_decide_eq_true (by first | (with_reducible assumption) | assumption)
         obtain ⟨ad388,A388_5,c388_5,e388,hx388_0,hx388_1,hx388_2,hx388_3,hx388_4,hx388_5,hl388_5,hi388_5⟩:=at_T31 HR0_5.out x6_2 p388 q388
         cases e388
         replace hx388_0:=(HB.out.cell (World.block_lt_of_cell? w _ hx388_0)).trans hx388_0
         replace hx388_1:=(HB.out.cell (World.block_lt_of_cell? w _ hx388_1)).trans hx388_1
         replace hx388_2:=(HB.out.cell (World.block_lt_of_cell? w _ hx388_2)).trans hx388_2
         replace hx388_3:=(HB.out.cell (World.block_lt_of_cell? w _ hx388_3)).trans hx388_3
         replace hx388_4:=(HB.out.cell (World.block_lt_of_cell? w _ hx388_4)).trans hx388_4
         replace hx388_5:=(HB.out.cell (World.block_lt_of_cell? w _ hx388_5)).trans hx388_5
         have HR388_5:=Aside0.mk hi388_5
         have HC388_5:=Aside0.mk hl388_5
         clear hi388_5 hl388_5
         replace p388:=eq_true p388
         replace q388:=eq_true q388
         go_wp2_with (first | ((with_reducible refine gate_callee (f:=36) rfl ?_);refine goesL_ (some 53) rfl rfl Tryz.func36 (by kernel_rfl) rfl #[.agg #[.int .i64 ((rd_T31 l0_5 x6_2).f0),.string ((rd_T31 l0_5 x6_2).f1.f0),.string ((rd_T31 l0_5 x6_2).f1.f1),.string ((rd_T31 l0_5 x6_2).f2),.int .i64 ((rd_T31 l0_5 x6_2).f3),.slice A388_5 ((rd_T31 l0_5 x6_2).f4).length c388_5],.string a1] rfl (by (try simp only [List.map_toArray,List.map_cons,List.map_nil]);first | done | rfl | (simp only [List.length_drop,List.length_take];rfl)) ?_;(with_reducible refine (ih k2 (by have:=HJ2.out;have:=HK2.out;omega) ((rd_T31 l0_5 x6_2).f0) ((rd_T31 l0_5 x6_2).f1.f0) ((rd_T31 l0_5 x6_2).f1.f1) ((rd_T31 l0_5 x6_2).f2) ((rd_T31 l0_5 x6_2).f3) _ _ ((rd_T31 l0_5 x6_2).f4) a1 t389 _ ?side1 ?side2 A27.out).mono ?_);(case side1=>repeat (first | exact (Kd.C_below HR388_5.out HB.out) | (with_reducible refine Kd.C_alloc ?_ _) | (with_reducible refine Kd.C_drewN ?_ _) | (with_reducible refine Kd.C_drew ?_)));(case side2=>exact HC388_5.out);rintro e w29 ⟨rfl,hb⟩;refine ⟨_,rfl,?_⟩;have n0_:=Aside0.mk (blk_below (g:=gb383) (o:=.cells #[.int .i64 a0_0,.string a0_1,.string a0_2,.string a0_3,.int .i64 a0_4,.slice (some ad388) l0_5.length c0_5] 31 (0,0)) (by (with_reducible repeat (first | refine blk_drewN ?_ _ | refine blk_drew ?_ | refine blk_alloc ?_ _));exact BK383.out) hb);have n1_:=Aside0.mk (below_step (by repeat (first | (with_reducible first | exact HB.out | apply below_alloc | apply pw_below_drewN | apply below_drew1 | refine below_set ?_ GE383.out) | exact HB.out)) hb);clear BK383;clear HB;have BK383:=n0_;have HB:=n1_;clear n0_ n1_;(try clear hb);(try clear hb2);(try clear hk);(try clear hi)))
         go_roundg k2
         case measure=>have:=HJ2.out;have:=HK2.out;omega
         case rel=>exact ⟨(wrap64 (x5_2+t389)),(wrap64 (x6_2+1)),(by first | rfl | (simp;done) | (simp [*];done)),(by first | rfl | (simp;done) | (simp [*];done)),H',⟨by have:=HJ2.out;have:=HK2.out;omega⟩,⟨by (with_reducible repeat (first | refine blk_drewN ?_ _ | refine blk_drew ?_ | refine blk_alloc ?_ _));exact BK383.out⟩,⟨by repeat (first | (with_reducible first | exact HB.out | apply below_alloc | apply pw_below_drewN | apply below_drew1 | refine below_set ?_ GE383.out) | exact HB.out)⟩⟩
        ·rw [if_neg c26] at H
         exact absurd H (by simp)
      ·rw [if_neg c9] at H
       have c9b0:decide (x6_2 < (l0_5.length:Int))=false:=decide_eq_false c9
       clear c9
       obtain rfl:=Option.some.inj H
       have hcz30_0:wr.cell? ⟨gb383,0,none⟩=some (.int .i64 a0_0):=(blk_cell BK383.out 0).trans rfl
       have hcz30_1:wr.cell? ⟨gb383,1,none⟩=some (.string a0_1):=(blk_cell BK383.out 1).trans rfl
       have hcz30_2:wr.cell? ⟨gb383,2,none⟩=some (.string a0_2):=(blk_cell BK383.out 2).trans rfl
       have hcz30_3:wr.cell? ⟨gb383,3,none⟩=some (.string a0_3):=(blk_cell BK383.out 3).trans rfl
       have hcz30_4:wr.cell? ⟨gb383,4,none⟩=some (.int .i64 a0_4):=(blk_cell BK383.out 4).trans rfl
       have hcz30_5:wr.cell? ⟨gb383,5,none⟩=some (.slice A0_5 l0_5.length c0_5):=(blk_cell BK383.out 5).trans rfl
       have hfz30_0:=blk_frozen BK383.out 0
       have hfz30_1:=blk_frozen BK383.out 1
       have hfz30_2:=blk_frozen BK383.out 2
       have hfz30_3:=blk_frozen BK383.out 3
       have hfz30_4:=blk_frozen BK383.out 4
       have hfz30_5:=blk_frozen BK383.out 5
       go_wp2
       go_ret
       exact ⟨by first | rfl | (simp [errW_none,errW_some] <;> rfl) | (simp [*,errW_none,errW_some] <;> rfl),by repeat (first | (with_reducible first | exact HB.out | apply below_alloc | apply pw_below_drewN | apply below_drew1 | refine below_set ?_ GE383.out) | exact HB.out)⟩
end Go.Proofs.YtjaobihcdkjmbaaGreatDoor.PReadFree
end
section
namespace Go.Proofs.YtjaobihcdkjmbaaGreatDoor
open Go.RowKit Go.Maps Go.WideShapes Go.Proofs.YtjaobihcdkjmbaaGreatDoorW.PrintWords Go.Proofs.YtjaobihcdkjmbaaGreatDoor.PReadTokens
open Go.Proofs.YtjaobihcdkjmbaaGreatDoor.PReadFree
theorem toList_inj {a b:ByteArray}:a.toList=b.toList↔a=b:=by
 constructor
 ·intro h
  have h1:(a.toList == b.toList)=true:=by simp [h]
  rw [str_eq,decide_eq_true_eq] at h1
  exact h1
 ·rintro rfl;rfl
theorem place_from (l:List ByteArray) (s:ByteArray) (h:l.length≤9223372036854775807):∀ (d k i:Nat),i+d=l.length→d < k→∃ r,metewandkit_PlaceText.l0 k l s (i:Int)=some r∧(0≤r↔s ∈ l.drop i):=by
 intro d
 induction d with
 | zero =>
  intro k i hi hk
  obtain ⟨k,rfl⟩:∃ m,k=m+1:=⟨k - 1,by omega⟩
  refine ⟨-1,?_,?_⟩
  ·simp only [metewandkit_PlaceText.l0]
   rw [if_neg (by omega)]
  ·rw [List.drop_of_length_le (by omega)];simp
 | succ d ih =>
  intro k i hi hk
  obtain ⟨k,rfl⟩:∃ m,k=m+1:=⟨k - 1,by omega⟩
  have hil:i < l.length:=by omega
  have hw:wrap64 ((i:Int)+1)=((i+1:Nat):Int):=by unfold wrap64;omega
  have hr:rdOf ByteArray.empty l (i:Int)=l[i]:=by unfold rdOf;simp [hil]
  simp only [metewandkit_PlaceText.l0]
  rw [if_pos (by omega),if_pos (by omega),hr,List.drop_eq_getElem_cons hil]
  by_cases e:l[i]=s
  ·rw [if_pos (by rw [e])]
   exact ⟨i,rfl,by simp [e]⟩
  ·rw [if_neg (fun h=>e (toList_inj.1 h)),hw]
   obtain ⟨r,h1,h2⟩:=ih k (i+1) (by omega) (by omega)
   exact ⟨r,h1,by rw [h2,List.mem_cons];exact ⟨fun h=>.inr h,fun h=>h.resolve_left (fun h=>e h.symm)⟩⟩
theorem place_calls (A:Option Addr) (c:Nat) (l:List ByteArray) (s:ByteArray) (h:l.length≤9223372036854775807) (w:World) (hl:Kd.C Kd.string w A l.length l) (hc:l.length≤c) :
  ∃ r:Int,(0≤r↔s ∈ l)∧Calls Tryz.prog 34 #[.slice A l.length c,.string s] w fun e w'=>e=.returned (.int .i64 r)∧Drawn0 w w':=by
 obtain ⟨r,h1,h2⟩:=place_from l s h l.length (l.length+1) 0 (by omega) (by omega)
 refine ⟨r,by simpa using h2,metewandkit_PlaceText.calls (l.length+1) A c l s r w hl hc ?_⟩
 unfold metewandkit_PlaceText.f
 exact h1
theorem cnt_le (s:ByteArray):∀ (n:Nat) (x:S31),depthX x≤n→cntX s x≤nodesX x:=by
 intro n
 induction n with
 | zero=>intro x h;rw [depthX_eq] at h;omega
 | succ n ih =>
  intro x hd
  rw [depthX_eq] at hd
  rw [cntX_eq,nodesX_eq]
  split
  ·omega
  ·have key:∀ (l:List S31) (i:Nat),(∀ a ∈ l,cntX s a≤nodesX a)→cntL s x.f0 x.f2 i l≤nodesL l:=by
    intro l
    induction l with
    | nil=>intro i _;simp [cntL]
    | cons a l ih2 =>
     intro i hl
     have h1:=hl a (List.mem_cons_self ..)
     have h2:=ih2 (i+1) (fun b hb=>hl b (List.mem_cons_of_mem _ hb))
     rw [cntL,nodesL]
     split <;> omega
   have:=key x.f4 0 (fun a ha=>ih a (by have:=depthX_mem ha;omega))
   omega
theorem binds_iff (op:Int) (i:Nat):bindsAt op i=true↔(op=10∨op=11∨(op=13∧1≤i)):=by
 unfold bindsAt bindYes bindFrom
 simp only [Bool.and_eq_true,Bool.or_eq_true,decide_eq_true_eq]
 by_cases e:op=13
 ·rw [if_pos e];omega
 ·rw [if_neg e];omega
def cfuel (M:Nat):Nat→Nat
 | 0=>0
 | n+1=>cfuel M n+(M+10)
theorem ok_two {x:S31} (h:OkX x):(x.f0=13→x.f4.length≤2)∧(x.f0=1→x.f4=[]):=by
 obtain ⟨_,h,_⟩:=h
 unfold lookE at h
 by_cases h0:x.f0 < 0∨14 < x.f0
 ·rw [if_pos h0] at h;omega
 ·rw [if_neg h0] at h
  by_cases h1:(x.f4.length:Int) < argLo x.f0
  ·rw [if_pos h1] at h;omega
  ·rw [if_neg h1] at h
   by_cases h2:argHi x.f0 < (x.f4.length:Int)
   ·rw [if_pos h2] at h;omega
   ·constructor
    ·intro e
     rw [e] at h2
     have:argHi 13=2:=by decide
     omega
    ·intro e
     rw [e] at h2
     have:argHi 1=0:=by decide
     exact List.eq_nil_of_length_eq_zero (by omega)
theorem ok_ref:∀ (n:Nat) (x:S31),depthX x≤n→OkX x→refB x=true:=by
 intro n
 induction n with
 | zero=>intro x h;rw [depthX_eq] at h;omega
 | succ n ih =>
  intro x hd h
  rw [depthX_eq] at hd
  have h2:=(ok_two h).2
  obtain ⟨_,_,hl⟩:=h
  have key:∀ l:List S31,(∀ a ∈ l,refB a=true)→refL l=true:=by
   intro l
   induction l with
   | nil=>intro _;rfl
   | cons a l ih2=>intro h;rw [refL,h a (List.mem_cons_self ..),ih2 (fun b hb=>h b (List.mem_cons_of_mem _ hb))];rfl
  rw [refB_eq,key x.f4 (fun a ha=>ih a (by have:=depthX_mem ha;omega) (hl a ha))]
  by_cases e:x.f0=1
  ·simp [h2 e]
  ·simp [e]
theorem bnd_no1 {op:Int} {i n:Nat} (h10:¬ op=10) (h11:¬ op=11) (hi:¬ (i:Int)=1) (hn:i < n) (h2:n≤2):¬ bindsAt op i=true:=fun h=>by have:=(binds_iff op i).1 h;omega
theorem bnd_no2 {op:Int} {i:Nat} (h10:¬ op=10) (h11:¬ op=11) (h13:¬ op=13):¬ bindsAt op i=true:=fun h=>by have:=(binds_iff op i).1 h;omega
theorem bnd_yes {op:Int} {i:Nat} (h13:op=13) (hi:(i:Int)=1):bindsAt op i=true:=(binds_iff op i).2 (by omega)
set_option maxHeartbeats 20000 in
theorem cnt_ref (k:Nat) (x:S31) (s:ByteArray) (e:x.f0=1∧x.f2=s):metewandlaw13_count.f (k+1+1) x.f0 x.f1.f0 x.f1.f1 x.f2 x.f3 x.f4 s=some (cntX s x:Int):=by
 rw [cntX_eq,metewandlaw13_count.f,if_pos e.1,metewandlaw13_count.j0,if_pos (show (x.f2.toList == s.toList)=true by rw [e.2];simp),if_pos e]
 rfl
set_option maxHeartbeats 20000 in
theorem cnt_top (k:Nat) (x:S31) (s:ByteArray) (e:¬ (x.f0=1∧x.f2=s)) (h:metewandlaw13_count.l0 k s 0 0 x.f0 x.f1.f0 x.f1.f1 x.f2 x.f3 x.f4=some ((cntL s x.f0 x.f2 0 x.f4:Nat):Int)):metewandlaw13_count.f (k+1+1) x.f0 x.f1.f0 x.f1.f1 x.f2 x.f3 x.f4 s=some (cntX s x:Int):=by
 rw [cntX_eq,metewandlaw13_count.f,if_neg e]
 by_cases e1:x.f0=1
 ·rw [if_pos e1,metewandlaw13_count.j0,if_neg (show ¬ (x.f2.toList == s.toList)=true by rw [str_eq,decide_eq_true_eq];exact fun h=>e ⟨e1,h⟩),h]
 ·rw [if_neg e1,metewandlaw13_count.j0,if_neg (show ¬ (false=true) by simp),h]
set_option maxHeartbeats 20000 in
theorem cnt_step (k:Nat) (s:ByteArray) (acc i op:Int) (n0 n1 nm:ByteArray) (sz:Int) (L:List S31):metewandlaw13_count.l0 (k+1) s acc i op n0 n1 nm sz L =
  if i < (L.length:Int) then (if nm.toList=s.toList then (if op=10 then (metewandlaw13_count.l0 k s acc (wrap64 (i+1)) op n0 n1 nm sz L) else (if op=11 then (metewandlaw13_count.l0 k s acc (wrap64 (i+1)) op n0 n1 nm sz L) else (if op=13 then (if i=1 then (metewandlaw13_count.l0 k s acc (wrap64 (i+1)) op n0 n1 nm sz L) else (if 0≤i then ((metewandlaw13_count.f k ((rd_T31 L i).f0) ((rd_T31 L i).f1.f0) ((rd_T31 L i).f1.f1) ((rd_T31 L i).f2) ((rd_T31 L i).f3) ((rd_T31 L i).f4) s).bind fun t385=>(metewandlaw13_count.l0 k s (wrap64 (acc+t385)) (wrap64 (i+1)) op n0 n1 nm sz L)) else none)) else (if 0≤i then ((metewandlaw13_count.f k ((rd_T31 L i).f0) ((rd_T31 L i).f1.f0) ((rd_T31 L i).f1.f1) ((rd_T31 L i).f2) ((rd_T31 L i).f3) ((rd_T31 L i).f4) s).bind fun t385=>(metewandlaw13_count.l0 k s (wrap64 (acc+t385)) (wrap64 (i+1)) op n0 n1 nm sz L)) else none)))) else (if 0≤i then ((metewandlaw13_count.f k ((rd_T31 L i).f0) ((rd_T31 L i).f1.f0) ((rd_T31 L i).f1.f1) ((rd_T31 L i).f2) ((rd_T31 L i).f3) ((rd_T31 L i).f4) s).bind fun t385=>(metewandlaw13_count.l0 k s (wrap64 (acc+t385)) (wrap64 (i+1)) op n0 n1 nm sz L)) else none)) else some acc:=by
 rw [metewandlaw13_count.l0]
set_option maxHeartbeats 40000 in
theorem count_f (s:ByteArray) (M:Nat) (hM:M≤1000000000):∀ (n:Nat) (x:S31),depthX x≤n→nodesX x≤M→OkX x→∀ k,cfuel M n≤k→metewandlaw13_count.f k x.f0 x.f1.f0 x.f1.f1 x.f2 x.f3 x.f4 s=some (cntX s x:Int):=by
 intro n
 induction n with
 | zero=>intro x h;rw [depthX_eq] at h;omega
 | succ n ih =>
  intro x hd hn hok k hk
  rw [depthX_eq] at hd
  rw [nodesX_eq] at hn
  simp only [cfuel] at hk
  have htwo:=(ok_two hok).1
  obtain ⟨_,_,hokl⟩:=hok
  have hlen:=length_nodesL x.f4
  have key:∀ (d k i:Nat) (acc:Nat),i+d=x.f4.length→cfuel M n+d < k→acc+cntL s x.f0 x.f2 i (x.f4.drop i)≤M →
    metewandlaw13_count.l0 k s (acc:Int) (i:Int) x.f0 x.f1.f0 x.f1.f1 x.f2 x.f3 x.f4=some ((acc+cntL s x.f0 x.f2 i (x.f4.drop i):Nat):Int):=by
   intro d
   induction d with
   | zero =>
    intro k i acc hi hk ha
    obtain ⟨k,rfl⟩:∃ m,k=m+1:=⟨k - 1,by omega⟩
    simp only [metewandlaw13_count.l0]
    rw [if_neg (by omega),List.drop_of_length_le (by omega)]
    simp [cntL]
   | succ d ihd =>
    intro k i acc hi hk ha
    obtain ⟨k,rfl⟩:∃ m,k=m+1:=⟨k - 1,by omega⟩
    have hil:i < x.f4.length:=by omega
    have hw:wrap64 ((i:Int)+1)=((i+1:Nat):Int):=by unfold wrap64;omega
    have hr:rd_T31 x.f4 (i:Int)=x.f4[i]:=by unfold rd_T31;simp [hil]
    have hdm:=depthX_mem (List.getElem_mem hil)
    have hnm:=nodesX_mem (List.getElem_mem hil)
    have hrec:=ih x.f4[i] (by omega) (by omega) (hokl _ (List.getElem_mem hil)) k (by omega)
    rw [List.drop_eq_getElem_cons hil,cntL] at ha ⊢
    have hskip:=ihd k (i+1) acc (by omega) (by omega)
    have hgo:=ihd k (i+1) (acc+cntX s x.f4[i]) (by omega) (by omega)
    have hcl:=cnt_le s _ x.f4[i] (Nat.le_refl _)
    have hwa:cntX s x.f4[i]≤M→wrap64 ((acc:Int)+(cntX s x.f4[i]:Int))=((acc+cntX s x.f4[i]:Nat):Int):=by
     intro h1
     unfold wrap64
     omega
    have hbt:bindsAt x.f0 i=true↔(x.f0=10∨x.f0=11∨(x.f0=13∧1≤i)):=binds_iff x.f0 i
    have hi0:0≤(i:Int):=Int.natCast_nonneg i
    have hil':(i:Int) < (x.f4.length:Int):=by omega
    have go:¬ (bindsAt x.f0 i=true∧x.f2=s)→(if 0≤(i:Int) then ((metewandlaw13_count.f k ((rd_T31 x.f4 (i:Int)).f0) ((rd_T31 x.f4 (i:Int)).f1.f0) ((rd_T31 x.f4 (i:Int)).f1.f1) ((rd_T31 x.f4 (i:Int)).f2) ((rd_T31 x.f4 (i:Int)).f3) ((rd_T31 x.f4 (i:Int)).f4) s).bind fun t385=>(metewandlaw13_count.l0 k s (wrap64 ((acc:Int)+t385)) (wrap64 ((i:Int)+1)) x.f0 x.f1.f0 x.f1.f1 x.f2 x.f3 x.f4)) else none) =
      some ((acc+((if bindsAt x.f0 i=true∧x.f2=s then 0 else cntX s x.f4[i])+cntL s x.f0 x.f2 (i+1) (x.f4.drop (i+1))):Nat):Int):=by
     intro hb
     rw [if_neg hb] at ha ⊢
     rw [if_pos hi0,hr,hrec,Option.bind_some,hwa (by omega),hw,hgo (by omega),Nat.add_assoc]
    have skip:bindsAt x.f0 i=true∧x.f2=s→metewandlaw13_count.l0 k s (acc:Int) (wrap64 ((i:Int)+1)) x.f0 x.f1.f0 x.f1.f1 x.f2 x.f3 x.f4 =
      some ((acc+((if bindsAt x.f0 i=true∧x.f2=s then 0 else cntX s x.f4[i])+cntL s x.f0 x.f2 (i+1) (x.f4.drop (i+1))):Nat):Int):=by
     intro hb
     rw [if_pos hb] at ha ⊢
     rw [hw,hskip (by omega),Nat.zero_add]
    rw [cnt_step,if_pos hil']
    by_cases e:x.f2=s
    ·rw [if_pos (show x.f2.toList=s.toList by rw [e])]
     by_cases e10:x.f0=10
     ·rw [if_pos e10,skip ⟨hbt.2 (.inl e10),e⟩]
     ·rw [if_neg e10]
      by_cases e11:x.f0=11
      ·rw [if_pos e11,skip ⟨hbt.2 (.inr (.inl e11)),e⟩]
      ·rw [if_neg e11]
       by_cases e13:x.f0=13
       ·rw [if_pos e13]
        have htt:=htwo e13
        by_cases ei:(i:Int)=1
        ·rw [if_pos ei,skip ⟨bnd_yes e13 ei,e⟩]
        ·rw [if_neg ei,go (fun h=>bnd_no1 e10 e11 ei hil htt h.1)]
       ·rw [if_neg e13,go (fun h=>bnd_no2 e10 e11 e13 h.1)]
    ·rw [if_neg (show ¬ x.f2.toList=s.toList from fun h=>e (toList_inj.1 h)),go (fun h=>e h.2)]
  have hcl:=cnt_le s _ x (Nat.le_refl _)
  have hcl2:cntX s x=(if x.f0=1∧x.f2=s then 1 else cntL s x.f0 x.f2 0 x.f4):=cntX_eq s x
  rw [nodesX_eq] at hcl
  have hk2:∃ m,k=m+1+1∧cfuel M n+x.f4.length < m:=⟨k - 2,by clear hcl2 key;omega,by clear hcl2 key;omega⟩
  obtain ⟨m,rfl,hm⟩:=hk2
  by_cases e:x.f0=1∧x.f2=s
  ·exact cnt_ref m x s e
  ·rw [if_neg e] at hcl2
   have h0:=key x.f4.length m 0 0 (Nat.zero_add _) hm (by rw [List.drop_zero];clear key;omega)
   have z0:((0:Nat):Int)=0:=rfl
   rw [List.drop_zero,Nat.zero_add,z0] at h0
   exact cnt_top m x s e h0
set_option maxHeartbeats 20000 in
theorem cntX_calls (s:ByteArray) (x:S31) (hn:nodesX x≤1000000000) (hok:OkX x) (v:Value) (w:World) (hv:Vw w x v) :
  Calls Tryz.prog 36 #[v,.string s] w fun e w'=>e=.returned (.int .i64 (cntX s x:Int))∧Below w.heap.size w w':=by
 obtain ⟨A,c,rfl,hc1,hc2⟩:=hv.out
 exact metewandlaw13_count.calls _ x.f0 x.f1.f0 x.f1.f1 x.f2 x.f3 A c x.f4 s _ w hc2 hc1 (count_f s 1000000000 (Nat.le_refl _) _ x (Nat.le_refl _) hn hok _ (Nat.le_refl _))
end Go.Proofs.YtjaobihcdkjmbaaGreatDoor
end
