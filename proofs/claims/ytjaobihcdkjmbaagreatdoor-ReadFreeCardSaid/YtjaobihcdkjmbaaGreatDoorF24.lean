/- The law ReadFree answers true for every argument; a part of its proof. -/
import Derived.Deep.RegionHeldLaw
import Derived.Deep.DeepCutAuto
import Derived.Test.YtjaobihcdkjmbaaGreatDoorF3
import Derived.Test.YtjaobihcdkjmbaaGreatDoorF9
import Derived.Test.YtjaobihcdkjmbaaGreatDoorF23
set_option linter.unusedVariables false
set_option linter.unusedSimpArgs false
section
namespace Go.Proofs.YtjaobihcdkjmbaaGreatDoor.PReadTokens
open Go.RowKit Go.Proofs.YtjaobihcdkjmbaaGreatDoorW.PrintWords Go.Proofs.YtjaobihcdkjmbaaGreatDoorW.PrintLast Go.Proofs.YtjaobihcdkjmbaaGreatDoorW.PrintMore
attribute [local go_sem] max2_int min2_int max_two min_two max_three min_three max_four min_four   -- for this text's walks alone
set_option linter.unusedVariables false
set_option linter.unusedSimpArgs false
def metewandref01_OfInt.f:Nat→Int→Option (ByteArray)
 | 0,_=>none
 | k+1,a0=>if a0 < 0 then ((metewandref01_OfInt.f k (wrap64 (-a0))).bind fun t359=>(if 1+t359.size≤9223372036854775807 then (some ((⟨#[45]⟩:ByteArray)++t359)) else (none))) else (if a0 < 10 then (some (strOfNums (([(wrap64 (48+a0)) % 256]:List Int)))) else ((metewandref01_OfInt.f k (wrap64 (Int.tdiv a0 10))).bind fun t363=>((some (([(wrap64 (48+(Int.tmod a0 10))) % 256]:List Int):List Int)).bind fun y364=>(if t363.size+(strOfNums y364).size≤9223372036854775807 then (some (t363++(strOfNums y364))) else (none)))))
theorem metewandref01_OfInt.mono_l:∀ k,(∀ y0,LeO (metewandref01_OfInt.f k y0) (metewandref01_OfInt.f (k+1) y0))
 | 0=>fun _ r h=>by simp [metewandref01_OfInt.f] at h
 | k+1=>by
  have ih0:=metewandref01_OfInt.mono_l k
  ·intro y0
   unfold metewandref01_OfInt.f
   repeat' first
   | (with_reducible exact ih0 _)
   | (with_reducible exact LeO.refl _)
   | (with_reducible exact LeO.none _)
   | (with_reducible refine LeO.ite ?_ ?_)
   | (with_reducible refine LeO.bind ?_ (fun _=>?_))
   | exact ih0 _
   | exact LeO.none _
   | refine LeO.ite ?_ ?_
   | refine LeO.bind ?_ (fun _=>?_)
theorem metewandref01_OfInt.mono:∀ a0 k,LeO (metewandref01_OfInt.f k a0) (metewandref01_OfInt.f (k+1) a0):=by
 intro a0 k
 have ih0:=metewandref01_OfInt.mono_l k
 exact ih0 a0
def metewandref01_OfInt.T5:Bool × List (List Nat × List Nat):=(true,[([],[]),([0],[0]),([1],[1]),([],[]),([3],[3]),([4],[4]),([5],[5]),([6],[6]),([7],[7]),([2,8],[2,8]),([9,2,0,1,2,3,4,5,6,7,8,9],[9])])
def metewandref01_OfInt.B5:List Nat:=[0,1,3,0,8,24,56,120,248,511,1023]
theorem metewandref01_OfInt.tab5:rtab .any (opsOf Tryz.f84 5)=metewandref01_OfInt.T5:=by kernel_rfl
theorem metewandref01_OfInt.bits5:waitsOk metewandref01_OfInt.T5.2 metewandref01_OfInt.B5=true:=by kernel_rfl
set_option maxHeartbeats 8000000 in
set_option maxRecDepth 100000 in
theorem metewandref01_OfInt.calls (k:Nat):∀ (a0:Int) (r:ByteArray) (w:World) (h:metewandref01_OfInt.f k a0=some r),
  Calls Tryz.prog 84 #[.int .i64 a0] w fun e w'=>e=.returned (.string r)∧Below w.heap.size w w':=by
 induction k using Nat.strongRecOn with
 | _ k ih =>
 intro a0 r w h
 cases k with
 | zero=>exact absurd h (by simp [metewandref01_OfInt.f])
 | succ k =>
 simp only [metewandref01_OfInt.f] at h
 have HB:=Aside0.mk (Below.refl w.heap.size w)
 have H:(if a0 < 0 then ((metewandref01_OfInt.f k (wrap64 (-a0))).bind fun t359=>(if 1+t359.size≤9223372036854775807 then (some ((⟨#[45]⟩:ByteArray)++t359)) else (none))) else (if a0 < 10 then (some (strOfNums (([(wrap64 (48+a0)) % 256]:List Int)))) else ((metewandref01_OfInt.f k (wrap64 (Int.tdiv a0 10))).bind fun t363=>((some (([(wrap64 (48+(Int.tmod a0 10))) % 256]:List Int):List Int)).bind fun y364=>(if t363.size+(strOfNums y364).size≤9223372036854775807 then (some (t363++(strOfNums y364))) else (none))))))=some r:=h
 clear h
 by_cases c2:a0 < 0
 ·rw [if_pos c2] at H
  have c2b0:decide (a0 < 0)=true:=decide_eq_true c2
  clear c2
  replace H:=Option.bind_eq_some_iff.mp H
  obtain ⟨t359,A30,H⟩:=H
  replace H:(if 1+t359.size≤9223372036854775807 then (some ((⟨#[45]⟩:ByteArray)++t359)) else (none))=some r:=H
  have A3:=Aside0.mk A30
  clear A30
  by_cases c4:1+t359.size≤9223372036854775807
  ·rw [if_pos c4] at H
   have c4b0:=eq_true c4
   have c4b1:decide (1+t359.size≤9223372036854775807)=true:=decide_eq_true c4
   try have c4b2:(9223372036854775807 < 1+t359.size)=False:=eq_false (Nat.not_lt.2 c4)
   obtain rfl:=Option.some.inj H
   go_enter Tryz.func84,Tryz.ntmps84
   go_wp2_with (first | ((with_reducible refine gate_callee (f:=84) rfl ?_);refine goesL_ (some 7) rfl rfl Tryz.func84 (by kernel_rfl) rfl #[.int .i64 (wrap64 (-a0))] rfl (by (try simp only [List.map_toArray,List.map_cons,List.map_nil]);first | done | rfl | (simp only [List.length_drop,List.length_take];rfl)) ?_;(with_reducible refine (ih k (by omega) (wrap64 (-a0)) t359 _ A3.out).mono ?_);rintro e w5 ⟨rfl,hb⟩;refine ⟨_,rfl,?_⟩;have n0_:=Aside0.mk (below_step (by repeat (first | (with_reducible first | exact HB.out | apply below_alloc | apply pw_below_drewN | apply below_drew1) | exact HB.out)) hb);clear HB;have HB:=n0_;clear n0_;(try clear hb);(try clear hb2);(try clear hk);(try clear hi)))
   go_ret
   exact ⟨by first | rfl | (simp [errW_none,errW_some] <;> rfl) | (simp [*,errW_none,errW_some] <;> rfl),by repeat (first | (with_reducible first | exact HB.out | apply below_alloc | apply pw_below_drewN | apply below_drew1) | exact HB.out)⟩
  ·rw [if_neg c4] at H
   exact absurd H (by simp)
 ·rw [if_neg c2] at H
  have c2b0:decide (a0 < 0)=false:=decide_eq_false c2
  clear c2
  by_cases c6:a0 < 10
  ·rw [if_pos c6] at H
   have c6b0:decide (a0 < 10)=true:=decide_eq_true c6
   clear c6
   obtain ⟨y360,hy360⟩:∃ y_:List Int,y_=(([(wrap64 (48+a0)) % 256]:List Int)):=⟨_,rfl⟩
   replace H:(some (strOfNums y360))=some r:=by first | (rw [hy360];with_reducible exact H) | (have H2_:=(Option.bind_some _ _).symm.trans H;rw [hy360];with_reducible exact H2_) | (have H2_:=(Option.bind_some _ _).symm.trans H;with_reducible exact H2_) | with_reducible exact H | (rw [hy360];exact H) | exact H
   have Ny360:=Aside0.mk hy360
   clear hy360
   obtain rfl:=Option.some.inj H
   go_enter Tryz.func84,Tryz.ntmps84
   go_wp2_with (first | ((with_reducible refine gate_dst (N:=14) rfl ?_);refine Kd.R_lit (Kd.int .u8) _ 5 ?hg (N:=14) ?hd (xs:=([(wrap64 (48+a0)) % 256]:List Int)) (inner:=[.int .u8 ((wrap64 (48+a0)) % 256)]) (ok:=fun _=>True) (okp:=fun _=>True) ?hr ?hp (fun _ hk=>hk) trivial (Below.refl _ _) (Nat.le_refl _) (by simp) ?_;(case hd=>rfl);(case hg=>rfl);(case hr=>first | (go_simp;done) | (go_simp;rfl));(case hp=>exact (Reps.one (show Kd.M (Kd.int .u8) _ _ _ ((wrap64 (48+a0)) % 256) [.int .u8 ((wrap64 (48+a0)) % 256)] from rfl) (Reps.none _ _)));intro v361 w7 ho8 hb hg_ hnew_;clear hg_ hnew_;(first | rw [← Ny360.out] at ho8 | (simp only [Int.reduceToNat] at ho8;rw [← Ny360.out] at ho8));have n0_:=Aside0.mk (Kd.R_lower ho8 (below_size (by repeat (first | (with_reducible first | exact HB.out | apply below_alloc | apply pw_below_drewN | apply below_drew1) | exact HB.out))));have n1_:=Aside0.mk (below_step (by repeat (first | (with_reducible first | exact HB.out | apply below_alloc | apply pw_below_drewN | apply below_drew1) | exact HB.out)) hb);clear HB;have HO362:=n0_;have HB:=n1_;clear n0_ n1_;clear hb ho8;have hcv9:=own_string (P:=Tryz.prog) Tryz.underlying84 Tryz.underlying5 Tryz.underlying9 (Kd.own_of_R HO362.out)))
   go_ret
   exact ⟨by first | rfl | (simp [errW_none,errW_some] <;> rfl) | (simp [*,errW_none,errW_some] <;> rfl),by repeat (first | (with_reducible first | exact HB.out | apply below_alloc | apply pw_below_drewN | apply below_drew1) | exact HB.out)⟩
  ·rw [if_neg c6] at H
   have c6b0:decide (a0 < 10)=false:=decide_eq_false c6
   clear c6
   replace H:=Option.bind_eq_some_iff.mp H
   obtain ⟨t363,A100,H⟩:=H
   replace H:((some (([(wrap64 (48+(Int.tmod a0 10))) % 256]:List Int):List Int)).bind fun y364=>(if t363.size+(strOfNums y364).size≤9223372036854775807 then (some (t363++(strOfNums y364))) else (none)))=some r:=H
   have A10:=Aside0.mk A100
   clear A100
   obtain ⟨y364,hy364⟩:∃ y_:List Int,y_=(([(wrap64 (48+(Int.tmod a0 10))) % 256]:List Int)):=⟨_,rfl⟩
   replace H:(if t363.size+(strOfNums y364).size≤9223372036854775807 then (some (t363++(strOfNums y364))) else (none))=some r:=by first | (rw [hy364];with_reducible exact H) | (have H2_:=(Option.bind_some _ _).symm.trans H;rw [hy364];with_reducible exact H2_) | (have H2_:=(Option.bind_some _ _).symm.trans H;with_reducible exact H2_) | with_reducible exact H | (rw [hy364];exact H) | exact H
   have Ny364:=Aside0.mk hy364
   clear hy364
   by_cases c11:t363.size+(strOfNums y364).size≤9223372036854775807
   ·rw [if_pos c11] at H
    have c11b0:=eq_true c11
    have c11b1:decide (t363.size+(strOfNums y364).size≤9223372036854775807)=true:=decide_eq_true c11
    try have c11b2:(9223372036854775807 < t363.size+(strOfNums y364).size)=False:=eq_false (Nat.not_lt.2 c11)
    obtain rfl:=Option.some.inj H
    go_enter Tryz.func84,Tryz.ntmps84
    try go_wp2
    have n0_:=Aside0.mk (below_drew1 HB.out)
    clear HB
    have HB:=n0_
    clear n0_
    refine start_ (n:=11) (S:=fun w'=>True) (ds:=[]) #[false,false,false,false,false,false,false,false,false,false,false] (by kernel_rfl) rfl rfl trivial (fun hHeld=>?_);refine with_tabW metewandref01_OfInt.tab5 metewandref01_OfInt.bits5 (fun HT_ HW_=>?_)
    generalize w.drew=w12 at HB hHeld ⊢
    refine pure_ (i:=0) (N:=some 16) (v:=?_) (a':=?_) #[true,false,false,false,false,false,false,false,false,false,false] rfl rfl (any_of HT_.out (by kernel_rfl)) (fun _ _ _ h=>h) (Or.inl ⟨by rfl,?_⟩) ?_ ?_
    rotate_left
    ·intro w'
     go_simp
     with_reducible rfl
    rotate_left
    ·simp only [Act.put,List.setIfInBounds_toArray,List.set_cons_zero,List.set_cons_succ,i64_w,i32_w]
     rfl
    refine pure_ (i:=1) (N:=some 17) (v:=?_) (a':=?_) #[true,true,false,false,false,false,false,false,false,false,false] rfl rfl (any_of HT_.out (by kernel_rfl)) (fun _ _ _ h=>h) (Or.inl ⟨by rfl,?_⟩) ?_ ?_
    rotate_left
    ·intro w'
     go_simp
     with_reducible rfl
    rotate_left
    ·simp only [Act.put,List.setIfInBounds_toArray,List.set_cons_zero,List.set_cons_succ,i64_w,i32_w]
     rfl
    refine pure_ (i:=3) (N:=some 19) (v:=?_) (a':=?_) #[true,true,false,true,false,false,false,false,false,false,false] rfl rfl (any_of HT_.out (by kernel_rfl)) (fun _ _ _ h=>h) (Or.inl ⟨by rfl,?_⟩) ?_ ?_
    rotate_left
    ·intro w'
     go_simp
     with_reducible rfl
    rotate_left
    ·simp only [Act.put,List.setIfInBounds_toArray,List.set_cons_zero,List.set_cons_succ,i64_w,i32_w]
     rfl
    refine pure_ (i:=4) (N:=some 20) (v:=?_) (a':=?_) #[true,true,false,true,true,false,false,false,false,false,false] rfl rfl (any_of HT_.out (by kernel_rfl)) (fun _ _ _ h=>h) (Or.inl ⟨by rfl,?_⟩) ?_ ?_
    rotate_left
    ·intro w'
     go_simp
     with_reducible rfl
    rotate_left
    ·simp only [Act.put,List.setIfInBounds_toArray,List.set_cons_zero,List.set_cons_succ,i64_w,i32_w]
     rfl
    refine pure_ (i:=5) (N:=some 21) (v:=?_) (a':=?_) #[true,true,false,true,true,true,false,false,false,false,false] rfl rfl (any_of HT_.out (by kernel_rfl)) (fun _ _ _ h=>h) (Or.inl ⟨by rfl,?_⟩) ?_ ?_
    rotate_left
    ·intro w'
     go_simp
     with_reducible rfl
    rotate_left
    ·simp only [Act.put,List.setIfInBounds_toArray,List.set_cons_zero,List.set_cons_succ,i64_w,i32_w]
     rfl
    refine pure_ (i:=6) (N:=some 22) (v:=?_) (a':=?_) #[true,true,false,true,true,true,true,false,false,false,false] rfl rfl (any_of HT_.out (by kernel_rfl)) (fun _ _ _ h=>h) (Or.inl ⟨by rfl,?_⟩) ?_ ?_
    rotate_left
    ·intro w'
     go_simp
     with_reducible rfl
    rotate_left
    ·simp only [Act.put,List.setIfInBounds_toArray,List.set_cons_zero,List.set_cons_succ,i64_w,i32_w]
     rfl
    refine join_ (σ:=Value) 2 #[true,true,true,true,true,true,true,true,true,false,false] (fun s_=>[(18,.string t363),(23,s_),(24,.string (strOfNums y364))]) (fun s_ w'=>(Kd.R (Kd.int .u8) 5 w' w.heap.size (fun _=>True) s_ y364)∧(Below w.heap.size w w')) ?_ ?_
    rotate_left
    ·intro hCont
     refine two_ (i:=2) (j:=7) (Ni:=some 18) (Nj:=some 23) #[true,true,true,true,true,true,true,false,false,false,false] #[true,true,false,true,true,true,true,true,false,false,false] rfl rfl rfl rfl (two_of HT_.out (by kernel_rfl)) (by decide) (by decide) (fun K hK=>?_) (fun K hK=>?_)
     ·skip
      refine goes_ Tryz.func84 (by kernel_rfl) rfl #[.int .i64 (wrap64 (Int.tdiv a0 10))] (by rfl) rfl rfl (by (try simp only [List.map_toArray,List.map_cons,List.map_nil]);first | done | rfl | (simp only [List.length_drop,List.length_take];rfl)) ?_
      with_reducible refine (ih k (by omega) (wrap64 (Int.tdiv a0 10)) t363 _ A10.out).mono ?_
      rintro e w13 ⟨rfl,hb⟩
      refine ⟨_,rfl,?_⟩
      have n0_:=Aside0.mk (below_step (by repeat (first | (with_reducible first | exact HB.out | apply below_alloc | apply pw_below_drewN | apply below_drew1) | exact HB.out)) hb)
      clear HB
      have HB:=n0_
      clear n0_
      (try clear hb)
      (try clear hb2)
      (try clear hk)
      (try clear hi)
      refine hK.out _ _ trivial (fun hHeld=>?_)
      clear hK K
      refine norm_ (a':=?_) ?_ ?_
      rotate_left
      ·show Act.put _ (some 18) _=_
       simp only [Act.put,List.setIfInBounds_toArray,List.set_cons_zero,List.set_cons_succ,i64_w,i32_w]
       rfl
      refine one_ (i:=7) (N:=some 23) #[true,true,true,true,true,true,true,true,false,false,false] rfl rfl (one_of HT_.out (by kernel_rfl)) (by decide) (fun K hK=>?_)
      refine Kd.R_lit_step (Kd.int .u8) _ 5 ?hg (N:=23) ?hd (xs:=([(wrap64 (48+(Int.tmod a0 10))) % 256]:List Int)) (inner:=[.int .u8 ((wrap64 (48+(Int.tmod a0 10))) % 256)]) (ok:=fun _=>True) (okp:=fun _=>True) ?hr ?hp (fun _ hk=>hk) trivial (Below.refl _ _) (Nat.le_refl _) (by simp) ?_;(case hd=>rfl);(case hg=>rfl);(case hr=>first | (go_simp;done) | (go_simp;rfl));(case hp=>exact (Reps.one (show Kd.M (Kd.int .u8) _ _ _ ((wrap64 (48+(Int.tmod a0 10))) % 256) [.int .u8 ((wrap64 (48+(Int.tmod a0 10))) % 256)] from rfl) (Reps.none _ _)))
      intro v365 w14 ho15 hb hg_ hnew_
      clear hg_ hnew_
      (first | rw [← Ny364.out] at ho15 | (simp only [Int.reduceToNat] at ho15;rw [← Ny364.out] at ho15))
      have n0_:=Aside0.mk (Kd.R_lower ho15 (below_size (by repeat (first | (with_reducible first | exact HB.out | apply below_alloc | apply pw_below_drewN | apply below_drew1) | exact HB.out))))
      have n1_:=Aside0.mk (below_step (by repeat (first | (with_reducible first | exact HB.out | apply below_alloc | apply pw_below_drewN | apply below_drew1) | exact HB.out)) hb)
      clear HB
      have HO366:=n0_
      have HB:=n1_
      clear n0_ n1_
      clear hb ho15
      refine hK.out _ _ trivial (fun hHeld=>?_)
      clear hK K
      refine norm_ (a':=?_) ?_ ?_
      rotate_left
      ·show Act.put _ (some 23) _=_
       simp only [Act.put,List.setIfInBounds_toArray,List.set_cons_zero,List.set_cons_succ,i64_w,i32_w]
       rfl
      refine one_ (i:=8) (N:=some 24) #[true,true,true,true,true,true,true,true,true,false,false] rfl rfl (one_of HT_.out (by kernel_rfl)) (by decide) (fun K hK=>?_)
      have hcv16:=own_string (P:=Tryz.prog) Tryz.underlying84 Tryz.underlying5 Tryz.underlying9 (Kd.own_of_R HO366.out)
      refine value_ (w1:=?_) (v:=?_) (by rfl) rfl ?_ ?_
      rotate_left 2
      ·go_simp
       constructor
       ·rfl
       ·rfl
      clear hcv16
      refine hK.out _ _ trivial (fun hHeld=>?_)
      clear hK K
      refine norm_ (a':=?_) ?_ ?_
      rotate_left
      ·show Act.put _ (some 24) _=_
       simp only [Act.put,List.setIfInBounds_toArray,List.set_cons_zero,List.set_cons_succ,i64_w,i32_w]
       rfl
      exact norm_ (by simp only [putAll,Act.put,List.setIfInBounds_toArray,List.set_cons_zero,List.set_cons_succ]) (hCont (v365) _ ⟨(by (with_reducible repeat (first | apply Kd.R_alloc | apply Kd.R_drewN | apply Kd.R_drew));exact HO366.out),(by repeat (first | (with_reducible first | exact HB.out | apply below_alloc | apply pw_below_drewN | apply below_drew1) | exact HB.out))⟩)
     ·skip
      refine Kd.R_lit_step (Kd.int .u8) _ 5 ?hg (N:=23) ?hd (xs:=([(wrap64 (48+(Int.tmod a0 10))) % 256]:List Int)) (inner:=[.int .u8 ((wrap64 (48+(Int.tmod a0 10))) % 256)]) (ok:=fun _=>True) (okp:=fun _=>True) ?hr ?hp (fun _ hk=>hk) trivial (Below.refl _ _) (Nat.le_refl _) (by simp) ?_;(case hd=>rfl);(case hg=>rfl);(case hr=>first | (go_simp;done) | (go_simp;rfl));(case hp=>exact (Reps.one (show Kd.M (Kd.int .u8) _ _ _ ((wrap64 (48+(Int.tmod a0 10))) % 256) [.int .u8 ((wrap64 (48+(Int.tmod a0 10))) % 256)] from rfl) (Reps.none _ _)))
      intro v365 w13 ho14 hb hg_ hnew_
      clear hg_ hnew_
      (first | rw [← Ny364.out] at ho14 | (simp only [Int.reduceToNat] at ho14;rw [← Ny364.out] at ho14))
      have n0_:=Aside0.mk (Kd.R_lower ho14 (below_size (by repeat (first | (with_reducible first | exact HB.out | apply below_alloc | apply pw_below_drewN | apply below_drew1) | exact HB.out))))
      have n1_:=Aside0.mk (below_step (by repeat (first | (with_reducible first | exact HB.out | apply below_alloc | apply pw_below_drewN | apply below_drew1) | exact HB.out)) hb)
      clear HB
      have HO366:=n0_
      have HB:=n1_
      clear n0_ n1_
      clear hb ho14
      refine hK.out _ _ trivial (fun hHeld=>?_)
      clear hK K
      refine norm_ (a':=?_) ?_ ?_
      rotate_left
      ·show Act.put _ (some 23) _=_
       simp only [Act.put,List.setIfInBounds_toArray,List.set_cons_zero,List.set_cons_succ,i64_w,i32_w]
       rfl
      refine two_ (i:=2) (j:=8) (Ni:=some 18) (Nj:=some 24) #[true,true,true,true,true,true,true,true,false,false,false] #[true,true,false,true,true,true,true,true,true,false,false] rfl rfl rfl rfl (two_of HT_.out (by kernel_rfl)) (by decide) (by decide) (fun K hK=>?_) (fun K hK=>?_)
      ·skip
       refine goes_ Tryz.func84 (by kernel_rfl) rfl #[.int .i64 (wrap64 (Int.tdiv a0 10))] (by rfl) rfl rfl (by (try simp only [List.map_toArray,List.map_cons,List.map_nil]);first | done | rfl | (simp only [List.length_drop,List.length_take];rfl)) ?_
       with_reducible refine (ih k (by omega) (wrap64 (Int.tdiv a0 10)) t363 _ A10.out).mono ?_
       rintro e w15 ⟨rfl,hb⟩
       refine ⟨_,rfl,?_⟩
       have n0_:=Aside0.mk (Kd.R_below (by (with_reducible repeat (first | apply Kd.R_alloc | apply Kd.R_drewN | apply Kd.R_drew));exact HO366.out) hb)
       have n1_:=Aside0.mk (below_step (by repeat (first | (with_reducible first | exact HB.out | apply below_alloc | apply pw_below_drewN | apply below_drew1) | exact HB.out)) hb)
       clear HO366
       clear HB
       have HO366:=n0_
       have HB:=n1_
       clear n0_ n1_
       (try clear hb)
       (try clear hb2)
       (try clear hk)
       (try clear hi)
       refine hK.out _ _ trivial (fun hHeld=>?_)
       clear hK K
       refine norm_ (a':=?_) ?_ ?_
       rotate_left
       ·show Act.put _ (some 18) _=_
        simp only [Act.put,List.setIfInBounds_toArray,List.set_cons_zero,List.set_cons_succ,i64_w,i32_w]
        rfl
       refine one_ (i:=8) (N:=some 24) #[true,true,true,true,true,true,true,true,true,false,false] rfl rfl (one_of HT_.out (by kernel_rfl)) (by decide) (fun K hK=>?_)
       have hcv16:=own_string (P:=Tryz.prog) Tryz.underlying84 Tryz.underlying5 Tryz.underlying9 (Kd.own_of_R HO366.out)
       refine value_ (w1:=?_) (v:=?_) (by rfl) rfl ?_ ?_
       rotate_left 2
       ·go_simp
        constructor
        ·rfl
        ·rfl
       clear hcv16
       refine hK.out _ _ trivial (fun hHeld=>?_)
       clear hK K
       refine norm_ (a':=?_) ?_ ?_
       rotate_left
       ·show Act.put _ (some 24) _=_
        simp only [Act.put,List.setIfInBounds_toArray,List.set_cons_zero,List.set_cons_succ,i64_w,i32_w]
        rfl
       exact norm_ (by simp only [putAll,Act.put,List.setIfInBounds_toArray,List.set_cons_zero,List.set_cons_succ]) (hCont (v365) _ ⟨(by (with_reducible repeat (first | apply Kd.R_alloc | apply Kd.R_drewN | apply Kd.R_drew));exact HO366.out),(by repeat (first | (with_reducible first | exact HB.out | apply below_alloc | apply pw_below_drewN | apply below_drew1) | exact HB.out))⟩)
      ·skip
       have hcv15:=own_string (P:=Tryz.prog) Tryz.underlying84 Tryz.underlying5 Tryz.underlying9 (Kd.own_of_R HO366.out)
       refine value_ (w1:=?_) (v:=?_) (by rfl) rfl ?_ ?_
       rotate_left 2
       ·go_simp
        constructor
        ·rfl
        ·rfl
       clear hcv15
       refine hK.out _ _ trivial (fun hHeld=>?_)
       clear hK K
       refine norm_ (a':=?_) ?_ ?_
       rotate_left
       ·show Act.put _ (some 24) _=_
        simp only [Act.put,List.setIfInBounds_toArray,List.set_cons_zero,List.set_cons_succ,i64_w,i32_w]
        rfl
       refine one_ (i:=2) (N:=some 18) #[true,true,true,true,true,true,true,true,true,false,false] rfl rfl (one_of HT_.out (by kernel_rfl)) (by decide) (fun K hK=>?_)
       refine goes_ Tryz.func84 (by kernel_rfl) rfl #[.int .i64 (wrap64 (Int.tdiv a0 10))] (by rfl) rfl rfl (by (try simp only [List.map_toArray,List.map_cons,List.map_nil]);first | done | rfl | (simp only [List.length_drop,List.length_take];rfl)) ?_
       with_reducible refine (ih k (by omega) (wrap64 (Int.tdiv a0 10)) t363 _ A10.out).mono ?_
       rintro e w16 ⟨rfl,hb⟩
       refine ⟨_,rfl,?_⟩
       have n0_:=Aside0.mk (Kd.R_below (by (with_reducible repeat (first | apply Kd.R_alloc | apply Kd.R_drewN | apply Kd.R_drew));exact HO366.out) hb)
       have n1_:=Aside0.mk (below_step (by repeat (first | (with_reducible first | exact HB.out | apply below_alloc | apply pw_below_drewN | apply below_drew1) | exact HB.out)) hb)
       clear HO366
       clear HB
       have HO366:=n0_
       have HB:=n1_
       clear n0_ n1_
       (try clear hb)
       (try clear hb2)
       (try clear hk)
       (try clear hi)
       refine hK.out _ _ trivial (fun hHeld=>?_)
       clear hK K
       refine norm_ (a':=?_) ?_ ?_
       rotate_left
       ·show Act.put _ (some 18) _=_
        simp only [Act.put,List.setIfInBounds_toArray,List.set_cons_zero,List.set_cons_succ,i64_w,i32_w]
        rfl
       exact norm_ (by simp only [putAll,Act.put,List.setIfInBounds_toArray,List.set_cons_zero,List.set_cons_succ]) (hCont (v365) _ ⟨(by (with_reducible repeat (first | apply Kd.R_alloc | apply Kd.R_drewN | apply Kd.R_drew));exact HO366.out),(by repeat (first | (with_reducible first | exact HB.out | apply below_alloc | apply pw_below_drewN | apply below_drew1) | exact HB.out))⟩)
    rintro v365 w17 ⟨h0_,h1_⟩
    have n0_:Aside0 (Kd.R (Kd.int .u8) 5 w17 w.heap.size (fun _=>True) v365 y364):=⟨h0_⟩
    have n1_:Aside0 (Below w.heap.size w w17):=⟨h1_⟩
    clear HB
    clear h0_ h1_
    have HO366:=n0_
    have HB:=n1_
    clear n0_ n1_
    have hHeld:=trivial
    refine norm_ (a':=?_) ?_ ?_
    rotate_left
    ·simp only [putAll,Act.put,List.setIfInBounds_toArray,List.set_cons_zero,List.set_cons_succ]
     rfl
    refine pure_ (i:=9) (N:=some 25) (v:=?_) (a':=?_) #[true,true,true,true,true,true,true,true,true,true,false] rfl rfl (any_of HT_.out (by kernel_rfl)) (fun _ _ _ h=>h) (Or.inl ⟨by rfl,?_⟩) ?_ ?_
    rotate_left
    ·intro w'
     go_simp
     with_reducible rfl
    rotate_left
    ·simp only [Act.put,List.setIfInBounds_toArray,List.set_cons_zero,List.set_cons_succ,i64_w,i32_w]
     rfl
    refine pure_ (i:=10) (N:=some 2) (v:=?_) (a':=?_) #[true,true,true,true,true,true,true,true,true,true,true] rfl rfl (any_of HT_.out (by kernel_rfl)) (fun _ _ _ h=>h) (Or.inl ⟨by rfl,?_⟩) ?_ ?_
    rotate_left
    ·intro w'
     go_simp
     with_reducible rfl
    rotate_left
    ·simp only [Act.put,List.setIfInBounds_toArray,List.set_cons_zero,List.set_cons_succ,i64_w,i32_w]
     rfl
    refine done_ (done_of HT_.out (by kernel_rfl)) ?_
    try go_wp2
    go_ret
    exact ⟨by first | rfl | (simp [errW_none,errW_some] <;> rfl) | (simp [*,errW_none,errW_some] <;> rfl),by repeat (first | (with_reducible first | exact HB.out | apply below_alloc | apply pw_below_drewN | apply below_drew1) | exact HB.out)⟩
   ·rw [if_neg c11] at H
    exact absurd H (by simp)
def metewandkit_RefOf.f (a0:ByteArray):Option (Int × ByteArray × ByteArray × ByteArray × Int × (List (S31))):=some (1,(⟨#[]⟩:ByteArray),(⟨#[]⟩:ByteArray),a0,0,([]:List (S31)))
def metewandkit_Digit.f (a0:Int):Option (ByteArray):=some (strOfNums (([(wrap64 (48+(Int.tmod a0 10))) % 256]:List Int)))
set_option maxHeartbeats 8000000 in
set_option maxRecDepth 100000 in
theorem metewandkit_Digit.calls (a0:Int) (r:ByteArray) (w:World) (h:metewandkit_Digit.f a0=some r) :
  Calls Tryz.prog 121 #[.int .i64 a0] w fun e w'=>e=.returned (.string r)∧Below w.heap.size w w':=by
 have HB:=Aside0.mk (Below.refl w.heap.size w)
 have H:(some (strOfNums (([(wrap64 (48+(Int.tmod a0 10))) % 256]:List Int))))=some r:=h
 clear h
 obtain ⟨y376,hy376⟩:∃ y_:List Int,y_=(([(wrap64 (48+(Int.tmod a0 10))) % 256]:List Int)):=⟨_,rfl⟩
 replace H:(some (strOfNums y376))=some r:=by first | (rw [hy376];with_reducible exact H) | (have H2_:=(Option.bind_some _ _).symm.trans H;rw [hy376];with_reducible exact H2_) | (have H2_:=(Option.bind_some _ _).symm.trans H;with_reducible exact H2_) | with_reducible exact H | (rw [hy376];exact H) | exact H
 have Ny376:=Aside0.mk hy376
 clear hy376
 obtain rfl:=Option.some.inj H
 go_enter Tryz.func121,Tryz.ntmps121
 go_wp2_with (first | ((with_reducible refine gate_dst (N:=7) rfl ?_);refine Kd.R_lit (Kd.int .u8) _ 5 ?hg (N:=7) ?hd (xs:=([(wrap64 (48+(Int.tmod a0 10))) % 256]:List Int)) (inner:=[.int .u8 ((wrap64 (48+(Int.tmod a0 10))) % 256)]) (ok:=fun _=>True) (okp:=fun _=>True) ?hr ?hp (fun _ hk=>hk) trivial (Below.refl _ _) (Nat.le_refl _) (by simp) ?_;(case hd=>rfl);(case hg=>rfl);(case hr=>first | (go_simp;done) | (go_simp;rfl));(case hp=>exact (Reps.one (show Kd.M (Kd.int .u8) _ _ _ ((wrap64 (48+(Int.tmod a0 10))) % 256) [.int .u8 ((wrap64 (48+(Int.tmod a0 10))) % 256)] from rfl) (Reps.none _ _)));intro v377 w2 ho3 hb hg_ hnew_;clear hg_ hnew_;(first | rw [← Ny376.out] at ho3 | (simp only [Int.reduceToNat] at ho3;rw [← Ny376.out] at ho3));have n0_:=Aside0.mk (Kd.R_lower ho3 (below_size (by repeat (first | (with_reducible first | exact HB.out | apply below_alloc | apply pw_below_drewN | apply below_drew1) | exact HB.out))));have n1_:=Aside0.mk (below_step (by repeat (first | (with_reducible first | exact HB.out | apply below_alloc | apply pw_below_drewN | apply below_drew1) | exact HB.out)) hb);clear HB;have HO378:=n0_;have HB:=n1_;clear n0_ n1_;clear hb ho3;have hcv4:=own_string (P:=Tryz.prog) Tryz.underlying84 Tryz.underlying5 Tryz.underlying9 (Kd.own_of_R HO378.out)))
 go_ret
 exact ⟨by first | rfl | (simp [errW_none,errW_some] <;> rfl) | (simp [*,errW_none,errW_some] <;> rfl),by repeat (first | (with_reducible first | exact HB.out | apply below_alloc | apply pw_below_drewN | apply below_drew1) | exact HB.out)⟩
def metewandkit_Decimal.f:Nat→Int→Option (ByteArray)
 | 0,_=>none
 | k+1,a0=>if a0 < 0 then ((metewandkit_Decimal.f k (wrap64 (-a0))).bind fun t379=>(if 1+t379.size≤9223372036854775807 then (some ((⟨#[45]⟩:ByteArray)++t379)) else (none))) else (if a0 < 10 then ((metewandkit_Digit.f a0).bind fun t380=>(some t380)) else ((metewandkit_Decimal.f k (wrap64 (Int.tdiv a0 10))).bind fun t381=>((metewandkit_Digit.f (Int.tmod a0 10)).bind fun t382=>(if t381.size+t382.size≤9223372036854775807 then (some (t381++t382)) else (none)))))
theorem metewandkit_Decimal.mono_l:∀ k,(∀ y0,LeO (metewandkit_Decimal.f k y0) (metewandkit_Decimal.f (k+1) y0))
 | 0=>fun _ r h=>by simp [metewandkit_Decimal.f] at h
 | k+1=>by
  have ih0:=metewandkit_Decimal.mono_l k
  ·intro y0
   unfold metewandkit_Decimal.f
   repeat' first
   | (with_reducible exact ih0 _)
   | (with_reducible exact LeO.refl _)
   | (with_reducible exact LeO.none _)
   | (with_reducible refine LeO.ite ?_ ?_)
   | (with_reducible refine LeO.bind ?_ (fun _=>?_))
   | exact ih0 _
   | exact LeO.none _
   | refine LeO.ite ?_ ?_
   | refine LeO.bind ?_ (fun _=>?_)
theorem metewandkit_Decimal.mono:∀ a0 k,LeO (metewandkit_Decimal.f k a0) (metewandkit_Decimal.f (k+1) a0):=by
 intro a0 k
 have ih0:=metewandkit_Decimal.mono_l k
 exact ih0 a0
set_option maxHeartbeats 8000000 in
set_option maxRecDepth 100000 in
theorem metewandkit_Decimal.calls (k:Nat):∀ (a0:Int) (r:ByteArray) (w:World) (h:metewandkit_Decimal.f k a0=some r),
  Calls Tryz.prog 86 #[.int .i64 a0] w fun e w'=>e=.returned (.string r)∧Below w.heap.size w w':=by
 induction k using Nat.strongRecOn with
 | _ k ih =>
 intro a0 r w h
 cases k with
 | zero=>exact absurd h (by simp [metewandkit_Decimal.f])
 | succ k =>
 simp only [metewandkit_Decimal.f] at h
 have HB:=Aside0.mk (Below.refl w.heap.size w)
 have H:(if a0 < 0 then ((metewandkit_Decimal.f k (wrap64 (-a0))).bind fun t379=>(if 1+t379.size≤9223372036854775807 then (some ((⟨#[45]⟩:ByteArray)++t379)) else (none))) else (if a0 < 10 then ((metewandkit_Digit.f a0).bind fun t380=>(some t380)) else ((metewandkit_Decimal.f k (wrap64 (Int.tdiv a0 10))).bind fun t381=>((metewandkit_Digit.f (Int.tmod a0 10)).bind fun t382=>(if t381.size+t382.size≤9223372036854775807 then (some (t381++t382)) else (none))))))=some r:=h
 clear h
 by_cases c2:a0 < 0
 ·rw [if_pos c2] at H
  have c2b0:decide (a0 < 0)=true:=decide_eq_true c2
  clear c2
  replace H:=Option.bind_eq_some_iff.mp H
  obtain ⟨t379,A30,H⟩:=H
  replace H:(if 1+t379.size≤9223372036854775807 then (some ((⟨#[45]⟩:ByteArray)++t379)) else (none))=some r:=H
  have A3:=Aside0.mk A30
  clear A30
  by_cases c4:1+t379.size≤9223372036854775807
  ·rw [if_pos c4] at H
   have c4b0:=eq_true c4
   have c4b1:decide (1+t379.size≤9223372036854775807)=true:=decide_eq_true c4
   try have c4b2:(9223372036854775807 < 1+t379.size)=False:=eq_false (Nat.not_lt.2 c4)
   obtain rfl:=Option.some.inj H
   go_enter Tryz.func86,Tryz.ntmps86
   go_wp2_with (first | ((with_reducible refine gate_callee (f:=86) rfl ?_);refine goesL_ (some 7) rfl rfl Tryz.func86 (by kernel_rfl) rfl #[.int .i64 (wrap64 (-a0))] rfl (by (try simp only [List.map_toArray,List.map_cons,List.map_nil]);first | done | rfl | (simp only [List.length_drop,List.length_take];rfl)) ?_;(with_reducible refine (ih k (by omega) (wrap64 (-a0)) t379 _ A3.out).mono ?_);rintro e w5 ⟨rfl,hb⟩;refine ⟨_,rfl,?_⟩;have n0_:=Aside0.mk (below_step (by repeat (first | (with_reducible first | exact HB.out | apply below_alloc | apply pw_below_drewN | apply below_drew1) | exact HB.out)) hb);clear HB;have HB:=n0_;clear n0_;(try clear hb);(try clear hb2);(try clear hk);(try clear hi)))
   go_ret
   exact ⟨by first | rfl | (simp [errW_none,errW_some] <;> rfl) | (simp [*,errW_none,errW_some] <;> rfl),by repeat (first | (with_reducible first | exact HB.out | apply below_alloc | apply pw_below_drewN | apply below_drew1) | exact HB.out)⟩
  ·rw [if_neg c4] at H
   exact absurd H (by simp)
 ·rw [if_neg c2] at H
  have c2b0:decide (a0 < 0)=false:=decide_eq_false c2
  clear c2
  by_cases c6:a0 < 10
  ·rw [if_pos c6] at H
   have c6b0:decide (a0 < 10)=true:=decide_eq_true c6
   clear c6
   replace H:=Option.bind_eq_some_iff.mp H
   obtain ⟨t380,A70,H⟩:=H
   replace H:(some t380)=some r:=H
   have A7:=Aside0.mk A70
   clear A70
   obtain rfl:=Option.some.inj H
   go_enter Tryz.func86,Tryz.ntmps86
   go_wp2_with (first | ((with_reducible refine gate_callee (f:=121) rfl ?_);refine goesL_ (some 12) rfl rfl Tryz.func121 (by kernel_rfl) rfl #[.int .i64 a0] rfl (by (try simp only [List.map_toArray,List.map_cons,List.map_nil]);first | done | rfl | (simp only [List.length_drop,List.length_take];rfl)) ?_;(with_reducible refine (metewandkit_Digit.calls a0 t380 _ A7.out).mono ?_);rintro e w8 ⟨rfl,hb⟩;refine ⟨_,rfl,?_⟩;have n0_:=Aside0.mk (below_step (by repeat (first | (with_reducible first | exact HB.out | apply below_alloc | apply pw_below_drewN | apply below_drew1) | exact HB.out)) hb);clear HB;have HB:=n0_;clear n0_;(try clear hb);(try clear hb2);(try clear hk);(try clear hi)))
   go_ret
   exact ⟨by first | rfl | (simp [errW_none,errW_some] <;> rfl) | (simp [*,errW_none,errW_some] <;> rfl),by repeat (first | (with_reducible first | exact HB.out | apply below_alloc | apply pw_below_drewN | apply below_drew1) | exact HB.out)⟩
  ·rw [if_neg c6] at H
   have c6b0:decide (a0 < 10)=false:=decide_eq_false c6
   clear c6
   replace H:=Option.bind_eq_some_iff.mp H
   obtain ⟨t381,A90,H⟩:=H
   replace H:((metewandkit_Digit.f (Int.tmod a0 10)).bind fun t382=>(if t381.size+t382.size≤9223372036854775807 then (some (t381++t382)) else (none)))=some r:=H
   have A9:=Aside0.mk A90
   clear A90
   replace H:=Option.bind_eq_some_iff.mp H
   obtain ⟨t382,A100,H⟩:=H
   replace H:(if t381.size+t382.size≤9223372036854775807 then (some (t381++t382)) else (none))=some r:=H
   have A10:=Aside0.mk A100
   clear A100
   by_cases c11:t381.size+t382.size≤9223372036854775807
   ·rw [if_pos c11] at H
    have c11b0:=eq_true c11
    have c11b1:decide (t381.size+t382.size≤9223372036854775807)=true:=decide_eq_true c11
    try have c11b2:(9223372036854775807 < t381.size+t382.size)=False:=eq_false (Nat.not_lt.2 c11)
    obtain rfl:=Option.some.inj H
    go_enter Tryz.func86,Tryz.ntmps86
    go_wp2_with (first | ((with_reducible refine gate_callee (f:=86) rfl ?_);refine goesL_ (some 15) rfl rfl Tryz.func86 (by kernel_rfl) rfl #[.int .i64 (wrap64 (Int.tdiv a0 10))] rfl (by (try simp only [List.map_toArray,List.map_cons,List.map_nil]);first | done | rfl | (simp only [List.length_drop,List.length_take];rfl)) ?_;(with_reducible refine (ih k (by omega) (wrap64 (Int.tdiv a0 10)) t381 _ A9.out).mono ?_);rintro e w12 ⟨rfl,hb⟩;refine ⟨_,rfl,?_⟩;have n0_:=Aside0.mk (below_step (by repeat (first | (with_reducible first | exact HB.out | apply below_alloc | apply pw_below_drewN | apply below_drew1) | exact HB.out)) hb);clear HB;have HB:=n0_;clear n0_;(try clear hb);(try clear hb2);(try clear hk);(try clear hi)) | ((with_reducible refine gate_callee (f:=121) rfl ?_);refine goesL_ (some 18) rfl rfl Tryz.func121 (by kernel_rfl) rfl #[.int .i64 (Int.tmod a0 10)] rfl (by (try simp only [List.map_toArray,List.map_cons,List.map_nil]);first | done | rfl | (simp only [List.length_drop,List.length_take];rfl)) ?_;(with_reducible refine (metewandkit_Digit.calls (Int.tmod a0 10) t382 _ A10.out).mono ?_);rintro e w13 ⟨rfl,hb⟩;refine ⟨_,rfl,?_⟩;have n0_:=Aside0.mk (below_step (by repeat (first | (with_reducible first | exact HB.out | apply below_alloc | apply pw_below_drewN | apply below_drew1) | exact HB.out)) hb);clear HB;have HB:=n0_;clear n0_;(try clear hb);(try clear hb2);(try clear hk);(try clear hi)))
    go_ret
    exact ⟨by first | rfl | (simp [errW_none,errW_some] <;> rfl) | (simp [*,errW_none,errW_some] <;> rfl),by repeat (first | (with_reducible first | exact HB.out | apply below_alloc | apply pw_below_drewN | apply below_drew1) | exact HB.out)⟩
   ·rw [if_neg c11] at H
    exact absurd H (by simp)
end Go.Proofs.YtjaobihcdkjmbaaGreatDoor.PReadTokens
end
section
namespace Go.Proofs.YtjaobihcdkjmbaaGreatDoor
open Go.RowKit Go.Proofs.YtjaobihcdkjmbaaGreatDoorW.PrintWords Go.Proofs.YtjaobihcdkjmbaaGreatDoor.PReadTokens
theorem Rod.lt {w:World} {R N:Nat} (h:Rod w R N):R < w.heap.size:=by
 obtain ⟨A,l,c,at_,st,h0,_⟩:=h.out
 exact blk_lt h0
theorem Rod.below {w w1:World} {R N:Nat} (h:Rod w R N) (hb:Below w.heap.size w w1):Rod w1 R N:=by
 obtain ⟨A,l,c,at_,st,h0,h1,h2,hl,h3⟩:=h.out
 refine ⟨A,l,c,at_,st,bcell hb h0,h1,h2,hl,fun i hi=>?_⟩
 obtain ⟨ad,x,e1,e2,e3⟩:=h3 i hi
 exact ⟨ad,x,e1,pw_cell_below hb e2,e3⟩
theorem Rod.more {w:World} {R N M:Nat} (h:Rod w R N) (hm:N≤M):Rod w R M:=by
 obtain ⟨A,l,c,at_,st,h0,h1,h2,hl,h3⟩:=h.out
 exact ⟨A,l,c,at_,st,h0,h1,by omega,hl,h3⟩
theorem lit_strs (w:World) (R:Nat) (l:List ByteArray) (hR:R < w.heap.size):Strs (w.alloc (.cells (l.map Value.string).toArray 9)) R ⟨w.heap.size,0,none⟩ l:=by
 refine ⟨fun i hi=>?_,by show w.heap.size≠R;omega⟩
 have hb:=blk_new w (.cells (l.map Value.string).toArray 9)
 rw [add_plain]
 have:=blk_cell hb i
 rw [this]
 simp [hi]
theorem lit_nums (w:World) (R:Nat) (l:List Int) (hR:R < w.heap.size):Nums (w.alloc (.cells (l.map (Value.int .i64)).toArray 3)) R ⟨w.heap.size,0,none⟩ l:=by
 refine ⟨fun i hi=>?_,by show w.heap.size≠R;omega⟩
 have hb:=blk_new w (.cells (l.map (Value.int .i64)).toArray 3)
 rw [add_plain]
 have:=blk_cell hb i
 rw [this]
 simp [hi]
abbrev nameL:List ByteArray:=[⟨#[97]⟩,⟨#[98]⟩,⟨#[120]⟩,⟨#[121,49]⟩,⟨#[105]⟩]
theorem size28':(Tryz.prog.info? 28).map (·.size)=some 2:=by kernel_rfl
def decS (n:Int):ByteArray:=(metewandkit_Decimal.f 5 n).getD ⟨#[]⟩
def ratS (p q:Int):S28:=⟨decS (p / (Int.gcd p q:Int)),decS (q / (Int.gcd p q:Int))⟩
theorem dec_some:∀ n:Int,0≤n→n≤20→(metewandkit_Decimal.f 5 n).isSome=true∧(decS n).size≤2:=by
 intro n h0 h1
 have:n=0∨n=1∨n=2∨n=3∨n=4∨n=5∨n=6∨n=7∨n=8∨n=9∨n=10∨n=11∨n=12∨n=13∨n=14∨n=15∨n=16∨n=17∨n=18∨n=19∨n=20:=by omega
 rcases this with rfl | rfl | rfl | rfl | rfl | rfl | rfl | rfl | rfl | rfl | rfl | rfl | rfl | rfl | rfl | rfl | rfl | rfl | rfl | rfl | rfl
 all_goals exact ⟨by kernel_rfl,of_decide_eq_true (by kernel_rfl)⟩
theorem dec_f (n:Int) (h0:0≤n) (h1:n≤20):metewandkit_Decimal.f 5 n=some (decS n):=by
 obtain ⟨r,h⟩:=Option.isSome_iff_exists.1 (dec_some n h0 h1).1
 rw [h]
 unfold decS
 rw [h]
 rfl
theorem dec_calls (n:Int) (h0:0≤n) (h1:n≤20) (w:World):Calls Tryz.prog 86 #[.int .i64 n] w fun e w'=>e=.returned (.string (decS n))∧Below w.heap.size w w' :=
 metewandkit_Decimal.calls 5 n _ w (dec_f n h0 h1)
theorem gcdU_step (a b:Int) (ha:0≤a) (hb:0≤b):Int.gcd b (a.tmod b)=Int.gcd a b:=by
 obtain ⟨m,rfl⟩:=Int.eq_ofNat_of_zero_le ha
 obtain ⟨n,rfl⟩:=Int.eq_ofNat_of_zero_le hb
 rw [← Int.ofNat_tmod,Int.gcd_natCast_natCast,Int.gcd_natCast_natCast,Nat.gcd_comm n,← Nat.gcd_rec,Nat.gcd_comm]
set_option maxRecDepth 100000 in
set_option maxHeartbeats 2000000 in
theorem RatOf_calls (p q:Int) (hp0:0≤p) (hp1:p≤20) (hq0:1≤q) (hq1:q≤6) (w:World) :
  Calls Tryz.prog 50 #[.int .i64 p,.int .i64 q] w fun e w'=>e=.returned (.agg #[.string (ratS p q).f0,.string (ratS p q).f1])∧Below w.heap.size w w':=by
 have hneg:decide (p < 0)=false:=decide_eq_false (by omega)
 have h0:=blk_new w (.cells #[.string ⟨#[]⟩,.string ⟨#[]⟩] 28)
 have hb0:=(Below.refl w.heap.size w).alloc (Nat.le_refl _) (.cells #[.string ⟨#[]⟩,.string ⟨#[]⟩] 28)
 go_enter Tryz.func50,Tryz.ntmps50
 go_wp2_with fail
 generalize w.alloc (.cells #[.string ⟨#[]⟩,.string ⟨#[]⟩] 28)=X at *
 go_loopg [5,6] 7 (fun k v5 v6 wr=>∃ a b:Int,v5=.int .i64 a∧v6=.int .i64 b∧0≤a∧a≤20∧0≤b∧b < k∧b≤20∧Hid (Int.gcd a b=Int.gcd p q)∧∃ n,wr=X.drewN n)
 case atStart=>exact ⟨p,q,rfl,rfl,hp0,hp1,by omega,by omega,by omega,Lib.hid rfl,0,rfl⟩
 case round =>
  obtain ⟨a,b,rfl,rfl,ha0,ha1,hb0',hb1,hb2,HG,n,rfl⟩:=hrel
  by_cases hz:b=0
  ·have hzb:(b != 0)=false:=by rw [hz];rfl
   have BX:Below w.heap.size w (X.drewN n):=pw_below_drewN hb0 n
   have hX:(X.drewN n).heap[w.heap.size]?=some (.cells #[.string ⟨#[]⟩,.string ⟨#[]⟩] 28 (0,0)):=blk_drewN h0 n
   generalize X.drewN n=Y at *
   have hX:Y.drew.heap[w.heap.size]?=some (.cells #[.string ⟨#[]⟩,.string ⟨#[]⟩] 28 (0,0)):=hX
   have BX:=BX.drew
   have tr:True:=trivial
   have HP:=Lib.hid (fun (c:Int) (hc:1≤c) w=>(by
    have e1:=Int.tdiv_eq_ediv_of_nonneg (b:=c) hp0
    have e2:=Int.ediv_nonneg hp0 (show 0≤c by omega)
    have e3:=Int.le_trans (Int.ediv_le_self c hp0) hp1
    have e4:IntKind.i64.wrap (p.tdiv c)=p / c:=by rw [e1];generalize p / c=z at *;simp [IntKind.wrap,IntKind.bits,IntKind.signed];omega
    rw [e4]
    exact dec_calls (p / c) e2 e3 w:Calls Tryz.prog 86 #[.int .i64 (IntKind.i64.wrap (p.tdiv c))] w fun e w'=>e=.returned (.string (decS (p / c)))∧Below w.heap.size w w'))
   have HQ:=Lib.hid (fun (c:Int) (hc:1≤c) w=>(by
    have hq0':0≤q:=by omega
    have e1:=Int.tdiv_eq_ediv_of_nonneg (b:=c) hq0'
    have e2:=Int.ediv_nonneg hq0' (show 0≤c by omega)
    have e3:=Int.le_trans (Int.ediv_le_self c hq0') (show q≤20 by omega)
    have e4:IntKind.i64.wrap (q.tdiv c)=q / c:=by rw [e1];generalize q / c=z at *;simp [IntKind.wrap,IntKind.bits,IntKind.signed];omega
    rw [e4]
    exact dec_calls (q / c) e2 e3 w:Calls Tryz.prog 86 #[.int .i64 (IntKind.i64.wrap (q.tdiv c))] w fun e w'=>e=.returned (.string (decS (q / c)))∧Below w.heap.size w w'))
   have hga:(Int.gcd p q:Int)=a:=by
    have:=HG.out
    rw [hz,Int.gcd_zero_right] at this
    omega
   have hg1:1≤a:=by
    have:0 < Int.gcd p q:=Int.gcd_pos_of_ne_zero_right _ (by omega)
    omega
   have HGA:=Lib.hid hga
   clear hga
   have ha:¬ a < 1:=by omega
   have hab:decide (a < 1)=false:=decide_eq_false ha
   have HP:=HP.out a (by omega)
   have HQ:=HQ.out a (by omega)
   have hz1:(a=0)=False:=by simp;omega
   have hz2:(a == 0)=false:=beq_no (by omega)
   have HP:=Lib.hid HP
   have HQ:=Lib.hid HQ
   go_wp2_with fail
   go_region_held3 (fun _:World=>True) (first | exact tr) (first
    | (go_at_call 86;refine (HP.out _).mono ?_;rintro e wq ⟨rfl,hq⟩;clear HP;have hX:=bcell hq hX;have BX:=BX.trans (hq.mono BX.size))
    | (go_at_call 86;refine (HQ.out _).mono ?_;rintro e wr ⟨rfl,hq⟩;clear HQ;have hX:=bcell hq hX;have BX:=BX.trans (hq.mono BX.size);have c0:=blk_cell hX 0;have c1:=blk_cell hX 1;have e0:=blk_frozen hX 0;have e1:=blk_frozen hX 1))
   go_wp2
   exact bodyPost_ret (results_c Tryz.results50 _ _ w.heap.size 28 _ (0,0) _ rfl (blk_set (blk_set hX 0 _) 1 _) Tryz.underlying28 rfl size28') rfl ⟨by unfold ratS;rw [HGA.out];rfl,(BX.setCell (p:=⟨w.heap.size,0,none⟩) (Nat.le_refl _) _).setCell (p:=⟨w.heap.size,1,none⟩) (Nat.le_refl _) _⟩
  ·have hzb:(b != 0)=true:=bne_iff_ne.2 hz
   have hz1:(b=0)=False:=by simp;omega
   have hz2:(b == 0)=false:=beq_no (by omega)
   have tr:True:=trivial
   go_wp2_with fail
   go_region_held3 (fun _:World=>True) (first | exact tr) (fail)
   go_wp2_with fail
   have m0:0≤a.tmod b:=Int.tmod_nonneg b ha0
   have m1:a.tmod b < b:=Int.tmod_lt_of_pos a (by omega)
   go_roundg (gk - 1)
   case measure=>omega
   case rel=>exact ⟨b,a.tmod b,rfl,rfl,by omega,by omega,m0,by omega,by omega,Lib.hid ((gcdU_step a b ha0 hb0').trans HG.out),n+1,rfl⟩
end Go.Proofs.YtjaobihcdkjmbaaGreatDoor
end
section
namespace Go.Proofs.YtjaobihcdkjmbaaGreatDoor
open Go.RowKit Go.Proofs.YtjaobihcdkjmbaaGreatDoorW.PrintWords Go.Proofs.YtjaobihcdkjmbaaGreatDoor.PReadTokens
abbrev eB:ByteArray:=⟨#[]⟩
abbrev callL:List ByteArray:=[⟨#[102]⟩,⟨#[103]⟩,⟨#[104,50]⟩]
abbrev unitL:List ByteArray:=[⟨#[]⟩,⟨#[]⟩,⟨#[109]⟩,⟨#[107,109,47,104]⟩,⟨#[109,32,115,94,45,50]⟩]
abbrev opL:List Int:=[2,3,4,5,6,3,5,7,8,9,10,11,12,13,14]
def nodeOk (op:Int) (name:ByteArray) (size:Int) (k:Nat):Prop :=
 (op=2∧name=eB∧size=0∧k=1)∨((op=3∨op=4∨op=5∨op=6∨op=9)∧name=eB∧size=0∧k=2)∨(op=7∧name=eB∧(-9≤size∧size≤9)∧k=1) ∨
 (op=8∧name=eB∧size=0∧(1≤k∧k≤3))∨((op=10∨op=11)∧name ∈ nameL∧(1≤size∧size≤99)∧k=1)∨(op=12∧name=eB∧size=0∧k=4) ∨
 (op=13∧name ∈ nameL∧size=0∧k=2)∨(op=14∧name ∈ callL∧size=0∧k≤3)
inductive Made:Nat→S31→Prop
 | ref (n:Nat) (s:ByteArray) (h:s ∈ nameL):Made n ⟨1,z28,s,0,[]⟩
 | lit (n:Nat) (p q:Int) (u:ByteArray) (h0:0≤p) (h1:p≤20) (h2:1≤q) (h3:q≤6) (hu:u ∈ unitL):Made n ⟨0,ratS p q,u,0,[]⟩
 | node (n:Nat) (op:Int) (name:ByteArray) (size:Int) (l:List S31) (h:nodeOk op name size l.length) (hl:∀ y ∈ l,Made n y):Made (n+1) ⟨op,z28,name,size,l⟩
def cost:Nat→Nat
 | 0=>6
 | n+1=>6+4 * cost n
theorem cost_pos (n:Nat):6≤cost n:=by cases n <;> simp [cost]
def MadePost (R N n:Nat) (w:World) (e:Ending) (w':World):Prop :=
 ∃ x v,e=.returned v∧Made n x∧Ex w' (From w.heap.size) x v∧Rod w' R (N+cost n)∧w.grownBy w' (some R)
theorem Rod.far {w w1:World} {R N:Nat} {row:Option Nat} (h:Rod w R N) (hg:w.grownBy w1 row) (hr:∀ b,row=some b→R < b):Rod w1 R N:=by
 obtain ⟨A,l,c,at_,st,h0,h1,h2,hl,h3⟩:=h.out
 have hlt:=blk_lt h0
 refine ⟨A,l,c,at_,st,(hg.block R hlt (fun e=>by have:=hr R e.symm;omega)).trans h0,h1,h2,hl,fun i hi=>?_⟩
 obtain ⟨ad,x,e1,e2,e3⟩:=h3 i hi
 refine ⟨ad,x,e1,?_,e3⟩
 have hb:=hg.block (ad.add i).block (World.block_lt_of_cell? w _ e2) (fun e=>by rw [addr_block] at e;have:=hr _ e.symm;omega)
 simpa [World.cell?,hb] using e2
theorem grown_row {w w1 w2:World} {k row:Option Nat} (h:w.grownBy w1 k) (g:w1.grownBy w2 row) (hr:∀ b,row=some b→w.heap.size≤b):w.grownBy w2 k :=
 ⟨g.os.trans h.os,g.tape.trans h.tape,g.output.trans h.output,Nat.le_trans h.size g.size,fun j hj hn=>(g.block j (Nat.lt_of_lt_of_le hj h.size) (fun e=>by have:=hr j e.symm;omega)).trans (h.block j hj hn)⟩
theorem rname_in (R N:Nat) (w:World) (hR:Rod w R N) (hN:N≤1000000) :
  Calls Tryz.prog 49 #[.pointer (some ⟨R,0,none⟩)] w fun e w'=>(∃ x,e=.returned (.string x)∧x ∈ nameL)∧Rod w' R (N+1)∧w.grownBy w' (some R):=by
 have hb:=(Below.refl w.heap.size w).alloc (Nat.le_refl _) (.cells (nameL.map Value.string).toArray 9)
 have hp:=PickText_calls R N ⟨w.heap.size,0,none⟩ nameL _ (hR.below hb) hN (lit_strs w R nameL hR.lt) (by decide) (by decide)
 go_enter Tryz.func49,Tryz.ntmps49
 go_wp2_with fail
 refine hp.mono ?_
 rintro e w1 ⟨⟨x,rfl,hx⟩,hr,hg⟩
 have hx:=Lib.hid hx
 clear hp
 go_wp2
 go_ret
 exact ⟨⟨_,rfl,hx.out⟩,hr,Lib.grownBy_trans (World.grownBy_alloc w _ (some R)) hg⟩
set_option maxRecDepth 100000 in
set_option maxHeartbeats 1000000 in
theorem RefOf_calls (s:ByteArray) (w:World) :
  Calls Tryz.prog 48 #[.string s] w fun e w'=>e=.returned (exV ⟨1,z28,s,0,[]⟩ (.slice none 0 0))∧Below w.heap.size w w':=by
 go_enter Tryz.func48,Tryz.ntmps48
 go_wp2
 exact bodyPost_ret (results_c Tryz.results48 _ _ w.heap.size 31 _ (0,0) _ rfl (blk_new w _) Tryz.underlying31 rfl size31) rfl ⟨rfl,(Below.refl _ w).alloc (Nat.le_refl _) _⟩
structure Grow (w:World) (R X M n:Nat) (op:Int) (name:ByteArray) (size:Int) (xs:List S31) (wr:World) (v5:Value):Prop where
 res:wr.heap[w.heap.size]?=some zO
 blk:wr.heap[X]?=some (.cells #[.int .i64 op,.string ⟨#[]⟩,.string ⟨#[]⟩,.string name,.int .i64 size,v5] 31 (0,0))
 row:k31.R 31 wr 0 (Sx w X) v5 xs
 rod:Rod wr R M
 low:w.grownBy wr (some R)
 far:w.heap.size < X
 own:R < w.heap.size
 all:∀ y ∈ xs,Made n y
theorem Grow.below {w:World} {R X M n:Nat} {op:Int} {name:ByteArray} {size:Int} {xs:List S31} {wr w1:World} {v5:Value} (G:Grow w R X M n op name size xs wr v5) (hb:Below wr.heap.size wr w1):Grow w R X M n op name size xs w1 v5 :=
 ⟨bcell hb G.res,bcell hb G.blk,Kd.R_below G.row hb,G.rod.below hb,Lib.grownBy_below G.low hb,G.far,G.own,G.all⟩
theorem Grow.next {w:World} {R X M n:Nat} {op:Int} {name:ByteArray} {size:Int} {xs:List S31} {wr w2 w4:World} {v5 v1:Value} {y:S31} (G:Grow w R X M n op name size xs wr v5) (hy:Made n y) (r2:Rod w2 R (M+cost n)) (g2:wr.grownBy w2 (some R))
  (hrow:k31.R 31 w4 0 (Sx w X) v1 (xs++[y])) (hg4:w2.grownBy w4 v5.ownBlock) :
  w4.heap[X]?=some (.cells #[.int .i64 op,.string ⟨#[]⟩,.string ⟨#[]⟩,.string name,.int .i64 size,v5] 31 (0,0))∧Grow w R X (M+cost n) n op name size (xs++[y]) (w4.setCell ⟨X,5,none⟩ v1) v1:=by
 have own:=G.own
 have far:=G.far
 have hb5:∀ b,v5.ownBlock=some b→w.heap.size < b∧b≠X:=fun b hb=>G.row.1 b hb
 have x2:=grown_blk g2 G.blk (show X≠R by omega)
 have z2:=grown_blk g2 G.res (show w.heap.size≠R by omega)
 have x4:=(hg4.block X (blk_lt x2) (fun e=>(hb5 X e.symm).2 rfl)).trans x2
 have z4:=(hg4.block w.heap.size (blk_lt z2) (fun e=>by have:=(hb5 _ e.symm).1;omega)).trans z2
 refine ⟨x4,(Below.heap_setCell _ _ _ _ (by show w.heap.size≠X;omega)).trans z4,blk_set x4 5 v1,Kd.R_far hrow (p:=⟨X,5,none⟩) (fun k hk=>hk.2) v1,
  (r2.far hg4 (fun b e=>by have:=(hb5 b e).1;omega)).far (Lib.grownBy_setCell _ _ _ _) (fun b e=>by injection e with e;omega),
  grown_row (grown_row (Lib.grownBy_trans G.low g2) hg4 (fun b e=>by have:=(hb5 b e).1;omega)) (Lib.grownBy_setCell _ _ _ _) (fun b e=>by injection e with e;omega),far,own,fun z hz=>?_⟩
 rcases List.mem_append.1 hz with hz | hz
 ·exact G.all z hz
 ·rw [List.mem_singleton.1 hz];exact hy
theorem Rod.put {w:World} {R N X:Nat} (h:Rod w R N) (hX:R < X) (i:Nat) (v:Value):Rod (w.setCell ⟨X,i,none⟩ v) R N:=h.far (Lib.grownBy_setCell _ _ _ _) (fun b e=>by injection e with e;omega)
theorem grown_put {w w1:World} {R X:Nat} (h:w.grownBy w1 (some R)) (hX:w.heap.size≤X) (i:Nat) (v:Value):w.grownBy (w1.setCell ⟨X,i,none⟩ v) (some R):=grown_set h ⟨X,i,none⟩ hX v
theorem toNat_val {x:Int} (h:0≤x):Value.int .i64 x=.int .i64 (x.toNat:Nat):=by rw [Int.toNat_of_nonneg h]
theorem nodeOk_le {op:Int} {name:ByteArray} {size:Int} {k:Nat} (h:nodeOk op name size k):k≤4:=by
 rcases h with h | h | h | h | h | h | h | h <;> omega
set_option maxRecDepth 100000 in
set_option maxHeartbeats 4000000 in
theorem ExprOf_leaf (R N:Nat) (w:World) (hR:Rod w R N) (hN:N≤900000) (n:Int) (hn:n < 2) :
  Calls Tryz.prog 13 #[.pointer (some ⟨R,0,none⟩),.int .i64 n] w (MadePost R N 0 w):=by
 have hRl:=hR.lt
 have b0:=(Below.refl w.heap.size w).alloc (Nat.le_refl _) zO
 have rq:=hR.below b0
 have zq:(w.alloc zO).heap[w.heap.size]?=some zO:=blk_new w zO
 have gq:w.grownBy (w.alloc zO) (some R):=World.grownBy_alloc w _ _
 have hd:decide (n < 2)=true:=decide_eq_true hn
 have hc0:cost 0=6:=rfl
 clear hR
 go_enter Tryz.func13,Tryz.ntmps13
 go_wp2_with fail
 have HO:=Once_calls R (N) 2 _ rq (by omega) (by omega) (by omega)
 refine HO.mono ?_
 rintro e w1 ⟨⟨y,rfl⟩,r1,g1⟩
 have z1:=grown_blk g1 zq (by omega)
 have g1:=Lib.grownBy_trans gq g1
 clear HO rq zq gq
 cases y with
 | true =>
  have HN:=rname_in R (N+1) _ r1 (by omega)
  go_wp2_with fail
  refine HN.mono ?_
  rintro e w2 ⟨⟨s,rfl,hs⟩,r2,g2⟩
  have hs:=Lib.hid hs
  have z2:=grown_blk g2 z1 (by omega)
  have g2:=Lib.grownBy_trans g1 g2
  clear HN
  go_wp2_with fail
  refine (RefOf_calls s _).mono ?_
  rintro e w3 ⟨rfl,hb3⟩
  have z3:=bcell hb3 z2
  have r3:=r2.below hb3
  have g3:=Lib.grownBy_below g2 hb3
  obtain ⟨⟨q0,q1,q2,q3,q4,q5⟩,⟨f0,f1,f2,f3,f4,f5⟩,xl2⟩:=cells6 z3
  unfold exV
  go_wp2
  exact bodyPost_ret (results_c Tryz.results13 _ _ w.heap.size 31 _ (0,0) _ rfl (fin6 _ _ _ _ _ _ z3) Tryz.underlying31 rfl size31) rfl
   ⟨⟨1,z28,s,0,[]⟩,_,rfl,.ref _ s hs.out,Ex.leaf (w:=set6 w3 w.heap.size _ _ _ _ _ _) _ rfl,((r3.more (by omega)).far (grown6 _ _ _ _ _ _ _) (fun b e=>by injection e with e;omega)),grown_row g3 (grown6 _ _ _ _ _ _ _) (fun b e=>by injection e with e;omega)⟩
 | false =>
  have HU:=Up_calls R (N+1) 20 _ r1 (by omega) (by omega) (by omega)
  go_wp2_with fail
  refine HU.mono ?_
  rintro e w2 ⟨⟨p,rfl,hp0,hp1⟩,r2,g2⟩
  have z2:=grown_blk g2 z1 (by omega)
  have g2:=Lib.grownBy_trans g1 g2
  clear HU r1 z1 g1
  go_wp2_with fail
  have hbA:=(Below.refl w2.heap.size w2).alloc (Nat.le_refl _) (.cells (([1,1,6]:List Int).map (Value.int .i64)).toArray 3)
  refine (Pick_calls R (N+2) ⟨w2.heap.size,0,none⟩ [1,1,6] _ (r2.below hbA) (by omega) (lit_nums w2 R [1,1,6] r2.lt) (by decide) (by decide)).mono ?_
  rintro e w3 ⟨⟨q0,rfl,hq⟩,r3,g3⟩
  have hq:1≤q0∧q0≤6:=by simp at hq;omega
  have z3:=grown_blk g3 (bcell hbA z2) (by omega)
  have g3:=Lib.grownBy_trans (Lib.grownBy_below g2 hbA) g3
  obtain ⟨hq1,hq2⟩:=hq
  clear hbA r2 z2 g2
  go_wp2_with fail
  refine (From_calls R (N+3) 1 q0 _ r3 (by omega) (by omega) (by omega) (by omega)).mono ?_
  rintro e w4 ⟨⟨q,rfl,hq3,hq4⟩,r4,g4⟩
  have z4:=grown_blk g4 z3 (by omega)
  have g4:=Lib.grownBy_trans g3 g4
  clear r3 z3 g3
  go_wp2_with fail
  refine (RatOf_calls p q hp0 hp1 hq3 (by omega) _).mono ?_
  rintro e w5 ⟨rfl,hb5⟩
  have z5:=bcell hb5 z4
  have r5:=r4.below hb5
  have g5:=Lib.grownBy_below g4 hb5
  clear r4 z4 g4
  go_wp2_with fail
  have hbB:=(Below.refl w5.heap.size w5).alloc (Nat.le_refl _) (.cells (unitL.map Value.string).toArray 9)
  refine (PickText_calls R (N+4) ⟨w5.heap.size,0,none⟩ unitL _ (r5.below hbB) (by omega) (lit_strs w5 R unitL r5.lt) (by decide) (by decide)).mono ?_
  rintro e w6 ⟨⟨u,rfl,hu⟩,r6,g6⟩
  have hu:=Lib.hid hu
  have z6:=grown_blk g6 (bcell hbB z5) (by omega)
  have g6:=Lib.grownBy_trans (Lib.grownBy_below g5 hbB) g6
  clear hbB r5 z5 g5
  obtain ⟨⟨q0',q1',q2',q3',q4',q5'⟩,⟨f0,f1,f2,f3,f4,f5⟩,xl2⟩:=cells6 z6
  go_wp2
  exact bodyPost_ret (results_c Tryz.results13 _ _ w.heap.size 31 _ (0,0) _ rfl (fin6 _ _ _ _ _ _ z6) Tryz.underlying31 rfl size31) rfl
   ⟨⟨0,ratS p q,u,0,[]⟩,_,rfl,.lit _ p q u hp0 hp1 hq3 (by omega) hu.out,Ex.leaf (w:=set6 w6 w.heap.size _ _ _ _ _ _) _ rfl,((r6.more (by omega)).far (grown6 _ _ _ _ _ _ _) (fun b e=>by injection e with e;omega)),grown_row g6 (grown6 _ _ _ _ _ _ _) (fun b e=>by injection e with e;omega)⟩
end Go.Proofs.YtjaobihcdkjmbaaGreatDoor
end
