/- What can be read as an expression is printed as a text that reads as the same, and is printed as itself: for every argument; a part of its proof. -/
import Derived.Test.YtjaobihcdkjmbaaGreatDoorDa
import Derived.Test.YtjaobihcdkjmbaaGreatDoorDb
import Derived.Test.YtjaobihcdkjmbaaGreatDoorD0
import Derived.Test.YtjaobihcdkjmbaaGreatDoorD1
import Derived.Test.YtjaobihcdkjmbaaGreatDoorD2
import Derived.Test.YtjaobihcdkjmbaaGreatDoorD3
import Derived.Test.YtjaobihcdkjmbaaGreatDoorD7
import Derived.Test.YtjaobihcdkjmbaaGreatDoorD9
import Derived.Test.YtjaobihcdkjmbaaGreatDoorD11
set_option linter.unusedVariables false
set_option linter.unusedSimpArgs false
namespace Go.Proofs.YtjaobihcdkjmbaaGreatDoor.PReadTokens
end Go.Proofs.YtjaobihcdkjmbaaGreatDoor.PReadTokens
namespace Go.Proofs.YtjaobihcdkjmbaaGreatDoorW.PrintLast
end Go.Proofs.YtjaobihcdkjmbaaGreatDoorW.PrintLast
namespace Go.Proofs.YtjaobihcdkjmbaaGreatDoorW.PrintMore
end Go.Proofs.YtjaobihcdkjmbaaGreatDoorW.PrintMore
namespace Go.Proofs.YtjaobihcdkjmbaaGreatDoorW.PrintWords
end Go.Proofs.YtjaobihcdkjmbaaGreatDoorW.PrintWords
set_option maxRecDepth 100000
set_option maxHeartbeats 8000000
section
namespace Go.Proofs.YtjaobihcdkjmbaaGreatDoor
open Go.RowKit Go.Proofs.YtjaobihcdkjmbaaGreatDoorW.PrintWords Go.Proofs.YtjaobihcdkjmbaaGreatDoor.PReadTokens
theorem zD9 (w:World):(Op.equalIn 10000 198 (.agg #[.int .i64 0,.int .i64 0]) (.agg #[.int .i64 0,.int .i64 0])).run Tryz.prog w=.ok true w:=kD5
theorem zD8 (w:World):(Op.equalIn 10000 198 (.agg #[.int .i64 (-9),.int .i64 9]) (.agg #[.int .i64 0,.int .i64 0])).run Tryz.prog w=.ok false w:=kD5
theorem zCi (w:World):(Op.equalIn 10000 198 (.agg #[.int .i64 1,.int .i64 99]) (.agg #[.int .i64 0,.int .i64 0])).run Tryz.prog w=.ok false w:=kD5
theorem zEe (op:Int):(zAK op=0∧zAL op=0)∨(zAK op=-9∧zAL op=9)∨(zAK op=1∧zAL op=99):=by
 unfold zAK zAL;by_cases h7:op=7
 ·simp[h7]
 ·by_cases h10:op=10∨op=11
  ·simp[h7,h10]
  ·simp[h7,h10]
end Go.Proofs.YtjaobihcdkjmbaaGreatDoor
end
section
namespace Go.Proofs.YtjaobihcdkjmbaaGreatDoor.PReadTokens
open Go.RowKit Go.Proofs.YtjaobihcdkjmbaaGreatDoorW.PrintWords Go.Proofs.YtjaobihcdkjmbaaGreatDoorW.PrintLast Go.Proofs.YtjaobihcdkjmbaaGreatDoorW.PrintMore
section
attribute [local go_sem] zE1 zDZ zF2 zF1 zDj zDi zE0 zDY   -- for this text's walks alone
set_option linter.unusedVariables false
set_option linter.unusedSimpArgs false
def metewandref01_OfInt.f:Nat→Int→Option (ByteArray)
 | 0,_=>none
 | k+1,a0=>if a0<0 then ((metewandref01_OfInt.f k (wrap64 (-a0))).bind fun t359=>(if 1+t359.size≤9223372036854775807 then (some ((⟨#[45]⟩:ByteArray)++t359)) else (none))) else (if a0<10 then (some (strOfNums (([(wrap64 (48+a0)) % 256]:List Int)))) else ((metewandref01_OfInt.f k (wrap64 (Int.tdiv a0 10))).bind fun t363=>((some (([(wrap64 (48+(Int.tmod a0 10))) % 256]:List Int):List Int)).bind fun y364=>(if t363.size+(strOfNums y364).size≤9223372036854775807 then (some (t363++(strOfNums y364))) else (none)))))
theorem metewandref01_OfInt.mono_l:∀k,(∀y0,LeO (metewandref01_OfInt.f k y0) (metewandref01_OfInt.f (k+1) y0))
 | 0=>fun _ r h=>by simp[metewandref01_OfInt.f] at h
 | k+1=>by
  have ih0:=metewandref01_OfInt.mono_l k
  ·intro y0;unfold metewandref01_OfInt.f
   repeat' first
   | (with_reducible exact ih0 _)
   | (with_reducible exact LeO.refl _)
   | (with_reducible exact LeO.none _)
   | (with_reducible refine LeO.ite ?_ ?_)
   | (with_reducible refine LeO.bind ?_ (fun _=>?_))
   | exact ih0 _
   | exact LeO.none _
   | refine LeO.ite ?_ ?_
   | refine LeO.bind ?_ (fun _=>?_)
theorem metewandref01_OfInt.mono:∀a0 k,LeO (metewandref01_OfInt.f k a0) (metewandref01_OfInt.f (k+1) a0):=by
 intro a0 k;have ih0:=metewandref01_OfInt.mono_l k;exact ih0 a0
def metewandref01_OfInt.T5:Bool×List (List Nat×List Nat):=(true,[([],[]),([0],[0]),([1],[1]),([],[]),([3],[3]),([4],[4]),([5],[5]),([6],[6]),([7],[7]),([2,8],[2,8]),([9,2,0,1,2,3,4,5,6,7,8,9],[9])])
def metewandref01_OfInt.B5:List Nat:=[0,1,3,0,8,24,56,120,248,511,1023]
theorem metewandref01_OfInt.tab5:rtab .any (opsOf Tryz.f84 5)=metewandref01_OfInt.T5:=kD5
theorem metewandref01_OfInt.bits5:waitsOk metewandref01_OfInt.T5.2 metewandref01_OfInt.B5=true:=kD5
theorem metewandref01_OfInt.calls (k:Nat):∀(a0:Int) (r:ByteArray) (w:World) (h:metewandref01_OfInt.f k a0=some r),
  Calls Tryz.prog 84 #[.int .i64 a0] w fun e w'=>e=.returned (.string r)∧Below w.heap.size w w':=by
 induction k using Nat.strongRecOn with
 | _ k ih =>
 intro a0 r w h
 cases k with
 | zero=>exact absurd h (by simp[metewandref01_OfInt.f])
 | succ k =>
 simp only[metewandref01_OfInt.f] at h;have HB:=Aside0.mk (kA3 w.heap.size w);have H:(if a0<0 then ((metewandref01_OfInt.f k (wrap64 (-a0))).bind fun t359=>(if 1+t359.size≤9223372036854775807 then (some ((⟨#[45]⟩:ByteArray)++t359)) else (none))) else (if a0<10 then (some (strOfNums (([(wrap64 (48+a0)) % 256]:List Int)))) else ((metewandref01_OfInt.f k (wrap64 (Int.tdiv a0 10))).bind fun t363=>((some (([(wrap64 (48+(Int.tmod a0 10))) % 256]:List Int):List Int)).bind fun y364=>(if t363.size+(strOfNums y364).size≤9223372036854775807 then (some (t363++(strOfNums y364))) else (none))))))=some r:=h;clear h;by_cases c2:a0<0
 ·rw[kAa c2] at H;have c2b0:decide (a0<0)=true:=kA8 c2;clear c2;replace H:=Option.bind_eq_some_iff.mp H;obtain⟨t359,A30,H⟩:=H;replace H:(if 1+t359.size≤9223372036854775807 then (some ((⟨#[45]⟩:ByteArray)++t359)) else (none))=some r:=H;have A3:=Aside0.mk A30;clear A30;by_cases c4:1+t359.size≤9223372036854775807
  ·rw[kAa c4] at H;have c4b0:=kAX c4;have c4b1:decide (1+t359.size≤9223372036854775807)=true:=kA8 c4
   try have c4b2:(9223372036854775807<1+t359.size)=False:=eq_false (kCy.2 c4)
   obtain rfl:=kAg H;go_enter Tryz.func84,Tryz.ntmps84;go_wp2_with (first | ((with_reducible refine zAi (f:=84) rfl ?_);refine zB4 (some 7) rfl rfl Tryz.func84 kD5 rfl #[.int .i64 (wrap64 (-a0))] rfl kDe ?_;(with_reducible refine (ih k kD4 (wrap64 (-a0)) t359 _ A3.out).mono ?_);rintro e w5 ⟨rfl,hb⟩;refine⟨_,rfl,?_⟩;have n0_:=Aside0.mk (zB9 kDg hb);clear HB;have HB:=n0_;clear n0_;(try clear hb);(try clear hb2);(try clear hk);(try clear hi)));go_ret;exact⟨by first | rfl | (simp[zAB,zAA]<;>rfl) | (simp[*,zAB,zAA]<;>rfl),kDg⟩
  ·rw[kA9 c4] at H;exact absurd H kD6
 ·rw[kA9 c2] at H;have c2b0:decide (a0<0)=false:=kAc c2;clear c2;by_cases c6:a0<10
  ·rw[kAa c6] at H;have c6b0:decide (a0<10)=true:=kA8 c6;clear c6;obtain⟨y360,hy360⟩:∃y_:List Int,y_=(([(wrap64 (48+a0)) % 256]:List Int)):=⟨_,rfl⟩;replace H:(some (strOfNums y360))=some r:=by first | (rw[hy360];with_reducible exact H) | (have H2_:=(Option.bind_some _ _).symm.trans H;rw[hy360];with_reducible exact H2_) | (have H2_:=(Option.bind_some _ _).symm.trans H;with_reducible exact H2_) | with_reducible exact H | (rw[hy360];exact H) | exact H
   have Ny360:=Aside0.mk hy360;clear hy360;obtain rfl:=kAg H;go_enter Tryz.func84,Tryz.ntmps84;go_wp2_with (first | ((with_reducible refine zFu (N:=14) rfl ?_);refine Kd.R_lit (Kd.int .u8) _ 5 ?hg (N:=14) ?hd (xs:=([(wrap64 (48+a0)) % 256]:List Int)) (inner:=[.int .u8 ((wrap64 (48+a0)) % 256)]) (ok:=fun _=>True) (okp:=fun _=>True) ?hr ?hp (fun _ hk=>hk) trivial (kA3 _ _) (kA2 _) kD6 ?_;(case hd=>rfl);(case hg=>rfl);(case hr=>first | (go_simp;done) | (go_simp;rfl));(case hp=>exact (Reps.one (show Kd.M (Kd.int .u8) _ _ _ ((wrap64 (48+a0)) % 256) [.int .u8 ((wrap64 (48+a0)) % 256)] from rfl) (Reps.none _ _)));intro v361 w7 ho8 hb hg_ hnew_;clear hg_ hnew_;(first | rw[← Ny360.out] at ho8 | (simp only[Int.reduceToNat] at ho8;rw[← Ny360.out] at ho8));have n0_:=Aside0.mk (Kd.R_lower ho8 (zCh kDg));have n1_:=Aside0.mk (zB9 kDg hb);clear HB;have HO362:=n0_;have HB:=n1_;clear n0_ n1_;clear hb ho8;have hcv9:=zDg (P:=Tryz.prog) Tryz.underlying84 Tryz.underlying5 Tryz.underlying9 (Kd.own_of_R HO362.out)));go_ret;exact⟨by first | rfl | (simp[zAB,zAA]<;>rfl) | (simp[*,zAB,zAA]<;>rfl),kDg⟩
  ·rw[kA9 c6] at H;have c6b0:decide (a0<10)=false:=kAc c6;clear c6;replace H:=Option.bind_eq_some_iff.mp H;obtain⟨t363,A100,H⟩:=H;replace H:((some (([(wrap64 (48+(Int.tmod a0 10))) % 256]:List Int):List Int)).bind fun y364=>(if t363.size+(strOfNums y364).size≤9223372036854775807 then (some (t363++(strOfNums y364))) else (none)))=some r:=H;have A10:=Aside0.mk A100;clear A100;obtain⟨y364,hy364⟩:∃y_:List Int,y_=(([(wrap64 (48+(Int.tmod a0 10))) % 256]:List Int)):=⟨_,rfl⟩;replace H:(if t363.size+(strOfNums y364).size≤9223372036854775807 then (some (t363++(strOfNums y364))) else (none))=some r:=by first | (rw[hy364];with_reducible exact H) | (have H2_:=(Option.bind_some _ _).symm.trans H;rw[hy364];with_reducible exact H2_) | (have H2_:=(Option.bind_some _ _).symm.trans H;with_reducible exact H2_) | with_reducible exact H | (rw[hy364];exact H) | exact H
   have Ny364:=Aside0.mk hy364;clear hy364;by_cases c11:t363.size+(strOfNums y364).size≤9223372036854775807
   ·rw[kAa c11] at H;have c11b0:=kAX c11;have c11b1:decide (t363.size+(strOfNums y364).size≤9223372036854775807)=true:=kA8 c11
    try have c11b2:(9223372036854775807<t363.size+(strOfNums y364).size)=False:=eq_false (kCy.2 c11)
    obtain rfl:=kAg H;go_enter Tryz.func84,Tryz.ntmps84
    try go_wp2
    have n0_:=Aside0.mk (zAc HB.out);clear HB;have HB:=n0_;clear n0_;refine zDE (n:=11) (S:=fun w'=>True) (ds:=[]) #[false,false,false,false,false,false,false,false,false,false,false] kD5 rfl rfl trivial (fun hHeld=>?_);refine with_tabW metewandref01_OfInt.tab5 metewandref01_OfInt.bits5 (fun HT_ HW_=>?_);generalize w.drew=w12 at HB hHeld ⊢;refine zAq (i:=0) (N:=some 16) (v:=?_) (a':=?_) #[true,false,false,false,false,false,false,false,false,false,false] rfl rfl (zBT HT_.out kD5) (fun _ _ _ h=>h) (Or.inl ⟨kD9,?_⟩) ?_ ?_;rotate_left
    ·intro w';go_simp
     with_reducible rfl
    rotate_left
    ·simp only[Act.put,kA0,List.set_cons_zero,List.set_cons_succ,zAd,zAe];rfl
    refine zAq (i:=1) (N:=some 17) (v:=?_) (a':=?_) #[true,true,false,false,false,false,false,false,false,false,false] rfl rfl (zBT HT_.out kD5) (fun _ _ _ h=>h) (Or.inl ⟨kD9,?_⟩) ?_ ?_;rotate_left
    ·intro w';go_simp
     with_reducible rfl
    rotate_left
    ·simp only[Act.put,kA0,List.set_cons_zero,List.set_cons_succ,zAd,zAe];rfl
    refine zAq (i:=3) (N:=some 19) (v:=?_) (a':=?_) #[true,true,false,true,false,false,false,false,false,false,false] rfl rfl (zBT HT_.out kD5) (fun _ _ _ h=>h) (Or.inl ⟨kD9,?_⟩) ?_ ?_;rotate_left
    ·intro w';go_simp
     with_reducible rfl
    rotate_left
    ·simp only[Act.put,kA0,List.set_cons_zero,List.set_cons_succ,zAd,zAe];rfl
    refine zAq (i:=4) (N:=some 20) (v:=?_) (a':=?_) #[true,true,false,true,true,false,false,false,false,false,false] rfl rfl (zBT HT_.out kD5) (fun _ _ _ h=>h) (Or.inl ⟨kD9,?_⟩) ?_ ?_;rotate_left
    ·intro w';go_simp
     with_reducible rfl
    rotate_left
    ·simp only[Act.put,kA0,List.set_cons_zero,List.set_cons_succ,zAd,zAe];rfl
    refine zAq (i:=5) (N:=some 21) (v:=?_) (a':=?_) #[true,true,false,true,true,true,false,false,false,false,false] rfl rfl (zBT HT_.out kD5) (fun _ _ _ h=>h) (Or.inl ⟨kD9,?_⟩) ?_ ?_;rotate_left
    ·intro w';go_simp
     with_reducible rfl
    rotate_left
    ·simp only[Act.put,kA0,List.set_cons_zero,List.set_cons_succ,zAd,zAe];rfl
    refine zAq (i:=6) (N:=some 22) (v:=?_) (a':=?_) #[true,true,false,true,true,true,true,false,false,false,false] rfl rfl (zBT HT_.out kD5) (fun _ _ _ h=>h) (Or.inl ⟨kD9,?_⟩) ?_ ?_;rotate_left
    ·intro w';go_simp
     with_reducible rfl
    rotate_left
    ·simp only[Act.put,kA0,List.set_cons_zero,List.set_cons_succ,zAd,zAe];rfl
    refine join_ (σ:=Value) 2 #[true,true,true,true,true,true,true,true,true,false,false] (fun s_=>[(18,.string t363),(23,s_),(24,.string (strOfNums y364))]) (fun s_ w'=>(Kd.R (Kd.int .u8) 5 w' w.heap.size (fun _=>True) s_ y364)∧(Below w.heap.size w w')) ?_ ?_;rotate_left
    ·intro hCont;refine two_ (i:=2) (j:=7) (Ni:=some 18) (Nj:=some 23) #[true,true,true,true,true,true,true,false,false,false,false] #[true,true,false,true,true,true,true,true,false,false,false] rfl rfl rfl rfl (two_of HT_.out kD5) kD7 kD7 (fun K hK=>?_) (fun K hK=>?_)
     ·skip
      refine goes_ Tryz.func84 kD5 rfl #[.int .i64 (wrap64 (Int.tdiv a0 10))] kD9 rfl rfl kDe ?_
      with_reducible refine (ih k kD4 (wrap64 (Int.tdiv a0 10)) t363 _ A10.out).mono ?_
      rintro e w13⟨rfl,hb⟩;refine⟨_,rfl,?_⟩;have n0_:=Aside0.mk (zB9 kDg hb);clear HB;have HB:=n0_;clear n0_
      (try clear hb)
      (try clear hb2)
      (try clear hk)
      (try clear hi)
      refine hK.out _ _ trivial (fun hHeld=>?_);clear hK K;refine zCc (a':=?_) ?_ ?_;rotate_left
      ·show Act.put _ (some 18) _=_;simp only[Act.put,kA0,List.set_cons_zero,List.set_cons_succ,zAd,zAe];rfl
      refine one_ (i:=7) (N:=some 23) #[true,true,true,true,true,true,true,true,false,false,false] rfl rfl (one_of HT_.out kD5) kD7 (fun K hK=>?_);refine Kd.R_lit_step (Kd.int .u8) _ 5 ?hg (N:=23) ?hd (xs:=([(wrap64 (48+(Int.tmod a0 10))) % 256]:List Int)) (inner:=[.int .u8 ((wrap64 (48+(Int.tmod a0 10))) % 256)]) (ok:=fun _=>True) (okp:=fun _=>True) ?hr ?hp (fun _ hk=>hk) trivial (kA3 _ _) (kA2 _) kD6 ?_;(case hd=>rfl);(case hg=>rfl);(case hr=>first | (go_simp;done) | (go_simp;rfl));(case hp=>exact (Reps.one (show Kd.M (Kd.int .u8) _ _ _ ((wrap64 (48+(Int.tmod a0 10))) % 256) [.int .u8 ((wrap64 (48+(Int.tmod a0 10))) % 256)] from rfl) (Reps.none _ _)));intro v365 w14 ho15 hb hg_ hnew_;clear hg_ hnew_
      (first | rw[← Ny364.out] at ho15 | (simp only[Int.reduceToNat] at ho15;rw[← Ny364.out] at ho15))
      have n0_:=Aside0.mk (Kd.R_lower ho15 (zCh kDg));have n1_:=Aside0.mk (zB9 kDg hb);clear HB;have HO366:=n0_;have HB:=n1_;clear n0_ n1_;clear hb ho15;refine hK.out _ _ trivial (fun hHeld=>?_);clear hK K;refine zCc (a':=?_) ?_ ?_;rotate_left
      ·show Act.put _ (some 23) _=_;simp only[Act.put,kA0,List.set_cons_zero,List.set_cons_succ,zAd,zAe];rfl
      refine one_ (i:=8) (N:=some 24) #[true,true,true,true,true,true,true,true,true,false,false] rfl rfl (one_of HT_.out kD5) kD7 (fun K hK=>?_);have hcv16:=zDg (P:=Tryz.prog) Tryz.underlying84 Tryz.underlying5 Tryz.underlying9 (Kd.own_of_R HO366.out);refine zFA (w1:=?_) (v:=?_) kD9 rfl ?_ ?_;rotate_left 2
      ·go_simp;constructor
       ·rfl
       ·rfl
      clear hcv16;refine hK.out _ _ trivial (fun hHeld=>?_);clear hK K;refine zCc (a':=?_) ?_ ?_;rotate_left
      ·show Act.put _ (some 24) _=_;simp only[Act.put,kA0,List.set_cons_zero,List.set_cons_succ,zAd,zAe];rfl
      exact zCc kDP (hCont (v365) _ ⟨kDz,kDg⟩)
     ·skip
      refine Kd.R_lit_step (Kd.int .u8) _ 5 ?hg (N:=23) ?hd (xs:=([(wrap64 (48+(Int.tmod a0 10))) % 256]:List Int)) (inner:=[.int .u8 ((wrap64 (48+(Int.tmod a0 10))) % 256)]) (ok:=fun _=>True) (okp:=fun _=>True) ?hr ?hp (fun _ hk=>hk) trivial (kA3 _ _) (kA2 _) kD6 ?_;(case hd=>rfl);(case hg=>rfl);(case hr=>first | (go_simp;done) | (go_simp;rfl));(case hp=>exact (Reps.one (show Kd.M (Kd.int .u8) _ _ _ ((wrap64 (48+(Int.tmod a0 10))) % 256) [.int .u8 ((wrap64 (48+(Int.tmod a0 10))) % 256)] from rfl) (Reps.none _ _)));intro v365 w13 ho14 hb hg_ hnew_;clear hg_ hnew_
      (first | rw[← Ny364.out] at ho14 | (simp only[Int.reduceToNat] at ho14;rw[← Ny364.out] at ho14))
      have n0_:=Aside0.mk (Kd.R_lower ho14 (zCh kDg));have n1_:=Aside0.mk (zB9 kDg hb);clear HB;have HO366:=n0_;have HB:=n1_;clear n0_ n1_;clear hb ho14;refine hK.out _ _ trivial (fun hHeld=>?_);clear hK K;refine zCc (a':=?_) ?_ ?_;rotate_left
      ·show Act.put _ (some 23) _=_;simp only[Act.put,kA0,List.set_cons_zero,List.set_cons_succ,zAd,zAe];rfl
      refine two_ (i:=2) (j:=8) (Ni:=some 18) (Nj:=some 24) #[true,true,true,true,true,true,true,true,false,false,false] #[true,true,false,true,true,true,true,true,true,false,false] rfl rfl rfl rfl (two_of HT_.out kD5) kD7 kD7 (fun K hK=>?_) (fun K hK=>?_)
      ·skip
       refine goes_ Tryz.func84 kD5 rfl #[.int .i64 (wrap64 (Int.tdiv a0 10))] kD9 rfl rfl kDe ?_
       with_reducible refine (ih k kD4 (wrap64 (Int.tdiv a0 10)) t363 _ A10.out).mono ?_
       rintro e w15⟨rfl,hb⟩;refine⟨_,rfl,?_⟩;have n0_:=Aside0.mk (Kd.R_below kDz hb);have n1_:=Aside0.mk (zB9 kDg hb);clear HO366;clear HB;have HO366:=n0_;have HB:=n1_;clear n0_ n1_
       (try clear hb)
       (try clear hb2)
       (try clear hk)
       (try clear hi)
       refine hK.out _ _ trivial (fun hHeld=>?_);clear hK K;refine zCc (a':=?_) ?_ ?_;rotate_left
       ·show Act.put _ (some 18) _=_;simp only[Act.put,kA0,List.set_cons_zero,List.set_cons_succ,zAd,zAe];rfl
       refine one_ (i:=8) (N:=some 24) #[true,true,true,true,true,true,true,true,true,false,false] rfl rfl (one_of HT_.out kD5) kD7 (fun K hK=>?_);have hcv16:=zDg (P:=Tryz.prog) Tryz.underlying84 Tryz.underlying5 Tryz.underlying9 (Kd.own_of_R HO366.out);refine zFA (w1:=?_) (v:=?_) kD9 rfl ?_ ?_;rotate_left 2
       ·go_simp;constructor
        ·rfl
        ·rfl
       clear hcv16;refine hK.out _ _ trivial (fun hHeld=>?_);clear hK K;refine zCc (a':=?_) ?_ ?_;rotate_left
       ·show Act.put _ (some 24) _=_;simp only[Act.put,kA0,List.set_cons_zero,List.set_cons_succ,zAd,zAe];rfl
       exact zCc kDP (hCont (v365) _ ⟨kDz,kDg⟩)
      ·skip
       have hcv15:=zDg (P:=Tryz.prog) Tryz.underlying84 Tryz.underlying5 Tryz.underlying9 (Kd.own_of_R HO366.out);refine zFA (w1:=?_) (v:=?_) kD9 rfl ?_ ?_;rotate_left 2
       ·go_simp;constructor
        ·rfl
        ·rfl
       clear hcv15;refine hK.out _ _ trivial (fun hHeld=>?_);clear hK K;refine zCc (a':=?_) ?_ ?_;rotate_left
       ·show Act.put _ (some 24) _=_;simp only[Act.put,kA0,List.set_cons_zero,List.set_cons_succ,zAd,zAe];rfl
       refine one_ (i:=2) (N:=some 18) #[true,true,true,true,true,true,true,true,true,false,false] rfl rfl (one_of HT_.out kD5) kD7 (fun K hK=>?_);refine goes_ Tryz.func84 kD5 rfl #[.int .i64 (wrap64 (Int.tdiv a0 10))] kD9 rfl rfl kDe ?_
       with_reducible refine (ih k kD4 (wrap64 (Int.tdiv a0 10)) t363 _ A10.out).mono ?_
       rintro e w16⟨rfl,hb⟩;refine⟨_,rfl,?_⟩;have n0_:=Aside0.mk (Kd.R_below kDz hb);have n1_:=Aside0.mk (zB9 kDg hb);clear HO366;clear HB;have HO366:=n0_;have HB:=n1_;clear n0_ n1_
       (try clear hb)
       (try clear hb2)
       (try clear hk)
       (try clear hi)
       refine hK.out _ _ trivial (fun hHeld=>?_);clear hK K;refine zCc (a':=?_) ?_ ?_;rotate_left
       ·show Act.put _ (some 18) _=_;simp only[Act.put,kA0,List.set_cons_zero,List.set_cons_succ,zAd,zAe];rfl
       exact zCc kDP (hCont (v365) _ ⟨kDz,kDg⟩)
    rintro v365 w17⟨h0_,h1_⟩;have n0_:Aside0 (Kd.R (Kd.int .u8) 5 w17 w.heap.size (fun _=>True) v365 y364):=⟨h0_⟩;have n1_:Aside0 (Below w.heap.size w w17):=⟨h1_⟩;clear HB;clear h0_ h1_;have HO366:=n0_;have HB:=n1_;clear n0_ n1_;have hHeld:=trivial;refine zCc (a':=?_) ?_ ?_;rotate_left
    ·simp only[zFM,Act.put,kA0,List.set_cons_zero,List.set_cons_succ];rfl
    refine zAq (i:=9) (N:=some 25) (v:=?_) (a':=?_) #[true,true,true,true,true,true,true,true,true,true,false] rfl rfl (zBT HT_.out kD5) (fun _ _ _ h=>h) (Or.inl ⟨kD9,?_⟩) ?_ ?_;rotate_left
    ·intro w';go_simp
     with_reducible rfl
    rotate_left
    ·simp only[Act.put,kA0,List.set_cons_zero,List.set_cons_succ,zAd,zAe];rfl
    refine zAq (i:=10) (N:=some 2) (v:=?_) (a':=?_) #[true,true,true,true,true,true,true,true,true,true,true] rfl rfl (zBT HT_.out kD5) (fun _ _ _ h=>h) (Or.inl ⟨kD9,?_⟩) ?_ ?_;rotate_left
    ·intro w';go_simp
     with_reducible rfl
    rotate_left
    ·simp only[Act.put,kA0,List.set_cons_zero,List.set_cons_succ,zAd,zAe];rfl
    refine done_ (done_of HT_.out kD5) ?_
    try go_wp2
    go_ret;exact⟨by first | rfl | (simp[zAB,zAA]<;>rfl) | (simp[*,zAB,zAA]<;>rfl),kDg⟩
   ·rw[kA9 c11] at H;exact absurd H kD6
def metewandkit_Digit.f (a0:Int):Option (ByteArray):=some (strOfNums (([(wrap64 (48+(Int.tmod a0 10))) % 256]:List Int)))
theorem metewandkit_Digit.calls (a0:Int) (r:ByteArray) (w:World) (h:metewandkit_Digit.f a0=some r) :
  Calls Tryz.prog 121 #[.int .i64 a0] w fun e w'=>e=.returned (.string r)∧Below w.heap.size w w':=by
 have HB:=Aside0.mk (kA3 w.heap.size w);have H:(some (strOfNums (([(wrap64 (48+(Int.tmod a0 10))) % 256]:List Int))))=some r:=h;clear h;obtain⟨y376,hy376⟩:∃y_:List Int,y_=(([(wrap64 (48+(Int.tmod a0 10))) % 256]:List Int)):=⟨_,rfl⟩;replace H:(some (strOfNums y376))=some r:=by first | (rw[hy376];with_reducible exact H) | (have H2_:=(Option.bind_some _ _).symm.trans H;rw[hy376];with_reducible exact H2_) | (have H2_:=(Option.bind_some _ _).symm.trans H;with_reducible exact H2_) | with_reducible exact H | (rw[hy376];exact H) | exact H
 have Ny376:=Aside0.mk hy376;clear hy376;obtain rfl:=kAg H;go_enter Tryz.func121,Tryz.ntmps121;go_wp2_with (first | ((with_reducible refine zFu (N:=7) rfl ?_);refine Kd.R_lit (Kd.int .u8) _ 5 ?hg (N:=7) ?hd (xs:=([(wrap64 (48+(Int.tmod a0 10))) % 256]:List Int)) (inner:=[.int .u8 ((wrap64 (48+(Int.tmod a0 10))) % 256)]) (ok:=fun _=>True) (okp:=fun _=>True) ?hr ?hp (fun _ hk=>hk) trivial (kA3 _ _) (kA2 _) kD6 ?_;(case hd=>rfl);(case hg=>rfl);(case hr=>first | (go_simp;done) | (go_simp;rfl));(case hp=>exact (Reps.one (show Kd.M (Kd.int .u8) _ _ _ ((wrap64 (48+(Int.tmod a0 10))) % 256) [.int .u8 ((wrap64 (48+(Int.tmod a0 10))) % 256)] from rfl) (Reps.none _ _)));intro v377 w2 ho3 hb hg_ hnew_;clear hg_ hnew_;(first | rw[← Ny376.out] at ho3 | (simp only[Int.reduceToNat] at ho3;rw[← Ny376.out] at ho3));have n0_:=Aside0.mk (Kd.R_lower ho3 (zCh kDg));have n1_:=Aside0.mk (zB9 kDg hb);clear HB;have HO378:=n0_;have HB:=n1_;clear n0_ n1_;clear hb ho3;have hcv4:=zDg (P:=Tryz.prog) Tryz.underlying84 Tryz.underlying5 Tryz.underlying9 (Kd.own_of_R HO378.out)));go_ret;exact⟨by first | rfl | (simp[zAB,zAA]<;>rfl) | (simp[*,zAB,zAA]<;>rfl),kDg⟩
def metewandkit_Decimal.f:Nat→Int→Option (ByteArray)
 | 0,_=>none
 | k+1,a0=>if a0<0 then ((metewandkit_Decimal.f k (wrap64 (-a0))).bind fun t379=>(if 1+t379.size≤9223372036854775807 then (some ((⟨#[45]⟩:ByteArray)++t379)) else (none))) else (if a0<10 then ((metewandkit_Digit.f a0).bind fun t380=>(some t380)) else ((metewandkit_Decimal.f k (wrap64 (Int.tdiv a0 10))).bind fun t381=>((metewandkit_Digit.f (Int.tmod a0 10)).bind fun t382=>(if t381.size+t382.size≤9223372036854775807 then (some (t381++t382)) else (none)))))
theorem metewandkit_Decimal.mono_l:∀k,(∀y0,LeO (metewandkit_Decimal.f k y0) (metewandkit_Decimal.f (k+1) y0))
 | 0=>fun _ r h=>by simp[metewandkit_Decimal.f] at h
 | k+1=>by
  have ih0:=metewandkit_Decimal.mono_l k
  ·intro y0;unfold metewandkit_Decimal.f
   repeat' first
   | (with_reducible exact ih0 _)
   | (with_reducible exact LeO.refl _)
   | (with_reducible exact LeO.none _)
   | (with_reducible refine LeO.ite ?_ ?_)
   | (with_reducible refine LeO.bind ?_ (fun _=>?_))
   | exact ih0 _
   | exact LeO.none _
   | refine LeO.ite ?_ ?_
   | refine LeO.bind ?_ (fun _=>?_)
theorem metewandkit_Decimal.mono:∀a0 k,LeO (metewandkit_Decimal.f k a0) (metewandkit_Decimal.f (k+1) a0):=by
 intro a0 k;have ih0:=metewandkit_Decimal.mono_l k;exact ih0 a0
theorem metewandkit_Decimal.calls (k:Nat):∀(a0:Int) (r:ByteArray) (w:World) (h:metewandkit_Decimal.f k a0=some r),
  Calls Tryz.prog 86 #[.int .i64 a0] w fun e w'=>e=.returned (.string r)∧Below w.heap.size w w':=by
 induction k using Nat.strongRecOn with
 | _ k ih =>
 intro a0 r w h
 cases k with
 | zero=>exact absurd h (by simp[metewandkit_Decimal.f])
 | succ k =>
 simp only[metewandkit_Decimal.f] at h;have HB:=Aside0.mk (kA3 w.heap.size w);have H:(if a0<0 then ((metewandkit_Decimal.f k (wrap64 (-a0))).bind fun t379=>(if 1+t379.size≤9223372036854775807 then (some ((⟨#[45]⟩:ByteArray)++t379)) else (none))) else (if a0<10 then ((metewandkit_Digit.f a0).bind fun t380=>(some t380)) else ((metewandkit_Decimal.f k (wrap64 (Int.tdiv a0 10))).bind fun t381=>((metewandkit_Digit.f (Int.tmod a0 10)).bind fun t382=>(if t381.size+t382.size≤9223372036854775807 then (some (t381++t382)) else (none))))))=some r:=h;clear h;by_cases c2:a0<0
 ·rw[kAa c2] at H;have c2b0:decide (a0<0)=true:=kA8 c2;clear c2;replace H:=Option.bind_eq_some_iff.mp H;obtain⟨t379,A30,H⟩:=H;replace H:(if 1+t379.size≤9223372036854775807 then (some ((⟨#[45]⟩:ByteArray)++t379)) else (none))=some r:=H;have A3:=Aside0.mk A30;clear A30;by_cases c4:1+t379.size≤9223372036854775807
  ·rw[kAa c4] at H;have c4b0:=kAX c4;have c4b1:decide (1+t379.size≤9223372036854775807)=true:=kA8 c4
   try have c4b2:(9223372036854775807<1+t379.size)=False:=eq_false (kCy.2 c4)
   obtain rfl:=kAg H;go_enter Tryz.func86,Tryz.ntmps86;go_wp2_with (first | ((with_reducible refine zAi (f:=86) rfl ?_);refine zB4 (some 7) rfl rfl Tryz.func86 kD5 rfl #[.int .i64 (wrap64 (-a0))] rfl kDe ?_;(with_reducible refine (ih k kD4 (wrap64 (-a0)) t379 _ A3.out).mono ?_);rintro e w5 ⟨rfl,hb⟩;refine⟨_,rfl,?_⟩;have n0_:=Aside0.mk (zB9 kDg hb);clear HB;have HB:=n0_;clear n0_;(try clear hb);(try clear hb2);(try clear hk);(try clear hi)));go_ret;exact⟨by first | rfl | (simp[zAB,zAA]<;>rfl) | (simp[*,zAB,zAA]<;>rfl),kDg⟩
  ·rw[kA9 c4] at H;exact absurd H kD6
 ·rw[kA9 c2] at H;have c2b0:decide (a0<0)=false:=kAc c2;clear c2;by_cases c6:a0<10
  ·rw[kAa c6] at H;have c6b0:decide (a0<10)=true:=kA8 c6;clear c6;replace H:=Option.bind_eq_some_iff.mp H;obtain⟨t380,A70,H⟩:=H;replace H:(some t380)=some r:=H;have A7:=Aside0.mk A70;clear A70;obtain rfl:=kAg H;go_enter Tryz.func86,Tryz.ntmps86;go_wp2_with (first | ((with_reducible refine zAi (f:=121) rfl ?_);refine zB4 (some 12) rfl rfl Tryz.func121 kD5 rfl #[.int .i64 a0] rfl kDe ?_;(with_reducible refine (metewandkit_Digit.calls a0 t380 _ A7.out).mono ?_);rintro e w8 ⟨rfl,hb⟩;refine⟨_,rfl,?_⟩;have n0_:=Aside0.mk (zB9 kDg hb);clear HB;have HB:=n0_;clear n0_;(try clear hb);(try clear hb2);(try clear hk);(try clear hi)));go_ret;exact⟨by first | rfl | (simp[zAB,zAA]<;>rfl) | (simp[*,zAB,zAA]<;>rfl),kDg⟩
  ·rw[kA9 c6] at H;have c6b0:decide (a0<10)=false:=kAc c6;clear c6;replace H:=Option.bind_eq_some_iff.mp H;obtain⟨t381,A90,H⟩:=H;replace H:((metewandkit_Digit.f (Int.tmod a0 10)).bind fun t382=>(if t381.size+t382.size≤9223372036854775807 then (some (t381++t382)) else (none)))=some r:=H;have A9:=Aside0.mk A90;clear A90;replace H:=Option.bind_eq_some_iff.mp H;obtain⟨t382,A100,H⟩:=H;replace H:(if t381.size+t382.size≤9223372036854775807 then (some (t381++t382)) else (none))=some r:=H;have A10:=Aside0.mk A100;clear A100;by_cases c11:t381.size+t382.size≤9223372036854775807
   ·rw[kAa c11] at H;have c11b0:=kAX c11;have c11b1:decide (t381.size+t382.size≤9223372036854775807)=true:=kA8 c11
    try have c11b2:(9223372036854775807<t381.size+t382.size)=False:=eq_false (kCy.2 c11)
    obtain rfl:=kAg H;go_enter Tryz.func86,Tryz.ntmps86;go_wp2_with (first | ((with_reducible refine zAi (f:=86) rfl ?_);refine zB4 (some 15) rfl rfl Tryz.func86 kD5 rfl #[.int .i64 (wrap64 (Int.tdiv a0 10))] rfl kDe ?_;(with_reducible refine (ih k kD4 (wrap64 (Int.tdiv a0 10)) t381 _ A9.out).mono ?_);rintro e w12 ⟨rfl,hb⟩;refine⟨_,rfl,?_⟩;have n0_:=Aside0.mk (zB9 kDg hb);clear HB;have HB:=n0_;clear n0_;(try clear hb);(try clear hb2);(try clear hk);(try clear hi)) | ((with_reducible refine zAi (f:=121) rfl ?_);refine zB4 (some 18) rfl rfl Tryz.func121 kD5 rfl #[.int .i64 (Int.tmod a0 10)] rfl kDe ?_;(with_reducible refine (metewandkit_Digit.calls (Int.tmod a0 10) t382 _ A10.out).mono ?_);rintro e w13 ⟨rfl,hb⟩;refine⟨_,rfl,?_⟩;have n0_:=Aside0.mk (zB9 kDg hb);clear HB;have HB:=n0_;clear n0_;(try clear hb);(try clear hb2);(try clear hk);(try clear hi)));go_ret;exact⟨by first | rfl | (simp[zAB,zAA]<;>rfl) | (simp[*,zAB,zAA]<;>rfl),kDg⟩
   ·rw[kA9 c11] at H;exact absurd H kD6
end
end Go.Proofs.YtjaobihcdkjmbaaGreatDoor.PReadTokens
end
