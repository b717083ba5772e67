/- What can be read as an expression is printed as a text that reads as the same, and is printed as itself: for every argument; a part of its proof. -/
import Derived.Test.YtjaobihcdkjmbaaGreatDoorDa
import Derived.Test.YtjaobihcdkjmbaaGreatDoorDb
import Derived.Test.YtjaobihcdkjmbaaGreatDoorD0
import Derived.Test.YtjaobihcdkjmbaaGreatDoorD1
import Derived.Test.YtjaobihcdkjmbaaGreatDoorD7
import Derived.Test.YtjaobihcdkjmbaaGreatDoorD11
import Derived.Test.YtjaobihcdkjmbaaGreatDoorD17
import Derived.Test.YtjaobihcdkjmbaaGreatDoorD19
import Derived.Test.YtjaobihcdkjmbaaGreatDoorD20
set_option linter.unusedVariables false
set_option linter.unusedSimpArgs false
namespace Go.Proofs.YtjaobihcdkjmbaaGreatDoor.PReadTokens
end Go.Proofs.YtjaobihcdkjmbaaGreatDoor.PReadTokens
namespace Go.Proofs.YtjaobihcdkjmbaaGreatDoorW.PrintLast
end Go.Proofs.YtjaobihcdkjmbaaGreatDoorW.PrintLast
namespace Go.Proofs.YtjaobihcdkjmbaaGreatDoorW.PrintWords
end Go.Proofs.YtjaobihcdkjmbaaGreatDoorW.PrintWords
set_option maxRecDepth 100000
set_option maxHeartbeats 4000000
section
namespace Go.Proofs.YtjaobihcdkjmbaaGreatDoor
open Go.RowKit Go.Proofs.YtjaobihcdkjmbaaGreatDoorW.PrintWords Go.Proofs.YtjaobihcdkjmbaaGreatDoorW.PrintLast Go.Proofs.YtjaobihcdkjmbaaGreatDoor.PReadTokens
theorem eq28_self (a b:ByteArray) (w:World):(Op.equalIn 10000 28 (.agg #[.string a,.string b]) (.agg #[.string a,.string b])).run Tryz.prog w=.ok true w:=by
 rw[eq28];simp
theorem eqx_calls:∀(n:Nat) (x:S31),zAI x≤n→zAl x≤4611686018427387904→∀(va vb:Value) (w:World),Vw w x va→Vw w x vb →
  Calls Tryz.prog 19 #[va,vb] w fun e w'=>e=.returned (.bool true)∧Below w.heap.size w w':=by
 intro n
 induction n with
 | zero=>intro x h;rw[zAw] at h;omega
 | succ n ih =>
  intro x hd hn va vb w hva hvb;obtain⟨A,c,rfl,hc1,hc2⟩:=hva.out;obtain⟨A',c',rfl,hc1',hc2'⟩:=hvb.out;rw[zAw] at hd;rw[zB3] at hn;have hrec:∀(j:Nat) (hj:j<x.f4.length) v v' w,Vw w x.f4[j] v→Vw w x.f4[j] v'→Calls Tryz.prog 19 #[v,v'] w fun e w'=>e=.returned (.bool true)∧Below w.heap.size w w':=by
   intro j hj;have h1:=zBh (kAC hj);have h2:=zDh (kAC hj);exact ih _ kD4 kD4
  have hlen:=zCB x.f4;obtain⟨f0,f1,f2,f3,xs⟩:=x;simp only at *;unfold exV;simp only;have HR:=kA1 hrec;have HC:=kA1 hc2;have HC':=kA1 hc2';have E28:=eq28_self f1.f0 f1.f1;have e0:(f0==f0)=true:=kD6
  have e2:(f2.toList==f2.toList)=true:=kD6
  have e3:(f3==f3)=true:=kD6
  have e4:((xs.length:Int)==(xs.length:Int))=true:=kD6
  clear hva hvb ih hrec hc2 hc2';go_enter Tryz.func19,Tryz.ntmps19;go_wp2_with fail;have ba:((w.alloc (.cells #[.int .i64 f0,.string f1.f0,.string f1.f1,.string f2,.int .i64 f3,.slice A xs.length c] 31)).alloc (.cells #[.int .i64 f0,.string f1.f0,.string f1.f1,.string f2,.int .i64 f3,.slice A' xs.length c'] 31)).heap[w.heap.size]?=some (.cells #[.int .i64 f0,.string f1.f0,.string f1.f1,.string f2,.int .i64 f3,.slice A xs.length c] 31 (0,0)):=(kA4 _ _ _ kD6).trans (zA4 w _);have bb:((w.alloc (.cells #[.int .i64 f0,.string f1.f0,.string f1.f1,.string f2,.int .i64 f3,.slice A xs.length c] 31)).alloc (.cells #[.int .i64 f0,.string f1.f0,.string f1.f1,.string f2,.int .i64 f3,.slice A' xs.length c'] 31)).heap[w.heap.size+1]?=some (.cells #[.int .i64 f0,.string f1.f0,.string f1.f1,.string f2,.int .i64 f3,.slice A' xs.length c'] 31 (0,0)):=zAD _ _ _ kD6;have hb0:Below w.heap.size w ((w.alloc (.cells #[.int .i64 f0,.string f1.f0,.string f1.f1,.string f2,.int .i64 f3,.slice A xs.length c] 31)).alloc (.cells #[.int .i64 f0,.string f1.f0,.string f1.f1,.string f2,.int .i64 f3,.slice A' xs.length c'] 31)):=((kA3 _ w).alloc (kA2 _) _).alloc kD6 _;generalize (w.alloc (.cells #[.int .i64 f0,.string f1.f0,.string f1.f1,.string f2,.int .i64 f3,.slice A xs.length c] 31)).alloc (.cells #[.int .i64 f0,.string f1.f0,.string f1.f1,.string f2,.int .i64 f3,.slice A' xs.length c'] 31)=W0 at *;generalize w.heap.size+1=Y at *;go_loopg [5] xs.length (fun k i wr=>∃j:Nat,j+k=xs.length∧i=.int .i64 j∧Hid (Below w.heap.size w wr)∧Hid (wr.heap[w.heap.size]?=some (.cells #[.int .i64 f0,.string f1.f0,.string f1.f1,.string f2,.int .i64 f3,.slice A xs.length c] 31 (0,0)))∧Hid (wr.heap[Y]?=some (.cells #[.int .i64 f0,.string f1.f0,.string f1.f1,.string f2,.int .i64 f3,.slice A' xs.length c'] 31 (0,0))))
  case atStart=>exact⟨0,kD4,rfl,kA1 hb0,kA1 ba,kA1 bb⟩
  case round =>
   clear ba bb hb0;obtain⟨j,hj,rfl,hb,ba,bb⟩:=hrel;have a5:=zA1 ba.out 5;have b5:=zA1 bb.out 5;simp at a5 b5;by_cases hjl:j<xs.length
   ·obtain⟨ad,A5,c5,hA,q0,q1,q2,q3,q4,q5,hva⟩:=zAh (Kd.C_below HC.out hb.out) j hjl;obtain⟨ad',A5',c5',hA',r0,r1,r2,r3,r4,r5,hvb⟩:=zAh (Kd.C_below HC'.out hb.out) j hjl;subst hA;subst hA';have hr:=HR.out j hjl;generalize xs[j]=y at *;have hr2:=hr _ _ wr.drew (hva.below (kA3 _ _).drew) (hvb.below (kA3 _ _).drew);unfold exV at hr2;have k1:wr.drew.cell? ⟨w.heap.size,5,none⟩=some (.slice (some ad) xs.length c):=a5;have k2:wr.drew.cell? ⟨Y,5,none⟩=some (.slice (some ad') xs.length c'):=b5;clear hva hvb hr;go_wp2_with fail;refine zDE (n:=12) (S:=fun w'=>w'.cell? ⟨w.heap.size,5,none⟩=some (.slice (some ad) xs.length c)∧w'.cell? ⟨Y,5,none⟩=some (.slice (some ad') xs.length c')∧w'.cell? (ad.add (j*6))=some (.int .i64 y.f0)∧w'.cell? ⟨(ad.add (j*6)).block,(ad.add (j*6)).off+1,none⟩=some (.string y.f1.f0)∧w'.cell? ⟨(ad.add (j*6)).block,(ad.add (j*6)).off+2,none⟩=some (.string y.f1.f1)∧w'.cell? ⟨(ad.add (j*6)).block,(ad.add (j*6)).off+3,none⟩=some (.string y.f2)∧w'.cell? ⟨(ad.add (j*6)).block,(ad.add (j*6)).off+4,none⟩=some (.int .i64 y.f3)∧w'.cell? ⟨(ad.add (j*6)).block,(ad.add (j*6)).off+5,none⟩=some (.slice A5 y.f4.length c5)∧w'.cell? (ad'.add (j*6))=some (.int .i64 y.f0)∧w'.cell? ⟨(ad'.add (j*6)).block,(ad'.add (j*6)).off+1,none⟩=some (.string y.f1.f0)∧w'.cell? ⟨(ad'.add (j*6)).block,(ad'.add (j*6)).off+2,none⟩=some (.string y.f1.f1)∧w'.cell? ⟨(ad'.add (j*6)).block,(ad'.add (j*6)).off+3,none⟩=some (.string y.f2)∧w'.cell? ⟨(ad'.add (j*6)).block,(ad'.add (j*6)).off+4,none⟩=some (.int .i64 y.f3)∧w'.cell? ⟨(ad'.add (j*6)).block,(ad'.add (j*6)).off+5,none⟩=some (.slice A5' y.f4.length c5')) (ds:=[10]) #[false,false,false,false,false,false,false,false,false,false,false,false] kD5 rfl rfl ⟨k1,k2,q0,q1,q2,q3,q4,q5,r0,r1,r2,r3,r4,r5⟩ (fun hHeld=>?_);refine zAq (i:=0) (N:=some 48) (v:=?_) (a':=?_) #[true,false,false,false,false,false,false,false,false,false,false,false] rfl rfl kD5 (fun _ _ _ h=>h) (Or.inl ⟨kD9,?_⟩) ?_ ?_;rotate_left
    ·intro w';go_simp
     with_reducible rfl
    rotate_left
    ·simp only[Act.put,kA0,List.set_cons_zero,List.set_cons_succ,zAd,zAe];rfl
    refine zAq (i:=2) (N:=some 50) (v:=?_) (a':=?_) #[true,false,true,false,false,false,false,false,false,false,false,false] rfl rfl kD5 (fun _ _ _ h=>h) (Or.inl ⟨kD9,?_⟩) ?_ ?_;rotate_left
    ·intro w';go_simp
     with_reducible rfl
    rotate_left
    ·simp only[Act.put,kA0,List.set_cons_zero,List.set_cons_succ,zAd,zAe];rfl
    refine zAq (i:=5) (N:=some 53) (v:=?_) (a':=?_) #[true,false,true,false,false,true,false,false,false,false,false,false] rfl rfl kD5 (fun _ _ _ h=>h) (Or.inl ⟨kD9,?_⟩) ?_ ?_;rotate_left
    ·intro w';go_simp
     with_reducible rfl
    rotate_left
    ·simp only[Act.put,kA0,List.set_cons_zero,List.set_cons_succ,zAd,zAe];rfl
    refine zAq (i:=7) (N:=some 55) (v:=?_) (a':=?_) #[true,false,true,false,false,true,false,true,false,false,false,false] rfl rfl kD5 (fun _ _ _ h=>h) (Or.inl ⟨kD9,?_⟩) ?_ ?_;rotate_left
    ·intro w';go_simp
     with_reducible rfl
    rotate_left
    ·simp only[Act.put,kA0,List.set_cons_zero,List.set_cons_succ,zAd,zAe];rfl
    refine zDd (i:=1) (N:=some 49) (v:=?_) (a':=?_) #[true,true,true,false,false,true,false,true,false,false,false,false] rfl rfl kD5 (fun _ _ _ h=>h) (Or.inl ⟨kD9,?_⟩) hHeld ?_ ?_;rotate_left
    ·rintro w'⟨s0,s1,s2,s3,s4,s5,s6,s7,s8,s9,s10,s11,s12,s13⟩;go_simp
     with_reducible rfl
    rotate_left
    ·simp only[Act.put,kA0,List.set_cons_zero,List.set_cons_succ,zAd,zAe];rfl
    refine zAq (i:=3) (N:=some 51) (v:=?_) (a':=?_) #[true,true,true,true,false,true,false,true,false,false,false,false] rfl rfl kD5 (fun _ _ _ h=>h) (Or.inl ⟨kD9,?_⟩) ?_ ?_;rotate_left
    ·intro w';go_simp
     with_reducible rfl
    rotate_left
    ·simp only[Act.put,kA0,List.set_cons_zero,List.set_cons_succ,zAd,zAe];rfl
    refine zDd (i:=4) (N:=some 52) (v:=?_) (a':=?_) #[true,true,true,true,true,true,false,true,false,false,false,false] rfl rfl kD5 (fun _ _ _ h=>h) (Or.inl ⟨kD9,?_⟩) hHeld ?_ ?_;rotate_left
    ·rintro w'⟨s0,s1,s2,s3,s4,s5,s6,s7,s8,s9,s10,s11,s12,s13⟩;go_simp
     with_reducible rfl
    rotate_left
    ·simp only[Act.put,kA0,List.set_cons_zero,List.set_cons_succ,zAd,zAe];rfl
    refine zDd (i:=6) (N:=some 54) (v:=?_) (a':=?_) #[true,true,true,true,true,true,true,true,false,false,false,false] rfl rfl kD5 (fun _ _ _ h=>h) (Or.inl ⟨kD9,?_⟩) hHeld ?_ ?_;rotate_left
    ·rintro w'⟨s0,s1,s2,s3,s4,s5,s6,s7,s8,s9,s10,s11,s12,s13⟩;go_simp
     with_reducible rfl
    rotate_left
    ·simp only[Act.put,kA0,List.set_cons_zero,List.set_cons_succ,zAd,zAe];rfl
    refine zAq (i:=8) (N:=some 56) (v:=?_) (a':=?_) #[true,true,true,true,true,true,true,true,true,false,false,false] rfl rfl kD5 (fun _ _ _ h=>h) (Or.inl ⟨kD9,?_⟩) ?_ ?_;rotate_left
    ·intro w';go_simp
     with_reducible rfl
    rotate_left
    ·simp only[Act.put,kA0,List.set_cons_zero,List.set_cons_succ,zAd,zAe];rfl
    refine zDd (i:=9) (N:=some 57) (v:=?_) (a':=?_) #[true,true,true,true,true,true,true,true,true,true,false,false] rfl rfl kD5 (fun _ _ _ h=>h) (Or.inl ⟨kD9,?_⟩) hHeld ?_ ?_;rotate_left
    ·rintro w'⟨s0,s1,s2,s3,s4,s5,s6,s7,s8,s9,s10,s11,s12,s13⟩;go_simp
     with_reducible rfl
    rotate_left
    ·simp only[Act.put,kA0,List.set_cons_zero,List.set_cons_succ,zAd,zAe];rfl
    refine last_ (i:=10) (N:=some 58) #[true,true,true,true,true,true,true,true,true,true,true,false] rfl rfl kD5 kD7 (fun K hK=>?_);refine goes_ Tryz.func19 kD5 rfl #[.agg #[.int .i64 y.f0,.string y.f1.f0,.string y.f1.f1,.string y.f2,.int .i64 y.f3,.slice A5 y.f4.length c5],.agg #[.int .i64 y.f0,.string y.f1.f0,.string y.f1.f1,.string y.f2,.int .i64 y.f3,.slice A5' y.f4.length c5']] kD9 rfl rfl kDo ?_
    with_reducible refine (hr2).mono ?_
    rintro e w2⟨rfl,hb2⟩;refine⟨_,rfl,?_⟩;refine hK.out _ _ ?_;clear hK K;refine zCc (a':=?_) ?_ ?_;rotate_left
    ·show Act.put _ (some 58) _=_;simp only[Act.put,kA0,List.set_cons_zero,List.set_cons_succ,zAd,zAe];rfl
    refine zAq (i:=11) (N:=some 59) (v:=?_) (a':=?_) #[true,true,true,true,true,true,true,true,true,true,true,true] rfl rfl kD5 (fun _ _ _ h=>h) (Or.inl ⟨kD9,?_⟩) ?_ ?_;rotate_left
    ·intro w';go_simp
     with_reducible rfl
    rotate_left
    ·simp only[Act.put,kA0,List.set_cons_zero,List.set_cons_succ,zAd,zAe];rfl
    refine done_ kD5 ?_;have hb3:=hb.out.trans ((kA3 _ wr).drew.trans (hb2.mono (kA2 _)) |>.mono hb.out.size);have ba2:=zAa hb2 (show wr.drew.heap[w.heap.size]?=_ from ba.out);have bb2:=zAa hb2 (show wr.drew.heap[Y]?=_ from bb.out);go_wp2_with fail;go_roundg (gk-1)
    case measure=>omega
    case rel=>exact⟨j+1,kD4,by go_num,kA1 hb3,kA1 ba2,kA1 bb2⟩
   ·obtain rfl:j=xs.length:=kD4
    go_wp2;go_ret;exact⟨rfl,hb.out⟩
end Go.Proofs.YtjaobihcdkjmbaaGreatDoor
end
