/- The law ReadFree answers true for every argument; a part of its proof. -/
import Derived.Deep.RegionHeld3
import Derived.Shelf.SlMaps.Copy
import Derived.Shelf.SlIter.Nil
import Derived.Shelf.SlLaysM
import Derived.Shelf.SortM.Plain
import Derived.Shelf.SortM.SortNone
import Derived.Ground.SlmpProg
import Derived.Ground.GgzProg
import Derived.Ground.SlgmProg
import Derived.Test.YtjaobihcdkjmbaaGreatDoorProg
import Derived.Test.YtjaobihcdkjmbaaGreatDoorF11
set_option linter.unusedVariables false
set_option linter.unusedSimpArgs false
section
namespace Go.Proofs.YtjaobihcdkjmbaaGreatDoor
open Go.RowKit Go.Proofs.YtjaobihcdkjmbaaGreatDoorW.PrintWords Go.Proofs.YtjaobihcdkjmbaaGreatDoor.PReadTokens
set_option maxRecDepth 100000 in
set_option maxHeartbeats 4000000 in
theorem text_op3 (x y z:S31) (hop:x.f0=3) (hxs:x.f4=[y,z]) (least:Int) (v:Value) (w:World) (hv:Vw w x v) (hsz:(openX x).size≤1000000)
  (hrec:∀ v w' ls,Vw w' y v→Below w.heap.size w w'→Calls Tryz.prog 58 #[v,.int .i64 ls] w' fun e w''=>e=.returned (.string (textX y ls))∧Below w'.heap.size w' w'')
  (hrec2:∀ v w' ls,Vw w' z v→Below w.heap.size w w'→Calls Tryz.prog 58 #[v,.int .i64 ls] w' fun e w''=>e=.returned (.string (textX z ls))∧Below w'.heap.size w' w'') :
  Calls Tryz.prog 58 #[v,.int .i64 least] w fun e w'=>e=.returned (.string (textX x least))∧Below w.heap.size w w':=by
 obtain ⟨A,c,rfl,hc1,hc2⟩:=hv.out
 obtain ⟨op,num,name,size,xs⟩:=x
 simp only at *
 subst hop hxs
 obtain ⟨r,hr⟩:∃ r,r=openX ⟨3,num,name,size,[y,z]⟩:=⟨_,rfl⟩
 obtain ⟨R,hR⟩:∃ R,R=textX ⟨3,num,name,size,[y,z]⟩ least:=⟨_,rfl⟩
 have hR2:R=wrapB r 1 least:=by rw [hR,hr];rfl
 rw [← hR]
 rw [← hr] at hsz
 have HR2:=Lib.hid hR2
 have hcat:r=cat [textX y 1,⟨#[32]⟩,⟨#[43]⟩,⟨#[32]⟩,textX z 2]:=hr
 have HCAT:=Lib.hid hcat
 have HSZ:=Lib.hid hsz
 clear hR hR2 hr hcat hsz
 have hk:=kindOf_calls ⟨3,num,name,size,[y,z]⟩ A 2 c
 unfold exV at *
 simp only [List.length_cons,List.length_nil,Nat.zero_add,Nat.reduceAdd] at *
 have t0:=ta152_150
 have t1:=ta152_152
 have HK:=Lib.hid hk
 have HC:=Lib.hid hc2
 have HV:=Lib.hid hv
 clear hk hc2 hv
 have HR:=Lib.hid hrec
 have HR2':=Lib.hid hrec2
 clear hrec hrec2
 go_enter Tryz.func58,Tryz.ntmps58
 go_wp2_with fail
 refine (HK.out _).mono ?_
 rintro e w1 ⟨rfl,hb1⟩
 have hk2:kindT (S31.mk 3 num name size [y,z]).f0=152:=rfl
 rw [hk2]
 have hbw:=((Below.refl _ w).alloc (Nat.le_refl _) (.cells #[.int .i64 3,.string num.f0,.string num.f1,.string name,.int .i64 size,.slice A 2 c] 31)).trans (hb1.mono (by simp))
 have hbw2:=hbw.alloc hbw.size (.cells #[.int .i64 3,.string num.f0,.string num.f1,.string name,.int .i64 size,.slice A 2 c] 152)
 obtain ⟨ad,A5,c5,rfl,q0,q1,q2,q3,q4,q5,hvw⟩:=arg_cells (xs:=[y,z]) (Kd.C_below HC.out hbw2) 0 (by simp)
 simp only [List.getElem_cons_zero,Nat.zero_mul,Addr.add_zero'] at q0 q1 q2 q3 q4 q5 hvw
 have hbl:=blk_new w1 (.cells #[.int .i64 3,.string num.f0,.string num.f1,.string name,.int .i64 size,.slice (some ad) 2 c] 152)
 obtain ⟨ad2,A7,c7,had,s0,s1,s2,s3,s4,s5,hvw2⟩:=arg_cells (xs:=[y,z]) (Kd.C_below HC.out hbw2) 1 (by simp)
 obtain rfl:ad=ad2:=by injection had
 simp only [List.getElem_cons_succ,List.getElem_cons_zero,Nat.one_mul,Addr.add_succ'] at s0 s1 s2 s3 s4 s5 hvw2
 have hkl:∀ a b:World,Below a.heap.size a b→(a.cell? ⟨w1.heap.size,0,none⟩=some (.int .i64 3)∧a.cell? ⟨w1.heap.size,1,none⟩=some (.string num.f0)∧a.cell? ⟨w1.heap.size,2,none⟩=some (.string num.f1)∧a.cell? ⟨w1.heap.size,3,none⟩=some (.string name)∧a.cell? ⟨w1.heap.size,4,none⟩=some (.int .i64 size)∧a.cell? ⟨w1.heap.size,5,none⟩=some (.slice (some ad) 2 c)∧a.cell? ad=some (.int .i64 y.f0)∧a.cell? ⟨ad.block,ad.off+1,none⟩=some (.string y.f1.f0)∧a.cell? ⟨ad.block,ad.off+2,none⟩=some (.string y.f1.f1)∧a.cell? ⟨ad.block,ad.off+3,none⟩=some (.string y.f2)∧a.cell? ⟨ad.block,ad.off+4,none⟩=some (.int .i64 y.f3)∧a.cell? ⟨ad.block,ad.off+5,none⟩=some (.slice A5 y.f4.length c5)∧a.cell? ⟨ad.block,ad.off+6,none⟩=some (.int .i64 z.f0)∧a.cell? ⟨ad.block,ad.off+6+1,none⟩=some (.string z.f1.f0)∧a.cell? ⟨ad.block,ad.off+6+2,none⟩=some (.string z.f1.f1)∧a.cell? ⟨ad.block,ad.off+6+3,none⟩=some (.string z.f2)∧a.cell? ⟨ad.block,ad.off+6+4,none⟩=some (.int .i64 z.f3)∧a.cell? ⟨ad.block,ad.off+6+5,none⟩=some (.slice A7 z.f4.length c7))→(b.cell? ⟨w1.heap.size,0,none⟩=some (.int .i64 3)∧b.cell? ⟨w1.heap.size,1,none⟩=some (.string num.f0)∧b.cell? ⟨w1.heap.size,2,none⟩=some (.string num.f1)∧b.cell? ⟨w1.heap.size,3,none⟩=some (.string name)∧b.cell? ⟨w1.heap.size,4,none⟩=some (.int .i64 size)∧b.cell? ⟨w1.heap.size,5,none⟩=some (.slice (some ad) 2 c)∧b.cell? ad=some (.int .i64 y.f0)∧b.cell? ⟨ad.block,ad.off+1,none⟩=some (.string y.f1.f0)∧b.cell? ⟨ad.block,ad.off+2,none⟩=some (.string y.f1.f1)∧b.cell? ⟨ad.block,ad.off+3,none⟩=some (.string y.f2)∧b.cell? ⟨ad.block,ad.off+4,none⟩=some (.int .i64 y.f3)∧b.cell? ⟨ad.block,ad.off+5,none⟩=some (.slice A5 y.f4.length c5)∧b.cell? ⟨ad.block,ad.off+6,none⟩=some (.int .i64 z.f0)∧b.cell? ⟨ad.block,ad.off+6+1,none⟩=some (.string z.f1.f0)∧b.cell? ⟨ad.block,ad.off+6+2,none⟩=some (.string z.f1.f1)∧b.cell? ⟨ad.block,ad.off+6+3,none⟩=some (.string z.f2)∧b.cell? ⟨ad.block,ad.off+6+4,none⟩=some (.int .i64 z.f3)∧b.cell? ⟨ad.block,ad.off+6+5,none⟩=some (.slice A7 z.f4.length c7)):=fun a b hb ⟨h0,h1,h2,h3,h4,h5,h6,h7,h8,h9,h10,h11,h12,h13,h14,h15,h16,h17⟩ =>
  ⟨pw_cell_below hb h0,pw_cell_below hb h1,pw_cell_below hb h2,pw_cell_below hb h3,pw_cell_below hb h4,pw_cell_below hb h5,pw_cell_below hb h6,pw_cell_below hb h7,pw_cell_below hb h8,pw_cell_below hb h9,pw_cell_below hb h10,pw_cell_below hb h11,pw_cell_below hb h12,pw_cell_below hb h13,pw_cell_below hb h14,pw_cell_below hb h15,pw_cell_below hb h16,pw_cell_below hb h17⟩
 obtain ⟨⟨p0,p1,p2,p3,p4,p5⟩,_,xl⟩:=cells6 hbl
 have HL:Hid (∀ b c d e f w',Calls Tryz.prog 99 #[.agg #[.int .i64 3,b,c,d,e,f]] w' fun en w''=>en=.returned (.int .i64 1)∧Below w'.heap.size w' w''):=Lib.hid (fun b c d e f w'=>lev152 3 (by simp) b c d e f w')
 have HJ:Hid (∀ W:World,Calls Tryz.prog 98 #[.slice (some ⟨W.heap.size,0,none⟩) 5 5] (W.alloc (.cells #[.string (textX y 1),.string ⟨#[32]⟩,.string (Utf8.encode 43),.string ⟨#[32]⟩,.string (textX z 2)] 9)) fun en w''=>en=.returned (.string r)∧Below (W.alloc (.cells #[.string (textX y 1),.string ⟨#[32]⟩,.string (Utf8.encode 43),.string ⟨#[32]⟩,.string (textX z 2)] 9)).heap.size (W.alloc (.cells #[.string (textX y 1),.string ⟨#[32]⟩,.string (Utf8.encode 43),.string ⟨#[32]⟩,.string (textX z 2)] 9)) w''):=Lib.hid (fun W=>by
  have hu:Utf8.encode 43=⟨#[43]⟩:=rfl
  rw [hu]
  have hj:=joined_calls W.heap.size [textX y 1,⟨#[32]⟩,⟨#[43]⟩,⟨#[32]⟩,textX z 2] 9 _ (blk_new W _) (by simp) (by rw [← HCAT.out];have:=HSZ.out;omega)
  rw [← HCAT.out] at hj
  simp only [List.length_cons,List.length_nil] at hj
  exact hj)
 go_wp2_with fail
 rw [show ∀ h,(⟨#[43,45,42,47]⟩:ByteArray)[0]'h=43 from fun _=>rfl]
 generalize hX:w1.alloc (.cells #[.int .i64 3,.string num.f0,.string num.f1,.string name,.int .i64 size,.slice (some ad) 2 c] 152)=X at *
 have K:=hkl X X.drew (Below.refl _ X).drew ⟨p0,p1,p2,p3,p4,p5,q0,q1,q2,q3,q4,q5,s0,s1,s2,s3,s4,s5⟩
 have V1:=hvw.below (Below.refl _ X).drew
 have V2:=hvw2.below (Below.refl _ X).drew
 have BW:=hbw2.drew
 have HKL:=Lib.hid hkl
 clear hkl p0 p1 p2 p3 p4 p5 q0 q1 q2 q3 q4 q5 s0 s1 s2 s3 s4 s5 hvw hvw2 hbl t0 t1
 go_region_held3 (fun w':World=>w'.cell? ⟨w1.heap.size,0,none⟩=some (.int .i64 3)∧w'.cell? ⟨w1.heap.size,1,none⟩=some (.string num.f0)∧w'.cell? ⟨w1.heap.size,2,none⟩=some (.string num.f1)∧w'.cell? ⟨w1.heap.size,3,none⟩=some (.string name)∧w'.cell? ⟨w1.heap.size,4,none⟩=some (.int .i64 size)∧w'.cell? ⟨w1.heap.size,5,none⟩=some (.slice (some ad) 2 c)∧w'.cell? ad=some (.int .i64 y.f0)∧w'.cell? ⟨ad.block,ad.off+1,none⟩=some (.string y.f1.f0)∧w'.cell? ⟨ad.block,ad.off+2,none⟩=some (.string y.f1.f1)∧w'.cell? ⟨ad.block,ad.off+3,none⟩=some (.string y.f2)∧w'.cell? ⟨ad.block,ad.off+4,none⟩=some (.int .i64 y.f3)∧w'.cell? ⟨ad.block,ad.off+5,none⟩=some (.slice A5 y.f4.length c5)∧w'.cell? ⟨ad.block,ad.off+6,none⟩=some (.int .i64 z.f0)∧w'.cell? ⟨ad.block,ad.off+6+1,none⟩=some (.string z.f1.f0)∧w'.cell? ⟨ad.block,ad.off+6+2,none⟩=some (.string z.f1.f1)∧w'.cell? ⟨ad.block,ad.off+6+3,none⟩=some (.string z.f2)∧w'.cell? ⟨ad.block,ad.off+6+4,none⟩=some (.int .i64 z.f3)∧w'.cell? ⟨ad.block,ad.off+6+5,none⟩=some (.slice A7 z.f4.length c7)) (first | exact K | exact HKL.out _ _ ((Below.refl _ _).alloc (Nat.le_refl _) _) K) (first
  | (go_at_call 99;refine (HL.out _ _ _ _ _ _).mono ?_;rintro e wq ⟨rfl,hq⟩;have K:=HKL.out _ _ hq K;have V1:=V1.below hq;have V2:=V2.below hq;have BW:=BW.trans (hq.mono BW.size))
  | (go_at_call 58;refine (HR.out _ _ _ V1 BW).mono ?_;rintro e wq ⟨rfl,hq⟩;clear HR;have K:=HKL.out _ _ hq K;have V1:=V1.below hq;have V2:=V2.below hq;have BW:=BW.trans (hq.mono BW.size))
  | (go_at_call 58;refine (HR2'.out _ _ _ V2 BW).mono ?_;rintro e wq ⟨rfl,hq⟩;have K:=HKL.out _ _ hq K;have V1:=V1.below hq;have V2:=V2.below hq;have BW:=BW.trans (hq.mono BW.size))
  | (go_at_call 98;refine (HJ.out _).mono ?_;rintro e w3 ⟨rfl,hq⟩;have K:=HKL.out _ _ hq (HKL.out _ _ ((Below.refl _ _).alloc (Nat.le_refl _) _) K);have BW:=(BW.alloc BW.size _).trans (hq.mono (by simp;have:=BW.size;omega))))
 clear HC HK HR2' HJ HKL K V1 V2 hX hbw hbw2 hb1
 have hm:=m152
 have HB:=Lib.hid BW
 have hrs:(cat [⟨#[40]⟩,r,⟨#[41]⟩]).size≤1000002:=by
  have hsz:=HSZ.out
  rw [cat_size]
  simp
  have e1:(⟨#[40]⟩:ByteArray).size=1:=rfl
  have e2:(⟨#[41]⟩:ByteArray).size=1:=rfl
  omega
 have HS:=Lib.hid hrs
 clear hrs
 cases hl':decide (1 < least)
 ·have hl:=Lib.hid (of_decide_eq_false hl')
  go_wp2_with (go_at_call 99;refine (HL.out _ _ _ _ _ _).mono ?_;rintro e w4 ⟨rfl,hb4⟩)
  go_ret
  exact ⟨by rw [HR2.out,wrapB_no (by have:=hl.out;omega)];rfl,HB.out.trans (hb4.mono HB.out.size)⟩
 ·have hl:=Lib.hid (of_decide_eq_true hl')
  go_wp2_with fail
  refine (HL.out _ _ _ _ _ _).mono ?_
  rintro e w4 ⟨rfl,hb4⟩
  go_wp2_with fail
  have hj:=joined_calls w4.heap.size [⟨#[40]⟩,r,⟨#[41]⟩] 9 _ (blk_new w4 _) (by simp) (Nat.le_trans HS.out (by omega))
  simp only [List.length_cons,List.length_nil] at hj
  refine hj.mono ?_
  rintro e w5 ⟨rfl,hb5⟩
  go_wp2
  go_ret
  have h4:=HB.out.trans (hb4.mono HB.out.size)
  exact ⟨by rw [HR2.out,wrapB_yes (by have:=hl.out;omega)];rfl,(h4.alloc h4.size (.cells #[.string ⟨#[40]⟩,.string r,.string ⟨#[41]⟩] 9)).trans (hb5.mono (by simp;have:=h4.size;omega))⟩
set_option maxRecDepth 100000 in
set_option maxHeartbeats 4000000 in
theorem text_op4 (x y z:S31) (hop:x.f0=4) (hxs:x.f4=[y,z]) (least:Int) (v:Value) (w:World) (hv:Vw w x v) (hsz:(openX x).size≤1000000)
  (hrec:∀ v w' ls,Vw w' y v→Below w.heap.size w w'→Calls Tryz.prog 58 #[v,.int .i64 ls] w' fun e w''=>e=.returned (.string (textX y ls))∧Below w'.heap.size w' w'')
  (hrec2:∀ v w' ls,Vw w' z v→Below w.heap.size w w'→Calls Tryz.prog 58 #[v,.int .i64 ls] w' fun e w''=>e=.returned (.string (textX z ls))∧Below w'.heap.size w' w'') :
  Calls Tryz.prog 58 #[v,.int .i64 least] w fun e w'=>e=.returned (.string (textX x least))∧Below w.heap.size w w':=by
 obtain ⟨A,c,rfl,hc1,hc2⟩:=hv.out
 obtain ⟨op,num,name,size,xs⟩:=x
 simp only at *
 subst hop hxs
 obtain ⟨r,hr⟩:∃ r,r=openX ⟨4,num,name,size,[y,z]⟩:=⟨_,rfl⟩
 obtain ⟨R,hR⟩:∃ R,R=textX ⟨4,num,name,size,[y,z]⟩ least:=⟨_,rfl⟩
 have hR2:R=wrapB r 1 least:=by rw [hR,hr];rfl
 rw [← hR]
 rw [← hr] at hsz
 have HR2:=Lib.hid hR2
 have hcat:r=cat [textX y 1,⟨#[32]⟩,⟨#[45]⟩,⟨#[32]⟩,textX z 2]:=hr
 have HCAT:=Lib.hid hcat
 have HSZ:=Lib.hid hsz
 clear hR hR2 hr hcat hsz
 have hk:=kindOf_calls ⟨4,num,name,size,[y,z]⟩ A 2 c
 unfold exV at *
 simp only [List.length_cons,List.length_nil,Nat.zero_add,Nat.reduceAdd] at *
 have t0:=ta152_150
 have t1:=ta152_152
 have HK:=Lib.hid hk
 have HC:=Lib.hid hc2
 have HV:=Lib.hid hv
 clear hk hc2 hv
 have HR:=Lib.hid hrec
 have HR2':=Lib.hid hrec2
 clear hrec hrec2
 go_enter Tryz.func58,Tryz.ntmps58
 go_wp2_with fail
 refine (HK.out _).mono ?_
 rintro e w1 ⟨rfl,hb1⟩
 have hk2:kindT (S31.mk 4 num name size [y,z]).f0=152:=rfl
 rw [hk2]
 have hbw:=((Below.refl _ w).alloc (Nat.le_refl _) (.cells #[.int .i64 4,.string num.f0,.string num.f1,.string name,.int .i64 size,.slice A 2 c] 31)).trans (hb1.mono (by simp))
 have hbw2:=hbw.alloc hbw.size (.cells #[.int .i64 4,.string num.f0,.string num.f1,.string name,.int .i64 size,.slice A 2 c] 152)
 obtain ⟨ad,A5,c5,rfl,q0,q1,q2,q3,q4,q5,hvw⟩:=arg_cells (xs:=[y,z]) (Kd.C_below HC.out hbw2) 0 (by simp)
 simp only [List.getElem_cons_zero,Nat.zero_mul,Addr.add_zero'] at q0 q1 q2 q3 q4 q5 hvw
 have hbl:=blk_new w1 (.cells #[.int .i64 4,.string num.f0,.string num.f1,.string name,.int .i64 size,.slice (some ad) 2 c] 152)
 obtain ⟨ad2,A7,c7,had,s0,s1,s2,s3,s4,s5,hvw2⟩:=arg_cells (xs:=[y,z]) (Kd.C_below HC.out hbw2) 1 (by simp)
 obtain rfl:ad=ad2:=by injection had
 simp only [List.getElem_cons_succ,List.getElem_cons_zero,Nat.one_mul,Addr.add_succ'] at s0 s1 s2 s3 s4 s5 hvw2
 have hkl:∀ a b:World,Below a.heap.size a b→(a.cell? ⟨w1.heap.size,0,none⟩=some (.int .i64 4)∧a.cell? ⟨w1.heap.size,1,none⟩=some (.string num.f0)∧a.cell? ⟨w1.heap.size,2,none⟩=some (.string num.f1)∧a.cell? ⟨w1.heap.size,3,none⟩=some (.string name)∧a.cell? ⟨w1.heap.size,4,none⟩=some (.int .i64 size)∧a.cell? ⟨w1.heap.size,5,none⟩=some (.slice (some ad) 2 c)∧a.cell? ad=some (.int .i64 y.f0)∧a.cell? ⟨ad.block,ad.off+1,none⟩=some (.string y.f1.f0)∧a.cell? ⟨ad.block,ad.off+2,none⟩=some (.string y.f1.f1)∧a.cell? ⟨ad.block,ad.off+3,none⟩=some (.string y.f2)∧a.cell? ⟨ad.block,ad.off+4,none⟩=some (.int .i64 y.f3)∧a.cell? ⟨ad.block,ad.off+5,none⟩=some (.slice A5 y.f4.length c5)∧a.cell? ⟨ad.block,ad.off+6,none⟩=some (.int .i64 z.f0)∧a.cell? ⟨ad.block,ad.off+6+1,none⟩=some (.string z.f1.f0)∧a.cell? ⟨ad.block,ad.off+6+2,none⟩=some (.string z.f1.f1)∧a.cell? ⟨ad.block,ad.off+6+3,none⟩=some (.string z.f2)∧a.cell? ⟨ad.block,ad.off+6+4,none⟩=some (.int .i64 z.f3)∧a.cell? ⟨ad.block,ad.off+6+5,none⟩=some (.slice A7 z.f4.length c7))→(b.cell? ⟨w1.heap.size,0,none⟩=some (.int .i64 4)∧b.cell? ⟨w1.heap.size,1,none⟩=some (.string num.f0)∧b.cell? ⟨w1.heap.size,2,none⟩=some (.string num.f1)∧b.cell? ⟨w1.heap.size,3,none⟩=some (.string name)∧b.cell? ⟨w1.heap.size,4,none⟩=some (.int .i64 size)∧b.cell? ⟨w1.heap.size,5,none⟩=some (.slice (some ad) 2 c)∧b.cell? ad=some (.int .i64 y.f0)∧b.cell? ⟨ad.block,ad.off+1,none⟩=some (.string y.f1.f0)∧b.cell? ⟨ad.block,ad.off+2,none⟩=some (.string y.f1.f1)∧b.cell? ⟨ad.block,ad.off+3,none⟩=some (.string y.f2)∧b.cell? ⟨ad.block,ad.off+4,none⟩=some (.int .i64 y.f3)∧b.cell? ⟨ad.block,ad.off+5,none⟩=some (.slice A5 y.f4.length c5)∧b.cell? ⟨ad.block,ad.off+6,none⟩=some (.int .i64 z.f0)∧b.cell? ⟨ad.block,ad.off+6+1,none⟩=some (.string z.f1.f0)∧b.cell? ⟨ad.block,ad.off+6+2,none⟩=some (.string z.f1.f1)∧b.cell? ⟨ad.block,ad.off+6+3,none⟩=some (.string z.f2)∧b.cell? ⟨ad.block,ad.off+6+4,none⟩=some (.int .i64 z.f3)∧b.cell? ⟨ad.block,ad.off+6+5,none⟩=some (.slice A7 z.f4.length c7)):=fun a b hb ⟨h0,h1,h2,h3,h4,h5,h6,h7,h8,h9,h10,h11,h12,h13,h14,h15,h16,h17⟩ =>
  ⟨pw_cell_below hb h0,pw_cell_below hb h1,pw_cell_below hb h2,pw_cell_below hb h3,pw_cell_below hb h4,pw_cell_below hb h5,pw_cell_below hb h6,pw_cell_below hb h7,pw_cell_below hb h8,pw_cell_below hb h9,pw_cell_below hb h10,pw_cell_below hb h11,pw_cell_below hb h12,pw_cell_below hb h13,pw_cell_below hb h14,pw_cell_below hb h15,pw_cell_below hb h16,pw_cell_below hb h17⟩
 obtain ⟨⟨p0,p1,p2,p3,p4,p5⟩,_,xl⟩:=cells6 hbl
 have HL:Hid (∀ b c d e f w',Calls Tryz.prog 99 #[.agg #[.int .i64 4,b,c,d,e,f]] w' fun en w''=>en=.returned (.int .i64 1)∧Below w'.heap.size w' w''):=Lib.hid (fun b c d e f w'=>lev152 4 (by simp) b c d e f w')
 have HJ:Hid (∀ W:World,Calls Tryz.prog 98 #[.slice (some ⟨W.heap.size,0,none⟩) 5 5] (W.alloc (.cells #[.string (textX y 1),.string ⟨#[32]⟩,.string (Utf8.encode 45),.string ⟨#[32]⟩,.string (textX z 2)] 9)) fun en w''=>en=.returned (.string r)∧Below (W.alloc (.cells #[.string (textX y 1),.string ⟨#[32]⟩,.string (Utf8.encode 45),.string ⟨#[32]⟩,.string (textX z 2)] 9)).heap.size (W.alloc (.cells #[.string (textX y 1),.string ⟨#[32]⟩,.string (Utf8.encode 45),.string ⟨#[32]⟩,.string (textX z 2)] 9)) w''):=Lib.hid (fun W=>by
  have hu:Utf8.encode 45=⟨#[45]⟩:=rfl
  rw [hu]
  have hj:=joined_calls W.heap.size [textX y 1,⟨#[32]⟩,⟨#[45]⟩,⟨#[32]⟩,textX z 2] 9 _ (blk_new W _) (by simp) (by rw [← HCAT.out];have:=HSZ.out;omega)
  rw [← HCAT.out] at hj
  simp only [List.length_cons,List.length_nil] at hj
  exact hj)
 go_wp2_with fail
 rw [show ∀ h,(⟨#[43,45,42,47]⟩:ByteArray)[1]'h=45 from fun _=>rfl]
 generalize hX:w1.alloc (.cells #[.int .i64 4,.string num.f0,.string num.f1,.string name,.int .i64 size,.slice (some ad) 2 c] 152)=X at *
 have K:=hkl X X.drew (Below.refl _ X).drew ⟨p0,p1,p2,p3,p4,p5,q0,q1,q2,q3,q4,q5,s0,s1,s2,s3,s4,s5⟩
 have V1:=hvw.below (Below.refl _ X).drew
 have V2:=hvw2.below (Below.refl _ X).drew
 have BW:=hbw2.drew
 have HKL:=Lib.hid hkl
 clear hkl p0 p1 p2 p3 p4 p5 q0 q1 q2 q3 q4 q5 s0 s1 s2 s3 s4 s5 hvw hvw2 hbl t0 t1
 go_region_held3 (fun w':World=>w'.cell? ⟨w1.heap.size,0,none⟩=some (.int .i64 4)∧w'.cell? ⟨w1.heap.size,1,none⟩=some (.string num.f0)∧w'.cell? ⟨w1.heap.size,2,none⟩=some (.string num.f1)∧w'.cell? ⟨w1.heap.size,3,none⟩=some (.string name)∧w'.cell? ⟨w1.heap.size,4,none⟩=some (.int .i64 size)∧w'.cell? ⟨w1.heap.size,5,none⟩=some (.slice (some ad) 2 c)∧w'.cell? ad=some (.int .i64 y.f0)∧w'.cell? ⟨ad.block,ad.off+1,none⟩=some (.string y.f1.f0)∧w'.cell? ⟨ad.block,ad.off+2,none⟩=some (.string y.f1.f1)∧w'.cell? ⟨ad.block,ad.off+3,none⟩=some (.string y.f2)∧w'.cell? ⟨ad.block,ad.off+4,none⟩=some (.int .i64 y.f3)∧w'.cell? ⟨ad.block,ad.off+5,none⟩=some (.slice A5 y.f4.length c5)∧w'.cell? ⟨ad.block,ad.off+6,none⟩=some (.int .i64 z.f0)∧w'.cell? ⟨ad.block,ad.off+6+1,none⟩=some (.string z.f1.f0)∧w'.cell? ⟨ad.block,ad.off+6+2,none⟩=some (.string z.f1.f1)∧w'.cell? ⟨ad.block,ad.off+6+3,none⟩=some (.string z.f2)∧w'.cell? ⟨ad.block,ad.off+6+4,none⟩=some (.int .i64 z.f3)∧w'.cell? ⟨ad.block,ad.off+6+5,none⟩=some (.slice A7 z.f4.length c7)) (first | exact K | exact HKL.out _ _ ((Below.refl _ _).alloc (Nat.le_refl _) _) K) (first
  | (go_at_call 99;refine (HL.out _ _ _ _ _ _).mono ?_;rintro e wq ⟨rfl,hq⟩;have K:=HKL.out _ _ hq K;have V1:=V1.below hq;have V2:=V2.below hq;have BW:=BW.trans (hq.mono BW.size))
  | (go_at_call 58;refine (HR.out _ _ _ V1 BW).mono ?_;rintro e wq ⟨rfl,hq⟩;clear HR;have K:=HKL.out _ _ hq K;have V1:=V1.below hq;have V2:=V2.below hq;have BW:=BW.trans (hq.mono BW.size))
  | (go_at_call 58;refine (HR2'.out _ _ _ V2 BW).mono ?_;rintro e wq ⟨rfl,hq⟩;have K:=HKL.out _ _ hq K;have V1:=V1.below hq;have V2:=V2.below hq;have BW:=BW.trans (hq.mono BW.size))
  | (go_at_call 98;refine (HJ.out _).mono ?_;rintro e w3 ⟨rfl,hq⟩;have K:=HKL.out _ _ hq (HKL.out _ _ ((Below.refl _ _).alloc (Nat.le_refl _) _) K);have BW:=(BW.alloc BW.size _).trans (hq.mono (by simp;have:=BW.size;omega))))
 clear HC HK HR2' HJ HKL K V1 V2 hX hbw hbw2 hb1
 have hm:=m152
 have HB:=Lib.hid BW
 have hrs:(cat [⟨#[40]⟩,r,⟨#[41]⟩]).size≤1000002:=by
  have hsz:=HSZ.out
  rw [cat_size]
  simp
  have e1:(⟨#[40]⟩:ByteArray).size=1:=rfl
  have e2:(⟨#[41]⟩:ByteArray).size=1:=rfl
  omega
 have HS:=Lib.hid hrs
 clear hrs
 cases hl':decide (1 < least)
 ·have hl:=Lib.hid (of_decide_eq_false hl')
  go_wp2_with (go_at_call 99;refine (HL.out _ _ _ _ _ _).mono ?_;rintro e w4 ⟨rfl,hb4⟩)
  go_ret
  exact ⟨by rw [HR2.out,wrapB_no (by have:=hl.out;omega)];rfl,HB.out.trans (hb4.mono HB.out.size)⟩
 ·have hl:=Lib.hid (of_decide_eq_true hl')
  go_wp2_with fail
  refine (HL.out _ _ _ _ _ _).mono ?_
  rintro e w4 ⟨rfl,hb4⟩
  go_wp2_with fail
  have hj:=joined_calls w4.heap.size [⟨#[40]⟩,r,⟨#[41]⟩] 9 _ (blk_new w4 _) (by simp) (Nat.le_trans HS.out (by omega))
  simp only [List.length_cons,List.length_nil] at hj
  refine hj.mono ?_
  rintro e w5 ⟨rfl,hb5⟩
  go_wp2
  go_ret
  have h4:=HB.out.trans (hb4.mono HB.out.size)
  exact ⟨by rw [HR2.out,wrapB_yes (by have:=hl.out;omega)];rfl,(h4.alloc h4.size (.cells #[.string ⟨#[40]⟩,.string r,.string ⟨#[41]⟩] 9)).trans (hb5.mono (by simp;have:=h4.size;omega))⟩
set_option maxRecDepth 100000 in
set_option maxHeartbeats 4000000 in
theorem text_op5 (x y z:S31) (hop:x.f0=5) (hxs:x.f4=[y,z]) (least:Int) (v:Value) (w:World) (hv:Vw w x v) (hsz:(openX x).size≤1000000)
  (hrec:∀ v w' ls,Vw w' y v→Below w.heap.size w w'→Calls Tryz.prog 58 #[v,.int .i64 ls] w' fun e w''=>e=.returned (.string (textX y ls))∧Below w'.heap.size w' w'')
  (hrec2:∀ v w' ls,Vw w' z v→Below w.heap.size w w'→Calls Tryz.prog 58 #[v,.int .i64 ls] w' fun e w''=>e=.returned (.string (textX z ls))∧Below w'.heap.size w' w'') :
  Calls Tryz.prog 58 #[v,.int .i64 least] w fun e w'=>e=.returned (.string (textX x least))∧Below w.heap.size w w':=by
 obtain ⟨A,c,rfl,hc1,hc2⟩:=hv.out
 obtain ⟨op,num,name,size,xs⟩:=x
 simp only at *
 subst hop hxs
 obtain ⟨r,hr⟩:∃ r,r=openX ⟨5,num,name,size,[y,z]⟩:=⟨_,rfl⟩
 obtain ⟨R,hR⟩:∃ R,R=textX ⟨5,num,name,size,[y,z]⟩ least:=⟨_,rfl⟩
 have hR2:R=wrapB r 2 least:=by rw [hR,hr];rfl
 rw [← hR]
 rw [← hr] at hsz
 have HR2:=Lib.hid hR2
 have hcat:r=cat [textX y 2,⟨#[32]⟩,⟨#[42]⟩,⟨#[32]⟩,textX z 3]:=hr
 have HCAT:=Lib.hid hcat
 have HSZ:=Lib.hid hsz
 clear hR hR2 hr hcat hsz
 have hk:=kindOf_calls ⟨5,num,name,size,[y,z]⟩ A 2 c
 unfold exV at *
 simp only [List.length_cons,List.length_nil,Nat.zero_add,Nat.reduceAdd] at *
 have t0:=ta152_150
 have t1:=ta152_152
 have HK:=Lib.hid hk
 have HC:=Lib.hid hc2
 have HV:=Lib.hid hv
 clear hk hc2 hv
 have HR:=Lib.hid hrec
 have HR2':=Lib.hid hrec2
 clear hrec hrec2
 go_enter Tryz.func58,Tryz.ntmps58
 go_wp2_with fail
 refine (HK.out _).mono ?_
 rintro e w1 ⟨rfl,hb1⟩
 have hk2:kindT (S31.mk 5 num name size [y,z]).f0=152:=rfl
 rw [hk2]
 have hbw:=((Below.refl _ w).alloc (Nat.le_refl _) (.cells #[.int .i64 5,.string num.f0,.string num.f1,.string name,.int .i64 size,.slice A 2 c] 31)).trans (hb1.mono (by simp))
 have hbw2:=hbw.alloc hbw.size (.cells #[.int .i64 5,.string num.f0,.string num.f1,.string name,.int .i64 size,.slice A 2 c] 152)
 obtain ⟨ad,A5,c5,rfl,q0,q1,q2,q3,q4,q5,hvw⟩:=arg_cells (xs:=[y,z]) (Kd.C_below HC.out hbw2) 0 (by simp)
 simp only [List.getElem_cons_zero,Nat.zero_mul,Addr.add_zero'] at q0 q1 q2 q3 q4 q5 hvw
 have hbl:=blk_new w1 (.cells #[.int .i64 5,.string num.f0,.string num.f1,.string name,.int .i64 size,.slice (some ad) 2 c] 152)
 obtain ⟨ad2,A7,c7,had,s0,s1,s2,s3,s4,s5,hvw2⟩:=arg_cells (xs:=[y,z]) (Kd.C_below HC.out hbw2) 1 (by simp)
 obtain rfl:ad=ad2:=by injection had
 simp only [List.getElem_cons_succ,List.getElem_cons_zero,Nat.one_mul,Addr.add_succ'] at s0 s1 s2 s3 s4 s5 hvw2
 have hkl:∀ a b:World,Below a.heap.size a b→(a.cell? ⟨w1.heap.size,0,none⟩=some (.int .i64 5)∧a.cell? ⟨w1.heap.size,1,none⟩=some (.string num.f0)∧a.cell? ⟨w1.heap.size,2,none⟩=some (.string num.f1)∧a.cell? ⟨w1.heap.size,3,none⟩=some (.string name)∧a.cell? ⟨w1.heap.size,4,none⟩=some (.int .i64 size)∧a.cell? ⟨w1.heap.size,5,none⟩=some (.slice (some ad) 2 c)∧a.cell? ad=some (.int .i64 y.f0)∧a.cell? ⟨ad.block,ad.off+1,none⟩=some (.string y.f1.f0)∧a.cell? ⟨ad.block,ad.off+2,none⟩=some (.string y.f1.f1)∧a.cell? ⟨ad.block,ad.off+3,none⟩=some (.string y.f2)∧a.cell? ⟨ad.block,ad.off+4,none⟩=some (.int .i64 y.f3)∧a.cell? ⟨ad.block,ad.off+5,none⟩=some (.slice A5 y.f4.length c5)∧a.cell? ⟨ad.block,ad.off+6,none⟩=some (.int .i64 z.f0)∧a.cell? ⟨ad.block,ad.off+6+1,none⟩=some (.string z.f1.f0)∧a.cell? ⟨ad.block,ad.off+6+2,none⟩=some (.string z.f1.f1)∧a.cell? ⟨ad.block,ad.off+6+3,none⟩=some (.string z.f2)∧a.cell? ⟨ad.block,ad.off+6+4,none⟩=some (.int .i64 z.f3)∧a.cell? ⟨ad.block,ad.off+6+5,none⟩=some (.slice A7 z.f4.length c7))→(b.cell? ⟨w1.heap.size,0,none⟩=some (.int .i64 5)∧b.cell? ⟨w1.heap.size,1,none⟩=some (.string num.f0)∧b.cell? ⟨w1.heap.size,2,none⟩=some (.string num.f1)∧b.cell? ⟨w1.heap.size,3,none⟩=some (.string name)∧b.cell? ⟨w1.heap.size,4,none⟩=some (.int .i64 size)∧b.cell? ⟨w1.heap.size,5,none⟩=some (.slice (some ad) 2 c)∧b.cell? ad=some (.int .i64 y.f0)∧b.cell? ⟨ad.block,ad.off+1,none⟩=some (.string y.f1.f0)∧b.cell? ⟨ad.block,ad.off+2,none⟩=some (.string y.f1.f1)∧b.cell? ⟨ad.block,ad.off+3,none⟩=some (.string y.f2)∧b.cell? ⟨ad.block,ad.off+4,none⟩=some (.int .i64 y.f3)∧b.cell? ⟨ad.block,ad.off+5,none⟩=some (.slice A5 y.f4.length c5)∧b.cell? ⟨ad.block,ad.off+6,none⟩=some (.int .i64 z.f0)∧b.cell? ⟨ad.block,ad.off+6+1,none⟩=some (.string z.f1.f0)∧b.cell? ⟨ad.block,ad.off+6+2,none⟩=some (.string z.f1.f1)∧b.cell? ⟨ad.block,ad.off+6+3,none⟩=some (.string z.f2)∧b.cell? ⟨ad.block,ad.off+6+4,none⟩=some (.int .i64 z.f3)∧b.cell? ⟨ad.block,ad.off+6+5,none⟩=some (.slice A7 z.f4.length c7)):=fun a b hb ⟨h0,h1,h2,h3,h4,h5,h6,h7,h8,h9,h10,h11,h12,h13,h14,h15,h16,h17⟩ =>
  ⟨pw_cell_below hb h0,pw_cell_below hb h1,pw_cell_below hb h2,pw_cell_below hb h3,pw_cell_below hb h4,pw_cell_below hb h5,pw_cell_below hb h6,pw_cell_below hb h7,pw_cell_below hb h8,pw_cell_below hb h9,pw_cell_below hb h10,pw_cell_below hb h11,pw_cell_below hb h12,pw_cell_below hb h13,pw_cell_below hb h14,pw_cell_below hb h15,pw_cell_below hb h16,pw_cell_below hb h17⟩
 obtain ⟨⟨p0,p1,p2,p3,p4,p5⟩,_,xl⟩:=cells6 hbl
 have HL:Hid (∀ b c d e f w',Calls Tryz.prog 99 #[.agg #[.int .i64 5,b,c,d,e,f]] w' fun en w''=>en=.returned (.int .i64 2)∧Below w'.heap.size w' w''):=Lib.hid (fun b c d e f w'=>lev152 5 (by simp) b c d e f w')
 have HJ:Hid (∀ W:World,Calls Tryz.prog 98 #[.slice (some ⟨W.heap.size,0,none⟩) 5 5] (W.alloc (.cells #[.string (textX y 2),.string ⟨#[32]⟩,.string (Utf8.encode 42),.string ⟨#[32]⟩,.string (textX z 3)] 9)) fun en w''=>en=.returned (.string r)∧Below (W.alloc (.cells #[.string (textX y 2),.string ⟨#[32]⟩,.string (Utf8.encode 42),.string ⟨#[32]⟩,.string (textX z 3)] 9)).heap.size (W.alloc (.cells #[.string (textX y 2),.string ⟨#[32]⟩,.string (Utf8.encode 42),.string ⟨#[32]⟩,.string (textX z 3)] 9)) w''):=Lib.hid (fun W=>by
  have hu:Utf8.encode 42=⟨#[42]⟩:=rfl
  rw [hu]
  have hj:=joined_calls W.heap.size [textX y 2,⟨#[32]⟩,⟨#[42]⟩,⟨#[32]⟩,textX z 3] 9 _ (blk_new W _) (by simp) (by rw [← HCAT.out];have:=HSZ.out;omega)
  rw [← HCAT.out] at hj
  simp only [List.length_cons,List.length_nil] at hj
  exact hj)
 go_wp2_with fail
 rw [show ∀ h,(⟨#[43,45,42,47]⟩:ByteArray)[2]'h=42 from fun _=>rfl]
 generalize hX:w1.alloc (.cells #[.int .i64 5,.string num.f0,.string num.f1,.string name,.int .i64 size,.slice (some ad) 2 c] 152)=X at *
 have K:=hkl X X.drew (Below.refl _ X).drew ⟨p0,p1,p2,p3,p4,p5,q0,q1,q2,q3,q4,q5,s0,s1,s2,s3,s4,s5⟩
 have V1:=hvw.below (Below.refl _ X).drew
 have V2:=hvw2.below (Below.refl _ X).drew
 have BW:=hbw2.drew
 have HKL:=Lib.hid hkl
 clear hkl p0 p1 p2 p3 p4 p5 q0 q1 q2 q3 q4 q5 s0 s1 s2 s3 s4 s5 hvw hvw2 hbl t0 t1
 go_region_held3 (fun w':World=>w'.cell? ⟨w1.heap.size,0,none⟩=some (.int .i64 5)∧w'.cell? ⟨w1.heap.size,1,none⟩=some (.string num.f0)∧w'.cell? ⟨w1.heap.size,2,none⟩=some (.string num.f1)∧w'.cell? ⟨w1.heap.size,3,none⟩=some (.string name)∧w'.cell? ⟨w1.heap.size,4,none⟩=some (.int .i64 size)∧w'.cell? ⟨w1.heap.size,5,none⟩=some (.slice (some ad) 2 c)∧w'.cell? ad=some (.int .i64 y.f0)∧w'.cell? ⟨ad.block,ad.off+1,none⟩=some (.string y.f1.f0)∧w'.cell? ⟨ad.block,ad.off+2,none⟩=some (.string y.f1.f1)∧w'.cell? ⟨ad.block,ad.off+3,none⟩=some (.string y.f2)∧w'.cell? ⟨ad.block,ad.off+4,none⟩=some (.int .i64 y.f3)∧w'.cell? ⟨ad.block,ad.off+5,none⟩=some (.slice A5 y.f4.length c5)∧w'.cell? ⟨ad.block,ad.off+6,none⟩=some (.int .i64 z.f0)∧w'.cell? ⟨ad.block,ad.off+6+1,none⟩=some (.string z.f1.f0)∧w'.cell? ⟨ad.block,ad.off+6+2,none⟩=some (.string z.f1.f1)∧w'.cell? ⟨ad.block,ad.off+6+3,none⟩=some (.string z.f2)∧w'.cell? ⟨ad.block,ad.off+6+4,none⟩=some (.int .i64 z.f3)∧w'.cell? ⟨ad.block,ad.off+6+5,none⟩=some (.slice A7 z.f4.length c7)) (first | exact K | exact HKL.out _ _ ((Below.refl _ _).alloc (Nat.le_refl _) _) K) (first
  | (go_at_call 99;refine (HL.out _ _ _ _ _ _).mono ?_;rintro e wq ⟨rfl,hq⟩;have K:=HKL.out _ _ hq K;have V1:=V1.below hq;have V2:=V2.below hq;have BW:=BW.trans (hq.mono BW.size))
  | (go_at_call 58;refine (HR.out _ _ _ V1 BW).mono ?_;rintro e wq ⟨rfl,hq⟩;clear HR;have K:=HKL.out _ _ hq K;have V1:=V1.below hq;have V2:=V2.below hq;have BW:=BW.trans (hq.mono BW.size))
  | (go_at_call 58;refine (HR2'.out _ _ _ V2 BW).mono ?_;rintro e wq ⟨rfl,hq⟩;have K:=HKL.out _ _ hq K;have V1:=V1.below hq;have V2:=V2.below hq;have BW:=BW.trans (hq.mono BW.size))
  | (go_at_call 98;refine (HJ.out _).mono ?_;rintro e w3 ⟨rfl,hq⟩;have K:=HKL.out _ _ hq (HKL.out _ _ ((Below.refl _ _).alloc (Nat.le_refl _) _) K);have BW:=(BW.alloc BW.size _).trans (hq.mono (by simp;have:=BW.size;omega))))
 clear HC HK HR2' HJ HKL K V1 V2 hX hbw hbw2 hb1
 have hm:=m152
 have HB:=Lib.hid BW
 have hrs:(cat [⟨#[40]⟩,r,⟨#[41]⟩]).size≤1000002:=by
  have hsz:=HSZ.out
  rw [cat_size]
  simp
  have e1:(⟨#[40]⟩:ByteArray).size=1:=rfl
  have e2:(⟨#[41]⟩:ByteArray).size=1:=rfl
  omega
 have HS:=Lib.hid hrs
 clear hrs
 cases hl':decide (2 < least)
 ·have hl:=Lib.hid (of_decide_eq_false hl')
  go_wp2_with (go_at_call 99;refine (HL.out _ _ _ _ _ _).mono ?_;rintro e w4 ⟨rfl,hb4⟩)
  go_ret
  exact ⟨by rw [HR2.out,wrapB_no (by have:=hl.out;omega)];rfl,HB.out.trans (hb4.mono HB.out.size)⟩
 ·have hl:=Lib.hid (of_decide_eq_true hl')
  go_wp2_with fail
  refine (HL.out _ _ _ _ _ _).mono ?_
  rintro e w4 ⟨rfl,hb4⟩
  go_wp2_with fail
  have hj:=joined_calls w4.heap.size [⟨#[40]⟩,r,⟨#[41]⟩] 9 _ (blk_new w4 _) (by simp) (Nat.le_trans HS.out (by omega))
  simp only [List.length_cons,List.length_nil] at hj
  refine hj.mono ?_
  rintro e w5 ⟨rfl,hb5⟩
  go_wp2
  go_ret
  have h4:=HB.out.trans (hb4.mono HB.out.size)
  exact ⟨by rw [HR2.out,wrapB_yes (by have:=hl.out;omega)];rfl,(h4.alloc h4.size (.cells #[.string ⟨#[40]⟩,.string r,.string ⟨#[41]⟩] 9)).trans (hb5.mono (by simp;have:=h4.size;omega))⟩
set_option maxRecDepth 100000 in
set_option maxHeartbeats 4000000 in
theorem text_op6 (x y z:S31) (hop:x.f0=6) (hxs:x.f4=[y,z]) (least:Int) (v:Value) (w:World) (hv:Vw w x v) (hsz:(openX x).size≤1000000)
  (hrec:∀ v w' ls,Vw w' y v→Below w.heap.size w w'→Calls Tryz.prog 58 #[v,.int .i64 ls] w' fun e w''=>e=.returned (.string (textX y ls))∧Below w'.heap.size w' w'')
  (hrec2:∀ v w' ls,Vw w' z v→Below w.heap.size w w'→Calls Tryz.prog 58 #[v,.int .i64 ls] w' fun e w''=>e=.returned (.string (textX z ls))∧Below w'.heap.size w' w'') :
  Calls Tryz.prog 58 #[v,.int .i64 least] w fun e w'=>e=.returned (.string (textX x least))∧Below w.heap.size w w':=by
 obtain ⟨A,c,rfl,hc1,hc2⟩:=hv.out
 obtain ⟨op,num,name,size,xs⟩:=x
 simp only at *
 subst hop hxs
 obtain ⟨r,hr⟩:∃ r,r=openX ⟨6,num,name,size,[y,z]⟩:=⟨_,rfl⟩
 obtain ⟨R,hR⟩:∃ R,R=textX ⟨6,num,name,size,[y,z]⟩ least:=⟨_,rfl⟩
 have hR2:R=wrapB r 2 least:=by rw [hR,hr];rfl
 rw [← hR]
 rw [← hr] at hsz
 have HR2:=Lib.hid hR2
 have hcat:r=cat [textX y 2,⟨#[32]⟩,⟨#[47]⟩,⟨#[32]⟩,textX z 3]:=hr
 have HCAT:=Lib.hid hcat
 have HSZ:=Lib.hid hsz
 clear hR hR2 hr hcat hsz
 have hk:=kindOf_calls ⟨6,num,name,size,[y,z]⟩ A 2 c
 unfold exV at *
 simp only [List.length_cons,List.length_nil,Nat.zero_add,Nat.reduceAdd] at *
 have t0:=ta152_150
 have t1:=ta152_152
 have HK:=Lib.hid hk
 have HC:=Lib.hid hc2
 have HV:=Lib.hid hv
 clear hk hc2 hv
 have HR:=Lib.hid hrec
 have HR2':=Lib.hid hrec2
 clear hrec hrec2
 go_enter Tryz.func58,Tryz.ntmps58
 go_wp2_with fail
 refine (HK.out _).mono ?_
 rintro e w1 ⟨rfl,hb1⟩
 have hk2:kindT (S31.mk 6 num name size [y,z]).f0=152:=rfl
 rw [hk2]
 have hbw:=((Below.refl _ w).alloc (Nat.le_refl _) (.cells #[.int .i64 6,.string num.f0,.string num.f1,.string name,.int .i64 size,.slice A 2 c] 31)).trans (hb1.mono (by simp))
 have hbw2:=hbw.alloc hbw.size (.cells #[.int .i64 6,.string num.f0,.string num.f1,.string name,.int .i64 size,.slice A 2 c] 152)
 obtain ⟨ad,A5,c5,rfl,q0,q1,q2,q3,q4,q5,hvw⟩:=arg_cells (xs:=[y,z]) (Kd.C_below HC.out hbw2) 0 (by simp)
 simp only [List.getElem_cons_zero,Nat.zero_mul,Addr.add_zero'] at q0 q1 q2 q3 q4 q5 hvw
 have hbl:=blk_new w1 (.cells #[.int .i64 6,.string num.f0,.string num.f1,.string name,.int .i64 size,.slice (some ad) 2 c] 152)
 obtain ⟨ad2,A7,c7,had,s0,s1,s2,s3,s4,s5,hvw2⟩:=arg_cells (xs:=[y,z]) (Kd.C_below HC.out hbw2) 1 (by simp)
 obtain rfl:ad=ad2:=by injection had
 simp only [List.getElem_cons_succ,List.getElem_cons_zero,Nat.one_mul,Addr.add_succ'] at s0 s1 s2 s3 s4 s5 hvw2
 have hkl:∀ a b:World,Below a.heap.size a b→(a.cell? ⟨w1.heap.size,0,none⟩=some (.int .i64 6)∧a.cell? ⟨w1.heap.size,1,none⟩=some (.string num.f0)∧a.cell? ⟨w1.heap.size,2,none⟩=some (.string num.f1)∧a.cell? ⟨w1.heap.size,3,none⟩=some (.string name)∧a.cell? ⟨w1.heap.size,4,none⟩=some (.int .i64 size)∧a.cell? ⟨w1.heap.size,5,none⟩=some (.slice (some ad) 2 c)∧a.cell? ad=some (.int .i64 y.f0)∧a.cell? ⟨ad.block,ad.off+1,none⟩=some (.string y.f1.f0)∧a.cell? ⟨ad.block,ad.off+2,none⟩=some (.string y.f1.f1)∧a.cell? ⟨ad.block,ad.off+3,none⟩=some (.string y.f2)∧a.cell? ⟨ad.block,ad.off+4,none⟩=some (.int .i64 y.f3)∧a.cell? ⟨ad.block,ad.off+5,none⟩=some (.slice A5 y.f4.length c5)∧a.cell? ⟨ad.block,ad.off+6,none⟩=some (.int .i64 z.f0)∧a.cell? ⟨ad.block,ad.off+6+1,none⟩=some (.string z.f1.f0)∧a.cell? ⟨ad.block,ad.off+6+2,none⟩=some (.string z.f1.f1)∧a.cell? ⟨ad.block,ad.off+6+3,none⟩=some (.string z.f2)∧a.cell? ⟨ad.block,ad.off+6+4,none⟩=some (.int .i64 z.f3)∧a.cell? ⟨ad.block,ad.off+6+5,none⟩=some (.slice A7 z.f4.length c7))→(b.cell? ⟨w1.heap.size,0,none⟩=some (.int .i64 6)∧b.cell? ⟨w1.heap.size,1,none⟩=some (.string num.f0)∧b.cell? ⟨w1.heap.size,2,none⟩=some (.string num.f1)∧b.cell? ⟨w1.heap.size,3,none⟩=some (.string name)∧b.cell? ⟨w1.heap.size,4,none⟩=some (.int .i64 size)∧b.cell? ⟨w1.heap.size,5,none⟩=some (.slice (some ad) 2 c)∧b.cell? ad=some (.int .i64 y.f0)∧b.cell? ⟨ad.block,ad.off+1,none⟩=some (.string y.f1.f0)∧b.cell? ⟨ad.block,ad.off+2,none⟩=some (.string y.f1.f1)∧b.cell? ⟨ad.block,ad.off+3,none⟩=some (.string y.f2)∧b.cell? ⟨ad.block,ad.off+4,none⟩=some (.int .i64 y.f3)∧b.cell? ⟨ad.block,ad.off+5,none⟩=some (.slice A5 y.f4.length c5)∧b.cell? ⟨ad.block,ad.off+6,none⟩=some (.int .i64 z.f0)∧b.cell? ⟨ad.block,ad.off+6+1,none⟩=some (.string z.f1.f0)∧b.cell? ⟨ad.block,ad.off+6+2,none⟩=some (.string z.f1.f1)∧b.cell? ⟨ad.block,ad.off+6+3,none⟩=some (.string z.f2)∧b.cell? ⟨ad.block,ad.off+6+4,none⟩=some (.int .i64 z.f3)∧b.cell? ⟨ad.block,ad.off+6+5,none⟩=some (.slice A7 z.f4.length c7)):=fun a b hb ⟨h0,h1,h2,h3,h4,h5,h6,h7,h8,h9,h10,h11,h12,h13,h14,h15,h16,h17⟩ =>
  ⟨pw_cell_below hb h0,pw_cell_below hb h1,pw_cell_below hb h2,pw_cell_below hb h3,pw_cell_below hb h4,pw_cell_below hb h5,pw_cell_below hb h6,pw_cell_below hb h7,pw_cell_below hb h8,pw_cell_below hb h9,pw_cell_below hb h10,pw_cell_below hb h11,pw_cell_below hb h12,pw_cell_below hb h13,pw_cell_below hb h14,pw_cell_below hb h15,pw_cell_below hb h16,pw_cell_below hb h17⟩
 obtain ⟨⟨p0,p1,p2,p3,p4,p5⟩,_,xl⟩:=cells6 hbl
 have HL:Hid (∀ b c d e f w',Calls Tryz.prog 99 #[.agg #[.int .i64 6,b,c,d,e,f]] w' fun en w''=>en=.returned (.int .i64 2)∧Below w'.heap.size w' w''):=Lib.hid (fun b c d e f w'=>lev152 6 (by simp) b c d e f w')
 have HJ:Hid (∀ W:World,Calls Tryz.prog 98 #[.slice (some ⟨W.heap.size,0,none⟩) 5 5] (W.alloc (.cells #[.string (textX y 2),.string ⟨#[32]⟩,.string (Utf8.encode 47),.string ⟨#[32]⟩,.string (textX z 3)] 9)) fun en w''=>en=.returned (.string r)∧Below (W.alloc (.cells #[.string (textX y 2),.string ⟨#[32]⟩,.string (Utf8.encode 47),.string ⟨#[32]⟩,.string (textX z 3)] 9)).heap.size (W.alloc (.cells #[.string (textX y 2),.string ⟨#[32]⟩,.string (Utf8.encode 47),.string ⟨#[32]⟩,.string (textX z 3)] 9)) w''):=Lib.hid (fun W=>by
  have hu:Utf8.encode 47=⟨#[47]⟩:=rfl
  rw [hu]
  have hj:=joined_calls W.heap.size [textX y 2,⟨#[32]⟩,⟨#[47]⟩,⟨#[32]⟩,textX z 3] 9 _ (blk_new W _) (by simp) (by rw [← HCAT.out];have:=HSZ.out;omega)
  rw [← HCAT.out] at hj
  simp only [List.length_cons,List.length_nil] at hj
  exact hj)
 go_wp2_with fail
 rw [show ∀ h,(⟨#[43,45,42,47]⟩:ByteArray)[3]'h=47 from fun _=>rfl]
 generalize hX:w1.alloc (.cells #[.int .i64 6,.string num.f0,.string num.f1,.string name,.int .i64 size,.slice (some ad) 2 c] 152)=X at *
 have K:=hkl X X.drew (Below.refl _ X).drew ⟨p0,p1,p2,p3,p4,p5,q0,q1,q2,q3,q4,q5,s0,s1,s2,s3,s4,s5⟩
 have V1:=hvw.below (Below.refl _ X).drew
 have V2:=hvw2.below (Below.refl _ X).drew
 have BW:=hbw2.drew
 have HKL:=Lib.hid hkl
 clear hkl p0 p1 p2 p3 p4 p5 q0 q1 q2 q3 q4 q5 s0 s1 s2 s3 s4 s5 hvw hvw2 hbl t0 t1
 go_region_held3 (fun w':World=>w'.cell? ⟨w1.heap.size,0,none⟩=some (.int .i64 6)∧w'.cell? ⟨w1.heap.size,1,none⟩=some (.string num.f0)∧w'.cell? ⟨w1.heap.size,2,none⟩=some (.string num.f1)∧w'.cell? ⟨w1.heap.size,3,none⟩=some (.string name)∧w'.cell? ⟨w1.heap.size,4,none⟩=some (.int .i64 size)∧w'.cell? ⟨w1.heap.size,5,none⟩=some (.slice (some ad) 2 c)∧w'.cell? ad=some (.int .i64 y.f0)∧w'.cell? ⟨ad.block,ad.off+1,none⟩=some (.string y.f1.f0)∧w'.cell? ⟨ad.block,ad.off+2,none⟩=some (.string y.f1.f1)∧w'.cell? ⟨ad.block,ad.off+3,none⟩=some (.string y.f2)∧w'.cell? ⟨ad.block,ad.off+4,none⟩=some (.int .i64 y.f3)∧w'.cell? ⟨ad.block,ad.off+5,none⟩=some (.slice A5 y.f4.length c5)∧w'.cell? ⟨ad.block,ad.off+6,none⟩=some (.int .i64 z.f0)∧w'.cell? ⟨ad.block,ad.off+6+1,none⟩=some (.string z.f1.f0)∧w'.cell? ⟨ad.block,ad.off+6+2,none⟩=some (.string z.f1.f1)∧w'.cell? ⟨ad.block,ad.off+6+3,none⟩=some (.string z.f2)∧w'.cell? ⟨ad.block,ad.off+6+4,none⟩=some (.int .i64 z.f3)∧w'.cell? ⟨ad.block,ad.off+6+5,none⟩=some (.slice A7 z.f4.length c7)) (first | exact K | exact HKL.out _ _ ((Below.refl _ _).alloc (Nat.le_refl _) _) K) (first
  | (go_at_call 99;refine (HL.out _ _ _ _ _ _).mono ?_;rintro e wq ⟨rfl,hq⟩;have K:=HKL.out _ _ hq K;have V1:=V1.below hq;have V2:=V2.below hq;have BW:=BW.trans (hq.mono BW.size))
  | (go_at_call 58;refine (HR.out _ _ _ V1 BW).mono ?_;rintro e wq ⟨rfl,hq⟩;clear HR;have K:=HKL.out _ _ hq K;have V1:=V1.below hq;have V2:=V2.below hq;have BW:=BW.trans (hq.mono BW.size))
  | (go_at_call 58;refine (HR2'.out _ _ _ V2 BW).mono ?_;rintro e wq ⟨rfl,hq⟩;have K:=HKL.out _ _ hq K;have V1:=V1.below hq;have V2:=V2.below hq;have BW:=BW.trans (hq.mono BW.size))
  | (go_at_call 98;refine (HJ.out _).mono ?_;rintro e w3 ⟨rfl,hq⟩;have K:=HKL.out _ _ hq (HKL.out _ _ ((Below.refl _ _).alloc (Nat.le_refl _) _) K);have BW:=(BW.alloc BW.size _).trans (hq.mono (by simp;have:=BW.size;omega))))
 clear HC HK HR2' HJ HKL K V1 V2 hX hbw hbw2 hb1
 have hm:=m152
 have HB:=Lib.hid BW
 have hrs:(cat [⟨#[40]⟩,r,⟨#[41]⟩]).size≤1000002:=by
  have hsz:=HSZ.out
  rw [cat_size]
  simp
  have e1:(⟨#[40]⟩:ByteArray).size=1:=rfl
  have e2:(⟨#[41]⟩:ByteArray).size=1:=rfl
  omega
 have HS:=Lib.hid hrs
 clear hrs
 cases hl':decide (2 < least)
 ·have hl:=Lib.hid (of_decide_eq_false hl')
  go_wp2_with (go_at_call 99;refine (HL.out _ _ _ _ _ _).mono ?_;rintro e w4 ⟨rfl,hb4⟩)
  go_ret
  exact ⟨by rw [HR2.out,wrapB_no (by have:=hl.out;omega)];rfl,HB.out.trans (hb4.mono HB.out.size)⟩
 ·have hl:=Lib.hid (of_decide_eq_true hl')
  go_wp2_with fail
  refine (HL.out _ _ _ _ _ _).mono ?_
  rintro e w4 ⟨rfl,hb4⟩
  go_wp2_with fail
  have hj:=joined_calls w4.heap.size [⟨#[40]⟩,r,⟨#[41]⟩] 9 _ (blk_new w4 _) (by simp) (Nat.le_trans HS.out (by omega))
  simp only [List.length_cons,List.length_nil] at hj
  refine hj.mono ?_
  rintro e w5 ⟨rfl,hb5⟩
  go_wp2
  go_ret
  have h4:=HB.out.trans (hb4.mono HB.out.size)
  exact ⟨by rw [HR2.out,wrapB_yes (by have:=hl.out;omega)];rfl,(h4.alloc h4.size (.cells #[.string ⟨#[40]⟩,.string r,.string ⟨#[41]⟩] 9)).trans (hb5.mono (by simp;have:=h4.size;omega))⟩
end Go.Proofs.YtjaobihcdkjmbaaGreatDoor
end
section
namespace Go.Proofs.YtjaobihcdkjmbaaGreatDoor
open Go.RowKit Go.Proofs.YtjaobihcdkjmbaaGreatDoorW.PrintWords Go.Proofs.YtjaobihcdkjmbaaGreatDoor.PReadTokens
def txt1 (x:S31):Bool :=
 decide ((openX x).size≤1000000) && ((decide (x.f0=1) && decide (x.f4.length=0)) || (decide (x.f0=2) && decide (x.f4.length=1)) || ((decide (x.f0=3) || decide (x.f0=4) || decide (x.f0=5) || decide (x.f0=6)) && decide (x.f4.length=2)) ||
  (decide (x.f0=7) && decide (x.f4.length=1) && decide (-9≤x.f3) && decide (x.f3≤9)))
mutual
def txtB:S31→Bool
 | ⟨a,b,c,d,l⟩=>txt1 ⟨a,b,c,d,l⟩ && txtL l
def txtL:List S31→Bool
 | []=>true
 | x :: l=>txtB x && txtL l
end
theorem txtB_eq (x:S31):txtB x=(txt1 x && txtL x.f4):=by cases x;rfl
theorem len0 {l:List S31} (h:l.length=0):l=[]:=List.eq_nil_of_length_eq_zero h
theorem len1 {l:List S31} (h:l.length=1):∃ y,l=[y]:=List.length_eq_one_iff.1 h
theorem len2 {l:List S31} (h:l.length=2):∃ y z,l=[y,z]:=by
 match l,h with
 | [y,z],_=>exact ⟨y,z,rfl⟩
theorem text_calls:∀ (n:Nat) (x:S31),depthX x≤n→txtB x=true→∀ (least:Int) (v:Value) (w:World),Vw w x v→Tab w →
  Calls Tryz.prog 58 #[v,.int .i64 least] w fun e w'=>e=.returned (.string (textX x least))∧Below w.heap.size w w':=by
 intro n
 induction n with
 | zero=>intro x h;rw [depthX_eq] at h;omega
 | succ n ih =>
  intro x hd hx least v w hv hT
  rw [txtB_eq,Bool.and_eq_true] at hx
  obtain ⟨h1,h2⟩:=hx
  unfold txt1 at h1
  simp only [Bool.and_eq_true,Bool.or_eq_true,decide_eq_true_eq] at h1
  obtain ⟨hsz,hk⟩:=h1
  rw [depthX_eq] at hd
  have hrec:∀ y,y ∈ x.f4→txtB y=true→∀ v w' ls,Vw w' y v→Below w.heap.size w w'→Calls Tryz.prog 58 #[v,.int .i64 ls] w' fun e w''=>e=.returned (.string (textX y ls))∧Below w'.heap.size w' w'':=by
   intro y hy hty v w' ls hv' hb
   have:=depthX_mem hy
   exact ih y (by omega) hty ls v w' hv' (hT.below hb)
  rcases hk with ((⟨ho,hl⟩ | ⟨ho,hl⟩) | ⟨ho,hl⟩) | ⟨⟨⟨ho,hl⟩,hs0⟩,hs1⟩
  ·exact text_ref x ho (len0 hl) least v w hv hsz
  ·obtain ⟨y,hy⟩:=len1 hl
   rw [hy] at h2 hrec
   simp only [txtL,Bool.and_eq_true] at h2
   exact text_ahead x y ho hy least v w hv hsz (hrec y (by simp) h2.1)
  ·obtain ⟨y,z,hy⟩:=len2 hl
   rw [hy] at h2 hrec
   simp only [txtL,Bool.and_eq_true] at h2
   rcases ho with ((ho | ho) | ho) | ho
   ·exact text_op3 x y z ho hy least v w hv hsz (hrec y (by simp) h2.1) (hrec z (by simp) h2.2.1)
   ·exact text_op4 x y z ho hy least v w hv hsz (hrec y (by simp) h2.1) (hrec z (by simp) h2.2.1)
   ·exact text_op5 x y z ho hy least v w hv hsz (hrec y (by simp) h2.1) (hrec z (by simp) h2.2.1)
   ·exact text_op6 x y z ho hy least v w hv hsz (hrec y (by simp) h2.1) (hrec z (by simp) h2.2.1)
  ·obtain ⟨y,hy⟩:=len1 hl
   rw [hy] at h2 hrec
   simp only [txtL,Bool.and_eq_true] at h2
   exact text_pow x y ho hy (by omega) (by omega) least v w hv hsz hT (hrec y (by simp) h2.1)
end Go.Proofs.YtjaobihcdkjmbaaGreatDoor
end
section
namespace Go.Proofs.YtjaobihcdkjmbaaGreatDoor
open Go.RowKit Go.Proofs.YtjaobihcdkjmbaaGreatDoorW.PrintWords Go.Proofs.YtjaobihcdkjmbaaGreatDoor.PReadTokens
set_option maxRecDepth 100000 in
set_option maxHeartbeats 2000000 in
theorem wrong_ok (chk:S28→Int) (s:ByteArray) (h:Readable chk s) (at_:Int) (hr:readS chk s=(z31,at_,1)) (hpl:0≤placeS chk s) (w:World) (hS:Start w) :
  Calls Tryz.prog 45 #[.string s,.int .i64 at_] w fun e w'=>e=.returned (.bool true)∧Below w.heap.size w w':=by
 have hrd:=ReadExpr_calls chk s h w hS (fun hl=>by omega)
 unfold ReadPost at hrd
 rw [hr] at hrd
 simp only at hrd
 have heq:(at_ == at_)=true:=by simp
 go_enter Tryz.func45,Tryz.ntmps45
 go_wp2_with fail
 refine hrd.mono ?_
 rintro e w1 ⟨v5,rfl,hx,hb1⟩
 obtain ⟨A,c,hv5,hc1,hc2⟩:=hx.vw.out
 obtain rfl:=exV_inj hv5
 have hex:exV z31 (.slice A z31.f4.length c)=.agg #[.int .i64 0,.string ⟨#[]⟩,.string ⟨#[]⟩,.string ⟨#[]⟩,.int .i64 0,.slice A 0 c]:=rfl
 rw [hex]
 clear hx hv5 hc1 hc2
 go_wp2
 go_ret
 exact ⟨rfl,hb1.alloc hb1.size _⟩
end Go.Proofs.YtjaobihcdkjmbaaGreatDoor
end
section
namespace Go.Proofs
open Go.RowKit Go.Maps Go.Sort Go.Shelf
def Tryz.copy110_ren:Go.Shelf.Ren:=⟨fun | 5=>110 | n=>n,fun | 23=>116 | 24=>116 | 26=>9 | 27=>4 | 0=>0 | 4=>4 | n=>n,fun | n=>n⟩
theorem Tryz.copy110:Go.Proofs.SlLaysX.n5 Tryz.prog Tryz.copy110_ren:={
  mixed:=by kernel_rfl
  f5:=⟨Tryz.f110.name,by decide,Tryz.func110.trans (congrArg some (by kernel_rfl))⟩
  t0:=Tryz.underlying0
  a0:=Tryz.isAgg0
  z0:=Tryz.sizeOf0
  v0:=Tryz.zeroValue0
  t4:=Tryz.underlying4
  a4:=Tryz.isAgg4
  z4:=Tryz.sizeOf4
  v4:=Tryz.zeroValue4
  t23:=Tryz.underlying116
  a23:=Tryz.isAgg116
  z23:=Tryz.sizeOf116
  v23:=Tryz.zeroValue116
  t24:=Tryz.underlying116
  a24:=Tryz.isAgg116
  z24:=Tryz.sizeOf116
  v24:=Tryz.zeroValue116
  a26:=Tryz.isAgg9
  z26:=Tryz.sizeOf9
  a27:=Tryz.isAgg4
  z27:=Tryz.sizeOf4 }
def Tryz.keys112_ren:Go.Shelf.Ren:=⟨fun | 7=>112 | 10=>149 | n=>n,fun | 23=>116 | 26=>9 | 3=>4 | 28=>169 | 0=>0 | 27=>168 | 33=>114 | 4=>4 | n=>n,fun | n=>n⟩
theorem Tryz.keys112:Go.Proofs.SlLaysZ.n7 Tryz.prog Tryz.keys112_ren:={
  mixed:=by kernel_rfl
  f7:=⟨Tryz.f112.name,by decide,Tryz.func112.trans (congrArg some (by kernel_rfl))⟩
  f10:=⟨Tryz.f149.name,by decide,Tryz.func149.trans (congrArg some (by kernel_rfl))⟩
  t0:=Tryz.underlying0
  a0:=Tryz.isAgg0
  z0:=Tryz.sizeOf0
  v0:=Tryz.zeroValue0
  t4:=Tryz.underlying4
  a4:=Tryz.isAgg4
  z4:=Tryz.sizeOf4
  v4:=Tryz.zeroValue4
  t23:=Tryz.underlying116
  a23:=Tryz.isAgg116
  z23:=Tryz.sizeOf116
  v23:=Tryz.zeroValue116
  t26:=Tryz.underlying9
  a26:=Tryz.isAgg9
  z26:=Tryz.sizeOf9
  v26:=Tryz.zeroValue9
  t27:=Tryz.underlying168
  a27:=Tryz.isAgg168
  z27:=Tryz.sizeOf168
  v27:=Tryz.zeroValue168
  t28:=Tryz.underlying169
  a28:=Tryz.isAgg169
  z28:=Tryz.sizeOf169
  v28:=Tryz.zeroValue169
  t33:=Tryz.underlying114
  a33:=Tryz.isAgg114
  z33:=Tryz.sizeOf114
  v33:=Tryz.zeroValue114 }
def Tryz.sorted111_ren:Go.Shelf.Ren:=⟨fun | 6=>111 | 8=>147 | 9=>148 | 11=>173 | 13=>175 | 12=>174 | 23=>210 | 24=>211 | 14=>201 | 15=>202 | 16=>203 | 17=>204 | 18=>205 | 19=>206 | 20=>207 | 21=>208 | 22=>209 | 25=>242 | 26=>243 | 27=>244 | 28=>245 | 29=>246 | 30=>247 | 31=>272 | n=>n,fun | 26=>9 | 28=>169 | 24=>34 | 0=>0 | 3=>3 | 37=>157 | 48=>270 | 50=>75 | 4=>4 | 40=>264 | 39=>263 | 45=>164 | 5=>5 | 9=>9 | 51=>291 | 55=>294 | 57=>316 | 58=>201 | 33=>114 | n=>n,fun | n=>n⟩
theorem Tryz.sorted111:Go.Proofs.SlLaysZ.n6 Tryz.prog Tryz.sorted111_ren:={
  mixed:=by kernel_rfl
  f6:=⟨Tryz.f111.name,by decide,Tryz.func111.trans (congrArg some (by kernel_rfl))⟩
  f8:=⟨Tryz.f147.name,by decide,Tryz.func147.trans (congrArg some (by kernel_rfl))⟩
  f11:=⟨Tryz.f173.name,by decide,Tryz.func173.trans (congrArg some (by kernel_rfl))⟩
  t0:=Tryz.underlying0
  a0:=Tryz.isAgg0
  z0:=Tryz.sizeOf0
  v0:=Tryz.zeroValue0
  t24:=Tryz.underlying34
  a24:=Tryz.isAgg34
  z24:=Tryz.sizeOf34
  v24:=Tryz.zeroValue34
  t26:=Tryz.underlying9
  a26:=Tryz.isAgg9
  z26:=Tryz.sizeOf9
  v26:=Tryz.zeroValue9
  t28:=Tryz.underlying169
  a28:=Tryz.isAgg169
  z28:=Tryz.sizeOf169
  v28:=Tryz.zeroValue169
  i26:=by kernel_rfl }
def Tryz.sort148_ren:Go.Shelf.Ren:=⟨fun | 6=>148 | 8=>175 | 9=>174 | 19=>210 | 20=>211 | 21=>201 | 22=>202 | 23=>203 | 24=>204 | 25=>205 | 26=>206 | 27=>207 | 28=>208 | 29=>209 | 36=>242 | 31=>243 | 32=>244 | 37=>245 | 38=>246 | 39=>247 | 41=>272 | n=>n,fun | 27=>34 | 29=>9 | 3=>3 | 32=>157 | 26=>34 | 0=>0 | 44=>270 | 46=>75 | 4=>4 | 36=>264 | 35=>263 | 41=>164 | 5=>5 | 9=>9 | 53=>291 | 57=>294 | 63=>316 | 64=>201 | n=>n,fun | n=>n⟩
theorem Tryz.sort148:Go.Proofs.SlLaysM.n6 Tryz.prog Tryz.sort148_ren:={
  mixed:=by kernel_rfl
  f6:=⟨Tryz.f148.name,by decide,Tryz.func148.trans (congrArg some (by kernel_rfl))⟩
  f8:=Tryz.func175.trans (congrArg some (by kernel_rfl))
  f9:=⟨Tryz.f174.name,by decide,Tryz.func174.trans (congrArg some (by kernel_rfl))⟩
  f19:=Tryz.func210.trans (congrArg some (by kernel_rfl))
  f20:=Tryz.func211.trans (congrArg some (by kernel_rfl))
  f21:=⟨Tryz.f201.name,by decide,Tryz.func201.trans (congrArg some (by kernel_rfl))⟩
  f22:=⟨Tryz.f202.name,by decide,Tryz.func202.trans (congrArg some (by kernel_rfl))⟩
  f23:=⟨Tryz.f203.name,by decide,Tryz.func203.trans (congrArg some (by kernel_rfl))⟩
  f24:=⟨Tryz.f204.name,by decide,Tryz.func204.trans (congrArg some (by kernel_rfl))⟩
  f25:=⟨Tryz.f205.name,by decide,Tryz.func205.trans (congrArg some (by kernel_rfl))⟩
  f26:=⟨Tryz.f206.name,by decide,Tryz.func206.trans (congrArg some (by kernel_rfl))⟩
  f27:=⟨Tryz.f207.name,by decide,Tryz.func207.trans (congrArg some (by kernel_rfl))⟩
  f28:=⟨Tryz.f208.name,by decide,Tryz.func208.trans (congrArg some (by kernel_rfl))⟩
  f29:=⟨Tryz.f209.name,by decide,Tryz.func209.trans (congrArg some (by kernel_rfl))⟩
  f31:=Tryz.func243.trans (congrArg some (by kernel_rfl))
  f32:=Tryz.func244.trans (congrArg some (by kernel_rfl))
  f36:=⟨Tryz.f242.name,by decide,Tryz.func242.trans (congrArg some (by kernel_rfl))⟩
  f37:=⟨Tryz.f245.name,by decide,Tryz.func245.trans (congrArg some (by kernel_rfl))⟩
  f38:=⟨Tryz.f246.name,by decide,Tryz.func246.trans (congrArg some (by kernel_rfl))⟩
  f39:=⟨Tryz.f247.name,by decide,Tryz.func247.trans (congrArg some (by kernel_rfl))⟩
  f41:=⟨Tryz.f272.name,by decide,Tryz.func272.trans (congrArg some (by kernel_rfl))⟩
  t0:=Tryz.underlying0
  a0:=Tryz.isAgg0
  z0:=Tryz.sizeOf0
  v0:=Tryz.zeroValue0
  t3:=Tryz.underlying3
  a3:=Tryz.isAgg3
  z3:=Tryz.sizeOf3
  v3:=Tryz.zeroValue3
  t4:=Tryz.underlying4
  a4:=Tryz.isAgg4
  z4:=Tryz.sizeOf4
  v4:=Tryz.zeroValue4
  t5:=Tryz.underlying5
  a5:=Tryz.isAgg5
  z5:=Tryz.sizeOf5
  v5:=Tryz.zeroValue5
  t9:=Tryz.underlying9
  a9:=Tryz.isAgg9
  z9:=Tryz.sizeOf9
  v9:=Tryz.zeroValue9
  t26:=Tryz.underlying34
  a26:=Tryz.isAgg34
  z26:=Tryz.sizeOf34
  v26:=Tryz.zeroValue34
  t27:=Tryz.underlying34
  a27:=Tryz.isAgg34
  z27:=Tryz.sizeOf34
  v27:=Tryz.zeroValue34
  t29:=Tryz.underlying9
  a29:=Tryz.isAgg9
  z29:=Tryz.sizeOf9
  v29:=Tryz.zeroValue9
  t32:=Tryz.underlying157
  a32:=Tryz.isAgg157
  z32:=Tryz.sizeOf157
  v32:=Tryz.zeroValue157
  t35:=Tryz.underlying263
  a35:=Tryz.isAgg263
  z35:=Tryz.sizeOf263
  v35:=Tryz.zeroValue263
  t36:=Tryz.underlying264
  a36:=Tryz.isAgg264
  z36:=Tryz.sizeOf264
  v36:=Tryz.zeroValue264
  t41:=Tryz.underlying164
  a41:=Tryz.isAgg164
  z41:=Tryz.sizeOf164
  v41:=Tryz.zeroValue164
  t44:=Tryz.underlying270
  a44:=Tryz.isAgg270
  z44:=Tryz.sizeOf270
  v44:=Tryz.zeroValue270
  t46:=Tryz.underlying75
  a46:=Tryz.isAgg75
  z46:=Tryz.sizeOf75
  v46:=Tryz.zeroValue75
  t53:=Tryz.underlying291
  a53:=Tryz.isAgg291
  z53:=Tryz.sizeOf291
  v53:=Tryz.zeroValue291
  t57:=Tryz.underlying294
  a57:=Tryz.isAgg294
  z57:=Tryz.sizeOf294
  v57:=Tryz.zeroValue294
  t63:=Tryz.underlying316
  a63:=Tryz.isAgg316
  z63:=Tryz.sizeOf316
  v63:=Tryz.zeroValue316
  t64:=Tryz.underlying201
  a64:=Tryz.isAgg201
  z64:=Tryz.sizeOf201
  v64:=Tryz.zeroValue201 }
theorem Tryz.sorts111 (m:Nat):AnyZ.SortsIn Tryz.prog Tryz.sorted111_ren Fence.wide m :=
  ⟨fun blk off cap ss W hH hblk hsz=>callsIn_wide.2 (AnyM.slices_Sort_string Tryz.sort148 blk off cap ss W hH hblk hsz),
   fun p cap W=>callsIn_wide.2 (AnyM.slices_Sort_string_none Tryz.sort148 p cap W)⟩
theorem Tryz.maps_Keys_112 (mb:Option Nat) (W:World):CallsIn Fence.wide 5 Tryz.prog 112 #[.map mb] W fun e w'=>e=.returned (.func (.func 149) #[] #[.pointer (some ⟨W.heap.size,0,none⟩)])∧w'=W.alloc (.cells #[.map mb] 116) :=
  AnyZ.keys_in Tryz.keys112 Fence.wide 5 trivial rfl mb W
set_option maxHeartbeats 1000000 in
theorem Tryz.slices_Sorted_keys_111_112 {H:Type} (b nn:Nat) (D0:DataW H) (R:Value→Option (DataW H × List MemPlace)) (w:World) (hown:w.ownsMap Tryz.prog 9 R b nn D0) (hmax:Maps.size D0≤maxLen) (hbytes:Maps.size D0 * 16≤140737488355328) :
    CallsIn Fence.wide 5 Tryz.prog 111 #[.func (.func 149) #[] #[.pointer (some ⟨w.heap.size,0,none⟩)]] (w.alloc (.cells #[.map (some b)] 116)) fun e w'=>∃ (v:Value) (ss:List (List UInt8)),e=.returned v∧ss.Perm (strKeys D0) ∧
      w'.ownsRow (w.alloc (.cells #[.map (some b)] 116)).heap.size 9 1 v ss.length ((ss.mergeSort (fun x y=>decide (x≤y))).map encStr)∧(v=.slice none 0 0↔ss=[])∧Below (w.alloc (.cells #[.map (some b)] 116)).heap.size (w.alloc (.cells #[.map (some b)] 116)) w':=by
  have hbl:=hown.lt
  have hseq:SeqGives Fence.wide 2 Tryz.prog 149 #[.pointer (some ⟨w.heap.size,0,none⟩)] encStr (fun ss=>ss.Perm (strKeys D0)) (Maps.size D0) (w.alloc (.cells #[.map (some b)] 116)) :=
    AnyZ.keys_gives (ρ:=Tryz.keys112_ren) { Tryz.keys112 with } Fence.wide _ trivial rfl (by omega) w.heap.size b nn D0 _ (by simp) (by simp) (by
      obtain ⟨es,clock,hb,Ft,hs,hD⟩:=hown
      exact ⟨es,clock,(Below.heap_alloc _ _ b hbl).trans hb,Ft,hs,hD⟩)
  exact AnyZ.sorted_in Tryz.sorted111 Fence.wide 5 trivial trivial trivial trivial rfl (by omega) (Tryz.sorts111 _) (enters_of Tryz.func148 (by kernel_rfl) rfl) 149 #[.pointer (some ⟨w.heap.size,0,none⟩)] trivial (enters_of Tryz.func149 (by kernel_rfl) rfl) _ _ hmax hbytes _ hseq
end Go.Proofs
end
