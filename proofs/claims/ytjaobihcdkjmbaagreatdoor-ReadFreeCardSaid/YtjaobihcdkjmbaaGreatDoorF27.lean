/- The law ReadFree answers true for every argument; a part of its proof. -/
import Derived.OwnWalkIn
import Derived.TacticsInMore
import Derived.Test.YtjaobihcdkjmbaaGreatDoorF12
import Derived.Test.YtjaobihcdkjmbaaGreatDoorF14
import Derived.Test.YtjaobihcdkjmbaaGreatDoorF19
import Derived.Test.YtjaobihcdkjmbaaGreatDoorF20
import Derived.Test.YtjaobihcdkjmbaaGreatDoorF22
set_option linter.unusedVariables false
set_option linter.unusedSimpArgs false
section
namespace Go.Proofs.YtjaobihcdkjmbaaGreatDoor
open Go.RowKit Go.Maps Go.WideShapes Go.Proofs.YtjaobihcdkjmbaaGreatDoorW.PrintWords Go.Proofs.YtjaobihcdkjmbaaGreatDoor.PReadTokens
set_option maxRecDepth 100000 in
set_option maxHeartbeats 4000000 in
theorem replaced_a (name:ByteArray) (hname:name.size≤4611686018427387904) (y:S31) (hny:nodesX y≤1000000000) (T:DataW Unit) (hT:SetD T) (bT nT:Nat) (x:S31) (hn:nodesX x≤1000000000) (hsm:smallB x=true)
  (hrec:∀ (j:Nat) (hj:j < x.f4.length) v vy w',Vw w' x.f4[j] v→Vw w' y vy→MapAt w' bT nT T→Calls Tryz.prog 72 #[v,.string name,vy,.map (some bT)] w' (RepPost (replS name y T x.f4[j]) w')) (h01:x.f0≠1) (v vy:Value) (w:World) (hv:Vw w x v) (hvy:Vw w y vy) (hm:MapAt w bT nT T) :
  Calls Tryz.prog 72 #[v,.string name,vy,.map (some bT)] w (RepPost (replS name y T x) w):=by
  obtain ⟨A,c,rfl,hc1,hc2⟩:=hv.out
  obtain ⟨Ay,cy,rfl,hcy1,hcy2⟩:=hvy.out
  rw [smallB_eq,Bool.and_eq_true,decide_eq_true_eq] at hsm
  rw [nodesX_eq] at hn
  have hbT:=hm.lt
  have hkept:∀ (j:Nat) (hj:j < x.f4.length) v w',Vw w' x.f4[j] v→Calls Tryz.prog 108 #[v] w' fun e w''=>∃ u,e=.returned u∧Ex w'' (From w'.heap.size) x.f4[j] u∧Below w'.heap.size w' w'':=by
   intro j hj v w' h1
   have d2:=nodesX_mem (List.getElem_mem hj)
   exact kept_calls _ _ (Nat.le_refl _) (by omega) v w' h1
  have hfree:∀ (j:Nat) (hj:j < x.f4.length) v w',Vw w' x.f4[j] v→Calls Tryz.prog 73 #[v] w' fun e w''=>∃ b,e=.returned (.map (some b))∧w'.heap.size≤b∧MapAt w'' b (nodesX x.f4[j]) (freeG x.f4[j])∧Below w'.heap.size w' w'':=by
   intro j hj v w' h1
   have d2:=nodesX_mem (List.getElem_mem hj)
   exact freeG_calls _ _ (Nat.le_refl _) (by omega) (smallL_mem hsm.2 (List.getElem_mem hj)) v w' h1
  have hfset:∀ (j:Nat) (hj:j < x.f4.length),SetD (freeG x.f4[j]):=fun j hj=>freeG_set _ _ (Nat.le_refl _) (smallL_mem hsm.2 (List.getElem_mem hj))
  have hky:=fun v w' h=>kept_calls _ y (Nat.le_refl _) hny v w' h
  have hbn:=fun w'=>binds_calls x A x.f4.length c w'
  have hlen:=length_nodesL x.f4
  rw [replS_eq]
  obtain ⟨f0,f1,f2,f3,xs⟩:=x
  obtain ⟨g0,g1,g2,g3,ys⟩:=y
  simp only at *
  clear hv
  unfold exV at *
  simp only at *
  have hmk:=made_cap xs.length (by omega)
  have HR:=Lib.hid hrec
  have HK:=Lib.hid hkept
  have HF:=Lib.hid hfree
  have HFS:=Lib.hid hfset
  have HKY:=Lib.hid hky
  have HBN:=Lib.hid hbn
  have HC:=Lib.hid hc2
  have HVY:=Lib.hid hvy
  have HM:=Lib.hid hm
  have HSM:=Lib.hid hsm
  clear hrec hkept hfree hfset hky hbn hc2 hvy hm hsm
  have hX:∃ X,X=((w.alloc (.cells #[.int .i64 f0,.string f1.f0,.string f1.f1,.string f2,.int .i64 f3,.slice A xs.length c] 31)).alloc (.cells #[.int .i64 g0,.string g1.f0,.string g1.f1,.string g2,.int .i64 g3,.slice Ay ys.length cy] 31)).alloc (.cells #[.int .i64 0,.string ⟨#[]⟩,.string ⟨#[]⟩,.string ⟨#[]⟩,.int .i64 0,.slice none 0 0] 31):=⟨_,rfl⟩
  obtain ⟨X,hX⟩:=hX
  have hz:X.heap.size=w.heap.size+1+1+1:=by rw [hX];simp
  have hbX:Below w.heap.size w X:=by rw [hX];exact (((Below.refl _ w).alloc (Nat.le_refl _) _).alloc (by simp) _).alloc (by simp;omega) _
  have h0:X.heap[w.heap.size]?=some (.cells #[.int .i64 f0,.string f1.f0,.string f1.f1,.string f2,.int .i64 f3,.slice A xs.length c] 31 (0,0)):=by rw [hX];exact (Below.heap_alloc _ _ _ (by simp;omega)).trans ((Below.heap_alloc _ _ _ (by simp)).trans (blk_new w _))
  have h1:X.heap[w.heap.size+1]?=some (.cells #[.int .i64 g0,.string g1.f0,.string g1.f1,.string g2,.int .i64 g3,.slice Ay ys.length cy] 31 (0,0)):=by rw [hX];exact (Below.heap_alloc _ _ _ (by simp)).trans (alloc_at _ _ _ (by simp))
  have h2:X.heap[w.heap.size+1+1]?=some (.cells #[.int .i64 0,.string ⟨#[]⟩,.string ⟨#[]⟩,.string ⟨#[]⟩,.int .i64 0,.slice none 0 0] 31 (0,0)):=by rw [hX];exact alloc_at _ _ _ (by simp)
  rw [if_neg (fun h=>h01 h.1)]
  have e1:(f0 == 1)=false:=beq_no h01
  clear h01
  obtain ⟨bf,hbf⟩:∃ k,k=bindFrom f0:=⟨_,rfl⟩
  obtain ⟨bY,hbY⟩:∃ k,k=bindYes f0:=⟨_,rfl⟩
  rw [← hbf,← hbY] at HBN
  have hba:∀ i:Nat,bindsAt f0 i=(bY && decide (bf≤(i:Int))):=fun i=>by rw [hbf,hbY];rfl
  have HBA:=Lib.hid hba
  obtain ⟨full,hfull⟩:∃ r,r=replL name ⟨g0,g1,g2,g3,ys⟩ T f0 f2 0 xs:=⟨_,rfl⟩
  rw [← hfull]
  have HFU:Hid (Doing full [] (replL name ⟨g0,g1,g2,g3,ys⟩ T f0 f2 0 (xs.drop 0))):=Lib.hid (by unfold Doing;rw [hfull,List.drop_zero];cases replL name ⟨g0,g1,g2,g3,ys⟩ T f0 f2 0 xs <;> simp)
  have hone1:∀ j a,bindsAt f0 j=true→f2=name→replOne name ⟨g0,g1,g2,g3,ys⟩ T f0 f2 j a=some a:=fun j a h1 h2=>by unfold replOne;rw [if_pos ⟨h1,h2⟩]
  have hone2:∀ j a,bindsAt f0 j=true→f2≠name→has T (nmL f2)=true→has (freeG a) (nmL name)=true→replOne name ⟨g0,g1,g2,g3,ys⟩ T f0 f2 j a=none:=fun j a h1 h2 h3 h4=>by unfold replOne;rw [if_neg (fun h=>h2 h.2),if_pos ⟨h1,h3,h4⟩]
  have hone3:∀ j a,(bindsAt f0 j=false∨(f2≠name∧(has T (nmL f2)=false∨has (freeG a) (nmL name)=false)))→replOne name ⟨g0,g1,g2,g3,ys⟩ T f0 f2 j a=replS name ⟨g0,g1,g2,g3,ys⟩ T a:=fun j a h=>by
   unfold replOne
   rcases h with h | ⟨h1,h2⟩
   ·rw [h,if_neg (by simp),if_neg (by simp)]
   ·rw [if_neg (fun h=>h1 h.2),if_neg (fun h=>by rcases h2 with h2 | h2 <;> simp [h2] at h)]
  have HO1:=Lib.hid hone1
  have HO2:=Lib.hid hone2
  have HO3:=Lib.hid hone3
  clear hone1 hone2 hone3 hfull hbf hbY hba
  have hmX:=HM.out.kept (row:=none) ⟨hbX.os,hbX.tape,hbX.output,hbX.size,fun k hk _=>hbX.block k hk⟩ (by simp)
  have HM2:=Lib.hid hmX
  clear hmX
  obtain ⟨⟨p0,p1,p2,p3,p4,p5⟩,_,pl⟩:=cells6 h0
  have key:(Code.wp Tryz.prog Code.skip (fun _ _ _=>True) { tmps:=#[],defers:=[] } w)∨True:=.inr trivial
  clear key
  go_enter Tryz.func72,Tryz.ntmps72
  go_wp2_with fail
  rw [← hX]
  clear hX
  go_wp2_with fail
  refine (HBN.out _).mono ?_
  rintro e w1 ⟨rfl,hb1⟩
  have hbw1:=hbX.trans (hb1.mono hbX.size)
  have k0:=bcell hb1 h0
  have k1:=bcell hb1 h1
  have k2:=bcell hb1 h2
  have hm1:=HM2.out.kept (row:=none) ⟨hb1.os,hb1.tape,hb1.output,hb1.size,fun k hk _=>hb1.block k hk⟩ (by simp)
  have hat:RepAt w bT nT T (.cells #[.int .i64 f0,.string f1.f0,.string f1.f1,.string f2,.int .i64 f3,.slice A xs.length c] 31 (0,0)) (.cells #[.int .i64 g0,.string g1.f0,.string g1.f1,.string g2,.int .i64 g3,.slice Ay ys.length cy] 31 (0,0)) [] (.slice (some ⟨w1.heap.size,0,none⟩) 0 xs.length) (w1.alloc (.cells (madeCells #[.int .i64 0,.string ⟨#[]⟩,.string ⟨#[]⟩,.string ⟨#[]⟩,.int .i64 0,.slice none 0 0] (xs.length * 6)) 31)) :=
   ⟨fresh_row (blk_new w1 _) (made_size _ _) (by omega) (by have:=blk_lt k2;omega),(Below.heap_alloc _ _ _ (blk_lt k0)).trans k0,(Below.heap_alloc _ _ _ (blk_lt k1)).trans k1,(Below.heap_alloc _ _ _ (blk_lt k2)).trans k2,hm1.alloc _,hbw1.alloc hbw1.size _⟩
  have HAT:=Lib.hid hat
  obtain ⟨⟨c0,c1,c2,c3,c4,c5⟩,_,cl⟩:=cells6 k0
  clear h0 h1 h2 hb1 hbX hbw1 k0 k1 k2 hm1 hat p0 p1 p2 p3 p4 p5 pl hz HM2
  go_wp2
  clear hmk c0 c1 c2 c3 c4 c5 cl
  go_loopg [11,38] xs.length (fun k l i wr=>∃ (j:Nat) (acc:List S31) (vl:Value),j+k=xs.length∧i=.int .i64 j∧vl=l∧acc.length=j∧Hid (RepAt w bT nT T (.cells #[.int .i64 f0,.string f1.f0,.string f1.f1,.string f2,.int .i64 f3,.slice A xs.length c] 31 (0,0)) (.cells #[.int .i64 g0,.string g1.f0,.string g1.f1,.string g2,.int .i64 g3,.slice Ay ys.length cy] 31 (0,0)) acc vl wr)∧Hid (Doing full acc (replL name ⟨g0,g1,g2,g3,ys⟩ T f0 f2 j (xs.drop j))))
  case atStart=>exact ⟨0,[],_,by omega,rfl,rfl,rfl,HAT,HFU⟩
  case round =>
   clear HAT HFU
   obtain ⟨j,acc,vl,hj,rfl,rfl,hacc,HA,HD⟩:=hrel
   by_cases hjl:j < xs.length
   ·rw [List.drop_eq_getElem_cons hjl] at HD
    obtain ⟨ad,A5,c5,rfl,q0,q1,q2,q3,q4,q5,hvw⟩:=arg_cells (Kd.C_below HC.out HA.out.below) j hjl
    have hr:=HR.out j hjl
    have hk:=HK.out j hjl
    have hf:=HF.out j hjl
    have hfs:=HFS.out j hjl
    generalize xs[j]=a at *
    have Hvw:=Lib.hid hvw
    have hal:=(Below.refl _ wr).alloc (Nat.le_refl _) (.cells #[.int .i64 a.f0,.string a.f1.f0,.string a.f1.f1,.string a.f2,.int .i64 a.f3,.slice A5 a.f4.length c5] 31)
    have hvwA:=Hvw.out.below hal
    have HVA:=Lib.hid hvwA
    have hA0:=blk_new wr (.cells #[.int .i64 a.f0,.string a.f1.f0,.string a.f1.f1,.string a.f2,.int .i64 a.f3,.slice A5 a.f4.length c5] 31)
    have HA0:=Lib.hid hA0
    have hAl:=HA.out.go hal
    have hvyA:=Lib.hid (HVY.out.below hAl.below)
    have hmA:=hAl.map
    have HMA:=Lib.hid hmA
    have hbat:=HBA.out j
    have HRa:=Lib.hid hr
    have HKa:=Lib.hid hk
    have HFa:=Lib.hid hf
    have hone:=fun b l=>@replL_some name ⟨g0,g1,g2,g3,ys⟩ T f0 f2 j a b l
    have HON:=Lib.hid hone
    clear hvw hvwA hA0 hmA hr hk hf hone
    obtain ⟨⟨y0,y1,y2,y3,y4,y5⟩,_,yl⟩:=cells6 hAl.y
    obtain ⟨⟨x0,x1,x2,x3,x4,x5⟩,_,xl⟩:=cells6 hAl.x
    have HAL:=Lib.hid hAl
    clear hAl
    by_cases hcase:bindsAt f0 j=true∧f2=name
    ·obtain ⟨hb1',hb2'⟩:=hcase
     have hsome:=HO1.out j a hb1' hb2'
     rw [hbat,Bool.and_eq_true] at hb1'
     obtain ⟨rfl,hbd⟩:=hb1'
     have s2:(f2 == name)=true:=by rw [beq_toListBytes,hb2'];simp
     have s3:(f2.toList == name.toList)=true:=by rw [hb2'];simp
     have HDN:=Lib.hid (doing_some HD.out (HON.out _ _ hsome))
     clear hb2' hsome hbat HD
     go_wp2_with fail
     refine (HKa.out _ _ HVA.out).mono ?_
     rintro e w2 ⟨u,rfl,hu,hb2⟩
     clear q0 q1 q2 q3 q4 q5 x0 x1 x2 x3 x4 x5 y0 y1 y2 y3 y4 y5 hbd s2 s3
     obtain ⟨v5,A6,n6,c6,rfl,rfl,_,hMu⟩:=hu.cells
     have hAb:=bcell hb2 HA0.out
     obtain ⟨⟨a0,a1,a2,a3,a4,a5⟩,⟨o0,o1,o2,o3,o4,o5⟩,al⟩:=cells6 hAb
     have hbw2:=hal.trans (hb2.mono (by simp))
     have hu':Ex w2 (From (wr.heap.size+1)) a (exV a (.slice A6 n6 c6)):=hu.mono (fun k hk=>by simp only [From,World.size_alloc] at hk ⊢;omega)
     obtain ⟨W5,hW5⟩:∃ W5,W5=set6 w2 wr.heap.size (.int .i64 a.f0) (.string a.f1.f0) (.string a.f1.f1) (.string a.f2) (.int .i64 a.f3) (.slice A6 n6 c6):=⟨_,rfl⟩
     have hg5:w2.grownBy W5 (some wr.heap.size):=by rw [hW5];exact grown6 _ _ _ _ _ _ _
     have hrow5:k31.R 31 W5 0 (fun k=>w.heap.size+2 < k) vl acc:=Kd.R_mono (Kd.R_grown (Kd.R_below (Kd.R_bound HA.out.row) hbw2) hg5 (fun k hk e=>by injection e with e;have:=hk.2.2.1;omega)) (fun k hk=>hk.1)
     obtain ⟨hr0,inner,hown5,hrep5⟩:=hrow5
     have HU:=Lib.hid hu'
     have HOW:=Lib.hid hown5
     have HRE:=Lib.hid hrep5
     have HBW:=Lib.hid hbw2
     have HW5:=Lib.hid hW5
     have hone:∀ u ∈ [Value.int .i64 a.f0,.string a.f1.f0,.string a.f1.f1,.string a.f2,.int .i64 a.f3,.slice A6 n6 c6],u.oneCell'=true:=by simp [Value.oneCell']
     have hsm8:(acc.length+1) * 88≤140737488355328:=by omega
     unfold set6 at hW5
     have hs5:=hg5.size
     have hs5e:W5.heap.size=w2.heap.size:=by rw [hW5];simp only [World.size_setCell]
     replace hs5e:=Lib.hid hs5e
     clear hu hu' hMu hAb hown5 hrep5 hbw2 hg5 hr0 hb2
     unfold exV
     go_wp2_with (at_builtin;rw [← hW5];refine print_append_cells (w0:=W5) (W:=W5) 0 rfl (.tmp 79) (.tmp 81) 29 31 (.agg #[.int .i64 0,.string ⟨#[]⟩,.string ⟨#[]⟩,.string ⟨#[]⟩,.int .i64 0,.slice none 0 0]) 6 88 rfl Tryz.underlying29 info31 rfl (by decide) (by decide) vl acc.length inner [.int .i64 a.f0,.string a.f1.f0,.string a.f1.f1,.string a.f2,.int .i64 a.f3,.slice A6 n6 c6] (by rfl) (by rw [hs5e.out];simp only [Act.eval,Array.getD_eq_getD_getElem?,List.getElem?_toArray,List.getElem?_cons_succ,List.getElem?_cons_zero,Option.getD_some]) rfl hone HOW.out (Below.refl _ _) (Nat.zero_le _) hsm8 ?_;intro v1 w4 hown4 _ hg4 hat4)
     have hfinal:=HA.out.more hbT HBW.out al HU.out HW5.out HRE.out hown4 hg4 hat4
     have HFN:=Lib.hid hfinal
     clear hown4 hg4 hat4 hfinal
     go_roundg (gk - 1)
     case measure=>omega
     case rel=>exact ⟨j+1,acc++[a],_,round_next hj hjl,by go_num,rfl,by simp [hacc],HFN,HDN⟩
    ·by_cases hcl:bindsAt f0 j=true∧f2≠name∧has T (nmL f2)=true
     ·obtain ⟨hb1',hb2',hb3'⟩:=hcl
      have hn2:=HO2.out j a hb1' hb2' hb3'
      have hn3:=fun h=>HO3.out j a (.inr ⟨hb2',.inr h⟩)
      rw [hbat,Bool.and_eq_true] at hb1'
      obtain ⟨rfl,hbd⟩:=hb1'
      have s3:(f2.toList == name.toList)=false:=by rw [str_eq,decide_eq_false hb2']
      have s2:(f2 == name)=false:=by rw [beq_toListBytes];exact s3
      have hl1:=look_set HMA.out hT f2 (by unfold maxLen;have:=HSM.out.1;omega)
      rw [hb3'] at hl1
      have HN2:=Lib.hid hn2
      have HN3:=Lib.hid hn3
      clear hn2 hn3 hcase hbat hb2' hb3'
      go_wp2_with fail
      refine (HFa.out _ _ HVA.out).mono ?_
      rintro e w3 ⟨bF,rfl,hbge,hmF,hb3⟩
      have hl2:=look_set hmF hfs name (by unfold maxLen;omega)
      have hb3w:=hal.trans (hb3.mono (by simp))
      have HMF:=Lib.hid hmF
      have hA3:=HAL.out.go hb3
      have HA3:=Lib.hid hA3
      have HA03:=Lib.hid (bcell hb3 HA0.out)
      have HB3:=Lib.hid hb3
      obtain ⟨⟨yy0,yy1,yy2,yy3,yy4,yy5⟩,_,yyl⟩:=cells6 hA3.y
      obtain ⟨⟨aa0,aa1,aa2,aa3,aa4,aa5⟩,_,aal⟩:=cells6 HA03.out
      clear hmF hA3 hb3 hl1 q0 q1 q2 q3 q4 q5 x0 x1 x2 x3 x4 x5 y0 y1 y2 y3 y4 y5 hbd s2 s3 hbge
      cases hcl2:has (freeG a) (nmL name)
      ·have HN3':=Lib.hid (HN3.out hcl2)
       rw [hcl2] at hl2
       have hvw3:=HVA.out.below HB3.out
       have hvy3:=hvyA.out.below HB3.out
       have hr3:=HRa.out _ _ w3 hvw3 hvy3 HA3.out.map
       have HR3:=Lib.hid hr3
       clear hvw3 hvy3 hr3 hcl2
       go_wp2_with fail
       refine HR3.out.mono ?_
       rintro e w2 ⟨hb2,hres⟩
       have hb2:=HB3.out.trans (hb2.mono HB3.out.size)
       rcases hres with ⟨z,u,hz,rfl,hu⟩ | ⟨hz,he⟩
       ·have HDN:=Lib.hid (doing_some HD.out (HON.out _ _ (HN3'.out.trans hz)))
        have hu:=hu.mono (S':=From (wr.alloc (.cells #[.int .i64 a.f0,.string a.f1.f0,.string a.f1.f1,.string a.f2,.int .i64 a.f3,.slice A5 a.f4.length c5] 31)).heap.size) (fun k hk=>Nat.le_trans HB3.out.size hk)
        clear hz HD hl2 yy0 yy1 yy2 yy3 yy4 yy5 aa0 aa1 aa2 aa3 aa4 aa5 yyl aal
        obtain ⟨v5,A6,n6,c6,rfl,rfl,_,hMu⟩:=hu.cells
        have hAb:=bcell hb2 HA0.out
        obtain ⟨⟨a0,a1,a2,a3,a4,a5⟩,⟨o0,o1,o2,o3,o4,o5⟩,al⟩:=cells6 hAb
        have hbw2:=hal.trans (hb2.mono (by simp))
        have hu':Ex w2 (From (wr.heap.size+1)) z (exV z (.slice A6 n6 c6)):=hu.mono (fun k hk=>by simp only [From,World.size_alloc] at hk ⊢;omega)
        obtain ⟨W5,hW5⟩:∃ W5,W5=set6 w2 wr.heap.size (.int .i64 z.f0) (.string z.f1.f0) (.string z.f1.f1) (.string z.f2) (.int .i64 z.f3) (.slice A6 n6 c6):=⟨_,rfl⟩
        have hg5:w2.grownBy W5 (some wr.heap.size):=by rw [hW5];exact grown6 _ _ _ _ _ _ _
        have hrow5:k31.R 31 W5 0 (fun k=>w.heap.size+2 < k) vl acc:=Kd.R_mono (Kd.R_grown (Kd.R_below (Kd.R_bound HA.out.row) hbw2) hg5 (fun k hk e=>by injection e with e;have:=hk.2.2.1;omega)) (fun k hk=>hk.1)
        obtain ⟨hr0,inner,hown5,hrep5⟩:=hrow5
        have HU:=Lib.hid hu'
        have HOW:=Lib.hid hown5
        have HRE:=Lib.hid hrep5
        have HBW:=Lib.hid hbw2
        have HW5:=Lib.hid hW5
        have hone:∀ u ∈ [Value.int .i64 z.f0,.string z.f1.f0,.string z.f1.f1,.string z.f2,.int .i64 z.f3,.slice A6 n6 c6],u.oneCell'=true:=by simp [Value.oneCell']
        have hsm8:(acc.length+1) * 88≤140737488355328:=by omega
        unfold set6 at hW5
        have hs5:=hg5.size
        have hs5e:W5.heap.size=w2.heap.size:=by rw [hW5];simp only [World.size_setCell]
        replace hs5e:=Lib.hid hs5e
        clear hu hu' hMu hAb hown5 hrep5 hbw2 hg5 hr0 hb2
        unfold exV
        go_wp2_with (at_builtin;rw [← hW5];refine print_append_cells (w0:=W5) (W:=W5) 0 rfl (.tmp 79) (.tmp 81) 29 31 (.agg #[.int .i64 0,.string ⟨#[]⟩,.string ⟨#[]⟩,.string ⟨#[]⟩,.int .i64 0,.slice none 0 0]) 6 88 rfl Tryz.underlying29 info31 rfl (by decide) (by decide) vl acc.length inner [.int .i64 z.f0,.string z.f1.f0,.string z.f1.f1,.string z.f2,.int .i64 z.f3,.slice A6 n6 c6] (by rfl) (by rw [hs5e.out];simp only [Act.eval,Array.getD_eq_getD_getElem?,List.getElem?_toArray,List.getElem?_cons_succ,List.getElem?_cons_zero,Option.getD_some]) rfl hone HOW.out (Below.refl _ _) (Nat.zero_le _) hsm8 ?_;intro v1 w4 hown4 _ hg4 hat4)
        have hfinal:=HA.out.more hbT HBW.out al HU.out HW5.out HRE.out hown4 hg4 hat4
        have HFN:=Lib.hid hfinal
        clear hown4 hg4 hat4 hfinal
        go_roundg (gk - 1)
        case measure=>omega
        case rel=>exact ⟨j+1,acc++[z],_,round_next hj hjl,by go_num,rfl,by simp [hacc],HFN,HDN⟩
       ·have hnone:full=none:=doing_none HD.out (replL_none (HN3'.out.trans hz))
        unfold wrongAt at he
        subst he
        have hfin:=HAL.out.below.trans (hb2.mono HAL.out.below.size)
        clear hl2
        go_wp2
        exact ⟨rfl,hfin,.inr ⟨by rw [hnone];rfl,rfl⟩⟩
      ·have hnone:full=none:=doing_none HD.out (replL_none (HN2.out hcl2))
       rw [hcl2] at hl2
       replace hnone:=Lib.hid hnone
       have hy15:=Lib.hid (fail_yes' 15)
       clear hcl2
       go_wp2_with (go_at_call 67;(with_reducible refine (hy15.out _).mono ?_);rintro e wq ⟨rfl,hq⟩;subst wq)
       exact ⟨rfl,HA3.out.below,.inr ⟨by rw [hnone.out];rfl,rfl⟩⟩
     ·have hone3:=HO3.out j a (by
       cases hb:bindsAt f0 j
       ·exact .inl rfl
       ·have h2:f2≠name:=fun h=>hcase ⟨hb,h⟩
        cases ht:has T (nmL f2)
        ·exact .inr ⟨h2,.inl rfl⟩
        ·exact absurd ⟨hb,h2,ht⟩ hcl)
      have hways:bY=false∨(bY=true∧decide (bf≤(j:Int))=false)∨(bY=true∧decide (bf≤(j:Int))=true∧f2≠name∧has T (nmL f2)=false):=by
       cases hb:bY
       ·exact .inl rfl
       ·cases hd:decide (bf≤(j:Int))
        ·exact .inr (.inl ⟨rfl,rfl⟩)
        ·rw [hb,hd] at hbat
         have h2:f2≠name:=fun h=>hcase ⟨hbat,h⟩
         refine .inr (.inr ⟨rfl,rfl,h2,?_⟩)
         cases ht:has T (nmL f2)
         ·rfl
         ·exact absurd ⟨hbat,h2,ht⟩ hcl
      have hl1:=look_set HMA.out hT f2 (by unfold maxLen;have:=HSM.out.1;omega)
      have hr3:=HRa.out _ _ _ HVA.out hvyA.out HMA.out
      have HR3:=Lib.hid hr3
      have HN3':=Lib.hid hone3
      clear hone3 hr3 hcase hcl hbat
      rcases hways with rfl | ⟨rfl,hbd⟩ | ⟨rfl,hbd,hne,htk⟩
      case' inr.inr =>
       have s3:(f2.toList == name.toList)=false:=by rw [str_eq,decide_eq_false hne]
       have s2:(f2 == name)=false:=by rw [beq_toListBytes];exact s3
       rw [htk] at hl1
       clear hne htk
      all_goals
       go_wp2_with fail
       refine HR3.out.mono ?_
       rintro e w2 ⟨hb2,hres⟩
       clear hl1 q0 q1 q2 q3 q4 q5 x0 x1 x2 x3 x4 x5 y0 y1 y2 y3 y4 y5
       rcases hres with ⟨z,u,hz,rfl,hu⟩ | ⟨hz,he⟩
       ·have HDN:=Lib.hid (doing_some HD.out (HON.out _ _ (HN3'.out.trans hz)))
        clear hz HD
        obtain ⟨v5,A6,n6,c6,rfl,rfl,_,hMu⟩:=hu.cells
        have hAb:=bcell hb2 HA0.out
        obtain ⟨⟨a0,a1,a2,a3,a4,a5⟩,⟨o0,o1,o2,o3,o4,o5⟩,al⟩:=cells6 hAb
        have hbw2:=hal.trans (hb2.mono (by simp))
        have hu':Ex w2 (From (wr.heap.size+1)) z (exV z (.slice A6 n6 c6)):=hu.mono (fun k hk=>by simp only [From,World.size_alloc] at hk ⊢;omega)
        obtain ⟨W5,hW5⟩:∃ W5,W5=set6 w2 wr.heap.size (.int .i64 z.f0) (.string z.f1.f0) (.string z.f1.f1) (.string z.f2) (.int .i64 z.f3) (.slice A6 n6 c6):=⟨_,rfl⟩
        have hg5:w2.grownBy W5 (some wr.heap.size):=by rw [hW5];exact grown6 _ _ _ _ _ _ _
        have hrow5:k31.R 31 W5 0 (fun k=>w.heap.size+2 < k) vl acc:=Kd.R_mono (Kd.R_grown (Kd.R_below (Kd.R_bound HA.out.row) hbw2) hg5 (fun k hk e=>by injection e with e;have:=hk.2.2.1;omega)) (fun k hk=>hk.1)
        obtain ⟨hr0,inner,hown5,hrep5⟩:=hrow5
        have HU:=Lib.hid hu'
        have HOW:=Lib.hid hown5
        have HRE:=Lib.hid hrep5
        have HBW:=Lib.hid hbw2
        have HW5:=Lib.hid hW5
        have hone:∀ u ∈ [Value.int .i64 z.f0,.string z.f1.f0,.string z.f1.f1,.string z.f2,.int .i64 z.f3,.slice A6 n6 c6],u.oneCell'=true:=by simp [Value.oneCell']
        have hsm8:(acc.length+1) * 88≤140737488355328:=by omega
        unfold set6 at hW5
        have hs5:=hg5.size
        have hs5e:W5.heap.size=w2.heap.size:=by rw [hW5];simp only [World.size_setCell]
        replace hs5e:=Lib.hid hs5e
        clear hu hu' hMu hAb hown5 hrep5 hbw2 hg5 hr0 hb2
        unfold exV
        go_wp2_with (at_builtin;rw [← hW5];refine print_append_cells (w0:=W5) (W:=W5) 0 rfl (.tmp 79) (.tmp 81) 29 31 (.agg #[.int .i64 0,.string ⟨#[]⟩,.string ⟨#[]⟩,.string ⟨#[]⟩,.int .i64 0,.slice none 0 0]) 6 88 rfl Tryz.underlying29 info31 rfl (by decide) (by decide) vl acc.length inner [.int .i64 z.f0,.string z.f1.f0,.string z.f1.f1,.string z.f2,.int .i64 z.f3,.slice A6 n6 c6] (by rfl) (by rw [hs5e.out];simp only [Act.eval,Array.getD_eq_getD_getElem?,List.getElem?_toArray,List.getElem?_cons_succ,List.getElem?_cons_zero,Option.getD_some]) rfl hone HOW.out (Below.refl _ _) (Nat.zero_le _) hsm8 ?_;intro v1 w4 hown4 _ hg4 hat4)
        have hfinal:=HA.out.more hbT HBW.out al HU.out HW5.out HRE.out hown4 hg4 hat4
        have HFN:=Lib.hid hfinal
        clear hown4 hg4 hat4 hfinal
        go_roundg (gk - 1)
        case measure=>omega
        case rel=>exact ⟨j+1,acc++[z],_,round_next hj hjl,by go_num,rfl,by simp [hacc],HFN,HDN⟩
       ·have hnone:full=none:=doing_none HD.out (replL_none (HN3'.out.trans hz))
        unfold wrongAt at he
        subst he
        have hfin:=HAL.out.below.trans (hb2.mono HAL.out.below.size)
        go_wp2
        exact ⟨rfl,hfin,.inr ⟨by rw [hnone];rfl,rfl⟩⟩
   ·have hres:full=some acc:=doing_end (by have:=HD.out;rwa [List.drop_of_length_le (by omega),replL_nil] at this)
    have hxl:=HA.out
    obtain ⟨Ar,cr,hsl⟩:=Kd.R_slice hxl.row
    obtain ⟨⟨x0,x1,x2,x3,x4,x5⟩,⟨z0,z1,z2,z3,z4,z5⟩,xl⟩:=cells6 hxl.x
    obtain ⟨⟨r0,r1,r2,r3,r4,r5⟩,⟨o0,o1,o2,o3,o4,o5⟩,rl⟩:=cells6 hxl.z
    subst hsl
    have hg1:wr.grownBy (wr.setCell ⟨w.heap.size,5,none⟩ (.slice Ar acc.length cr)) (some w.heap.size):=Lib.grownBy_setCell _ _ _ _
    have hg2:=grown6 (X:=wr.setCell ⟨w.heap.size,5,none⟩ (.slice Ar acc.length cr)) (w.heap.size+1+1) (.int .i64 f0) (.string f1.f0) (.string f1.f1) (.string f2) (.int .i64 f3) (.slice Ar acc.length cr)
    have hQ1:=(hg1.block _ rl (by intro e;injection e with e;omega)).trans hxl.z
    have hfin:=fin6 (.int .i64 f0) (.string f1.f0) (.string f1.f1) (.string f2) (.int .i64 f3) (.slice Ar acc.length cr) hQ1
    have hbf:=below6 (hxl.below.setCell (p:=⟨w.heap.size,5,none⟩) (Nat.le_refl _) (.slice Ar acc.length cr)) (show w.heap.size≤w.heap.size+1+1 by omega) (.int .i64 f0) (.string f1.f0) (.string f1.f1) (.string f2) (.int .i64 f3) (.slice Ar acc.length cr)
    have hrow:=Kd.R_mono (ok':=From w.heap.size) (Kd.R_grown (Kd.R_grown hxl.row hg1 (fun k hk e=>by injection e with e;omega)) hg2 (fun k hk e=>by injection e with e;omega)) (fun k hk=>by simp only [From];omega)
    have HF1:=Lib.hid hfin
    have HF2:=Lib.hid hbf
    have HF3:=Lib.hid hrow
    replace hres:=Lib.hid hres
    replace hacc:=Lib.hid hacc
    clear hg1 hg2 hQ1 hfin hbf hrow hxl
    go_wp2
    exact bodyPost_ret (results_c Tryz.results72 _ _ (w.heap.size+1+1) 31 _ (0,0) _ rfl HF1.out Tryz.underlying31 rfl size31) rfl ⟨HF2.out,.inl ⟨⟨f0,f1,f2,f3,acc⟩,_,by rw [hres.out];rfl,rfl,⟨_,rfl,HF3.out⟩⟩⟩
end Go.Proofs.YtjaobihcdkjmbaaGreatDoor
end
section
namespace Go.Proofs.YtjaobihcdkjmbaaGreatDoor
open Go.RowKit Go.Maps Go.WideShapes Go.Proofs.YtjaobihcdkjmbaaGreatDoorW.PrintWords Go.Proofs.YtjaobihcdkjmbaaGreatDoor.PReadTokens
set_option maxRecDepth 100000 in
set_option maxHeartbeats 4000000 in
theorem replaced_b (name:ByteArray) (hname:name.size≤4611686018427387904) (y:S31) (hny:nodesX y≤1000000000) (T:DataW Unit) (hT:SetD T) (bT nT:Nat) (x:S31) (hn:nodesX x≤1000000000) (hsm:smallB x=true)
  (hrec:∀ (j:Nat) (hj:j < x.f4.length) v vy w',Vw w' x.f4[j] v→Vw w' y vy→MapAt w' bT nT T→Calls Tryz.prog 72 #[v,.string name,vy,.map (some bT)] w' (RepPost (replS name y T x.f4[j]) w')) (h01:x.f0=1∧x.f2≠name) (v vy:Value) (w:World) (hv:Vw w x v) (hvy:Vw w y vy) (hm:MapAt w bT nT T) :
  Calls Tryz.prog 72 #[v,.string name,vy,.map (some bT)] w (RepPost (replS name y T x) w):=by
  obtain ⟨A,c,rfl,hc1,hc2⟩:=hv.out
  obtain ⟨Ay,cy,rfl,hcy1,hcy2⟩:=hvy.out
  rw [smallB_eq,Bool.and_eq_true,decide_eq_true_eq] at hsm
  rw [nodesX_eq] at hn
  have hbT:=hm.lt
  have hkept:∀ (j:Nat) (hj:j < x.f4.length) v w',Vw w' x.f4[j] v→Calls Tryz.prog 108 #[v] w' fun e w''=>∃ u,e=.returned u∧Ex w'' (From w'.heap.size) x.f4[j] u∧Below w'.heap.size w' w'':=by
   intro j hj v w' h1
   have d2:=nodesX_mem (List.getElem_mem hj)
   exact kept_calls _ _ (Nat.le_refl _) (by omega) v w' h1
  have hfree:∀ (j:Nat) (hj:j < x.f4.length) v w',Vw w' x.f4[j] v→Calls Tryz.prog 73 #[v] w' fun e w''=>∃ b,e=.returned (.map (some b))∧w'.heap.size≤b∧MapAt w'' b (nodesX x.f4[j]) (freeG x.f4[j])∧Below w'.heap.size w' w'':=by
   intro j hj v w' h1
   have d2:=nodesX_mem (List.getElem_mem hj)
   exact freeG_calls _ _ (Nat.le_refl _) (by omega) (smallL_mem hsm.2 (List.getElem_mem hj)) v w' h1
  have hfset:∀ (j:Nat) (hj:j < x.f4.length),SetD (freeG x.f4[j]):=fun j hj=>freeG_set _ _ (Nat.le_refl _) (smallL_mem hsm.2 (List.getElem_mem hj))
  have hky:=fun v w' h=>kept_calls _ y (Nat.le_refl _) hny v w' h
  have hbn:=fun w'=>binds_calls x A x.f4.length c w'
  have hlen:=length_nodesL x.f4
  rw [replS_eq]
  obtain ⟨f0,f1,f2,f3,xs⟩:=x
  obtain ⟨g0,g1,g2,g3,ys⟩:=y
  simp only at *
  clear hv
  unfold exV at *
  simp only at *
  have hmk:=made_cap xs.length (by omega)
  have HR:=Lib.hid hrec
  have HK:=Lib.hid hkept
  have HF:=Lib.hid hfree
  have HFS:=Lib.hid hfset
  have HKY:=Lib.hid hky
  have HBN:=Lib.hid hbn
  have HC:=Lib.hid hc2
  have HVY:=Lib.hid hvy
  have HM:=Lib.hid hm
  have HSM:=Lib.hid hsm
  clear hrec hkept hfree hfset hky hbn hc2 hvy hm hsm
  have hX:∃ X,X=((w.alloc (.cells #[.int .i64 f0,.string f1.f0,.string f1.f1,.string f2,.int .i64 f3,.slice A xs.length c] 31)).alloc (.cells #[.int .i64 g0,.string g1.f0,.string g1.f1,.string g2,.int .i64 g3,.slice Ay ys.length cy] 31)).alloc (.cells #[.int .i64 0,.string ⟨#[]⟩,.string ⟨#[]⟩,.string ⟨#[]⟩,.int .i64 0,.slice none 0 0] 31):=⟨_,rfl⟩
  obtain ⟨X,hX⟩:=hX
  have hz:X.heap.size=w.heap.size+1+1+1:=by rw [hX];simp
  have hbX:Below w.heap.size w X:=by rw [hX];exact (((Below.refl _ w).alloc (Nat.le_refl _) _).alloc (by simp) _).alloc (by simp;omega) _
  have h0:X.heap[w.heap.size]?=some (.cells #[.int .i64 f0,.string f1.f0,.string f1.f1,.string f2,.int .i64 f3,.slice A xs.length c] 31 (0,0)):=by rw [hX];exact (Below.heap_alloc _ _ _ (by simp;omega)).trans ((Below.heap_alloc _ _ _ (by simp)).trans (blk_new w _))
  have h1:X.heap[w.heap.size+1]?=some (.cells #[.int .i64 g0,.string g1.f0,.string g1.f1,.string g2,.int .i64 g3,.slice Ay ys.length cy] 31 (0,0)):=by rw [hX];exact (Below.heap_alloc _ _ _ (by simp)).trans (alloc_at _ _ _ (by simp))
  have h2:X.heap[w.heap.size+1+1]?=some (.cells #[.int .i64 0,.string ⟨#[]⟩,.string ⟨#[]⟩,.string ⟨#[]⟩,.int .i64 0,.slice none 0 0] 31 (0,0)):=by rw [hX];exact alloc_at _ _ _ (by simp)
  rw [if_neg (fun h=>h01.2 h.2)]
  have e1:(f0 == 1)=true:=by rw [h01.1];rfl
  have e3:(f2.toList == name.toList)=false:=by rw [str_eq,decide_eq_false h01.2]
  have e2:(f2 == name)=false:=by rw [beq_toListBytes];exact e3
  obtain ⟨bf,hbf⟩:∃ k,k=bindFrom f0:=⟨_,rfl⟩
  obtain ⟨bY,hbY⟩:∃ k,k=bindYes f0:=⟨_,rfl⟩
  rw [← hbf,← hbY] at HBN
  have hba:∀ i:Nat,bindsAt f0 i=(bY && decide (bf≤(i:Int))):=fun i=>by rw [hbf,hbY];rfl
  have hY0:bY=false:=by rw [hbY,h01.1];first | rfl | decide | simp [bindYes]
  clear h01 hbf hbY
  subst hY0
  have HBA:=Lib.hid hba
  obtain ⟨full,hfull⟩:∃ r,r=replL name ⟨g0,g1,g2,g3,ys⟩ T f0 f2 0 xs:=⟨_,rfl⟩
  rw [← hfull]
  have HFU:Hid (Doing full [] (replL name ⟨g0,g1,g2,g3,ys⟩ T f0 f2 0 (xs.drop 0))):=Lib.hid (by unfold Doing;rw [hfull,List.drop_zero];cases replL name ⟨g0,g1,g2,g3,ys⟩ T f0 f2 0 xs <;> simp)
  have hone1:∀ j a,bindsAt f0 j=true→f2=name→replOne name ⟨g0,g1,g2,g3,ys⟩ T f0 f2 j a=some a:=fun j a h1 h2=>by unfold replOne;rw [if_pos ⟨h1,h2⟩]
  have hone2:∀ j a,bindsAt f0 j=true→f2≠name→has T (nmL f2)=true→has (freeG a) (nmL name)=true→replOne name ⟨g0,g1,g2,g3,ys⟩ T f0 f2 j a=none:=fun j a h1 h2 h3 h4=>by unfold replOne;rw [if_neg (fun h=>h2 h.2),if_pos ⟨h1,h3,h4⟩]
  have hone3:∀ j a,(bindsAt f0 j=false∨(f2≠name∧(has T (nmL f2)=false∨has (freeG a) (nmL name)=false)))→replOne name ⟨g0,g1,g2,g3,ys⟩ T f0 f2 j a=replS name ⟨g0,g1,g2,g3,ys⟩ T a:=fun j a h=>by
   unfold replOne
   rcases h with h | ⟨h1,h2⟩
   ·rw [h,if_neg (by simp),if_neg (by simp)]
   ·rw [if_neg (fun h=>h1 h.2),if_neg (fun h=>by rcases h2 with h2 | h2 <;> simp [h2] at h)]
  have HO1:=Lib.hid hone1
  have HO2:=Lib.hid hone2
  have HO3:=Lib.hid hone3
  clear hone1 hone2 hone3 hfull hba
  have hmX:=HM.out.kept (row:=none) ⟨hbX.os,hbX.tape,hbX.output,hbX.size,fun k hk _=>hbX.block k hk⟩ (by simp)
  have HM2:=Lib.hid hmX
  clear hmX
  obtain ⟨⟨p0,p1,p2,p3,p4,p5⟩,_,pl⟩:=cells6 h0
  have key:(Code.wp Tryz.prog Code.skip (fun _ _ _=>True) { tmps:=#[],defers:=[] } w)∨True:=.inr trivial
  clear key
  go_enter Tryz.func72,Tryz.ntmps72
  go_wp2_with fail
  rw [← hX]
  clear hX
  go_wp2_with fail
  refine (HBN.out _).mono ?_
  rintro e w1 ⟨rfl,hb1⟩
  have hbw1:=hbX.trans (hb1.mono hbX.size)
  have k0:=bcell hb1 h0
  have k1:=bcell hb1 h1
  have k2:=bcell hb1 h2
  have hm1:=HM2.out.kept (row:=none) ⟨hb1.os,hb1.tape,hb1.output,hb1.size,fun k hk _=>hb1.block k hk⟩ (by simp)
  have hat:RepAt w bT nT T (.cells #[.int .i64 f0,.string f1.f0,.string f1.f1,.string f2,.int .i64 f3,.slice A xs.length c] 31 (0,0)) (.cells #[.int .i64 g0,.string g1.f0,.string g1.f1,.string g2,.int .i64 g3,.slice Ay ys.length cy] 31 (0,0)) [] (.slice (some ⟨w1.heap.size,0,none⟩) 0 xs.length) (w1.alloc (.cells (madeCells #[.int .i64 0,.string ⟨#[]⟩,.string ⟨#[]⟩,.string ⟨#[]⟩,.int .i64 0,.slice none 0 0] (xs.length * 6)) 31)) :=
   ⟨fresh_row (blk_new w1 _) (made_size _ _) (by omega) (by have:=blk_lt k2;omega),(Below.heap_alloc _ _ _ (blk_lt k0)).trans k0,(Below.heap_alloc _ _ _ (blk_lt k1)).trans k1,(Below.heap_alloc _ _ _ (blk_lt k2)).trans k2,hm1.alloc _,hbw1.alloc hbw1.size _⟩
  have HAT:=Lib.hid hat
  obtain ⟨⟨c0,c1,c2,c3,c4,c5⟩,_,cl⟩:=cells6 k0
  clear h0 h1 h2 hb1 hbX hbw1 k0 k1 k2 hm1 hat p0 p1 p2 p3 p4 p5 pl hz HM2
  go_wp2
  clear hmk c0 c1 c2 c3 c4 c5 cl
  go_loopg [11,38] xs.length (fun k l i wr=>∃ (j:Nat) (acc:List S31) (vl:Value),j+k=xs.length∧i=.int .i64 j∧vl=l∧acc.length=j∧Hid (RepAt w bT nT T (.cells #[.int .i64 f0,.string f1.f0,.string f1.f1,.string f2,.int .i64 f3,.slice A xs.length c] 31 (0,0)) (.cells #[.int .i64 g0,.string g1.f0,.string g1.f1,.string g2,.int .i64 g3,.slice Ay ys.length cy] 31 (0,0)) acc vl wr)∧Hid (Doing full acc (replL name ⟨g0,g1,g2,g3,ys⟩ T f0 f2 j (xs.drop j))))
  case atStart=>exact ⟨0,[],_,by omega,rfl,rfl,rfl,HAT,HFU⟩
  case round =>
   clear HAT HFU
   obtain ⟨j,acc,vl,hj,rfl,rfl,hacc,HA,HD⟩:=hrel
   by_cases hjl:j < xs.length
   ·rw [List.drop_eq_getElem_cons hjl] at HD
    obtain ⟨ad,A5,c5,rfl,q0,q1,q2,q3,q4,q5,hvw⟩:=arg_cells (Kd.C_below HC.out HA.out.below) j hjl
    have hr:=HR.out j hjl
    have hk:=HK.out j hjl
    have hf:=HF.out j hjl
    have hfs:=HFS.out j hjl
    generalize xs[j]=a at *
    have Hvw:=Lib.hid hvw
    have hal:=(Below.refl _ wr).alloc (Nat.le_refl _) (.cells #[.int .i64 a.f0,.string a.f1.f0,.string a.f1.f1,.string a.f2,.int .i64 a.f3,.slice A5 a.f4.length c5] 31)
    have hvwA:=Hvw.out.below hal
    have HVA:=Lib.hid hvwA
    have hA0:=blk_new wr (.cells #[.int .i64 a.f0,.string a.f1.f0,.string a.f1.f1,.string a.f2,.int .i64 a.f3,.slice A5 a.f4.length c5] 31)
    have HA0:=Lib.hid hA0
    have hAl:=HA.out.go hal
    have hvyA:=Lib.hid (HVY.out.below hAl.below)
    have hmA:=hAl.map
    have HMA:=Lib.hid hmA
    have hbat:=HBA.out j
    have HRa:=Lib.hid hr
    have HKa:=Lib.hid hk
    have HFa:=Lib.hid hf
    have hone:=fun b l=>@replL_some name ⟨g0,g1,g2,g3,ys⟩ T f0 f2 j a b l
    have HON:=Lib.hid hone
    clear hvw hvwA hA0 hmA hr hk hf hone
    obtain ⟨⟨y0,y1,y2,y3,y4,y5⟩,_,yl⟩:=cells6 hAl.y
    obtain ⟨⟨x0,x1,x2,x3,x4,x5⟩,_,xl⟩:=cells6 hAl.x
    have HAL:=Lib.hid hAl
    clear hAl
    by_cases hcase:bindsAt f0 j=true∧f2=name
    ·exact absurd hcase.1 (by rw [hbat];simp)
    ·have hone3:=HO3.out j a (.inl (by rw [hbat];rfl))
     have hr3:=HRa.out _ _ _ HVA.out hvyA.out HMA.out
     have HR3:=Lib.hid hr3
     have HN3':=Lib.hid hone3
     clear hone3 hr3 hcase hbat
     go_wp2_with fail
     refine HR3.out.mono ?_
     rintro e w2 ⟨hb2,hres⟩
     clear q0 q1 q2 q3 q4 q5 x0 x1 x2 x3 x4 x5 y0 y1 y2 y3 y4 y5
     rcases hres with ⟨z,u,hz,rfl,hu⟩ | ⟨hz,he⟩
     ·have HDN:=Lib.hid (doing_some HD.out (HON.out _ _ (HN3'.out.trans hz)))
      clear hz HD
      obtain ⟨v5,A6,n6,c6,rfl,rfl,_,hMu⟩:=hu.cells
      have hAb:=bcell hb2 HA0.out
      obtain ⟨⟨a0,a1,a2,a3,a4,a5⟩,⟨o0,o1,o2,o3,o4,o5⟩,al⟩:=cells6 hAb
      have hbw2:=hal.trans (hb2.mono (by simp))
      have hu':Ex w2 (From (wr.heap.size+1)) z (exV z (.slice A6 n6 c6)):=hu.mono (fun k hk=>by simp only [From,World.size_alloc] at hk ⊢;omega)
      obtain ⟨W5,hW5⟩:∃ W5,W5=set6 w2 wr.heap.size (.int .i64 z.f0) (.string z.f1.f0) (.string z.f1.f1) (.string z.f2) (.int .i64 z.f3) (.slice A6 n6 c6):=⟨_,rfl⟩
      have hg5:w2.grownBy W5 (some wr.heap.size):=by rw [hW5];exact grown6 _ _ _ _ _ _ _
      have hrow5:k31.R 31 W5 0 (fun k=>w.heap.size+2 < k) vl acc:=Kd.R_mono (Kd.R_grown (Kd.R_below (Kd.R_bound HA.out.row) hbw2) hg5 (fun k hk e=>by injection e with e;have:=hk.2.2.1;omega)) (fun k hk=>hk.1)
      obtain ⟨hr0,inner,hown5,hrep5⟩:=hrow5
      have HU:=Lib.hid hu'
      have HOW:=Lib.hid hown5
      have HRE:=Lib.hid hrep5
      have HBW:=Lib.hid hbw2
      have HW5:=Lib.hid hW5
      have hone:∀ u ∈ [Value.int .i64 z.f0,.string z.f1.f0,.string z.f1.f1,.string z.f2,.int .i64 z.f3,.slice A6 n6 c6],u.oneCell'=true:=by simp [Value.oneCell']
      have hsm8:(acc.length+1) * 88≤140737488355328:=by omega
      unfold set6 at hW5
      have hs5:=hg5.size
      have hs5e:W5.heap.size=w2.heap.size:=by rw [hW5];simp only [World.size_setCell]
      replace hs5e:=Lib.hid hs5e
      clear hu hu' hMu hAb hown5 hrep5 hbw2 hg5 hr0 hb2
      unfold exV
      go_wp2_with (at_builtin;rw [← hW5];refine print_append_cells (w0:=W5) (W:=W5) 0 rfl (.tmp 79) (.tmp 81) 29 31 (.agg #[.int .i64 0,.string ⟨#[]⟩,.string ⟨#[]⟩,.string ⟨#[]⟩,.int .i64 0,.slice none 0 0]) 6 88 rfl Tryz.underlying29 info31 rfl (by decide) (by decide) vl acc.length inner [.int .i64 z.f0,.string z.f1.f0,.string z.f1.f1,.string z.f2,.int .i64 z.f3,.slice A6 n6 c6] (by rfl) (by rw [hs5e.out];simp only [Act.eval,Array.getD_eq_getD_getElem?,List.getElem?_toArray,List.getElem?_cons_succ,List.getElem?_cons_zero,Option.getD_some]) rfl hone HOW.out (Below.refl _ _) (Nat.zero_le _) hsm8 ?_;intro v1 w4 hown4 _ hg4 hat4)
      have hfinal:=HA.out.more hbT HBW.out al HU.out HW5.out HRE.out hown4 hg4 hat4
      have HFN:=Lib.hid hfinal
      clear hown4 hg4 hat4 hfinal
      go_roundg (gk - 1)
      case measure=>omega
      case rel=>exact ⟨j+1,acc++[z],_,round_next hj hjl,by go_num,rfl,by simp [hacc],HFN,HDN⟩
     ·have hnone:full=none:=doing_none HD.out (replL_none (HN3'.out.trans hz))
      unfold wrongAt at he
      subst he
      have hfin:=HAL.out.below.trans (hb2.mono HAL.out.below.size)
      go_wp2
      exact ⟨rfl,hfin,.inr ⟨by rw [hnone];rfl,rfl⟩⟩
   ·have hres:full=some acc:=doing_end (by have:=HD.out;rwa [List.drop_of_length_le (by omega),replL_nil] at this)
    have hxl:=HA.out
    obtain ⟨Ar,cr,hsl⟩:=Kd.R_slice hxl.row
    obtain ⟨⟨x0,x1,x2,x3,x4,x5⟩,⟨z0,z1,z2,z3,z4,z5⟩,xl⟩:=cells6 hxl.x
    obtain ⟨⟨r0,r1,r2,r3,r4,r5⟩,⟨o0,o1,o2,o3,o4,o5⟩,rl⟩:=cells6 hxl.z
    subst hsl
    have hg1:wr.grownBy (wr.setCell ⟨w.heap.size,5,none⟩ (.slice Ar acc.length cr)) (some w.heap.size):=Lib.grownBy_setCell _ _ _ _
    have hg2:=grown6 (X:=wr.setCell ⟨w.heap.size,5,none⟩ (.slice Ar acc.length cr)) (w.heap.size+1+1) (.int .i64 f0) (.string f1.f0) (.string f1.f1) (.string f2) (.int .i64 f3) (.slice Ar acc.length cr)
    have hQ1:=(hg1.block _ rl (by intro e;injection e with e;omega)).trans hxl.z
    have hfin:=fin6 (.int .i64 f0) (.string f1.f0) (.string f1.f1) (.string f2) (.int .i64 f3) (.slice Ar acc.length cr) hQ1
    have hbf:=below6 (hxl.below.setCell (p:=⟨w.heap.size,5,none⟩) (Nat.le_refl _) (.slice Ar acc.length cr)) (show w.heap.size≤w.heap.size+1+1 by omega) (.int .i64 f0) (.string f1.f0) (.string f1.f1) (.string f2) (.int .i64 f3) (.slice Ar acc.length cr)
    have hrow:=Kd.R_mono (ok':=From w.heap.size) (Kd.R_grown (Kd.R_grown hxl.row hg1 (fun k hk e=>by injection e with e;omega)) hg2 (fun k hk e=>by injection e with e;omega)) (fun k hk=>by simp only [From];omega)
    have HF1:=Lib.hid hfin
    have HF2:=Lib.hid hbf
    have HF3:=Lib.hid hrow
    replace hres:=Lib.hid hres
    replace hacc:=Lib.hid hacc
    clear hg1 hg2 hQ1 hfin hbf hrow hxl
    go_wp2
    exact bodyPost_ret (results_c Tryz.results72 _ _ (w.heap.size+1+1) 31 _ (0,0) _ rfl HF1.out Tryz.underlying31 rfl size31) rfl ⟨HF2.out,.inl ⟨⟨f0,f1,f2,f3,acc⟩,_,by rw [hres.out];rfl,rfl,⟨_,rfl,HF3.out⟩⟩⟩
end Go.Proofs.YtjaobihcdkjmbaaGreatDoor
end
section
namespace Go.Proofs.YtjaobihcdkjmbaaGreatDoor
open Go.RowKit Go.Maps Go.WideShapes Go.Proofs.YtjaobihcdkjmbaaGreatDoorW.PrintWords Go.Proofs.YtjaobihcdkjmbaaGreatDoor.PReadTokens
theorem replaced_calls (name:ByteArray) (hname:name.size≤4611686018427387904) (y:S31) (hny:nodesX y≤1000000000) (T:DataW Unit) (hT:SetD T) (bT nT:Nat) :
  ∀ (n:Nat) (x:S31),depthX x≤n→nodesX x≤1000000000→smallB x=true→∀ (v vy:Value) (w:World),Vw w x v→Vw w y vy→MapAt w bT nT T →
  Calls Tryz.prog 72 #[v,.string name,vy,.map (some bT)] w (RepPost (replS name y T x) w):=by
 intro n
 induction n with
 | zero=>intro x h;rw [depthX_eq] at h;omega
 | succ n ih =>
  intro x hd hn hsm v vy w hv hvy hm
  have hrec:∀ (j:Nat) (hj:j < x.f4.length) v vy w',Vw w' x.f4[j] v→Vw w' y vy→MapAt w' bT nT T→Calls Tryz.prog 72 #[v,.string name,vy,.map (some bT)] w' (RepPost (replS name y T x.f4[j]) w'):=by
   intro j hj v vy w' h1 h2 h3
   have d1:=depthX_mem (List.getElem_mem hj)
   have d2:=nodesX_mem (List.getElem_mem hj)
   rw [depthX_eq] at hd
   rw [nodesX_eq] at hn
   rw [smallB_eq,Bool.and_eq_true,decide_eq_true_eq] at hsm
   exact ih _ (by omega) (by omega) (smallL_mem hsm.2 (List.getElem_mem hj)) v vy w' h1 h2 h3
  by_cases h1:x.f0=1
  ·by_cases h2:x.f2=name
   ·exact replaced_hit name hname y hny T hT bT nT x hn hsm hrec ⟨h1,h2⟩ v vy w hv hvy hm
   ·exact replaced_b name hname y hny T hT bT nT x hn hsm hrec ⟨h1,h2⟩ v vy w hv hvy hm
  ·exact replaced_a name hname y hny T hT bT nT x hn hsm hrec h1 v vy w hv hvy hm
end Go.Proofs.YtjaobihcdkjmbaaGreatDoor
end
section
namespace Go.Proofs.YtjaobihcdkjmbaaGreatDoor
open Go.RowKit Go.Maps Go.Sort Go.Proofs.YtjaobihcdkjmbaaGreatDoorW.PrintWords Go.Proofs.YtjaobihcdkjmbaaGreatDoor.PReadTokens
theorem chk0_calls (x:S31) (h:chkE x=0) (hn:nodesX x≤4611686018427387904) (hsz:szB x=true) (v:Value) (w:World) (hv:Vw w x v) (hS:Start w) :
  Calls Tryz.prog 27 #[v] w fun e w'=>e=.returned (.int .i64 0)∧Below w.heap.size w w':=by
 have:=CheckExpr_calls x hn hsz v w hv hS
 rwa [h] at this
set_option maxRecDepth 100000 in
set_option maxHeartbeats 2000000 in
theorem Free_calls (x:S31) (hc0:chkE x=0) (hn:nodesX x≤1000000000) (hsz:szB x=true) (hsm:smallB x=true) (v:Value) (w:World) (hv:Vw w x v) (hS:Start w) :
  Calls Tryz.prog 33 #[v] w fun e w'=>∃ (u:Value) (ss:List (List UInt8)) (base:Nat),e=.returned (.tuple #[u,.int .i64 0])∧ss.Perm (strKeys (freeG x))∧w'.ownsRow base 9 1 u ss.length ((ss.mergeSort (fun x y=>decide (x≤y))).map encStr)∧w.heap.size≤base∧Below w.heap.size w w':=by
 obtain ⟨A,c,rfl,hc1,hc2⟩:=hv.out
 have hck:=fun w' (hb:Below w.heap.size w w')=>chk0_calls x hc0 (by omega) hsz _ w' (hv.below hb) (hS.below hb)
 have hfr:=fun w' (hb:Below w.heap.size w w')=>freeG_calls _ x (Nat.le_refl _) (by omega) hsm _ w' (hv.below hb)
 generalize freeG x=D at *
 generalize nodesX x=nn at *
 obtain ⟨f0,f1,f2,f3,xs⟩:=x
 simp only at *
 unfold exV at *
 simp only at *
 have HC:=Lib.hid hck
 have HT:=Lib.hid hfr
 clear hck hfr hv hS hc2 hc0 hsz hsm
 go_enter Tryz.func33,Tryz.ntmps33
 go_wp2_with fail
 have hb0:=(Below.refl _ w).alloc (Nat.le_refl _) (.cells #[.int .i64 f0,.string f1.f0,.string f1.f1,.string f2,.int .i64 f3,.slice A xs.length c] 31)
 have hbl:=blk_new w (.cells #[.int .i64 f0,.string f1.f0,.string f1.f1,.string f2,.int .i64 f3,.slice A xs.length c] 31)
 refine (HC.out _ hb0).mono ?_
 rintro e w1 ⟨rfl,hb1⟩
 have hbl1:=bcell hb1 hbl
 obtain ⟨⟨q0,q1,q2,q3,q4,q5⟩,_,xl⟩:=cells6 hbl1
 have hbw:=hb0.trans (hb1.mono (by simp))
 clear hbl hbl1
 go_wp2_with fail
 refine (HT.out _ hbw).mono ?_
 rintro e w2 ⟨b,rfl,hge,hm,hb2⟩
 have hbx:=hbw.trans (hb2.mono hbw.size)
 have hnm:=names_calls b nn D w2 hm hn
 unfold NamesPost at hnm
 have HN:=Lib.hid hnm
 clear hnm hm
 go_wp2_with fail
 refine HN.out.mono ?_
 rintro e w3 ⟨u,ss,rfl,hp,hrow,hnil,hb3⟩
 have HP:=Lib.hid hp
 have HR:=Lib.hid hrow
 clear hp hrow hnil
 go_wp2
 refine bodyPost_ret (results_tmp2 rfl _ _ _) rfl ⟨u,ss,w2.heap.size+1,rfl,HP.out,HR.out,by have:=hbx.size;omega,hbx.trans (hb3.mono hbx.size)⟩
set_option maxRecDepth 100000 in
set_option maxHeartbeats 2000000 in
theorem Size_calls (x:S31) (hc0:chkE x=0) (hn:nodesX x≤4611686018427387904) (hsz:szB x=true) (v:Value) (w:World) (hv:Vw w x v) (hS:Start w) :
  Calls Tryz.prog 35 #[v] w fun e w'=>e=.returned (.tuple #[.int .i64 (nodesX x),.int .i64 (depthX x),.int .i64 0])∧Below w.heap.size w w':=by
 obtain ⟨A,c,rfl,hc1,hc2⟩:=hv.out
 have hck:=fun w' (hb:Below w.heap.size w w')=>chk0_calls x hc0 hn hsz _ w' (hv.below hb) (hS.below hb)
 have hdp:=fun w' (hb:Below w.heap.size w w')=>deep_calls _ x (Nat.le_refl _) hn _ w' (hv.below hb)
 generalize depthX x=dd at *
 generalize nodesX x=nn at *
 obtain ⟨f0,f1,f2,f3,xs⟩:=x
 simp only at *
 unfold exV at *
 simp only at *
 have HC:=Lib.hid hck
 have HT:=Lib.hid hdp
 clear hck hdp hv hS hc2 hc0 hsz
 go_enter Tryz.func35,Tryz.ntmps35
 go_wp2_with fail
 have hb0:=(Below.refl _ w).alloc (Nat.le_refl _) (.cells #[.int .i64 f0,.string f1.f0,.string f1.f1,.string f2,.int .i64 f3,.slice A xs.length c] 31)
 have hbl:=blk_new w (.cells #[.int .i64 f0,.string f1.f0,.string f1.f1,.string f2,.int .i64 f3,.slice A xs.length c] 31)
 refine (HC.out _ hb0).mono ?_
 rintro e w1 ⟨rfl,hb1⟩
 have hbl1:=bcell hb1 hbl
 obtain ⟨⟨q0,q1,q2,q3,q4,q5⟩,_,xl⟩:=cells6 hbl1
 have hbw:=hb0.trans (hb1.mono (by simp))
 clear hbl hbl1
 go_wp2_with fail
 refine (HT.out _ hbw).mono ?_
 rintro e w2 ⟨rfl,hb2⟩
 have hbx:=hbw.trans (hb2.mono hbw.size)
 go_wp2
 go_quiet (fail)
 go_wp2
 refine bodyPost_ret (results_tmp3 rfl _ _ _) rfl ⟨rfl,?_⟩
 have h9:=hbx.alloc hbx.size (.cells #[.int .i64 nn,.int .i64 dd] 100)
 first | exact pw_below_drewN h9 _ | exact h9.drew | exact h9
end Go.Proofs.YtjaobihcdkjmbaaGreatDoor
end
section
namespace Go.Proofs.YtjaobihcdkjmbaaGreatDoor
open Go.RowKit Go.Maps Go.Proofs.YtjaobihcdkjmbaaGreatDoorW.PrintWords Go.Proofs.YtjaobihcdkjmbaaGreatDoor.PReadTokens
set_option maxHeartbeats 1000000 in
theorem catch70_idle (p q:Addr) (w:World) :
  CallsD Tryz.prog 70 #[.pointer (some p),.pointer (some q)] .returning w fun e u' w'=>e=.returned (.tuple #[])∧u'=.returning∧w'=w:=by
 have hta:=caught_nil w
 refine callsD_of_wpS Tryz.func70 rfl fun c₀ cs hu=>?_
 apply wpS_seq
 apply wpS_region
 simp [wpOpsS,go_sem,recoverD,hu,Tryz.ntmps70,Exit.thenS]
 refine hta.mono ?_
 rintro e w' ⟨rfl,hw⟩
 subst w'
 simp [go_sem,Oper.upon,Result.andThen]
 refine wpS_of_wp ?_
 simp only [Array.replicate_succ,Array.replicate_zero,List.push_toArray,List.append_toArray,List.nil_append,List.cons_append,List.setIfInBounds_toArray,List.set_cons_zero,List.set_cons_succ]
 go_wp2
 cases c₀
 simp_all [bodyPostS,results,Tryz.results70,Exit.thenS]
set_option maxHeartbeats 400000 in
theorem catch70_hit (p q:Nat) (n:Int) (hn:n≠0) (v0 v1 v2 v3 v4 v5 old:Value) (older:List PanicEntry) (w:World) (hp:w.heap[p]?=some (.cells #[v0,v1,v2,v3,v4,v5] 31 (0,0))) (hq:w.heap[q]?=some (.cells #[old] 36 (0,0))) (hpq:p≠q) (hg:w.cell? ⟨0,0,none⟩=some (.iface 209 (.agg #[.pointer (some ⟨7,134,none⟩)]))) :
  CallsD Tryz.prog 70 #[.pointer (some ⟨p,0,none⟩),.pointer (some ⟨q,0,none⟩)] (.panicking ({ v:=.iface 159 (.agg #[.int .i64 n]),recovered:=false } :: older)) w fun e u' w' =>
   e=.returned (.tuple #[])∧u'=.panicking ({ v:=.iface 159 (.agg #[.int .i64 n]),recovered:=true } :: older)∧w'.heap[p]?=some (.cells #[.int .i64 0,.string ⟨#[]⟩,.string ⟨#[]⟩,.string ⟨#[]⟩,.int .i64 0,.slice none 0 0] 31 (0,0))∧w'.heap[q]?=some (.cells #[.int .i64 n] 36 (0,0))∧∀ b,b≤p→b≤q→Below b w w':=by
 have hta:=caught63_hit n w hg
 refine callsD_of_wpS Tryz.func70 rfl fun c₀ cs hu=>?_
 apply wpS_seq
 apply wpS_region
 simp [wpOpsS,go_sem,recoverD,hu,Tryz.ntmps70,Exit.thenS]
 refine hta.mono ?_
 rintro e w1 ⟨rfl,hb⟩
 have hp2:=bcell hb hp
 have hq2:=bcell hb hq
 have hlp:=blk_lt hp
 have hlq:=blk_lt hq
 simp [go_sem,Oper.upon,Result.andThen]
 refine wpS_of_wp ?_
 simp only [Array.replicate_succ,Array.replicate_zero,List.push_toArray,List.append_toArray,List.nil_append,List.cons_append,List.setIfInBounds_toArray,List.set_cons_zero,List.set_cons_succ]
 have hne:(n == 0)=false:=beq_no hn
 obtain ⟨⟨t0,t1,t2,t3,t4,t5⟩,⟨b0,b1,b2,b3,b4,b5⟩,tl⟩:=cells6 hp2
 have c2:=blk_cell hq2 0
 have f2:=blk_frozen hq2 0
 have hfin:=fin6 (.int .i64 0) (.string ⟨#[]⟩) (.string ⟨#[]⟩) (.string ⟨#[]⟩) (.int .i64 0) (.slice none 0 0) hp2
 have hg6:=grown6 (X:=w1) p (.int .i64 0) (.string ⟨#[]⟩) (.string ⟨#[]⟩) (.string ⟨#[]⟩) (.int .i64 0) (.slice none 0 0)
 have hq3:=(hg6.block q (blk_lt hq2) (fun e=>by injection e with e;omega)).trans hq2
 have hq4:=blk_set hq3 0 (.int .i64 n)
 have hp4:=(Below.heap_setCell _ ⟨q,0,none⟩ (.int .i64 n) p (by simp only;omega)).trans hfin
 have hbb:∀ b,b≤p→b≤q→Below b w ((set6 w1 p (.int .i64 0) (.string ⟨#[]⟩) (.string ⟨#[]⟩) (.string ⟨#[]⟩) (.int .i64 0) (.slice none 0 0)).setCell ⟨q,0,none⟩ (.int .i64 n)):=fun b h1 h2 =>
  (below6 (hb.mono (by omega)) h1 (.int .i64 0) (.string ⟨#[]⟩) (.string ⟨#[]⟩) (.string ⟨#[]⟩) (.int .i64 0) (.slice none 0 0)).setCell (p:=⟨q,0,none⟩) h2 _
 have hqp:q≠p:=fun e=>hpq e.symm
 unfold set6 at hp4 hq4 hbb
 generalize hWW:World.setCell (World.setCell (World.setCell (World.setCell (World.setCell (World.setCell (World.setCell w1 ⟨p,0,none⟩ (.int .i64 0)) ⟨p,1,none⟩ (.string ⟨#[]⟩)) ⟨p,2,none⟩ (.string ⟨#[]⟩)) ⟨p,3,none⟩ (.string ⟨#[]⟩)) ⟨p,4,none⟩ (.int .i64 0)) ⟨p,5,none⟩ (.slice none 0 0)) ⟨q,0,none⟩ (.int .i64 n)=WW at hp4 hq4 hbb
 have HP:=Lib.hid hp4
 have HQ:=Lib.hid hq4
 have HB:=Lib.hid hbb
 have HU:=Lib.hid hu
 clear hfin hg6 hq3 hq4 hp4 hbb hp2 hq2 hb hta hu
 go_wp2_with fail
 try rw [hWW]
 simp [bodyPostS,results,Tryz.results70,Exit.thenS]
 exact ⟨HP.out,HQ.out,HB.out⟩
end Go.Proofs.YtjaobihcdkjmbaaGreatDoor
end
