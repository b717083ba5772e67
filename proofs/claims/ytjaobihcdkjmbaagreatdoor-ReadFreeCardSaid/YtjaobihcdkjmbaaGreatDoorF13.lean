/- The law ReadFree answers true for every argument; a part of its proof. -/
import Derived.Maps.Own
import Derived.Maps.OwnSet
import Derived.Laws.IdiomCopy
import Derived.Test.YtjaobihcdkjmbaaGreatDoorF6
import Derived.Test.YtjaobihcdkjmbaaGreatDoorF12
set_option linter.unusedVariables false
set_option linter.unusedSimpArgs false
section
namespace Go.Proofs.YtjaobihcdkjmbaaGreatDoor
open Go.RowKit Go.Maps Go.Proofs.YtjaobihcdkjmbaaGreatDoorW.PrintWords Go.Proofs.YtjaobihcdkjmbaaGreatDoor.PReadTokens
theorem kindT4 {op:Int} (h:op≠10∧op≠11∧op≠12∧op≠13):kindT op=152∨kindT op=154∨kindT op=155∨kindT op=156:=by
 unfold kindT
 rw [if_neg (by omega)]
 by_cases h1:op=3∨op=4∨op=5∨op=6
 ·rw [if_pos h1];exact .inl rfl
 ·rw [if_neg h1]
  by_cases h2:op=2
  ·rw [if_pos h2];exact .inr (.inl rfl)
  ·rw [if_neg h2]
   by_cases h3:op=7∨op=9
   ·rw [if_pos h3];exact .inr (.inr (.inl rfl))
   ·rw [if_neg h3];exact .inr (.inr (.inr rfl))
theorem ta_other {t:TypeId} (h:t=152∨t=154∨t=155∨t=156) (v:Value) (w:World):(Instr.typeAssert (.iface t v) 147 150 true).run Tryz.prog w=.ok (.tuple #[zE,.bool false]) w:=by
 rcases h with rfl | rfl | rfl | rfl
 ·exact ta152_150 v w
 ·exact ta154_150 v w
 ·exact ta155_150 v w
 ·exact ta156_150 v w
set_option maxRecDepth 100000 in
set_option maxHeartbeats 1000000 in
theorem binds_no (x:S31) (A:Option Addr) (n c:Nat) (h:x.f0≠10∧x.f0≠11∧x.f0≠12∧x.f0≠13) (w:World) :
  Calls Tryz.prog 109 #[exV x (.slice A n c)] w fun e w'=>e=.returned (.tuple #[.int .i64 0,.bool false])∧Below w.heap.size w w':=by
 have hk:=kindOf_calls x A n c
 have hta:=fun v w=>ta_other (kindT4 h) v w
 obtain ⟨f0,f1,f2,f3,xs⟩:=x
 simp only at *
 generalize kindT f0=kt at *
 unfold exV at *
 simp only at *
 clear h
 go_enter Tryz.func109,Tryz.ntmps109
 go_wp2_with (go_at_call 96;refine (hk _).mono ?_;rintro e w1 ⟨rfl,hb1⟩)
 refine bodyPost_ret (results_tmp2 rfl _ _ _) rfl ⟨rfl,?_⟩
 have h1:=((Below.refl _ w).alloc (Nat.le_refl _) (.cells #[.int .i64 f0,.string f1.f0,.string f1.f1,.string f2,.int .i64 f3,.slice A n c] 31)).trans (hb1.mono (by simp))
 exact h1.alloc h1.size _
theorem law9:Keyed Tryz.prog 9:=string_keyed Tryz.underlying9
abbrev MapAt (w:World) (b n:Nat) (D:DataW Unit):Prop:=w.ownsMap Tryz.prog 9 (plainElem Tryz.prog 4) b n D
theorem copy_calls (bd bs nd ns:Nat) (Dd Ds:DataW Unit) (w:World) (hd:MapAt w bd nd Dd) (hs:MapAt w bs ns Ds) (hne:bd≠bs) (hroom:nd+Maps.size Ds≤maxLen) :
  Calls Tryz.prog 110 #[.map (some bd),.map (some bs)] w fun e w'=>e=.returned (.tuple #[])∧MapAt w' bd (nd+Maps.size Ds) (Lib.mergeD Dd Ds)∧w.grownBy w' (some bd) :=
 (AnyX.maps_Copy Tryz.copy110 law9 (plainElem Tryz.prog 4) bd bs nd ns Dd Ds w hd hs hne hroom).mono fun _ _ ⟨h1,h2,_,h4⟩=>⟨h1,h2,h4⟩
def ownD (x:S31):DataW Unit:=if x.f0=1 then (DataW.map []).put (.string x.f2.data.toList) (.lit (.bool true)) else .map []
end Go.Proofs.YtjaobihcdkjmbaaGreatDoor
end
section
namespace Go.Proofs.YtjaobihcdkjmbaaGreatDoor
open Go.RowKit Go.Maps Go.Proofs.YtjaobihcdkjmbaaGreatDoorW.PrintWords Go.Proofs.YtjaobihcdkjmbaaGreatDoor.PReadTokens
def bindFrom (op:Int):Int:=if op=13 then 1 else 0
def bindYes (op:Int):Bool:=decide (op=10) || decide (op=11) || decide (op=13)
set_option maxRecDepth 100000 in
set_option maxHeartbeats 2000000 in
theorem binds_calls (x:S31) (A:Option Addr) (n c:Nat) (w:World) :
  Calls Tryz.prog 109 #[exV x (.slice A n c)] w fun e w'=>e=.returned (.tuple #[.int .i64 (bindFrom x.f0),.bool (bindYes x.f0)])∧Below w.heap.size w w':=by
 by_cases h:x.f0≠10∧x.f0≠11∧x.f0≠12∧x.f0≠13
 ·refine (binds_no x A n c h w).mono ?_
  rintro e w' ⟨rfl,hb⟩
  refine ⟨?_,hb⟩
  have e1:bindFrom x.f0=0:=by unfold bindFrom;rw [if_neg h.2.2.2]
  have e2:bindYes x.f0=false:=by unfold bindYes;simp [h.1,h.2.1,h.2.2.2]
  rw [e1,e2]
 ·have hk:=kindOf_calls x A n c
  obtain ⟨f0,f1,f2,f3,xs⟩:=x
  simp only at *
  have hta:=ta150_150
  have h4:f0=10∨f0=11∨f0=12∨f0=13:=by omega
  clear h
  unfold exV at *
  simp only at *
  have k10:kindT 10=150:=rfl
  have k11:kindT 11=150:=rfl
  have k12:kindT 12=150:=rfl
  have k13:kindT 13=150:=rfl
  rcases h4 with rfl | rfl | rfl | rfl
  all_goals
   go_enter Tryz.func109,Tryz.ntmps109
   go_wp2_with (go_at_call 96;refine (hk _).mono ?_;rintro e w1 ⟨rfl,hb1⟩)
   have h1:=((Below.refl _ w).alloc (Nat.le_refl _) (.cells #[.int .i64 _,.string f1.f0,.string f1.f1,.string f2,.int .i64 f3,.slice A n c] 31)).trans (hb1.mono (by simp))
   refine bodyPost_ret (results_tmp2 rfl _ _ _) rfl ⟨rfl,?_⟩
   exact h1.alloc h1.size _
def bindsAt (op:Int) (i:Nat):Bool:=bindYes op && decide (bindFrom op≤(i:Int))
def ownDel (op:Int) (name:ByteArray) (i:Nat) (D:DataW Unit):DataW Unit:=if bindsAt op i then D.del (.string name.data.toList) else D
mutual
/-- The names that an expression's map of free names holds. -/
def freeG:S31→DataW Unit
 | ⟨op,num,name,size,l⟩=>mergeG op name 0 (ownD ⟨op,num,name,size,[]⟩) l
def mergeG (op:Int) (name:ByteArray):Nat→DataW Unit→List S31→DataW Unit
 | _,D,[]=>D
 | i,D,x :: l=>mergeG op name (i+1) (Lib.mergeD D (ownDel op name i (freeG x))) l
end
theorem freeG_eq (x:S31):freeG x=mergeG x.f0 x.f2 0 (ownD x) x.f4:=by cases x;rfl
theorem mergeG_append (op:Int) (name:ByteArray) (l m:List S31):∀ i D,mergeG op name i D (l++m)=mergeG op name (i+l.length) (mergeG op name i D l) m:=by
 induction l with
 | nil=>intro i D;rfl
 | cons x l ih =>
  intro i D
  have:=ih (i+1) (Lib.mergeD D (ownDel op name i (freeG x)))
  simp only [List.cons_append,mergeG,List.length_cons]
  rw [this,show i+1+l.length=i+(l.length+1) by omega]
theorem mergeG_take (op:Int) (name:ByteArray) (D:DataW Unit) (l:List S31) (j:Nat) (h:j < l.length) :
  mergeG op name 0 D (l.take (j+1))=Lib.mergeD (mergeG op name 0 D (l.take j)) (ownDel op name j (freeG l[j])):=by
 rw [take_snoc' l j h,mergeG_append,List.length_take,Nat.min_eq_left (Nat.le_of_lt h),Nat.zero_add];rfl
mutual
/-- Names that are no great strings. -/
def smallB:S31→Bool
 | ⟨_,_,c,_,l⟩=>decide (c.size≤4611686018427387904) && smallL l
def smallL:List S31→Bool
 | []=>true
 | x :: l=>smallB x && smallL l
end
theorem smallB_eq (x:S31):smallB x=(decide (x.f2.size≤4611686018427387904) && smallL x.f4):=by cases x;rfl
theorem smallL_mem {l:List S31} (h:smallL l=true) {x:S31} (hx:x ∈ l):smallB x=true:=by
 induction l with
 | nil=>simp at hx
 | cons y l ih =>
  simp only [smallL,Bool.and_eq_true] at h
  rcases List.mem_cons.1 hx with rfl | hx
  ·exact h.1
  ·exact ih h.2 hx
structure FreeGt (w:World) (op:Int) (name:ByteArray) (D:DataW Unit) (xs:List S31) (B j:Nat) (wr:World):Prop where
 map:MapAt wr B (1+nodesL (xs.take j)) (mergeG op name 0 D (xs.take j))
 below:Below w.heap.size w wr
set_option maxRecDepth 100000 in
set_option maxHeartbeats 8000000 in
theorem freeG_calls:∀ (n:Nat) (x:S31),depthX x≤n→nodesX x≤4611686018427387904→smallB x=true→∀ (v:Value) (w:World),Vw w x v →
  Calls Tryz.prog 73 #[v] w fun e w'=>∃ b,e=.returned (.map (some b))∧w.heap.size≤b∧MapAt w' b (nodesX x) (freeG x)∧Below w.heap.size w w':=by
 intro n
 induction n with
 | zero=>intro x h;rw [depthX_eq] at h;omega
 | succ n ih =>
  intro x hd hn hb v w hv
  obtain ⟨A,c,rfl,hc1,hc2⟩:=hv.out
  rw [smallB_eq,Bool.and_eq_true,decide_eq_true_eq] at hb
  obtain ⟨hns,hb2⟩:=hb
  rw [depthX_eq] at hd
  rw [nodesX_eq] at hn
  have hrec:∀ (j:Nat) (hj:j < x.f4.length) v w,Vw w x.f4[j] v→Calls Tryz.prog 73 #[v] w fun e w'=>∃ b,e=.returned (.map (some b))∧w.heap.size≤b∧MapAt w' b (nodesX x.f4[j]) (freeG x.f4[j])∧Below w.heap.size w w':=by
   intro j hj
   have h1:=depthX_mem (List.getElem_mem hj)
   have h2:=nodesX_mem (List.getElem_mem hj)
   exact ih _ (by omega) (by omega) (smallL_mem hb2 (List.getElem_mem hj))
  have hbn:=fun w'=>binds_calls x A x.f4.length c w'
  have hkey:keyOf Tryz.prog 9 (.string x.f2)=some (.string x.f2.data.toList):=Go.WideMaps.keyOf_string_mk Tryz.underlying9 (by unfold maxLen;omega)
  have hD:∃ D,D=ownD x:=⟨_,rfl⟩
  obtain ⟨D,hD⟩:=hD
  have hDe:=hD
  unfold ownD at hDe
  have hmt:=mergeG_take x.f0 x.f2 D x.f4
  have hnt:=nodesL_take x.f4
  have hnl:=nodesL_take_le x.f4
  have hlen:=length_nodesL x.f4
  have htk:x.f4.take x.f4.length=x.f4:=List.take_length
  have hfe:freeG x=mergeG x.f0 x.f2 0 D x.f4:=by rw [freeG_eq,← hD]
  rw [hfe,nodesX_eq]
  have hmm:=@run_makeMap Tryz.prog
  obtain ⟨f0,f1,f2,f3,xs⟩:=x
  simp only at *
  clear ih hv hb2 hfe hD hns
  unfold exV at *
  simp only at *
  have HR:=Lib.hid hrec
  have HN:=Lib.hid hnt
  have HM:=Lib.hid hmt
  have HNL:=Lib.hid hnl
  have HT:=Lib.hid htk
  have HC:=Lib.hid hc2
  obtain ⟨bf,hbf⟩:∃ k,k=bindFrom f0:=⟨_,rfl⟩
  obtain ⟨bY,hbY⟩:∃ k,k=bindYes f0:=⟨_,rfl⟩
  rw [← hbf,← hbY] at hbn
  have hba:∀ i:Nat,bindsAt f0 i=(bY && decide (bf≤(i:Int))):=fun i=>by rw [hbf,hbY];rfl
  have HBA:=Lib.hid hba
  have HB:=Lib.hid hbn
  have HK:=Lib.hid hkey
  clear hrec hnt hmt hnl htk hc2 hbn hkey hbf hbY hba
  by_cases hop:f0=1
  ·rw [if_pos hop] at hDe
   have HD:=Lib.hid hDe
   clear hDe
   have hop':(f0 == 1)=true:=by rw [hop];rfl
   clear hop
   go_enter Tryz.func73,Tryz.ntmps73
   go_wp2_with (first
    | (at_mapUpdate;refine wpList_mapUpdate_own _ rfl _ _ _ 116 rfl 9 4 law9 Tryz.underlying116 (plainElem Tryz.prog 4) (w.heap.size+1) 0 (.map []) rfl (by have:=World.ownsMap_made (H:=Unit) (w.alloc (.cells #[.int .i64 f0,.string f1.f0,.string f1.f1,.string f2,.int .i64 f3,.slice A xs.length c] 31)) Tryz.prog 9 (plainElem Tryz.prog 4);rwa [World.size_alloc] at this) (by unfold maxLen;omega) _ _ _ rfl rfl HK.out _ [] (plainElem_bool Tryz.underlying4 true) ?_))
   intro w1 hown1 hgrow1
   rw [← HD.out] at hown1
   have hbx:=(hgrow1.block w.heap.size (by simp;omega) (by intro e;injection e with e;omega)).trans ((Below.heap_alloc _ _ _ (by simp)).trans (blk_new w (.cells #[.int .i64 f0,.string f1.f0,.string f1.f1,.string f2,.int .i64 f3,.slice A xs.length c] 31)))
   have hbe:Below w.heap.size w w1:=(((Below.refl _ w).alloc (Nat.le_refl _) (.cells #[.int .i64 f0,.string f1.f0,.string f1.f1,.string f2,.int .i64 f3,.slice A xs.length c] 31)).alloc (by simp) (.map #[] 0)).grown hgrow1 (by simp;omega) (fun k e=>by injection e with e;omega)
   clear hgrow1 hop'
   have BX:=Lib.hid hbx
   have hb1:=Lib.hid hbe
   obtain ⟨⟨q0,q1,q2,q3,q4,q5⟩,_,xl⟩:=cells6 hbx
   clear hbx hbe
   go_wp2_with fail
   refine (HB.out _).mono ?_
   rintro e w2 ⟨rfl,hb2⟩
   have hx2:=bcell hb2 BX.out
   obtain ⟨⟨p0,p1,p2,p3,p4,p5⟩,_,xl2⟩:=cells6 hx2
   have HX2:=Lib.hid hx2
   have hat:FreeGt w f0 f2 D xs (w.heap.size+1) 0 w2:=⟨by simpa [nodesL,mergeG] using hown1.kept (row:=none) ⟨hb2.os,hb2.tape,hb2.output,hb2.size,fun k hk _=>hb2.block k hk⟩ (by simp),hb1.out.trans (hb2.mono hb1.out.size)⟩
   clear hx2 hown1 q0 q1 q2 q3 q4 q5 xl
   go_wp2
   go_loopg [24] xs.length (fun k i wr=>∃ j:Nat,j+k=xs.length∧i=.int .i64 j∧FreeGt w f0 f2 D xs (w.heap.size+1) j wr∧Hid (wr.heap[w.heap.size]?=some (.cells #[.int .i64 f0,.string f1.f0,.string f1.f1,.string f2,.int .i64 f3,.slice A xs.length c] 31 (0,0))))
   case atStart=>exact ⟨0,by omega,rfl,hat,HX2⟩
   case round =>
    clear hat HX2 p0 p1 p2 p3 p4 p5 xl2
    obtain ⟨j,hj,rfl,hat,HX⟩:=hrel
    by_cases hjl:j < xs.length
    ·obtain ⟨ad,A5,c5,rfl,q0,q1,q2,q3,q4,q5,hvw⟩:=arg_cells (Kd.C_below HC.out hat.below) j hjl
     have hr:=HR.out j hjl
     have hn1:=HN.out j hjl
     have hm1:=HM.out j hjl
     have hn2:=HNL.out (j+1)
     generalize xs[j]=y at *
     have Hvw:=Lib.hid hvw
     clear hvw
     go_wp2_with fail
     refine (hr _ _ (Hvw.out.below ((Below.refl _ _).alloc (Nat.le_refl _) _))).mono ?_
     rintro e w3 ⟨b,rfl,hbge,hmap3,hb3⟩
     have hbl:Below wr.heap.size wr w3:=((Below.refl _ _).alloc (Nat.le_refl _) _).trans (hb3.mono (by simp))
     have hB3:MapAt w3 (w.heap.size+1) (1+nodesL (xs.take j)) (mergeG f0 f2 0 D (xs.take j)):=hat.map.kept (row:=none) ⟨hbl.os,hbl.tape,hbl.output,hbl.size,fun k hk _=>hbl.block k hk⟩ (by simp)
     have hBlt:=hat.map.lt
     simp only [World.size_alloc] at hbge
     have hsz:=hmap3.size_le
     have hw3:=hat.below.trans (hbl.mono hat.below.size)
     have HW:=Lib.hid hw3
     have hx3:=bcell hbl HX.out
     have HX3:=Lib.hid hx3
     clear hr hat hbl hb3
     have hbat:=HBA.out j
     unfold ownDel at hm1
     rw [hbat] at hm1
     clear hbat
     cases hins:(bY && decide (bf≤(j:Int)))
     ·rw [hins,if_neg (by simp)] at hm1
      have hcp:=copy_calls (w.heap.size+1) b _ _ _ _ w3 hB3 hmap3 (by omega) (by unfold maxLen;omega)
      have hsplit:bY=false∨(bY=true∧decide (bf≤(j:Int))=false):=by
       cases bY
       ·exact .inl rfl
       ·exact .inr ⟨rfl,by simpa using hins⟩
      clear hmap3 hB3 hins hx3
      rcases hsplit with rfl | ⟨rfl,hdf⟩
      all_goals
       go_wp2_with fail
       refine hcp.mono ?_
       rintro e w4 ⟨rfl,hm4,hg4⟩
       have hat4:FreeGt w f0 f2 D xs (w.heap.size+1) (j+1) w4:=by
        refine ⟨?_,HW.out.grown hg4 HW.out.size (fun k e=>by injection e with e;omega)⟩
        rw [hm1,hn1]
        exact hm4.mono (by omega)
       have HX4:=Lib.hid ((hg4.block _ (blk_lt HX3.out) (by intro e;injection e with e;omega)).trans HX3.out)
       clear hm4 hg4 hcp hw3
       go_wp2
       go_roundg (gk - 1)
       case measure=>omega
       case rel=>exact ⟨j+1,round_next hj hjl,by go_num,hat4,HX4⟩
     ·rw [hins,if_pos rfl] at hm1
      obtain ⟨rfl,hdf⟩:bY=true∧decide (bf≤(j:Int))=true:=by simpa [Bool.and_eq_true] using hins
      obtain ⟨⟨g0,g1,g2,g3,g4,g5⟩,_,gl⟩:=cells6 hx3
      have HB3:=Lib.hid hB3
      have HM3:=Lib.hid hmap3
      clear hins hx3 hmap3 hB3
      go_wp2_with (at_delete;refine wpList_delete_own _ rfl _ _ 116 9 rfl 4 law9 Tryz.underlying116 (plainElem Tryz.prog 4) b _ _ rfl HM3.out _ _ rfl HK.out ?_;intro w5 hown5 hturn5)
      have hg5:=hturn5.grown
      have hB5:=HB3.out.kept hg5 (by intro e;injection e with e;omega)
      have hx5:=(hg5.block _ (blk_lt HX3.out) (by intro e;injection e with e;omega)).trans HX3.out
      have HX5:=Lib.hid hx5
      have hw5:=HW.out.grown hg5 HW.out.size (fun k e=>by injection e with e;omega)
      have hs5:=hown5.size_le
      have HW5:=Lib.hid hw5
      have hcp:=copy_calls (w.heap.size+1) b _ _ _ _ w5 hB5 hown5 (by omega) (by unfold maxLen;omega)
      clear hown5 hturn5 hg5 hB5 hx5 hw5 g0 g1 g2 g3 g4 g5
      go_wp2_with fail
      refine hcp.mono ?_
      rintro e w4 ⟨rfl,hm4,hg4⟩
      have hat4:FreeGt w f0 f2 D xs (w.heap.size+1) (j+1) w4:=by
       refine ⟨?_,HW5.out.grown hg4 HW5.out.size (fun k e=>by injection e with e;omega)⟩
       rw [hm1,hn1]
       exact hm4.mono (by omega)
      have HX4:=Lib.hid ((hg4.block _ (blk_lt HX5.out) (by intro e;injection e with e;omega)).trans HX5.out)
      clear hm4 hg4 hcp hw3
      go_wp2
      go_roundg (gk - 1)
      case measure=>omega
      case rel=>exact ⟨j+1,round_next hj hjl,by go_num,hat4,HX4⟩
    ·obtain rfl:j=xs.length:=by omega
     go_wp2
     go_ret
     have h1:=hat.map
     rw [HT.out] at h1
     exact ⟨_,rfl,by omega,h1.mono (by omega),hat.below⟩
  ·rw [if_neg hop] at hDe
   have HD:=Lib.hid hDe
   have hop':=beq_no hop
   have hown0:MapAt ((w.alloc (.cells #[.int .i64 f0,.string f1.f0,.string f1.f1,.string f2,.int .i64 f3,.slice A xs.length c] 31)).alloc (.map #[] 0)) (w.heap.size+1) 0 (.map []):=by have:=World.ownsMap_made (H:=Unit) (w.alloc (.cells #[.int .i64 f0,.string f1.f0,.string f1.f1,.string f2,.int .i64 f3,.slice A xs.length c] 31)) Tryz.prog 9 (plainElem Tryz.prog 4);rwa [World.size_alloc] at this
   rw [← HD.out] at hown0
   have hown1:=hown0.mono (n':=1) (by omega)
   have hbx:((w.alloc (.cells #[.int .i64 f0,.string f1.f0,.string f1.f1,.string f2,.int .i64 f3,.slice A xs.length c] 31)).alloc (.map #[] 0)).heap[w.heap.size]?=_:=(Below.heap_alloc _ _ _ (by simp)).trans (blk_new w (.cells #[.int .i64 f0,.string f1.f0,.string f1.f1,.string f2,.int .i64 f3,.slice A xs.length c] 31))
   have hbe:Below w.heap.size w ((w.alloc (.cells #[.int .i64 f0,.string f1.f0,.string f1.f1,.string f2,.int .i64 f3,.slice A xs.length c] 31)).alloc (.map #[] 0)):=((Below.refl _ w).alloc (Nat.le_refl _) _).alloc (by simp) _
   clear hDe hop hown0
   go_enter Tryz.func73,Tryz.ntmps73
   go_wp2_with fail
   generalize hw1:(w.alloc (.cells #[.int .i64 f0,.string f1.f0,.string f1.f1,.string f2,.int .i64 f3,.slice A xs.length c] 31)).alloc (.map #[] 0)=w1 at *
   clear hw1 hop'
   have BX:=Lib.hid hbx
   have hb1:=Lib.hid hbe
   obtain ⟨⟨q0,q1,q2,q3,q4,q5⟩,_,xl⟩:=cells6 hbx
   clear hbx hbe
   go_wp2_with fail
   refine (HB.out _).mono ?_
   rintro e w2 ⟨rfl,hb2⟩
   have hx2:=bcell hb2 BX.out
   obtain ⟨⟨p0,p1,p2,p3,p4,p5⟩,_,xl2⟩:=cells6 hx2
   have HX2:=Lib.hid hx2
   have hat:FreeGt w f0 f2 D xs (w.heap.size+1) 0 w2:=⟨by simpa [nodesL,mergeG] using hown1.kept (row:=none) ⟨hb2.os,hb2.tape,hb2.output,hb2.size,fun k hk _=>hb2.block k hk⟩ (by simp),hb1.out.trans (hb2.mono hb1.out.size)⟩
   clear hx2 hown1 q0 q1 q2 q3 q4 q5 xl
   go_wp2
   go_loopg [24] xs.length (fun k i wr=>∃ j:Nat,j+k=xs.length∧i=.int .i64 j∧FreeGt w f0 f2 D xs (w.heap.size+1) j wr∧Hid (wr.heap[w.heap.size]?=some (.cells #[.int .i64 f0,.string f1.f0,.string f1.f1,.string f2,.int .i64 f3,.slice A xs.length c] 31 (0,0))))
   case atStart=>exact ⟨0,by omega,rfl,hat,HX2⟩
   case round =>
    clear hat HX2 p0 p1 p2 p3 p4 p5 xl2
    obtain ⟨j,hj,rfl,hat,HX⟩:=hrel
    by_cases hjl:j < xs.length
    ·obtain ⟨ad,A5,c5,rfl,q0,q1,q2,q3,q4,q5,hvw⟩:=arg_cells (Kd.C_below HC.out hat.below) j hjl
     have hr:=HR.out j hjl
     have hn1:=HN.out j hjl
     have hm1:=HM.out j hjl
     have hn2:=HNL.out (j+1)
     generalize xs[j]=y at *
     have Hvw:=Lib.hid hvw
     clear hvw
     go_wp2_with fail
     refine (hr _ _ (Hvw.out.below ((Below.refl _ _).alloc (Nat.le_refl _) _))).mono ?_
     rintro e w3 ⟨b,rfl,hbge,hmap3,hb3⟩
     have hbl:Below wr.heap.size wr w3:=((Below.refl _ _).alloc (Nat.le_refl _) _).trans (hb3.mono (by simp))
     have hB3:MapAt w3 (w.heap.size+1) (1+nodesL (xs.take j)) (mergeG f0 f2 0 D (xs.take j)):=hat.map.kept (row:=none) ⟨hbl.os,hbl.tape,hbl.output,hbl.size,fun k hk _=>hbl.block k hk⟩ (by simp)
     have hBlt:=hat.map.lt
     simp only [World.size_alloc] at hbge
     have hsz:=hmap3.size_le
     have hw3:=hat.below.trans (hbl.mono hat.below.size)
     have HW:=Lib.hid hw3
     have hx3:=bcell hbl HX.out
     have HX3:=Lib.hid hx3
     clear hr hat hbl hb3
     have hbat:=HBA.out j
     unfold ownDel at hm1
     rw [hbat] at hm1
     clear hbat
     cases hins:(bY && decide (bf≤(j:Int)))
     ·rw [hins,if_neg (by simp)] at hm1
      have hcp:=copy_calls (w.heap.size+1) b _ _ _ _ w3 hB3 hmap3 (by omega) (by unfold maxLen;omega)
      have hsplit:bY=false∨(bY=true∧decide (bf≤(j:Int))=false):=by
       cases bY
       ·exact .inl rfl
       ·exact .inr ⟨rfl,by simpa using hins⟩
      clear hmap3 hB3 hins hx3
      rcases hsplit with rfl | ⟨rfl,hdf⟩
      all_goals
       go_wp2_with fail
       refine hcp.mono ?_
       rintro e w4 ⟨rfl,hm4,hg4⟩
       have hat4:FreeGt w f0 f2 D xs (w.heap.size+1) (j+1) w4:=by
        refine ⟨?_,HW.out.grown hg4 HW.out.size (fun k e=>by injection e with e;omega)⟩
        rw [hm1,hn1]
        exact hm4.mono (by omega)
       have HX4:=Lib.hid ((hg4.block _ (blk_lt HX3.out) (by intro e;injection e with e;omega)).trans HX3.out)
       clear hm4 hg4 hcp hw3
       go_wp2
       go_roundg (gk - 1)
       case measure=>omega
       case rel=>exact ⟨j+1,round_next hj hjl,by go_num,hat4,HX4⟩
     ·rw [hins,if_pos rfl] at hm1
      obtain ⟨rfl,hdf⟩:bY=true∧decide (bf≤(j:Int))=true:=by simpa [Bool.and_eq_true] using hins
      obtain ⟨⟨g0,g1,g2,g3,g4,g5⟩,_,gl⟩:=cells6 hx3
      have HB3:=Lib.hid hB3
      have HM3:=Lib.hid hmap3
      clear hins hx3 hmap3 hB3
      go_wp2_with (at_delete;refine wpList_delete_own _ rfl _ _ 116 9 rfl 4 law9 Tryz.underlying116 (plainElem Tryz.prog 4) b _ _ rfl HM3.out _ _ rfl HK.out ?_;intro w5 hown5 hturn5)
      have hg5:=hturn5.grown
      have hB5:=HB3.out.kept hg5 (by intro e;injection e with e;omega)
      have hx5:=(hg5.block _ (blk_lt HX3.out) (by intro e;injection e with e;omega)).trans HX3.out
      have HX5:=Lib.hid hx5
      have hw5:=HW.out.grown hg5 HW.out.size (fun k e=>by injection e with e;omega)
      have hs5:=hown5.size_le
      have HW5:=Lib.hid hw5
      have hcp:=copy_calls (w.heap.size+1) b _ _ _ _ w5 hB5 hown5 (by omega) (by unfold maxLen;omega)
      clear hown5 hturn5 hg5 hB5 hx5 hw5 g0 g1 g2 g3 g4 g5
      go_wp2_with fail
      refine hcp.mono ?_
      rintro e w4 ⟨rfl,hm4,hg4⟩
      have hat4:FreeGt w f0 f2 D xs (w.heap.size+1) (j+1) w4:=by
       refine ⟨?_,HW5.out.grown hg4 HW5.out.size (fun k e=>by injection e with e;omega)⟩
       rw [hm1,hn1]
       exact hm4.mono (by omega)
      have HX4:=Lib.hid ((hg4.block _ (blk_lt HX5.out) (by intro e;injection e with e;omega)).trans HX5.out)
      clear hm4 hg4 hcp hw3
      go_wp2
      go_roundg (gk - 1)
      case measure=>omega
      case rel=>exact ⟨j+1,round_next hj hjl,by go_num,hat4,HX4⟩
    ·obtain rfl:j=xs.length:=by omega
     go_wp2
     go_ret
     have h1:=hat.map
     rw [HT.out] at h1
     exact ⟨_,rfl,by omega,h1.mono (by omega),hat.below⟩
end Go.Proofs.YtjaobihcdkjmbaaGreatDoor
end
section
namespace Go.Proofs.YtjaobihcdkjmbaaGreatDoor
open Go.RowKit Go.Proofs.YtjaobihcdkjmbaaGreatDoorW.PrintWords Go.Proofs.YtjaobihcdkjmbaaGreatDoor.PReadTokens
theorem info31b:(Tryz.prog.info? 31).map (·.size)=some 6:=by kernel_rfl
theorem run_copy_six (W:World) (b n:Nat) (a:Addr) (c:Nat) (cs:List Value) (hn:cs.length=n * 6)
  (hsrc:∀ j v,cs[j]?=some v→W.cell? (a.add j)=some v) (hc:∀ j,j < cs.length→(W.cell? ⟨b,0+j,none⟩).isSome=true) (hf:∀ j,j < cs.length→W.frozen? ⟨b,0+j,none⟩=false) (h1:∀ v ∈ cs,v.oneCell'=true) :
  (Builtin.copy_ #[29,29] 3 #[.slice (some ⟨b,0,none⟩) n n,.slice (some a) n c]).run Tryz.prog W=.ok (.int .i64 n) (W.setCells b 0 cs):=by
 have hl:=run_loadCells_list (P:=Tryz.prog) W a cs hsrc
 have hst:=run_storeCells_cells (P:=Tryz.prog) b 0 cs 0 W (by simpa using hc) (by simpa using hf) h1
 have hs:=info31b
 cases hq:Tryz.prog.info? 31 with
 | none=>rw [hq] at hs;cases hs
 | some i =>
  have hi:i.size=6:=by simpa [hq] using hs
  rw [hn] at hl
  simp [Builtin.copy_,run_underlying Tryz.underlying29,Builtin.lenOf,Builtin.firstCells,sizeOf,typeInfo,hq,hi,hl,hst,goInt]
theorem run_copy_six0 (W:World) (d A:Option Addr) (c:Nat) :
  (Builtin.copy_ #[29,29] 3 #[.slice d 0 0,.slice A 0 c]).run Tryz.prog W=.ok (.int .i64 0) W:=by
 have hs:=info31b
 cases hq:Tryz.prog.info? 31 with
 | none=>rw [hq] at hs;cases hs
 | some i =>
  have hl:∀ (x:Addr),(loadCells x 0).run Tryz.prog W=.ok #[] W:=fun x=>by simpa using run_loadCells_list (P:=Tryz.prog) W x [] (by simp)
  cases d <;> cases A <;> simp [Builtin.copy_,run_underlying Tryz.underlying29,Builtin.lenOf,Builtin.firstCells,sizeOf,typeInfo,hq,storeCells,hl,goInt]
theorem grown_setCells (W:World) (b o:Nat) (cs:List Value):W.grownBy (W.setCells b o cs) (some b):=by
 obtain ⟨h1,h2,h3,h4⟩:=setCells_same b cs o W
 exact ⟨h1,h2,h3,by rw [h4];exact Nat.le_refl _,fun k _ hk=>setCells_far cs o k (fun e=>hk (by rw [e]))⟩
theorem copy_six (xs:List S31) (A:Option Addr) (c:Nat) (W:World) (b:Nat) (cur:Array Value) (hg:W.heap[b]?=some (.cells cur 31 (0,0))) (hcur:cur.size=xs.length * 6) (w0:World) (hb:Below w0.heap.size w0 W) (hC:k31.C w0 A xs.length xs) :
  ∃ Y inner,(Builtin.copy_ #[29,29] 3 #[.slice (some ⟨b,0,none⟩) xs.length xs.length,.slice A xs.length c]).run Tryz.prog W=.ok (.int .i64 xs.length) Y∧Reps (k31.K w0) 6 xs inner∧Y.heap[b]?=some (.cells inner.toArray 31 (0,0))∧W.grownBy Y (some b):=by
 by_cases h0:xs.length=0
 ·obtain rfl:xs=[]:=List.eq_nil_of_length_eq_zero h0
  refine ⟨W,[],run_copy_six0 W _ A c,Reps.none _ _,?_,World.grownBy.refl _ _⟩
  rw [hg]
  have:cur=#[]:=by apply Array.eq_empty_of_size_eq_zero;simpa using hcur
  rw [this]
 ·obtain ⟨ad,rfl,_⟩:=hC.2.2 (by omega)
  obtain ⟨inner,hr,hcells⟩:=ReadsRow.inner_ hC
  have hl:inner.length=xs.length * 6:=hr.1
  have h1:∀ v ∈ inner,v.oneCell'=true:=Kd.reps_one hr (Nat.zero_lt_succ 5) (fun x cs h=>k31.K_one h)
  have hrun:=run_copy_six W b xs.length ad c inner hl (fun j v hv=>pw_cell_below hb (hcells j v hv)) (fun j hj=>by
   rw [Nat.zero_add]
   have:=blk_cell hg j
   rw [this]
   have:j < cur.size:=by omega
   simp [this]) (fun j hj=>by rw [Nat.zero_add];exact blk_frozen hg j) h1
  obtain ⟨cur',e1,e2,e3⟩:=setCells_row inner 0 W cur hg (by omega)
  refine ⟨_,inner,hrun,hr,?_,grown_setCells _ _ _ _⟩
  rw [e1]
  have:cur'=inner.toArray:=by
   apply Array.ext'
   rw [e3,List.take_zero,List.nil_append,List.drop_of_length_le (by simp;omega),List.append_nil]
  rw [this]
theorem reps_cons {α:Type} {R:α→List Value→Prop} {y:α} {ys:List α} {cs:List Value} (h:Reps R 6 (y :: ys) cs):∃ c cs',cs=c++cs'∧c.length=6∧R y c∧Reps R 6 ys cs':=by
 have hl:=h.1
 rw [List.length_cons] at hl
 refine ⟨cs.take 6,cs.drop 6,(List.take_append_drop 6 cs).symm,by rw [List.length_take];omega,?_,?_,fun j p hj=>?_⟩
 ·have:=h.2 0 y rfl
  rwa [Nat.zero_mul,List.drop_zero] at this
 ·rw [List.length_drop];omega
 ·have:=h.2 (j+1) p (by simpa using hj)
  rw [List.drop_drop]
  rwa [show 6+j * 6=(j+1) * 6 by omega]
theorem set_mid {α:Type} (a:List α) (x y:α) (b:List α) (i:Nat) (h:i=a.length):(a++x :: b).set i y=a++y :: b:=by subst h;simp
theorem six_list (done rest:List Value) (u0 u1 u2 u3 u4 u5 v0 v1 v2 v3 v4 v5:Value) :
  ((((((done++u0 :: u1 :: u2 :: u3 :: u4 :: u5 :: rest).set done.length v0).set (done.length+1) v1).set (done.length+2) v2).set (done.length+3) v3).set (done.length+4) v4).set (done.length+5) v5=(done++[v0,v1,v2,v3,v4,v5])++rest:=by
 have e0:=set_mid done u0 v0 (u1 :: u2 :: u3 :: u4 :: u5 :: rest) _ rfl
 have e1:=set_mid (done++[v0]) u1 v1 (u2 :: u3 :: u4 :: u5 :: rest) (done.length+1) (by simp)
 have e2:=set_mid (done++[v0,v1]) u2 v2 (u3 :: u4 :: u5 :: rest) (done.length+2) (by simp)
 have e3:=set_mid (done++[v0,v1,v2]) u3 v3 (u4 :: u5 :: rest) (done.length+3) (by simp)
 have e4:=set_mid (done++[v0,v1,v2,v3]) u4 v4 (u5 :: rest) (done.length+4) (by simp)
 have e5:=set_mid (done++[v0,v1,v2,v3,v4]) u5 v5 rest (done.length+5) (by simp)
 simp only [List.append_assoc,List.cons_append,List.nil_append] at e1 e2 e3 e4 e5 ⊢
 rw [e0,e1,e2,e3,e4,e5]
theorem six_set {X:World} {R o:Nat} {done rest:List Value} {u0 u1 u2 u3 u4 u5:Value} {t:TypeId} (v0 v1 v2 v3 v4 v5:Value) (hR:X.heap[R]?=some (.cells (done++u0 :: u1 :: u2 :: u3 :: u4 :: u5 :: rest).toArray t (0,0))) (ho:o=done.length) :
  (((((((X.setCell ⟨R,o,none⟩ v0).setCell ⟨R,o+1,none⟩ v1).setCell ⟨R,o+2,none⟩ v2).setCell ⟨R,o+3,none⟩ v3).setCell ⟨R,o+4,none⟩ v4).setCell ⟨R,o+5,none⟩ v5)).heap[R]?=some (.cells ((done++[v0,v1,v2,v3,v4,v5])++rest).toArray t (0,0)):=by
 subst ho
 rw [← six_list done rest u0 u1 u2 u3 u4 u5 v0 v1 v2 v3 v4 v5]
 generalize done++u0 :: u1 :: u2 :: u3 :: u4 :: u5 :: rest=L at *
 generalize done.length=o
 have h:=blk_set (blk_set (blk_set (blk_set (blk_set (blk_set hR o v0) (o+1) v1) (o+2) v2) (o+3) v3) (o+4) v4) (o+5) v5
 simp only [List.setIfInBounds_toArray] at h
 exact h
theorem six_cell {X:World} {R:Nat} {done rest c:List Value} {t:TypeId} (hR:X.heap[R]?=some (.cells (done++(c++rest)).toArray t (0,0))) (k:Nat) (hk:k < c.length):X.cell? ⟨R,done.length+k,none⟩=some c[k]:=by
 have:=blk_cell hR (done.length+k)
 rw [this]
 simp [List.getElem?_append_right,List.getElem?_append_left,hk]
structure KeptAt (w:World) (xs:List S31) (B j:Nat) (wr:World):Prop where
 out:∃ done rest,done.length=j * 6∧wr.heap[B]?=some (.cells (done++rest).toArray 31 (0,0))∧Reps (k31.M wr 0 (fun k=>B < k)) 6 (xs.take j) done∧Reps (k31.K w) 6 (xs.drop j) rest
 below:Below w.heap.size w wr
theorem made_six (n:Nat) (h:n≤1000000000) (W:World):(Instr.makeSlice 29 (.int .i64 (n:Int)) (.int .i64 (n:Int))).run Tryz.prog W=.ok (.slice (some ⟨W.heap.size,0,none⟩) n n) (W.alloc (.cells (madeCells #[.int .i64 0,.string ⟨#[]⟩,.string ⟨#[]⟩,.string ⟨#[]⟩,.int .i64 0,.slice none 0 0] (n * 6)) 31)):=by
 obtain ⟨i0,hi,hzz⟩:=Option.map_eq_some_iff.1 info31
 simp only [Prod.mk.injEq] at hzz
 obtain ⟨hz0,hz1,hz2⟩:=hzz
 have hr:=run_make (P:=Tryz.prog) (w:=W) 29 31 i0 _ Tryz.underlying29 hi hz0 .i64 .i64 (n:Int) (n:Int) (by omega) (Int.le_refl _) (by rw [hz2];omega) (by omega)
 rw [hr,hz1]
 rfl
theorem made_size (cs:Array Value) (n:Nat):(madeCells cs n).size=n:=by simp [madeCells]
theorem six_grown (X:World) (R o:Nat) (v0 v1 v2 v3 v4 v5:Value):X.grownBy ((((((X.setCell ⟨R,o,none⟩ v0).setCell ⟨R,o+1,none⟩ v1).setCell ⟨R,o+2,none⟩ v2).setCell ⟨R,o+3,none⟩ v3).setCell ⟨R,o+4,none⟩ v4).setCell ⟨R,o+5,none⟩ v5) (some R) :=
 Lib.grownBy_trans (Lib.grownBy_trans (Lib.grownBy_trans (Lib.grownBy_trans (Lib.grownBy_trans (Lib.grownBy_setCell _ _ _ _) (Lib.grownBy_setCell _ _ _ _)) (Lib.grownBy_setCell _ _ _ _)) (Lib.grownBy_setCell _ _ _ _)) (Lib.grownBy_setCell _ _ _ _)) (Lib.grownBy_setCell _ _ _ _)
theorem own_full {W:World} {B n:Nat} {done:List Value} (hB:W.heap[B]?=some (.cells done.toArray 31 (0,0))) (hl:done.length=n * 6) (hn:n≤1000000000):W.ownsRow 0 31 6 (.slice (some ⟨B,0,none⟩) n n) n done :=
 ⟨hl,.inr ⟨B,n,done.toArray,rfl,Nat.zero_le _,hB,Nat.le_refl _,by unfold maxLen;omega,by simpa using hl,by rw [← hl];simp⟩⟩
end Go.Proofs.YtjaobihcdkjmbaaGreatDoor
end
section
namespace Go.Proofs.YtjaobihcdkjmbaaGreatDoor
open Go.RowKit Go.Proofs.YtjaobihcdkjmbaaGreatDoorW.PrintWords Go.Proofs.YtjaobihcdkjmbaaGreatDoor.PReadTokens
set_option maxRecDepth 100000 in
set_option maxHeartbeats 2000000 in
theorem kept_calls:∀ (n:Nat) (x:S31),depthX x≤n→nodesX x≤1000000000→∀ (v:Value) (w:World),Vw w x v →
  Calls Tryz.prog 108 #[v] w fun e w'=>∃ u,e=.returned u∧Ex w' (From w.heap.size) x u∧Below w.heap.size w w':=by
 intro n
 induction n with
 | zero=>intro x h;rw [depthX_eq] at h;omega
 | succ n ih =>
  intro x hd hn v w hv
  obtain ⟨A,c,rfl,hc1,hc2⟩:=hv.out
  rw [depthX_eq] at hd
  rw [nodesX_eq] at hn
  have hrec:∀ (j:Nat) (hj:j < x.f4.length) v w,Vw w x.f4[j] v→Calls Tryz.prog 108 #[v] w fun e w'=>∃ u,e=.returned u∧Ex w' (From w.heap.size) x.f4[j] u∧Below w.heap.size w w':=by
   intro j hj
   have h1:=depthX_mem (List.getElem_mem hj)
   have h2:=nodesX_mem (List.getElem_mem hj)
   exact ih _ (by omega) (by omega)
  have hlen:=length_nodesL x.f4
  obtain ⟨f0,f1,f2,f3,xs⟩:=x
  simp only at *
  clear ih hv
  unfold exV
  simp only
  have HR:=Lib.hid hrec
  have hmk:=made_six xs.length (by omega)
  have hb0:Below w.heap.size w (((w.alloc (.cells #[.int .i64 f0,.string f1.f0,.string f1.f1,.string f2,.int .i64 f3,.slice A xs.length c] 31)).alloc (.cells #[.int .i64 0,.string ⟨#[]⟩,.string ⟨#[]⟩,.string ⟨#[]⟩,.int .i64 0,.slice none 0 0] 31)).alloc (.cells (madeCells #[.int .i64 0,.string ⟨#[]⟩,.string ⟨#[]⟩,.string ⟨#[]⟩,.int .i64 0,.slice none 0 0] (xs.length * 6)) 31)):=(((Below.refl _ w).alloc (Nat.le_refl _) _).alloc (by simp) _).alloc (by simp;omega) _
  obtain ⟨Y,inner,hcp,hri,hYB,hgY⟩:=copy_six xs A c (((w.alloc (.cells #[.int .i64 f0,.string f1.f0,.string f1.f1,.string f2,.int .i64 f3,.slice A xs.length c] 31)).alloc (.cells #[.int .i64 0,.string ⟨#[]⟩,.string ⟨#[]⟩,.string ⟨#[]⟩,.int .i64 0,.slice none 0 0] 31)).alloc (.cells (madeCells #[.int .i64 0,.string ⟨#[]⟩,.string ⟨#[]⟩,.string ⟨#[]⟩,.int .i64 0,.slice none 0 0] (xs.length * 6)) 31)) (w.heap.size+1+1) _ (alloc_at _ _ _ (by simp)) (made_size _ _) w hb0 hc2
  have hP:=(hgY.block w.heap.size (by simp;omega) (by intro e;injection e with e;omega)).trans ((Below.heap_alloc _ _ _ (by simp;omega)).trans ((Below.heap_alloc _ _ _ (by simp)).trans (blk_new w (.cells #[.int .i64 f0,.string f1.f0,.string f1.f1,.string f2,.int .i64 f3,.slice A xs.length c] 31))))
  have hQ:=(hgY.block (w.heap.size+1) (by simp) (by intro e;injection e with e;omega)).trans ((Below.heap_alloc _ _ _ (by simp)).trans (alloc_at (w.alloc (.cells #[.int .i64 f0,.string f1.f0,.string f1.f1,.string f2,.int .i64 f3,.slice A xs.length c] 31)) (.cells #[.int .i64 0,.string ⟨#[]⟩,.string ⟨#[]⟩,.string ⟨#[]⟩,.int .i64 0,.slice none 0 0] 31) (w.heap.size+1) (by simp)))
  have hbY:=hb0.grown hgY (by simp;omega) (fun k e=>by injection e with e;omega)
  have HP:=Lib.hid hP
  have HQ:=Lib.hid hQ
  have hat:KeptAt w xs (w.heap.size+1+1) 0 Y:=⟨⟨[],inner,by simp,hYB,Reps.none _ _,by rw [List.drop_zero];exact hri⟩,hbY⟩
  clear hP hQ hYB hgY hbY hri hb0
  go_enter Tryz.func108,Tryz.ntmps108
  go_wp2
  clear hcp hmk
  go_loopg [15] xs.length (fun k i wr=>∃ j:Nat,j+k=xs.length∧i=.int .i64 j∧KeptAt w xs (w.heap.size+1+1) j wr∧Hid (wr.heap[w.heap.size]?=some (.cells #[.int .i64 f0,.string f1.f0,.string f1.f1,.string f2,.int .i64 f3,.slice A xs.length c] 31 (0,0)))∧Hid (wr.heap[w.heap.size+1]?=some (.cells #[.int .i64 0,.string ⟨#[]⟩,.string ⟨#[]⟩,.string ⟨#[]⟩,.int .i64 0,.slice none 0 0] 31 (0,0))))
  case atStart=>exact ⟨0,by omega,rfl,hat,HP,HQ⟩
  case round =>
   clear hat HP HQ
   obtain ⟨j,hj,rfl,⟨⟨done,rest,hdl,hB,hdone,hrest⟩,hbel⟩,HP,HQ⟩:=hrel
   by_cases hjl:j < xs.length
   ·rw [List.drop_eq_getElem_cons hjl] at hrest
    obtain ⟨cy,rest',rfl,hcl,hcy,hrest'⟩:=reps_cons hrest
    obtain ⟨A5,c5,rfl,hl5,hC5⟩:=k31_open hcy
    have hr:=HR.out j hjl
    have htk:=take_snoc' xs j hjl
    generalize xs[j]=y at *
    have q0:=six_cell hB 0 (by simp)
    have q1:=six_cell hB 1 (by simp)
    have q2:=six_cell hB 2 (by simp)
    have q3:=six_cell hB 3 (by simp)
    have q4:=six_cell hB 4 (by simp)
    have q5:=six_cell hB 5 (by simp)
    simp only [List.getElem_cons_zero,List.getElem_cons_succ,hdl,Nat.add_zero] at q0 q1 q2 q3 q4 q5
    have hBl:=blk_lt hB
    go_wp2_with fail
    refine (hr _ _ ⟨A5,c5,rfl,hl5,Kd.C_below hC5 hbel⟩).mono ?_
    rintro e w1 ⟨u,rfl,hu,hb1⟩
    obtain ⟨v5,A6,n6,c6,rfl,rfl,_,hM⟩:=hu.cells
    have hB1:=bcell hb1 hB
    have HP1:=Lib.hid (bcell hb1 HP.out)
    have HQ1:=Lib.hid (bcell hb1 HQ.out)
    have hbel1:=hbel.trans (hb1.mono hbel.size)
    clear q0 q1 q2 q3 q4 q5 hr hu
    have q0:=six_cell hB1 0 (by simp)
    have q1:=six_cell hB1 1 (by simp)
    have q2:=six_cell hB1 2 (by simp)
    have q3:=six_cell hB1 3 (by simp)
    have q4:=six_cell hB1 4 (by simp)
    have q5:=six_cell hB1 5 (by simp)
    simp only [List.getElem_cons_zero,List.getElem_cons_succ,hdl,Nat.add_zero] at q0 q1 q2 q3 q4 q5
    have z0:=blk_frozen hB1 (j * 6)
    have z1:=blk_frozen hB1 (j * 6+1)
    have z2:=blk_frozen hB1 (j * 6+2)
    have z3:=blk_frozen hB1 (j * 6+3)
    have z4:=blk_frozen hB1 (j * 6+4)
    have z5:=blk_frozen hB1 (j * 6+5)
    have hset:=six_set (.int .i64 y.f0) (.string y.f1.f0) (.string y.f1.f1) (.string y.f2) (.int .i64 y.f3) (.slice A6 n6 c6) (by simpa using hB1) hdl.symm
    have hgs:=six_grown w1 (w.heap.size+1+1) (j * 6) (.int .i64 y.f0) (.string y.f1.f0) (.string y.f1.f1) (.string y.f2) (.int .i64 y.f3) (.slice A6 n6 c6)
    have hM':=Kd.M_grown hM hgs (fun k hk e=>by injection e with e;simp only [From] at hk;omega)
    have hdone':Reps (k31.M ((((((w1.setCell ⟨w.heap.size+1+1,j * 6,none⟩ (.int .i64 y.f0)).setCell ⟨w.heap.size+1+1,j * 6+1,none⟩ (.string y.f1.f0)).setCell ⟨w.heap.size+1+1,j * 6+2,none⟩ (.string y.f1.f1)).setCell ⟨w.heap.size+1+1,j * 6+3,none⟩ (.string y.f2)).setCell ⟨w.heap.size+1+1,j * 6+4,none⟩ (.int .i64 y.f3)).setCell ⟨w.heap.size+1+1,j * 6+5,none⟩ (.slice A6 n6 c6)) 0 (fun k=>w.heap.size+1+1 < k)) 6 (xs.take (j+1)) (done++[.int .i64 y.f0,.string y.f1.f0,.string y.f1.f1,.string y.f2,.int .i64 y.f3,.slice A6 n6 c6]):=by
     rw [htk]
     refine Reps.snoc (hdone.imp_ (fun x cs hx=>Kd.M_grown (Kd.M_below hx hb1) hgs (fun k hk e=>by injection e with e;omega))) (Kd.M_mono _ (fun k hk=>?_) hM') rfl
     simp only [From] at hk
     omega
    have hPs:=Lib.hid ((hgs.block _ (blk_lt HP1.out) (by intro e;injection e with e;omega)).trans HP1.out)
    have hQs:=Lib.hid ((hgs.block _ (blk_lt HQ1.out) (by intro e;injection e with e;omega)).trans HQ1.out)
    have hbs:=hbel1.grown hgs hbel1.size (fun k e=>by injection e with e;omega)
    have hat':KeptAt w xs (w.heap.size+1+1) (j+1) ((((((w1.setCell ⟨w.heap.size+1+1,j * 6,none⟩ (.int .i64 y.f0)).setCell ⟨w.heap.size+1+1,j * 6+1,none⟩ (.string y.f1.f0)).setCell ⟨w.heap.size+1+1,j * 6+2,none⟩ (.string y.f1.f1)).setCell ⟨w.heap.size+1+1,j * 6+3,none⟩ (.string y.f2)).setCell ⟨w.heap.size+1+1,j * 6+4,none⟩ (.int .i64 y.f3)).setCell ⟨w.heap.size+1+1,j * 6+5,none⟩ (.slice A6 n6 c6)) :=
     ⟨⟨_,rest',by simp [hdl];omega,hset,hdone',hrest'⟩,hbs⟩
    have HAT:=Lib.hid hat'
    clear hset hgs hM' hdone' hbs hat' hB1 hM hdone hrest' hB
    unfold exV
    go_wp2
    go_roundg (gk - 1)
    case measure=>omega
    case rel=>exact ⟨j+1,round_next hj hjl,by go_num,HAT.out,hPs,hQs⟩
   ·obtain rfl:j=xs.length:=by omega
    have hr0:rest=[]:=by
     have:=hrest.1
     rw [List.drop_length] at this
     exact List.eq_nil_of_length_eq_zero (by simpa using this)
    subst hr0
    rw [List.append_nil] at hB
    rw [List.take_length] at hdone
    obtain ⟨⟨p0,p1,p2,p3,p4,p5⟩,⟨a0,a1,a2,a3,a4,a5⟩,pl⟩:=cells6 HP.out
    obtain ⟨⟨s0,s1,s2,s3,s4,s5⟩,⟨b0,b1,b2,b3,b4,b5⟩,sl⟩:=cells6 HQ.out
    have hg1:wr.grownBy (wr.setCell ⟨w.heap.size,5,none⟩ (.slice (some ⟨w.heap.size+1+1,0,none⟩) xs.length xs.length)) (some w.heap.size):=Lib.grownBy_setCell _ _ _ _
    have hg2:=grown6 (X:=wr.setCell ⟨w.heap.size,5,none⟩ (.slice (some ⟨w.heap.size+1+1,0,none⟩) xs.length xs.length)) (w.heap.size+1) (.int .i64 f0) (.string f1.f0) (.string f1.f1) (.string f2) (.int .i64 f3) (.slice (some ⟨w.heap.size+1+1,0,none⟩) xs.length xs.length)
    have hBs:=blk_lt hB
    have hB1:=(hg1.block _ hBs (by intro e;injection e with e;omega)).trans hB
    have hQ1:=(hg1.block _ sl (by intro e;injection e with e;omega)).trans HQ.out
    have hB2:=(hg2.block _ (blk_lt hB1) (by intro e;injection e with e;omega)).trans hB1
    have hfin:=fin6 (.int .i64 f0) (.string f1.f0) (.string f1.f1) (.string f2) (.int .i64 f3) (.slice (some ⟨w.heap.size+1+1,0,none⟩) xs.length xs.length) hQ1
    have hbf:=below6 (hbel.setCell (p:=⟨w.heap.size,5,none⟩) (Nat.le_refl _) (.slice (some ⟨w.heap.size+1+1,0,none⟩) xs.length xs.length)) (show w.heap.size≤w.heap.size+1 by omega) (.int .i64 f0) (.string f1.f0) (.string f1.f1) (.string f2) (.int .i64 f3) (.slice (some ⟨w.heap.size+1+1,0,none⟩) xs.length xs.length)
    have hex:Ex (set6 (wr.setCell ⟨w.heap.size,5,none⟩ (.slice (some ⟨w.heap.size+1+1,0,none⟩) xs.length xs.length)) (w.heap.size+1) (.int .i64 f0) (.string f1.f0) (.string f1.f1) (.string f2) (.int .i64 f3) (.slice (some ⟨w.heap.size+1+1,0,none⟩) xs.length xs.length)) (From w.heap.size) ⟨f0,f1,f2,f3,xs⟩ (exV ⟨f0,f1,f2,f3,xs⟩ (.slice (some ⟨w.heap.size+1+1,0,none⟩) xs.length xs.length)):=by
     refine ⟨_,rfl,fun k hk=>?_,done,own_full hB2 hdl (by omega),hdone.imp_ (fun x cs hx=>Kd.M_mono _ (fun k hk=>?_) (Kd.M_grown (Kd.M_grown hx hg1 (fun k hk e=>by injection e with e;omega)) hg2 (fun k hk e=>by injection e with e;omega)))⟩
     ·simp [Value.ownBlock] at hk
      simp only [From]
      omega
     ·refine ⟨by simp only [From];omega,fun e=>?_⟩
      simp [Value.ownBlock] at e
      omega
    have HF:=Lib.hid hfin
    have HX:=Lib.hid hex
    have HBF:=Lib.hid hbf
    clear hB hdone hg1 hg2 hB1 hQ1 hB2 hfin hex hbf
    go_wp2
    exact bodyPost_ret (results_c Tryz.results108 _ _ (w.heap.size+1) 31 _ (0,0) _ rfl HF.out Tryz.underlying31 rfl size31) rfl ⟨_,rfl,HX.out,HBF.out⟩
end Go.Proofs.YtjaobihcdkjmbaaGreatDoor
end
section
namespace Go.Proofs.YtjaobihcdkjmbaaGreatDoor
open Go.RowKit Go.Maps Go.WideShapes Go.Proofs.YtjaobihcdkjmbaaGreatDoorW.PrintWords Go.Proofs.YtjaobihcdkjmbaaGreatDoor.PReadTokens
structure SetD (D:DataW Unit):Prop where
 keys:CanonK (KeysOf Tryz.prog 9) D
 yes:∀ k,D.atKey k (.lit (.bool false))=.lit (.bool (has D k))
theorem SetD.isMap {D:DataW Unit} (h:SetD D):IsMap D:=by obtain ⟨es,e,_⟩:=h.keys;exact ⟨es,e⟩
abbrev nmL (s:ByteArray):Lit:=.string s.data.toList
theorem set_empty:SetD (.map []):=⟨⟨[],rfl,List.Pairwise.nil,fun p hp=>by cases hp⟩,fun _=>rfl⟩
theorem set_put {D:DataW Unit} (h:SetD D) {kl:Lit} (hk:KeysOf Tryz.prog 9 kl):SetD (D.put kl (.lit (.bool true))):=by
 have hkl:=law9.one.key hk
 refine ⟨canonK_put law9.one hk _ h.keys,fun k=>?_⟩
 by_cases e:k=kl
 ·subst e
  rw [atKey_put_same h.isMap hkl,has_put_same h.isMap hkl]
 ·rw [atKey_put_other e,has_put_other e,h.yes]
theorem set_fold:∀ (es:List (Lit × DataW Unit)) (D:DataW Unit),Keys (KeysOf Tryz.prog 9) es→(∀ p ∈ es,p.2=.lit (.bool true))→SetD D →
  SetD (es.foldl (fun D p=>D.put p.1 p.2) D)∧∀ k,has (es.foldl (fun D p=>D.put p.1 p.2) D) k=(has D k || es.any (fun p=>p.1.sameKey k))
 | [],D,_,_,h=>⟨h,fun k=>by simp⟩
 | p :: r,D,hk,hv,h=>by
  obtain ⟨kl,d⟩:=p
  obtain rfl:d=.lit (.bool true):=hv _ (List.mem_cons_self ..)
  have hkk:=hk _ (List.mem_cons_self ..)
  have h1:=set_put h hkk
  obtain ⟨h2,h3⟩:=set_fold r _ (fun q hq=>hk q (List.mem_cons_of_mem _ hq)) (fun q hq=>hv q (List.mem_cons_of_mem _ hq)) h1
  refine ⟨h2,fun k=>?_⟩
  show has (r.foldl (fun D p=>D.put p.1 p.2) (D.put kl (.lit (.bool true)))) k=_
  rw [h3 k,List.any_cons]
  by_cases e:k=kl
  ·subst e
   rw [has_put_same h.isMap (law9.one.key hkk),WideAt.sameKey_self (law9.one.key hkk)]
   simp
  ·rw [has_put_other e,sameKey_ne (Ne.symm e)]
   simp
theorem set_vals {es:List (Lit × DataW Unit)} (h:SetD (.map es)):∀ p ∈ es,p.2=.lit (.bool true):=by
 intro p hp
 obtain ⟨es',e,hs,hk⟩:=h.keys
 injection e with e
 subst e
 have hh:has (.map es) p.1=true:=by
  rw [has_eq,List.any_eq_true]
  exact ⟨p,hp,WideAt.sameKey_self (law9.one.key (hk p hp))⟩
 have hy:=h.yes p.1
 rw [hh] at hy
 have hf:es.find? (fun q=>q.1.sameKey p.1)=some p:=by
  have hap:=apart_of_rising hs
  clear hs hy hh h
  induction es with
  | nil=>cases hp
  | cons q r ih =>
   obtain ⟨h1,h2⟩:=List.pairwise_cons.1 hap
   rcases List.mem_cons.1 hp with rfl | hp'
   ·rw [List.find?_cons_of_pos (by exact WideAt.sameKey_self (law9.one.key (hk _ (List.mem_cons_self ..))))]
   ·rw [List.find?_cons_of_neg (by rw [sameKey_ne (h1 p hp')];simp)]
    exact ih hp' (fun q hq=>hk q (List.mem_cons_of_mem _ hq)) h2
 have:(DataW.map es).atKey p.1 (.lit (.bool false))=p.2:=by
  simp only [DataW.atKey,hf]
 rw [this] at hy
 exact hy
theorem set_merge {D E:DataW Unit} (h:SetD D) (h2:SetD E):SetD (Lib.mergeD D E)∧∀ k,has (Lib.mergeD D E) k=(has D k || has E k):=by
 obtain ⟨es,rfl,hs,hk⟩:=h2.keys
 exact set_fold es D hk (set_vals h2) h
theorem set_del {D:DataW Unit} (h:SetD D) {kl:Lit}:SetD (D.del kl):=by
 obtain ⟨es,rfl,hs,hk⟩:=h.keys
 refine ⟨⟨_,rfl,hs.filter _,fun p hp=>hk p (List.mem_filter.1 hp).1⟩,fun k=>?_⟩
 by_cases e:k=kl
 ·subst e
  rw [atKey_del_same,has_del_same]
 ·rw [atKey_del_other e,has_del_other e,h.yes]
theorem name_key (s:ByteArray) (h:s.size≤maxLen):KeysOf Tryz.prog 9 (nmL s):=⟨_,Go.WideMaps.keyOf_string_mk Tryz.underlying9 h⟩
theorem own_set (x:S31) (h:x.f2.size≤4611686018427387904):SetD (ownD x):=by
 unfold ownD
 split
 ·exact set_put set_empty (name_key _ (by unfold maxLen;omega))
 ·exact set_empty
theorem freeG_set:∀ n (x:S31),depthX x≤n→smallB x=true→SetD (freeG x):=by
 intro n
 induction n with
 | zero=>intro x h;rw [depthX_eq] at h;omega
 | succ n ih =>
  intro x hd hs
  rw [smallB_eq,Bool.and_eq_true,decide_eq_true_eq] at hs
  rw [depthX_eq] at hd
  rw [freeG_eq]
  have key:∀ (l:List S31) (i:Nat) (D:DataW Unit),(∀ a ∈ l,SetD (freeG a))→SetD D→SetD (mergeG x.f0 x.f2 i D l):=by
   intro l
   induction l with
   | nil=>intro i D _ h;exact h
   | cons a r ih2 =>
    intro i D hl h
    have ha:=hl a (List.mem_cons_self ..)
    have hd:SetD (ownDel x.f0 x.f2 i (freeG a)):=by
     unfold ownDel
     split
     ·exact set_del ha
     ·exact ha
    exact ih2 (i+1) _ (fun b hb=>hl b (List.mem_cons_of_mem _ hb)) (set_merge h hd).1
  exact key x.f4 0 _ (fun a ha=>ih a (by have:=depthX_mem ha;omega) (smallL_mem hs.2 ha)) (own_set x hs.1)
theorem zero4 (w:World):(zeroValue 4).run Tryz.prog w=.ok (.bool false) w:=by kernel_rfl
theorem look_set {w:World} {b n:Nat} {D:DataW Unit} (h:MapAt w b n D) (hD:SetD D) (s:ByteArray) (hs:s.size≤maxLen) :
  (Instr.lookup 116 (.map (some b)) (.string s) false).run Tryz.prog w=.ok (.bool (has D (nmL s))) w:=by
 obtain ⟨v,ps,hrun,hv⟩:=h.lookup law9 Tryz.underlying116 (zero4 w) (plainElem_bool Tryz.underlying4 false) (Go.WideMaps.keyOf_string_mk Tryz.underlying9 hs)
 rw [hD.yes] at hv
 have:v=.bool (has D (nmL s)):=by
  unfold plainElem at hv
  cases v <;> simp_all [Tryz.underlying4]
 rw [hrun,this]
end Go.Proofs.YtjaobihcdkjmbaaGreatDoor
end
section
namespace Go.Proofs.YtjaobihcdkjmbaaGreatDoor
open Go.RowKit Go.Proofs.YtjaobihcdkjmbaaGreatDoorW.PrintWords Go.Proofs.YtjaobihcdkjmbaaGreatDoor.PReadTokens
theorem extract_whole (s:ByteArray):s.extract 0 s.size=s:=by
 apply ByteArray.ext
 rw [← Array.toList_inj,Lib.extract_data]
 exact List.take_of_length_le (Nat.le_refl _)
set_option maxRecDepth 100000 in
set_option maxHeartbeats 2000000 in
theorem chunks1_in (n l:Nat) (box:Addr) (s:ByteArray) (h0:0 < s.size) (h1:s.size≤9) (W:World) (J:World→Prop) (hbox:W.cell? box=some (.string s))
  (hY:YieldAt Fence.wide (n - 1) Tryz.prog l #[.string s] W fun e B=>e=.returned (.bool true)∧J B∧B.cell? box=some (.string s)∧B.frozen? box=false) :
  CallsIn Fence.wide n Tryz.prog 257 #[.func (.yield l) #[] #[],.pointer (some box)] W fun e W'=>e=.returned (.tuple #[])∧∃ B,J B∧W'=B.setCell box (.string ⟨#[]⟩):=by
 have hD:Fence.wide.depth.isSome=false:=rfl
 obtain ⟨fn,tmps,assign,body,hy,hR⟩:=hY
 have hmax:max 0 ((s.size:Int) - 9)=0:=by omega
 have hex:=extract_whole s
 have hex0:s.extract 0 0=⟨#[]⟩:=by apply ByteArray.ext;rw [← Array.toList_inj,Lib.extract_data];simp
 have hpos:decide (0 < (s.size:Int))=true:=decide_eq_true (by omega)
 refine callsIn_of_wp Tryz.func257 rfl trivial ?_ rfl
 simp only [Tryz.ntmps257,List.size_toArray,List.length_cons,List.length_nil,Nat.reduceAdd,Nat.reduceSub,Array.replicate_succ,Array.replicate_zero,List.push_toArray,List.append_toArray,List.nil_append,List.cons_append]
 gi_wp2
 gi_loopg [] 1 (fun k wr=>(k=1∧wr=W)∨(k=0∧∃ B,J B∧wr=B.setCell box (.string ⟨#[]⟩)∧wr.cell? box=some (.string ⟨#[]⟩)))
 case atStart=>exact .inl ⟨rfl,rfl⟩
 case round =>
  rcases hrel with ⟨rfl,rfl⟩ | ⟨rfl,B,hJ,rfl,hc⟩
  ·gi_wp2
   refine hR.mono ?_
   rintro e B ⟨rfl,hJ,hb,hf⟩
   clear hR hy hbox
   gi_wp2
   gi_roundg 0
   case measure=>omega
   case rel=>exact .inr ⟨rfl,B,hJ,rfl,World.cell?_setCell_same _ _ _ hb⟩
  ·gi_wp2
   exact bodyPost_end (results_none rfl _ _ _) rfl ⟨rfl,B,hJ,rfl⟩
end Go.Proofs.YtjaobihcdkjmbaaGreatDoor
end
section
namespace Go.Proofs.YtjaobihcdkjmbaaGreatDoor
open Go.RowKit Go.Proofs.YtjaobihcdkjmbaaGreatDoorW.PrintWords Go.Proofs.YtjaobihcdkjmbaaGreatDoor.PReadTokens
def chunkPost (bb:Nat) (I:World→Prop) (W:World):Exit→Act→World→Prop
 | .normal,_,W'=>KeepsOthers W W'∧I W'∧W'.heap[bb]?=W.heap[bb]?
 | _,_,_=>False
theorem wpIn_range_chunk {n:Nat} {g:Operand} {p:Tmp} {assign body:Code} {Q:Exit→Act→World→Prop} {a:Act} {w:World} {bb:Nat} {s:ByteArray} (tm:Array Value)
  (hg:a.eval g=.func (.func 257) #[] #[.pointer (some ⟨bb,0,none⟩)]) (h0:0 < s.size) (h1:s.size≤9) (hbox:w.heap[bb]?=some (.cells #[.string s] 9 (0,0)))
  (I:World→Prop) (hI:∀ A B k,I A→(k=w.heap.size+1∨k=bb)→A.grownBy B (some k)→I B)
  (hassign:∀ (l:Nat) (A:World) (K:Act→World→Prop),K { tmps:=tm,defers:=[] } A →
   assign.wpIn (Fence.wide.inRound l) (n - 1 - 1) Tryz.prog (Exit.then K (fun _ _ _=>False)) { tmps:=a.tmps.setIfInBounds p (.string s),defers:=[] } A)
  (hbody:∀ (W0:World),w.grownBy W0 none→W0.heap.size=w.heap.size+2 →
   body.wpIn (Fence.wide.inRound (w.heap.size+1)) (n - 1 - 1) Tryz.prog (chunkPost bb I W0) { tmps:=tm,defers:=[] } W0)
  (hdone:∀ (W:World),I W→W.heap[w.heap.size]?=some (.deferred (some []))→Q .normal { a with defers:={ target:=.collected w.heap.size,args:=#[] } :: a.defers } W) :
  (Code.rangeFunc g #[p] assign body).wpIn Fence.wide n Tryz.prog Q a w:=by
 refine wpIn_rangeFunc ?_
 intro fn _
 obtain ⟨rec,hrec⟩:∃ rec:LoopState→Option Code→Loop,rec=fun st pe=>{ state:=st,pending:=pe,fn,tmps:=a.tmps,params:=#[p],assign,body,defers:=w.heap.size }:=⟨_,rfl⟩
 obtain ⟨W1,hW1⟩:∃ W1,(w.alloc (.deferred (some []))).alloc (.loop (rec .ready none))=W1:=⟨_,rfl⟩
 have hsz1:W1.heap.size=w.heap.size+2:=by rw [← hW1];simp
 have hL1:W1.heap[w.heap.size+1]?=some (.loop (rec .ready none)):=by
  rw [← hW1];have:=World.alloc_heap_new (w.alloc (.deferred (some []))) (.loop (rec .ready none));rwa [World.size_alloc] at this
 have hK1:W1.heap[w.heap.size]?=some (.deferred (some [])):=by
  rw [← hW1];exact (Below.heap_alloc _ _ _ (by simp)).trans (World.alloc_heap_new w _)
 have hbl:=blk_lt hbox
 have hg1:w.grownBy W1 none:=by rw [← hW1];exact grown_alloc2 _ _ _ _
 have hb1:W1.heap[bb]?=some (.cells #[.string s] 9 (0,0)):=(hg1.block _ hbl (by simp)).trans hbox
 refine ⟨w.heap.size+1,[{ target:=.collected w.heap.size,args:=#[] }],W1,{ target:=.fn (.func 257) #[.pointer (some ⟨bb,0,none⟩)],args:=#[.func (.yield (w.heap.size+1)) #[] #[]] },W1,257,
  #[.func (.yield (w.heap.size+1)) #[] #[],.pointer (some ⟨bb,0,none⟩)],W1,?_,?_,?_,?_,wide_depth,?_⟩
 ·rw [← hW1,hrec];exact run_enterLoop_outer _ _ _ _ _
 ·simp only [resolve,hg]
  simp [go_sem]
 ·intro f' _;trivial
 ·simp only [invoke]
  simp [go_sem]
 ·refine (chunks1_in (n - 1) (w.heap.size+1) ⟨bb,0,none⟩ s h0 h1 W1
   (fun W=>I W∧W.heap[w.heap.size+1]?=some (.loop (rec .ready none))∧W.heap[w.heap.size]?=some (.deferred (some []))) (blk_cell hb1 0) ?_).mono ?_
  ·have hy:=run_yield (P:=Tryz.prog) (args:=#[.string s]) hL1 (by rw [hrec];rfl)
   rw [hrec] at hy
   refine ⟨fn,_,assign,body,hy,roundIn_of_wpIn trivial ?_⟩
   have hzip:(#[p].zip #[Value.string s]).foldl (fun tmps (x:Tmp × Value)=>tmps.setIfInBounds x.1 x.2) a.tmps=a.tmps.setIfInBounds p (.string s):=by simp
   show assign.wpIn _ _ _ _ { tmps:=(#[p].zip #[Value.string s]).foldl (fun tmps (x:Tmp × Value)=>tmps.setIfInBounds x.1 x.2) a.tmps,defers:=[] } _
   rw [hzip]
   refine hassign _ _ _ ?_
   refine ⟨_,run_beginRound hL1 (by rw [hrec]),?_⟩
   obtain ⟨W0,hW0⟩:∃ W0,W0=W1.putObj (w.heap.size+1) (.loop { rec .ready none with state:=.busy }):=⟨_,rfl⟩
   show Code.wpIn _ _ _ body _ _ (W1.putObj (w.heap.size+1) (.loop { rec .ready none with state:=.busy }))
   rw [← hW0]
   have hgr0:W1.grownBy W0 (some (w.heap.size+1)):=by rw [hW0];exact grown_putObj _ _ _
   have hz0:W0.heap.size=w.heap.size+2:=by rw [hW0];simp [hsz1]
   have hl2:W0.heap[w.heap.size+1]?=some (.loop { rec .ready none with state:=.busy }):=by rw [hW0];exact World.putObj_heap_same (by simp [hsz1])
   have hk2:W0.heap[w.heap.size]?=some (.deferred (some [])):=(hgr0.block _ (by omega) (by intro e;injection e with e;omega)).trans hK1
   have hb2:W0.heap[bb]?=some (.cells #[.string s] 9 (0,0)):=(hgr0.block _ (by omega) (by intro e;injection e with e;omega)).trans hb1
   have hgw:w.grownBy W0 none:=⟨hgr0.os.trans hg1.os,hgr0.tape.trans hg1.tape,hgr0.output.trans hg1.output,Nat.le_trans hg1.size hgr0.size,fun k hk _=>(hgr0.block k (by omega) (by intro e;injection e with e;omega)).trans (hg1.block k hk (by simp))⟩
   refine wpIn_mono (hbody W0 hgw hz0) ?_
   rintro e a3 W3 hp
   cases e with
   | normal =>
    obtain ⟨hk3,hi3,hbb⟩:=hp
    have hl3:=hk3.same _ _ hl2 rfl
    have hd3:=hk3.same _ _ hk2 rfl
    have hr:=run_endRound (P:=Tryz.prog) none hl3
    rw [hrec] at hr hl3
    have hb3:(W3.putObj (w.heap.size+1) (.loop (rec .ready none))).heap[bb]?=some (.cells #[.string s] 9 (0,0)):=(World.putObj_heap_other (by omega)).trans (hbb.trans hb2)
    rw [hrec] at hb3
    refine ⟨_,_,hr,rfl,⟨hI _ _ _ hi3 (.inl rfl) (grown_putObj _ _ _),?_,(World.putObj_heap_other (by omega)).trans hd3⟩,blk_cell hb3 0,blk_frozen hb3 0⟩
    rw [hrec];exact World.putObj_heap_same (blk_lt hl3)
   | ret=>exact hp.elim
   | exit id=>exact hp.elim
   | goto t=>exact hp.elim
   | panic ch=>exact hp.elim
   | outgrown=>exact hp.elim
  ·rintro e W2 ⟨rfl,B,⟨hi,hl,hk⟩,rfl⟩
   have hl2:(B.setCell ⟨bb,0,none⟩ (.string ⟨#[]⟩)).heap[w.heap.size+1]?=some (.loop (rec .ready none)):=(Below.heap_setCell _ _ _ _ (by simp;omega)).trans hl
   have hk2:(B.setCell ⟨bb,0,none⟩ (.string ⟨#[]⟩)).heap[w.heap.size]?=some (.deferred (some [])):=(Below.heap_setCell _ _ _ _ (by simp;omega)).trans hk
   have he:=run_endLoop (P:=Tryz.prog) hl2 (by rw [hrec];simp)
   rw [hrec] at he
   exact ⟨none,_,he,hdone _ (hI _ _ _ (hI _ _ _ hi (.inr rfl) (Lib.grownBy_setCell _ _ _ _)) (.inl rfl) (grown_putObj _ _ _)) ((World.putObj_heap_other (by omega)).trans hk2)⟩
end Go.Proofs.YtjaobihcdkjmbaaGreatDoor
end
