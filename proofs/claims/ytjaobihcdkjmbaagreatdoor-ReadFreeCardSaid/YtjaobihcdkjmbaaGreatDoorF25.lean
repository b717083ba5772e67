/- The law ReadFree answers true for every argument; a part of its proof. -/
import Derived.RegionTactic
import Derived.BigRegion
import Derived.Deep.RegionHeld3
import Derived.Test.YtjaobihcdkjmbaaGreatDoorF2
import Derived.Test.YtjaobihcdkjmbaaGreatDoorF3
import Derived.Test.YtjaobihcdkjmbaaGreatDoorF8
import Derived.Test.YtjaobihcdkjmbaaGreatDoorF22
import Derived.Test.YtjaobihcdkjmbaaGreatDoorF24
set_option linter.unusedVariables false
set_option linter.unusedSimpArgs false
section
namespace Go.Proofs.YtjaobihcdkjmbaaGreatDoor
open Go.RowKit Go.Proofs.YtjaobihcdkjmbaaGreatDoorW.PrintWords Go.Proofs.YtjaobihcdkjmbaaGreatDoorW.PrintLast Go.Proofs.YtjaobihcdkjmbaaGreatDoor.PReadTokens
set_option maxRecDepth 100000 in
set_option maxHeartbeats 8000000 in
theorem ExprOf_step (R N n:Nat) (m:Int) (w:World) (hR:Rod w R N) (hN:N+cost (n+1)≤900000) (hm:2≤m) (hm1:m≤1000)
  (ih:∀ M w,Rod w R M→M+cost n≤900000→Calls Tryz.prog 13 #[.pointer (some ⟨R,0,none⟩),.int .i64 (m - 1)] w (MadePost R M n w)) :
  Calls Tryz.prog 13 #[.pointer (some ⟨R,0,none⟩),.int .i64 m] w (MadePost R N (n+1) w):=by
 have hRl:=hR.lt
 have b0:=(Below.refl w.heap.size w).alloc (Nat.le_refl _) zO
 have rp:=hR.below b0
 have zp:(w.alloc zO).heap[w.heap.size]?=some zO:=blk_new w zO
 have gp:w.grownBy (w.alloc zO) (some R):=World.grownBy_alloc w _ _
 have hd:decide (m < 2)=false:=decide_eq_false (by omega)
 have hc0:6+4 * cost n≤cost (n+1):=Nat.le_refl _
 have hc1:=cost_pos n
 have HI:=Lib.hid ih
 clear hR ih
 go_enter Tryz.func13,Tryz.ntmps13
 go_wp2_with fail
 have HO0:=Once_calls R N 5 _ rp (by omega) (by omega) (by omega)
 refine HO0.mono ?_
 rintro e w0 ⟨⟨y0,rfl⟩,rq,g0⟩
 have zq:=grown_blk g0 zp (by omega)
 have gq:=Lib.grownBy_trans gp g0
 clear HO0 rp zp gp g0
 cases y0 with
 | true =>
  go_wp2_with fail
  have HO:=Once_calls R (N+1) 2 _ rq (by omega) (by omega) (by omega)
  refine HO.mono ?_
  rintro e w1 ⟨⟨y,rfl⟩,r1,g1⟩
  have z1:=grown_blk g1 zq (by omega)
  have g1:=Lib.grownBy_trans gq g1
  clear HO rq zq gq
  cases y with
  | true =>
   have HN:=rname_in R (N+1+1) _ r1 (by omega)
   go_wp2_with fail
   refine HN.mono ?_
   rintro e w2 ⟨⟨s,rfl,hs⟩,r2,g2⟩
   have hs:=Lib.hid hs
   have z2:=grown_blk g2 z1 (by omega)
   have g2:=Lib.grownBy_trans g1 g2
   clear HN
   go_wp2_with fail
   refine (RefOf_calls s _).mono ?_
   rintro e w3 ⟨rfl,hb3⟩
   have z3:=bcell hb3 z2
   have r3:=r2.below hb3
   have g3:=Lib.grownBy_below g2 hb3
   obtain ⟨⟨q0,q1,q2,q3,q4,q5⟩,⟨f0,f1,f2,f3,f4,f5⟩,xl2⟩:=cells6 z3
   unfold exV
   go_wp2
   exact bodyPost_ret (results_c Tryz.results13 _ _ w.heap.size 31 _ (0,0) _ rfl (fin6 _ _ _ _ _ _ z3) Tryz.underlying31 rfl size31) rfl
    ⟨⟨1,z28,s,0,[]⟩,_,rfl,.ref _ s hs.out,Ex.leaf (w:=set6 w3 w.heap.size _ _ _ _ _ _) _ rfl,((r3.more (by omega)).far (grown6 _ _ _ _ _ _ _) (fun b e=>by injection e with e;omega)),grown_row g3 (grown6 _ _ _ _ _ _ _) (fun b e=>by injection e with e;omega)⟩
  | false =>
   have HU:=Up_calls R (N+1+1) 20 _ r1 (by omega) (by omega) (by omega)
   go_wp2_with fail
   refine HU.mono ?_
   rintro e w2 ⟨⟨p,rfl,hp0,hp1⟩,r2,g2⟩
   have z2:=grown_blk g2 z1 (by omega)
   have g2:=Lib.grownBy_trans g1 g2
   clear HU r1 z1 g1
   go_wp2_with fail
   have hbA:=(Below.refl w2.heap.size w2).alloc (Nat.le_refl _) (.cells (([1,1,6]:List Int).map (Value.int .i64)).toArray 3)
   refine (Pick_calls R (N+1+2) ⟨w2.heap.size,0,none⟩ [1,1,6] _ (r2.below hbA) (by omega) (lit_nums w2 R [1,1,6] r2.lt) (by decide) (by decide)).mono ?_
   rintro e w3 ⟨⟨q0,rfl,hq⟩,r3,g3⟩
   have hq:1≤q0∧q0≤6:=by simp at hq;omega
   have z3:=grown_blk g3 (bcell hbA z2) (by omega)
   have g3:=Lib.grownBy_trans (Lib.grownBy_below g2 hbA) g3
   obtain ⟨hq1,hq2⟩:=hq
   clear hbA r2 z2 g2
   go_wp2_with fail
   refine (From_calls R (N+1+3) 1 q0 _ r3 (by omega) (by omega) (by omega) (by omega)).mono ?_
   rintro e w4 ⟨⟨q,rfl,hq3,hq4⟩,r4,g4⟩
   have z4:=grown_blk g4 z3 (by omega)
   have g4:=Lib.grownBy_trans g3 g4
   clear r3 z3 g3
   go_wp2_with fail
   refine (RatOf_calls p q hp0 hp1 hq3 (by omega) _).mono ?_
   rintro e w5 ⟨rfl,hb5⟩
   have z5:=bcell hb5 z4
   have r5:=r4.below hb5
   have g5:=Lib.grownBy_below g4 hb5
   clear r4 z4 g4
   go_wp2_with fail
   have hbB:=(Below.refl w5.heap.size w5).alloc (Nat.le_refl _) (.cells (unitL.map Value.string).toArray 9)
   refine (PickText_calls R (N+1+4) ⟨w5.heap.size,0,none⟩ unitL _ (r5.below hbB) (by omega) (lit_strs w5 R unitL r5.lt) (by decide) (by decide)).mono ?_
   rintro e w6 ⟨⟨u,rfl,hu⟩,r6,g6⟩
   have hu:=Lib.hid hu
   have z6:=grown_blk g6 (bcell hbB z5) (by omega)
   have g6:=Lib.grownBy_trans (Lib.grownBy_below g5 hbB) g6
   clear hbB r5 z5 g5
   obtain ⟨⟨q0',q1',q2',q3',q4',q5'⟩,⟨f0,f1,f2,f3,f4,f5⟩,xl2⟩:=cells6 z6
   go_wp2
   exact bodyPost_ret (results_c Tryz.results13 _ _ w.heap.size 31 _ (0,0) _ rfl (fin6 _ _ _ _ _ _ z6) Tryz.underlying31 rfl size31) rfl
    ⟨⟨0,ratS p q,u,0,[]⟩,_,rfl,.lit _ p q u hp0 hp1 hq3 (by omega) hu.out,Ex.leaf (w:=set6 w6 w.heap.size _ _ _ _ _ _) _ rfl,((r6.more (by omega)).far (grown6 _ _ _ _ _ _ _) (fun b e=>by injection e with e;omega)),grown_row g6 (grown6 _ _ _ _ _ _ _) (fun b e=>by injection e with e;omega)⟩
 | false =>
  go_wp2_with fail
  have hbA:=(Below.refl w0.heap.size w0).alloc (Nat.le_refl _) (.cells (opL.map (Value.int .i64)).toArray 3)
  refine (Pick_calls R (N+1) ⟨w0.heap.size,0,none⟩ opL _ (rq.below hbA) (by omega) (lit_nums w0 R opL rq.lt) (by decide) (by decide)).mono ?_
  rintro e w1 ⟨⟨op,rfl,hop⟩,r1,g1⟩
  have z1:=grown_blk g1 (bcell hbA zq) (by omega)
  have g1:=Lib.grownBy_trans (Lib.grownBy_below gq hbA) g1
  have hop:=Lib.hid hop
  clear hbA rq zq gq
  go_upto_block 0 with (fail)
  have hX:=blk_new w1 (.cells #[.int .i64 op,.string ⟨#[]⟩,.string ⟨#[]⟩,.string ⟨#[]⟩,.int .i64 0,.slice none 0 0] 31)
  have zX:=(Below.heap_alloc w1 (.cells #[.int .i64 op,.string ⟨#[]⟩,.string ⟨#[]⟩,.string ⟨#[]⟩,.int .i64 0,.slice none 0 0] 31) _ (blk_lt z1)).trans z1
  have hBX:=(Below.refl w1.heap.size w1).alloc (Nat.le_refl _) (.cells #[.int .i64 op,.string ⟨#[]⟩,.string ⟨#[]⟩,.string ⟨#[]⟩,.int .i64 0,.slice none 0 0] 31)
  have rX:=r1.below hBX
  have gX:=Lib.grownBy_below g1 hBX
  have hXw:w.heap.size < w1.heap.size:=blk_lt z1
  generalize hXX:w1.heap.size=X at *
  generalize w1.alloc (.cells #[.int .i64 op,.string ⟨#[]⟩,.string ⟨#[]⟩,.string ⟨#[]⟩,.int .i64 0,.slice none 0 0] 31)=W at *
  clear hBX r1 z1 g1 hXX
  go_cut [6] (fun v6 wc=>∃ (many:Nat) (name:ByteArray) (size:Int),v6=.int .i64 many∧Hid (nodeOk op name size many)∧Rod wc R (N+5)∧Hid (wc.heap[X]?=some (.cells #[.int .i64 op,.string ⟨#[]⟩,.string ⟨#[]⟩,.string name,.int .i64 size,.slice none 0 0] 31 (0,0)))∧Hid (wc.heap[w.heap.size]?=some zO)∧w.grownBy wc (some R))
  case first =>
   have hmem:=hop.out
   simp only [opL,List.mem_cons,List.not_mem_nil,or_false] at hmem
   have hXl:=blk_lt hX
   obtain ⟨⟨q0,q1,q2,q3,q4,q5⟩,⟨f0,f1,f2,f3,f4,f5⟩,xl2⟩:=cells6 hX
   rcases hmem with rfl | rfl | rfl | rfl | rfl | rfl | rfl | rfl | rfl | rfl | rfl | rfl | rfl | rfl | rfl
   ·go_wp2
    go_meet
    exact ⟨1,eB,0,rfl,Lib.hid (.inl ⟨rfl,rfl,rfl,rfl⟩),rX.more (by omega),Lib.hid hX,Lib.hid zX,gX⟩
   ·go_wp2
    go_meet
    exact ⟨2,eB,0,rfl,Lib.hid (.inr (.inl ⟨by simp,rfl,rfl,rfl⟩)),rX.more (by omega),Lib.hid hX,Lib.hid zX,gX⟩
   ·go_wp2
    go_meet
    exact ⟨2,eB,0,rfl,Lib.hid (.inr (.inl ⟨by simp,rfl,rfl,rfl⟩)),rX.more (by omega),Lib.hid hX,Lib.hid zX,gX⟩
   ·go_wp2
    go_meet
    exact ⟨2,eB,0,rfl,Lib.hid (.inr (.inl ⟨by simp,rfl,rfl,rfl⟩)),rX.more (by omega),Lib.hid hX,Lib.hid zX,gX⟩
   ·go_wp2
    go_meet
    exact ⟨2,eB,0,rfl,Lib.hid (.inr (.inl ⟨by simp,rfl,rfl,rfl⟩)),rX.more (by omega),Lib.hid hX,Lib.hid zX,gX⟩
   ·go_wp2
    go_meet
    exact ⟨2,eB,0,rfl,Lib.hid (.inr (.inl ⟨by simp,rfl,rfl,rfl⟩)),rX.more (by omega),Lib.hid hX,Lib.hid zX,gX⟩
   ·go_wp2
    go_meet
    exact ⟨2,eB,0,rfl,Lib.hid (.inr (.inl ⟨by simp,rfl,rfl,rfl⟩)),rX.more (by omega),Lib.hid hX,Lib.hid zX,gX⟩
   ·clear q0 q1 q2 q3 q4 q5 f0 f1 f2 f3 f4 f5
    go_wp2_with fail
    refine (From_calls R (N+1+1) (-9) 9 _ rX (by omega) (by omega) (by omega) (by omega)).mono ?_
    rintro e w2 ⟨⟨x,rfl,hx0,hx1⟩,r2,g2⟩
    have hX2:=grown_blk g2 hX (by omega)
    have zX2:=grown_blk g2 zX (by omega)
    have gX2:=Lib.grownBy_trans gX g2
    obtain ⟨⟨q0,q1,q2,q3,q4,q5⟩,⟨f0,f1,f2,f3,f4,f5⟩,xl2⟩:=cells6 hX2
    go_wp2
    go_meet
    exact ⟨1,eB,x,rfl,Lib.hid (.inr (.inr (.inl ⟨rfl,rfl,⟨hx0,hx1⟩,rfl⟩))),(r2.more (by omega)).put (by omega) 4 _,Lib.hid (blk_set hX2 4 _),Lib.hid ((Below.heap_setCell _ _ _ _ (by show w.heap.size≠X;omega)).trans zX2),grown_put gX2 (by omega) 4 _⟩
   ·clear q0 q1 q2 q3 q4 q5 f0 f1 f2 f3 f4 f5
    go_wp2_with fail
    refine (From_calls R (N+1+1) 1 3 _ rX (by omega) (by omega) (by omega) (by omega)).mono ?_
    rintro e w2 ⟨⟨x,rfl,hx0,hx1⟩,r2,g2⟩
    have hX2:=grown_blk g2 hX (by omega)
    have zX2:=grown_blk g2 zX (by omega)
    have gX2:=Lib.grownBy_trans gX g2
    obtain ⟨⟨q0,q1,q2,q3,q4,q5⟩,⟨f0,f1,f2,f3,f4,f5⟩,xl2⟩:=cells6 hX2
    go_wp2
    go_meet
    exact ⟨x.toNat,eB,0,toNat_val (by omega),Lib.hid (.inr (.inr (.inr (.inl ⟨rfl,rfl,rfl,by omega,by omega⟩)))),r2.more (by omega),Lib.hid hX2,Lib.hid zX2,gX2⟩
   ·go_wp2
    go_meet
    exact ⟨2,eB,0,rfl,Lib.hid (.inr (.inl ⟨by simp,rfl,rfl,rfl⟩)),rX.more (by omega),Lib.hid hX,Lib.hid zX,gX⟩
   ·clear q0 q1 q2 q3 q4 q5 f0 f1 f2 f3 f4 f5
    go_wp2_with fail
    refine (rname_in R (N+1+1) _ rX (by omega)).mono ?_
    rintro e w2 ⟨⟨s,rfl,hs⟩,r2,g2⟩
    have hs:=Lib.hid hs
    have hX2:=grown_blk g2 hX (by omega)
    have zX2:=grown_blk g2 zX (by omega)
    have gX2:=Lib.grownBy_trans gX g2
    go_wp2_with fail
    have hbA:=(Below.refl w2.heap.size w2).alloc (Nat.le_refl _) (.cells (([3,99]:List Int).map (Value.int .i64)).toArray 3)
    refine (Pick_calls R (N+1+1+1) ⟨w2.heap.size,0,none⟩ [3,99] _ (r2.below hbA) (by omega) (lit_nums w2 R [3,99] r2.lt) (by decide) (by decide)).mono ?_
    rintro e w3 ⟨⟨t,rfl,ht⟩,r3,g3⟩
    have ht:1≤t∧t≤99:=by simp at ht;omega
    obtain ⟨ht1,ht2⟩:=ht
    have hX3:=grown_blk g3 (bcell hbA hX2) (by omega)
    have zX3:=grown_blk g3 (bcell hbA zX2) (by omega)
    have gX3:=Lib.grownBy_trans (Lib.grownBy_below gX2 hbA) g3
    clear hbA hX2 zX2 gX2 g2 r2
    go_wp2_with fail
    refine (From_calls R (N+1+1+1+1) 1 t _ r3 (by omega) (by omega) (by omega) (by omega)).mono ?_
    rintro e w4 ⟨⟨x,rfl,hx0,hx1⟩,r4,g4⟩
    have hX4:=grown_blk g4 hX3 (by omega)
    have zX4:=grown_blk g4 zX3 (by omega)
    have gX4:=Lib.grownBy_trans gX3 g4
    obtain ⟨⟨q0,q1,q2,q3,q4,q5⟩,⟨f0,f1,f2,f3,f4,f5⟩,xl2⟩:=cells6 hX4
    go_wp2
    go_meet
    exact ⟨1,s,x,rfl,Lib.hid (.inr (.inr (.inr (.inr (.inl ⟨by simp,hs.out,⟨hx0,by omega⟩,rfl⟩))))),((r4.more (by omega)).put (by omega) 3 _).put (by omega) 4 _,Lib.hid (blk_set (blk_set hX4 3 _) 4 _),Lib.hid ((Below.heap_setCell _ _ _ _ (by show w.heap.size≠X;omega)).trans ((Below.heap_setCell _ _ _ _ (by show w.heap.size≠X;omega)).trans zX4)),grown_put (grown_put gX4 (by omega) 3 _) (by omega) 4 _⟩
   ·clear q0 q1 q2 q3 q4 q5 f0 f1 f2 f3 f4 f5
    go_wp2_with fail
    refine (rname_in R (N+1+1) _ rX (by omega)).mono ?_
    rintro e w2 ⟨⟨s,rfl,hs⟩,r2,g2⟩
    have hs:=Lib.hid hs
    have hX2:=grown_blk g2 hX (by omega)
    have zX2:=grown_blk g2 zX (by omega)
    have gX2:=Lib.grownBy_trans gX g2
    go_wp2_with fail
    have hbA:=(Below.refl w2.heap.size w2).alloc (Nat.le_refl _) (.cells (([3,99]:List Int).map (Value.int .i64)).toArray 3)
    refine (Pick_calls R (N+1+1+1) ⟨w2.heap.size,0,none⟩ [3,99] _ (r2.below hbA) (by omega) (lit_nums w2 R [3,99] r2.lt) (by decide) (by decide)).mono ?_
    rintro e w3 ⟨⟨t,rfl,ht⟩,r3,g3⟩
    have ht:1≤t∧t≤99:=by simp at ht;omega
    obtain ⟨ht1,ht2⟩:=ht
    have hX3:=grown_blk g3 (bcell hbA hX2) (by omega)
    have zX3:=grown_blk g3 (bcell hbA zX2) (by omega)
    have gX3:=Lib.grownBy_trans (Lib.grownBy_below gX2 hbA) g3
    clear hbA hX2 zX2 gX2 g2 r2
    go_wp2_with fail
    refine (From_calls R (N+1+1+1+1) 1 t _ r3 (by omega) (by omega) (by omega) (by omega)).mono ?_
    rintro e w4 ⟨⟨x,rfl,hx0,hx1⟩,r4,g4⟩
    have hX4:=grown_blk g4 hX3 (by omega)
    have zX4:=grown_blk g4 zX3 (by omega)
    have gX4:=Lib.grownBy_trans gX3 g4
    obtain ⟨⟨q0,q1,q2,q3,q4,q5⟩,⟨f0,f1,f2,f3,f4,f5⟩,xl2⟩:=cells6 hX4
    go_wp2
    go_meet
    exact ⟨1,s,x,rfl,Lib.hid (.inr (.inr (.inr (.inr (.inl ⟨by simp,hs.out,⟨hx0,by omega⟩,rfl⟩))))),((r4.more (by omega)).put (by omega) 3 _).put (by omega) 4 _,Lib.hid (blk_set (blk_set hX4 3 _) 4 _),Lib.hid ((Below.heap_setCell _ _ _ _ (by show w.heap.size≠X;omega)).trans ((Below.heap_setCell _ _ _ _ (by show w.heap.size≠X;omega)).trans zX4)),grown_put (grown_put gX4 (by omega) 3 _) (by omega) 4 _⟩
   ·go_wp2
    go_meet
    exact ⟨4,eB,0,rfl,Lib.hid (.inr (.inr (.inr (.inr (.inr (.inl ⟨rfl,rfl,rfl,rfl⟩)))))),rX.more (by omega),Lib.hid hX,Lib.hid zX,gX⟩
   ·clear q0 q1 q2 q3 q4 q5 f0 f1 f2 f3 f4 f5
    go_wp2_with fail
    refine (rname_in R (N+1+1) _ rX (by omega)).mono ?_
    rintro e w2 ⟨⟨s,rfl,hs⟩,r2,g2⟩
    have hs:=Lib.hid hs
    have hX2:=grown_blk g2 hX (by omega)
    have zX2:=grown_blk g2 zX (by omega)
    have gX2:=Lib.grownBy_trans gX g2
    obtain ⟨⟨q0,q1,q2,q3,q4,q5⟩,⟨f0,f1,f2,f3,f4,f5⟩,xl2⟩:=cells6 hX2
    go_wp2
    go_meet
    exact ⟨2,s,0,rfl,Lib.hid (.inr (.inr (.inr (.inr (.inr (.inr (.inl ⟨rfl,hs.out,rfl,rfl⟩))))))),(r2.more (by omega)).put (by omega) 3 _,Lib.hid (blk_set hX2 3 _),Lib.hid ((Below.heap_setCell _ _ _ _ (by show w.heap.size≠X;omega)).trans zX2),grown_put gX2 (by omega) 3 _⟩
   ·clear q0 q1 q2 q3 q4 q5 f0 f1 f2 f3 f4 f5
    go_wp2_with fail
    refine (Up_calls R (N+1+1) 3 _ rX (by omega) (by omega) (by omega)).mono ?_
    rintro e w2 ⟨⟨x,rfl,hx0,hx1⟩,r2,g2⟩
    have hX2:=grown_blk g2 hX (by omega)
    have zX2:=grown_blk g2 zX (by omega)
    have gX2:=Lib.grownBy_trans gX g2
    go_wp2_with fail
    have hbB:=(Below.refl w2.heap.size w2).alloc (Nat.le_refl _) (.cells (callL.map Value.string).toArray 9)
    refine (PickText_calls R (N+1+1+1) ⟨w2.heap.size,0,none⟩ callL _ (r2.below hbB) (by omega) (lit_strs w2 R callL r2.lt) (by decide) (by decide)).mono ?_
    rintro e w3 ⟨⟨s,rfl,hs⟩,r3,g3⟩
    have hs:=Lib.hid hs
    have hX3:=grown_blk g3 (bcell hbB hX2) (by omega)
    have zX3:=grown_blk g3 (bcell hbB zX2) (by omega)
    have gX3:=Lib.grownBy_trans (Lib.grownBy_below gX2 hbB) g3
    clear hbB hX2 zX2 gX2 g2 r2
    obtain ⟨⟨q0,q1,q2,q3,q4,q5⟩,⟨f0,f1,f2,f3,f4,f5⟩,xl2⟩:=cells6 hX3
    go_wp2
    go_meet
    exact ⟨x.toNat,s,0,toNat_val (by omega),Lib.hid (.inr (.inr (.inr (.inr (.inr (.inr (.inr ⟨rfl,hs.out,rfl,by omega⟩))))))),(r3.more (by omega)).put (by omega) 3 _,Lib.hid (blk_set hX3 3 _),Lib.hid ((Below.heap_setCell _ _ _ _ (by show w.heap.size≠X;omega)).trans zX3),grown_put gX3 (by omega) 3 _⟩
  case rest =>
   obtain ⟨many,name,size,rfl,hk,rc,hX,zc,gc⟩:=hcut
   have hmany:=nodeOk_le hk.out
   have G0:Grow w R X (N+5+0 * cost n) n op name size [] wc (.slice none 0 0):=⟨zc.out,hX.out,Kd.R_nil _ _ _ _ _,rc.more (by omega),gc,hXw,hRl,fun y hy=>by cases hy⟩
   have hsub:IntKind.i64.wrap (m - 1)=m - 1:=by simp [IntKind.wrap,IntKind.bits,IntKind.signed];omega
   clear hX zc gc rc zX rX gX hop
   go_wp2_with fail
   go_loopg [7] many (fun k v7 wr=>∃ (j:Nat) (xs:List S31) (v5:Value),v7=.int .i64 j∧j+k=many∧Hid (xs.length=j)∧Grow w R X (N+5+j * cost n) n op name size xs wr v5)
   case atStart=>exact ⟨0,[],_,rfl,by omega,Lib.hid rfl,G0⟩
   case round =>
    clear G0
    obtain ⟨j,xs,v5,rfl,hjk,hxl,G⟩:=hrel
    by_cases hj:j < many
    ·have Gd:=G.below ((Below.refl _ wr).drew)
     obtain ⟨A,c,rfl⟩:=Kd.R_slice G.row
     have hbound:N+5+j * cost n+cost n≤900000:=by
      have:=Nat.mul_le_mul_right (cost n) (show j+1≤4 by omega)
      rw [Nat.add_mul,Nat.one_mul] at this
      omega
     have hcall:=HI.out _ _ Gd.rod hbound
     have KK:wr.drew.cell? ⟨X,5,none⟩=some (.slice A xs.length c):=blk_cell Gd.blk 5
     have hlen:(xs.length+1) * 88≤140737488355328:=by have:=hxl.out;omega
     clear G
     go_wp2_with fail
     refine start_ (n:=10) (S:=fun w'=>w'.cell? ⟨X,5,none⟩=some (.slice A xs.length c)) (ds:=[9]) #[false,false,false,false,false,false,false,false,false,false] (by kernel_rfl) rfl rfl (KK) (fun hHeld=>?_)
     refine pure_ (i:=0) (N:=some 80) (v:=?_) (a':=?_) #[true,false,false,false,false,false,false,false,false,false] rfl rfl (by kernel_rfl) (fun _ _ _ h=>h) (Or.inl ⟨by rfl,?_⟩) ?_ ?_
     rotate_left
     ·intro w'
      go_simp
      with_reducible rfl
     rotate_left
     ·simp only [Act.put,List.setIfInBounds_toArray,List.set_cons_zero,List.set_cons_succ,i64_w,i32_w]
      rfl
     refine pure_ (i:=2) (N:=some 82) (v:=?_) (a':=?_) #[true,false,true,false,false,false,false,false,false,false] rfl rfl (by kernel_rfl) (fun _ _ _ h=>h) (Or.inl ⟨by rfl,?_⟩) ?_ ?_
     rotate_left
     ·intro w'
      go_simp
      with_reducible rfl
     rotate_left
     ·simp only [Act.put,List.setIfInBounds_toArray,List.set_cons_zero,List.set_cons_succ,i64_w,i32_w]
      rfl
     refine pure_ (i:=3) (N:=some 83) (v:=?_) (a':=?_) #[true,false,true,true,false,false,false,false,false,false] rfl rfl (by kernel_rfl) (fun _ _ _ h=>h) (Or.inl ⟨by rfl,?_⟩) ?_ ?_
     rotate_left
     ·intro w'
      go_simp
      with_reducible rfl
     rotate_left
     ·simp only [Act.put,List.setIfInBounds_toArray,List.set_cons_zero,List.set_cons_succ,i64_w,i32_w]
      rfl
     refine pure_ (i:=4) (N:=some 84) (v:=?_) (a':=?_) #[true,false,true,true,true,false,false,false,false,false] rfl rfl (by kernel_rfl) (fun _ _ _ h=>h) (Or.inl ⟨by rfl,?_⟩) ?_ ?_
     rotate_left
     ·intro w'
      go_simp
      with_reducible rfl
     rotate_left
     ·simp only [Act.put,List.setIfInBounds_toArray,List.set_cons_zero,List.set_cons_succ,i64_w,i32_w]
      rfl
     refine take_ (i:=1) (N:=some 81) (v:=?_) (a':=?_) #[true,true,true,true,true,false,false,false,false,false] rfl rfl (by kernel_rfl) (fun _ _ _ h=>h) (Or.inl ⟨by rfl,?_⟩) hHeld ?_ ?_
     rotate_left
     ·intro w' s0
      go_simp
      with_reducible rfl
     rotate_left
     ·simp only [Act.put,List.setIfInBounds_toArray,List.set_cons_zero,List.set_cons_succ,i64_w,i32_w]
      rfl
     refine one_ (i:=5) (N:=some 85) #[true,true,true,true,true,true,false,false,false,false] rfl rfl (by kernel_rfl) (by decide) (fun K hK=>?_)
     refine goes_ Tryz.func13 (by kernel_rfl) rfl #[.pointer (some ⟨R,0,none⟩),.int .i64 (m - 1)] (by rfl) rfl rfl (by simp only [List.map_toArray,List.map_cons,List.map_nil];rfl) ?_
     with_reducible refine (hcall).mono ?_
     rintro e w2 ⟨y,vy,rfl,hy,hey,ry,gy⟩
     refine ⟨_,rfl,?_⟩
     obtain ⟨vy5,A5,n5,c5,rfl,rfl,_,my⟩:=hey.cells
     unfold exV
     have KK2:=blk_cell (grown_blk gy Gd.blk (by have:=Gd.own;have:=Gd.far;omega)) 5
     refine hK.out _ _ (KK2) (fun hHeld=>?_)
     clear hK K
     refine norm_ (a':=?_) ?_ ?_
     rotate_left
     ·show Act.put _ (some 85) _=_
      simp only [Act.put,List.setIfInBounds_toArray,List.set_cons_zero,List.set_cons_succ,i64_w,i32_w]
      rfl
     refine one_ (i:=6) (N:=some 86) #[true,true,true,true,true,true,true,false,false,false] rfl rfl (by kernel_rfl) (by decide) (fun K hK=>?_)
     refine value_ (w1:=?_) (v:=?_) (by rfl) rfl ?_ ?_
     rotate_left 2
     ·go_simp
      constructor
      ·rfl
      ·rfl
     refine hK.out _ _ ((pw_cell_below ((Below.refl _ _).alloc (Nat.le_refl _) _) KK2)) (fun hHeld=>?_)
     clear hK K
     refine norm_ (a':=?_) ?_ ?_
     rotate_left
     ·show Act.put _ (some 86) _=_
      simp only [Act.put,List.setIfInBounds_toArray,List.set_cons_zero,List.set_cons_succ,i64_w,i32_w]
      rfl
     refine one_ (i:=7) (N:=some 87) #[true,true,true,true,true,true,true,true,false,false] rfl rfl (by kernel_rfl) (by decide) (fun K hK=>?_)
     have row2:=Kd.R_grown Gd.row gy (fun k hk e=>by injection e with e;have:=hk.1;have:=Gd.own;omega)
     have hokp:∀ k,From wr.drew.heap.size k→Sx w X k∧some k≠(Value.slice A xs.length c).ownBlock:=(fun k hk=>⟨⟨by have:=blk_lt Gd.res;have:wr.drew.heap.size≤k:=hk;omega,by have:=blk_lt Gd.blk;have:wr.drew.heap.size≤k:=hk;omega⟩,Kd.fresh_ok Gd.row k hk⟩)
     have hfresh:∀ k,w2.heap.size≤k→Sx w X k:=(fun k hk=>⟨by have:=blk_lt Gd.res;have:=gy.size;omega,by have:=blk_lt Gd.blk;have:=gy.size;omega⟩)
     have HB:=(Below.refl 0 w).grown (Lib.grownBy_trans Gd.low gy) (Nat.zero_le _) (fun _ _=>Nat.zero_le _)
     refine Kd.R_append_step k31 (w0:=w) (W:=w2) 0 rfl (.tmp 81) (.tmp 86) 29 31 _ 88 rfl Tryz.underlying29 info31 rfl (by decide) (by decide) (.slice A xs.length c) xs y _ (Sx w X) (From wr.drew.heap.size) rfl rfl my hokp hfresh row2 HB (Nat.zero_le _) hlen ?_
     intro v1 w4 hrow hb4 hg4 hat4
     obtain ⟨A1,c1,rfl⟩:=Kd.R_slice hrow
     obtain ⟨hX4,G4⟩:=Gd.next hy ry gy hrow hg4
     have KK4:=blk_cell hX4 5
     have F5:=blk_frozen hX4 5
     clear hrow hb4 hg4 hat4 row2 hokp hfresh HB my hey gy ry
     refine hK.out _ _ (KK4) (fun hHeld=>?_)
     clear hK K
     refine norm_ (a':=?_) ?_ ?_
     rotate_left
     ·show Act.put _ (some 87) _=_
      simp only [Act.put,List.setIfInBounds_toArray,List.set_cons_zero,List.set_cons_succ,i64_w,i32_w]
      rfl
     refine pure_ (i:=8) (N:=some 88) (v:=?_) (a':=?_) #[true,true,true,true,true,true,true,true,true,false] rfl rfl (by kernel_rfl) (fun _ _ _ h=>h) (Or.inl ⟨by rfl,?_⟩) ?_ ?_
     rotate_left
     ·intro w'
      go_simp
      with_reducible rfl
     rotate_left
     ·simp only [Act.put,List.setIfInBounds_toArray,List.set_cons_zero,List.set_cons_succ,i64_w,i32_w]
      rfl
     refine last_ (i:=9) (N:=none) #[true,true,true,true,true,true,true,true,true,true] rfl rfl (by kernel_rfl) (by decide) (fun K hK=>?_)
     refine skip_ (w1:=?_) (by rfl) rfl ?_ ?_
     rotate_left
     ·go_simp
      rfl
     refine hK.out _ _ ?_
     clear hK K
     refine done_ (by kernel_rfl) ?_
     go_wp2_with fail
     go_roundg (gk - 1)
     case measure=>omega
     case rel=>exact ⟨j+1,xs++[y],_,by go_num,by omega,Lib.hid (by rw [List.length_append,hxl.out];rfl),by rw [Nat.add_mul,Nat.one_mul,← Nat.add_assoc];have h:=G4;rw [List.length_append] at h;exact h⟩
    ·obtain rfl:j=many:=by omega
     obtain ⟨A,c,rfl⟩:=Kd.R_slice G.row
     obtain ⟨⟨x0,x1,x2,x3,x4,x5⟩,_,xxl⟩:=cells6 G.blk
     obtain ⟨⟨q0,q1,q2,q3,q4,q5⟩,⟨f0,f1,f2,f3,f4,f5⟩,xl2⟩:=cells6 G.res
     have hcost:N+5+j * cost n≤N+cost (n+1):=by
      have:=Nat.mul_le_mul_right (cost n) hmany
      omega
     have HC:=Lib.hid hcost
     have GG:=Lib.hid G
     clear G hcost
     go_wp2
     have G:=GG.out
     exact bodyPost_ret (results_c Tryz.results13 _ _ w.heap.size 31 _ (0,0) _ rfl (fin6 _ _ _ _ _ _ G.res) Tryz.underlying31 rfl size31) rfl
      ⟨⟨op,z28,name,size,xs⟩,_,rfl,.node n op name size xs (by rw [hxl.out];exact hk.out) G.all,⟨_,rfl,Kd.R_mono (Kd.R_grown G.row (grown6 _ _ _ _ _ _ _) (fun k hk e=>by injection e with e;have:=hk.1;omega)) (fun k hk=>Nat.le_of_lt hk.1)⟩,
       ((G.rod.more HC.out).far (grown6 _ _ _ _ _ _ _) (fun b e=>by injection e with e;omega)),grown_row G.low (grown6 _ _ _ _ _ _ _) (fun b e=>by injection e with e;omega)⟩
theorem ExprOf_calls:∀ (n:Nat) (hn:n≤900) (R N:Nat) (w:World),Rod w R N→N+cost n≤900000→Calls Tryz.prog 13 #[.pointer (some ⟨R,0,none⟩),.int .i64 (n+1:Int)] w (MadePost R N n w)
 | 0,_,R,N,w,hR,hN=>ExprOf_leaf R N w hR (by omega) _ (by omega)
 | n+1,hn,R,N,w,hR,hN=>ExprOf_step R N n _ w hR hN (by omega) (by omega) (fun M w h hM=>by
   have e:((n+1:Nat):Int)+1 - 1=(n:Int)+1:=by omega
   rw [e]
   exact ExprOf_calls n (by omega) R M w h hM)
end Go.Proofs.YtjaobihcdkjmbaaGreatDoor
end
section
namespace Go.Proofs.YtjaobihcdkjmbaaGreatDoor
open Go.RowKit Go.Proofs.YtjaobihcdkjmbaaGreatDoorW.PrintWords Go.Proofs.YtjaobihcdkjmbaaGreatDoor.PReadTokens
def refKind (op size:Int) (k:Nat):Prop :=
 ((op=0∨op=1)∧k=0)∨(op=2∧k=1)∨((op=3∨op=4∨op=5∨op=6∨op=9∨op=13)∧k=2)∨((op=7∨op=10∨op=11)∧k=1∧-9≤size∧size≤99)∨(op=12∧k=4)∨(op=8∨op=14)
end Go.Proofs.YtjaobihcdkjmbaaGreatDoor
end
section
namespace Go.Proofs.YtjaobihcdkjmbaaGreatDoor
open Go.RowKit Go.Proofs.YtjaobihcdkjmbaaGreatDoorW.PrintWords Go.Proofs.YtjaobihcdkjmbaaGreatDoor.PReadTokens
theorem nameL_size {s:ByteArray} (h:s ∈ nameL):s.size≤2:=by
 simp only [nameL,List.mem_cons,List.not_mem_nil,or_false] at h
 rcases h with rfl | rfl | rfl | rfl | rfl <;> decide
theorem callL_size {s:ByteArray} (h:s ∈ callL):s.size≤2:=by
 simp only [callL,List.mem_cons,List.not_mem_nil,or_false] at h
 rcases h with rfl | rfl | rfl <;> decide
theorem unitL_size {s:ByteArray} (h:s ∈ unitL):s.size≤6:=by
 simp only [unitL,List.mem_cons,List.not_mem_nil,or_false] at h
 rcases h with rfl | rfl | rfl | rfl | rfl <;> decide
theorem ratS_size {p q:Int} (h0:0≤p) (h1:p≤20) (h2:1≤q) (h3:q≤6):(ratS p q).f0.size≤2∧(ratS p q).f1.size≤2:=by
 have hg:0≤(Int.gcd p q:Int):=Int.natCast_nonneg _
 have a:=Int.ediv_le_self (Int.gcd p q:Int) h0
 have b:=Int.ediv_le_self (Int.gcd p q:Int) (show 0≤q by omega)
 have a0:=Int.ediv_nonneg h0 hg
 have b0:=Int.ediv_nonneg (show 0≤q by omega) hg
 exact ⟨(dec_some _ a0 (by omega)).2,(dec_some _ b0 (by omega)).2⟩
theorem nodeOk_kind {op:Int} {name:ByteArray} {size:Int} {k:Nat} (h:nodeOk op name size k):refKind op size k∧name.size≤2:=by
 rcases h with ⟨rfl,rfl,rfl,hk⟩ | ⟨ho,rfl,rfl,hk⟩ | ⟨rfl,rfl,⟨hs0,hs1⟩,hk⟩ | ⟨rfl,rfl,rfl,hk0,hk1⟩ | ⟨ho,hn,⟨hs0,hs1⟩,hk⟩ | ⟨rfl,rfl,rfl,hk⟩ | ⟨rfl,hn,rfl,hk⟩ | ⟨rfl,hn,rfl,hk⟩
 ·exact ⟨.inr (.inl ⟨rfl,hk⟩),by decide⟩
 ·exact ⟨.inr (.inr (.inl ⟨by omega,hk⟩)),by decide⟩
 ·exact ⟨.inr (.inr (.inr (.inl ⟨by omega,hk,by omega,by omega⟩))),by decide⟩
 ·exact ⟨.inr (.inr (.inr (.inr (.inr (.inl rfl))))),by decide⟩
 ·exact ⟨.inr (.inr (.inr (.inl ⟨by omega,hk,by omega,by omega⟩))),nameL_size hn⟩
 ·exact ⟨.inr (.inr (.inr (.inr (.inl ⟨rfl,hk⟩)))),by decide⟩
 ·exact ⟨.inr (.inr (.inl ⟨by omega,hk⟩)),nameL_size hn⟩
 ·exact ⟨.inr (.inr (.inr (.inr (.inr (.inr rfl))))),callL_size hn⟩
end Go.Proofs.YtjaobihcdkjmbaaGreatDoor
end
section
namespace Go.Proofs.YtjaobihcdkjmbaaGreatDoor
open Go.RowKit Go.Maps Go.WideShapes Go.Proofs.YtjaobihcdkjmbaaGreatDoorW.PrintWords Go.Proofs.YtjaobihcdkjmbaaGreatDoor.PReadTokens
theorem names_ok {s:ByteArray} (h:s ∈ nameL):nameB s=true:=by
 simp only [nameL,List.mem_cons,List.not_mem_nil,or_false] at h
 rcases h with rfl | rfl | rfl | rfl | rfl <;> kernel_rfl
theorem calls_ok {s:ByteArray} (h:s ∈ callL):nameB s=true:=by
 simp only [callL,List.mem_cons,List.not_mem_nil,or_false] at h
 rcases h with rfl | rfl | rfl <;> kernel_rfl
theorem units_ok {s:ByteArray} (h:s ∈ unitL):(!decide (s=⟨#[]⟩) && !unitB s)=false:=by
 simp only [unitL,List.mem_cons,List.not_mem_nil,or_false] at h
 rcases h with rfl | rfl | rfl | rfl | rfl <;> kernel_rfl
theorem rats_all:((List.range 21).all fun p=>(List.range 6).all fun q=>(chkR (ratS (p:Int) ((q:Int)+1)) == 0) && !negB (ratS (p:Int) ((q:Int)+1)).f0)=true:=by kernel_rfl
theorem rats_ok {p q:Int} (h0:0≤p) (h1:p≤20) (h2:1≤q) (h3:q≤6):chkR (ratS p q)=0∧negB (ratS p q).f0=false:=by
 have h:=List.all_eq_true.1 rats_all p.toNat (List.mem_range.2 (by omega))
 have h':=List.all_eq_true.1 h (q - 1).toNat (List.mem_range.2 (by omega))
 have e1:((p.toNat:Nat):Int)=p:=Int.toNat_of_nonneg h0
 have e2:(((q - 1).toNat:Nat):Int)+1=q:=by omega
 rw [e1,e2,Bool.and_eq_true,beq_iff_eq,Bool.not_eq_true'] at h'
 exact h'
theorem made_look {op:Int} {name:ByteArray} {size:Int} {l:List S31} (h:nodeOk op name size l.length):lookE ⟨op,z28,name,size,l⟩=0:=by
 unfold lookE midE tailE badName
 simp only
 generalize l.length=k at *
 rcases h with ⟨rfl,rfl,rfl,hk⟩ | ⟨ho,rfl,rfl,hk⟩ | ⟨rfl,rfl,⟨hs0,hs1⟩,hk⟩ | ⟨rfl,rfl,rfl,hk0,hk1⟩ | ⟨ho,hn,⟨hs0,hs1⟩,hk⟩ | ⟨rfl,rfl,rfl,hk⟩ | ⟨rfl,hn,rfl,hk⟩ | ⟨rfl,hn,rfl,hk⟩
 ·subst hk;simp [argLo,argHi,sizeLo,sizeHi]
 ·subst hk
  rcases ho with rfl | rfl | rfl | rfl | rfl <;> simp [argLo,argHi,sizeLo,sizeHi]
 ·subst hk;simp [argLo,argHi,sizeLo,sizeHi];omega
 ·simp [argLo,argHi,sizeLo,sizeHi];omega
 ·subst hk
  have:=names_ok hn
  rcases ho with rfl | rfl <;> (simp [argLo,argHi,sizeLo,sizeHi,this];omega)
 ·subst hk;simp [argLo,argHi,sizeLo,sizeHi]
 ·subst hk
  have:=names_ok hn
  simp [argLo,argHi,sizeLo,sizeHi,this]
 ·have:=calls_ok hn
  simp [argLo,argHi,sizeLo,sizeHi,this];omega
theorem made_ok (n:Nat) (x:S31) (h:Made n x):OkX x:=by
 induction h with
 | ref n s h =>
  refine ⟨_,?_,fun a ha=>by cases ha⟩
  have:=names_ok h
  unfold lookE midE tailE badName
  simp [argLo,argHi,sizeLo,sizeHi,this]
 | lit n p q u h0 h1 h2 h3 hu =>
  refine ⟨_,?_,fun a ha=>by cases ha⟩
  obtain ⟨r1,r2⟩:=rats_ok h0 h1 h2 h3
  have r3:=units_ok hu
  unfold lookE midE tailE badName
  simp only [r1,r2,r3]
  simp [argLo,argHi,sizeLo,sizeHi]
 | node n op name size l hk hl ih=>exact ⟨_,made_look hk,ih⟩
theorem made_depth (n:Nat) (x:S31) (h:Made n x):depthX x≤n+1:=by
 induction h with
 | ref n s h=>rw [depthX_eq];simp [depthL]
 | lit n p q u h0 h1 h2 h3 hu=>rw [depthX_eq];simp [depthL]
 | node n op name size l hk hl ih =>
  rw [depthX_eq]
  have:=depthL_le (l:=l) (m:=n+1) ih
  simp only
  omega
def nodesM:Nat→Nat
 | 0=>1
 | n+1=>1+4 * nodesM n
theorem nodesM_pos (n:Nat):1≤nodesM n:=by cases n <;> simp [nodesM]
theorem nodesL_le {l:List S31} {m:Nat} (h:∀ a ∈ l,nodesX a≤m):nodesL l≤l.length * m:=by
 induction l with
 | nil=>simp [nodesL]
 | cons a l ih =>
  have h1:=h a (List.mem_cons_self ..)
  have h2:=ih (fun b hb=>h b (List.mem_cons_of_mem _ hb))
  rw [nodesL,List.length_cons,Nat.add_mul];omega
theorem made_nodes (n:Nat) (x:S31) (h:Made n x):nodesX x≤nodesM n:=by
 induction h with
 | ref n s h=>rw [nodesX_eq];have:=nodesM_pos n;simp [nodesL];exact this
 | lit n p q u h0 h1 h2 h3 hu=>rw [nodesX_eq];have:=nodesM_pos n;simp [nodesL];exact this
 | node n op name size l hk hl ih =>
  have h1:=nodesL_le (l:=l) ih
  have h2:=nodeOk_le hk
  have h3:=Nat.mul_le_mul_right (nodesM n) h2
  rw [nodesX_eq,nodesM]
  simp only
  omega
theorem made_small (n:Nat) (x:S31) (h:Made n x):smallB x=true∧szB x=true:=by
 induction h with
 | ref n s h =>
  have:=nameL_size h
  exact ⟨(small_iff _).2 ⟨by simp only;omega,fun a ha=>by cases ha⟩,(sz_iff _).2 ⟨⟨show z28.f0.size≤4611686018427387904 by decide,show z28.f1.size≤4611686018427387904 by decide,by simp only;omega⟩,fun a ha=>by cases ha⟩⟩
 | lit n p q u h0 h1 h2 h3 hu =>
  have a:=unitL_size hu
  have b:=ratS_size h0 h1 h2 h3
  exact ⟨(small_iff _).2 ⟨by simp only;omega,fun a ha=>by cases ha⟩,(sz_iff _).2 ⟨⟨by simp only;omega,by simp only;omega,by simp only;omega⟩,fun a ha=>by cases ha⟩⟩
 | node n op name size l hk hl ih =>
  have:=(nodeOk_kind hk).2
  exact ⟨(small_iff _).2 ⟨by simp only;omega,fun a ha=>(ih a ha).1⟩,(sz_iff _).2 ⟨⟨show z28.f0.size≤4611686018427387904 by decide,show z28.f1.size≤4611686018427387904 by decide,by simp only;omega⟩,fun a ha=>(ih a ha).2⟩⟩
end Go.Proofs.YtjaobihcdkjmbaaGreatDoor
end
section
namespace Go.Proofs.YtjaobihcdkjmbaaGreatDoor.PReadFree
open Go.RowKit Go.Proofs.YtjaobihcdkjmbaaGreatDoorW.PrintWords Go.Proofs.YtjaobihcdkjmbaaGreatDoorW.PrintLast Go.Proofs.YtjaobihcdkjmbaaGreatDoorW.PrintMore Go.Proofs.YtjaobihcdkjmbaaGreatDoor.PReadTokens
attribute [local go_sem] max2_int min2_int max_two min_two max_three min_three max_four min_four   -- for this text's walks alone
set_option linter.unusedVariables false
set_option linter.unusedSimpArgs false
def metewandkit_PlaceText.l0:Nat→List ByteArray→ByteArray→Int→Option (Int)
 | 0,_,_,_=>none
 | k+1,x0,x1,x5=>if x5 < (x0.length:Int) then (if 0≤x5 then (if (rdOf ByteArray.empty x0 x5).toList=x1.toList then (some x5) else (metewandkit_PlaceText.l0 k x0 x1 (wrap64 (x5+1)))) else (none)) else (some (-1))
def metewandkit_PlaceText.f (k:Nat) (l0:List ByteArray) (a1:ByteArray):Option (Int):=metewandkit_PlaceText.l0 k l0 a1 0
theorem metewandkit_PlaceText.mono_l:∀ k,(∀ y0 y1 y2,LeO (metewandkit_PlaceText.l0 k y0 y1 y2) (metewandkit_PlaceText.l0 (k+1) y0 y1 y2))
 | 0=>fun _ _ _ r h=>by simp [metewandkit_PlaceText.l0] at h
 | k+1=>by
  have ih0:=metewandkit_PlaceText.mono_l k
  ·intro y0 y1 y2
   unfold metewandkit_PlaceText.l0
   repeat' first
   | (with_reducible exact ih0 _ _ _)
   | (with_reducible exact LeO.refl _)
   | (with_reducible exact LeO.none _)
   | (with_reducible refine LeO.ite ?_ ?_)
   | (with_reducible refine LeO.bind ?_ (fun _=>?_))
   | exact ih0 _ _ _
   | exact LeO.none _
   | refine LeO.ite ?_ ?_
   | refine LeO.bind ?_ (fun _=>?_)
theorem metewandkit_PlaceText.mono:∀ a0 a1 k,LeO (metewandkit_PlaceText.f k a0 a1) (metewandkit_PlaceText.f (k+1) a0 a1):=by
 intro a0 a1 k
 have ih0:=metewandkit_PlaceText.mono_l k
 unfold metewandkit_PlaceText.f
 repeat' first
   | (with_reducible exact ih0 _ _ _)
   | (with_reducible exact LeO.refl _)
   | (with_reducible exact LeO.none _)
   | (with_reducible refine LeO.ite ?_ ?_)
   | (with_reducible refine LeO.bind ?_ (fun _=>?_))
   | exact ih0 _ _ _
   | exact LeO.none _
   | refine LeO.ite ?_ ?_
   | refine LeO.bind ?_ (fun _=>?_)
set_option maxHeartbeats 8000000 in
set_option maxRecDepth 100000 in
theorem metewandkit_PlaceText.calls (k:Nat) (A0:Option Addr) (c0:Nat) (l0:List ByteArray) (a1:ByteArray) (r:Int) (w:World) (hr0:Kd.C Kd.string w A0 l0.length l0) (hc0:l0.length≤c0) (h:metewandkit_PlaceText.f k l0 a1=some r) :
  Calls Tryz.prog 34 #[.slice A0 l0.length c0,.string a1] w fun e w'=>e=.returned (.int .i64 r)∧Drawn0 w w':=by
 have HR0:=Aside0.mk hr0
 have HC0:=Aside0.mk hc0
 clear hr0 hc0
 have H:(metewandkit_PlaceText.l0 k l0 a1 0)=some r:=h
 clear h
 have H':=Aside0.mk H
 clear H
 go_enter Tryz.func34,Tryz.ntmps34
 go_wp2
 go_loopg [5] k (fun kq v5 w'=>∃ (x5_1:Int),v5=.int .i64 x5_1∧Aside0 (metewandkit_PlaceText.l0 kq l0 a1 x5_1=some r)∧Aside0 (kq≤k)∧Drawn0 w w')
 case atStart=>exact ⟨(0),(by first | rfl | (simp;done) | (simp [*];done)),H',⟨Nat.le_refl _⟩,by repeat (first | exact Drawn0.refl _ | apply Drawn0.step)⟩
 case round =>
  clear H'
  try clear p2
  obtain ⟨x5_1,rfl,HA,HK1,⟨m1,rfl⟩⟩:=hrel
  cases gk with
  | zero=>exact absurd HA.out (by simp [metewandkit_PlaceText.l0])
  | succ k1 =>
   have H:=HA.out
   clear HA
   simp only [metewandkit_PlaceText.l0] at H
   by_cases c3:x5_1 < (l0.length:Int)
   ·rw [if_pos c3] at H
    have c3b0:decide (x5_1 < (l0.length:Int))=true:=decide_eq_true c3
    clear c3
    by_cases c4:0≤x5_1
    ·rw [if_pos c4] at H
     have c4b0:decide (0≤x5_1)=true:=decide_eq_true c4
     clear c4
     by_cases c5:(rdOf ByteArray.empty l0 x5_1).toList=a1.toList
     ·rw [if_pos c5] at H
      have c5b0:((rdOf ByteArray.empty l0 x5_1).toList == a1.toList)=true:=beq_iff_eq.mpr c5
      have c5b1:((rdOf ByteArray.empty l0 x5_1).toList != a1.toList)=false:=bne_eq_false_iff_eq.mpr c5
      clear c5
      obtain rfl:=Option.some.inj H
      have p382:0≤(x5_1:Int):=of_decide_eq_true (by first | (with_reducible assumption) | assumption)
      have q382:x5_1 < (l0.length:Int):=of_decide_eq_true (by first | (with_reducible assumption) | assumption)
      obtain ⟨ad382,e382,hx382_0⟩:=Kd.at_string HR0.out x5_1 p382 q382
      cases e382
      replace p382:=eq_true p382
      replace q382:=eq_true q382
      go_wp2
      go_ret
      exact ⟨by first | rfl | (simp;done) | (simp [*];done),by repeat (first | exact Drawn0.refl _ | apply Drawn0.step)⟩
     ·rw [if_neg c5] at H
      have c5b0:((rdOf ByteArray.empty l0 x5_1).toList == a1.toList)=false:=beq_eq_false_iff_ne.mpr c5
      have c5b1:((rdOf ByteArray.empty l0 x5_1).toList != a1.toList)=true:=bne_iff_ne.mpr c5
      have H':=Aside0.mk H
      clear H
      have p382:0≤(x5_1:Int):=of_decide_eq_true (by first | (with_reducible assumption) | assumption)
      have q382:x5_1 < (l0.length:Int):=of_decide_eq_true (by first | (with_reducible assumption) | assumption)
      obtain ⟨ad382,e382,hx382_0⟩:=Kd.at_string HR0.out x5_1 p382 q382
      cases e382
      replace p382:=eq_true p382
      replace q382:=eq_true q382
      go_wp2
      go_roundg k1
      case measure=>have:=HK1.out;omega
      case rel=>exact ⟨(wrap64 (x5_1+1)),(by first | rfl | (simp;done) | (simp [*];done)),H',⟨by have:=HK1.out;omega⟩,by repeat (first | exact Drawn0.refl _ | apply Drawn0.step)⟩
    ·rw [if_neg c4] at H
     exact absurd H (by simp)
   ·rw [if_neg c3] at H
    have c3b0:decide (x5_1 < (l0.length:Int))=false:=decide_eq_false c3
    clear c3
    obtain rfl:=Option.some.inj H
    go_wp2
    go_ret
    exact ⟨by first | rfl | (simp;done) | (simp [*];done),by repeat (first | exact Drawn0.refl _ | apply Drawn0.step)⟩
end Go.Proofs.YtjaobihcdkjmbaaGreatDoor.PReadFree
end
