/- The law ReadFree answers true for every argument; a part of its proof. -/
import Derived.LaidEql
import Derived.Stop.Asserts
import Derived.RowKitTokens
import Derived.Defers
import Derived.Recover
import Derived.Test.YtjaobihcdkjmbaaGreatDoorF8
import Derived.Test.YtjaobihcdkjmbaaGreatDoorF9
set_option linter.unusedVariables false
set_option linter.unusedSimpArgs false
section
namespace Go.Proofs.YtjaobihcdkjmbaaGreatDoor
open Go.RowKit Go.Proofs.YtjaobihcdkjmbaaGreatDoorW.PrintWords Go.Proofs.YtjaobihcdkjmbaaGreatDoor.PReadTokens
theorem numS_ok {ts:List S47} {en:Nat} {lo hi v:Int} {now n:Nat} (h:numS ts en lo hi now=.ok (v,n)):n=now+1∧now < ts.length∧lo≤v∧v≤hi:=by
 unfold numS at h
 split at h
 ·split at h
  ·rename_i hv h2
   injection h with h;injection h with h3 h
   subst h3
   exact ⟨h.symm,tokP_lt h2.1 (by decide),h2.2⟩
  ·cases h
 ·cases h
theorem number_any (W0:World) (R B:Nat) (ts:List S47) (en now:Nat) (lo hi:Int) (w:World) (E:Env W0 R B ts) (h:St W0 R B ts en now w) :
  Calls Tryz.prog 179 #[.pointer (some ⟨R,0,none⟩),.int .i64 lo,.int .i64 hi] w (NumPost w R ts en (numS ts en lo hi now)):=by
 cases hn:numS ts en lo hi now with
 | ok r =>
  obtain ⟨v,n⟩:=r
  obtain ⟨rfl,hlt,_,_⟩:=numS_ok hn
  unfold numS at hn
  split at hn
  ·rename_i v' hv
   split at hn
   ·rename_i h2
    injection hn with hn;injection hn with hn _
    subst hn
    exact number_ok W0 R B ts en now lo hi v' w E h hlt (by rw [beq_iff_eq];exact h2.1) hv h2.2.1 h2.2.2
   ·cases hn
  ·cases hn
 | error p =>
  have:p=(tokP ts en now).f2∧∀ v,Lib.atoiAll (tokP ts en now).f1.data.toList=.ok v→¬ ((tokP ts en now).f0=2∧lo≤v∧v≤hi):=by
   unfold numS at hn
   split at hn
   ·rename_i v' hv
    split at hn
    ·cases hn
    ·rename_i h2
     injection hn with hn
     refine ⟨hn.symm,fun v hv2=>?_⟩
     rw [hv] at hv2
     injection hv2 with hv2
     subst hv2
     exact h2
   ·rename_i hv
    injection hn with hn
    exact ⟨hn.symm,fun v hv2=>absurd hv2 (hv v)⟩
  obtain ⟨rfl,hno⟩:=this
  exact number_no W0 R B ts en now lo hi w E h hno
theorem Gath.size {W0:World} {R B:Nat} {ts:List S47} {en:Nat} {w:World} {X:Nat} {wr:World} {x:S31} {n:Nat} {v:Value} (E:Env W0 R B ts) (hR:R < w.heap.size) (hX:w.heap.size < X)
  (G:Gath W0 R B ts en w X wr x n v) (k:Int):Gath W0 R B ts en w X (wr.setCell ⟨X,4,none⟩ (.int .i64 k)) ⟨x.f0,x.f1,x.f2,k,x.f4⟩ n v:=by
 have hXR:X≠R:=by omega
 have own:=E.own
 have hlow:=G.st.low.size
 have hk:=G.took.far G.blk hXR (Nat.le_of_lt hX) 4 (.int .i64 k)
 obtain ⟨v5,h1,h2⟩:=G.val.out
 obtain rfl:=exV_inj h1
 exact ⟨⟨hk.rdr,G.st.low.setCell (p:=⟨X,4,none⟩) (by simp only;omega) _,by rw [World.size_setCell];exact G.st.base,G.st.pos⟩,hk,blk_set G.blk 4 _,
  ⟨_,rfl,Kd.R_step h2 (fun j hj _=>Below.heap_setCell _ _ _ _ hj.2)⟩,(Below.heap_setCell _ _ _ _ (by simp only;omega)).trans G.res⟩
set_option maxRecDepth 100000 in
set_option maxHeartbeats 2000000 in
theorem power_walk (W0:World) (R B:Nat) (ts:List S47) (en:Nat) (chk:S28→Int) (ex:Nat→PR) (m now:Nat) (w:World) (E:Env W0 R B ts) (h:St W0 R B ts en now w) (hm:m≤now)
  (hp:Pars W0 R B ts en 217 (elementS ts en chk ex) m) :
  Calls Tryz.prog 180 #[.pointer (some ⟨R,0,none⟩)] w (ExPost w R ts en now (powerS ts en chk ex now)):=by
 have hp0:=hp now (w.alloc zO) hm (h.below ((Below.refl _ _).alloc (Nat.le_refl _) _))
 unfold powerS
 have few:=E.few
 have hRw:=h.rdr.lt
 have hne0:=Nat.ne_of_gt hRw
 cases hc:elementS ts en chk ex now with
 | error p =>
  rw [hc] at hp0
  unfold ExPost stuckAt at hp0
  clear hc hp h
  go_enter Tryz.func180,Tryz.ntmps180
  go_wp2_with fail
  refine hp0.mono ?_
  rintro e w1 ⟨rfl,hg⟩
  go_wp2
  exact ⟨rfl,rfl,Lib.grownBy_trans (World.grownBy_alloc w zO _) hg⟩
 | ok r =>
  obtain ⟨x,n⟩:=r
  rw [hc] at hp0
  unfold ExPost at hp0
  have H:=Lib.hid h
  have h0:St W0 R B ts en now (w.alloc zO):=h.below ((Below.refl _ _).alloc (Nat.le_refl _) _)
  clear hp h hc
  dsimp only
  have start:∀ (w1:World) (v5:Value),Ex w1 (From (w.alloc zO).heap.size) x (exV x v5)→Took (w.alloc zO) R ts n en w1→n≤ts.length→w.heap.size < w1.heap.size ∧
    Gath W0 R B ts en w w1.heap.size (w1.alloc (.cells #[.int .i64 x.f0,.string x.f1.f0,.string x.f1.f1,.string x.f2,.int .i64 x.f3,v5] 31)) x n v5:=fun w1 v5 hx hk hn2=>by
   have hz:=hk.blk (blk_new w zO) hne0
   have hXw:w.heap.size < w1.heap.size:=blk_lt hz
   exact ⟨hXw,(h0.took E hk hn2).below ((Below.refl _ _).alloc (Nat.le_refl _) _),hk.start.alloc _,blk_new _ _,(hx.old (fun k h1 h2=>⟨by simp [From] at h1;omega,Nat.ne_of_lt h2⟩)).below ((Below.refl _ _).alloc (Nat.le_refl _) _),
    (Below.heap_alloc _ _ _ (blk_lt hz)).trans hz⟩
  have Start:=Lib.hid start
  clear start h0
  cases hs:sk ts en n ⟨#[94]⟩ with
  | false =>
   rw [if_neg (by decide)]
   go_enter Tryz.func180,Tryz.ntmps180
   go_wp2_with fail
   refine hp0.mono ?_
   rintro e w1 ⟨hn1,hn2,v,rfl,hx,hk⟩
   obtain ⟨v5,A5,n5,c5,rfl,rfl,_,_⟩:=hx.cells
   obtain ⟨hXw,G⟩:=Start.out w1 _ hx hk hn2
   have hsk:=skip_no R ts n en ⟨#[94]⟩ _ G.st.rdr hn2 hs
   unfold exV
   go_wp2_with fail
   refine hsk.mono ?_
   rintro e w2 ⟨rfl,hk2⟩
   have G2:=G.go E hRw hXw hk2 hn2
   obtain ⟨⟨p0,p1,p2,p3,p4,p5⟩,-,xl⟩:=cells6 G2.blk
   obtain ⟨⟨q0,q1,q2,q3,q4,q5⟩,⟨f0,f1,f2,f3,f4,f5⟩,xl2⟩:=cells6 G2.res
   go_wp2
   refine bodyPost_ret (results_c Tryz.results180 _ _ w.heap.size 31 _ (0,0) _ rfl (fin6 _ _ _ _ _ _ G2.res) Tryz.underlying31 rfl size31) rfl ⟨hn1,hn2,_,rfl,?_,?_⟩
   ·exact (G2.val.set6 (fun k hk=>Nat.ne_of_gt hk.1) _ _ _ _ _ _).mono (fun k hk=>Nat.le_of_lt hk.1)
   ·exact G2.took.set6 G2.res hne0 (Nat.le_refl _) _ _ _ _ _ _
  | true =>
   rw [if_pos rfl]
   have hlt:=isTok_lt hs
   cases hs2:sk ts en (n+1) ⟨#[45]⟩ with
   | true =>
    rw [if_pos rfl]
    have hlt1:=isTok_lt hs2
    cases hnum:numS ts en 1 9 (n+1+1) with
    | error p =>
     dsimp only
     go_enter Tryz.func180,Tryz.ntmps180
     go_wp2_with fail
     refine hp0.mono ?_
     rintro e w1 ⟨hn1,hn2,v,rfl,hx,hk⟩
     obtain ⟨v5,A5,n5,c5,rfl,rfl,_,_⟩:=hx.cells
     obtain ⟨hXw,G⟩:=Start.out w1 _ hx hk hn2
     have hsk:=skip_yes R ts n en ⟨#[94]⟩ _ G.st.rdr few hs
     unfold exV
     go_wp2_with fail
     refine hsk.mono ?_
     rintro e w2 ⟨rfl,hk2⟩
     have G2:=G.go E hRw hXw hk2 hlt
     obtain ⟨⟨p0,p1,p2,p3,p4,p5⟩,⟨f0,f1,f2,f3,f4,f5⟩,xl⟩:=cells6 G2.blk
     have hone:=G2.val.one ⟨by omega,by omega⟩ ⟨7,z28,⟨#[]⟩,0,[x]⟩ rfl
     have G3:=(G2.below ((Below.refl _ w2).alloc (Nat.le_refl _) (.cells #[.int .i64 x.f0,.string x.f1.f0,.string x.f1.f1,.string x.f2,.int .i64 x.f3,.slice A5 n5 c5] 31))).store E hRw hXw hone
     have hsk3:=skip_yes R ts (n+1) en ⟨#[45]⟩ _ G3.st.rdr few hs2
     simp only [set6,World.setCell_alloc_past,World.size_setCell,xl,z28] at G3 hsk3
     clear p0 p1 p2 p3 p4 p5 f0 f1 f2 f3 f4 f5
     obtain ⟨⟨p0,p1,p2,p3,p4,p5⟩,⟨f0,f1,f2,f3,f4,f5⟩,-⟩:=cells6 G2.blk
     go_wp2_with fail
     refine hsk3.mono ?_
     rintro e w3 ⟨rfl,hk3⟩
     have G4:=G3.go E hRw hXw hk3 hlt1
     have hnn:=number_any W0 R B ts en (n+1+1) 1 9 w3 E G4.st
     rw [hnum] at hnn
     unfold NumPost stuckAt at hnn
     clear hsk3 hsk hone G3
     go_wp2_with fail
     refine hnn.mono ?_
     rintro e w4 ⟨rfl,hg4⟩
     go_wp2
     exact ⟨rfl,rfl,Lib.grownBy_trans G4.took.grown hg4⟩
    | ok r =>
     obtain ⟨k,n2⟩:=r
     obtain ⟨rfl,hlt2,hlo,hhi⟩:=numS_ok hnum
     dsimp only
     go_enter Tryz.func180,Tryz.ntmps180
     go_wp2_with fail
     refine hp0.mono ?_
     rintro e w1 ⟨hn1,hn2,v,rfl,hx,hk⟩
     obtain ⟨v5,A5,n5,c5,rfl,rfl,_,_⟩:=hx.cells
     obtain ⟨hXw,G⟩:=Start.out w1 _ hx hk hn2
     have hsk:=skip_yes R ts n en ⟨#[94]⟩ _ G.st.rdr few hs
     unfold exV
     go_wp2_with fail
     refine hsk.mono ?_
     rintro e w2 ⟨rfl,hk2⟩
     have G2:=G.go E hRw hXw hk2 hlt
     obtain ⟨⟨p0,p1,p2,p3,p4,p5⟩,⟨f0,f1,f2,f3,f4,f5⟩,xl⟩:=cells6 G2.blk
     have hone:=G2.val.one ⟨by omega,by omega⟩ ⟨7,z28,⟨#[]⟩,0,[x]⟩ rfl
     have G3:=(G2.below ((Below.refl _ w2).alloc (Nat.le_refl _) (.cells #[.int .i64 x.f0,.string x.f1.f0,.string x.f1.f1,.string x.f2,.int .i64 x.f3,.slice A5 n5 c5] 31))).store E hRw hXw hone
     have hsk3:=skip_yes R ts (n+1) en ⟨#[45]⟩ _ G3.st.rdr few hs2
     simp only [set6,World.setCell_alloc_past,World.size_setCell,xl,z28] at G3 hsk3
     clear p0 p1 p2 p3 p4 p5 f0 f1 f2 f3 f4 f5
     obtain ⟨⟨p0,p1,p2,p3,p4,p5⟩,⟨f0,f1,f2,f3,f4,f5⟩,-⟩:=cells6 G2.blk
     go_wp2_with fail
     refine hsk3.mono ?_
     rintro e w3 ⟨rfl,hk3⟩
     have G4:=G3.go E hRw hXw hk3 hlt1
     have hnn:=number_any W0 R B ts en (n+1+1) 1 9 w3 E G4.st
     rw [hnum] at hnn
     unfold NumPost at hnn
     clear hsk3 hsk hone G3
     go_wp2_with fail
     refine hnn.mono ?_
     rintro e w4 ⟨rfl,hk4⟩
     have G5:=G4.go E hRw hXw hk4 hlt2
     have G6:=G5.size E hRw hXw (-k)
     obtain ⟨⟨q0,q1,q2,q3,q4,q5⟩,⟨y0,y1,y2,y3,y4,y5⟩,xl5⟩:=cells6 G5.blk
     obtain ⟨⟨s0,s1,s2,s3,s4,s5⟩,⟨t0,t1,t2,t3,t4,t5⟩,xl6⟩:=cells6 G6.res
     obtain ⟨⟨i0,i1,i2,i3,i4,i5⟩,-,xl7⟩:=cells6 G6.blk
     go_wp2
     refine bodyPost_ret (results_c Tryz.results180 _ _ w.heap.size 31 _ (0,0) _ rfl (fin6 _ _ _ _ _ _ G6.res) Tryz.underlying31 rfl size31) rfl ⟨by omega,hlt2,_,rfl,?_,?_⟩
     ·exact (G6.val.set6 (fun k hk=>Nat.ne_of_gt hk.1) _ _ _ _ _ _).mono (fun k hk=>Nat.le_of_lt hk.1)
     ·exact G6.took.set6 G6.res hne0 (Nat.le_refl _) _ _ _ _ _ _
   | false =>
    rw [if_neg (by decide)]
    cases hnum:numS ts en 0 9 (n+1) with
    | error p =>
     dsimp only
     go_enter Tryz.func180,Tryz.ntmps180
     go_wp2_with fail
     refine hp0.mono ?_
     rintro e w1 ⟨hn1,hn2,v,rfl,hx,hk⟩
     obtain ⟨v5,A5,n5,c5,rfl,rfl,_,_⟩:=hx.cells
     obtain ⟨hXw,G⟩:=Start.out w1 _ hx hk hn2
     have hsk:=skip_yes R ts n en ⟨#[94]⟩ _ G.st.rdr few hs
     unfold exV
     go_wp2_with fail
     refine hsk.mono ?_
     rintro e w2 ⟨rfl,hk2⟩
     have G2:=G.go E hRw hXw hk2 hlt
     obtain ⟨⟨p0,p1,p2,p3,p4,p5⟩,⟨f0,f1,f2,f3,f4,f5⟩,xl⟩:=cells6 G2.blk
     have hone:=G2.val.one ⟨by omega,by omega⟩ ⟨7,z28,⟨#[]⟩,0,[x]⟩ rfl
     have G3:=(G2.below ((Below.refl _ w2).alloc (Nat.le_refl _) (.cells #[.int .i64 x.f0,.string x.f1.f0,.string x.f1.f1,.string x.f2,.int .i64 x.f3,.slice A5 n5 c5] 31))).store E hRw hXw hone
     have hsk3:=skip_no R ts (n+1) en ⟨#[45]⟩ _ G3.st.rdr hlt hs2
     simp only [set6,World.setCell_alloc_past,World.size_setCell,xl,z28] at G3 hsk3
     clear p0 p1 p2 p3 p4 p5 f0 f1 f2 f3 f4 f5
     obtain ⟨⟨p0,p1,p2,p3,p4,p5⟩,⟨f0,f1,f2,f3,f4,f5⟩,-⟩:=cells6 G2.blk
     go_wp2_with fail
     refine hsk3.mono ?_
     rintro e w3 ⟨rfl,hk3⟩
     have G4:=G3.go E hRw hXw hk3 hlt
     have hnn:=number_any W0 R B ts en (n+1) 0 9 w3 E G4.st
     rw [hnum] at hnn
     unfold NumPost stuckAt at hnn
     clear hsk3 hsk hone G3
     go_wp2_with fail
     refine hnn.mono ?_
     rintro e w4 ⟨rfl,hg4⟩
     go_wp2
     exact ⟨rfl,rfl,Lib.grownBy_trans G4.took.grown hg4⟩
    | ok r =>
     obtain ⟨k,n2⟩:=r
     obtain ⟨rfl,hlt2,hlo,hhi⟩:=numS_ok hnum
     dsimp only
     go_enter Tryz.func180,Tryz.ntmps180
     go_wp2_with fail
     refine hp0.mono ?_
     rintro e w1 ⟨hn1,hn2,v,rfl,hx,hk⟩
     obtain ⟨v5,A5,n5,c5,rfl,rfl,_,_⟩:=hx.cells
     obtain ⟨hXw,G⟩:=Start.out w1 _ hx hk hn2
     have hsk:=skip_yes R ts n en ⟨#[94]⟩ _ G.st.rdr few hs
     unfold exV
     go_wp2_with fail
     refine hsk.mono ?_
     rintro e w2 ⟨rfl,hk2⟩
     have G2:=G.go E hRw hXw hk2 hlt
     obtain ⟨⟨p0,p1,p2,p3,p4,p5⟩,⟨f0,f1,f2,f3,f4,f5⟩,xl⟩:=cells6 G2.blk
     have hone:=G2.val.one ⟨by omega,by omega⟩ ⟨7,z28,⟨#[]⟩,0,[x]⟩ rfl
     have G3:=(G2.below ((Below.refl _ w2).alloc (Nat.le_refl _) (.cells #[.int .i64 x.f0,.string x.f1.f0,.string x.f1.f1,.string x.f2,.int .i64 x.f3,.slice A5 n5 c5] 31))).store E hRw hXw hone
     have hsk3:=skip_no R ts (n+1) en ⟨#[45]⟩ _ G3.st.rdr hlt hs2
     simp only [set6,World.setCell_alloc_past,World.size_setCell,xl,z28] at G3 hsk3
     clear p0 p1 p2 p3 p4 p5 f0 f1 f2 f3 f4 f5
     obtain ⟨⟨p0,p1,p2,p3,p4,p5⟩,⟨f0,f1,f2,f3,f4,f5⟩,-⟩:=cells6 G2.blk
     go_wp2_with fail
     refine hsk3.mono ?_
     rintro e w3 ⟨rfl,hk3⟩
     have G4:=G3.go E hRw hXw hk3 hlt
     have hnn:=number_any W0 R B ts en (n+1) 0 9 w3 E G4.st
     rw [hnum] at hnn
     unfold NumPost at hnn
     clear hsk3 hsk hone G3
     go_wp2_with fail
     refine hnn.mono ?_
     rintro e w4 ⟨rfl,hk4⟩
     have G5:=G4.go E hRw hXw hk4 hlt2
     have G6:=G5.size E hRw hXw k
     obtain ⟨⟨q0,q1,q2,q3,q4,q5⟩,⟨y0,y1,y2,y3,y4,y5⟩,xl5⟩:=cells6 G5.blk
     obtain ⟨⟨s0,s1,s2,s3,s4,s5⟩,⟨t0,t1,t2,t3,t4,t5⟩,xl6⟩:=cells6 G6.res
     obtain ⟨⟨i0,i1,i2,i3,i4,i5⟩,-,xl7⟩:=cells6 G6.blk
     go_wp2
     refine bodyPost_ret (results_c Tryz.results180 _ _ w.heap.size 31 _ (0,0) _ rfl (fin6 _ _ _ _ _ _ G6.res) Tryz.underlying31 rfl size31) rfl ⟨by omega,hlt2,_,rfl,?_,?_⟩
     ·exact (G6.val.set6 (fun k hk=>Nat.ne_of_gt hk.1) _ _ _ _ _ _).mono (fun k hk=>Nat.le_of_lt hk.1)
     ·exact G6.took.set6 G6.res hne0 (Nat.le_refl _) _ _ _ _ _ _
end Go.Proofs.YtjaobihcdkjmbaaGreatDoor
end
section
namespace Go.Proofs.YtjaobihcdkjmbaaGreatDoor
open Go.RowKit Go.Proofs.YtjaobihcdkjmbaaGreatDoorW.PrintWords Go.Proofs.YtjaobihcdkjmbaaGreatDoor.PReadTokens
structure Plain (ts:List S47) (en:Nat):Prop where
 bar:∀ i,sk ts en i ⟨#[124]⟩=false
 let_:∀ i,sk ts en i ⟨#[108,101,116]⟩=false
 if_:∀ i,sk ts en i ⟨#[105,102]⟩=false
 tab:∀ i,sk ts en i ⟨#[116,97,98]⟩=false
 sum:∀ i,sk ts en i ⟨#[115,117,109]⟩=false
set_option maxRecDepth 100000 in
set_option maxHeartbeats 2000000 in
theorem expr_plain (W0:World) (R B:Nat) (ts:List S47) (en now:Nat) (w:World) (E:Env W0 R B ts) (h:St W0 R B ts en now w)
  (h1:sk ts en now ⟨#[108,101,116]⟩=false) (h2:sk ts en now ⟨#[105,102]⟩=false) (h3:sk ts en now ⟨#[116,97,98]⟩=false) (h4:sk ts en now ⟨#[115,117,109]⟩=false) (r:PR)
  (hs:∀ w',St W0 R B ts en now w'→Calls Tryz.prog 135 #[.pointer (some ⟨R,0,none⟩)] w' (ExPost w' R ts en now r)) :
  Calls Tryz.prog 134 #[.pointer (some ⟨R,0,none⟩)] w (ExPost w R ts en now r):=by
 have hRw:=h.rdr.lt
 have M0:=Mid.start h
 have hnow:=h.pos
 have H1:=Lib.hid (fun w' hr=>skip_no R ts now en ⟨#[108,101,116]⟩ w' hr hnow h1)
 have H2:=Lib.hid (fun w' hr=>skip_no R ts now en ⟨#[105,102]⟩ w' hr hnow h2)
 have H3:=Lib.hid (fun w' hr=>skip_no R ts now en ⟨#[116,97,98]⟩ w' hr hnow h3)
 have H4:=Lib.hid (fun w' hr=>skip_no R ts now en ⟨#[115,117,109]⟩ w' hr hnow h4)
 have HS:=Lib.hid hs
 clear h h1 h2 h3 h4 hs
 have s1:=H1.out _ M0.st.rdr
 go_enter Tryz.func134,Tryz.ntmps134
 go_wp2_with fail
 refine s1.mono ?_
 rintro e w1 ⟨rfl,k1⟩
 have M1:=M0.go E hRw k1 hnow
 have s2:=H2.out _ M1.st.rdr
 go_wp2_with fail
 refine s2.mono ?_
 rintro e w2 ⟨rfl,k2⟩
 have M2:=M1.go E hRw k2 hnow
 have s3:=H3.out _ M2.st.rdr
 go_wp2_with fail
 refine s3.mono ?_
 rintro e w3 ⟨rfl,k3⟩
 have M3:=M2.go E hRw k3 hnow
 have s4:=H4.out _ M3.st.rdr
 go_wp2_with fail
 refine s4.mono ?_
 rintro e w4 ⟨rfl,k4⟩
 have M4:=M3.go E hRw k4 hnow
 have hl:=HS.out _ M4.st
 obtain ⟨c1,f1,c3,c4,lt⟩:=M4.st.rdr.cells
 cases r with
 | error p =>
  unfold ExPost stuckAt at hl
  go_wp2_with (go_at_call 135;refine hl.mono ?_;rintro e w2 ⟨rfl,hg⟩)
  exact ⟨rfl,rfl,Lib.grownBy_trans M4.took.grown hg⟩
 | ok r =>
  obtain ⟨x,n⟩:=r
  unfold ExPost at hl
  go_wp2_with fail
  refine hl.mono ?_
  rintro e w5 ⟨hn1,hn2,v,rfl,hx,hk⟩
  obtain ⟨v5,A5,n5,c5,rfl,rfl,_,_⟩:=hx.cells
  unfold exV
  have M5:=M4.go E hRw hk hn2
  have hx2:=hx.mono (fun k hk=>Nat.lt_of_lt_of_le M4.lt hk)
  obtain ⟨⟨q0,q1,q2,q3,q4,q5⟩,⟨f0,f1,f2,f3,f4,f5⟩,xl2⟩:=cells6 M5.res
  go_wp2
  refine bodyPost_ret (results_c Tryz.results134 _ _ w.heap.size 31 _ (0,0) _ rfl (fin6 _ _ _ _ _ _ M5.res) Tryz.underlying31 rfl size31) rfl (M5.done hRw hx2 (by omega) _ _ _ _ _ _)
theorem pars_plain (W0:World) (R B:Nat) (ts:List S47) (en:Nat) (chk:S28→Int) (E:Env W0 R B ts) (hpl:Plain ts en) :
  ∀ k m,ts.length < m+k→Pars W0 R B ts en 134 (exprS ts en chk k) m:=by
 intro k
 induction k with
 | zero=>intro m hm now w hmn h;have:=h.pos;omega
 | succ k ih =>
  intro m hm
  have hex:=ih (m+1) (by omega)
  have hatom:Pars W0 R B ts en 252 (atomS ts en chk (exprS ts en chk k)) m:=atom_walk W0 R B ts en chk _ m E (fun now w hmn h h2=>by
   unfold litS
   rw [if_neg (by rw [hpl.bar];decide)]
   exact lit_plain W0 R B ts en now w E h h2 (hpl.bar _)) hex
  have helem:Pars W0 R B ts en 217 (elementS ts en chk (exprS ts en chk k)) m:=fun now w hmn h=>element_walk W0 R B ts en chk _ m now w E h hmn hatom hex
  have hpow:Pars W0 R B ts en 180 (powerS ts en chk (exprS ts en chk k)) m:=fun now w hmn h=>power_walk W0 R B ts en chk _ m now w E h hmn helem
  have hprod:Pars W0 R B ts en 160 (productS ts en chk (exprS ts en chk k)) m:=fun now w hmn h=>product_walk W0 R B ts en chk _ m now w E h hmn hpow
  have hsums:=sums_walk W0 R B ts en chk (exprS ts en chk k) m E hprod
  intro now w hmn h
  unfold exprS exprB
  rw [if_neg (by rw [hpl.let_];decide),if_neg (by rw [hpl.if_];decide),if_neg (by rw [hpl.tab];decide),if_neg (by rw [hpl.sum];decide)]
  exact expr_plain W0 R B ts en now w E h (hpl.let_ _) (hpl.if_ _) (hpl.tab _) (hpl.sum _) _ (fun w' h'=>hsums now w' hmn h')
end Go.Proofs.YtjaobihcdkjmbaaGreatDoor
end
section
namespace Go.Proofs.YtjaobihcdkjmbaaGreatDoor
open Go.RowKit Go.Extern.Stop Go.Stop Go.Extern Go.Proofs.YtjaobihcdkjmbaaGreatDoorW.PrintWords Go.Proofs.YtjaobihcdkjmbaaGreatDoor.PReadTokens
theorem As.handle134:typeHandle Tryz.prog 134=.pointer (some ⟨7,134,none⟩):=by kernel_rfl
theorem As.valueOf139 (t:Addr) (w:World):(ReflectliteValue.unpack (.iface 139 (.pointer (some t)))).run Tryz.prog w
  = .ok (.agg #[.pointer (some ⟨7,139,none⟩),.pointer (some ⟨w.heap.size,0,none⟩),.int .u64 150]) (w.alloc (.cells #[.pointer (some t)] 139)):=by kernel_rfl
theorem As.type139 (a : Addr) (w : World) : (ReflectliteValue.methodAny (ReflectliteValue.valueError "reflectlite.Value.Type" 0) (fun t _ _ _ => ReflectliteType.toType t) #[.agg #[.pointer (some ⟨7, 139, none⟩), .pointer (some a), .int .u64 150]]).run Tryz.prog w
  = .ok (.iface 209 (.agg #[.pointer (some ⟨7,139,none⟩)])) w:=by kernel_rfl
theorem As.kind139 (w:World):((ReflectliteType.abiMethod fun t=>(fun a:Nat=>Value.int IntKind.u8 (a:Int)) <$> Rtype.kind t) #[.pointer (some ⟨7,139,none⟩)]).run Tryz.prog w=.ok (.int .u8 22) w:=by kernel_rfl
theorem As.kind137 (w:World):((ReflectliteType.abiMethod fun t=>(fun a:Nat=>Value.int IntKind.u8 (a:Int)) <$> Rtype.kind t) #[.pointer (some ⟨7,137,none⟩)]).run Tryz.prog w=.ok (.int .u8 25) w:=by kernel_rfl
theorem As.rlm (z:Sem Value) (f:TypeId→Addr→Nat→Nat→Sem Value) (v:Value) :
  ReflectliteValue.method z f #[v]=(do match ← ReflectliteValue.parts v with | none=>z | some (t,a,fl)=>f t a fl (fl % 32)):=rfl
theorem As.parts139 (a:Addr) (w:World):(ReflectliteValue.parts (.agg #[.pointer (some ⟨7,139,none⟩),.pointer (some a),.int .u64 150])).run Tryz.prog w=.ok (some (139,a,150)) w:=by kernel_rfl
theorem As.isNil139 (a p:Addr) (W:World) (ha:W.cell? a=some (.pointer (some p))) :
  (ReflectliteValue.method (ReflectliteValue.valueError "reflectlite.Value.IsNil" 0) ReflectliteValue.isNil #[.agg #[.pointer (some ⟨7, 139, none⟩), .pointer (some a), .int .u64 150]]).run Tryz.prog W = .ok (.bool false) W := by
 rw [As.rlm]
 simp only [Sem.run_bind,As.parts139,Result.andThen]
 simp [ReflectliteValue.isNil,loadVar,isAgg,underlying,Tryz.underlying139,ha,Result.andThen]
theorem As.elem139 (w:World):(ReflectliteType.method ReflectliteType.elem #[.agg #[.pointer (some ⟨7,139,none⟩)]]).run Tryz.prog w=.ok (.iface 209 (.agg #[.pointer (some ⟨7,137,none⟩)])) w:=by kernel_rfl
theorem As.implements137 (w : World) : (ReflectliteType.relation "Implements" ReflectliteType.implements_ #[.agg #[.pointer (some ⟨7, 137, none⟩)], .iface 209 (.agg #[.pointer (some ⟨7, 134, none⟩)])]).run Tryz.prog w = .ok (.bool true) w := by kernel_rfl
theorem As.typeOf137 (v:Value) (w:World):(ReflectliteType.typeOf #[.iface 137 v]).run Tryz.prog w=.ok (.iface 209 (.agg #[.pointer (some ⟨7,137,none⟩)])) w:=by kernel_rfl
theorem As.assignable137 (w : World) : (ReflectliteType.relation "AssignableTo" ReflectliteType.assignableTo #[.agg #[.pointer (some ⟨7, 137, none⟩)], .iface 209 (.agg #[.pointer (some ⟨7, 137, none⟩)])]).run Tryz.prog w = .ok (.bool true) w := by kernel_rfl
theorem As.valueOf137 (n:Int) (w:World):(ReflectliteValue.unpack (.iface 137 (.agg #[.int .i64 n]))).run Tryz.prog w
  = .ok (.agg #[.pointer (some ⟨7,137,none⟩),.pointer (some ⟨w.heap.size,0,none⟩),.int .u64 153]) (w.alloc (.cells #[.int .i64 n] 137)):=by kernel_rfl
theorem As.elemOf139 (w:World):(Rtype.elem? 139).run Tryz.prog w=.ok (some 137) w:=by kernel_rfl
theorem As.mk137 (p:Addr) (w:World):(ReflectliteValue.mk 137 p ReflectliteValue.flagAddr).run Tryz.prog w=.ok (.agg #[.pointer (some ⟨7,137,none⟩),.pointer (some p),.int .u64 409]) w:=by kernel_rfl
theorem As.elemV139 (a p:Addr) (W:World) (ha:W.cell? a=some (.pointer (some p))) :
  (ReflectliteValue.method (ReflectliteValue.valueError "reflectlite.Value.Elem" 0) ReflectliteValue.elem #[.agg #[.pointer (some ⟨7, 139, none⟩), .pointer (some a), .int .u64 150]]).run Tryz.prog W
   = .ok (.agg #[.pointer (some ⟨7,137,none⟩),.pointer (some p),.int .u64 409]) W:=by
 rw [As.rlm]
 simp only [Sem.run_bind,As.parts139,Result.andThen]
 simp [ReflectliteValue.elem,loadVar,isAgg,underlying,Tryz.underlying139,ha,Result.andThen,As.elemOf139,As.mk137]
theorem As.rls (v x:Value):ReflectliteValue.set #[v,x]=(do
  let (some (dst,a,fl),some (src,b,_)):=(← ReflectliteValue.parts v,← ReflectliteValue.parts x)
   | unsupported (.noEntry "extern/(internal/reflectlite.Value).Set.zeroValue")
  if fl / ReflectliteValue.flagAddr % 2 == 0 then unsupported (.noEntry "extern/(internal/reflectlite.Value).Set.unaddressable")
  let val ← loadVar src b
  if ← Rtype.directlyAssignable dst src then storeVar dst a val
  else if ← Rtype.implements dst src then
   if (← Rtype.kind src) == 20 then
    match val with
    | .nilIface => unsupported (.noEntry "extern/reflectlite: a nil value of one interface type handed on as a value of another")
    | _=>storeVar dst a val
   else storeVar dst a (.iface src val)
  else panicString ("reflectlite.Set: value of type " ++ (← Rtype.spelt src) ++ " is not assignable to type " ++ (← Rtype.spelt dst))
  pure (.tuple #[])):=rfl
theorem As.parts137a (a:Addr) (w:World):(ReflectliteValue.parts (.agg #[.pointer (some ⟨7,137,none⟩),.pointer (some a),.int .u64 409])).run Tryz.prog w=.ok (some (137,a,409)) w:=by kernel_rfl
theorem As.parts137 (a:Addr) (w:World):(ReflectliteValue.parts (.agg #[.pointer (some ⟨7,137,none⟩),.pointer (some a),.int .u64 153])).run Tryz.prog w=.ok (some (137,a,153)) w:=by kernel_rfl
theorem As.direct137 (w:World):(Rtype.directlyAssignable 137 137).run Tryz.prog w=.ok true w:=by kernel_rfl
theorem As.info137:(Tryz.prog.info? 137).map (·.size)=some 1:=by kernel_rfl
theorem As.set137 (ta:Nat) (b:Nat) (n:Int) (cs0:Array Value) (old:Value) (t0:TypeId) (W:World) (hb:W.heap[b]?=some (.cells #[.int .i64 n] 137 (0,0))) (ht:W.heap[ta]?=some (.cells #[old] 137 (0,0))) :
  (ReflectliteValue.set #[.agg #[.pointer (some ⟨7,137,none⟩),.pointer (some ⟨ta,0,none⟩),.int .u64 409],.agg #[.pointer (some ⟨7,137,none⟩),.pointer (some ⟨b,0,none⟩),.int .u64 153]]).run Tryz.prog W
   = .ok (.tuple #[]) (W.setCell ⟨ta,0,none⟩ (.int .i64 n)):=by
 rw [As.rls]
 have hl:=run_loadVar_row (P:=Tryz.prog) W b 137 137 #[.int .i64 n] (0,0) _ hb Tryz.underlying137 rfl As.info137
 have c:=blk_cell ht 0
 have f:=blk_frozen ht 0
 simp only [Sem.run_bind,As.parts137a,As.parts137,Result.andThen]
 simp [ReflectliteValue.flagAddr,hl,Result.andThen,As.direct137,storeVar,Value.cells,storeCells,Addr.add]
 rw [run_store Tryz.prog W _ _ _ (by rfl)]
 have c':W.cell? ⟨ta,0,none⟩=some old:=c
 simp [c',f]
end Go.Proofs.YtjaobihcdkjmbaaGreatDoor
end
section
namespace Go.Proofs.YtjaobihcdkjmbaaGreatDoor
open Go.RowKit Go.Extern.Stop Go.Stop Go.Extern Go.Proofs.YtjaobihcdkjmbaaGreatDoorW.PrintWords Go.Proofs.YtjaobihcdkjmbaaGreatDoor.PReadTokens
theorem As.methodKind (h : Value) (w : World) : (Go.method 467 209 (.agg #[h]) "Kind").run Tryz.prog w = .ok (304, h) w := by kernel_rfl
theorem As.methodElem (h : Value) (w : World) : (Go.method 467 209 (.agg #[h]) "Elem").run Tryz.prog w = .ok (320, .agg #[h]) w := by kernel_rfl
theorem As.methodImplements (h : Value) (w : World) : (Go.method 467 209 (.agg #[h]) "Implements").run Tryz.prog w = .ok (321, .agg #[h]) w := by kernel_rfl
theorem As.methodAssignableTo (h : Value) (w : World) : (Go.method 467 209 (.agg #[h]) "AssignableTo").run Tryz.prog w = .ok (318, .agg #[h]) w := by kernel_rfl
set_option maxRecDepth 100000 in
set_option maxHeartbeats 4000000 in
theorem as_hit (n:Int) (ta:Nat) (old:Value) (w:World) (hg:w.cell? ⟨0,0,none⟩=some (.iface 209 (.agg #[.pointer (some ⟨7,134,none⟩)]))) (ht:w.heap[ta]?=some (.cells #[old] 137 (0,0))) :
  Calls Tryz.prog 91 #[.iface 137 (.agg #[.int .i64 n]),.iface 139 (.pointer (some ⟨ta,0,none⟩))] w fun e w'=>e=.returned (.bool true)∧∃ W,Below w.heap.size w W∧w'=W.setCell ⟨ta,0,none⟩ (.int .i64 n):=by
 have h129:=@run_callFunc_extern Tryz.prog 129 _ (fun args=>ReflectliteValue.unpack (args.getD 0 (.tuple #[]))) Tryz.func129 (by kernel_rfl) (by kernel_rfl) (by kernel_rfl) (by kernel_rfl)
 have h130 := @run_callFunc_extern Tryz.prog 130 _ (ReflectliteValue.methodAny (ReflectliteValue.valueError "reflectlite.Value.Type" 0) (fun t _ _ _ => ReflectliteType.toType t)) Tryz.func130 (by kernel_rfl) (by kernel_rfl) (by kernel_rfl) (by kernel_rfl)
 have h131 := @run_callFunc_extern Tryz.prog 131 _ (ReflectliteValue.method (ReflectliteValue.valueError "reflectlite.Value.IsNil" 0) ReflectliteValue.isNil) Tryz.func131 (by kernel_rfl) (by kernel_rfl) (by kernel_rfl) (by kernel_rfl)
 have h304:=@run_callFunc_extern Tryz.prog 304 _ (ReflectliteType.abiMethod fun t=>do pure (.int .u8 (← Rtype.kind t))) Tryz.func304 (by kernel_rfl) (by kernel_rfl) (by kernel_rfl) (by kernel_rfl)
 have h320:=@run_callFunc_extern Tryz.prog 320 _ (ReflectliteType.method ReflectliteType.elem) Tryz.func320 (by kernel_rfl) (by kernel_rfl) (by kernel_rfl) (by kernel_rfl)
 have h321 := @run_callFunc_extern Tryz.prog 321 _ (ReflectliteType.relation "Implements" ReflectliteType.implements_) Tryz.func321 (by kernel_rfl) (by kernel_rfl) (by kernel_rfl) (by kernel_rfl)
 have h153:=@run_callFunc_extern Tryz.prog 153 _ ReflectliteType.typeOf Tryz.func153 (by kernel_rfl) (by kernel_rfl) (by kernel_rfl) (by kernel_rfl)
 have h318 := @run_callFunc_extern Tryz.prog 318 _ (ReflectliteType.relation "AssignableTo" ReflectliteType.assignableTo) Tryz.func318 (by kernel_rfl) (by kernel_rfl) (by kernel_rfl) (by kernel_rfl)
 have h154 := @run_callFunc_extern Tryz.prog 154 _ (ReflectliteValue.method (ReflectliteValue.valueError "reflectlite.Value.Elem" 0) ReflectliteValue.elem) Tryz.func154 (by kernel_rfl) (by kernel_rfl) (by kernel_rfl) (by kernel_rfl)
 have h155:=@run_callFunc_extern Tryz.prog 155 _ ReflectliteValue.set Tryz.func155 (by kernel_rfl) (by kernel_rfl) (by kernel_rfl) (by kernel_rfl)
 have tO:=As.typeOf137
 have mA:=As.methodAssignableTo
 have a25:=As.assignable137
 have v25:=As.valueOf137
 have f6:=As.valueOf139
 have f7:=As.type139
 have mK:=As.methodKind
 have mE:=As.methodElem
 have mI:=As.methodImplements
 have k27:=As.kind139
 have k25:=As.kind137
 have e27:=As.elem139
 have i25:=As.implements137
 have htl:=blk_lt ht
 have hlt:0 < w.heap.size:=by omega
 obtain ⟨V,hV⟩:∃ V:Obj,V=.cells #[.pointer (some ⟨7,139,none⟩),.pointer (some ⟨w.heap.size,0,none⟩),.int .u64 150] 183:=⟨_,rfl⟩
 have n8:=As.isNil139 ⟨w.heap.size,0,none⟩ ⟨ta,0,none⟩ ((w.alloc (.cells #[.pointer (some ⟨ta,0,none⟩)] 139)).alloc (.cells #[.pointer (some ⟨7,139,none⟩),.pointer (some ⟨w.heap.size,0,none⟩),.int .u64 150] 183)) (by simp)
 have hg2:((w.alloc (.cells #[.pointer (some ⟨ta,0,none⟩)] 139)).alloc (.cells #[.pointer (some ⟨7,139,none⟩),.pointer (some ⟨w.heap.size,0,none⟩),.int .u64 150] 183)).cell? ⟨0,0,none⟩=some (.iface 209 (.agg #[.pointer (some ⟨7,134,none⟩)])):=by
  rw [World.cell?_alloc_lt _ _ ⟨0,0,none⟩ (by simp),World.cell?_alloc_lt _ _ ⟨0,0,none⟩ hlt];exact hg
 have el:=As.elemV139 ⟨w.heap.size,0,none⟩ ⟨ta,0,none⟩ (((w.alloc (.cells #[.pointer (some ⟨ta,0,none⟩)] 139)).alloc (.cells #[.pointer (some ⟨7,139,none⟩),.pointer (some ⟨w.heap.size,0,none⟩),.int .u64 150] 183)).alloc (.cells #[.pointer (some ⟨7,139,none⟩),.pointer (some ⟨w.heap.size,0,none⟩),.int .u64 150] 183)) (by rw [World.cell?_alloc_lt _ _ ⟨w.heap.size,0,none⟩ (by simp;omega)];simp)
 have st:=As.set137 ta (w.heap.size+1+1+1) n #[] old 0 ((((w.alloc (.cells #[.pointer (some ⟨ta,0,none⟩)] 139)).alloc (.cells #[.pointer (some ⟨7,139,none⟩),.pointer (some ⟨w.heap.size,0,none⟩),.int .u64 150] 183)).alloc (.cells #[.pointer (some ⟨7,139,none⟩),.pointer (some ⟨w.heap.size,0,none⟩),.int .u64 150] 183)).alloc (.cells #[.int .i64 n] 137))
  (alloc_at _ _ _ (by simp))
  ((Below.heap_alloc _ _ _ (by simp;omega)).trans ((Below.heap_alloc _ _ _ (by simp;omega)).trans ((Below.heap_alloc _ _ _ (by simp;omega)).trans ((Below.heap_alloc _ _ _ htl).trans ht))))
 go_enter Tryz.func91,Tryz.ntmps91
 go_wp2
 refine wp_loop_rounds 1 ?_
 rw [rounds_succ]
 go_wp2
 go_ret
 exact ⟨rfl,_,((((Below.refl _ w).alloc (Nat.le_refl _) _).alloc (by simp) _).alloc (by simp;omega) _).alloc (by simp;omega) _,rfl⟩
end Go.Proofs.YtjaobihcdkjmbaaGreatDoor
end
section
namespace Go.Proofs.YtjaobihcdkjmbaaGreatDoor
open Go.RowKit Go.Proofs.YtjaobihcdkjmbaaGreatDoorW.PrintWords Go.Proofs.YtjaobihcdkjmbaaGreatDoor.PReadTokens
theorem as137_134 (v:Value) (w:World):(Instr.typeAssert (.iface 137 v) 20 134 true).run Tryz.prog w=.ok (.tuple #[.iface 137 v,.bool true]) w:=run_typeAssert_hasB Tryz.underlying134 (by kernel_rfl) v 20 w
theorem asNil_134 (w:World):(Instr.typeAssert .nilIface 20 134 true).run Tryz.prog w=.ok (.tuple #[.nilIface,.bool false]) w:=by kernel_rfl
set_option maxHeartbeats 1000000 in
theorem catch_idle (p:Addr) (w:World) :
  CallsD Tryz.prog 90 #[.pointer (some p)] .returning w fun e u' w'=>e=.returned (.tuple #[])∧u'=.returning∧w'=w:=by
 have hta:=asNil_134
 refine callsD_of_wpS Tryz.func90 rfl fun c₀ cs hu=>?_
 apply wpS_seq
 apply wpS_region
 simp [wpOpsS,go_sem,recoverD,hu,Tryz.ntmps90,Exit.thenS,hta]
 refine wpS_of_wp ?_
 simp only [Array.replicate_succ,Array.replicate_zero,List.push_toArray,List.append_toArray,List.nil_append,List.cons_append,List.setIfInBounds_toArray,List.set_cons_zero,List.set_cons_succ]
 go_wp2
 cases c₀
 simp_all [bodyPostS,results,Tryz.results90,Exit.thenS]
set_option maxHeartbeats 1000000 in
theorem catch_panicking (p:Nat) (n:Int) (old:Value) (older:List PanicEntry) (w:World) (hp:w.heap[p]?=some (.cells #[old] 3 (0,0))) (hg:w.cell? ⟨0,0,none⟩=some (.iface 209 (.agg #[.pointer (some ⟨7,134,none⟩)]))) :
  CallsD Tryz.prog 90 #[.pointer (some ⟨p,0,none⟩)] (.panicking ({ v:=.iface 137 (.agg #[.int .i64 n]),recovered:=false } :: older)) w fun e u' w' =>
   e=.returned (.tuple #[])∧u'=.panicking ({ v:=.iface 137 (.agg #[.int .i64 n]),recovered:=true } :: older)∧w'.heap[p]?=some (.cells #[.int .i64 n] 3 (0,0))∧w.grownBy w' (some p):=by
 have hta:=as137_134
 refine callsD_of_wpS Tryz.func90 rfl fun c₀ cs hu=>?_
 apply wpS_seq
 apply wpS_region
 simp [wpOpsS,go_sem,recoverD,hu,Tryz.ntmps90,Exit.thenS,hta]
 refine wpS_of_wp ?_
 simp only [Array.replicate_succ,Array.replicate_zero,List.push_toArray,List.append_toArray,List.nil_append,List.cons_append,List.setIfInBounds_toArray,List.set_cons_zero,List.set_cons_succ]
 have hpl:=blk_lt hp
 have hh:=as_hit n w.heap.size (.int .i64 0) (w.alloc (.cells #[.int .i64 0] 137)) ((World.cell?_alloc_lt _ _ ⟨0,0,none⟩ (by simp only;omega)).trans hg) (blk_new _ _)
 go_wp2_with fail
 refine hh.mono ?_
 rintro e w2 ⟨rfl,W,hb,rfl⟩
 have hs2:=bcell hb (blk_new w (.cells #[.int .i64 0] 137))
 have hs3:=blk_set hs2 0 (.int .i64 n)
 have hp2:=(Below.heap_setCell W ⟨w.heap.size,0,none⟩ (.int .i64 n) p (by simp only;omega)).trans (bcell hb ((Below.heap_alloc _ _ _ hpl).trans hp))
 have c1:=blk_cell hs3 0
 have c2:=blk_cell hp2 0
 have f2:=blk_frozen hp2 0
 have hfin:=blk_set hp2 0 (.int .i64 n)
 have hgr:w.grownBy (((W.setCell ⟨w.heap.size,0,none⟩ (.int .i64 n))).setCell ⟨p,0,none⟩ (.int .i64 n)) (some p) :=
  Lib.grownBy_trans (Lib.grownBy_below (World.grownBy.refl _ _) ((((Below.refl _ w).alloc (Nat.le_refl _) (.cells #[.int .i64 0] 137)).trans (hb.mono (by simp))).setCell (p:=⟨w.heap.size,0,none⟩) (Nat.le_refl _) _)) (Lib.grownBy_setCell _ _ _ _)
 go_wp2
 have hfin':((W.setCell ⟨w.heap.size,0,none⟩ (.int .i64 n)).setCell ⟨p,0,none⟩ (.int .i64 n)).heap[p]?=some (.cells #[.int .i64 n] 3 (0,0)):=hfin
 generalize (W.setCell ⟨w.heap.size,0,none⟩ (.int .i64 n)).setCell ⟨p,0,none⟩ (.int .i64 n)=WW at *
 simp [bodyPostS,results,Tryz.results90,hfin',hgr]
set_option maxHeartbeats 1000000 in
theorem newReader_calls (s:ByteArray) (hs:s.size≤2000) (w:World):Calls Tryz.prog 92 #[.string s] w fun e w' =>
  ∃ R,e=.returned (.pointer (some ⟨R,0,none⟩))∧w.heap.size≤R∧Rdr w' R (allToks s) 0 s.size∧Below w.heap.size w w':=by
 have hq:=newQueue_calls s hs w
 have hmf:∀ (fn:Fn) (first cap:Array Value) (w:World),(Instr.makeFunc fn first cap).run Tryz.prog w=.ok (.func fn first cap) w:=fun _ _ _ _=>rfl
 go_enter Tryz.func92,Tryz.ntmps92
 go_wp2_with fail
 refine hq.mono ?_
 rintro e w1 ⟨v,rfl,ho,hb⟩
 obtain ⟨A,c,rfl⟩:=own_slice ho
 have hn:=blk_new w1 (.cells #[.slice A (allToks s).length c,.int .i64 0,.int .i64 s.size,.func (.func 134) #[] #[],.nilFunc] 97)
 have cc:(w1.alloc (.cells #[.slice A (allToks s).length c,.int .i64 0,.int .i64 s.size,.func (.func 134) #[] #[],.nilFunc] 97)).cell? ⟨w1.heap.size,4,none⟩=some .nilFunc:=blk_cell hn 4
 have ff:=blk_frozen hn 4
 have hst:(store ⟨w1.heap.size,4,none⟩ (.func (.func 135) #[.pointer (some ⟨w1.heap.size,0,none⟩)] #[])).run Tryz.prog (w1.alloc (.cells #[.slice A (allToks s).length c,.int .i64 0,.int .i64 s.size,.func (.func 134) #[] #[],.nilFunc] 97))=.ok () ((w1.alloc (.cells #[.slice A (allToks s).length c,.int .i64 0,.int .i64 s.size,.func (.func 134) #[] #[],.nilFunc] 97)).setCell ⟨w1.heap.size,4,none⟩ (.func (.func 135) #[.pointer (some ⟨w1.heap.size,0,none⟩)] #[])):=by
  rw [run_store Tryz.prog _ _ _ _ (by rfl)]
  rw [cc,ff]
  rfl
 go_wp2
 go_ret
 exact ⟨_,rfl,hb.size,⟨.slice A (allToks s).length c,w.heap.size,blk_new w1 _,pw_own_below ho ((Below.refl _ w1).alloc (Nat.le_refl _) _)⟩,hb.alloc hb.size _⟩
end Go.Proofs.YtjaobihcdkjmbaaGreatDoor
end
section
namespace Go.Proofs.YtjaobihcdkjmbaaGreatDoor
open Go.RowKit Go.Proofs.YtjaobihcdkjmbaaGreatDoorW.PrintWords Go.Proofs.YtjaobihcdkjmbaaGreatDoor.PReadTokens
theorem list0_calls (R:Nat) (ts:List S47) (now en:Nat) (w:World) (h:Rdr w R ts now en) :
  ∃ A c,Calls Tryz.prog 94 #[.pointer (some ⟨R,0,none⟩)] w fun e w'=>e=.returned (.slice A ts.length c)∧w'=w:=by
 obtain ⟨v,base,h1,h2⟩:=h.out
 obtain ⟨A,c,rfl⟩:=own_slice h2
 have d0:w.cell? ⟨R,0,none⟩=some (.slice A ts.length c):=blk_cell h1 0
 have hRl:=blk_lt h1
 clear h h1 h2
 refine ⟨A,c,?_⟩
 go_enter Tryz.func94,Tryz.ntmps94
 go_wp2
 go_ret
 exact ⟨rfl,rfl⟩
def parseS (chk:S28→Int) (s:ByteArray):PR:=exprS (allToks s) s.size chk ((allToks s).length+1) 0
def placeS (chk:S28→Int) (s:ByteArray):Int :=
 match parseS chk s with
 | .error p=>p
 | .ok (_,n)=>if n=(allToks s).length then -1 else (tokP (allToks s) s.size n).f2
structure Readable (chk:S28→Int) (s:ByteArray):Prop where
 size:s.size≤2000
 few:(allToks s).length≤100000
 small:∀ t ∈ allToks s,t.f1.size≤2000
 pars:∀ W0 R B,Env W0 R B (allToks s)→Pars W0 R B (allToks s) s.size 134 (exprS (allToks s) s.size chk ((allToks s).length+1)) 0
def exC (x:S31) (v5:Value):Array Value:=#[.int .i64 x.f0,.string x.f1.f0,.string x.f1.f1,.string x.f2,.int .i64 x.f3,v5]
def Post56 (w:World) (R X:Nat) (ts:List S47) (en:Nat):PR→Ending→World→Prop
 | .ok (x,n),e,w'=>n≤ts.length∧e=.returned (.tuple #[])∧∃ v5 w5,Took w R ts n en w5∧Ex w5 (From w.heap.size) x (exV x v5) ∧
   w'=set6 w5 X (.int .i64 x.f0) (.string x.f1.f0) (.string x.f1.f1) (.string x.f2) (.int .i64 x.f3) v5
 | .error p,e,w'=>e=stuckAt p∧w.grownBy w' (some R)
set_option maxHeartbeats 1000000 in
theorem do56 (R X:Nat) (ts:List S47) (now en:Nat) (w:World) (h:Rdr w R ts now en) (r:PR) {x0 x1 x2 x3 x4 x5:Value} (hX:w.heap[X]?=some (.cells #[x0,x1,x2,x3,x4,x5] 31 (0,0))) (hne:X≠R)
  (hc:Calls Tryz.prog 134 #[.pointer (some ⟨R,0,none⟩)] w (ExPost w R ts en now r)) :
  Calls Tryz.prog 56 #[.pointer (some ⟨R,0,none⟩),.pointer (some ⟨X,0,none⟩)] w (Post56 w R X ts en r):=by
 obtain ⟨v,base,h1,h2⟩:=h.out
 have d3:w.cell? ⟨R,3,none⟩=some (.func (.func 134) #[] #[]):=blk_cell h1 3
 have hRl:=blk_lt h1
 clear h h1 h2
 cases r with
 | error p =>
  unfold ExPost stuckAt at hc
  go_enter Tryz.func56,Tryz.ntmps56
  go_wp2_with (go_at_call 134;refine hc.mono ?_;rintro e w1 ⟨rfl,hg⟩)
  exact ⟨rfl,rfl,hg⟩
 | ok r =>
  obtain ⟨x,n⟩:=r
  unfold ExPost at hc
  go_enter Tryz.func56,Tryz.ntmps56
  go_wp2_with fail
  refine hc.mono ?_
  rintro e w5 ⟨hn1,hn2,v,rfl,hx,hk⟩
  obtain ⟨v5,A5,n5,c5,rfl,rfl,_,_⟩:=hx.cells
  have hX5:=hk.blk hX hne
  obtain ⟨⟨q0,q1,q2,q3,q4,q5⟩,⟨f0,f1,f2,f3,f4,f5⟩,xl⟩:=cells6 hX5
  have Hx:=Lib.hid hx
  unfold exV
  clear hx
  go_wp2
  refine bodyPost_end (results_none rfl _ _ _) rfl ⟨hn2,rfl,_,w5,hk,Hx.out,rfl⟩
structure Start (W:World):Prop where
 laid:Laid W
 err:W.cell? ⟨0,0,none⟩=some (.iface 209 (.agg #[.pointer (some ⟨7,134,none⟩)]))
theorem Start.below {W w:World} (h:Start W) (hb:Below W.heap.size W w):Start w:=⟨h.laid.below hb,pw_cell_below hb h.err⟩
theorem grown_any {w w':World} {R:Nat} (k:Option Nat) (h:w.grownBy w' (some R)) (hR:w.heap.size≤R):w.grownBy w' k :=
 ⟨h.os,h.tape,h.output,h.size,fun j hj _=>h.block j hj (fun e=>by injection e with e;omega)⟩
theorem grown_set {w w':World} {k:Option Nat} (h:w.grownBy w' k) (p:Addr) (hp:w.heap.size≤p.block) (v:Value):w.grownBy (w'.setCell p v) k :=
 ⟨h.os,h.tape,h.output,by rw [World.size_setCell];exact h.size,fun j hj hn=>(Below.heap_setCell _ _ _ _ (by omega)).trans (h.block j hj hn)⟩
theorem cell_grown {w w':World} {R:Nat} (h:w.grownBy w' (some R)) {a:Addr} {v:Value} (hc:w.cell? a=some v) (hne:a.block≠R):w'.cell? a=some v :=
 by
 have:=h.block a.block (World.block_lt_of_cell? w a hc) (fun e=>by injection e with e;exact hne e)
 simpa [World.cell?,this] using hc
theorem Rdr.set6 {w:World} {R:Nat} {ts:List S47} {now en:Nat} (h:Rdr w R ts now en) {X:Nat} {x0 x1 x2 x3 x4 x5:Value} (hX:w.heap[X]?=some (.cells #[x0,x1,x2,x3,x4,x5] 31 (0,0))) (hne:X≠R) (v0 v1 v2 v3 v4 v5:Value):Rdr (set6 w X v0 v1 v2 v3 v4 v5) R ts now en :=
 (((((h.far hX hne 0 v0).far (blk_set hX 0 v0) hne 1 v1).far (blk_set (blk_set hX 0 v0) 1 v1) hne 2 v2).far (blk_set (blk_set (blk_set hX 0 v0) 1 v1) 2 v2) hne 3 v3).far (blk_set (blk_set (blk_set (blk_set hX 0 v0) 1 v1) 2 v2) 3 v3) hne 4 v4).far (blk_set (blk_set (blk_set (blk_set (blk_set hX 0 v0) 1 v1) 2 v2) 3 v3) 4 v4) hne 5 v5
def WholePost (chk:S28→Int) (s:ByteArray) (X:Nat) (w:World) (e:Ending) (w':World):Prop :=
 e=.returned (.int .i64 (placeS chk s))∧w.grownBy w' (some X) ∧
  ∀ x,parseS chk s=.ok (x,(allToks s).length)→∃ v5,w'.heap[X]?=some (.cells (exC x v5) 31 (0,0))∧Ex w' (From w.heap.size) x (exV x v5)
set_option maxRecDepth 100000 in
set_option maxHeartbeats 4000000 in
theorem whole_calls (chk:S28→Int) (s:ByteArray) (h:Readable chk s) (X:Nat) (w:World) (hS:Start w) (hX0:X≠0) {x0 x1 x2 x3 x4 x5:Value} (hX:w.heap[X]?=some (.cells #[x0,x1,x2,x3,x4,x5] 31 (0,0))) :
  Calls Tryz.prog 55 #[.string s,.func (.func 56) #[] #[.pointer (some ⟨X,0,none⟩)]] w (WholePost chk s X w):=by
 have hXl:=blk_lt hX
 have hmf:∀ (fn:Fn) (first cap:Array Value) (w:World),(Instr.makeFunc fn first cap).run Tryz.prog w=.ok (.func fn first cap) w:=fun _ _ _ _=>rfl
 have hb0:Below w.heap.size w (w.alloc (.cells #[.int .i64 0] 3)):=(Below.refl _ w).alloc (Nat.le_refl _) _
 have hnr:=newReader_calls s h.size (w.alloc (.cells #[.int .i64 0] 3))
 have h0:(w.alloc (.cells #[.int .i64 0] 3)).heap[w.heap.size]?=some (.cells #[.int .i64 0] 3 (0,0)):=blk_new w _
 go_enter_defers Tryz.func55,Tryz.ntmps55
 go_wp2_with fail
 refine hnr.mono ?_
 rintro e w1 ⟨R,rfl,hR,hrd,hb1⟩
 have hR':=hR
 simp only [World.size_alloc] at hR
 have hX1:w1.heap[X]?=some (.cells #[x0,x1,x2,x3,x4,x5] 31 (0,0)):=bcell hb1 ((Below.heap_alloc _ _ _ hXl).trans hX)
 have hs1:w1.heap[w.heap.size]?=some (.cells #[.int .i64 0] 3 (0,0)):=bcell hb1 h0
 have hw1:Below w.heap.size w w1:=hb0.trans (hb1.mono (by simp))
 have hXR:X≠R:=by omega
 have hE:Env (w.alloc (.cells #[.int .i64 0] 3)) R w1.heap.size (allToks s):=⟨hS.laid.below hb0,hR',hrd.lt,h.few,h.small⟩
 have hp:=h.pars _ R _ hE 0 w1 (Nat.le_refl _) ⟨hrd,hb1,Nat.le_refl _,Nat.zero_le _⟩
 have h56:=do56 R X (allToks s) 0 s.size w1 hrd _ hX1 hXR hp
 have hfew:=h.few
 have herr:=hS.err
 change Calls _ _ _ _ (Post56 w1 R X (allToks s) s.size (parseS chk s)) at h56
 have hq:∃ q,q=placeS chk s:=⟨_,rfl⟩
 unfold placeS at hq
 cases hr:parseS chk s with
 | error p =>
  rw [hr] at h56 hq
  obtain ⟨q,hq⟩:=hq
  unfold Post56 stuckAt at h56
  clear hE hp h
  go_wp2_with fail
  refine h56.mono ?_
  rintro e w2 ⟨rfl,hg2⟩
  have hw2:w.grownBy w2 (some R):=Lib.grownBy_trans (Lib.grownBy_below (World.grownBy.refl _ _) hw1) hg2
  have hs2:=grown_blk hg2 hs1 (by omega)
  have hX2:=grown_blk hg2 hX1 hXR
  have hc2:w2.cell? ⟨0,0,none⟩=some (.iface 209 (.agg #[.pointer (some ⟨7,134,none⟩)])):=pw_cell_below (hw1.grown hg2 hw1.size (fun j e=>by injection e with e;omega)) herr
  go_wp2
  refine leaves_cons (f:=90) (args:=#[.pointer (some ⟨w.heap.size,0,none⟩)]) (by simp) (by simp [go_sem]) ?_
  refine (catch_panicking w.heap.size p (.int .i64 0) [] w2 hs2 hc2).mono ?_
  rintro e u w3 ⟨rfl,rfl,hs3,hg3⟩
  have c4:w3.cell? ⟨w.heap.size,0,none⟩=some (.int .i64 p):=blk_cell hs3 0
  have hfin:WholePost chk s X w (.returned (.int .i64 p)) w3:=by
   refine ⟨?_,?_,?_⟩
   ·unfold placeS;rw [hr]
   ·exact grown_any _ (Lib.grownBy_trans (grown_any _ hw2 (by omega)) hg3) (Nat.le_refl _)
   ·intro x hx;rw [hr] at hx;cases hx
  simp [Leaves,settle,results,Tryz.results55,go_sem,c4,hfin]
 | ok r =>
  obtain ⟨x,n⟩:=r
  rw [hr] at h56 hq
  obtain ⟨q,hq⟩:=hq
  unfold Post56 at h56
  clear hE hp h
  go_wp2_with fail
  refine h56.mono ?_
  rintro e w2 ⟨hn,rfl,v5,w5,hk,hx,rfl⟩
  have hX5:=hk.blk hX1 hXR
  have hrd3:=hk.rdr.set6 hX5 hXR (.int .i64 x.f0) (.string x.f1.f0) (.string x.f1.f1) (.string x.f2) (.int .i64 x.f3) v5
  have hX3:=fin6 (.int .i64 x.f0) (.string x.f1.f0) (.string x.f1.f1) (.string x.f2) (.int .i64 x.f3) v5 hX5
  have hws:w.heap.size < w1.heap.size:=blk_lt hs1
  have hx3:=hx.set6 (R:=X) (fun k hk e=>by have:w1.heap.size≤k:=hk;omega) (.int .i64 x.f0) (.string x.f1.f0) (.string x.f1.f1) (.string x.f2) (.int .i64 x.f3) v5
  have hg3:w.grownBy (set6 w5 X (.int .i64 x.f0) (.string x.f1.f0) (.string x.f1.f1) (.string x.f2) (.int .i64 x.f3) v5) (some X) :=
   Lib.grownBy_trans (grown_any _ (Lib.grownBy_trans (Lib.grownBy_below (World.grownBy.refl _ _) hw1) hk.grown) (by omega)) (grown6 _ _ _ _ _ _ _)
  have hs3:(set6 w5 X (.int .i64 x.f0) (.string x.f1.f0) (.string x.f1.f1) (.string x.f2) (.int .i64 x.f3) v5).heap[w.heap.size]?=some (.cells #[.int .i64 0] 3 (0,0)) :=
   grown_blk (grown6 X _ _ _ _ _ _) (hk.blk hs1 (by omega)) (by omega)
  have hsz3:w.heap.size < (set6 w5 X (.int .i64 x.f0) (.string x.f1.f0) (.string x.f1.f1) (.string x.f2) (.int .i64 x.f3) v5).heap.size:=blk_lt hs3
  generalize set6 w5 X (.int .i64 x.f0) (.string x.f1.f0) (.string x.f1.f1) (.string x.f2) (.int .i64 x.f3) v5=w3 at *
  have hc3:=cell_grown hg3 herr (fun e=>hX0 e.symm)
  obtain ⟨d0,g0,d1,d2,hlt3⟩:=hrd3.cells
  have hrd4:Rdr w3.drew R (allToks s) n s.size:=hrd3.keep (Below.refl _ w3).drew
  obtain ⟨A,c,hl0⟩:=list0_calls R _ _ _ w3.drew hrd4
  have hs4:w3.drew.heap[w.heap.size]?=some (.cells #[.int .i64 0] 3 (0,0)):=bcell (Below.refl _ w3).drew hs3
  have hg4:w.grownBy w3.drew (some X):=Lib.grownBy_below hg3 (Below.refl _ w3).drew
  have hX4:=bcell (Below.refl _ w3).drew hX3
  have hx4:=hx3.below (Below.refl _ w3).drew
  have hc4:=pw_cell_below (Below.refl _ w3).drew hc3
  by_cases hnl:n=(allToks s).length
  ·rw [if_pos hnl] at hq
   subst hnl
   have heq:(((allToks s).length:Int) == (allToks s).length)=true:=by rw [beq_iff_eq]
   have hs5:=blk_set hs4 0 (.int .i64 (-1))
   have hf4:=blk_frozen hs4 0
   have hf3:=blk_frozen hs3 0
   have hcc3:=blk_cell hs3 0
   have hfin:WholePost chk s X w (.returned (.int .i64 (-1))) (w3.setCell ⟨w.heap.size,0,none⟩ (.int .i64 (-1))).drew:=by
    refine ⟨?_,?_,?_⟩
    ·unfold placeS;rw [hr];simp
    ·exact Lib.grownBy_below (grown_set hg3 ⟨w.heap.size,0,none⟩ (Nat.le_refl _) _) (Below.refl _ _).drew
    ·intro x' hx'
     rw [hr] at hx'
     injection hx' with hx'
     injection hx' with hx' _
     subst hx'
     refine ⟨v5,bcell (Below.refl _ _).drew ((Below.heap_setCell _ _ _ _ (by simp;omega)).trans hX3),Ex.mono (Ex.below (Ex.step hx3 (fun k hk hlt=>?_)) (Below.refl _ _).drew) (fun k hk=>Nat.le_trans (Nat.le_of_lt hws) hk)⟩
     exact Below.heap_setCell _ _ _ _ (by have:w1.heap.size≤k:=hk;simp;omega)
   go_wp2_with fail
   go_still_tail 12,(by kernel_rfl)
   still_call hl0
   repeat still_step
   try refine wpStill_nil ?_
   change wpList _ _ _ _ _ w3.drew
   go_wp2_with (go_at_call 93;refine (must_true R _).mono ?_;rintro e w6 ⟨rfl,rfl⟩)
   have c4:(w3.setCell ⟨w.heap.size,0,none⟩ (.int .i64 (-1))).drew.cell? ⟨w.heap.size,0,none⟩=some (.int .i64 (-1)):=by
    have:=blk_cell (bcell (Below.refl _ _).drew (blk_set hs3 0 (.int .i64 (-1)))) 0
    exact this
   generalize (w3.setCell ⟨w.heap.size,0,none⟩ (.int .i64 (-1))).drew=w9 at *
   refine leaves_cons (f:=90) (args:=#[.pointer (some ⟨w.heap.size,0,none⟩)]) (by simp) (by simp [go_sem]) ?_
   refine (catch_idle ⟨w.heap.size,0,none⟩ w9).mono ?_
   rintro e u w6 ⟨rfl,rfl,rfl⟩
   simp [Leaves,settle,results,Tryz.results55,go_sem,c4,hfin]
  ·rw [if_neg hnl] at hq
   have heq:((n:Int) == (allToks s).length)=false:=by rw [beq_eq_false_iff_ne];omega
   have hmust:=must_false R _ _ _ w3.drew hrd4 hn
   rw [← hq] at hmust
   unfold stuckAt at hmust
   go_wp2_with fail
   go_still_tail 12,(by kernel_rfl)
   still_call hl0
   repeat still_step
   try refine wpStill_nil ?_
   change wpList _ _ _ _ _ w3.drew
   go_wp2_with (go_at_call 93;refine hmust.mono ?_;rintro e w6 ⟨rfl,hb6⟩)
   have hs6:=bcell hb6 hs4
   have hc6:=pw_cell_below hb6 hc4
   refine leaves_cons (f:=90) (args:=#[.pointer (some ⟨w.heap.size,0,none⟩)]) (by simp) (by simp [go_sem]) ?_
   refine (catch_panicking w.heap.size (tokP (allToks s) s.size n).f2 (.int .i64 0) [] w6 hs6 hc6).mono ?_
   rintro e u w7 ⟨rfl,rfl,hs7,hg7⟩
   have c4:w7.cell? ⟨w.heap.size,0,none⟩=some (.int .i64 (tokP (allToks s) s.size n).f2):=blk_cell hs7 0
   have hfin:WholePost chk s X w (.returned (.int .i64 (tokP (allToks s) s.size n).f2)) w7:=by
    refine ⟨?_,?_,?_⟩
    ·unfold placeS;rw [hr];simp only [if_neg hnl]
    ·have h6:=Lib.grownBy_below hg4 hb6
     exact ⟨hg7.os.trans h6.os,hg7.tape.trans h6.tape,hg7.output.trans h6.output,Nat.le_trans h6.size hg7.size,fun j hj hne=>(hg7.block j (Nat.lt_of_lt_of_le hj h6.size) (fun e=>by injection e with e;omega)).trans (h6.block j hj hne)⟩
    ·intro x' hx'
     rw [hr] at hx'
     injection hx' with hx'
     injection hx' with _ hx'
     exact absurd hx' hnl
   simp [Leaves,settle,results,Tryz.results55,go_sem,c4,hfin]
end Go.Proofs.YtjaobihcdkjmbaaGreatDoor
end
section
namespace Go.Proofs.YtjaobihcdkjmbaaGreatDoor
open Go.RowKit Go.Proofs.YtjaobihcdkjmbaaGreatDoorW.PrintWords Go.Proofs.YtjaobihcdkjmbaaGreatDoor.PReadTokens
theorem field100_1 (a b:Int) (w:World):(Instr.field 100 (.agg #[.int .i64 a,.int .i64 b]) 1).run Tryz.prog w=.ok (.int .i64 b) w:=by kernel_rfl
def readS (chk:S28→Int) (s:ByteArray):S31 × Int × Int :=
 if 0≤placeS chk s then (z31,placeS chk s,1)
 else match parseS chk s with
  | .ok (x,_)=>if 30 < depthX x then (z31,0,7) else (x,0,0)
  | .error _=>(z31,0,0)
def ReadPost (chk:S28→Int) (s:ByteArray) (w:World) (e:Ending) (w':World):Prop :=
 ∃ v5,e=.returned (.tuple #[exV (readS chk s).1 v5,.int .i64 (readS chk s).2.1,.int .i64 (readS chk s).2.2])∧Ex w' (From w.heap.size) (readS chk s).1 (exV (readS chk s).1 v5)∧Below w.heap.size w w'
set_option maxRecDepth 100000 in
set_option maxHeartbeats 4000000 in
theorem ReadExpr_calls (chk:S28→Int) (s:ByteArray) (h:Readable chk s) (w:World) (hS:Start w) (hpl:placeS chk s < 0→∃ x,parseS chk s=.ok (x,(allToks s).length)∧nodesX x≤4611686018427387904) :
  Calls Tryz.prog 18 #[.string s] w (ReadPost chk s w):=by
 have hbig:decide (2000 < (s.size:Int))=false:=by rw [decide_eq_false_iff_not];have:=h.size;omega
 have hw:=fun X w hS hX0 x0 x1 x2 x3 x4 x5 hX=>whole_calls chk s h X w hS hX0 (x0:=x0) (x1:=x1) (x2:=x2) (x3:=x3) (x4:=x4) (x5:=x5) hX
 have hb0:Below w.heap.size w ((w.alloc zO).alloc zO):=((Below.refl _ w).alloc (Nat.le_refl _) _).alloc (by simp) _
 have h0:((w.alloc zO).alloc zO).heap[w.heap.size]?=some zO:=(Below.heap_alloc _ _ _ (by simp)).trans (blk_new w _)
 have h1:((w.alloc zO).alloc zO).heap[w.heap.size+1]?=some zO:=by have:=blk_new (w.alloc zO) zO;rwa [World.size_alloc] at this
 have hpos:0 < w.heap.size:=by have:=World.block_lt_of_cell? w _ hS.err;simpa using this
 have hmf:∀ (fn:Fn) (first cap:Array Value) (w:World),(Instr.makeFunc fn first cap).run Tryz.prog w=.ok (.func fn first cap) w:=fun _ _ _ _=>rfl
 have hw1:=hw (w.heap.size+1) _ (hS.below hb0) (by omega) _ _ _ _ _ _ h1
 unfold WholePost at hw1
 unfold zO at hw1 h0 h1 hb0
 obtain ⟨q,hq⟩:∃ q,q=placeS chk s:=⟨_,rfl⟩
 rw [← hq] at hw1 hpl
 have HQ:=Lib.hid hq
 have HS:=Lib.hid hS
 clear hq hw h hS
 by_cases hp:0≤q
 ·have hp':decide (0≤q)=true:=decide_eq_true hp
  go_enter Tryz.func18,Tryz.ntmps18
  go_wp2_with fail
  refine hw1.mono ?_
  rintro e w2 ⟨rfl,hg2,_⟩
  have hb2:=hb0.grown hg2 hb0.size (fun j e=>by injection e with e;omega)
  have r2:=grown_blk hg2 h0 (by omega)
  obtain ⟨⟨c0,c1,c2,c3,c4,c5⟩,⟨f0,f1,f2,f3,f4,f5⟩,rl⟩:=cells6 r2
  go_wp2
  have hr:readS chk s=(z31,q,1):=by unfold readS;rw [← HQ.out,if_pos hp]
  refine bodyPost_ret (results_ctt rfl _ _ w.heap.size 31 _ (0,0) _ rfl (fin6 _ _ _ _ _ _ r2) Tryz.underlying31 rfl size31) rfl ?_
  unfold ReadPost
  rw [hr]
  exact ⟨_,rfl,Ex.leaf _ rfl,below6 hb2 (Nat.le_refl _) _ _ _ _ _ _⟩
 ·have hp':decide (0≤q)=false:=decide_eq_false hp
  obtain ⟨x,hx,hnx⟩:=hpl (by omega)
  go_enter Tryz.func18,Tryz.ntmps18
  go_wp2_with fail
  refine hw1.mono ?_
  rintro e w2 ⟨rfl,hg2,hx2⟩
  obtain ⟨v5,hX2,hE⟩:=hx2 x hx
  have hb2:=hb0.grown hg2 hb0.size (fun j e=>by injection e with e;omega)
  have r2:=grown_blk hg2 h0 (by omega)
  unfold exC at hX2
  obtain ⟨⟨q0,q1,q2,q3,q4,q5⟩,_,xl⟩:=cells6 hX2
  have hdp:=deep_calls (depthX x) x (Nat.le_refl _) hnx (exV x v5) w2 hE.vw
  unfold exV at hdp
  obtain ⟨A5,n5,c5,rfl⟩:∃ A n c,v5=.slice A n c:=by
   obtain ⟨v,A,n,c,h1,rfl,_⟩:=hE.cells
   unfold exV at h1
   injection h1 with h1
   simp at h1
   exact ⟨A,n,c,h1⟩
  have HE:=Lib.hid hE
  have hpR:parseS chk s=.ok (x,(allToks s).length):=hx
  have HX:=Lib.hid hX2
  clear hE hx2 hX2
  go_wp2_with fail
  refine hdp.mono ?_
  rintro e w3 ⟨rfl,hb3⟩
  have hf:=field100_1 (nodesX x) (depthX x)
  have r3:=bcell hb3 r2
  have x3:=bcell hb3 HX.out
  have hE3:=HE.out.below hb3
  have hb4:=hb2.trans (hb3.mono hb2.size)
  obtain ⟨⟨c0,c1,c2,c3,c4,c5⟩,⟨f0,f1,f2,f3,f4,f5⟩,rl⟩:=cells6 r3
  by_cases hd:30 < depthX x
  ·have hd':decide (30 < (depthX x:Int))=true:=decide_eq_true (by omega)
   go_wp2
   have hr:readS chk s=(z31,0,7):=by unfold readS;rw [← HQ.out,if_neg (show ¬ 0≤q by omega),hpR];simp only [if_pos hd]
   refine bodyPost_ret (results_ctt rfl _ _ w.heap.size 31 _ (0,0) _ rfl (fin6 _ _ _ _ _ _ r3) Tryz.underlying31 rfl size31) rfl ?_
   unfold ReadPost
   rw [hr]
   exact ⟨_,rfl,Ex.leaf _ rfl,below6 hb4 (Nat.le_refl _) _ _ _ _ _ _⟩
  ·have hd':decide (30 < (depthX x:Int))=false:=decide_eq_false (by omega)
   obtain ⟨⟨y0,y1,y2,y3,y4,y5⟩,_,xl3⟩:=cells6 x3
   go_wp2
   have hr:readS chk s=(x,0,0):=by unfold readS;rw [← HQ.out,if_neg (show ¬ 0≤q by omega),hpR];simp only [if_neg hd]
   refine bodyPost_ret (results_ctt rfl _ _ w.heap.size 31 _ (0,0) _ rfl (fin6 _ _ _ _ _ _ r3) Tryz.underlying31 rfl size31) rfl ?_
   unfold ReadPost
   rw [hr]
   refine ⟨_,rfl,(hE3.set6 (R:=w.heap.size) (fun k hk e=>by have:((w.alloc _).alloc _).heap.size≤k:=hk;simp at this;omega) _ _ _ _ _ _).mono (fun k hk=>?_),below6 hb4 (Nat.le_refl _) _ _ _ _ _ _⟩
   have:((w.alloc _).alloc _).heap.size≤k:=hk
   simp at this
   show w.heap.size≤k
   omega
end Go.Proofs.YtjaobihcdkjmbaaGreatDoor
end
