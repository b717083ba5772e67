/- What can be read as an expression is printed as a text that reads as the same, and is printed as itself: for every argument; a part of its proof. -/
import Derived.Test.YtjaobihcdkjmbaaGreatDoorDa
import Derived.Test.YtjaobihcdkjmbaaGreatDoorDb
import Derived.Test.YtjaobihcdkjmbaaGreatDoorD0
import Derived.Test.YtjaobihcdkjmbaaGreatDoorD1
import Derived.Test.YtjaobihcdkjmbaaGreatDoorD7
import Derived.Test.YtjaobihcdkjmbaaGreatDoorD10
import Derived.Test.YtjaobihcdkjmbaaGreatDoorD11
import Derived.Test.YtjaobihcdkjmbaaGreatDoorD16
import Derived.Test.YtjaobihcdkjmbaaGreatDoorD17
import Derived.Test.YtjaobihcdkjmbaaGreatDoorD19
import Derived.Test.YtjaobihcdkjmbaaGreatDoorD20
import Derived.Test.YtjaobihcdkjmbaaGreatDoorD23
import Derived.Test.YtjaobihcdkjmbaaGreatDoorD26
set_option linter.unusedVariables false
set_option linter.unusedSimpArgs false
namespace Go.Proofs.YtjaobihcdkjmbaaGreatDoor.PReadTokens
end Go.Proofs.YtjaobihcdkjmbaaGreatDoor.PReadTokens
namespace Go.Proofs.YtjaobihcdkjmbaaGreatDoorW.PrintLast
end Go.Proofs.YtjaobihcdkjmbaaGreatDoorW.PrintLast
namespace Go.Proofs.YtjaobihcdkjmbaaGreatDoorW.PrintWords
end Go.Proofs.YtjaobihcdkjmbaaGreatDoorW.PrintWords
set_option maxRecDepth 100000
set_option maxHeartbeats 8000000
section
namespace Go.Proofs.YtjaobihcdkjmbaaGreatDoor
open Go.RowKit Go.Proofs.YtjaobihcdkjmbaaGreatDoorW.PrintWords Go.Proofs.YtjaobihcdkjmbaaGreatDoor.PReadTokens
abbrev tA:ByteArray:=⟨#[49,32,43,32,120,32,42,32,50]⟩
abbrev tB:ByteArray:=⟨#[102,40,97,41,91,105,93]⟩
abbrev tC:ByteArray:=⟨#[45,97,42,98,94,45,50]⟩
abbrev tD:ByteArray:=⟨#[97,45,40,98,45,99,41]⟩
abbrev tE:ByteArray:=⟨#[49,32,50]⟩
def lit1:S31:=⟨0,⟨⟨#[49]⟩,⟨#[49]⟩⟩,⟨#[]⟩,0,[]⟩
def lit2:S31:=⟨0,⟨⟨#[50]⟩,⟨#[49]⟩⟩,⟨#[]⟩,0,[]⟩
def refX (n:ByteArray):S31:=⟨1,z28,n,0,[]⟩
def xA:S31:=twoX 3 lit1 (twoX 5 (refX ⟨#[120]⟩) lit2)
def xB:S31:=twoX 9 ⟨14,z28,⟨#[102]⟩,0,[refX ⟨#[97]⟩]⟩ (refX ⟨#[105]⟩)
def xC:S31:=⟨2,z28,⟨#[]⟩,0,[twoX 5 (refX ⟨#[97]⟩) ⟨7,z28,⟨#[]⟩,-2,[refX ⟨#[98]⟩]⟩]⟩
def xD:S31:=twoX 4 (refX ⟨#[97]⟩) (twoX 4 (refX ⟨#[98]⟩) (refX ⟨#[99]⟩))
theorem toks1:zA9 ⟨#[97,49,43,50,123,109,47,115,125]⟩=[⟨0,⟨#[97,49]⟩,0⟩,⟨4,⟨#[43]⟩,2⟩,⟨2,⟨#[50]⟩,3⟩,⟨3,⟨#[109,47,115]⟩,4⟩]:=kD5
theorem zEd:zAl xA=5∧zAI xA=3∧zAl xB=4∧zAI xB=3∧zAl xC=5∧zAI xC=4∧zAl xD=5∧zAI xD=3:= by refine⟨?_,?_,?_,?_,?_,?_,?_,?_⟩<;>kernel_rfl
theorem eqt:metewandkit_EqTexts.f 10 [⟨#[97]⟩,⟨#[105]⟩] [⟨#[97]⟩,⟨#[105]⟩]=some true:=kD5
theorem eqk:metewandkit_EqTokens.f 10 [⟨0,⟨#[97,49]⟩,0⟩,⟨4,⟨#[43]⟩,2⟩,⟨2,⟨#[50]⟩,3⟩,⟨3,⟨#[109,47,115]⟩,4⟩] [⟨0,⟨#[97,49]⟩,0⟩,⟨4,⟨#[43]⟩,2⟩,⟨2,⟨#[50]⟩,3⟩,⟨3,⟨#[109,47,115]⟩,4⟩]=some true:=kD5
theorem reps_flat (w:World) (ts:List S47):Reps (k47.K w) 3 ts (flat ts):=by
 have key:∀(ts pre:List S47),Reps (k47.K w) 3 pre (flat pre)→Reps (k47.K w) 3 (pre++ts) (flat (pre++ts)):=by
  intro ts
  induction ts with
  | nil=>intro pre h;simpa using h
  | cons t ts ih =>
   intro pre h;have:=ih (pre++[t]) (by rw[zG4];exact Reps.snoc h (k47_mk w t) rfl);simpa using this
 exact key ts [] (Reps.none _ _)
theorem zAP.C {w:World} {base:Nat} {v:Value} {ts:List S47} (h:zAP w base v ts):∃A c,v=.slice A ts.length c∧ts.length≤c∧Kd.C k47 w A ts.length ts :=
 zBO.reads ⟨flat ts,h,reps_flat w ts⟩
theorem lit_toks (W:World) (ts:List S47) (h:ts.length≤9223372036854775807):Kd.C k47 (W.alloc (.cells (flat ts).toArray 47)) (some ⟨W.heap.size,0,none⟩) ts.length ts:=by
 obtain⟨A,c,h1,h2,h3⟩:=zBO.reads (zBO.lit (R:=k47.K (W.alloc (.cells (flat ts).toArray 47))) (e:=47) W 0 (reps_flat _ ts) (kAI _) h);injection h1 with h1;rw[h1];exact h3
theorem reps_str (w:World) (xs:List ByteArray):Reps (Kd.string.K w) 1 xs (xs.map Value.string):=by
 have key:∀(ts pre:List ByteArray),Reps (Kd.string.K w) 1 pre (pre.map Value.string)→Reps (Kd.string.K w) 1 (pre++ts) ((pre++ts).map Value.string):=by
  intro ts
  induction ts with
  | nil=>intro pre h;simpa using h
  | cons t ts ih =>
   intro pre h;have:=ih (pre++[t]) (by rw[kD0];exact Reps.snoc h rfl rfl);simpa using this
 exact key xs [] (Reps.none _ _)
theorem lit_texts (W:World) (xs:List ByteArray) (h:xs.length≤9223372036854775807):Kd.C Kd.string (W.alloc (.cells (xs.map Value.string).toArray 9)) (some ⟨W.heap.size,0,none⟩) xs.length xs:=by
 obtain⟨A,c,h1,h2,h3⟩:=zBO.reads (zBO.lit (R:=Kd.string.K (W.alloc (.cells (xs.map Value.string).toArray 9))) (e:=9) W 0 (reps_str _ xs) (kAI _) h);injection h1 with h1;rw[h1];exact h3
theorem own_texts {w:World} {base:Nat} {v:Value} {xs:List ByteArray} (h:w.ownsRow base 9 1 v xs.length (xs.map Value.string)):∃A c,v=.slice A xs.length c∧xs.length≤c∧Kd.C Kd.string w A xs.length xs :=
 zBO.reads ⟨_,h,reps_str w xs⟩
theorem perm2 (ss:List (List UInt8)) (a b:List UInt8) (hab:a≠b) (h:ss.Perm [a,b]):ss=[a,b]∨ss=[b,a]:=by
 have hl:=h.length_eq
 match ss,hl with
 | [x,y],_ =>
  have hx:x ∈ [a,b]:=h.mem_iff.1 kD6;have hy:y ∈ [a,b]:=h.mem_iff.1 kD6;have ha:a ∈ [x,y]:=h.mem_iff.2 kD6;have hb:b ∈ [x,y]:=h.mem_iff.2 kD6;simp only[kAO,kBc,kCm] at hx hy ha hb;rcases hx with rfl | rfl<;>rcases hy with rfl | rfl<;>simp_all
theorem sorted2 (ss:List (List UInt8)) (h:ss.Perm [[97],[105]]):ss.length=2∧(ss.mergeSort (fun x y=>decide (x≤y))).map encStr=[.string ⟨#[97]⟩,.string ⟨#[105]⟩]:=by
 rcases perm2 ss _ _ kD7 h with rfl | rfl
 ·exact⟨rfl,by simp[List.mergeSort,List.MergeSort.Internal.splitInTwo,List.merge];rfl⟩
 ·exact⟨rfl,by simp[List.mergeSort,List.MergeSort.Internal.splitInTwo,List.merge];rfl⟩
end Go.Proofs.YtjaobihcdkjmbaaGreatDoor
end
section
namespace Go.Proofs.YtjaobihcdkjmbaaGreatDoor
open Go.RowKit Go.Proofs.YtjaobihcdkjmbaaGreatDoorW.PrintWords Go.Proofs.YtjaobihcdkjmbaaGreatDoorW.PrintLast Go.Proofs.YtjaobihcdkjmbaaGreatDoor.PReadTokens
theorem ExprOf_step (R N n:Nat) (m:Int) (w:World) (hR:Rod w R N) (hN:N+cost (n+1)≤900000) (hm:2≤m) (hm1:m≤1000)
  (ih:∀M w,Rod w R M→M+cost n≤900000→Calls Tryz.prog 13 #[.pointer (some ⟨R,0,none⟩),.int .i64 (m-1)] w (zFx R M n w)) :
  Calls Tryz.prog 13 #[.pointer (some ⟨R,0,none⟩),.int .i64 m] w (zFx R N (n+1) w):=by
 have hRl:=hR.lt;have b0:=(kA3 w.heap.size w).alloc (kA2 _) zO;have rp:=hR.below b0;have zp:(w.alloc zO).heap[w.heap.size]?=some zO:=zA4 w zO;have gp:w.grownBy (w.alloc zO) (some R):=kAE w _ _;have hd:decide (m<2)=false:=kAc kD4;have hc0:6+4*cost n≤cost (n+1):=kA2 _;have hc1:=cost_pos n;have HI:=kA1 ih;clear hR ih;go_enter Tryz.func13,Tryz.ntmps13;go_wp2_with fail;have HO0:=zFd R N 5 _ rp kD4 kD4 kD4;refine HO0.mono ?_;rintro e w0 ⟨⟨y0,rfl⟩,rq,g0⟩;have zq:=zAj g0 zp kD4;have gq:=kA7 gp g0;clear HO0 rp zp gp g0
 cases y0 with
 | true =>
  go_wp2_with fail;have HO:=zFd R (N+1) 2 _ rq kD4 kD4 kD4;refine HO.mono ?_;rintro e w1 ⟨⟨y,rfl⟩,r1,g1⟩;have z1:=zAj g1 zq kD4;have g1:=kA7 gq g1;clear HO rq zq gq
  cases y with
  | true =>
   have HN:=zEC R (N+1+1) _ r1 kD4;go_wp2_with fail;refine HN.mono ?_;rintro e w2 ⟨⟨s,rfl,hs⟩,r2,g2⟩;have hs:=kA1 hs;have z2:=zAj g2 z1 kD4;have g2:=kA7 g1 g2;clear HN;go_wp2_with fail;refine (zGj s _).mono ?_;rintro e w3 ⟨rfl,hb3⟩;have z3:=zAa hb3 z2;have r3:=r2.below hb3;have g3:=kAk g2 hb3;obtain⟨⟨q0,q1,q2,q3,q4,q5⟩,⟨f0,f1,f2,f3,f4,f5⟩,xl2⟩:=zA6 z3;unfold exV;go_wp2;exact kAi (zAg Tryz.results13 _ _ w.heap.size 31 _ (0,0) _ rfl (fin6 _ _ _ _ _ _ z3) Tryz.underlying31 rfl zB6) rfl
    ⟨⟨1,z28,s,0,[]⟩,_,rfl,.ref _ s hs.out,Ex.leaf (w:=set6 w3 w.heap.size _ _ _ _ _ _) _ rfl,((r3.more kD4).far (zCW _ _ _ _ _ _ _) (fun b e=>by injection e with e;omega)),zCn g3 (zCW _ _ _ _ _ _ _) (fun b e=>by injection e with e;omega)⟩
  | false =>
   have HU:=zDr R (N+1+1) 20 _ r1 kD4 kD4 kD4;go_wp2_with fail;refine HU.mono ?_;rintro e w2 ⟨⟨p,rfl,hp0,hp1⟩,r2,g2⟩;have z2:=zAj g2 z1 kD4;have g2:=kA7 g1 g2;clear HU r1 z1 g1;go_wp2_with fail;have hbA:=(kA3 w2.heap.size w2).alloc (kA2 _) (.cells (([1,1,6]:List Int).map (Value.int .i64)).toArray 3);refine (zDl R (N+1+2) ⟨w2.heap.size,0,none⟩ [1,1,6] _ (r2.below hbA) kD4 (zEI w2 R [1,1,6] r2.lt) kD7 kD7).mono ?_;rintro e w3 ⟨⟨q0,rfl,hq⟩,r3,g3⟩;have hq:1≤q0∧q0≤6:=by simp at hq;omega
   have z3:=zAj g3 (zAa hbA z2) kD4;have g3:=kA7 (kAk g2 hbA) g3;obtain⟨hq1,hq2⟩:=hq;clear hbA r2 z2 g2;go_wp2_with fail;refine (zCP R (N+1+3) 1 q0 _ r3 kD4 kD4 kD4 kD4).mono ?_;rintro e w4 ⟨⟨q,rfl,hq3,hq4⟩,r4,g4⟩;have z4:=zAj g4 z3 kD4;have g4:=kA7 g3 g4;clear r3 z3 g3;go_wp2_with fail;refine (zGm p q hp0 hp1 hq3 kD4 _).mono ?_;rintro e w5 ⟨rfl,hb5⟩;have z5:=zAa hb5 z4;have r5:=r4.below hb5;have g5:=kAk g4 hb5;clear r4 z4 g4;go_wp2_with fail;have hbB:=(kA3 w5.heap.size w5).alloc (kA2 _) (.cells (unitL.map Value.string).toArray 9);refine (zCk R (N+1+4) ⟨w5.heap.size,0,none⟩ unitL _ (r5.below hbB) kD4 (zFt w5 R unitL r5.lt) kD7 kD7).mono ?_;rintro e w6 ⟨⟨u,rfl,hu⟩,r6,g6⟩;have hu:=kA1 hu;have z6:=zAj g6 (zAa hbB z5) kD4;have g6:=kA7 (kAk g5 hbB) g6;clear hbB r5 z5 g5;obtain⟨⟨q0',q1',q2',q3',q4',q5'⟩,⟨f0,f1,f2,f3,f4,f5⟩,xl2⟩:=zA6 z6;go_wp2;exact kAi (zAg Tryz.results13 _ _ w.heap.size 31 _ (0,0) _ rfl (fin6 _ _ _ _ _ _ z6) Tryz.underlying31 rfl zB6) rfl
    ⟨⟨0,ratS p q,u,0,[]⟩,_,rfl,.lit _ p q u hp0 hp1 hq3 kD4 hu.out,Ex.leaf (w:=set6 w6 w.heap.size _ _ _ _ _ _) _ rfl,((r6.more kD4).far (zCW _ _ _ _ _ _ _) (fun b e=>by injection e with e;omega)),zCn g6 (zCW _ _ _ _ _ _ _) (fun b e=>by injection e with e;omega)⟩
 | false =>
  go_wp2_with fail;have hbA:=(kA3 w0.heap.size w0).alloc (kA2 _) (.cells (opL.map (Value.int .i64)).toArray 3);refine (zDl R (N+1) ⟨w0.heap.size,0,none⟩ opL _ (rq.below hbA) kD4 (zEI w0 R opL rq.lt) kD7 kD7).mono ?_;rintro e w1 ⟨⟨op,rfl,hop⟩,r1,g1⟩;have z1:=zAj g1 (zAa hbA zq) kD4;have g1:=kA7 (kAk gq hbA) g1;have hop:=kA1 hop;clear hbA rq zq gq
  go_upto_block 0 with (fail)
  have hX:=zA4 w1 (.cells #[.int .i64 op,.string ⟨#[]⟩,.string ⟨#[]⟩,.string ⟨#[]⟩,.int .i64 0,.slice none 0 0] 31);have zX:=(kA4 w1 (.cells #[.int .i64 op,.string ⟨#[]⟩,.string ⟨#[]⟩,.string ⟨#[]⟩,.int .i64 0,.slice none 0 0] 31) _ (zA5 z1)).trans z1;have hBX:=(kA3 w1.heap.size w1).alloc (kA2 _) (.cells #[.int .i64 op,.string ⟨#[]⟩,.string ⟨#[]⟩,.string ⟨#[]⟩,.int .i64 0,.slice none 0 0] 31);have rX:=r1.below hBX;have gX:=kAk g1 hBX;have hXw:w.heap.size<w1.heap.size:=zA5 z1;generalize hXX:w1.heap.size=X at *;generalize w1.alloc (.cells #[.int .i64 op,.string ⟨#[]⟩,.string ⟨#[]⟩,.string ⟨#[]⟩,.int .i64 0,.slice none 0 0] 31)=W at *;clear hBX r1 z1 g1 hXX;go_cut [6] (fun v6 wc=>∃(many:Nat) (name:ByteArray) (size:Int),v6=.int .i64 many∧Hid (nodeOk op name size many)∧Rod wc R (N+5)∧Hid (wc.heap[X]?=some (.cells #[.int .i64 op,.string ⟨#[]⟩,.string ⟨#[]⟩,.string name,.int .i64 size,.slice none 0 0] 31 (0,0)))∧Hid (wc.heap[w.heap.size]?=some zO)∧w.grownBy wc (some R))
  case first =>
   have hmem:=hop.out;simp only[opL,kAO,kBc,kCm] at hmem;have hXl:=zA5 hX;obtain⟨⟨q0,q1,q2,q3,q4,q5⟩,⟨f0,f1,f2,f3,f4,f5⟩,xl2⟩:=zA6 hX;rcases hmem with rfl | rfl | rfl | rfl | rfl | rfl | rfl | rfl | rfl | rfl | rfl | rfl | rfl | rfl | rfl
   ·go_wp2
    go_meet
    exact⟨1,eB,0,rfl,kA1 (.inl ⟨rfl,rfl,rfl,rfl⟩),rX.more kD4,kA1 hX,kA1 zX,gX⟩
   ·go_wp2
    go_meet
    exact⟨2,eB,0,rfl,kA1 (.inr (.inl ⟨kD6,rfl,rfl,rfl⟩)),rX.more kD4,kA1 hX,kA1 zX,gX⟩
   ·go_wp2
    go_meet
    exact⟨2,eB,0,rfl,kA1 (.inr (.inl ⟨kD6,rfl,rfl,rfl⟩)),rX.more kD4,kA1 hX,kA1 zX,gX⟩
   ·go_wp2
    go_meet
    exact⟨2,eB,0,rfl,kA1 (.inr (.inl ⟨kD6,rfl,rfl,rfl⟩)),rX.more kD4,kA1 hX,kA1 zX,gX⟩
   ·go_wp2
    go_meet
    exact⟨2,eB,0,rfl,kA1 (.inr (.inl ⟨kD6,rfl,rfl,rfl⟩)),rX.more kD4,kA1 hX,kA1 zX,gX⟩
   ·go_wp2
    go_meet
    exact⟨2,eB,0,rfl,kA1 (.inr (.inl ⟨kD6,rfl,rfl,rfl⟩)),rX.more kD4,kA1 hX,kA1 zX,gX⟩
   ·go_wp2
    go_meet
    exact⟨2,eB,0,rfl,kA1 (.inr (.inl ⟨kD6,rfl,rfl,rfl⟩)),rX.more kD4,kA1 hX,kA1 zX,gX⟩
   ·clear q0 q1 q2 q3 q4 q5 f0 f1 f2 f3 f4 f5;go_wp2_with fail;refine (zCP R (N+1+1) (-9) 9 _ rX kD4 kD4 kD4 kD4).mono ?_;rintro e w2 ⟨⟨x,rfl,hx0,hx1⟩,r2,g2⟩;have hX2:=zAj g2 hX kD4;have zX2:=zAj g2 zX kD4;have gX2:=kA7 gX g2;obtain⟨⟨q0,q1,q2,q3,q4,q5⟩,⟨f0,f1,f2,f3,f4,f5⟩,xl2⟩:=zA6 hX2;go_wp2
    go_meet
    exact⟨1,eB,x,rfl,kA1 (.inr (.inr (.inl ⟨rfl,rfl,⟨hx0,hx1⟩,rfl⟩))),(r2.more kD4).put kD4 4 _,kA1 (zA8 hX2 4 _),kA1 ((kA5 _ _ _ _ kDp).trans zX2),zCV gX2 kD4 4 _⟩
   ·clear q0 q1 q2 q3 q4 q5 f0 f1 f2 f3 f4 f5;go_wp2_with fail;refine (zCP R (N+1+1) 1 3 _ rX kD4 kD4 kD4 kD4).mono ?_;rintro e w2 ⟨⟨x,rfl,hx0,hx1⟩,r2,g2⟩;have hX2:=zAj g2 hX kD4;have zX2:=zAj g2 zX kD4;have gX2:=kA7 gX g2;obtain⟨⟨q0,q1,q2,q3,q4,q5⟩,⟨f0,f1,f2,f3,f4,f5⟩,xl2⟩:=zA6 hX2;go_wp2
    go_meet
    exact⟨x.toNat,eB,0,toNat_val kD4,kA1 (.inr (.inr (.inr (.inl ⟨rfl,rfl,rfl,kD4,kD4⟩)))),r2.more kD4,kA1 hX2,kA1 zX2,gX2⟩
   ·go_wp2
    go_meet
    exact⟨2,eB,0,rfl,kA1 (.inr (.inl ⟨kD6,rfl,rfl,rfl⟩)),rX.more kD4,kA1 hX,kA1 zX,gX⟩
   ·clear q0 q1 q2 q3 q4 q5 f0 f1 f2 f3 f4 f5;go_wp2_with fail;refine (zEC R (N+1+1) _ rX kD4).mono ?_;rintro e w2 ⟨⟨s,rfl,hs⟩,r2,g2⟩;have hs:=kA1 hs;have hX2:=zAj g2 hX kD4;have zX2:=zAj g2 zX kD4;have gX2:=kA7 gX g2;go_wp2_with fail;have hbA:=(kA3 w2.heap.size w2).alloc (kA2 _) (.cells (([3,99]:List Int).map (Value.int .i64)).toArray 3);refine (zDl R (N+1+1+1) ⟨w2.heap.size,0,none⟩ [3,99] _ (r2.below hbA) kD4 (zEI w2 R [3,99] r2.lt) kD7 kD7).mono ?_;rintro e w3 ⟨⟨t,rfl,ht⟩,r3,g3⟩;have ht:1≤t∧t≤99:=by simp at ht;omega
    obtain⟨ht1,ht2⟩:=ht;have hX3:=zAj g3 (zAa hbA hX2) kD4;have zX3:=zAj g3 (zAa hbA zX2) kD4;have gX3:=kA7 (kAk gX2 hbA) g3;clear hbA hX2 zX2 gX2 g2 r2;go_wp2_with fail;refine (zCP R (N+1+1+1+1) 1 t _ r3 kD4 kD4 kD4 kD4).mono ?_;rintro e w4 ⟨⟨x,rfl,hx0,hx1⟩,r4,g4⟩;have hX4:=zAj g4 hX3 kD4;have zX4:=zAj g4 zX3 kD4;have gX4:=kA7 gX3 g4;obtain⟨⟨q0,q1,q2,q3,q4,q5⟩,⟨f0,f1,f2,f3,f4,f5⟩,xl2⟩:=zA6 hX4;go_wp2
    go_meet
    exact⟨1,s,x,rfl,kA1 (.inr (.inr (.inr (.inr (.inl ⟨kD6,hs.out,⟨hx0,kD4⟩,rfl⟩))))),((r4.more kD4).put kD4 3 _).put kD4 4 _,kA1 (zA8 (zA8 hX4 3 _) 4 _),kA1 ((kA5 _ _ _ _ kDp).trans ((kA5 _ _ _ _ kDp).trans zX4)),zCV (zCV gX4 kD4 3 _) kD4 4 _⟩
   ·clear q0 q1 q2 q3 q4 q5 f0 f1 f2 f3 f4 f5;go_wp2_with fail;refine (zEC R (N+1+1) _ rX kD4).mono ?_;rintro e w2 ⟨⟨s,rfl,hs⟩,r2,g2⟩;have hs:=kA1 hs;have hX2:=zAj g2 hX kD4;have zX2:=zAj g2 zX kD4;have gX2:=kA7 gX g2;go_wp2_with fail;have hbA:=(kA3 w2.heap.size w2).alloc (kA2 _) (.cells (([3,99]:List Int).map (Value.int .i64)).toArray 3);refine (zDl R (N+1+1+1) ⟨w2.heap.size,0,none⟩ [3,99] _ (r2.below hbA) kD4 (zEI w2 R [3,99] r2.lt) kD7 kD7).mono ?_;rintro e w3 ⟨⟨t,rfl,ht⟩,r3,g3⟩;have ht:1≤t∧t≤99:=by simp at ht;omega
    obtain⟨ht1,ht2⟩:=ht;have hX3:=zAj g3 (zAa hbA hX2) kD4;have zX3:=zAj g3 (zAa hbA zX2) kD4;have gX3:=kA7 (kAk gX2 hbA) g3;clear hbA hX2 zX2 gX2 g2 r2;go_wp2_with fail;refine (zCP R (N+1+1+1+1) 1 t _ r3 kD4 kD4 kD4 kD4).mono ?_;rintro e w4 ⟨⟨x,rfl,hx0,hx1⟩,r4,g4⟩;have hX4:=zAj g4 hX3 kD4;have zX4:=zAj g4 zX3 kD4;have gX4:=kA7 gX3 g4;obtain⟨⟨q0,q1,q2,q3,q4,q5⟩,⟨f0,f1,f2,f3,f4,f5⟩,xl2⟩:=zA6 hX4;go_wp2
    go_meet
    exact⟨1,s,x,rfl,kA1 (.inr (.inr (.inr (.inr (.inl ⟨kD6,hs.out,⟨hx0,kD4⟩,rfl⟩))))),((r4.more kD4).put kD4 3 _).put kD4 4 _,kA1 (zA8 (zA8 hX4 3 _) 4 _),kA1 ((kA5 _ _ _ _ kDp).trans ((kA5 _ _ _ _ kDp).trans zX4)),zCV (zCV gX4 kD4 3 _) kD4 4 _⟩
   ·go_wp2
    go_meet
    exact⟨4,eB,0,rfl,kA1 (.inr (.inr (.inr (.inr (.inr (.inl ⟨rfl,rfl,rfl,rfl⟩)))))),rX.more kD4,kA1 hX,kA1 zX,gX⟩
   ·clear q0 q1 q2 q3 q4 q5 f0 f1 f2 f3 f4 f5;go_wp2_with fail;refine (zEC R (N+1+1) _ rX kD4).mono ?_;rintro e w2 ⟨⟨s,rfl,hs⟩,r2,g2⟩;have hs:=kA1 hs;have hX2:=zAj g2 hX kD4;have zX2:=zAj g2 zX kD4;have gX2:=kA7 gX g2;obtain⟨⟨q0,q1,q2,q3,q4,q5⟩,⟨f0,f1,f2,f3,f4,f5⟩,xl2⟩:=zA6 hX2;go_wp2
    go_meet
    exact⟨2,s,0,rfl,kA1 (.inr (.inr (.inr (.inr (.inr (.inr (.inl ⟨rfl,hs.out,rfl,rfl⟩))))))),(r2.more kD4).put kD4 3 _,kA1 (zA8 hX2 3 _),kA1 ((kA5 _ _ _ _ kDp).trans zX2),zCV gX2 kD4 3 _⟩
   ·clear q0 q1 q2 q3 q4 q5 f0 f1 f2 f3 f4 f5;go_wp2_with fail;refine (zDr R (N+1+1) 3 _ rX kD4 kD4 kD4).mono ?_;rintro e w2 ⟨⟨x,rfl,hx0,hx1⟩,r2,g2⟩;have hX2:=zAj g2 hX kD4;have zX2:=zAj g2 zX kD4;have gX2:=kA7 gX g2;go_wp2_with fail;have hbB:=(kA3 w2.heap.size w2).alloc (kA2 _) (.cells (callL.map Value.string).toArray 9);refine (zCk R (N+1+1+1) ⟨w2.heap.size,0,none⟩ callL _ (r2.below hbB) kD4 (zFt w2 R callL r2.lt) kD7 kD7).mono ?_;rintro e w3 ⟨⟨s,rfl,hs⟩,r3,g3⟩;have hs:=kA1 hs;have hX3:=zAj g3 (zAa hbB hX2) kD4;have zX3:=zAj g3 (zAa hbB zX2) kD4;have gX3:=kA7 (kAk gX2 hbB) g3;clear hbB hX2 zX2 gX2 g2 r2;obtain⟨⟨q0,q1,q2,q3,q4,q5⟩,⟨f0,f1,f2,f3,f4,f5⟩,xl2⟩:=zA6 hX3;go_wp2
    go_meet
    exact⟨x.toNat,s,0,toNat_val kD4,kA1 (.inr (.inr (.inr (.inr (.inr (.inr (.inr ⟨rfl,hs.out,rfl,kD4⟩))))))),(r3.more kD4).put kD4 3 _,kA1 (zA8 hX3 3 _),kA1 ((kA5 _ _ _ _ kDp).trans zX3),zCV gX3 kD4 3 _⟩
  case rest =>
   obtain⟨many,name,size,rfl,hk,rc,hX,zc,gc⟩:=hcut;have hmany:=nodeOk_le hk.out;have G0:Grow w R X (N+5+0*cost n) n op name size [] wc (.slice none 0 0):=⟨zc.out,hX.out,Kd.R_nil _ _ _ _ _,rc.more kD4,gc,hXw,hRl,fun y hy=>by cases hy⟩;have hsub:IntKind.i64.wrap (m-1)=m-1:=by simp[IntKind.wrap,IntKind.bits,IntKind.signed];omega
   clear hX zc gc rc zX rX gX hop;go_wp2_with fail;go_loopg [7] many (fun k v7 wr=>∃(j:Nat) (xs:List S31) (v5:Value),v7=.int .i64 j∧j+k=many∧Hid (xs.length=j)∧Grow w R X (N+5+j*cost n) n op name size xs wr v5)
   case atStart=>exact⟨0,[],_,rfl,kD4,kA1 rfl,G0⟩
   case round =>
    clear G0;obtain⟨j,xs,v5,rfl,hjk,hxl,G⟩:=hrel;by_cases hj:j<many
    ·have Gd:=G.below ((kA3 _ wr).drew);obtain⟨A,c,rfl⟩:=Kd.R_slice G.row;have hbound:N+5+j*cost n+cost n≤900000:=by
      have:=kBi (cost n) (show j+1≤4 by omega);rw[kCW,kBA] at this;omega
     have hcall:=HI.out _ _ Gd.rod hbound;have KK:wr.drew.cell? ⟨X,5,none⟩=some (.slice A xs.length c):=zA1 Gd.blk 5;have hlen:(xs.length+1)*88≤140737488355328:=by have:=hxl.out;omega
     clear G;go_wp2_with fail;refine zDE (n:=10) (S:=fun w'=>w'.cell? ⟨X,5,none⟩=some (.slice A xs.length c)) (ds:=[9]) #[false,false,false,false,false,false,false,false,false,false] kD5 rfl rfl (KK) (fun hHeld=>?_);refine zAq (i:=0) (N:=some 80) (v:=?_) (a':=?_) #[true,false,false,false,false,false,false,false,false,false] rfl rfl kD5 (fun _ _ _ h=>h) (Or.inl ⟨kD9,?_⟩) ?_ ?_;rotate_left
     ·intro w';go_simp
      with_reducible rfl
     rotate_left
     ·simp only[Act.put,kA0,List.set_cons_zero,List.set_cons_succ,zAd,zAe];rfl
     refine zAq (i:=2) (N:=some 82) (v:=?_) (a':=?_) #[true,false,true,false,false,false,false,false,false,false] rfl rfl kD5 (fun _ _ _ h=>h) (Or.inl ⟨kD9,?_⟩) ?_ ?_;rotate_left
     ·intro w';go_simp
      with_reducible rfl
     rotate_left
     ·simp only[Act.put,kA0,List.set_cons_zero,List.set_cons_succ,zAd,zAe];rfl
     refine zAq (i:=3) (N:=some 83) (v:=?_) (a':=?_) #[true,false,true,true,false,false,false,false,false,false] rfl rfl kD5 (fun _ _ _ h=>h) (Or.inl ⟨kD9,?_⟩) ?_ ?_;rotate_left
     ·intro w';go_simp
      with_reducible rfl
     rotate_left
     ·simp only[Act.put,kA0,List.set_cons_zero,List.set_cons_succ,zAd,zAe];rfl
     refine zAq (i:=4) (N:=some 84) (v:=?_) (a':=?_) #[true,false,true,true,true,false,false,false,false,false] rfl rfl kD5 (fun _ _ _ h=>h) (Or.inl ⟨kD9,?_⟩) ?_ ?_;rotate_left
     ·intro w';go_simp
      with_reducible rfl
     rotate_left
     ·simp only[Act.put,kA0,List.set_cons_zero,List.set_cons_succ,zAd,zAe];rfl
     refine zDd (i:=1) (N:=some 81) (v:=?_) (a':=?_) #[true,true,true,true,true,false,false,false,false,false] rfl rfl kD5 (fun _ _ _ h=>h) (Or.inl ⟨kD9,?_⟩) hHeld ?_ ?_;rotate_left
     ·intro w' s0;go_simp
      with_reducible rfl
     rotate_left
     ·simp only[Act.put,kA0,List.set_cons_zero,List.set_cons_succ,zAd,zAe];rfl
     refine one_ (i:=5) (N:=some 85) #[true,true,true,true,true,true,false,false,false,false] rfl rfl kD5 kD7 (fun K hK=>?_);refine goes_ Tryz.func13 kD5 rfl #[.pointer (some ⟨R,0,none⟩),.int .i64 (m-1)] kD9 rfl rfl kDo ?_
     with_reducible refine (hcall).mono ?_
     rintro e w2⟨y,vy,rfl,hy,hey,ry,gy⟩;refine⟨_,rfl,?_⟩;obtain⟨vy5,A5,n5,c5,rfl,rfl,_,my⟩:=hey.cells;unfold exV;have KK2:=zA1 (zAj gy Gd.blk (by have:=Gd.own;have:=Gd.far;omega)) 5;refine hK.out _ _ (KK2) (fun hHeld=>?_);clear hK K;refine zCc (a':=?_) ?_ ?_;rotate_left
     ·show Act.put _ (some 85) _=_;simp only[Act.put,kA0,List.set_cons_zero,List.set_cons_succ,zAd,zAe];rfl
     refine one_ (i:=6) (N:=some 86) #[true,true,true,true,true,true,true,false,false,false] rfl rfl kD5 kD7 (fun K hK=>?_);refine zFA (w1:=?_) (v:=?_) kD9 rfl ?_ ?_;rotate_left 2
     ·go_simp;constructor
      ·rfl
      ·rfl
     refine hK.out _ _ ((zA0 ((kA3 _ _).alloc (kA2 _) _) KK2)) (fun hHeld=>?_);clear hK K;refine zCc (a':=?_) ?_ ?_;rotate_left
     ·show Act.put _ (some 86) _=_;simp only[Act.put,kA0,List.set_cons_zero,List.set_cons_succ,zAd,zAe];rfl
     refine one_ (i:=7) (N:=some 87) #[true,true,true,true,true,true,true,true,false,false] rfl rfl kD5 kD7 (fun K hK=>?_);have row2:=Kd.R_grown Gd.row gy (fun k hk e=>by injection e with e;have:=hk.1;have:=Gd.own;omega);have hokp:∀k,From wr.drew.heap.size k→Sx w X k∧some k≠(Value.slice A xs.length c).ownBlock:=(fun k hk=>⟨⟨by have:=zA5 Gd.res;have:wr.drew.heap.size≤k:=hk;omega,by have:=zA5 Gd.blk;have:wr.drew.heap.size≤k:=hk;omega⟩,Kd.fresh_ok Gd.row k hk⟩);have hfresh:∀k,w2.heap.size≤k→Sx w X k:=(fun k hk=>⟨by have:=zA5 Gd.res;have:=gy.size;omega,by have:=zA5 Gd.blk;have:=gy.size;omega⟩);have HB:=(kA3 0 w).grown (kA7 Gd.low gy) (kAI _) (fun _ _=>kAI _);refine Kd.R_append_step k31 (w0:=w) (W:=w2) 0 rfl (.tmp 81) (.tmp 86) 29 31 _ 88 rfl Tryz.underlying29 info31 rfl kD7 kD7 (.slice A xs.length c) xs y _ (Sx w X) (From wr.drew.heap.size) rfl rfl my hokp hfresh row2 HB (kAI _) hlen ?_;intro v1 w4 hrow hb4 hg4 hat4;obtain⟨A1,c1,rfl⟩:=Kd.R_slice hrow;obtain⟨hX4,G4⟩:=Gd.next hy ry gy hrow hg4
     have KK4:=zA1 hX4 5;have F5:=zA2 hX4 5;clear hrow hb4 hg4 hat4 row2 hokp hfresh HB my hey gy ry;refine hK.out _ _ (KK4) (fun hHeld=>?_);clear hK K;refine zCc (a':=?_) ?_ ?_;rotate_left
     ·show Act.put _ (some 87) _=_;simp only[Act.put,kA0,List.set_cons_zero,List.set_cons_succ,zAd,zAe];rfl
     refine zAq (i:=8) (N:=some 88) (v:=?_) (a':=?_) #[true,true,true,true,true,true,true,true,true,false] rfl rfl kD5 (fun _ _ _ h=>h) (Or.inl ⟨kD9,?_⟩) ?_ ?_;rotate_left
     ·intro w';go_simp
      with_reducible rfl
     rotate_left
     ·simp only[Act.put,kA0,List.set_cons_zero,List.set_cons_succ,zAd,zAe];rfl
     refine last_ (i:=9) (N:=none) #[true,true,true,true,true,true,true,true,true,true] rfl rfl kD5 kD7 (fun K hK=>?_);refine skip_ (w1:=?_) kD9 rfl ?_ ?_;rotate_left
     ·go_simp;rfl
     refine hK.out _ _ ?_;clear hK K;refine done_ kD5 ?_;go_wp2_with fail;go_roundg (gk-1)
     case measure=>omega
     case rel=>exact⟨j+1,xs++[y],_,by go_num,kD4,kA1 (by rw[kAt,hxl.out];rfl),by rw[kCW,kBA,← kBR];have h:=G4;rw[kAt] at h;exact h⟩
    ·obtain rfl:j=many:=kD4
     obtain⟨A,c,rfl⟩:=Kd.R_slice G.row;obtain⟨⟨x0,x1,x2,x3,x4,x5⟩,_,xxl⟩:=zA6 G.blk;obtain⟨⟨q0,q1,q2,q3,q4,q5⟩,⟨f0,f1,f2,f3,f4,f5⟩,xl2⟩:=zA6 G.res;have hcost:N+5+j*cost n≤N+cost (n+1):=by
      have:=kBi (cost n) hmany;omega
     have HC:=kA1 hcost;have GG:=kA1 G;clear G hcost;go_wp2;have G:=GG.out;exact kAi (zAg Tryz.results13 _ _ w.heap.size 31 _ (0,0) _ rfl (fin6 _ _ _ _ _ _ G.res) Tryz.underlying31 rfl zB6) rfl
      ⟨⟨op,z28,name,size,xs⟩,_,rfl,.node n op name size xs (by rw[hxl.out];exact hk.out) G.all,⟨_,rfl,Kd.R_mono (Kd.R_grown G.row (zCW _ _ _ _ _ _ _) (fun k hk e=>by injection e with e;have:=hk.1;omega)) (fun k hk=>kAP hk.1)⟩,
       ((G.rod.more HC.out).far (zCW _ _ _ _ _ _ _) (fun b e=>by injection e with e;omega)),zCn G.low (zCW _ _ _ _ _ _ _) (fun b e=>by injection e with e;omega)⟩
theorem zFj:∀(n:Nat) (hn:n≤900) (R N:Nat) (w:World),Rod w R N→N+cost n≤900000→Calls Tryz.prog 13 #[.pointer (some ⟨R,0,none⟩),.int .i64 (n+1:Int)] w (zFx R N n w)
 | 0,_,R,N,w,hR,hN=>ExprOf_leaf R N w hR kD4 _ kD4
 | n+1,hn,R,N,w,hR,hN=>ExprOf_step R N n _ w hR hN kD4 kD4 (fun M w h hM=>by
   have e:((n+1:Nat):Int)+1-1=(n:Int)+1:=kD4
   rw[e];exact zFj n kD4 R M w h hM)
end Go.Proofs.YtjaobihcdkjmbaaGreatDoor
end
