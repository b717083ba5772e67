/- The law ReadFree answers true for every argument; a part of its proof. -/
import Derived.Test.YtjaobihcdkjmbaaGreatDoorTie
import Derived.Test.YtjaobihcdkjmbaaGreatDoorCards
import Derived.ProofKit
import Derived.LaidMore
import Derived.OpenShut
import Derived.Stop.Joined
import Derived.Stop.LaidErr
import Derived.Lib.LaidTab
import Derived.Carry
import Derived.JoinedOf
import Derived.Deep.QuietTactic
import Derived.BigQuiet
import Derived.BigRegion
import Derived.Test.YtjaobihcdkjmbaaGreatDoorF22
import Derived.Test.YtjaobihcdkjmbaaGreatDoorF25
import Derived.Test.YtjaobihcdkjmbaaGreatDoorF26
import Derived.Test.YtjaobihcdkjmbaaGreatDoorF28
set_option linter.unusedVariables false
set_option linter.unusedSimpArgs false
section
namespace Go.Proofs.YtjaobihcdkjmbaaGreatDoor
open Go.RowKit Go.Proofs.YtjaobihcdkjmbaaGreatDoorW.PrintWords Go.Proofs.YtjaobihcdkjmbaaGreatDoor.PReadTokens
theorem okRef (n:ByteArray) (h:nameB n=true):OkX (refX n):=ok_of (.inr (.inl ⟨rfl,rfl,h,rfl,rfl⟩)) (fun a h=>by cases h)
theorem okLit (n:ByteArray) (h1:chkR ⟨n,⟨#[49]⟩⟩=0) (h2:negB n=false):OkX ⟨0,⟨n,⟨#[49]⟩⟩,⟨#[]⟩,0,[]⟩:=ok_of (.inl ⟨rfl,h1,h2,.inl rfl,rfl,rfl⟩) (fun a h=>by cases h)
theorem okTwo (op:Int) (h:op=3∨op=4∨op=5∨op=6∨op=9) (a b:S31) (ha:OkX a) (hb:OkX b):OkX (twoX op a b) :=
 ok_of (.inr (.inr (.inr (.inl ⟨h,rfl,rfl,rfl,rfl⟩)))) (fun x hx=>by simp only [List.mem_cons,List.not_mem_nil,or_false] at hx;rcases hx with rfl | rfl;exact ha;exact hb)
theorem chkA:chkE xA=0:=(chk_iff xA).2 ⟨okTwo 3 (by simp) _ _ (okLit _ (by kernel_rfl) (by kernel_rfl)) (okTwo 5 (by simp) _ _ (okRef _ (by kernel_rfl)) (okLit _ (by kernel_rfl) (by kernel_rfl))),by rw [sizesA.2.1];omega⟩
theorem chkB:chkE xB=0:=(chk_iff xB).2 ⟨okTwo 9 (by simp) _ _ (ok_of (.inr (.inr (.inr (.inr (.inr (.inr (.inr (.inr (.inr ⟨rfl,rfl,by kernel_rfl,rfl,by decide⟩))))))))) (fun x hx=>by simp only [List.mem_cons,List.not_mem_nil,or_false] at hx;rw [hx];exact okRef _ (by kernel_rfl))) (okRef _ (by kernel_rfl)),by rw [sizesA.2.2.2.1];omega⟩
theorem chkC:chkE xC=0:=(chk_iff xC).2 ⟨ok_of (.inr (.inr (.inl ⟨rfl,rfl,rfl,rfl,rfl⟩))) (fun x hx=>by
 simp only [List.mem_cons,List.not_mem_nil,or_false] at hx;rw [hx]
 exact okTwo 5 (by simp) _ _ (okRef _ (by kernel_rfl)) (ok_of (.inr (.inr (.inr (.inr (.inl ⟨rfl,rfl,rfl,by decide,rfl⟩))))) (fun x hx=>by simp only [List.mem_cons,List.not_mem_nil,or_false] at hx;rw [hx];exact okRef _ (by kernel_rfl)))),by rw [sizesA.2.2.2.2.2.1];omega⟩
theorem chkD:chkE xD=0:=(chk_iff xD).2 ⟨okTwo 4 (by simp) _ _ (okRef _ (by kernel_rfl)) (okTwo 4 (by simp) _ _ (okRef _ (by kernel_rfl)) (okRef _ (by kernel_rfl))),by rw [sizesA.2.2.2.2.2.2.2];omega⟩
theorem szsA:szB xA=true:=by kernel_rfl
theorem szsB:szB xB=true:=by kernel_rfl
theorem szsC:szB xC=true:=by kernel_rfl
theorem szsD:szB xD=true:=by kernel_rfl
theorem smB:smallB xB=true:=by kernel_rfl
theorem keysG:strKeys (freeG xB)=[[97],[105]]:=by kernel_rfl
set_option maxRecDepth 100000 in
set_option maxHeartbeats 2000000 in
theorem PrintExpr2 (x:S31) (hc:chkE x=0) (hn:nodesX x≤4611686018427387904) (hsz:szB x=true) (htx:txtB x=true) (hlen:(textX x 0).size≤2000) (v:Value) (w:World) (hv:Vw w x v) (hS:Start w) (hT:Tab w) :
  Calls Tryz.prog 20 #[v] w fun e w'=>e=.returned (.tuple #[.string (textX x 0),.int .i64 0])∧Below w.heap.size w w':=by
 obtain ⟨A,c,rfl,hc1,hc2⟩:=hv.out
 have hck:=fun w' (hb:Below w.heap.size w w')=>chk0_calls x hc hn hsz _ w' (hv.below hb) (hS.below hb)
 have htt:=fun w' (hb:Below w.heap.size w w')=>text_calls _ x (Nat.le_refl _) htx 0 _ w' (hv.below hb) (hT.below hb)
 have hbig:decide (2000 < ((textX x 0).size:Int))=false:=decide_eq_false (by omega)
 clear htx
 generalize textX x 0=r at *
 obtain ⟨f0,f1,f2,f3,xs⟩:=x
 simp only at *
 unfold exV at *
 simp only at *
 have HC:=Lib.hid hck
 have HT:=Lib.hid htt
 clear hck htt hv hS hc2 hc hsz hn hT
 go_enter Tryz.func20,Tryz.ntmps20
 go_wp2_with fail
 have hb0:=(Below.refl _ w).alloc (Nat.le_refl _) (.cells #[.int .i64 f0,.string f1.f0,.string f1.f1,.string f2,.int .i64 f3,.slice A xs.length c] 31)
 have hbl:=blk_new w (.cells #[.int .i64 f0,.string f1.f0,.string f1.f1,.string f2,.int .i64 f3,.slice A xs.length c] 31)
 refine (HC.out _ hb0).mono ?_
 rintro e w1 ⟨rfl,hb1⟩
 have hbl1:=bcell hb1 hbl
 obtain ⟨⟨q0,q1,q2,q3,q4,q5⟩,_,xl⟩:=cells6 hbl1
 have hbw:=hb0.trans (hb1.mono (by simp))
 clear hbl hbl1
 go_wp2_with fail
 refine (HT.out _ hbw).mono ?_
 rintro e w2 ⟨rfl,hb2⟩
 go_wp2
 refine bodyPost_ret (results_tmp2 rfl _ _ _) rfl ⟨rfl,hbw.trans (hb2.mono hbw.size)⟩
set_option maxRecDepth 100000 in
set_option maxHeartbeats 2000000 in
theorem shown2 (chk:S28→Int) (s:ByteArray) (h:Readable chk s) (x:S31) (hr:readS chk s=(x,0,0)) (hp:parseS chk s=.ok (x,(allToks s).length)) (hc:chkE x=0) (hn:nodesX x≤4611686018427387904) (hsz:szB x=true) (htx:txtB x=true) (hlen:(textX x 0).size≤2000)
  (w:World) (hS:Start w) (hT:Tab w) :
  Calls Tryz.prog 44 #[.string s] w fun e w'=>e=.returned (.string (textX x 0))∧Below w.heap.size w w':=by
 have hrd:=ReadExpr_calls chk s h w hS (fun _=>⟨x,hp,hn⟩)
 unfold ReadPost at hrd
 rw [hr] at hrd
 simp only at hrd
 have hpr:=fun v w' (hb:Below w.heap.size w w') (hv:Vw w' x v)=>PrintExpr2 x hc hn hsz htx hlen v w' hv (hS.below hb) (hT.below hb)
 generalize textX x 0=r at *
 have HP:=Lib.hid hpr
 clear hpr h hr hp hc hsz htx hS hT
 go_enter Tryz.func44,Tryz.ntmps44
 go_wp2_with fail
 refine hrd.mono ?_
 rintro e w1 ⟨v5,rfl,hx,hb1⟩
 obtain ⟨A,c,hv5,hc1,hc2⟩:=hx.vw.out
 obtain rfl:=exV_inj hv5
 have hvw:=hx.vw
 have HX:=Lib.hid hvw
 clear hx hvw hv5 hc2
 have hex:exV x (.slice A x.f4.length c)=.agg #[.int .i64 x.f0,.string x.f1.f0,.string x.f1.f1,.string x.f2,.int .i64 x.f3,.slice A x.f4.length c]:=rfl
 rw [hex] at HX ⊢
 have hb2:=hb1.alloc hb1.size (.cells #[.int .i64 x.f0,.string x.f1.f0,.string x.f1.f1,.string x.f2,.int .i64 x.f3,.slice A x.f4.length c] 31)
 go_wp2_with fail
 refine (HP.out _ _ hb2 (HX.out.below ((Below.refl _ w1).alloc (Nat.le_refl _) _))).mono ?_
 rintro e w2 ⟨rfl,hb3⟩
 go_wp2
 go_ret
 exact ⟨rfl,hb2.trans (hb3.mono hb2.size)⟩
theorem free_told2 (v:Value) (w:World) (hv:Vw w xB v) (hS:Start w) :
  Calls Tryz.prog 33 #[v] w fun e w'=>∃ A c,e=.returned (.tuple #[.slice A 2 c,.int .i64 0])∧2≤c∧Kd.C Kd.string w' A 2 [⟨#[97]⟩,⟨#[105]⟩]∧Below w.heap.size w w':=by
 refine (Free_calls xB chkB (by rw [sizesA.2.2.1];omega) szsB smB v w hv hS).mono ?_
 rintro e w' ⟨u,ss,base,rfl,hp,ho,_,hb⟩
 rw [keysG] at hp
 obtain ⟨h1,h2⟩:=sorted2 ss hp
 rw [h1,h2] at ho
 obtain ⟨A,c,rfl,h4,h5⟩:=own_texts (xs:=[⟨#[97]⟩,⟨#[105]⟩]) ho
 exact ⟨A,c,rfl,h4,h5,hb⟩
set_option maxRecDepth 100000 in
set_option maxHeartbeats 4000000 in
theorem told2_calls (w:World) (hS:Start w) (hT:Tab w):Calls Tryz.prog 10 #[] w fun e w'=>e=.returned (.bool true)∧Below w.heap.size w w':=by
 have H1:=Lib.hid (toks_told)
 have HRA:=Lib.hid (fun w (hS:Start w)=>read_told tA plainA xA readA (by rw [lenA];exact parseA chk0) (by rw [sizesA.1];omega) w hS)
 have HRB:=Lib.hid (fun w (hS:Start w)=>read_told tB plainB xB readB (by rw [lenB];exact parseB chk0) (by rw [sizesA.2.2.1];omega) w hS)
 have HSZ:=Lib.hid (fun v w (hv:Vw w xA v) (hS:Start w)=>(by simpa [sizesA.1,sizesA.2.1] using Size_calls xA chkA (by rw [sizesA.1];omega) szsA v w hv hS:Calls Tryz.prog 35 #[v] w fun e w'=>e=.returned (.tuple #[.int .i64 5,.int .i64 3,.int .i64 0])∧Below w.heap.size w w'))
 have HFR:=Lib.hid (fun v w (hv:Vw w xB v) (hS:Start w)=>free_told2 v w hv hS)
 have HSC:=Lib.hid (fun w (hS:Start w) (hT:Tab w)=>(by rw [← textC];exact shown2 chk0 tC (readable_plain chk0 _ plainC) xC readC (by rw [lenC];exact parseC chk0) chkC (by rw [sizesA.2.2.2.2.1];omega) szsC txtC (by rw [textC];show 9≤2000;omega) w hS hT:Calls Tryz.prog 44 #[.string tC] w fun e w'=>e=.returned (.string ⟨#[45,97,32,42,32,98,94,45,50]⟩)∧Below w.heap.size w w'))
 have HSD:=Lib.hid (fun w (hS:Start w) (hT:Tab w)=>(by rw [← textD];exact shown2 chk0 tD (readable_plain chk0 _ plainD) xD readD (by rw [lenD];exact parseD chk0) chkD (by rw [sizesA.2.2.2.2.2.2.1];omega) szsD txtD (by rw [textD];show 11≤2000;omega) w hS hT:Calls Tryz.prog 44 #[.string tD] w fun e w'=>e=.returned (.string ⟨#[97,32,45,32,40,98,32,45,32,99,41]⟩)∧Below w.heap.size w w'))
 have HWE:=Lib.hid (fun w (hS:Start w)=>wrong_ok chk0 tE (readable_plain chk0 _ plainE) 2 readE (by rw [placeE];decide) w hS)
 go_enter Tryz.func10,Tryz.ntmps10
 go_wp2_with fail
 refine (H1.out _).mono ?_
 rintro e w1 ⟨A1,c1,rfl,hc1,hk1,hb1⟩
 clear H1
 have hk1:=Lib.hid hk1
 go_wp2_with fail
 refine (HRA.out _ (hS.below hb1)).mono ?_
 rintro e w2 ⟨A2,c2,rfl,hv2,hb2⟩
 clear HRA
 have hk2:=Lib.hid (Kd.C_below hk1.out hb2)
 have hb:=hb1.trans (hb2.mono hb1.size)
 clear hk1 hb1 hb2
 have hl2:xA.f4.length=2:=rfl
 rw [hl2] at hv2 ⊢
 have hv2:=Lib.hid hv2
 generalize xA.f0=a0 at *
 generalize xA.f1.f0=a1 at *
 generalize xA.f1.f1=a2 at *
 generalize xA.f2=a3 at *
 generalize xA.f3=a4 at *
 go_wp2_with fail
 have hb3:=hb.alloc hb.size (.cells #[.int .i64 a0,.string a1,.string a2,.string a3,.int .i64 a4,.slice A2 2 c2] 31)
 have hk3:=Lib.hid (Kd.C_alloc hk2.out (.cells #[.int .i64 a0,.string a1,.string a2,.string a3,.int .i64 a4,.slice A2 2 c2] 31))
 refine (HSZ.out _ _ (hv2.out.below ((Below.refl _ w2).alloc (Nat.le_refl _) _)) (hS.below hb3)).mono ?_
 rintro e w3 ⟨rfl,hb4⟩
 have hk4:=Lib.hid (Kd.C_below hk3.out hb4)
 have hb:=hb3.trans (hb4.mono hb3.size)
 clear hk2 hk3 hb3 hb4 hv2 HSZ
 go_wp2_with fail
 refine (HRB.out _ (hS.below hb)).mono ?_
 rintro e w4 ⟨A4,c4,rfl,hv4,hb4⟩
 clear HRB
 have hk5:=Lib.hid (Kd.C_below hk4.out hb4)
 have hb:=hb.trans (hb4.mono hb.size)
 clear hk4 hb4
 have hl4:xB.f4.length=2:=rfl
 rw [hl4] at hv4 ⊢
 have hv4:=Lib.hid hv4
 generalize xB.f0=b0 at *
 generalize xB.f1.f0=b1 at *
 generalize xB.f1.f1=b2 at *
 generalize xB.f2=b3 at *
 generalize xB.f3=b4 at *
 go_wp2_with fail
 have hb3:=hb.alloc hb.size (.cells #[.int .i64 b0,.string b1,.string b2,.string b3,.int .i64 b4,.slice A4 2 c4] 31)
 have hk3:=Lib.hid (Kd.C_alloc hk5.out (.cells #[.int .i64 b0,.string b1,.string b2,.string b3,.int .i64 b4,.slice A4 2 c4] 31))
 refine (HFR.out _ _ (hv4.out.below ((Below.refl _ w4).alloc (Nat.le_refl _) _)) (hS.below hb3)).mono ?_
 rintro e w5 ⟨A5,c5,rfl,hc5,hf5,hb4⟩
 have hk4:=Lib.hid (Kd.C_below hk3.out hb4)
 have hb:=hb3.trans (hb4.mono hb3.size)
 have hf5:=Lib.hid hf5
 clear hk3 hk5 hb3 hb4 hv4 HFR
 go_wp2_with fail
 refine (HSC.out _ (hS.below hb) (hT.below hb)).mono ?_
 rintro e w6 ⟨rfl,hb6⟩
 have hk6:=Lib.hid (Kd.C_below hk4.out hb6)
 have hf6:=Lib.hid (Kd.C_below hf5.out hb6)
 have hb:=hb.trans (hb6.mono hb.size)
 clear hb6 hk4 hf5 HSC
 go_wp2_with fail
 refine (HSD.out _ (hS.below hb) (hT.below hb)).mono ?_
 rintro e w7 ⟨rfl,hb6⟩
 have hk7:=Lib.hid (Kd.C_below hk6.out hb6)
 have hf7:=Lib.hid (Kd.C_below hf6.out hb6)
 have hb:=hb.trans (hb6.mono hb.size)
 clear hb6 hk6 hf6 HSD
 go_wp2_with fail
 refine (HWE.out _ (hS.below hb)).mono ?_
 rintro e w8 ⟨rfl,hb6⟩
 have hk8:=Lib.hid (Kd.C_below hk7.out hb6)
 have hf8:=Lib.hid (Kd.C_below hf7.out hb6)
 have hb:=hb.trans (hb6.mono hb.size)
 clear hb6 hk7 hf7 HWE
 go_wp2_with fail
 have hb:=hb.alloc hb.size (.cells #[.string ⟨#[97]⟩,.string ⟨#[105]⟩] 9)
 have hk9:=Lib.hid (Kd.C_alloc hk8.out (.cells #[.string ⟨#[97]⟩,.string ⟨#[105]⟩] 9))
 refine (metewandkit_EqTexts.calls 10 A5 c5 [⟨#[97]⟩,⟨#[105]⟩] (some ⟨w8.heap.size,0,none⟩) 2 [⟨#[97]⟩,⟨#[105]⟩] true _ (Kd.C_alloc hf8.out _) hc5 (lit_texts w8 [⟨#[97]⟩,⟨#[105]⟩] (by decide)) (Nat.le_refl _) eqt).mono ?_
 rintro e w9 ⟨rfl,hd9⟩
 obtain ⟨k9,hd9⟩:=hd9.out
 subst hd9
 have hk10:=Lib.hid (Kd.C_drewN hk9.out k9)
 have hb:=pw_below_drewN hb k9
 clear hk8 hk9 hf8
 go_wp2_with fail
 have hlit:=lit_toks ((w8.alloc (.cells #[.string ⟨#[97]⟩,.string ⟨#[105]⟩] 9)).drewN k9) [⟨0,⟨#[97,49]⟩,0⟩,⟨4,⟨#[43]⟩,2⟩,⟨2,⟨#[50]⟩,3⟩,⟨3,⟨#[109,47,115]⟩,4⟩] (by decide)
 rw [show ((w8.alloc (.cells #[.string ⟨#[97]⟩,.string ⟨#[105]⟩] 9)).drewN k9).heap.size=w8.heap.size+1 from by simp] at hlit
 have hb:=hb.alloc hb.size (.cells (flat [⟨0,⟨#[97,49]⟩,0⟩,⟨4,⟨#[43]⟩,2⟩,⟨2,⟨#[50]⟩,3⟩,⟨3,⟨#[109,47,115]⟩,4⟩]).toArray 47)
 refine (metewandkit_EqTokens.calls 10 A1 c1 [⟨0,⟨#[97,49]⟩,0⟩,⟨4,⟨#[43]⟩,2⟩,⟨2,⟨#[50]⟩,3⟩,⟨3,⟨#[109,47,115]⟩,4⟩] (some ⟨w8.heap.size+1,0,none⟩) 4 [⟨0,⟨#[97,49]⟩,0⟩,⟨4,⟨#[43]⟩,2⟩,⟨2,⟨#[50]⟩,3⟩,⟨3,⟨#[109,47,115]⟩,4⟩] true _ (Kd.C_alloc hk10.out _) hc1 hlit (Nat.le_refl _) eqk).mono ?_
 rintro e w10 ⟨rfl,hd⟩
 obtain ⟨k10,hd⟩:=hd.out
 subst hd
 have hb:=pw_below_drewN hb k10
 go_wp2
 go_ret
 exact ⟨rfl,hb⟩
end Go.Proofs.YtjaobihcdkjmbaaGreatDoor
end
section
namespace Go.Proofs.YtjaobihcdkjmbaaGreatDoor
open Go.RowKit Go.Proofs.YtjaobihcdkjmbaaGreatDoorW.PrintWords Go.Proofs.YtjaobihcdkjmbaaGreatDoor.PReadTokens
set_option maxRecDepth 100000 in
theorem NewRod_calls (A:Option Addr) (l:List Int) (c:Nat) (hl:l.length≤9223372036854775807) (w:World) (hc:Kd.C (Kd.int .i64) w A l.length l) :
  Calls Tryz.prog 11 #[.slice A l.length c] w fun e w'=>e=.returned (.pointer (some ⟨w.heap.size,0,none⟩))∧Rod w' w.heap.size 0∧Below w.heap.size w w':=by
 have hcells:∀ i,i < l.length→∃ ad x,A=some ad∧w.cell? (ad.add i)=some (.int .i64 x)∧ad.block < w.heap.size:=by
  intro i hi
  obtain ⟨ad,h1,h2⟩:=Kd.at_int hc i (by omega) (by omega)
  have h3:=World.block_lt_of_cell? w _ h2
  rw [addr_block] at h3
  exact ⟨ad,_,h1,h2,h3⟩
 have HC:=Lib.hid hcells
 clear hcells hc
 have BW:=(Below.refl w.heap.size w).alloc (Nat.le_refl _) (.cells #[.slice A l.length c,.int .i64 0,.int .u64 7640891576956012809] 77)
 have hb:=Lib.hid (blk_new w (.cells #[.slice A l.length c,.int .i64 0,.int .u64 7640891576956012809] 77))
 go_enter Tryz.func11,Tryz.ntmps11
 go_wp2
 go_ret
 refine ⟨rfl,⟨A,l.length,c,0,_,hb.out,by omega,by omega,hl,fun i hi=>?_⟩,BW⟩
 obtain ⟨ad,x,h1,h2,h3⟩:=HC.out i hi
 exact ⟨ad,x,h1,pw_cell_below BW h2,h3⟩
end Go.Proofs.YtjaobihcdkjmbaaGreatDoor
end
section
namespace Go.Proofs.YtjaobihcdkjmbaaGreatDoor
open Go.RowKit Go.Maps Go.Proofs.YtjaobihcdkjmbaaGreatDoorW.PrintWords Go.Proofs.YtjaobihcdkjmbaaGreatDoor.PReadTokens
set_option maxRecDepth 100000 in
set_option maxHeartbeats 2000000 in
theorem ReadFree_calls (A:Option Addr) (l:List Int) (c:Nat) (hl:l.length≤9223372036854775807) (w:World) (hc:Kd.C (Kd.int .i64) w A l.length l) (hS:Start w) (hT:Tab w) :
  Calls Tryz.prog 8 #[.slice A l.length c] w fun e w'=>e=.returned (.bool true)∧Below w.heap.size w w':=by
 have hr:=NewRod_calls A l c hl w hc
 have HS:=Lib.hid hS
 have HT:=Lib.hid hT
 clear hc hS hT hl
 go_enter Tryz.func8,Tryz.ntmps8
 go_wp2_with fail
 refine hr.mono ?_
 rintro e w1 ⟨rfl,r1,hb1⟩
 clear hr
 have hx:=ExprOf_calls 3 (by decide) w.heap.size 0 w1 r1 (by decide)
 go_wp2_with fail
 refine hx.mono ?_
 rintro e w2 ⟨x,vx,rfl,hx1,hx2,r2,g2⟩
 have hb2:Below w.heap.size w w2:=hb1.grown g2 (Nat.le_of_lt r1.lt) (fun k e=>by injection e with e;omega)
 have hy:=ExprOf_calls 1 (by decide) w.heap.size (0+cost 3) w2 r2 (by decide)
 clear hx hb1 g2
 obtain ⟨v5,Ax,nx,cx,rfl,rfl,_,hMx⟩:=hx2.cells
 unfold exV
 have HX1:=Lib.hid hx1
 have HX2:=Lib.hid hx2
 clear hx1 hx2 hMx
 go_wp2_with fail
 refine hy.mono ?_
 rintro e w3 ⟨y,vy,rfl,hy1,hy2,r3,g3⟩
 have hb3:Below w.heap.size w w3:=hb2.grown g3 hb2.size (fun k e=>by injection e with e;omega)
 have hx3:=HX2.out.grown g3 (fun k hk=>by have:=r1.lt;simp only [From] at hk;omega)
 obtain ⟨v5,Ay,ny,cy,rfl,rfl,_,hMy⟩:=hy2.cells
 unfold exV
 have HY1:=Lib.hid hy1
 have HY2:=Lib.hid hy2
 have HX3:=Lib.hid hx3
 have hb:=(Below.refl w3.heap.size w3).alloc (Nat.le_refl _) (.cells (nameL.map Value.string).toArray 9)
 have hp:=PickText_calls w.heap.size (0+cost 3+cost 1) ⟨w3.heap.size,0,none⟩ nameL _ (r3.below hb) (by decide) (lit_strs w3 w.heap.size nameL r3.lt) (by decide) (by decide)
 clear hy hb2 hy1 hy2 hMy hx3 HX2
 go_wp2_with fail
 refine hp.mono ?_
 rintro e w4 ⟨⟨name,rfl,hname⟩,r4,g4⟩
 have HN:=Lib.hid hname
 clear hp hname
 have hx4:=HX3.out.step (w1:=w4) (fun k hk hlt=>by
  have h1:=r1.lt
  simp only [From] at hk
  exact (g4.block k (by rw [World.size_alloc];omega) (fun e=>by injection e with e;omega)).trans (Below.heap_alloc _ _ _ hlt))
 have hy4:=HY2.out.step (w1:=w4) (fun k hk hlt=>by
  have h1:=r2.lt
  simp only [From] at hk
  exact (g4.block k (by rw [World.size_alloc];omega) (fun e=>by injection e with e;omega)).trans (Below.heap_alloc _ _ _ hlt))
 have hb4:Below w.heap.size w w4:=(hb3.alloc hb3.size _).grown g4 (by rw [World.size_alloc];have:=hb3.size;omega) (fun k e=>by injection e with e;omega)
 have hbA:=(Below.refl w4.heap.size w4).alloc (Nat.le_refl _) (.cells #[.int .i64 x.f0,.string x.f1.f0,.string x.f1.f1,.string x.f2,.int .i64 x.f3,.slice Ax nx cx] 31)
 have hbB:=hbA.alloc hbA.size (.cells #[.int .i64 y.f0,.string y.f1.f0,.string y.f1.f1,.string y.f2,.int .i64 y.f3,.slice Ay ny cy] 31)
 have hvx:Vw ((w4.alloc (.cells #[.int .i64 x.f0,.string x.f1.f0,.string x.f1.f1,.string x.f2,.int .i64 x.f3,.slice Ax nx cx] 31)).alloc (.cells #[.int .i64 y.f0,.string y.f1.f0,.string y.f1.f1,.string y.f2,.int .i64 y.f3,.slice Ay ny cy] 31)) x (exV x (.slice Ax nx cx)):=hx4.vw.below hbB
 have hvy:Vw ((w4.alloc (.cells #[.int .i64 x.f0,.string x.f1.f0,.string x.f1.f1,.string x.f2,.int .i64 x.f3,.slice Ax nx cx] 31)).alloc (.cells #[.int .i64 y.f0,.string y.f1.f0,.string y.f1.f1,.string y.f2,.int .i64 y.f3,.slice Ay ny cy] 31)) y (exV y (.slice Ay ny cy)):=hy4.vw.below hbB
 have hbW:=hb4.trans (hbB.mono hb4.size)
 have kx:((w4.alloc (.cells #[.int .i64 x.f0,.string x.f1.f0,.string x.f1.f1,.string x.f2,.int .i64 x.f3,.slice Ax nx cx] 31)).alloc (.cells #[.int .i64 y.f0,.string y.f1.f0,.string y.f1.f1,.string y.f2,.int .i64 y.f3,.slice Ay ny cy] 31)).heap[w4.heap.size]?=some (.cells #[.int .i64 x.f0,.string x.f1.f0,.string x.f1.f1,.string x.f2,.int .i64 x.f3,.slice Ax nx cx] 31 (0,0)):=(Below.heap_alloc _ _ _ (by simp)).trans (blk_new w4 _)
 have ky:((w4.alloc (.cells #[.int .i64 x.f0,.string x.f1.f0,.string x.f1.f1,.string x.f2,.int .i64 x.f3,.slice Ax nx cx] 31)).alloc (.cells #[.int .i64 y.f0,.string y.f1.f0,.string y.f1.f1,.string y.f2,.int .i64 y.f3,.slice Ay ny cy] 31)).heap[w4.heap.size+1]?=some (.cells #[.int .i64 y.f0,.string y.f1.f0,.string y.f1.f1,.string y.f2,.int .i64 y.f3,.slice Ay ny cy] 31 (0,0)):=by
  have:=blk_new (w4.alloc (.cells #[.int .i64 x.f0,.string x.f1.f0,.string x.f1.f1,.string x.f2,.int .i64 x.f3,.slice Ax nx cx] 31)) (.cells #[.int .i64 y.f0,.string y.f1.f0,.string y.f1.f1,.string y.f2,.int .i64 y.f3,.slice Ay ny cy] 31)
  rwa [World.size_alloc] at this
 have hrp:=Replace_made name HN.out x y HX1.out HY1.out _ _ _ hvx hvy (HS.out.below hbW)
 have hfx:=made_fine 3 (by omega) x HX1.out
 have hfy:=made_fine 1 (by omega) y HY1.out
 unfold exV at hrp
 obtain ⟨W0,hW0⟩:∃ X,X=(w4.alloc (.cells #[.int .i64 x.f0,.string x.f1.f0,.string x.f1.f1,.string x.f2,.int .i64 x.f3,.slice Ax nx cx] 31)).alloc (.cells #[.int .i64 y.f0,.string y.f1.f0,.string y.f1.f1,.string y.f2,.int .i64 y.f3,.slice Ay ny cy] 31):=⟨_,rfl⟩
 rw [← hW0] at hvx hvy hbW kx ky hrp
 have HVX:=Lib.hid hvx
 have HVY:=Lib.hid hvy
 have HBW:=Lib.hid hbW
 have KX:=Lib.hid kx
 have KY:=Lib.hid ky
 have HFX:=Lib.hid hfx
 have HFY:=Lib.hid hfy
 have HRP:=Lib.hid hrp
 have HW0:=Lib.hid hW0
 clear hx4 hy4 hb4 hbA hbB hvx hvy hbW kx ky hrp hfx hfy hb3 hb g3 g4 r1 r2 r3 r4 HX3 HY2 HX1 HY1 HN hW0
 go_wp2_with fail
 rw [← HW0.out]
 clear HW0
 refine HRP.out.mono ?_
 rintro e w5 ⟨hb5,hres⟩
 have hbw5:=HBW.out.trans (hb5.mono HBW.out.size)
 rcases hres with ⟨z,u,hbz,rfl,hu⟩ | ⟨n,hn,rfl⟩
 ·obtain ⟨v5,Az,nz,cz,rfl,rfl,_,hMz⟩:=hu.cells
  have hba:=(Below.refl w5.heap.size w5).alloc (Nat.le_refl _) (.cells #[.int .i64 z.f0,.string z.f1.f0,.string z.f1.f1,.string z.f2,.int .i64 z.f3,.slice Az nz cz] 31)
  have hvx:Vw (w5.alloc (.cells #[.int .i64 z.f0,.string z.f1.f0,.string z.f1.f1,.string z.f2,.int .i64 z.f3,.slice Az nz cz] 31)) x (exV x (.slice Ax nx cx)):=(HVX.out.below hb5).below hba
  have hvy:Vw (w5.alloc (.cells #[.int .i64 z.f0,.string z.f1.f0,.string z.f1.f1,.string z.f2,.int .i64 z.f3,.slice Az nz cz] 31)) y (exV y (.slice Ay ny cy)):=(HVY.out.below hb5).below hba
  have hvz:Vw (w5.alloc (.cells #[.int .i64 z.f0,.string z.f1.f0,.string z.f1.f1,.string z.f2,.int .i64 z.f3,.slice Az nz cz] 31)) z (exV z (.slice Az nz cz)):=hu.vw.below hba
  have kx:(w5.alloc (.cells #[.int .i64 z.f0,.string z.f1.f0,.string z.f1.f1,.string z.f2,.int .i64 z.f3,.slice Az nz cz] 31)).heap[w4.heap.size]?=some (.cells #[.int .i64 x.f0,.string x.f1.f0,.string x.f1.f1,.string x.f2,.int .i64 x.f3,.slice Ax nx cx] 31 (0,0)):=bcell hba (bcell hb5 KX.out)
  have ky:(w5.alloc (.cells #[.int .i64 z.f0,.string z.f1.f0,.string z.f1.f1,.string z.f2,.int .i64 z.f3,.slice Az nz cz] 31)).heap[w4.heap.size+1]?=some (.cells #[.int .i64 y.f0,.string y.f1.f0,.string y.f1.f1,.string y.f2,.int .i64 y.f3,.slice Ay ny cy] 31 (0,0)):=bcell hba (bcell hb5 KY.out)
  have kz:(w5.alloc (.cells #[.int .i64 z.f0,.string z.f1.f0,.string z.f1.f1,.string z.f2,.int .i64 z.f3,.slice Az nz cz] 31)).heap[w5.heap.size]?=some (.cells #[.int .i64 z.f0,.string z.f1.f0,.string z.f1.f1,.string z.f2,.int .i64 z.f3,.slice Az nz cz] 31 (0,0)):=blk_new w5 _
  have hbw6:=hbw5.alloc hbw5.size (.cells #[.int .i64 z.f0,.string z.f1.f0,.string z.f1.f1,.string z.f2,.int .i64 z.f3,.slice Az nz cz] 31)
  obtain ⟨W6,hW6⟩:∃ X,X=w5.alloc (.cells #[.int .i64 z.f0,.string z.f1.f0,.string z.f1.f1,.string z.f2,.int .i64 z.f3,.slice Az nz cz] 31):=⟨_,rfl⟩
  obtain ⟨bz,hbzz⟩:∃ k,k=w5.heap.size:=⟨_,rfl⟩
  rw [← hW6] at hvx hvy hvz kx ky kz hbw6
  rw [← hbzz] at kz
  replace HVX:=Lib.hid hvx
  replace HVY:=Lib.hid hvy
  have HVZ:=Lib.hid hvz
  replace KX:=Lib.hid kx
  replace KY:=Lib.hid ky
  have KZ:=Lib.hid kz
  have HB6:=Lib.hid hbw6
  have HBH:=Lib.hid hbz
  have HW6:=Lib.hid hW6
  have HBZ:=Lib.hid hbzz
  clear hvx hvy hvz kx ky kz hbw6 hbz hMz hu hba hb5 hbw5 HRP HBW hW6 hbzz
  unfold exV
  go_upto_region 6 with (fail)
  rw [← HW6.out]
  clear HW6
  have fx:=Free_names x HFX.out.chk (by have:=HFX.out.nodes;omega) HFX.out.sz HFX.out.small _ W6 HVX.out (HS.out.below HB6.out)
  unfold exV NamPost at fx
  obtain ⟨⟨c0,c1,c2,c3,c4,c5⟩,_,xl⟩:=cells6 KX.out
  go_wp2_with fail
  refine fx.mono ?_
  rintro e w7 ⟨A1,c1',l1,rfl,hc1,hm1,hf1,hC1,hb7⟩
  clear fx c0 c1 c2 c3 c4 c5 xl
  have hB7:=HB6.out.trans (hb7.mono HB6.out.size)
  have fy:=Free_names y HFY.out.chk (by have:=HFY.out.nodes;omega) HFY.out.sz HFY.out.small _ w7 (HVY.out.below hb7) (HS.out.below hB7)
  unfold exV NamPost at fy
  obtain ⟨⟨c0,c1,c2,c3,c4,c5⟩,_,xl⟩:=cells6 (bcell hb7 KY.out)
  have HF1:=Lib.hid hf1
  have HC1:=Lib.hid hC1
  have HB7:=Lib.hid hb7
  clear hf1 hC1 hB7
  go_wp2_with fail
  refine fy.mono ?_
  rintro e w8 ⟨A2,c2',l2,rfl,hc2,hm2,hf2,hC2,hb8⟩
  clear fy c0 c1 c2 c3 c4 c5 xl
  have hb68:=HB7.out.trans (hb8.mono HB7.out.size)
  have hB8:=HB6.out.trans (hb68.mono HB6.out.size)
  have fz:=Free_names z HBH.out.fine.chk (by have:=HBH.out.fine.nodes;omega) HBH.out.fine.sz HBH.out.fine.small _ w8 (HVZ.out.below hb68) (HS.out.below hB8)
  unfold exV NamPost at fz
  obtain ⟨⟨c0,c1,c2,c3,c4,c5⟩,_,xl⟩:=cells6 (bcell hb68 KZ.out)
  have HF2:=Lib.hid hf2
  have HC2:=Lib.hid hC2
  have HC1':=Lib.hid (Kd.C_below HC1.out hb8)
  have HB8:=Lib.hid hb68
  clear hf2 hC2 hB8 hb68 hb8 hb7 HC1 HB7
  rw [HBZ.out] at c0 c1 c2 c3 c4 c5
  go_wp2_with fail
  refine fz.mono ?_
  rintro e w9 ⟨A3,c3',l3,rfl,hc3,hm3,hf3,hC3,hb9⟩
  clear fz c0 c1 c2 c3 c4 c5 xl
  have HF3:=Lib.hid hf3
  have HC3:=Lib.hid hC3
  have HC2':=Lib.hid (Kd.C_below HC2.out hb9)
  have HC1:=Lib.hid (Kd.C_below HC1'.out hb9)
  have HB9:=Lib.hid (HB8.out.trans (hb9.mono HB8.out.size))
  obtain ⟨r,hr,hpl⟩:=place_calls A1 c1' l1 name hm1 w9 HC1.out hc1
  have HR:=Lib.hid hr
  clear hf3 hC3 hb9 HC2 HC1' HB8 hr
  obtain ⟨th,hth⟩:∃ b,b=has (freeG x) (nmL name):=⟨_,rfl⟩
  have hd0:decide ((0:Int)≤r)=th:=by
   rw [hth]
   cases hh:has (freeG x) (nmL name)
   ·rw [decide_eq_false_iff_not];intro h;have:=(HF1.out name).1 (HR.out.1 h);rw [hh] at this;cases this
   ·rw [decide_eq_true_eq];exact HR.out.2 ((HF1.out name).2 hh)
  have HTH:=Lib.hid hth
  clear hth HR
  go_upto_region 12 with (refine hpl.mono ?_;rintro e w10 ⟨rfl,hd10⟩)
  have HB10:=Lib.hid hd10.below
  clear hpl hd10 hd0
  go_wp2_with fail
  go_loopg [16] l1.length (fun k v16 wr=>∃ j:Nat,v16=.int .i64 j∧j+k=l1.length∧Hid (Below w9.heap.size w9 wr))
  case atStart=>exact ⟨0,rfl,by omega,HB10⟩
  case round =>
   clear HB10
   obtain ⟨j,rfl,hj,hb⟩:=hrel
   by_cases hjl:j < l1.length
   ·obtain ⟨ad,e1,hc⟩:=Kd.at_string (Kd.C_below HC1.out hb.out) (j:Int) (by omega) (by omega)
    rw [Int.toNat_natCast] at hc
    have htm:rdOf ByteArray.empty l1 (j:Int) ∈ l1:=by unfold rdOf;simp [hjl]
    generalize rdOf ByteArray.empty l1 (j:Int)=t at *
    cases e1
    by_cases e:t=name
    ·have hne:(t.toList != name.toList)=false:=by rw [e];simp
     have hne2:(t.toList == name.toList)=true:=by rw [e];simp
     clear e
     go_wp2_with fail
     go_roundg (gk - 1)
     case measure=>omega
     case rel=>exact ⟨j+1,by go_num,by omega,hb⟩
    ·have hne:(t.toList != name.toList)=true:=by rw [bne_iff_ne];exact fun h=>e (toList_inj.1 h)
     have hne2:(t.toList == name.toList)=false:=by rw [beq_eq_false_iff_ne];exact fun h=>e (toList_inj.1 h)
     have h3:t ∈ l3:=(HF3.out t).2 ((HBH.out.free t).2 (.inl ⟨(HF1.out t).1 htm,e⟩))
     obtain ⟨r',hr',hpl'⟩:=place_calls A3 c3' l3 t hm3 wr (Kd.C_below HC3.out hb.out) hc3
     have hr0:decide (r' < 0)=false:=decide_eq_false (by have:=hr'.2 h3;omega)
     clear e hr' h3 htm
     go_wp2_with fail
     refine hpl'.mono ?_
     rintro e wq ⟨rfl,hdq⟩
     clear hc
     go_wp2_with fail
     have hb2:=hb.out.trans (hdq.below.mono hb.out.size)
     go_roundg (gk - 1)
     case measure=>omega
     case rel=>exact ⟨j+1,by go_num,by omega,Lib.hid hb2⟩
   ·go_upto_region 18 with (fail)
    clear hj hjl
    go_loopg [17] l3.length (fun k v17 wr=>∃ j:Nat,v17=.int .i64 j∧j+k=l3.length∧Hid (Below w9.heap.size w9 wr))
    case atStart=>exact ⟨0,rfl,by omega,hb⟩
    case round =>
     clear hb
     obtain ⟨j,rfl,hj,hb⟩:=hrel
     by_cases hjl:j < l3.length
     ·obtain ⟨ad,e1,hc⟩:=Kd.at_string (Kd.C_below HC3.out hb.out) (j:Int) (by omega) (by omega)
      rw [Int.toNat_natCast] at hc
      have htm:rdOf ByteArray.empty l3 (j:Int) ∈ l3:=by unfold rdOf;simp [hjl]
      generalize rdOf ByteArray.empty l3 (j:Int)=t at *
      cases e1
      have hfree:=(HBH.out.free t).1 ((HF3.out t).1 htm)
      have hin:th=false→t ∈ l1:=fun e=>by
       rcases hfree with ⟨h1,_⟩ | ⟨h1,_⟩
       ·exact (HF1.out t).2 h1
       ·rw [← HTH.out,e] at h1;cases h1
      obtain ⟨r1,hr1,hpl1⟩:=place_calls A2 c2' l2 t hm2 wr (Kd.C_below HC2'.out hb.out) hc2
      by_cases ho:t ∈ l2
      ·have hr10:decide (r1 < 0)=false:=decide_eq_false (by have:=hr1.2 ho;omega)
       clear hr1 ho hfree htm
       go_wp2_with fail
       refine hpl1.mono ?_
       rintro e wq ⟨rfl,hdq⟩
       have hbq:=hb.out.trans (hdq.below.mono hb.out.size)
       have hc:=pw_cell_below hdq.below hc
       cases th with
       | true =>
        go_wp2_with fail
        go_roundg (gk - 1)
        case measure=>omega
        case rel=>exact ⟨j+1,by go_num,by omega,Lib.hid hbq⟩
       | false =>
        have hbf:t ∈ l1:=hin rfl
        obtain ⟨r3,hr3,hpl3⟩:=place_calls A1 c1' l1 t hm1 _ (Kd.C_below HC1.out hbq) hc1
        have hr30:decide (r3 < 0)=false:=decide_eq_false (by have:=hr3.2 hbf;omega)
        clear hr3 hbf hin
        go_wp2_with fail
        refine hpl3.mono ?_
        rintro e ws ⟨rfl,hds⟩
        have hbs:=hbq.trans (hds.below.mono hbq.size)
        clear hc
        go_wp2_with fail
        go_roundg (gk - 1)
        case measure=>omega
        case rel=>exact ⟨j+1,by go_num,by omega,Lib.hid hbs⟩
      ·have hr10:decide (r1 < 0)=true:=decide_eq_true (by by_cases h:0≤r1;(· exact absurd (hr1.1 h) ho);omega)
       have hbf:t ∈ l1∧t≠name:=by
        rcases hfree with ⟨h1,h2⟩ | ⟨_,h2⟩
        ·exact ⟨(HF1.out t).2 h1,h2⟩
        ·exact absurd ((HF2.out t).2 h2) ho
       have hne:(t.toList == name.toList)=false:=by rw [beq_eq_false_iff_ne];exact fun h=>hbf.2 (toList_inj.1 h)
       clear hr1 ho hfree htm
       go_wp2_with fail
       refine hpl1.mono ?_
       rintro e wp ⟨rfl,hdp⟩
       have hbp:=hb.out.trans (hdp.below.mono hb.out.size)
       have hc:=pw_cell_below hdp.below hc
       obtain ⟨r2,hr2,hpl2⟩:=place_calls A1 c1' l1 t hm1 _ (Kd.C_below HC1.out hbp) hc1
       have hr20:decide (r2 < 0)=false:=decide_eq_false (by have:=hr2.2 hbf.1;omega)
       clear hr2 hbf
       go_wp2_with fail
       refine hpl2.mono ?_
       rintro e wq ⟨rfl,hdq⟩
       have hbq:=hbp.trans (hdq.below.mono hbp.size)
       have hc:=pw_cell_below hdq.below hc
       cases th with
       | true =>
        go_wp2_with fail
        go_roundg (gk - 1)
        case measure=>omega
        case rel=>exact ⟨j+1,by go_num,by omega,Lib.hid hbq⟩
       | false =>
        have hbf:t ∈ l1:=hin rfl
        obtain ⟨r3,hr3,hpl3⟩:=place_calls A1 c1' l1 t hm1 _ (Kd.C_below HC1.out hbq) hc1
        have hr30:decide (r3 < 0)=false:=decide_eq_false (by have:=hr3.2 hbf;omega)
        clear hr3 hbf hin
        go_wp2_with fail
        refine hpl3.mono ?_
        rintro e ws ⟨rfl,hds⟩
        have hbs:=hbq.trans (hds.below.mono hbq.size)
        clear hc
        go_wp2_with fail
        go_roundg (gk - 1)
        case measure=>omega
        case rel=>exact ⟨j+1,by go_num,by omega,Lib.hid hbs⟩
     ·have hq:=HB9.out.trans (hb.out.mono HB9.out.size)
      clear hb hj
      rw [HBZ.out] at KZ
      obtain ⟨⟨c0,c1,c2,c3,c4,c5⟩,_,xl⟩:=cells6 (bcell hq KX.out)
      have sz:=Size_calls x HFX.out.chk (by have:=HFX.out.nodes;omega) HFX.out.sz _ wr (HVX.out.below hq) (HS.out.below (HB6.out.trans (hq.mono HB6.out.size)))
      unfold exV at sz
      go_wp2_with fail
      refine sz.mono ?_
      rintro e s1 ⟨rfl,hs⟩
      have hq':=hq.trans (hs.mono hq.size)
      clear sz c0 c1 c2 c3 c4 c5 xl hs hq
      obtain ⟨⟨c0,c1,c2,c3,c4,c5⟩,_,xl⟩:=cells6 (bcell hq' KY.out)
      have sz:=Size_calls y HFY.out.chk (by have:=HFY.out.nodes;omega) HFY.out.sz _ s1 (HVY.out.below hq') (HS.out.below (HB6.out.trans (hq'.mono HB6.out.size)))
      unfold exV at sz
      go_wp2_with fail
      refine sz.mono ?_
      rintro e s2 ⟨rfl,hs⟩
      have hq'':=hq'.trans (hs.mono hq'.size)
      clear sz c0 c1 c2 c3 c4 c5 xl hs hq'
      obtain ⟨⟨c0,c1,c2,c3,c4,c5⟩,_,xl⟩:=cells6 (bcell hq'' KZ.out)
      have sz:=Size_calls z HBH.out.fine.chk (by have:=HBH.out.fine.nodes;omega) HBH.out.fine.sz _ s2 (HVZ.out.below hq'') (HS.out.below (HB6.out.trans (hq''.mono HB6.out.size)))
      unfold exV at sz
      go_wp2_with fail
      refine sz.mono ?_
      rintro e s3 ⟨rfl,hs⟩
      have hq''':=hq''.trans (hs.mono hq''.size)
      clear sz c0 c1 c2 c3 c4 c5 xl hs hq''
      obtain ⟨⟨c0,c1,c2,c3,c4,c5⟩,_,xl⟩:=cells6 (bcell hq''' KX.out)
      have hct:=HBH.out.count
      have hfew:=HBH.out.few
      have hnx:=HFX.out.nodes
      have hny:=HFY.out.nodes
      have hnz:=HBH.out.fine.nodes
      have ct1:=cntX_calls name x (by omega) HFX.out.ok _ s3 (HVX.out.below hq''')
      unfold exV at ct1
      have hth:th=decide (0 < cntX name x):=HTH.out.trans (free_count name _ x (Nat.le_refl _) HFX.out.small)
      generalize nodesX x=mx at *
      generalize nodesX y=my at *
      generalize nodesX z=mz at *
      obtain ⟨cn,hcn⟩:∃ k,k=cntX name x:=⟨_,rfl⟩
      rw [← hcn] at hct hfew ct1 hth
      have HCN:=Lib.hid hcn
      clear hcn
      have HCT:=Lib.hid hct
      have HTH2:=Lib.hid hth
      clear hct hth
      go_wp2_with fail
      refine ct1.mono ?_
      rintro e s4 ⟨rfl,hs4⟩
      have hq4:=hq'''.trans (hs4.mono hq'''.size)
      have ct2:=cntX_calls name x (by have:=HFX.out.nodes;omega) HFX.out.ok _ s4 (HVX.out.below hq4)
      unfold exV at ct2
      clear ct1 c0 c1 c2 c3 c4 c5 xl hs4
      obtain ⟨⟨c0,c1,c2,c3,c4,c5⟩,_,xl⟩:=cells6 (bcell hq4 KX.out)
      have hct:=HCT.out
      obtain ⟨pr,hpr⟩:∃ p,p=(cn:Int) * ((my:Int) - 1):=⟨_,rfl⟩
      rw [← hpr] at hct
      have e1:IntKind.i64.wrap ((my:Int) - 1)=(my:Int) - 1:=by simp [IntKind.wrap,IntKind.bits,IntKind.signed];omega
      have e2:IntKind.i64.wrap ((cn:Int) * ((my:Int) - 1))=pr:=by rw [← hpr];simp [IntKind.wrap,IntKind.bits,IntKind.signed];omega
      have e3:IntKind.i64.wrap ((mx:Int)+pr)=(mz:Int):=by simp [IntKind.wrap,IntKind.bits,IntKind.signed];omega
      have e4:((mz:Int) == (mz:Int))=true:=by simp
      have e5:decide ((0:Int) < (cn:Int))=th:=by rw [HTH2.out,decide_eq_decide];omega
      have e6:(th == th)=true:=by simp
      have e7:decide (0 < cn)=th:=HTH2.out.symm
      have ecn:cn=cntX name x:=HCN.out
      rw [← ecn] at ct2
      have HCT2:=Lib.hid ct2
      clear ct2 hct hpr ecn HCT HTH2
      go_wp2_with fail
      refine HCT2.out.mono ?_
      rintro e s5 ⟨rfl,hs5⟩
      have hq5:=hq4.trans (hs5.mono hq4.size)
      have hfin5:=HB6.out.trans (hq5.mono HB6.out.size)
      have ht:=told2_calls s5 (HS.out.below hfin5) (HT.out.below hfin5)
      clear c0 c1 c2 c3 c4 c5 xl hs5
      go_wp2_with fail
      refine ht.mono ?_
      rintro e s6 ⟨rfl,hs6⟩
      have hfin6:=hfin5.trans (hs6.mono hfin5.size)
      go_wp2
      go_ret
      exact ⟨rfl,hfin6⟩
 ·have hbw6:=hbw5.alloc hbw5.size (.cells #[.int .i64 0,.string ⟨#[]⟩,.string ⟨#[]⟩,.string ⟨#[]⟩,.int .i64 0,.slice none 0 0] 31)
  have ht:=told2_calls _ (HS.out.below hbw6) (HT.out.below hbw6)
  have HTT:=Lib.hid ht
  have HB6:=Lib.hid hbw6
  clear ht hbw5 hbw6
  rcases hn with rfl | rfl
  ·go_wp2_with fail
   refine HTT.out.mono ?_
   rintro e w6 ⟨rfl,hb6⟩
   have hfin:=HB6.out.trans (hb6.mono HB6.out.size)
   go_wp2
   go_ret
   exact ⟨rfl,hfin⟩
  ·go_wp2_with fail
   refine HTT.out.mono ?_
   rintro e w6 ⟨rfl,hb6⟩
   have hfin:=HB6.out.trans (hb6.mono HB6.out.size)
   go_wp2
   go_ret
   exact ⟨rfl,hfin⟩
end Go.Proofs.YtjaobihcdkjmbaaGreatDoor
end
section
namespace Go.Proofs.YtjaobihcdkjmbaaGreatDoor
open Go.RowKit Go.ChangeShapes Go.WideShapes Go.ChangeAt
abbrev laidL : List (String × DataW Unit) := [("math/bits.deBruijn32tab", Rows.laid_math_bits_deBruijn32tab), ("math/bits.deBruijn64tab", Rows.laid_math_bits_deBruijn64tab), ("internal/strconv.uint64pow10", Rows.laid_internal_strconv_uint64pow10), ("errors.errorType", Rows.laid_errors_errorType), ("strconv.ErrRange", Rows.laid_strconv_ErrRange), ("strconv.ErrSyntax", Rows.laid_strconv_ErrSyntax)]
theorem noKnob:ownKnob Tryz.prog.godebug=none:=by kernel_rfl
theorem gErr : Tryz.prog.globalNamed "errors.errorType" = some 0 := by kernel_rfl
theorem gPow : Tryz.prog.globalNamed "internal/strconv.uint64pow10" = some 2 := by kernel_rfl
theorem gSyn : Tryz.prog.globalNamed "strconv.ErrSyntax" = some 5 := by kernel_rfl
theorem gRng : Tryz.prog.globalNamed "strconv.ErrRange" = some 6 := by kernel_rfl
theorem tSyn:(Tryz.prog.globals[5]?).map (·.type)=some 134:=by kernel_rfl
theorem tRng:(Tryz.prog.globals[6]?).map (·.type)=some 134:=by kernel_rfl
theorem starE : "*" ++ "errors.errorString" = "*errors.errorString" := by decide
theorem row337 (u : TypeId) (h : Tryz.prog.typeName? 3 u = some "*errors.errorString") : u = 337 :=
 typeName_ptr_named (nm := "errors.errorString") (by rw [starE]; kernel_rfl) (by kernel_rfl) (by decide) u (by rw [starE]; exact h)
theorem cells339:Tryz.prog.cellsOf 339=1:=by kernel_rfl
theorem cells9':Tryz.prog.cellsOf 9=1:=by kernel_rfl
theorem rtypeRow : (Tryz.prog.cutTypes.find? (·.1 == "internal/reflectlite.rtype")).map (·.2) = some 209 := by kernel_rfl
theorem errorRow:((List.range 367).filter fun t=>Tryz.prog.rowNamed t [101,114,114,111,114])=[134]:=by kernel_rfl
theorem typesSize:Tryz.prog.types.size=367:=by kernel_rfl
theorem filtH : (laidL.filter fun x => x.2.handleName?.isSome) = [("errors.errorType", Rows.laid_errors_errorType)] := rfl
theorem filtN : (laidL.filter fun x => x.2.handleName?.isNone) = [("math/bits.deBruijn32tab", Rows.laid_math_bits_deBruijn32tab), ("math/bits.deBruijn64tab", Rows.laid_math_bits_deBruijn64tab), ("internal/strconv.uint64pow10", Rows.laid_internal_strconv_uint64pow10), ("strconv.ErrRange", Rows.laid_strconv_ErrRange), ("strconv.ErrSyntax", Rows.laid_strconv_ErrSyntax)] := rfl
theorem laid_parts {W : World} (h : laidMetH Tryz.prog laidL W) : laidMet Tryz.prog [("math/bits.deBruijn32tab", Rows.laid_math_bits_deBruijn32tab), ("math/bits.deBruijn64tab", Rows.laid_math_bits_deBruijn64tab), ("internal/strconv.uint64pow10", Rows.laid_internal_strconv_uint64pow10), ("strconv.ErrRange", Rows.laid_strconv_ErrRange), ("strconv.ErrSyntax", Rows.laid_strconv_ErrSyntax)] W ∧ handlesMet Tryz.prog [("errors.errorType", Rows.laid_errors_errorType)] W := by
 unfold laidMetH at h
 rw [filtH,filtN] at h
 exact h
theorem start_of_laid {W:World} (h:laidMetH Tryz.prog laidL W):Start W∧Tab W:=by
 obtain ⟨hd,hh⟩:=laid_parts h
 obtain ⟨name,u,ty,e1,e2,e3,e4,e5⟩:=hh _ (List.mem_singleton.2 rfl)
 have en:name=[101,114,114,111,114]:=(Option.some.inj e1).symm
 subst en
 obtain rfl:=Option.some.inj (rtypeRow.symm.trans e2)
 have hm:ty ∈ (List.range 367).filter fun t=>Tryz.prog.rowNamed t [101,114,114,111,114]:=List.mem_filter.2 ⟨List.mem_range.2 (by rw [← typesSize];exact e3),e4⟩
 rw [errorRow] at hm
 obtain rfl:=List.mem_singleton.1 hm
 have hth:typeHandle Tryz.prog 134=.pointer (some ⟨7,134,none⟩):=As.handle134
 rw [hth] at e5
 have h2:=hd.tail.tail
 have h3:=h2.tail
 have h4:=h3.tail
 obtain ⟨a6,_,hv6,_⟩:=laid_sentinel h3 gRng tRng Tryz.underlying134 row337 Tryz.underlying337 Tryz.underlying339 rfl rfl Tryz.underlying9 cells339 cells9'
 obtain ⟨a5,_,hv5,_⟩:=laid_sentinel h4 gSyn tSyn Tryz.underlying134 row337 Tryz.underlying337 Tryz.underlying339 rfl rfl Tryz.underlying9 cells339 cells9'
 refine ⟨⟨⟨⟨_,_,by simpa using World.var?_cell gSyn hv5 0⟩,⟨_,_,by simpa using World.var?_cell gRng hv6 0⟩⟩,by simpa using World.var?_cell gErr e5 0⟩,?_⟩
 exact Lib.tabIs_of_head (t:=275) (e:=75) (n:=20) gPow (by kernel_rfl) (by kernel_rfl) (by kernel_rfl) (by kernel_rfl) (by kernel_rfl) h2
theorem door_met (os:Os) (args:Array Value):laidMetH Tryz.prog laidL ((World.doorLaid Tryz.prog 69 os).forCall (fun _ _=>0) ⟨#[],args,[]⟩).memory :=
 laidMetH_of_parts3 (fuel:=8) (laidMet_of_run' 8 (by kernel_rfl) (by kernel_rfl)) (by kernel_rfl) (by kernel_rfl)
theorem laidOut:laidOutB Tryz.prog=true:=by kernel_rfl
theorem trodAll_below {H:Type} {enc:TypeId × Value→H} {W W':World} (hb:Below W.heap.size W W'):∀ (ts:List TypeId) (vs:List Value) (ds:List (DataW H)) (ps:List MemPlace),(∀ t ∈ ts,Tryz.prog.readableRec t=true∧t < Tryz.prog.types.size) →
  DataW.TrodAll enc Tryz.prog W 0 (fun _=>true) true ts vs ds ps→(∀ x ∈ ps,x.block < W.heap.size)→DataW.TrodAll enc Tryz.prog W' 0 (fun b=>decide (b < W.heap.size)) true ts vs ds ps:=by
 intro ts
 induction ts with
 | nil =>
  intro vs ds ps _ h _
  cases vs with
  | nil=>cases ds with
   | nil=>exact h
   | cons d ds=>exact h.elim
  | cons v vs=>exact h.elim
 | cons t ts ih =>
  intro vs ds ps ht h hlt
  cases vs with
  | nil=>exact h.elim
  | cons v vs =>
   cases ds with
   | nil=>exact h.elim
   | cons d ds =>
    obtain ⟨p,q,h1,h2,rfl⟩:=h
    have h3:=ht t List.mem_cons_self
    exact ⟨p,q,Below.trod laidOut h3.1 h3.2 h1 hb (fun x hx=>hlt x (List.mem_append_left _ hx)),ih vs ds q (fun t h=>ht t (List.mem_cons_of_mem _ h)) h2 (fun x hx=>hlt x (List.mem_append_right _ hx)),rfl⟩
end Go.Proofs.YtjaobihcdkjmbaaGreatDoor
end
section
namespace Go.Proofs.YtjaobihcdkjmbaaGreatDoor
open Go.ChangeMaps (open_string)
open Go.RowKit Go.ChangeShapes Go.WideShapes Go.ChangeAt Go.Proofs.YtjaobihcdkjmbaaGreatDoorW.PrintWords
theorem ints_in {W:World} {H:Type} {enc:TypeId × Value→H} {v:Value} {d:DataW H} {p:List MemPlace} (hv:∃ a len cap,v=.slice a len cap) (h:DataW.Trod enc Tryz.prog W 0 (fun _=>true) true 22 v d p) :
  ∃ A c,∃ l:List Int,v=.slice A l.length c∧l.length≤9223372036854775807∧l.length≤c∧Kd.C (Kd.int .i64) W A l.length l:=by
 obtain ⟨a0,len,cap,rfl⟩:=hv
 obtain ⟨fuel,hf⟩:=h
 rcases open_ints Tryz.underlying22 Tryz.underlying3 (by kernel_rfl) hf with ⟨hcs,hx⟩ | ⟨a,len',cap',zs,hcs,_,hl,hm,hz,hx,hcell,hwz⟩
 ·have e:a0=none∧len=0∧cap=0:=by simpa [Value.cells] using hcs
  obtain ⟨rfl,rfl,rfl⟩:=e
  refine ⟨none,0,[],rfl,Nat.zero_le _,Nat.le_refl _,?_⟩
  obtain ⟨A,c,h1,_,h2⟩:=Kd.R_reads (Kd.R_nil (Kd.int .i64) 3 W 0 (fun _=>True))
  injection h1 with h1
  subst h1
  exact h2
 ·have e:a0=some a∧len=len'∧cap=cap':=by simpa [Value.cells] using hcs
  obtain ⟨rfl,rfl,rfl⟩:=e
  rw [if_pos rfl] at hz
  have hlen:(zs.take len).length=len:=by rw [List.length_take];omega
  unfold maxLen at hm
  refine ⟨some a,cap,zs.take len,by rw [hlen],by omega,by omega,Kd.C_of_reads (d:=(0:Int)) ⟨rfl,by omega,fun _=>⟨a,rfl,fun j hj=>?_⟩⟩⟩
  rw [hlen] at hj
  rw [hcell j (by omega)]
  congr 2
  simp [List.getD_eq_getElem?_getD,List.getElem?_take,hj]
def a0:Array Value:=#[.string ⟨#[]⟩,.int .i64 0,.int .i64 0,.int .u8 0,.slice none 0 0]
end Go.Proofs.YtjaobihcdkjmbaaGreatDoor
end
section
namespace Go.Proofs.YtjaobihcdkjmbaaGreatDoor
set_option maxRecDepth 100000
theorem readFreeF0:(Rows.readFreeRow.wf (OpenSpec.ofChange Rows.readFreeSpec))=true:=by kernel_rfl
theorem readFreeF1:(laidOutB Tryz.prog)=true:=by kernel_rfl
theorem readFreeF2:(mapsRowed Tryz.prog)=true:=by kernel_rfl
theorem readFreeF3:(Tryz.f8.params.all (Tryz.prog.readableRec ·))=true:=by kernel_rfl
theorem readFreeF4:(namedTie Tryz.prog Rows.readFreeRow.named Rows.readFreeSpec.vars)=true:=by kernel_rfl
theorem readFreeF5:((Rows.readFreeRow.stops == []))=true:=by kernel_rfl
theorem readFreeF6:((Tryz.prog.stops == []))=true:=by kernel_rfl
theorem readFreeF7:((Rows.readFreeRow.knobs == []))=true:=by kernel_rfl
theorem readFreeF8:((Tryz.prog.stopKnobs == []))=true:=by kernel_rfl
theorem readFreeF9:((Rows.readFreeRow.inPlace == Tryz.prog.inPlace 8))=true:=by kernel_rfl
theorem readFreeF10:((Rows.readFreeRow.unfollowed == Tryz.prog.unfollowed 8))=true:=by kernel_rfl
theorem readFreeF11:((Rows.readFreeRow.recurses == Tryz.prog.recurses 8))=true:=by kernel_rfl
theorem readFreeF12:((Rows.readFreeRow.named == Tryz.prog.varsNamed 8))=true:=by kernel_rfl
theorem readFreeF13:((Rows.readFreeRow.maps == (Tryz.f8.params.toList++Rows.readFreeSpec.plain.varTypes Tryz.prog).any (Tryz.prog.mapsRec ·)))=true:=by kernel_rfl
theorem readFreeF14:((Rows.readFreeRow.ifaces == (Tryz.f8.params.toList++Rows.readFreeSpec.plain.varTypes Tryz.prog).any (Tryz.prog.ifacesRec ·)))=true:=by kernel_rfl
theorem readFreeF15:((Rows.readFreeRow.mapsOut == Tryz.prog.mapsAmong Tryz.f8.resultTypes.toList))=true:=by kernel_rfl
theorem readFreeF16:((Rows.readFreeRow.loops == (Tryz.f8.params.toList++Rows.readFreeSpec.plain.varTypes Tryz.prog).any (Tryz.prog.loopsFrom ·)))=true:=by kernel_rfl
theorem readFreeF17:((Rows.readFreeRow.wideKeys == (Tryz.f8.params.toList++Rows.readFreeSpec.plain.varTypes Tryz.prog++Tryz.f8.resultTypes.toList).any (Tryz.prog.wideKeysFrom ·)))=true:=by kernel_rfl
theorem readFreeF18:(Rows.readFreeSpec.vars.all (Tryz.prog.varReadable ·))=true:=by kernel_rfl
theorem readFreeF19:(Tryz.f8.resultTypes.all (fun t=>Tryz.prog.readableRec t && decide (t < Tryz.prog.types.size)))=true:=by kernel_rfl
theorem readFreeF20:((Rows.readFreeRow.ifacesOut == Tryz.f8.resultTypes.toList.any (Tryz.prog.ifacesRec ·)))=true:=by kernel_rfl
theorem readFreeF21:((Rows.readFreeRow.loopsOut == Tryz.f8.resultTypes.toList.any (Tryz.prog.loopsFrom ·)))=true:=by kernel_rfl
theorem readFreeF22:((Rows.readFreeRow.plainKeys == Tryz.prog.plainKeys))=true:=by kernel_rfl
theorem readFreeF23:(Rows.readFreeRow.shortTexts.isNone)=true:=by kernel_rfl
theorem readFreeF24:(Tryz.prog.stopsHeard)=true:=by kernel_rfl
theorem readFreeF25:(Tryz.prog.mayEnter)=true:=by kernel_rfl
theorem readFreeF26:((Rows.readFreeRow.lifted == Tryz.prog.liftsFinal))=true:=by kernel_rfl
theorem readFreeF27:((Tryz.prog.make == some Rows.readFreeRow.make))=true:=by kernel_rfl
theorem readFreeF29:((Rows.readFreeRow.pinned == Rows.readFreeRow.pinnedBy))=true:=by kernel_rfl
theorem readFreeF30:((Rows.readFreeRow.veiled == (Tryz.f8.params.toList++Rows.readFreeSpec.plain.varTypes Tryz.prog++Tryz.f8.resultTypes.toList).any (Tryz.prog.veiledRec ·)))=true:=by kernel_rfl
theorem readFreeF31:(Rows.readFreeRow.veiledFits Tryz.prog Tryz.f8.params.toList (Tryz.f8.params.toList++Rows.readFreeSpec.plain.varTypes Tryz.prog++Tryz.f8.resultTypes.toList))=true:=by kernel_rfl
theorem readFree_closed:joinedFacts Tryz.prog 8 Tryz.f8 Rows.readFreeSpec Rows.readFreeRow=true:=by
 unfold joinedFacts
 rw [readFreeF0,readFreeF1,readFreeF2,readFreeF3,readFreeF4,readFreeF5,readFreeF6,readFreeF7,readFreeF8,readFreeF9,readFreeF10,readFreeF11,readFreeF12,readFreeF13,readFreeF14,readFreeF15,readFreeF16,readFreeF17,readFreeF18,readFreeF19,readFreeF20,readFreeF21,readFreeF22,readFreeF23,readFreeF24,readFreeF25,readFreeF26,readFreeF27,readFreeF29,readFreeF30,readFreeF31]
 kernel_rfl
theorem readFree_inst:Tryz.f8.isInstance Tryz.prog Rows.readFreeRow.origin Rows.readFreeRow.targs:=of_decide_eq_true (by kernel_rfl)
theorem readFree_wrap:Tryz.f8.isWrapper Tryz.prog Rows.readFreeRow.wrapper Rows.readFreeRow.mainSum:=by
 unfold Func.isWrapper
 first | (rw [if_pos (by decide +kernel)];kernel_rfl) | (rw [if_neg (by decide +kernel)];exact ⟨rfl,rfl⟩)
theorem readFree_named:Tryz.prog.funcNamed Rows.readFreeRow.func=some 8:=by kernel_rfl
theorem readFree_looks:true=Tryz.prog.looks []:=by kernel_rfl
end Go.Proofs.YtjaobihcdkjmbaaGreatDoor
end
section
namespace Go.Proofs.YtjaobihcdkjmbaaGreatDoor
open Go.ChangeMaps (open_string)
open Go.RowKit Go.ChangeShapes Go.WideShapes Go.ChangeAt Go.Proofs.YtjaobihcdkjmbaaGreatDoorW.PrintWords
def aF:Array Value:=#[.slice none 0 0]
set_option maxRecDepth 100000 in
theorem ReadFree_lifted (os:Os) (started:os.Started) (H:Type) (enc:TypeId × Value→H) :
  ReturnsInHanded {} Tryz.checked os 8 .any (fun w args=>(Rows.readFreeSpec.pre enc Tryz.prog Tryz.f8 [] false w args∧laidMetH Tryz.prog laidL w)∧sizedMet enc Tryz.prog Tryz.f8 (OpenSpec.ofChange Rows.readFreeSpec) false w args)
   (Rows.readFreeSpec.post enc Tryz.prog Tryz.f8 false true false false):=by
 refine returnsInHanded_of_change_and (C:=Tryz.checked) (X:=fun w _=>laidMetH Tryz.prog laidL w) (fun _ _ _ hh h=>h.of_heap hh) noKnob started (by kernel_rfl) Tryz.func8
  (ChangeSpec.witness_shaped (enc:=enc) (C:=Tryz.checked) (os:=os) (X:=fun w _=>laidMetH Tryz.prog laidL w) false (World.doorLaid Tryz.prog 69 os) aF 8 rfl (World.shaped_of_RefB (by kernel_rfl) (by kernel_rfl)) (by kernel_rfl) (by kernel_rfl) (by kernel_rfl) (door_met os _)) ?_
 intro W base args ds gs before hval0 hW _ _ hL _
 have hval:∀ (j:Nat) t v,Tryz.f8.params[j]?=some t→args[j]?=some v→Value.okWide Tryz.prog W .any base t v:=hval0
 have hW':=hW
 obtain ⟨p,q,hA0,hV,rfl,hfz,hnd⟩:=hW
 have hA:DataW.TrodAll enc Tryz.prog W 0 (fun _=>true) true Tryz.f8.params.toList args.toList ds p:=hA0
 have hlt:∀ x ∈ p,x.block < W.heap.size:=fun x hx=>by simpa using hW'.lt x (List.mem_append_left _ hx)
 have hA2:=hA
 rw [Tryz.params8] at hA hval
 obtain ⟨v0,vs0,d0,ds0,p0,q0,hargs,rfl,rfl,h0,r0⟩:=trodAll_cons hA
 obtain ⟨rfl,rfl,rfl⟩:=trodAll_nil r0
 obtain rfl:args=#[v0]:=by cases args;simp_all
 obtain ⟨pp,hpp⟩:∃ pp,pp=p0++[]:=⟨_,rfl⟩
 rw [← hpp] at hA2 hlt hW'
 obtain ⟨rfl,rfl⟩:=trodVars_none hV
 obtain ⟨A,c,l,rfl,hl,hc,hC⟩:=ints_in (okWide_slice Tryz.underlying22 (hval 0 22 v0 rfl rfl)) h0
 obtain ⟨hS,hT⟩:=start_of_laid hL
 have e1:Rows.readFreeSpec.fn H ([d0]++[])={ results:=[.lit (.bool true)],args:=[d0] }:=rfl
 refine (ReadFree_calls A l c hl W hC hS hT).mono fun e W' ⟨he,hb⟩=>?_
 subst he
 refine ⟨_,rfl,_,_,_,[],pp,[],hW',?_,?_,?_,hb.frame _,fun h=>by cases h⟩
 ·rw [e1];exact trodAll_mk1 (shut_bool Tryz.underlying4 true)
 ·rw [e1];exact trodAll_below hb _ _ _ _ (by rw [Tryz.params8];intro t ht;simp at ht;subst ht;exact ⟨by kernel_rfl,by rw [typesSize];decide⟩) hA2 hlt
 ·rw [e1];rfl
theorem ReadFree_said:Rows.ReadFreeSaid :=
 OpenClaim.holds_of_wide 8 Tryz.f8 rfl rfl rfl rfl rfl rfl rfl ⟨rfl,rfl,rfl,rfl,rfl⟩ rfl rfl rfl rfl rfl readFree_named Tryz.func8 readFree_closed
  readFree_inst readFree_wrap
  (fun os started H enc _=>ReadFree_lifted os started H enc)
theorem ReadFree_plain (f : FuncId) (fn : Func) (hf : Tryz.pinned.checked.prog.funcNamed "metewand/metewandlaw13.ReadFree" = some f) (hfn : Tryz.pinned.checked.prog.funcs[f]? = some fn) :
  true=Tryz.pinned.checked.prog.looks []∧∀ (j:Nat) t,fn.params[j]?=some t→Tryz.pinned.checked.prog.wantsStandIn t=false:=by
 obtain rfl : f = 8 := Option.some.inj ((show Tryz.prog.funcNamed "metewand/metewandlaw13.ReadFree" = some 8 by kernel_rfl).symm.trans hf) |>.symm
 obtain rfl:fn=Tryz.f8:=(Option.some.inj (Tryz.func8.symm.trans hfn)).symm
 refine ⟨readFree_looks,fun j t ht=>?_⟩
 rw [Tryz.params8] at ht
 have hm:=Array.mem_of_getElem? ht
 simp at hm
 subst hm
 exact (show Tryz.prog.wantsStandIn 22=false by kernel_rfl)
theorem ReadFree_card:Rows.ReadFreeCardSaid :=
 Claim7.holds_tied_plain_at .later [] _ _ _ _ ReadFree_said (fun _ h=>by cases h) (by kernel_rfl) (fun _ h=>by cases h) readFree_row_tie rfl ⟨rfl,rfl⟩ (by kernel_rfl) rfl ReadFree_plain (by kernel_rfl)
end Go.Proofs.YtjaobihcdkjmbaaGreatDoor
end
