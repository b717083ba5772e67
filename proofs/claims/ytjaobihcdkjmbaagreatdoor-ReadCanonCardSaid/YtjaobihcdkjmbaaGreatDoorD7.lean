/- What can be read as an expression is printed as a text that reads as the same, and is printed as itself: for every argument; a part of its proof. -/
import Derived.Test.YtjaobihcdkjmbaaGreatDoorDa
import Derived.Test.YtjaobihcdkjmbaaGreatDoorDb
import Derived.Test.YtjaobihcdkjmbaaGreatDoorD0
import Derived.Test.YtjaobihcdkjmbaaGreatDoorD1
set_option linter.unusedVariables false
set_option linter.unusedSimpArgs false
namespace Go.Proofs.YtjaobihcdkjmbaaGreatDoor.PReadTokens
end Go.Proofs.YtjaobihcdkjmbaaGreatDoor.PReadTokens
namespace Go.Proofs.YtjaobihcdkjmbaaGreatDoorW.PrintLast
end Go.Proofs.YtjaobihcdkjmbaaGreatDoorW.PrintLast
namespace Go.Proofs.YtjaobihcdkjmbaaGreatDoorW.PrintMore
end Go.Proofs.YtjaobihcdkjmbaaGreatDoorW.PrintMore
namespace Go.Proofs.YtjaobihcdkjmbaaGreatDoorW.PrintWords
end Go.Proofs.YtjaobihcdkjmbaaGreatDoorW.PrintWords
set_option maxRecDepth 100000
set_option maxHeartbeats 8000000
section
namespace Go.Proofs.YtjaobihcdkjmbaaGreatDoor
open Go.RowKit
theorem ret_int {k:IntKind} {a b:Int} (h:a=b):Ending.returned (.int k a)=.returned (.int k b):=by rw[h]
abbrev ms:ByteArray:={ data:=#[40,41,91,93,44,43,45,42,47,94,60,61,46,124] }
def zBY (c:Int):List UInt8→Bool
 | []=>false
 | m :: l=>c==m.toNat||zBY c l
def srt (c:Int):Int:=if c=32 then 1 else if 97≤c∧c≤122 then 2 else if 65≤c∧c≤90 then 3 else if 48≤c∧c≤57 then 4 else if zBY c ms.data.toList=true then 5 else 0
theorem srt_mark {c:Int} (h1:(c==32)=false) (h2:¬(97≤c∧c≤122)) (h3:¬(65≤c∧c≤90)) (h4:¬(48≤c∧c≤57)) (h:zBY c ms.data.toList=true):srt c=5:=by
 have h1:¬c=32:=by simpa using h1
 unfold srt;rw[kA9 h1,kA9 h2,kA9 h3,kA9 h4,kAa h]
theorem srt_other {c:Int} (h1:(c==32)=false) (h2:¬(97≤c∧c≤122)) (h3:¬(65≤c∧c≤90)) (h4:¬(48≤c∧c≤57)) (h:zBY c ms.data.toList=false):srt c=0:=by
 have h1:¬c=32:=by simpa using h1
 unfold srt;rw[kA9 h1,kA9 h2,kA9 h3,kA9 h4,kA9 (by simp[h])]
theorem ms_ascii (k:Nat) (h:k<ms.size):(ms[k]'h).toNat<128:=by
 have:ms.size=14:=rfl;have hk:k<14:=kD4
 clear this;revert k;decide
theorem markFrom_drop (c:Int) (k:Nat) (h:k<ms.size):zBY c (ms.data.toList.drop k)=(c==(ms[k]'h).toNat||zBY c (ms.data.toList.drop (k+1))):=by
 rw[kAp (show k<ms.data.toList.length from h)];rfl
theorem zCI (c:Int) (w:World) :
  Calls Tryz.prog 107 #[.int .i32 c] w fun e w'=>e=.returned (.int .i64 (srt c))∧Below w.heap.size w w':=by
 go_enter Tryz.func107,Tryz.ntmps107;go_wp2
 all_goals first
  | (go_ret;refine⟨ret_int ?_,kA3 _ _⟩;simp_all [srt];done)
  | (go_ret;refine⟨ret_int ?_,kA3 _ _⟩;simp_all [srt];omega)
  | skip
 all_goals
  have h1:(c==32)=false:=kDb
  have h2:¬(97≤c∧c≤122):=kD4
  have h3:¬(65≤c∧c≤90):=kD4
  have h4:¬(48≤c∧c≤57):=kD4
  have HM:=kA1 (@srt_mark c h1 h2 h3 h4);have HO:=kA1 (@srt_other c h1 h2 h3 h4);clear h2 h3 h4
  go_loopw [4] (fun _ wr=>∃k:Nat,k≤ms.size∧wr=w.iter ms k∧(zBY c ms.data.toList=true↔zBY c (ms.data.toList.drop k)=true)) (fun _ wr=>ms.size-wr.iterPos w.heap.size)
  case atStart=>exact⟨0,kAI _,rfl,Iff.rfl⟩
  case round =>
   obtain⟨k,hk,rfl,hm⟩:=hrel;have Hm:=kA1 hm;clear hm;by_cases hp:k<ms.size
   ·have hnx:=fun ty=>run_next_ascii (P:=Tryz.prog) w ms k ty hp (ms_ascii k hp)
    have hd:=kA1 (markFrom_drop c k hp);go_wp2
    ·have h9:(c==((ms[k]'hp).toNat:Int))=true:=kDb
     go_ret;refine⟨ret_int (HM.out ?_).symm,(kA3 _ _).alloc (kA2 _) _⟩;rw[Hm.out,hd.out,h9];rfl
    ·have h9:(c==((ms[k]'hp).toNat:Int))=false:=kDb
     go_roundw
     case rel=>exact⟨k+1,kD4,rfl,by rw[Hm.out,hd.out,h9];rfl⟩
     case measure=>simp;omega
   ·have hnx:=fun ty=>run_next_end (P:=Tryz.prog) w ms k ty hp
    go_wp2;go_ret;refine⟨ret_int (HO.out ?_).symm,(kA3 _ _).alloc (kA2 _) _⟩;rw[kCJ,ne_eq,Hm.out,kBq (show ms.data.toList.length≤k from kCy.1 hp)];simp[zBY]
end Go.Proofs.YtjaobihcdkjmbaaGreatDoor
end
section
namespace Go.Proofs.YtjaobihcdkjmbaaGreatDoor.PReadTokens
open Go.RowKit Go.Proofs.YtjaobihcdkjmbaaGreatDoorW.PrintWords Go.Proofs.YtjaobihcdkjmbaaGreatDoorW.PrintLast Go.Proofs.YtjaobihcdkjmbaaGreatDoorW.PrintMore
section
attribute [local go_sem] zE1 zDZ zF2 zF1 zDj zDi zE0 zDY   -- for this text's walks alone
set_option linter.unusedVariables false
set_option linter.unusedSimpArgs false
def errW:Option Int→Value
 | none=>.nilIface
 | some c=>.iface 318 (.int .i64 c)
theorem zAB:errW none=.nilIface:=rfl
theorem zAA (c:Int):errW (some c)=.iface 318 (.int .i64 c):=rfl
theorem info47:(Tryz.prog.info? 47).map (fun i=>(i.zero,i.size,i.bytes))=some (some (.agg #[(.int .i64 0),(.string ⟨#[]⟩),(.int .i64 0)]),3,32):=kD5
theorem info270:(Tryz.prog.info? 270).map (fun i=>(i.zero,i.size,i.bytes))=some (some (.int .u32 0),1,4):=kD5
structure S47 where
 f0:Int
 f1:ByteArray
 f2:Int
def z47:S47:=⟨(0:Int),(⟨#[]⟩:ByteArray),(0:Int)⟩
def k47:Kd S47:=Kd.iso (Kd.pair (Kd.int .i64) (Kd.pair Kd.string (Kd.int .i64))) (fun x:S47=>(x.f0,x.f1,x.f2))
theorem k47_open {w:World} {x:S47} {cs:List Value} (h:k47.K w x cs):cs=[.int .i64 x.f0,.string x.f1,.int .i64 x.f2]:=by
 obtain⟨_,_,rfl,rfl,⟨_,_,rfl,rfl,rfl⟩⟩:=h;exact rfl
theorem k47_mk (w:World) (x:S47) :k47.K w x [.int .i64 x.f0,.string x.f1,.int .i64 x.f2]:=⟨[.int .i64 x.f0],[.string x.f1,.int .i64 x.f2],rfl,rfl,⟨[.string x.f1],[.int .i64 x.f2],rfl,rfl,rfl⟩⟩
def zBs (xs:List S47) (i:Int):S47:=xs.getD i.toNat z47
theorem at_T47 {w:World} {A:Option Addr} {n:Nat} {xs:List S47} (h:Kd.C k47 w A n xs) (i:Int) (h0:0≤i) (h1:i<n):∃ad ,A=some ad∧w.cell? (ad.add (i.toNat*3))=some (.int .i64 (zBs xs i).f0)∧w.cell? ⟨(ad.add (i.toNat*3)).block,(ad.add (i.toNat*3)).off+1,none⟩=some (.string (zBs xs i).f1)∧w.cell? ⟨(ad.add (i.toNat*3)).block,(ad.add (i.toNat*3)).off+2,none⟩=some (.int .i64 (zBs xs i).f2):=by
 obtain⟨ad,c,e,_,hK,hc0⟩:=Kd.C_get h z47 i h0 h1;have hc:∀j u,c[j]?=some u→w.cell? (ad.add (i.toNat*3+j))=some u:=hc0;obtain rfl:=k47_open hK;exact⟨ad,e,hc 0 _ rfl,by rw[← zD0 _ _ 1 kD4];exact hc 1 _ rfl,by rw[← zD0 _ _ 2 kD4];exact hc 2 _ rfl⟩
structure S28 where
 f0:ByteArray
 f1:ByteArray
def z28:S28:=⟨(⟨#[]⟩:ByteArray),(⟨#[]⟩:ByteArray)⟩
def k28:Kd S28:=Kd.iso (Kd.pair Kd.string Kd.string) (fun x:S28=>(x.f0,x.f1))
theorem k28_open {w:World} {x:S28} {cs:List Value} (h:k28.K w x cs):cs=[.string x.f0,.string x.f1]:=by
 obtain⟨_,_,rfl,rfl,rfl⟩:=h;exact rfl
theorem k28_mkM (w:World) (base:Nat) (ok:Nat→Prop) (x:S28) :k28.M w base ok x [.string x.f0,.string x.f1]:=⟨[.string x.f0],[.string x.f1],rfl,rfl,rfl⟩
structure S31 where
 f0:Int
 f1:S28
 f2:ByteArray
 f3:Int
 f4:(List S31)
def z31:S31:=⟨(0:Int),z28,(⟨#[]⟩:ByteArray),(0:Int),([]:List S31)⟩
def F31 (d:Kd S31):Kd S31:=Kd.iso (Kd.pair (Kd.int .i64) (Kd.pair k28 (Kd.pair Kd.string (Kd.pair (Kd.int .i64) (Kd.slice 31 d))))) (fun x:S31=>(x.f0,x.f1,x.f2,x.f3,x.f4))
theorem mono31:Kd.Mono F31:=Kd.mono_iso _ (Kd.mono_pair (Kd.mono_const _) (Kd.mono_pair (Kd.mono_const _) (Kd.mono_pair (Kd.mono_const _) (Kd.mono_pair (Kd.mono_const _) (Kd.mono_slice 31 Kd.mono_id)))))
theorem sub31:Kd.Sub F31 [31]:=Kd.sub_iso _ (Kd.sub_pair (Kd.sub_const _ kD7) (Kd.sub_pair (Kd.sub_const _ kD7) (Kd.sub_pair (Kd.sub_const _ kD7) (Kd.sub_pair (Kd.sub_const _ kD7) (Kd.sub_slice 31 kD7 Kd.sub_id)))))
theorem sz31:∀n,(Kd.upto F31 6 [31] n).sz=6:=Kd.upto_sz (fun _=>rfl)
def k31:Kd S31:=Kd.fix F31 6 [31] sz31 (Kd.upto_E sub31)
theorem k31_open {w:World} {x:S31} {cs:List Value} (h:k31.K w x cs):∃A5 c5,cs=[.int .i64 x.f0,.string x.f1.f0,.string x.f1.f1,.string x.f2,.int .i64 x.f3,.slice A5 x.f4.length c5]∧x.f4.length≤c5∧k31.C w A5 x.f4.length x.f4:=by
 obtain⟨n,h⟩:=h
 cases n with
 | zero=>exact h.elim
 | succ n =>
  obtain⟨_,_,rfl,rfl,⟨_,_,rfl,s1,⟨_,_,rfl,rfl,⟨_,_,rfl,rfl,⟨A5,c5,rfl,l5,g5⟩⟩⟩⟩⟩:=h;obtain rfl:=k28_open s1;exact⟨A5,c5,rfl,l5,Kd.fix_C g5⟩
theorem k31_mkM (w:World) (base:Nat) (ok:Nat→Prop) (x:S31) {v5:Value} (g5:k31.R 31 w base ok v5 x.f4):k31.M w base ok x [.int .i64 x.f0,.string x.f1.f0,.string x.f1.f1,.string x.f2,.int .i64 x.f3,v5]:=by
 obtain⟨n5,q5⟩:=Kd.fix_R_back mono31 g5;have r5:=Kd.upto_R_le mono31 sz31 (show n5≤n5 by omega) q5;exact⟨n5+1,⟨[.int .i64 x.f0],[.string x.f1.f0,.string x.f1.f1,.string x.f2,.int .i64 x.f3,v5],rfl,rfl,⟨[.string x.f1.f0,.string x.f1.f1],[.string x.f2,.int .i64 x.f3,v5],rfl,(k28_mkM w base ok x.f1 ),⟨[.string x.f2],[.int .i64 x.f3,v5],rfl,rfl,⟨[.int .i64 x.f3],[v5],rfl,rfl,⟨v5,rfl,r5⟩⟩⟩⟩⟩⟩
def zDI (xs:List S31) (i:Int):S31:=xs.getD i.toNat z31
theorem at_T31 {w:World} {A:Option Addr} {n:Nat} {xs:List S31} (h:Kd.C k31 w A n xs) (i:Int) (h0:0≤i) (h1:i<n):∃ad A5 c5,A=some ad∧w.cell? (ad.add (i.toNat*6))=some (.int .i64 (zDI xs i).f0)∧w.cell? ⟨(ad.add (i.toNat*6)).block,(ad.add (i.toNat*6)).off+1,none⟩=some (.string (zDI xs i).f1.f0)∧w.cell? ⟨(ad.add (i.toNat*6)).block,(ad.add (i.toNat*6)).off+2,none⟩=some (.string (zDI xs i).f1.f1)∧w.cell? ⟨(ad.add (i.toNat*6)).block,(ad.add (i.toNat*6)).off+3,none⟩=some (.string (zDI xs i).f2)∧w.cell? ⟨(ad.add (i.toNat*6)).block,(ad.add (i.toNat*6)).off+4,none⟩=some (.int .i64 (zDI xs i).f3)∧w.cell? ⟨(ad.add (i.toNat*6)).block,(ad.add (i.toNat*6)).off+5,none⟩=some (.slice A5 (zDI xs i).f4.length c5)∧(zDI xs i).f4.length≤c5∧k31.C w A5 (zDI xs i).f4.length (zDI xs i).f4:=by
 obtain⟨ad,c,e,_,hK,hc0⟩:=Kd.C_get h z31 i h0 h1;have hc:∀j u,c[j]?=some u→w.cell? (ad.add (i.toNat*6+j))=some u:=hc0;obtain⟨A5,c5,rfl,l5,g5⟩:=k31_open hK;exact⟨ad,A5,c5,e,hc 0 _ rfl,by rw[← zD0 _ _ 1 kD4];exact hc 1 _ rfl,by rw[← zD0 _ _ 2 kD4];exact hc 2 _ rfl,by rw[← zD0 _ _ 3 kD4];exact hc 3 _ rfl,by rw[← zD0 _ _ 4 kD4];exact hc 4 _ rfl,by rw[← zD0 _ _ 5 kD4];exact hc 5 _ rfl,l5,g5⟩
end
section
attribute [local go_sem] zE1 zDZ zF2 zF1 zDj zDi zE0 zDY   -- for this text's walks alone
set_option linter.unusedVariables false
set_option linter.unusedSimpArgs false
theorem eqA47 (d:Nat) (w:World) (x0 y0:Int) (x1 y1:ByteArray) (x2 y2:Int) :
  (Op.equalIn (d+2) 47 (.agg #[.int .i64 x0,.string x1,.int .i64 x2]) (.agg #[.int .i64 y0,.string y1,.int .i64 y2])).run Tryz.prog w=.ok (x0==y0&&(x1.toList==y1.toList&&(x2==y2))) w:=by
 refine eqA_of Tryz.underlying47 kD5 ?_;refine eqf_cons kD9 kDu kDu (by go_simp) ?_;refine eqf_cons kD9 kDu kDu (by go_simp) ?_;exact eqf_last kD9 kDu kDu (by go_simp)
end
section
attribute [local go_sem] zE1 zDZ zF2 zF1 zDj zDi zE0 zDY   -- for this text's walks alone
set_option linter.unusedVariables false
set_option linter.unusedSimpArgs false
attribute [local go_sem high] eqA47
def metewandkit_EqTokens.l0:Nat→List (S47)→List (S47)→Int→Option (Bool)
 | 0,_,_,_=>none
 | k+1,x0,x1,x5=>if x5<(x0.length:Int) then (if 0≤x5 then (if x5<(x1.length:Int) then (if (!(((zBs x0 x5).f0)==((zBs x1 x5).f0))||(!((((zBs x0 x5).f1).toList)==(((zBs x1 x5).f1).toList))||(!(((zBs x0 x5).f2)==((zBs x1 x5).f2)))))=true then (some false) else (metewandkit_EqTokens.l0 k x0 x1 (wrap64 (x5+1)))) else (none)) else (none)) else (some true)
def metewandkit_EqTokens.f (k:Nat) (l0:List (S47)) (l1:List (S47)):Option (Bool):=if (l0.length:Int)=(l1.length:Int) then (metewandkit_EqTokens.l0 k l0 l1 0) else (some false)
theorem metewandkit_EqTokens.mono_l:∀k,(∀y0 y1 y2,LeO (metewandkit_EqTokens.l0 k y0 y1 y2) (metewandkit_EqTokens.l0 (k+1) y0 y1 y2))
 | 0=>fun _ _ _ r h=>by simp[metewandkit_EqTokens.l0] at h
 | k+1=>by
  have ih0:=metewandkit_EqTokens.mono_l k
  ·intro y0 y1 y2;unfold metewandkit_EqTokens.l0
   repeat' first
   | (with_reducible exact ih0 _ _ _)
   | (with_reducible exact LeO.refl _)
   | (with_reducible exact LeO.none _)
   | (with_reducible refine LeO.ite ?_ ?_)
   | (with_reducible refine LeO.bind ?_ (fun _=>?_))
   | exact ih0 _ _ _
   | exact LeO.none _
   | refine LeO.ite ?_ ?_
   | refine LeO.bind ?_ (fun _=>?_)
theorem metewandkit_EqTokens.calls (k:Nat) (A0:Option Addr) (c0:Nat) (l0:List (S47)) (A1:Option Addr) (c1:Nat) (l1:List (S47)) (r:Bool) (w:World) (hr0:Kd.C k47 w A0 l0.length l0) (hc0:l0.length≤c0) (hr1:Kd.C k47 w A1 l1.length l1) (hc1:l1.length≤c1) (h:metewandkit_EqTokens.f k l0 l1=some r) :
  Calls Tryz.prog 17 #[.slice A0 l0.length c0,.slice A1 l1.length c1] w fun e w'=>e=.returned (.bool r)∧Drawn0 w w':=by
 have hu47:=Tryz.underlying47;have HR0:=Aside0.mk hr0;have HC0:=Aside0.mk hc0;clear hr0 hc0;have HR1:=Aside0.mk hr1;have HC1:=Aside0.mk hc1;clear hr1 hc1;have H:(if (l0.length:Int)=(l1.length:Int) then (metewandkit_EqTokens.l0 k l0 l1 0) else (some false))=some r:=h;clear h;by_cases c3:(l0.length:Int)=(l1.length:Int)
 ·rw[kAa c3] at H;have c3b0:((l0.length:Int)==(l1.length:Int))=true:=beq_iff_eq.mpr c3;have c3b1:((l0.length:Int) != (l1.length:Int))=false:=bne_eq_false_iff_eq.mpr c3;have c3b2:(l0.length==l1.length)=true:=by first | simpa using c3 | (simp at c3⊢;omega)
  clear c3;have H':=Aside0.mk H;clear H;go_enter Tryz.func17,Tryz.ntmps17;go_wp2
  repeat (go_quiet (fail);try go_wp2)
  go_loopg [5] k (fun kq v5 w'=>∃(x5_1:Int),v5=.int .i64 x5_1∧Aside0 (metewandkit_EqTokens.l0 kq l0 l1 x5_1=some r)∧Aside0 (kq≤k)∧Drawn0 w w')
  case atStart=>exact⟨(0),kDh,H',⟨kA2 _⟩,by repeat (first | exact Drawn0.refl _ | apply Drawn0.step)⟩
  case round =>
   clear H'
   try clear c1
   try clear p2
   try clear c3
   try clear c3b0
   try clear c3b1
   try clear c3b2
   obtain⟨x5_1,rfl,HA,HK1,⟨m1,rfl⟩⟩:=hrel
   cases gk with
   | zero=>exact absurd HA.out (by simp[metewandkit_EqTokens.l0])
   | succ k1 =>
    have H:=HA.out;clear HA;simp only[metewandkit_EqTokens.l0] at H;by_cases c4:x5_1<(l0.length:Int)
    ·rw[kAa c4] at H;have c4b0:decide (x5_1<(l0.length:Int))=true:=kA8 c4;clear c4;by_cases c5:0≤x5_1
     ·rw[kAa c5] at H;have c5b0:decide (0≤x5_1)=true:=kA8 c5;clear c5;by_cases c6:x5_1<(l1.length:Int)
      ·rw[kAa c6] at H;have c6b0:decide (x5_1<(l1.length:Int))=true:=kA8 c6;clear c6;by_cases c7:(!(((zBs l0 x5_1).f0)==((zBs l1 x5_1).f0))||(!((((zBs l0 x5_1).f1).toList)==(((zBs l1 x5_1).f1).toList))||(!(((zBs l0 x5_1).f2)==((zBs l1 x5_1).f2)))))=true
       ·rw[kAa c7] at H;have c7b0:(!(((zBs l0 x5_1).f0)==((zBs l1 x5_1).f0))||(!((((zBs l0 x5_1).f1).toList)==(((zBs l1 x5_1).f1).toList))||(!(((zBs l0 x5_1).f2)==((zBs l1 x5_1).f2)))))=true:=c7;clear c7;obtain rfl:=kAg H;have p101:0≤(x5_1:Int):=kAn kDf;have q101:x5_1<(l0.length:Int):=kAn kDf;obtain⟨ad101,e101,hx101_0,hx101_1,hx101_2⟩:=at_T47 HR0.out x5_1 p101 q101
        cases e101;replace p101:=kAX p101;replace q101:=kAX q101;have p102:0≤(x5_1:Int):=kAn kDf;have q102:x5_1<(l1.length:Int):=kAn kDf;obtain⟨ad102,e102,hx102_0,hx102_1,hx102_2⟩:=at_T47 HR1.out x5_1 p102 q102
        cases e102;replace p102:=kAX p102;replace q102:=kAX q102;go_wp2
        repeat (go_quiet (fail);try go_wp2)
        go_ret;exact⟨kDh,by repeat (first | exact Drawn0.refl _ | apply Drawn0.step)⟩
       ·rw[kA9 c7] at H;have c7b0:(!(((zBs l0 x5_1).f0)==((zBs l1 x5_1).f0))||(!((((zBs l0 x5_1).f1).toList)==(((zBs l1 x5_1).f1).toList))||(!(((zBs l0 x5_1).f2)==((zBs l1 x5_1).f2)))))=false:=by simpa using c7
        clear c7;have H':=Aside0.mk H;clear H;have p101:0≤(x5_1:Int):=kAn kDf;have q101:x5_1<(l0.length:Int):=kAn kDf;obtain⟨ad101,e101,hx101_0,hx101_1,hx101_2⟩:=at_T47 HR0.out x5_1 p101 q101
        cases e101;replace p101:=kAX p101;replace q101:=kAX q101;have p102:0≤(x5_1:Int):=kAn kDf;have q102:x5_1<(l1.length:Int):=kAn kDf;obtain⟨ad102,e102,hx102_0,hx102_1,hx102_2⟩:=at_T47 HR1.out x5_1 p102 q102
        cases e102;replace p102:=kAX p102;replace q102:=kAX q102;go_wp2
        repeat (go_quiet (fail);try go_wp2)
        go_roundg k1
        case measure=>have:=HK1.out;omega
        case rel=>exact⟨(wrap64 (x5_1+1)),kDh,H',⟨by have:=HK1.out;omega⟩,by repeat (first | exact Drawn0.refl _ | apply Drawn0.step)⟩
      ·rw[kA9 c6] at H;exact absurd H kD6
     ·rw[kA9 c5] at H;exact absurd H kD6
    ·rw[kA9 c4] at H;have c4b0:decide (x5_1<(l0.length:Int))=false:=kAc c4;clear c4;obtain rfl:=kAg H;go_wp2
     repeat (go_quiet (fail);try go_wp2)
     go_ret;exact⟨kDh,by repeat (first | exact Drawn0.refl _ | apply Drawn0.step)⟩
 ·rw[kA9 c3] at H;have c3b0:((l0.length:Int)==(l1.length:Int))=false:=beq_eq_false_iff_ne.mpr c3;have c3b1:((l0.length:Int) != (l1.length:Int))=true:=bne_iff_ne.mpr c3;have c3b2:(l0.length==l1.length)=false:=by first | simpa using c3 | (simp at c3⊢;omega)
  obtain rfl:=kAg H;go_enter Tryz.func17,Tryz.ntmps17;go_wp2
  repeat (go_quiet (fail);try go_wp2)
  go_ret;exact⟨kDh,by repeat (first | exact Drawn0.refl _ | apply Drawn0.step)⟩
def read_word.f (a0:ByteArray):Option (Bool):=if a0.toList=([102,117,110]:List UInt8) then (some true) else (if a0.toList=([108,101,116]:List UInt8) then (some true) else (if a0.toList=([115,104,111,119]:List UInt8) then (some true) else (if a0.toList=([105,102]:List UInt8) then (some true) else (if a0.toList=([116,104,101,110]:List UInt8) then (some true) else (if a0.toList=([101,108,115,101]:List UInt8) then (some true) else (if a0.toList=([105,110]:List UInt8) then (some true) else (if a0.toList=([116,97,98]:List UInt8) then (some true) else (if a0.toList=([115,117,109]:List UInt8) then (some true) else (some false)))))))))
theorem read_word.calls (a0:ByteArray) (r:Bool) (w:World) (h:read_word.f a0=some r) :
  Calls Tryz.prog 106 #[.string a0] w fun e w'=>e=.returned (.bool r)∧Drawn0 w w':=by
 have H:(if a0.toList=([102,117,110]:List UInt8) then (some true) else (if a0.toList=([108,101,116]:List UInt8) then (some true) else (if a0.toList=([115,104,111,119]:List UInt8) then (some true) else (if a0.toList=([105,102]:List UInt8) then (some true) else (if a0.toList=([116,104,101,110]:List UInt8) then (some true) else (if a0.toList=([101,108,115,101]:List UInt8) then (some true) else (if a0.toList=([105,110]:List UInt8) then (some true) else (if a0.toList=([116,97,98]:List UInt8) then (some true) else (if a0.toList=([115,117,109]:List UInt8) then (some true) else (some false))))))))))=some r:=h;clear h;by_cases c2:a0.toList=([102,117,110]:List UInt8)
 ·rw[kAa c2] at H;have c2b0:(a0.toList==([102,117,110]:List UInt8))=true:=beq_iff_eq.mpr c2;have c2b1:(a0.toList != ([102,117,110]:List UInt8))=false:=bne_eq_false_iff_eq.mpr c2;clear c2;obtain rfl:=kAg H;go_enter Tryz.func106,Tryz.ntmps106;go_wp2;go_ret;exact⟨kDh,by repeat (first | exact Drawn0.refl _ | apply Drawn0.step)⟩
 ·rw[kA9 c2] at H;have c2b0:(a0.toList==([102,117,110]:List UInt8))=false:=beq_eq_false_iff_ne.mpr c2;have c2b1:(a0.toList != ([102,117,110]:List UInt8))=true:=bne_iff_ne.mpr c2;by_cases c3:a0.toList=([108,101,116]:List UInt8)
  ·rw[kAa c3] at H;have c3b0:(a0.toList==([108,101,116]:List UInt8))=true:=beq_iff_eq.mpr c3;have c3b1:(a0.toList != ([108,101,116]:List UInt8))=false:=bne_eq_false_iff_eq.mpr c3;clear c3;obtain rfl:=kAg H;go_enter Tryz.func106,Tryz.ntmps106;go_wp2;go_ret;exact⟨kDh,by repeat (first | exact Drawn0.refl _ | apply Drawn0.step)⟩
  ·rw[kA9 c3] at H;have c3b0:(a0.toList==([108,101,116]:List UInt8))=false:=beq_eq_false_iff_ne.mpr c3;have c3b1:(a0.toList != ([108,101,116]:List UInt8))=true:=bne_iff_ne.mpr c3;by_cases c4:a0.toList=([115,104,111,119]:List UInt8)
   ·rw[kAa c4] at H;have c4b0:(a0.toList==([115,104,111,119]:List UInt8))=true:=beq_iff_eq.mpr c4;have c4b1:(a0.toList != ([115,104,111,119]:List UInt8))=false:=bne_eq_false_iff_eq.mpr c4;clear c4;obtain rfl:=kAg H;go_enter Tryz.func106,Tryz.ntmps106;go_wp2;go_ret;exact⟨kDh,by repeat (first | exact Drawn0.refl _ | apply Drawn0.step)⟩
   ·rw[kA9 c4] at H;have c4b0:(a0.toList==([115,104,111,119]:List UInt8))=false:=beq_eq_false_iff_ne.mpr c4;have c4b1:(a0.toList != ([115,104,111,119]:List UInt8))=true:=bne_iff_ne.mpr c4;by_cases c5:a0.toList=([105,102]:List UInt8)
    ·rw[kAa c5] at H;have c5b0:(a0.toList==([105,102]:List UInt8))=true:=beq_iff_eq.mpr c5;have c5b1:(a0.toList != ([105,102]:List UInt8))=false:=bne_eq_false_iff_eq.mpr c5;clear c5;obtain rfl:=kAg H;go_enter Tryz.func106,Tryz.ntmps106;go_wp2;go_ret;exact⟨kDh,by repeat (first | exact Drawn0.refl _ | apply Drawn0.step)⟩
    ·rw[kA9 c5] at H;have c5b0:(a0.toList==([105,102]:List UInt8))=false:=beq_eq_false_iff_ne.mpr c5;have c5b1:(a0.toList != ([105,102]:List UInt8))=true:=bne_iff_ne.mpr c5;by_cases c6:a0.toList=([116,104,101,110]:List UInt8)
     ·rw[kAa c6] at H;have c6b0:(a0.toList==([116,104,101,110]:List UInt8))=true:=beq_iff_eq.mpr c6;have c6b1:(a0.toList != ([116,104,101,110]:List UInt8))=false:=bne_eq_false_iff_eq.mpr c6;clear c6;obtain rfl:=kAg H;go_enter Tryz.func106,Tryz.ntmps106;go_wp2;go_ret;exact⟨kDh,by repeat (first | exact Drawn0.refl _ | apply Drawn0.step)⟩
     ·rw[kA9 c6] at H;have c6b0:(a0.toList==([116,104,101,110]:List UInt8))=false:=beq_eq_false_iff_ne.mpr c6;have c6b1:(a0.toList != ([116,104,101,110]:List UInt8))=true:=bne_iff_ne.mpr c6;by_cases c7:a0.toList=([101,108,115,101]:List UInt8)
      ·rw[kAa c7] at H;have c7b0:(a0.toList==([101,108,115,101]:List UInt8))=true:=beq_iff_eq.mpr c7;have c7b1:(a0.toList != ([101,108,115,101]:List UInt8))=false:=bne_eq_false_iff_eq.mpr c7;clear c7;obtain rfl:=kAg H;go_enter Tryz.func106,Tryz.ntmps106;go_wp2;go_ret;exact⟨kDh,by repeat (first | exact Drawn0.refl _ | apply Drawn0.step)⟩
      ·rw[kA9 c7] at H;have c7b0:(a0.toList==([101,108,115,101]:List UInt8))=false:=beq_eq_false_iff_ne.mpr c7;have c7b1:(a0.toList != ([101,108,115,101]:List UInt8))=true:=bne_iff_ne.mpr c7;by_cases c8:a0.toList=([105,110]:List UInt8)
       ·rw[kAa c8] at H;have c8b0:(a0.toList==([105,110]:List UInt8))=true:=beq_iff_eq.mpr c8;have c8b1:(a0.toList != ([105,110]:List UInt8))=false:=bne_eq_false_iff_eq.mpr c8;clear c8;obtain rfl:=kAg H;go_enter Tryz.func106,Tryz.ntmps106;go_wp2;go_ret;exact⟨kDh,by repeat (first | exact Drawn0.refl _ | apply Drawn0.step)⟩
       ·rw[kA9 c8] at H;have c8b0:(a0.toList==([105,110]:List UInt8))=false:=beq_eq_false_iff_ne.mpr c8;have c8b1:(a0.toList != ([105,110]:List UInt8))=true:=bne_iff_ne.mpr c8;by_cases c9:a0.toList=([116,97,98]:List UInt8)
        ·rw[kAa c9] at H;have c9b0:(a0.toList==([116,97,98]:List UInt8))=true:=beq_iff_eq.mpr c9;have c9b1:(a0.toList != ([116,97,98]:List UInt8))=false:=bne_eq_false_iff_eq.mpr c9;clear c9;obtain rfl:=kAg H;go_enter Tryz.func106,Tryz.ntmps106;go_wp2;go_ret;exact⟨kDh,by repeat (first | exact Drawn0.refl _ | apply Drawn0.step)⟩
        ·rw[kA9 c9] at H;have c9b0:(a0.toList==([116,97,98]:List UInt8))=false:=beq_eq_false_iff_ne.mpr c9;have c9b1:(a0.toList != ([116,97,98]:List UInt8))=true:=bne_iff_ne.mpr c9;by_cases c10:a0.toList=([115,117,109]:List UInt8)
         ·rw[kAa c10] at H;have c10b0:(a0.toList==([115,117,109]:List UInt8))=true:=beq_iff_eq.mpr c10;have c10b1:(a0.toList != ([115,117,109]:List UInt8))=false:=bne_eq_false_iff_eq.mpr c10;clear c10;obtain rfl:=kAg H;go_enter Tryz.func106,Tryz.ntmps106;go_wp2;go_ret;exact⟨kDh,by repeat (first | exact Drawn0.refl _ | apply Drawn0.step)⟩
         ·rw[kA9 c10] at H;have c10b0:(a0.toList==([115,117,109]:List UInt8))=false:=beq_eq_false_iff_ne.mpr c10;have c10b1:(a0.toList != ([115,117,109]:List UInt8))=true:=bne_iff_ne.mpr c10;obtain rfl:=kAg H;go_enter Tryz.func106,Tryz.ntmps106;go_wp2;go_ret;exact⟨kDh,by repeat (first | exact Drawn0.refl _ | apply Drawn0.step)⟩
def zD6.f (a0:Int) (a1:Int) (a2:Int):Option (Bool):=if a1≤a0 then (some (decide (a0≤a2))) else (some false)
theorem zD6.calls (a0:Int) (a1:Int) (a2:Int) (r:Bool) (w:World) (h:zD6.f a0 a1 a2=some r) :
  Calls Tryz.prog 104 #[.int .i64 a0,.int .i64 a1,.int .i64 a2] w fun e w'=>e=.returned (.bool r)∧Drawn0 w w':=by
 have H:(if a1≤a0 then (some (decide (a0≤a2))) else (some false))=some r:=h;clear h;by_cases c4:a1≤a0
 ·rw[kAa c4] at H;have c4b0:decide (a1≤a0)=true:=kA8 c4;clear c4;obtain rfl:=kAg H;go_enter Tryz.func104,Tryz.ntmps104;go_wp2;go_ret;exact⟨kDh,by repeat (first | exact Drawn0.refl _ | apply Drawn0.step)⟩
 ·rw[kA9 c4] at H;have c4b0:decide (a1≤a0)=false:=kAc c4;clear c4;obtain rfl:=kAg H;go_enter Tryz.func104,Tryz.ntmps104;go_wp2;go_ret;exact⟨kDh,by repeat (first | exact Drawn0.refl _ | apply Drawn0.step)⟩
def read_unit.l0:Nat→ByteArray→Int→Int→Option (Bool)
 | 0,_,_,_=>none
 | k+1,x0,x10,x11=>if x11<x10 then (if 0≤x11 then (if x11<(x0.size:Int) then (if (bt x0 x11)<32 then (some false) else (if (bt x0 x11) > 126 then (some false) else (if (bt x0 x11)=123 then (some false) else (if (bt x0 x11)=125 then (some false) else (read_unit.l0 k x0 x10 (wrap64 (x11+1))))))) else (none)) else (none)) else (some true)
def read_unit.f (k:Nat) (a0:ByteArray):Option (Bool):=(zD6.f (a0.size:Int) 1 20).bind fun t118=>(if t118=true then (read_unit.l0 k a0 (a0.size:Int) 0) else (some false))
theorem read_unit.mono_l:∀k,(∀y0 y1 y2,LeO (read_unit.l0 k y0 y1 y2) (read_unit.l0 (k+1) y0 y1 y2))
 | 0=>fun _ _ _ r h=>by simp[read_unit.l0] at h
 | k+1=>by
  have ih0:=read_unit.mono_l k
  ·intro y0 y1 y2;unfold read_unit.l0
   repeat' first
   | (with_reducible exact ih0 _ _ _)
   | (with_reducible exact LeO.refl _)
   | (with_reducible exact LeO.none _)
   | (with_reducible refine LeO.ite ?_ ?_)
   | (with_reducible refine LeO.bind ?_ (fun _=>?_))
   | exact ih0 _ _ _
   | exact LeO.none _
   | refine LeO.ite ?_ ?_
   | refine LeO.bind ?_ (fun _=>?_)
theorem read_unit.mono:∀a0 k,LeO (read_unit.f k a0) (read_unit.f (k+1) a0):=by
 intro a0 k;have ih0:=read_unit.mono_l k;unfold read_unit.f
 repeat' first
   | (with_reducible exact ih0 _ _ _)
   | (with_reducible exact LeO.refl _)
   | (with_reducible exact LeO.none _)
   | (with_reducible refine LeO.ite ?_ ?_)
   | (with_reducible refine LeO.bind ?_ (fun _=>?_))
   | exact ih0 _ _ _
   | exact LeO.none _
   | refine LeO.ite ?_ ?_
   | refine LeO.bind ?_ (fun _=>?_)
theorem read_unit.calls (k:Nat) (a0:ByteArray) (r:Bool) (w:World) (h:read_unit.f k a0=some r) :
  Calls Tryz.prog 125 #[.string a0] w fun e w'=>e=.returned (.bool r)∧Drawn0 w w':=by
 have H:((zD6.f (a0.size:Int) 1 20).bind fun t118=>(if t118=true then (read_unit.l0 k a0 (a0.size:Int) 0) else (some false)))=some r:=h;clear h;replace H:=Option.bind_eq_some_iff.mp H;obtain⟨t118,A20,H⟩:=H;replace H:(if t118=true then (read_unit.l0 k a0 (a0.size:Int) 0) else (some false))=some r:=H;have A2:=Aside0.mk A20;clear A20;by_cases c3:t118=true
 ·subst c3;have H1:(read_unit.l0 k a0 (a0.size:Int) 0)=some r:=by rw[kAa rfl] at H;exact H
  clear H;have H:=H1;clear H1;have H':=Aside0.mk H;clear H;go_enter Tryz.func125,Tryz.ntmps125;go_wp2_with (first | ((with_reducible refine zAi (f:=104) rfl ?_);refine zB4 (some 7) rfl rfl Tryz.func104 kD5 rfl #[.int .i64 (a0.size:Int),.int .i64 1,.int .i64 20] rfl kDe ?_;(with_reducible refine (zD6.calls (a0.size:Int) 1 20 true _ A2.out).mono ?_);rintro e w' ⟨rfl,⟨nd,rfl⟩⟩;refine⟨_,rfl,?_⟩));go_loopg [11] k (fun kq v11 w'=>∃(x11_1:Int),v11=.int .i64 x11_1∧Aside0 (read_unit.l0 kq a0 (a0.size:Int) x11_1=some r)∧Aside0 (kq≤k)∧Drawn0 w w')
  case atStart=>exact⟨(0),kDh,H',⟨kA2 _⟩,by repeat (first | exact Drawn0.refl _ | apply Drawn0.step)⟩
  case round =>
   clear H'
   try clear c1
   try clear p2
   try clear c3
   obtain⟨x11_1,rfl,HA,HK1,⟨m1,rfl⟩⟩:=hrel
   cases gk with
   | zero=>exact absurd HA.out (by simp[read_unit.l0])
   | succ k1 =>
    have H:=HA.out;clear HA;simp only[read_unit.l0] at H;by_cases c4:x11_1<(a0.size:Int)
    ·rw[kAa c4] at H;have c4b0:decide (x11_1<(a0.size:Int))=true:=kA8 c4;clear c4;by_cases c5:0≤x11_1
     ·rw[kAa c5] at H;have c5b0:decide (0≤x11_1)=true:=kA8 c5;clear c5;by_cases c6:x11_1<(a0.size:Int)
      ·rw[kAa c6] at H;have c6b0:decide (x11_1<(a0.size:Int))=true:=kA8 c6;clear c6;by_cases c8:(bt a0 x11_1)<32
       ·rw[kAa c8] at H;have c8b0:decide ((bt a0 x11_1)<32)=true:=kA8 c8;clear c8;obtain rfl:=kAg H;have p7:0≤(x11_1:Int):=kAn kDf;have q7:x11_1<(a0.size:Int):=kAn kDf;have hx7:=bt_at a0 x11_1;replace p7:=kAX p7;replace q7:=kAX q7;go_wp2;go_ret;exact⟨kDh,by repeat (first | exact Drawn0.refl _ | apply Drawn0.step)⟩
       ·rw[kA9 c8] at H;have c8b0:decide ((bt a0 x11_1)<32)=false:=kAc c8;clear c8;by_cases c9:(bt a0 x11_1) > 126
        ·rw[kAa c9] at H;have c9b0:decide (126<(bt a0 x11_1))=true:=kA8 c9;clear c9;obtain rfl:=kAg H;have p7:0≤(x11_1:Int):=kAn kDf;have q7:x11_1<(a0.size:Int):=kAn kDf;have hx7:=bt_at a0 x11_1;replace p7:=kAX p7;replace q7:=kAX q7;go_wp2;go_ret;exact⟨kDh,by repeat (first | exact Drawn0.refl _ | apply Drawn0.step)⟩
        ·rw[kA9 c9] at H;have c9b0:decide (126<(bt a0 x11_1))=false:=kAc c9;clear c9;by_cases c10:(bt a0 x11_1)=123
         ·rw[kAa c10] at H;have c10b0:((bt a0 x11_1)==123)=true:=beq_iff_eq.mpr c10;have c10b1:((bt a0 x11_1) != 123)=false:=bne_eq_false_iff_eq.mpr c10;clear c10;obtain rfl:=kAg H;have p7:0≤(x11_1:Int):=kAn kDf;have q7:x11_1<(a0.size:Int):=kAn kDf;have hx7:=bt_at a0 x11_1;replace p7:=kAX p7;replace q7:=kAX q7;go_wp2;go_ret;exact⟨kDh,by repeat (first | exact Drawn0.refl _ | apply Drawn0.step)⟩
         ·rw[kA9 c10] at H;have c10b0:((bt a0 x11_1)==123)=false:=beq_eq_false_iff_ne.mpr c10;have c10b1:((bt a0 x11_1) != 123)=true:=bne_iff_ne.mpr c10;by_cases c11:(bt a0 x11_1)=125
          ·rw[kAa c11] at H;have c11b0:((bt a0 x11_1)==125)=true:=beq_iff_eq.mpr c11;have c11b1:((bt a0 x11_1) != 125)=false:=bne_eq_false_iff_eq.mpr c11;clear c11;obtain rfl:=kAg H;have p7:0≤(x11_1:Int):=kAn kDf;have q7:x11_1<(a0.size:Int):=kAn kDf;have hx7:=bt_at a0 x11_1;replace p7:=kAX p7;replace q7:=kAX q7;go_wp2;go_ret;exact⟨kDh,by repeat (first | exact Drawn0.refl _ | apply Drawn0.step)⟩
          ·rw[kA9 c11] at H;have c11b0:((bt a0 x11_1)==125)=false:=beq_eq_false_iff_ne.mpr c11;have c11b1:((bt a0 x11_1) != 125)=true:=bne_iff_ne.mpr c11;have H':=Aside0.mk H;clear H;have p7:0≤(x11_1:Int):=kAn kDf;have q7:x11_1<(a0.size:Int):=kAn kDf;have hx7:=bt_at a0 x11_1;replace p7:=kAX p7;replace q7:=kAX q7;go_wp2;go_roundg k1
           case measure=>have:=HK1.out;omega
           case rel=>exact⟨(wrap64 (x11_1+1)),kDh,H',⟨by have:=HK1.out;omega⟩,by repeat (first | exact Drawn0.refl _ | apply Drawn0.step)⟩
      ·rw[kA9 c6] at H;exact absurd H kD6
     ·rw[kA9 c5] at H;exact absurd H kD6
    ·rw[kA9 c4] at H;have c4b0:decide (x11_1<(a0.size:Int))=false:=kAc c4;clear c4;obtain rfl:=kAg H;go_wp2;go_ret;exact⟨kDh,by repeat (first | exact Drawn0.refl _ | apply Drawn0.step)⟩
 ·replace c3:=Bool.eq_false_iff.mpr c3;subst c3;have H1:(some false)=some r:=by rw[kA9 (show ¬(false=true) by decide)] at H;exact H
  clear H;have H:=H1;clear H1;obtain rfl:=kAg H;go_enter Tryz.func125,Tryz.ntmps125;go_wp2_with (first | ((with_reducible refine zAi (f:=104) rfl ?_);refine zB4 (some 7) rfl rfl Tryz.func104 kD5 rfl #[.int .i64 (a0.size:Int),.int .i64 1,.int .i64 20] rfl kDe ?_;(with_reducible refine (zD6.calls (a0.size:Int) 1 20 false _ A2.out).mono ?_);rintro e w' ⟨rfl,⟨nd,rfl⟩⟩;refine⟨_,rfl,?_⟩));go_ret;exact⟨kDh,by repeat (first | exact Drawn0.refl _ | apply Drawn0.step)⟩
def stringslite_HasPrefix.f (a0:ByteArray) (a1:ByteArray):Option (Bool):=if (a0.size:Int)≥(a1.size:Int) then (if 0≤(a1.size:Int) then (if (a1.size:Int)≤(a0.size:Int) then (some ((a0.extract 0 ((a1.size:Int):Int).toNat).toList==a1.toList)) else (none)) else (none)) else (some false)
theorem stringslite_HasPrefix.calls (a0:ByteArray) (a1:ByteArray) (r:Bool) (w:World) (h:stringslite_HasPrefix.f a0 a1=some r) :
  Calls Tryz.prog 177 #[.string a0,.string a1] w fun e w'=>e=.returned (.bool r)∧Drawn0 w w':=by
 have H:(if (a0.size:Int)≥(a1.size:Int) then (if 0≤(a1.size:Int) then (if (a1.size:Int)≤(a0.size:Int) then (some ((a0.extract 0 ((a1.size:Int):Int).toNat).toList==a1.toList)) else (none)) else (none)) else (some false))=some r:=h;clear h;by_cases c3:(a0.size:Int)≥(a1.size:Int)
 ·rw[kAa c3] at H;have c3b0:decide ((a1.size:Int)≤(a0.size:Int))=true:=kA8 c3;have c3b1:decide (a1.size≤a0.size)=true:=kA8 (Int.ofNat_le.mp c3);clear c3;by_cases c4:0≤(a1.size:Int)
  ·rw[kAa c4] at H;have c4b0:=kAX c4;have c4b1:decide (0≤(a1.size:Int))=true:=kA8 c4;clear c4;by_cases c5:(a1.size:Int)≤(a0.size:Int)
   ·rw[kAa c5] at H;have c5b0:=kAX c5;have c5b1:decide ((a1.size:Int)≤(a0.size:Int))=true:=kA8 c5;clear c5;obtain rfl:=kAg H;go_enter Tryz.func177,Tryz.ntmps177;go_wp2;go_ret;exact⟨kDh,by repeat (first | exact Drawn0.refl _ | apply Drawn0.step)⟩
   ·rw[kA9 c5] at H;exact absurd H kD6
  ·rw[kA9 c4] at H;exact absurd H kD6
 ·rw[kA9 c3] at H;have c3b0:decide ((a1.size:Int)≤(a0.size:Int))=false:=kAc c3;have c3b1:decide (a1.size≤a0.size)=false:=kAc (fun h=>c3 (Int.ofNat_le.mpr h));clear c3;obtain rfl:=kAg H;go_enter Tryz.func177,Tryz.ntmps177;go_wp2;go_ret;exact⟨kDh,by repeat (first | exact Drawn0.refl _ | apply Drawn0.step)⟩
def stringslite_TrimPrefix.f (a0:ByteArray) (a1:ByteArray):Option (ByteArray):=(stringslite_HasPrefix.f a0 a1).bind fun t119=>(if t119=true then (if 0≤(a1.size:Int) then (if (a1.size:Int)≤(a0.size:Int) then (some (a0.extract ((a1.size:Int):Int).toNat a0.size)) else (none)) else (none)) else (some a0))
theorem stringslite_TrimPrefix.calls (a0:ByteArray) (a1:ByteArray) (r:ByteArray) (w:World) (h:stringslite_TrimPrefix.f a0 a1=some r) :
  Calls Tryz.prog 152 #[.string a0,.string a1] w fun e w'=>e=.returned (.string r)∧Drawn0 w w':=by
 have H:((stringslite_HasPrefix.f a0 a1).bind fun t119=>(if t119=true then (if 0≤(a1.size:Int) then (if (a1.size:Int)≤(a0.size:Int) then (some (a0.extract ((a1.size:Int):Int).toNat a0.size)) else (none)) else (none)) else (some a0)))=some r:=h;clear h;replace H:=Option.bind_eq_some_iff.mp H;obtain⟨t119,A30,H⟩:=H;replace H:(if t119=true then (if 0≤(a1.size:Int) then (if (a1.size:Int)≤(a0.size:Int) then (some (a0.extract ((a1.size:Int):Int).toNat a0.size)) else (none)) else (none)) else (some a0))=some r:=H;have A3:=Aside0.mk A30;clear A30;by_cases c4:t119=true
 ·subst c4;have H1:(if 0≤(a1.size:Int) then (if (a1.size:Int)≤(a0.size:Int) then (some (a0.extract ((a1.size:Int):Int).toNat a0.size)) else (none)) else (none))=some r:=by rw[kAa rfl] at H;exact H
  clear H;have H:=H1;clear H1;by_cases c5:0≤(a1.size:Int)
  ·rw[kAa c5] at H;have c5b0:=kAX c5;have c5b1:decide (0≤(a1.size:Int))=true:=kA8 c5;clear c5;by_cases c6:(a1.size:Int)≤(a0.size:Int)
   ·rw[kAa c6] at H;have c6b0:=kAX c6;have c6b1:decide ((a1.size:Int)≤(a0.size:Int))=true:=kA8 c6;clear c6;obtain rfl:=kAg H;go_enter Tryz.func152,Tryz.ntmps152;go_wp2_with (first | ((with_reducible refine zAi (f:=177) rfl ?_);refine zB4 (some 7) rfl rfl Tryz.func177 kD5 rfl #[.string a0,.string a1] rfl kDe ?_;(with_reducible refine (stringslite_HasPrefix.calls a0 a1 true _ A3.out).mono ?_);rintro e w' ⟨rfl,⟨nd,rfl⟩⟩;refine⟨_,rfl,?_⟩));go_ret;exact⟨kDh,by repeat (first | exact Drawn0.refl _ | apply Drawn0.step)⟩
   ·rw[kA9 c6] at H;exact absurd H kD6
  ·rw[kA9 c5] at H;exact absurd H kD6
 ·replace c4:=Bool.eq_false_iff.mpr c4;subst c4;have H1:(some a0)=some r:=by rw[kA9 (show ¬(false=true) by decide)] at H;exact H
  clear H;have H:=H1;clear H1;obtain rfl:=kAg H;go_enter Tryz.func152,Tryz.ntmps152;go_wp2_with (first | ((with_reducible refine zAi (f:=177) rfl ?_);refine zB4 (some 7) rfl rfl Tryz.func177 kD5 rfl #[.string a0,.string a1] rfl kDe ?_;(with_reducible refine (stringslite_HasPrefix.calls a0 a1 false _ A3.out).mono ?_);rintro e w' ⟨rfl,⟨nd,rfl⟩⟩;refine⟨_,rfl,?_⟩));go_ret;exact⟨kDh,by repeat (first | exact Drawn0.refl _ | apply Drawn0.step)⟩
def strings_TrimPrefix.f (a0:ByteArray) (a1:ByteArray):Option (ByteArray):=(stringslite_TrimPrefix.f a0 a1).bind fun t120=>(some t120)
theorem strings_TrimPrefix.calls (a0:ByteArray) (a1:ByteArray) (r:ByteArray) (w:World) (h:strings_TrimPrefix.f a0 a1=some r) :
  Calls Tryz.prog 124 #[.string a0,.string a1] w fun e w'=>e=.returned (.string r)∧Drawn0 w w':=by
 have H:((stringslite_TrimPrefix.f a0 a1).bind fun t120=>(some t120))=some r:=h;clear h;replace H:=Option.bind_eq_some_iff.mp H;obtain⟨t120,A30,H⟩:=H;replace H:(some t120)=some r:=H;have A3:=Aside0.mk A30;clear A30;obtain rfl:=kAg H;go_enter Tryz.func124,Tryz.ntmps124;go_wp2_with (first | ((with_reducible refine zAi (f:=152) rfl ?_);refine zB4 (some 7) rfl rfl Tryz.func152 kD5 rfl #[.string a0,.string a1] rfl kDe ?_;(with_reducible refine (stringslite_TrimPrefix.calls a0 a1 t120 _ A3.out).mono ?_);rintro e w' ⟨rfl,⟨nd,rfl⟩⟩;refine⟨_,rfl,?_⟩));go_ret;exact⟨kDh,by repeat (first | exact Drawn0.refl _ | apply Drawn0.step)⟩
end
end Go.Proofs.YtjaobihcdkjmbaaGreatDoor.PReadTokens
end
section
namespace Go.Proofs.YtjaobihcdkjmbaaGreatDoor
open Go.RowKit Go.Proofs.YtjaobihcdkjmbaaGreatDoorW.PrintWords
theorem zDG {P:Program} (w:World) (b:Nat) (s:ByteArray) (pos:Nat) (ty:TypeId) (hb:w.heap[b]?=some (.stringIter s pos)) (h:pos<s.size) :
  (Instr.next (.pointer (some ⟨b,0,none⟩)) true ty).run P w=.ok (.tuple #[.bool true,.int .i64 pos,.int .i32 (Utf8.decode s pos).1]) (w.putObj b (.stringIter s (pos+(Utf8.decode s pos).2))):=by
 simp[Instr.next,getObj,setObj,kCf,Sem.run,hb,Result.andThen,h,World.putObj,goInt]
theorem zDm {P:Program} (w:World) (b:Nat) (s:ByteArray) (pos:Nat) (ty:TypeId) (hb:w.heap[b]?=some (.stringIter s pos)) (h:¬pos<s.size) :
  (Instr.next (.pointer (some ⟨b,0,none⟩)) true ty).run P w=.ok (.tuple #[.bool false]) w:=by
 simp[Instr.next,getObj,Sem.run,hb,h]
def okC (ks:List Int) (b:UInt8):Bool:=ks.contains (srt b.toNat)
def zBc (ks:List Int) (l:List UInt8):Nat:=(l.takeWhile (okC ks)).length
theorem markFrom_high (c:Int) (h:128≤c):zBY c ms.data.toList=false:=by
 have hd:∀l:List UInt8,(∀m∈l,m.toNat<128)→zBY c l=false:=by
  intro l
  induction l with
  | nil=>intro _;rfl
  | cons m l ih =>
   intro hl;have h1:=hl m kAQ;simp only[zBY,ih (fun x hx=>hl x (kAM _ hx)),Bool.or_false];rw[kAd];omega
 exact hd _ kD7
theorem zEz (c:Int) (h:128≤c):srt c=0:=by
 unfold srt;rw[kA9 kD4,kA9 kD4,kA9 kD4,kA9 kD4,markFrom_high c h];rfl
theorem rune_ok (ks:List Int) (h0:ks.contains 0=false) (s:ByteArray) (pos:Nat) (h:pos<s.size) :
  ks.contains (srt ((Utf8.decode s pos).1:Nat))=okC ks (s[pos]'h)∧(okC ks (s[pos]'h)=true→(Utf8.decode s pos).2=1):=by
 by_cases ha:(s[pos]'h).toNat<128
 ·rw[decode_ascii s pos h ha];exact⟨rfl,fun _=>rfl⟩
 ·have hh:=(decode_high s pos h kD4).1;have e:okC ks (s[pos]'h)=false:=by
   unfold okC;rw[zEz _ kD4];exact h0
  rw[zEz _ kD4,e];exact⟨h0,fun h=>by cases h⟩
def Ran (ks:List Int) (sub:ByteArray) (pos:Nat):Prop:=zBc ks sub.data.toList=pos+zBc ks (sub.data.toList.drop pos)
theorem Ran.zero (ks:List Int) (sub:ByteArray):Ran ks sub 0:=by simp[Ran]
theorem Ran.more {ks:List Int} {sub:ByteArray} {pos:Nat} (h:Ran ks sub pos) (hp:pos<sub.size) (hk:okC ks (sub[pos]'hp)=true):Ran ks sub (pos+1):=by
 unfold Ran at h⊢;rw[h,kAp (show pos<sub.data.toList.length from hp)];have hk':okC ks (sub.data.toList[pos]'(show pos<sub.data.toList.length from hp))=true:=hk;have:zBc ks (sub.data.toList[pos]'(show pos<sub.data.toList.length from hp) :: sub.data.toList.drop (pos+1))=1+zBc ks (sub.data.toList.drop (pos+1)):=by
  unfold zBc;rw[kB0,kAa hk',List.length_cons];omega
 omega
theorem Ran.stop {ks:List Int} {sub:ByteArray} {pos:Nat} (h:Ran ks sub pos) (hp:pos<sub.size) (hk:okC ks (sub[pos]'hp)=false):zBc ks sub.data.toList=pos:=by
 unfold Ran at h;rw[h,kAp (show pos<sub.data.toList.length from hp)];have hk':¬okC ks (sub.data.toList[pos]'(show pos<sub.data.toList.length from hp))=true:=kCJ.1 hk;unfold zBc;rw[kB0,kA9 hk'];rfl
theorem Ran.end_ {ks:List Int} {sub:ByteArray} {pos:Nat} (h:Ran ks sub pos) (hp:¬pos<sub.size):zBc ks sub.data.toList=pos:=by
 unfold Ran at h;rw[h,kBq (show sub.data.toList.length≤pos from kCy.1 hp)];rfl
theorem zAa {W w1:World} (hb:Below W.heap.size W w1) {b:Nat} {o:Obj} (h:W.heap[b]?=some o):w1.heap[b]?=some o:=(hb.block b (zA5 h)).trans h
structure RunAt (w:World) (S:Nat) (s sub:ByteArray) (b pos:Nat) (wr:World):Prop where
 grown:w.grownBy wr (some S)
 scan:wr.heap[S]?=some (.cells #[.string s,.int .i64 b] 129 (0,0))
 iter:wr.heap[w.heap.size]?=some (.stringIter sub pos)
theorem RunAt.next {w:World} {S:Nat} {s sub:ByteArray} {b pos:Nat} {wr:World} (h:RunAt w S s sub b pos wr) (hS:S<w.heap.size) (pos':Nat) :
  RunAt w S s sub b pos' (wr.putObj w.heap.size (.stringIter sub pos')):=by
 refine⟨⟨h.grown.os,h.grown.tape,h.grown.output,by rw[World.putObj_size];exact h.grown.size,fun k hk hne=>(kAq kD4).trans (h.grown.block k hk hne)⟩,?_,?_⟩
 ·exact (kAq kD4).trans h.scan
 ·exact kBe (zA5 h.iter)
theorem RunAt.below {w:World} {S:Nat} {s sub:ByteArray} {b pos:Nat} {wr w1:World} (h:RunAt w S s sub b pos wr) (hb:Below wr.heap.size wr w1):RunAt w S s sub b pos w1 :=
 ⟨kAk h.grown hb,zAa hb h.scan,zAa hb h.iter⟩
theorem RunAt.set {w:World} {S:Nat} {s sub:ByteArray} {b pos:Nat} {wr:World} (h:RunAt w S s sub b pos wr) (hS:S<w.heap.size) (b':Nat):RunAt w S s sub b' pos (wr.setCell ⟨S,1,none⟩ (.int .i64 b')):=by
 refine⟨kA7 h.grown (kAf _ _ _ _),?_,(kA5 _ _ _ _ kD8).trans h.iter⟩;exact zA8 h.scan 1 _
theorem zBu {w w':World} {row:Option Nat} (h:w.grownBy w' row) (n:Nat):w.grownBy (w'.drewN n) row:=⟨h.os,h.tape,h.output,h.size,h.block⟩
theorem contains_snoc (ks:List Int) (j:Nat) (x:Int) (h:j<ks.length):(ks.take (j+1)).contains x=((ks.take j).contains x||x==ks[j]):=by
 have e:ks.take (j+1)=ks.take j++[ks[j]]:=kBv h;rw[kCA];simp only[e,kCT,kC2,kBt,kCX,kAU,kAA]
theorem run_any (S g:Nat) (s:ByteArray) (a:Nat) (ha:a≤s.size) (ks:List Int) (t:TypeId) (w:World) (hs:s.size≤9223372036854775807)
  (hk0:ks.contains 0=false) (hkn:ks.length<100)
  (hS:w.heap[S]?=some (.cells #[.string s,.int .i64 a] 129 (0,0))) (hg:w.heap[g]?=some (.cells (ks.map (Value.int .i64)).toArray t (0,0))) (hgS:g≠S) :
  Calls Tryz.prog 122 #[.pointer (some ⟨S,0,none⟩),.slice (some ⟨g,0,none⟩) ks.length ks.length] w fun e w' =>
   e=.returned (.string (s.extract a (a+zBc ks (s.data.toList.drop a))))∧w.grownBy w' (some S) ∧
   w'.heap[S]?=some (.cells #[.string s,.int .i64 (a+zBc ks (s.data.toList.drop a):Nat)] 129 (0,0)):=by
 have hs0:=zA1 hS 0;have hs1:=zA1 hS 1;have HS:=kA1 hS;have HG:=kA1 hg;have HK:=kA1 hk0;clear hS hg hk0;have hSw:S<w.heap.size:=zA5 HS.out;have hgw:g<w.heap.size:=zA5 HG.out;go_enter Tryz.func122,Tryz.ntmps122;go_wp2
 go_step3
 go_wp2
 go_step3
 go_wp2;clear hs0 hs1;have hsz:(s.extract a s.size).size=s.size-a:=kD6
 have hdata:(s.extract a s.size).data.toList=s.data.toList.drop a:=by
  rw[kBj];exact kBE kD6
 have HD:=kA1 hdata;have hit:RunAt w S s (s.extract a s.size) a 0 (w.iter (s.extract a s.size) 0) :=
  ⟨kAE _ _ _,(kA4 _ _ _ hSw).trans HS.out,World.iter_heap _ _ _⟩
 clear hdata;generalize s.extract a s.size=sub at *;have Hsz:=kA1 hsz;clear hsz;go_loopg [] sub.size (fun k wr=>∃pos b,pos+k=sub.size∧Hid (b=a+pos)∧RunAt w S s sub b pos wr∧Ran ks sub pos)
 case atStart=>exact⟨0,a,kD4,rfl,hit,Ran.zero _ _⟩
 case round =>
  clear hit;obtain⟨pos,b,hpos,Hb,hat,hran⟩:=hrel;have hcs:=zA1 hat.scan 0;have hcs1:=zA1 hat.scan 1;have hfz:=zA2 hat.scan 1;have hab:a≤b:=by have:=Hb.out;omega
  have hbs:b≤s.size:=by have:=Hsz.out;have:=Hb.out;omega
  by_cases hp:pos<sub.size
  ·have hnx:=fun ty=>zDG (P:=Tryz.prog) wr w.heap.size sub pos ty hat.iter hp
   have hin:=hat.next hSw (pos+(Utf8.decode sub pos).2)
   have HR:=kA1 (rune_ok ks HK.out sub pos hp);have hbl:b<s.size:=by have:=Hsz.out;have:=Hb.out;omega
   go_wp2;clear hnx hat hcs hcs1 hfz;generalize wr.putObj w.heap.size (.stringIter sub (pos+(Utf8.decode sub pos).2))=W1 at *;generalize gk=G at *;go_loopg [26] ks.length (fun m i wi=>∃j:Nat,j+m=ks.length∧i=.int .i64 j∧Below W1.heap.size W1 wi∧Hid ((ks.take j).contains (srt (Utf8.decode sub pos).1)=false))
   case atStart=>exact⟨0,kD4,rfl,kA3 _ _,rfl⟩
   case round =>
    obtain⟨j,hj,rfl,hb,Hnone⟩:=hrel;have hin2:=hin.below hb;have hgc:=zAa hb ((hin.grown.block g hgw (fun e=>hgS (by injection e))).trans HG.out);by_cases hjl:j<ks.length
    ·have hcs:=zA1 hgc j;have hcv:(ks.map (Value.int .i64)).toArray[j]?=some (.int .i64 ks[j]):=by simp[hjl]
     rw[hcv] at hcs;have Hsn:=kA1 (contains_snoc ks j (srt (Utf8.decode sub pos).1) hjl);have Hgc:=kA1 hgc;clear hcv hgc;generalize ks[j]=kj at *;go_wp2_with (go_at_call 107;refine (zCI _ _).mono ?_;rintro e w1 ⟨rfl,hb1⟩;have hin3:=hin2.below hb1;have c31:=zA1 hin3.scan 1;have f31:=zA2 hin3.scan 1)
     ·have ht:(srt ↑(Utf8.decode sub pos).1==kj)=true:=kDb
      have hin3:RunAt w S s sub b (pos+(Utf8.decode sub pos).2) w1:=hin2.below kDb;go_roundg (G-1)
      case measure=>omega
      case rel =>
       have hct:ks.contains (srt (Utf8.decode sub pos).1)=true:=by
        have h1:=Hsn.out;rw[ht,Bool.or_true,kCT,kAU] at h1;rw[kCT,kAU];exact kCo h1
       rw[HR.out.1] at hct;have h:=hin3.set hSw (b+1);rw[HR.out.2 hct,show (((b+1:Nat)):Int)=(b:Int)+1 by omega] at h;exact⟨pos+1,b+1,kD4,(by show b+1=a+(pos+1);have:=Hb.out;omega),h,hran.more hp hct⟩
     ·have ht:(srt ↑(Utf8.decode sub pos).1==kj)=false:=kDb
      go_roundg (gk-1)
      case measure=>omega
      case rel =>
       refine⟨j+1,kD4,by go_num,?_,?_⟩
       ·exact hb.trans (hb1.mono hb.size)
       ·show _=_;rw[Hsn.out,Hnone.out,ht];rfl
    ·clear hgc;have Hok:Hid (okC ks sub[pos]=false):=by
      have h1:=Hnone.out;rw[kBE kD4,HR.out.1] at h1;exact h1
     have hlen:=kA1 (hran.stop hp Hok.out);have hcs:=zA1 hin2.scan 0;have hcs1:=zA1 hin2.scan 1;have hgrown:=hin2.grown;have hscan:=kA1 hin2.scan;clear hran hin hin2;go_wp2
     go_quiet (fail)
     go_wp2;rw[Exit.noGoto_ret];go_ret;rw[← HD.out,hlen.out,← Hb.out];exact⟨rfl,zBu hgrown _,hscan.out⟩
  ·have hnx:=fun ty=>zDm (P:=Tryz.prog) wr w.heap.size sub pos ty hat.iter hp
   have hlen:=kA1 (hran.end_ hp);have hgrown:=hat.grown;have hscan:=kA1 hat.scan;clear hat hran;go_wp2
   go_quiet (fail)
   go_wp2;rw[Exit.noGoto_ret];go_ret;rw[← HD.out,hlen.out,← Hb.out];exact⟨rfl,zBu hgrown _,hscan.out⟩
end Go.Proofs.YtjaobihcdkjmbaaGreatDoor
end
section
namespace Go.Proofs.YtjaobihcdkjmbaaGreatDoor
open Go.RowKit Go.Proofs.YtjaobihcdkjmbaaGreatDoorW.PrintWords Go.Proofs.YtjaobihcdkjmbaaGreatDoor.PReadTokens
def zE4 (s:ByteArray):Bool:=(read_word.f s).getD false
theorem word_f (s:ByteArray):read_word.f s=some (zE4 s):=by
 unfold zE4 read_word.f
 repeat' split
 all_goals rfl
theorem word_any (s:ByteArray) (w:World):Calls Tryz.prog 106 #[.string s] w fun e w'=>e=.returned (.bool (zE4 s))∧Below w.heap.size w w' :=
 (read_word.calls s (zE4 s) w (word_f s)).mono fun _ _ ⟨h1,h2⟩=>⟨h1,h2.below⟩
def nchk (pos:Nat) (b:UInt8):Bool:=srt b.toNat==2||(srt b.toNat==4&&decide (0<pos))
def zBJ:Nat→List UInt8→Bool
 | _,[]=>true
 | pos,b :: l=>nchk pos b&&zBJ (pos+1) l
def zBQ (s:ByteArray):Bool:=decide (0<s.size)&&decide (s.size≤12) && !zE4 s&&zBJ 0 s.data.toList
theorem nameFrom_drop (s:ByteArray) (pos:Nat) (h:pos<s.size):zBJ pos (s.data.toList.drop pos)=(nchk pos (s[pos]'h)&&zBJ (pos+1) (s.data.toList.drop (pos+1))):=by
 rw[kAp (show pos<s.data.toList.length from h)];rfl
theorem rune_nchk (s:ByteArray) (pos:Nat) (h:pos<s.size) :
  nchk pos (s[pos]'h)=(srt ((Utf8.decode s pos).1:Nat)==2||(srt ((Utf8.decode s pos).1:Nat)==4&&decide (0<pos)))∧(nchk pos (s[pos]'h)=true→(Utf8.decode s pos).2=1):=by
 by_cases ha:(s[pos]'h).toNat<128
 ·rw[decode_ascii s pos h ha];exact⟨rfl,fun _=>rfl⟩
 ·have hh:=(decode_high s pos h kD4).1;have e:nchk pos (s[pos]'h)=false:=by
   unfold nchk;rw[zEz _ kD4];rfl
  rw[zEz _ kD4,e];exact⟨rfl,fun h=>by cases h⟩
theorem str_empty {s:ByteArray} (h:s.size=0):s.toList=[]:=by
 rw[kAV];exact kAK h
theorem str_some {s:ByteArray} (h:0<s.size):s.toList.isEmpty=false:=by
 rw[kAV]
 cases hl:s.data.toList with
 | nil=>have:s.data.toList.length=s.size:=rfl;rw[hl] at this;simp at this;omega
 | cons _ _=>rfl
structure IterAt (w1:World) (s:ByteArray) (pos:Nat) (wr:World):Prop where
 below_:Below w1.heap.size w1 wr
 iter:wr.heap[w1.heap.size]?=some (.stringIter s pos)
theorem IterAt.next {w1:World} {s:ByteArray} {pos:Nat} {wr:World} (h:IterAt w1 s pos wr) (pos':Nat):IterAt w1 s pos' (wr.putObj w1.heap.size (.stringIter s pos')) :=
 ⟨⟨h.below_.os,h.below_.tape,h.below_.output,by rw[World.putObj_size];exact h.below_.size,fun k hk=>(kAq kD4).trans (h.below_.block k hk)⟩,kBe (zA5 h.iter)⟩
theorem IterAt.below {w1:World} {s:ByteArray} {pos:Nat} {wr w2:World} (h:IterAt w1 s pos wr) (hb:Below wr.heap.size wr w2):IterAt w1 s pos w2 :=
 ⟨h.below_.trans (hb.mono h.below_.size),zAa hb h.iter⟩
theorem name_any (s:ByteArray) (w:World) (hs:s.size≤9223372036854775807) :
  Calls Tryz.prog 71 #[.string s] w fun e w'=>e=.returned (.bool (zBQ s))∧Below w.heap.size w w':=by
 by_cases h1:s.size=0
 ·have hres:zBQ s=false:=by unfold zBQ;rw[h1];rfl
  rw[hres];have h2:=str_empty h1;clear h1 hres;go_enter Tryz.func71,Tryz.ntmps71;go_wp2;go_ret;exact⟨rfl,kA3 _ _⟩
 ·have h2:=str_some (s:=s) kD4;by_cases h3:s.size≤12
  ·cases hw:zE4 s
   ·have hres:zBQ s=zBJ 0 s.data.toList:=by unfold zBQ;rw[hw];simp[h3];omega
    rw[hres];have hwd:=word_any s w;rw[hw] at hwd;clear hw hres;go_enter Tryz.func71,Tryz.ntmps71;go_wp2_with (go_at_call 106;refine hwd.mono ?_;rintro e w1 ⟨rfl,hb⟩);have hit:IterAt w1 s 0 (w1.iter s 0):=⟨(kA3 _ _).alloc (kA2 _) _,World.iter_heap _ _ _⟩;go_loopg [] s.size (fun k wr=>∃pos,pos+k=s.size∧IterAt w1 s pos wr∧Hid (zBJ 0 s.data.toList=zBJ pos (s.data.toList.drop pos)))
    case atStart=>exact⟨0,kD4,hit,by show _=_;simp⟩
    case round =>
     clear hit;obtain⟨pos,hpos,hat,Hn⟩:=hrel;by_cases hp:pos<s.size
     ·have hnx:=fun ty=>zDG (P:=Tryz.prog) wr w1.heap.size s pos ty hat.iter hp
      have hin:=hat.next (pos+(Utf8.decode s pos).2)
      have HR:=kA1 (rune_nchk s pos hp);have HD:=kA1 (nameFrom_drop s pos hp);go_wp2_with fail;clear hnx hat;generalize wr.putObj w1.heap.size (.stringIter s (pos+(Utf8.decode s pos).2))=W1 at *;refine (zCI _ _).mono ?_;rintro e w2 ⟨rfl,hb2⟩;have hin2:=hin.below hb2;have hbw:=hin2.below_
      cases hok:nchk pos s[pos]
      ·have Hres:Hid (zBJ 0 s.data.toList=false):=by
        show _=_;rw[Hn.out,HD.out,hok];rfl
       have hr1:=HR.out.1;rw[hok] at hr1;have n2:(srt (Utf8.decode s pos).1 != 2)=true:=by
        cases h:(srt (Utf8.decode s pos).1==2) with
        | true=>rw[h] at hr1;cases hr1
        | false=>exact kCV.2 (kAd.1 h)
       have n2':=kAd.2 (kCV.1 n2);rw[n2',Bool.false_or] at hr1;have Hr1:=kA1 hr1;clear hr1 hok n2' hin hin2
       cases h4:(srt (Utf8.decode s pos).1==4) with
       | true =>
        have n4:(srt (Utf8.decode s pos).1 != 4)=false:=by simpa using h4
        have hz:((pos:Int)==0)=true:=by
         have h1:=Hr1.out;rw[h4,kCC] at h1;have:=kCe h1.symm;rw[kAA];omega
        clear h4;go_wp2;go_ret;rw[Hres.out];exact⟨rfl,hb.trans (hbw.mono hb.size)⟩
       | false =>
        have n4:(srt (Utf8.decode s pos).1 != 4)=true:=by simpa using h4
        clear h4;go_wp2;go_ret;rw[Hres.out];exact⟨rfl,hb.trans (hbw.mono hb.size)⟩
      ·have Hn':Hid (zBJ 0 s.data.toList=zBJ (pos+1) (s.data.toList.drop (pos+1))):=by
        show _=_;rw[Hn.out,HD.out,hok,kCC]
       have hr1:=HR.out.1;have hwd:=HR.out.2 hok;rw[hwd] at hin2;rw[hok] at hr1;have Hr1:=kA1 hr1;clear hr1 hok hin hwd
       cases h2:(srt (Utf8.decode s pos).1==2) with
       | true =>
        have n2:(srt (Utf8.decode s pos).1 != 2)=false:=by simpa using h2
        clear h2;go_wp2;go_roundg (gk-1)
        case measure=>omega
        case rel=>exact⟨pos+1,kD4,hin2,Hn'⟩
       | false =>
        have n2:(srt (Utf8.decode s pos).1 != 2)=true:=by simpa using h2
        have h1:=Hr1.out;rw[h2,Bool.false_or,eq_comm,kAo] at h1;obtain⟨h4,hz⟩:=h1;have n4:(srt (Utf8.decode s pos).1 != 4)=false:=by simpa using h4
        have hz:=kAn hz;have n0:((pos:Int)==0)=false:=by rw[kAd];omega
        clear h2 h4;go_wp2;go_roundg (gk-1)
        case measure=>omega
        case rel=>exact⟨pos+1,kD4,hin2,Hn'⟩
     ·have hnx:=fun ty=>zDm (P:=Tryz.prog) wr w1.heap.size s pos ty hat.iter hp
      have hres:=Hn.out;rw[kBq (show s.data.toList.length≤pos from kCy.1 hp)] at hres;have Hres:=kA1 hres;have hbw:=hat.below_;clear hat hres;go_wp2;go_ret;rw[Hres.out];exact⟨rfl,hb.trans (hbw.mono hb.size)⟩
   ·have hres:zBQ s=false:=by unfold zBQ;rw[hw];simp
    rw[hres];have hwd:=word_any s w;rw[hw] at hwd;clear hw hres;go_enter Tryz.func71,Tryz.ntmps71;go_wp2_with (go_at_call 106;refine hwd.mono ?_;rintro e w1 ⟨rfl,hb⟩);go_ret;exact⟨rfl,hb⟩
  ·have hres:zBQ s=false:=by unfold zBQ;simp[h3]
   rw[hres];clear hres;go_enter Tryz.func71,Tryz.ntmps71;go_wp2;go_ret;exact⟨rfl,kA3 _ _⟩
end Go.Proofs.YtjaobihcdkjmbaaGreatDoor
end
section
namespace Go.Proofs
open Go.Shelf
def Tryz.lays156_ren:Go.Shelf.Ren:=⟨fun | 156=>137 | 165=>162 | 166=>163 | 169=>164 | 240=>181 | 241=>182 | 276=>218 | 277=>219 | n=>n,fun | 31=>34 | 9=>9 | 3=>3 | 4=>4 | 0=>0 | 20=>20 | 72=>227 | 76=>228 | 70=>225 | 37=>84 | 75=>134 | 127=>246 | 164=>180 | 5=>5 | 80=>151 | n=>n,fun | n=>n⟩
theorem Tryz.lays156:Go.Proofs.Lays.n156 Tryz.prog Tryz.lays156_ren:={
 mixed:=kD5
 f156:=Tryz.func137.trans (congrArg some kD5)
 f165:=Tryz.func162.trans (congrArg some kD5)
 f166:=Tryz.func163.trans (congrArg some kD5)
 f169:=Tryz.func164.trans (congrArg some kD5)
 f240:=Tryz.func181.trans (congrArg some kD5)
 f241:=Tryz.func182.trans (congrArg some kD5)
 f276:=Tryz.func218.trans (congrArg some kD5)
 f277:=Tryz.func219.trans (congrArg some kD5)
 t0:=Tryz.underlying0
 a0:=Tryz.isAgg0
 z0:=Tryz.sizeOf0
 v0:=Tryz.zeroValue0
 t3:=Tryz.underlying3
 a3:=Tryz.isAgg3
 z3:=Tryz.sizeOf3
 v3:=Tryz.zeroValue3
 t4:=Tryz.underlying4
 a4:=Tryz.isAgg4
 z4:=Tryz.sizeOf4
 v4:=Tryz.zeroValue4
 t9:=Tryz.underlying9
 a9:=Tryz.isAgg9
 z9:=Tryz.sizeOf9
 v9:=Tryz.zeroValue9
 t20:=Tryz.underlying20
 a20:=Tryz.isAgg20
 z20:=Tryz.sizeOf20
 v20:=Tryz.zeroValue20
 t31:=Tryz.underlying34
 a31:=Tryz.isAgg34
 z31:=Tryz.sizeOf34
 v31:=Tryz.zeroValue34
 t37:=Tryz.underlying84
 a37:=Tryz.isAgg84
 z37:=Tryz.sizeOf84
 v37:=Tryz.zeroValue84
 t70:=Tryz.underlying225
 a70:=Tryz.isAgg225
 z70:=Tryz.sizeOf225
 v70:=Tryz.zeroValue225
 t72:=Tryz.underlying227
 a72:=Tryz.isAgg227
 z72:=Tryz.sizeOf227
 v72:=Tryz.zeroValue227
 t75:=Tryz.underlying134
 a75:=Tryz.isAgg134
 z75:=Tryz.sizeOf134
 v75:=Tryz.zeroValue134
 t76:=Tryz.underlying228
 a76:=Tryz.isAgg228
 z76:=Tryz.sizeOf228
 v76:=Tryz.zeroValue228
 t127:=Tryz.underlying246
 a127:=Tryz.isAgg246
 z127:=Tryz.sizeOf246
 v127:=Tryz.zeroValue246
 t164:=Tryz.underlying180
 a164:=Tryz.isAgg180
 z164:=Tryz.sizeOf180
 v164:=Tryz.zeroValue180 }
theorem Tryz.Builder_Extra_156:Builder.Extra Tryz.prog Tryz.lays156_ren:={
 sizeBuilder:=kD5
 liesBuilder:=kD5
 t5:=Tryz.underlying5
 a5:=Tryz.isAgg5
 z5:=Tryz.sizeOf5
 v5:=Tryz.zeroValue5
 infoByte:=kD5
 cellsByte:=kD5
 sizeByte:=kD5
 neB5:=by decide }
open Go.RowKit in
theorem Tryz.strings_Join_none (a:Option Addr) (c:Nat) (sep:ByteArray) (w:World) :
  Calls Tryz.prog 137 #[.slice a 0 c,.string sep] w fun e w'=>e=.returned (.string ⟨#[]⟩)∧w'=w:=Any.strings_Join_none Tryz.lays156 Tryz.Builder_Extra_156 a c sep w
open Go.RowKit in
theorem Tryz.strings_Join (bk o c:Nat) (xs:List ByteArray) (sep:ByteArray) (w:World) (hcells:∀(j:Nat) x,xs[j]?=some x→w.cell? ⟨bk,o+j,none⟩=some (.string x)) (hbk:bk<w.heap.size) (hN:xs.length≤140737488355328) (hcap:xs.length≤c) (hlen:(Lib.join (xs.map (·.data.toList)) sep.data.toList).length≤140737488355328) :
  Calls Tryz.prog 137 #[.slice (some ⟨bk,o,none⟩) xs.length c,.string sep] w fun e w'=>e=.returned (.string ⟨(Lib.join (xs.map (·.data.toList)) sep.data.toList).toArray⟩)∧Below w.heap.size w w':=Any.strings_Join Tryz.lays156 Tryz.Builder_Extra_156 bk o c xs sep w hcells hbk hN hcap hlen
def Tryz.laysM171_ren:Go.Shelf.Ren:=⟨fun | 171=>100 | 243=>138 | 246=>165 | 283=>183 | 284=>184 | 285=>185 | 286=>186 | 129=>211 | 317=>220 | 318=>221 | 319=>222 | 320=>223 | 337=>253 | 338=>254 | n=>n,fun | 3=>3 | 9=>9 | 2=>2 | 4=>4 | 171=>247 | 0=>0 | 53=>75 | 37=>84 | 5=>5 | 173=>250 | 212=>275 | 51=>270 | 20=>20 | 213=>276 | 46=>157 | 232=>325 | 233=>326 | n=>n,fun | 17=>2 | 18=>3 | 19=>4 | n=>n⟩
theorem Tryz.laysM171:Go.Proofs.LaysM.n171 Tryz.prog Tryz.laysM171_ren:={
 mixed:=kD5
 f129:=Tryz.func211.trans (congrArg some kD5)
 f171:=Tryz.func100.trans (congrArg some kD5)
 f243:=Tryz.func138.trans (congrArg some kD5)
 f246:=Tryz.func165.trans (congrArg some kD5)
 f283:=Tryz.func183.trans (congrArg some kD5)
 f284:=Tryz.func184.trans (congrArg some kD5)
 f285:=Tryz.func185.trans (congrArg some kD5)
 f286:=Tryz.func186.trans (congrArg some kD5)
 f317:=Tryz.func220.trans (congrArg some kD5)
 f318:=Tryz.func221.trans (congrArg some kD5)
 f319:=Tryz.func222.trans (congrArg some kD5)
 f320:=Tryz.func223.trans (congrArg some kD5)
 f337:=Tryz.func253.trans (congrArg some kD5)
 f338:=Tryz.func254.trans (congrArg some kD5)
 t0:=Tryz.underlying0
 a0:=Tryz.isAgg0
 z0:=Tryz.sizeOf0
 v0:=Tryz.zeroValue0
 t2:=Tryz.underlying2
 a2:=Tryz.isAgg2
 z2:=Tryz.sizeOf2
 v2:=Tryz.zeroValue2
 t3:=Tryz.underlying3
 a3:=Tryz.isAgg3
 z3:=Tryz.sizeOf3
 v3:=Tryz.zeroValue3
 t4:=Tryz.underlying4
 a4:=Tryz.isAgg4
 z4:=Tryz.sizeOf4
 v4:=Tryz.zeroValue4
 t5:=Tryz.underlying5
 a5:=Tryz.isAgg5
 z5:=Tryz.sizeOf5
 v5:=Tryz.zeroValue5
 t9:=Tryz.underlying9
 a9:=Tryz.isAgg9
 z9:=Tryz.sizeOf9
 v9:=Tryz.zeroValue9
 t20:=Tryz.underlying20
 a20:=Tryz.isAgg20
 z20:=Tryz.sizeOf20
 v20:=Tryz.zeroValue20
 t37:=Tryz.underlying84
 a37:=Tryz.isAgg84
 z37:=Tryz.sizeOf84
 v37:=Tryz.zeroValue84
 t46:=Tryz.underlying157
 a46:=Tryz.isAgg157
 z46:=Tryz.sizeOf157
 v46:=Tryz.zeroValue157
 t51:=Tryz.underlying270
 a51:=Tryz.isAgg270
 z51:=Tryz.sizeOf270
 v51:=Tryz.zeroValue270
 t53:=Tryz.underlying75
 a53:=Tryz.isAgg75
 z53:=Tryz.sizeOf75
 v53:=Tryz.zeroValue75
 t171:=Tryz.underlying247
 a171:=Tryz.isAgg247
 z171:=Tryz.sizeOf247
 v171:=Tryz.zeroValue247
 t173:=Tryz.underlying250
 a173:=Tryz.isAgg250
 z173:=Tryz.sizeOf250
 v173:=Tryz.zeroValue250
 t212:=Tryz.underlying275
 a212:=Tryz.isAgg275
 z212:=Tryz.sizeOf275
 v212:=Tryz.zeroValue275
 t213:=Tryz.underlying276
 a213:=Tryz.isAgg276
 z213:=Tryz.sizeOf276
 t232:=Tryz.underlying325
 a232:=Tryz.isAgg325
 z232:=Tryz.sizeOf325
 v232:=Tryz.zeroValue325
 t233:=Tryz.underlying326
 a233:=Tryz.isAgg326
 z233:=Tryz.sizeOf326
 v233:=Tryz.zeroValue326
 g17:=kD5
 g18:=kD5
 g19:=kD5
 i0:=kD5
 i2:=kD5
 i3:=kD5
 i4:=kD5
 i5:=kD5
 i9:=kD5
 i20:=kD5
 i37:=kD5
 i46:=kD5
 i51:=kD5
 i53:=kD5
 i171:=kD5
 i173:=kD5
 i212:=kD5
 i232:=kD5
 i233:=kD5
 m17:=kD5
 m18:=kD5
 m19:=by kernel_rfl }
open Go.RowKit Go.Sort Go.Lib in
theorem Tryz.strconv_Itoa (n : Int) (h0 : -9223372036854775808 ≤ n) (h1 : n ≤ 9223372036854775807) (w : World) (htab : Lib.TabIs Tryz.prog w "internal/strconv.uint64pow10" .u64 Lib.pow10Tab) :
  Calls Tryz.prog 100 #[.int .i64 n] w fun e w'=>e=.returned (.string ⟨(Lib.itoa n).toArray⟩)∧∃k os,w'=grow (w.drewN k) os:=Any.strconv_Itoa Tryz.laysM171 n h0 h1 w htab
def Tryz.laysC172_ren:Go.Shelf.Ren:=⟨fun | 172=>216 | 244=>250 | 245=>251 | 247=>273 | 279=>274 | 280=>275 | 281=>276 | 282=>277 | 287=>285 | 316=>286 | 171=>100 | 205=>287 | 321=>288 | 322=>289 | 243=>138 | 246=>165 | 283=>183 | 284=>184 | 285=>185 | 286=>186 | 129=>211 | 317=>220 | 318=>221 | 319=>222 | 320=>223 | 337=>253 | 338=>254 | n=>n,fun | 9=>9 | 3=>3 | 75=>134 | 76=>228 | 4=>4 | 5=>5 | 167=>318 | 37=>84 | 0=>0 | 85=>319 | 2=>2 | 168=>321 | 53=>75 | 175=>331 | 46=>157 | 210=>334 | 127=>246 | 145=>339 | 143=>337 | 21=>21 | 171=>247 | 173=>250 | 212=>275 | 51=>270 | 20=>20 | 213=>276 | 232=>325 | 233=>326 | 80=>151 | n=>n,fun | 15=>5 | 16=>6 | 17=>2 | 18=>3 | 19=>4 | n=>n⟩
theorem Tryz.laysC172:Go.Proofs.LaysC.n172 Tryz.prog Tryz.laysC172_ren:={
 mixed:=kD5
 f129:=Tryz.func211.trans (congrArg some kD5)
 f171:=Tryz.func100.trans (congrArg some kD5)
 f172:=Tryz.func216.trans (congrArg some kD5)
 f205:=Tryz.func287.trans (congrArg some kD5)
 f243:=Tryz.func138.trans (congrArg some kD5)
 f244:=Tryz.func250.trans (congrArg some kD5)
 f245:=Tryz.func251.trans (congrArg some kD5)
 f246:=Tryz.func165.trans (congrArg some kD5)
 f247:=Tryz.func273.trans (congrArg some kD5)
 f279:=Tryz.func274.trans (congrArg some kD5)
 f280:=Tryz.func275.trans (congrArg some kD5)
 f281:=Tryz.func276.trans (congrArg some kD5)
 f282:=Tryz.func277.trans (congrArg some kD5)
 f283:=Tryz.func183.trans (congrArg some kD5)
 f284:=Tryz.func184.trans (congrArg some kD5)
 f285:=Tryz.func185.trans (congrArg some kD5)
 f286:=Tryz.func186.trans (congrArg some kD5)
 f287:=Tryz.func285.trans (congrArg some kD5)
 f316:=Tryz.func286.trans (congrArg some kD5)
 f317:=Tryz.func220.trans (congrArg some kD5)
 f318:=Tryz.func221.trans (congrArg some kD5)
 f319:=Tryz.func222.trans (congrArg some kD5)
 f320:=Tryz.func223.trans (congrArg some kD5)
 f321:=Tryz.func288.trans (congrArg some kD5)
 f322:=Tryz.func289.trans (congrArg some kD5)
 f337:=Tryz.func253.trans (congrArg some kD5)
 f338:=Tryz.func254.trans (congrArg some kD5)
 t0:=Tryz.underlying0
 a0:=Tryz.isAgg0
 z0:=Tryz.sizeOf0
 v0:=Tryz.zeroValue0
 t2:=Tryz.underlying2
 a2:=Tryz.isAgg2
 z2:=Tryz.sizeOf2
 v2:=Tryz.zeroValue2
 t3:=Tryz.underlying3
 a3:=Tryz.isAgg3
 z3:=Tryz.sizeOf3
 v3:=Tryz.zeroValue3
 t4:=Tryz.underlying4
 a4:=Tryz.isAgg4
 z4:=Tryz.sizeOf4
 v4:=Tryz.zeroValue4
 t5:=Tryz.underlying5
 a5:=Tryz.isAgg5
 z5:=Tryz.sizeOf5
 v5:=Tryz.zeroValue5
 t9:=Tryz.underlying9
 a9:=Tryz.isAgg9
 z9:=Tryz.sizeOf9
 v9:=Tryz.zeroValue9
 t20:=Tryz.underlying20
 a20:=Tryz.isAgg20
 z20:=Tryz.sizeOf20
 v20:=Tryz.zeroValue20
 t21:=Tryz.underlying21
 a21:=Tryz.isAgg21
 z21:=Tryz.sizeOf21
 v21:=Tryz.zeroValue21
 t37:=Tryz.underlying84
 a37:=Tryz.isAgg84
 z37:=Tryz.sizeOf84
 v37:=Tryz.zeroValue84
 t46:=Tryz.underlying157
 a46:=Tryz.isAgg157
 z46:=Tryz.sizeOf157
 v46:=Tryz.zeroValue157
 t51:=Tryz.underlying270
 a51:=Tryz.isAgg270
 z51:=Tryz.sizeOf270
 v51:=Tryz.zeroValue270
 t53:=Tryz.underlying75
 a53:=Tryz.isAgg75
 z53:=Tryz.sizeOf75
 v53:=Tryz.zeroValue75
 t75:=Tryz.underlying134
 a75:=Tryz.isAgg134
 z75:=Tryz.sizeOf134
 v75:=Tryz.zeroValue134
 t76:=Tryz.underlying228
 a76:=Tryz.isAgg228
 z76:=Tryz.sizeOf228
 v76:=Tryz.zeroValue228
 t85:=Tryz.underlying319
 a85:=Tryz.isAgg319
 z85:=Tryz.sizeOf319
 v85:=Tryz.zeroValue319
 t127:=Tryz.underlying246
 a127:=Tryz.isAgg246
 z127:=Tryz.sizeOf246
 v127:=Tryz.zeroValue246
 t143:=Tryz.underlying337
 a143:=Tryz.isAgg337
 z143:=Tryz.sizeOf337
 v143:=Tryz.zeroValue337
 t145:=Tryz.underlying339
 a145:=Tryz.isAgg339
 z145:=Tryz.sizeOf339
 v145:=Tryz.zeroValue339
 t167:=Tryz.underlying318
 a167:=Tryz.isAgg318
 z167:=Tryz.sizeOf318
 v167:=Tryz.zeroValue318
 t168:=Tryz.underlying321
 a168:=Tryz.isAgg321
 z168:=Tryz.sizeOf321
 v168:=Tryz.zeroValue321
 t171:=Tryz.underlying247
 a171:=Tryz.isAgg247
 z171:=Tryz.sizeOf247
 v171:=Tryz.zeroValue247
 t173:=Tryz.underlying250
 a173:=Tryz.isAgg250
 z173:=Tryz.sizeOf250
 v173:=Tryz.zeroValue250
 t175:=Tryz.underlying331
 a175:=Tryz.isAgg331
 z175:=Tryz.sizeOf331
 v175:=Tryz.zeroValue331
 t210:=Tryz.underlying334
 a210:=Tryz.isAgg334
 z210:=Tryz.sizeOf334
 v210:=Tryz.zeroValue334
 t212:=Tryz.underlying275
 a212:=Tryz.isAgg275
 z212:=Tryz.sizeOf275
 v212:=Tryz.zeroValue275
 t213:=Tryz.underlying276
 a213:=Tryz.isAgg276
 z213:=Tryz.sizeOf276
 t232:=Tryz.underlying325
 a232:=Tryz.isAgg325
 z232:=Tryz.sizeOf325
 v232:=Tryz.zeroValue325
 t233:=Tryz.underlying326
 a233:=Tryz.isAgg326
 z233:=Tryz.sizeOf326
 v233:=Tryz.zeroValue326
 g15:=kD5
 g16:=kD5
 g17:=kD5
 g18:=kD5
 g19:=kD5
 t80:=Tryz.underlying151
 a80:=Tryz.isAgg151
 z80:=Tryz.sizeOf151
 v80:=Tryz.zeroValue151
 i0:=kD5
 i2:=kD5
 i3:=kD5
 i4:=kD5
 i5:=kD5
 i9:=kD5
 i20:=kD5
 i21:=kD5
 i37:=kD5
 i46:=kD5
 i51:=kD5
 i53:=kD5
 i75:=kD5
 i76:=kD5
 i80:=kD5
 i85:=kD5
 i127:=kD5
 i143:=kD5
 i145:=kD5
 i167:=kD5
 i168:=kD5
 i171:=kD5
 i173:=kD5
 i175:=kD5
 i210:=kD5
 i212:=kD5
 i232:=kD5
 i233:=kD5
 m15:=kD5
 m16:=kD5
 m17:=kD5
 m18:=kD5
 m19:=kD5
 c0:=kD5
 c2:=kD5
 c3:=kD5
 c4:=kD5
 c5:=kD5
 c9:=kD5
 c20:=kD5
 c21:=kD5
 c37:=kD5
 c46:=kD5
 c51:=kD5
 c53:=kD5
 c75:=kD5
 c76:=kD5
 c80:=kD5
 c85:=kD5
 c127:=kD5
 c143:=kD5
 c145:=kD5
 c167:=kD5
 c168:=kD5
 c171:=kD5
 c173:=kD5
 c175:=kD5
 c210:=kD5
 c212:=kD5
 c213:=kD5
 c232:=kD5
 c233:=by kernel_rfl }
open Go.RowKit in
theorem Tryz.strconv_Atoi_ok (s:ByteArray) (hmax:s.size≤9223372036854775806) (v:Int) (h:Lib.atoiAll s.data.toList=.ok v) (w:World) :
  Calls Tryz.prog 216 #[.string s] w fun e w'=>e=.returned (.tuple #[.int .i64 v,.nilIface])∧(w'=w∨∃t,w'=Lib.bytesWorld w 5 t):=Any.strconv_Atoi_ok Tryz.laysC172 s hmax v h w
def Tryz.lays219_ren:Go.Shelf.Ren:=⟨fun | 219=>176 | 217=>212 | 225=>213 | 224=>214 | 267=>215 | 266=>248 | 314=>249 | n=>n,fun | 9=>9 | 3=>3 | 4=>4 | 5=>5 | 46=>157 | 146=>296 | 51=>270 | n=>n,fun | 1=>1 | n=>n⟩
theorem Tryz.lays219:Go.Proofs.Lays.n219 Tryz.prog Tryz.lays219_ren:={
 mixed:=kD5
 f217:=Tryz.func212.trans (congrArg some kD5)
 f219:=Tryz.func176.trans (congrArg some kD5)
 f224:=Tryz.func214.trans (congrArg some kD5)
 f225:=Tryz.func213.trans (congrArg some kD5)
 f266:=Tryz.func248.trans (congrArg some kD5)
 f267:=Tryz.func215.trans (congrArg some kD5)
 f314:=Tryz.func249.trans (congrArg some kD5)
 t3:=Tryz.underlying3
 a3:=Tryz.isAgg3
 z3:=Tryz.sizeOf3
 v3:=Tryz.zeroValue3
 t4:=Tryz.underlying4
 a4:=Tryz.isAgg4
 z4:=Tryz.sizeOf4
 v4:=Tryz.zeroValue4
 t5:=Tryz.underlying5
 a5:=Tryz.isAgg5
 z5:=Tryz.sizeOf5
 v5:=Tryz.zeroValue5
 t9:=Tryz.underlying9
 a9:=Tryz.isAgg9
 z9:=Tryz.sizeOf9
 v9:=Tryz.zeroValue9
 t46:=Tryz.underlying157
 a46:=Tryz.isAgg157
 z46:=Tryz.sizeOf157
 v46:=Tryz.zeroValue157
 t51:=Tryz.underlying270
 a51:=Tryz.isAgg270
 z51:=Tryz.sizeOf270
 v51:=Tryz.zeroValue270
 t146:=Tryz.underlying296
 a146:=Tryz.isAgg296
 z146:=Tryz.sizeOf296
 v146:=Tryz.zeroValue296
 g1:=by kernel_rfl }
open Go.RowKit Go.Lib in
theorem Tryz.stringslite_Index_one (s:ByteArray) (c:UInt8) (w:World) :
  Calls Tryz.prog 176 #[.string s,.string ⟨#[c]⟩] w fun e w'=>e=.returned (.int .i64 (Lib.indexByte s.data.toList c))∧w'=w:=Any.stringslite_Index_one Tryz.lays219 s c w
end Go.Proofs
end
