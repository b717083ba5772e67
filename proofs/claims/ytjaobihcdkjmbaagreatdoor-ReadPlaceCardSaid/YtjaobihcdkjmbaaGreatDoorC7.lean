/- The law ReadPlace answers true for every argument; a part of its proof. -/
import Derived.Test.YtjaobihcdkjmbaaGreatDoorCa
import Derived.Test.YtjaobihcdkjmbaaGreatDoorCb
import Derived.Test.YtjaobihcdkjmbaaGreatDoorC0
import Derived.Test.YtjaobihcdkjmbaaGreatDoorC1
set_option linter.unusedVariables false
set_option linter.unusedSimpArgs false
namespace Go.Proofs.YtjaobihcdkjmbaaGreatDoor.PReadTokens
end Go.Proofs.YtjaobihcdkjmbaaGreatDoor.PReadTokens
namespace Go.Proofs.YtjaobihcdkjmbaaGreatDoorW.PrintLast
end Go.Proofs.YtjaobihcdkjmbaaGreatDoorW.PrintLast
namespace Go.Proofs.YtjaobihcdkjmbaaGreatDoorW.PrintMore
end Go.Proofs.YtjaobihcdkjmbaaGreatDoorW.PrintMore
namespace Go.Proofs.YtjaobihcdkjmbaaGreatDoorW.PrintWords
end Go.Proofs.YtjaobihcdkjmbaaGreatDoorW.PrintWords
set_option maxRecDepth 100000
set_option maxHeartbeats 8000000
section
namespace Go.Proofs.YtjaobihcdkjmbaaGreatDoor
open Go.RowKit
theorem ret_int {k:IntKind} {a b:Int} (h:a=b):Ending.returned (.int k a)=.returned (.int k b):=by rw[h]
abbrev ms:ByteArray:={ data:=#[40,41,91,93,44,43,45,42,47,94,60,61,46,124] }
def zBf (c:Int):List UInt8→Bool
 | []=>false
 | m :: l=>c==m.toNat||zBf c l
def srt (c:Int):Int:=if c=32 then 1 else if 97≤c∧c≤122 then 2 else if 65≤c∧c≤90 then 3 else if 48≤c∧c≤57 then 4 else if zBf c ms.data.toList=true then 5 else 0
theorem srt_mark {c:Int} (h1:(c==32)=false) (h2:¬(97≤c∧c≤122)) (h3:¬(65≤c∧c≤90)) (h4:¬(48≤c∧c≤57)) (h:zBf c ms.data.toList=true):srt c=5:=by
 have h1:¬c=32:=by simpa using h1
 unfold srt;rw[kAa h1,kAa h2,kAa h3,kAa h4,kAb h]
theorem srt_other {c:Int} (h1:(c==32)=false) (h2:¬(97≤c∧c≤122)) (h3:¬(65≤c∧c≤90)) (h4:¬(48≤c∧c≤57)) (h:zBf c ms.data.toList=false):srt c=0:=by
 have h1:¬c=32:=by simpa using h1
 unfold srt;rw[kAa h1,kAa h2,kAa h3,kAa h4,kAa (by simp[h])]
theorem ms_ascii (k:Nat) (h:k<ms.size):(ms[k]'h).toNat<128:=by
 have:ms.size=14:=rfl;have hk:k<14:=kCW
 clear this;revert k;decide
theorem zEF (c:Int) (k:Nat) (h:k<ms.size):zBf c (ms.data.toList.drop k)=(c==(ms[k]'h).toNat||zBf c (ms.data.toList.drop (k+1))):=by
 rw[kAn (show k<ms.data.toList.length from h)];rfl
theorem zCL (c:Int) (w:World) :
  Calls Tryz.prog 107 #[.int .i32 c] w fun e w'=>e=.returned (.int .i64 (srt c))∧Below w.heap.size w w':=by
 go_enter Tryz.func107,Tryz.ntmps107;go_wp2
 all_goals first
  | (go_ret;refine⟨ret_int ?_,kA3 _ _⟩;simp_all [srt];done)
  | (go_ret;refine⟨ret_int ?_,kA3 _ _⟩;simp_all [srt];omega)
  | skip
 all_goals
  have h1:(c==32)=false:=kD3
  have h2:¬(97≤c∧c≤122):=kCW
  have h3:¬(65≤c∧c≤90):=kCW
  have h4:¬(48≤c∧c≤57):=kCW
  have HM:=kA1 (@srt_mark c h1 h2 h3 h4);have HO:=kA1 (@srt_other c h1 h2 h3 h4);clear h2 h3 h4
  go_loopw [4] (fun _ wr=>∃k:Nat,k≤ms.size∧wr=w.iter ms k∧(zBf c ms.data.toList=true↔zBf c (ms.data.toList.drop k)=true)) (fun _ wr=>ms.size-wr.iterPos w.heap.size)
  case atStart=>exact⟨0,kAI _,rfl,Iff.rfl⟩
  case round =>
   obtain⟨k,hk,rfl,hm⟩:=hrel;have Hm:=kA1 hm;clear hm;by_cases hp:k<ms.size
   ·have hnx:=fun ty=>run_next_ascii (P:=Tryz.prog) w ms k ty hp (ms_ascii k hp)
    have hd:=kA1 (zEF c k hp);go_wp2
    ·have h9:(c==((ms[k]'hp).toNat:Int))=true:=kD3
     go_ret;refine⟨ret_int (HM.out ?_).symm,(kA3 _ _).alloc (kA2 _) _⟩;rw[Hm.out,hd.out,h9];rfl
    ·have h9:(c==((ms[k]'hp).toNat:Int))=false:=kD3
     go_roundw
     case rel=>exact⟨k+1,kCW,rfl,by rw[Hm.out,hd.out,h9];rfl⟩
     case measure=>simp;omega
   ·have hnx:=fun ty=>run_next_end (P:=Tryz.prog) w ms k ty hp
    go_wp2;go_ret;refine⟨ret_int (HO.out ?_).symm,(kA3 _ _).alloc (kA2 _) _⟩;rw[Bool.eq_false_iff,ne_eq,Hm.out,kAZ (show ms.data.toList.length≤k from kCE.1 hp)];simp[zBf]
end Go.Proofs.YtjaobihcdkjmbaaGreatDoor
end
section
namespace Go.Proofs.YtjaobihcdkjmbaaGreatDoor.PReadTokens
open Go.RowKit Go.Proofs.YtjaobihcdkjmbaaGreatDoorW.PrintWords Go.Proofs.YtjaobihcdkjmbaaGreatDoorW.PrintLast Go.Proofs.YtjaobihcdkjmbaaGreatDoorW.PrintMore
section
attribute [local go_sem] zCG zCE zDx zDw zC9 zC8 zCF zCD   -- for this text's walks alone
set_option linter.unusedVariables false
set_option linter.unusedSimpArgs false
def errW:Option Int→Value
 | none=>.nilIface
 | some c=>.iface 318 (.int .i64 c)
theorem zAr:errW none=.nilIface:=rfl
theorem zAq (c:Int):errW (some c)=.iface 318 (.int .i64 c):=rfl
theorem info47:(Tryz.prog.info? 47).map (fun i=>(i.zero,i.size,i.bytes))=some (some (.agg #[(.int .i64 0),(.string ⟨#[]⟩),(.int .i64 0)]),3,32):=kCX
theorem info270:(Tryz.prog.info? 270).map (fun i=>(i.zero,i.size,i.bytes))=some (some (.int .u32 0),1,4):=kCX
structure S47 where
 f0:Int
 f1:ByteArray
 f2:Int
def z47:S47:=⟨(0:Int),(⟨#[]⟩:ByteArray),(0:Int)⟩
def k47:Kd S47:=Kd.iso (Kd.pair (Kd.int .i64) (Kd.pair Kd.string (Kd.int .i64))) (fun x:S47=>(x.f0,x.f1,x.f2))
theorem k47_open {w:World} {x:S47} {cs:List Value} (h:k47.K w x cs):cs=[.int .i64 x.f0,.string x.f1,.int .i64 x.f2]:=by
 obtain⟨_,_,rfl,rfl,⟨_,_,rfl,rfl,rfl⟩⟩:=h;exact rfl
theorem k47_mk (w:World) (x:S47) :k47.K w x [.int .i64 x.f0,.string x.f1,.int .i64 x.f2]:=⟨[.int .i64 x.f0],[.string x.f1,.int .i64 x.f2],rfl,rfl,⟨[.string x.f1],[.int .i64 x.f2],rfl,rfl,rfl⟩⟩
theorem k47_mkM (w:World) (base:Nat) (ok:Nat→Prop) (x:S47) :k47.M w base ok x [.int .i64 x.f0,.string x.f1,.int .i64 x.f2]:=⟨[.int .i64 x.f0],[.string x.f1,.int .i64 x.f2],rfl,rfl,⟨[.string x.f1],[.int .i64 x.f2],rfl,rfl,rfl⟩⟩
def zBs (xs:List S47) (i:Int):S47:=xs.getD i.toNat z47
theorem at_T47 {w:World} {A:Option Addr} {n:Nat} {xs:List S47} (h:Kd.C k47 w A n xs) (i:Int) (h0:0≤i) (h1:i<n):∃ad ,A=some ad∧w.cell? (ad.add (i.toNat*3))=some (.int .i64 (zBs xs i).f0)∧w.cell? ⟨(ad.add (i.toNat*3)).block,(ad.add (i.toNat*3)).off+1,none⟩=some (.string (zBs xs i).f1)∧w.cell? ⟨(ad.add (i.toNat*3)).block,(ad.add (i.toNat*3)).off+2,none⟩=some (.int .i64 (zBs xs i).f2):=by
 obtain⟨ad,c,e,_,hK,hc0⟩:=Kd.C_get h z47 i h0 h1;have hc:∀j u,c[j]?=some u→w.cell? (ad.add (i.toNat*3+j))=some u:=hc0;obtain rfl:=k47_open hK;exact⟨ad,e,hc 0 _ rfl,by rw[← zCZ _ _ 1 kCW];exact hc 1 _ rfl,by rw[← zCZ _ _ 2 kCW];exact hc 2 _ rfl⟩
structure S28 where
 f0:ByteArray
 f1:ByteArray
def z28:S28:=⟨(⟨#[]⟩:ByteArray),(⟨#[]⟩:ByteArray)⟩
def k28:Kd S28:=Kd.iso (Kd.pair Kd.string Kd.string) (fun x:S28=>(x.f0,x.f1))
theorem k28_open {w:World} {x:S28} {cs:List Value} (h:k28.K w x cs):cs=[.string x.f0,.string x.f1]:=by
 obtain⟨_,_,rfl,rfl,rfl⟩:=h;exact rfl
theorem k28_mkM (w:World) (base:Nat) (ok:Nat→Prop) (x:S28) :k28.M w base ok x [.string x.f0,.string x.f1]:=⟨[.string x.f0],[.string x.f1],rfl,rfl,rfl⟩
structure S31 where
 f0:Int
 f1:S28
 f2:ByteArray
 f3:Int
 f4:(List S31)
def z31:S31:=⟨(0:Int),z28,(⟨#[]⟩:ByteArray),(0:Int),([]:List S31)⟩
def F31 (d:Kd S31):Kd S31:=Kd.iso (Kd.pair (Kd.int .i64) (Kd.pair k28 (Kd.pair Kd.string (Kd.pair (Kd.int .i64) (Kd.slice 31 d))))) (fun x:S31=>(x.f0,x.f1,x.f2,x.f3,x.f4))
theorem mono31:Kd.Mono F31:=Kd.mono_iso _ (Kd.mono_pair (Kd.mono_const _) (Kd.mono_pair (Kd.mono_const _) (Kd.mono_pair (Kd.mono_const _) (Kd.mono_pair (Kd.mono_const _) (Kd.mono_slice 31 Kd.mono_id)))))
theorem sub31:Kd.Sub F31 [31]:=Kd.sub_iso _ (Kd.sub_pair (Kd.sub_const _ kD0) (Kd.sub_pair (Kd.sub_const _ kD0) (Kd.sub_pair (Kd.sub_const _ kD0) (Kd.sub_pair (Kd.sub_const _ kD0) (Kd.sub_slice 31 kD0 Kd.sub_id)))))
theorem sz31:∀n,(Kd.upto F31 6 [31] n).sz=6:=Kd.upto_sz (fun _=>rfl)
def k31:Kd S31:=Kd.fix F31 6 [31] sz31 (Kd.upto_E sub31)
theorem k31_open {w:World} {x:S31} {cs:List Value} (h:k31.K w x cs):∃A5 c5,cs=[.int .i64 x.f0,.string x.f1.f0,.string x.f1.f1,.string x.f2,.int .i64 x.f3,.slice A5 x.f4.length c5]∧x.f4.length≤c5∧k31.C w A5 x.f4.length x.f4:=by
 obtain⟨n,h⟩:=h
 cases n with
 | zero=>exact h.elim
 | succ n =>
  obtain⟨_,_,rfl,rfl,⟨_,_,rfl,s1,⟨_,_,rfl,rfl,⟨_,_,rfl,rfl,⟨A5,c5,rfl,l5,g5⟩⟩⟩⟩⟩:=h;obtain rfl:=k28_open s1;exact⟨A5,c5,rfl,l5,Kd.fix_C g5⟩
theorem k31_mkM (w:World) (base:Nat) (ok:Nat→Prop) (x:S31) {v5:Value} (g5:k31.R 31 w base ok v5 x.f4):k31.M w base ok x [.int .i64 x.f0,.string x.f1.f0,.string x.f1.f1,.string x.f2,.int .i64 x.f3,v5]:=by
 obtain⟨n5,q5⟩:=Kd.fix_R_back mono31 g5;have r5:=Kd.upto_R_le mono31 sz31 (show n5≤n5 by omega) q5;exact⟨n5+1,⟨[.int .i64 x.f0],[.string x.f1.f0,.string x.f1.f1,.string x.f2,.int .i64 x.f3,v5],rfl,rfl,⟨[.string x.f1.f0,.string x.f1.f1],[.string x.f2,.int .i64 x.f3,v5],rfl,(k28_mkM w base ok x.f1 ),⟨[.string x.f2],[.int .i64 x.f3,v5],rfl,rfl,⟨[.int .i64 x.f3],[v5],rfl,rfl,⟨v5,rfl,r5⟩⟩⟩⟩⟩⟩
def zDN (xs:List S31) (i:Int):S31:=xs.getD i.toNat z31
theorem at_T31 {w:World} {A:Option Addr} {n:Nat} {xs:List S31} (h:Kd.C k31 w A n xs) (i:Int) (h0:0≤i) (h1:i<n):∃ad A5 c5,A=some ad∧w.cell? (ad.add (i.toNat*6))=some (.int .i64 (zDN xs i).f0)∧w.cell? ⟨(ad.add (i.toNat*6)).block,(ad.add (i.toNat*6)).off+1,none⟩=some (.string (zDN xs i).f1.f0)∧w.cell? ⟨(ad.add (i.toNat*6)).block,(ad.add (i.toNat*6)).off+2,none⟩=some (.string (zDN xs i).f1.f1)∧w.cell? ⟨(ad.add (i.toNat*6)).block,(ad.add (i.toNat*6)).off+3,none⟩=some (.string (zDN xs i).f2)∧w.cell? ⟨(ad.add (i.toNat*6)).block,(ad.add (i.toNat*6)).off+4,none⟩=some (.int .i64 (zDN xs i).f3)∧w.cell? ⟨(ad.add (i.toNat*6)).block,(ad.add (i.toNat*6)).off+5,none⟩=some (.slice A5 (zDN xs i).f4.length c5)∧(zDN xs i).f4.length≤c5∧k31.C w A5 (zDN xs i).f4.length (zDN xs i).f4:=by
 obtain⟨ad,c,e,_,hK,hc0⟩:=Kd.C_get h z31 i h0 h1;have hc:∀j u,c[j]?=some u→w.cell? (ad.add (i.toNat*6+j))=some u:=hc0;obtain⟨A5,c5,rfl,l5,g5⟩:=k31_open hK;exact⟨ad,A5,c5,e,hc 0 _ rfl,by rw[← zCZ _ _ 1 kCW];exact hc 1 _ rfl,by rw[← zCZ _ _ 2 kCW];exact hc 2 _ rfl,by rw[← zCZ _ _ 3 kCW];exact hc 3 _ rfl,by rw[← zCZ _ _ 4 kCW];exact hc 4 _ rfl,by rw[← zCZ _ _ 5 kCW];exact hc 5 _ rfl,l5,g5⟩
end
section
attribute [local go_sem] zCG zCE zDx zDw zC9 zC8 zCF zCD   -- for this text's walks alone
set_option linter.unusedVariables false
set_option linter.unusedSimpArgs false
theorem eqA47 (d:Nat) (w:World) (x0 y0:Int) (x1 y1:ByteArray) (x2 y2:Int) :
  (Op.equalIn (d+2) 47 (.agg #[.int .i64 x0,.string x1,.int .i64 x2]) (.agg #[.int .i64 y0,.string y1,.int .i64 y2])).run Tryz.prog w=.ok (x0==y0&&(x1.toList==y1.toList&&(x2==y2))) w:=by
 refine eqA_of Tryz.underlying47 kCX ?_;refine eqf_cons kD9 kDk kDk (by go_simp) ?_;refine eqf_cons kD9 kDk kDk (by go_simp) ?_;exact eqf_last kD9 kDk kDk (by go_simp)
end
section
attribute [local go_sem] zCG zCE zDx zDw zC9 zC8 zCF zCD   -- for this text's walks alone
set_option linter.unusedVariables false
set_option linter.unusedSimpArgs false
attribute [local go_sem high] eqA47
def metewandkit_EqTokens.l0:Nat→List (S47)→List (S47)→Int→Option (Bool)
 | 0,_,_,_=>none
 | k+1,x0,x1,x5=>if x5<(x0.length:Int) then (if 0≤x5 then (if x5<(x1.length:Int) then (if (!(((zBs x0 x5).f0)==((zBs x1 x5).f0))||(!((((zBs x0 x5).f1).toList)==(((zBs x1 x5).f1).toList))||(!(((zBs x0 x5).f2)==((zBs x1 x5).f2)))))=true then (some false) else (metewandkit_EqTokens.l0 k x0 x1 (wrap64 (x5+1)))) else (none)) else (none)) else (some true)
def metewandkit_EqTokens.f (k:Nat) (l0:List (S47)) (l1:List (S47)):Option (Bool):=if (l0.length:Int)=(l1.length:Int) then (metewandkit_EqTokens.l0 k l0 l1 0) else (some false)
theorem metewandkit_EqTokens.mono_l:∀k,(∀y0 y1 y2,LeO (metewandkit_EqTokens.l0 k y0 y1 y2) (metewandkit_EqTokens.l0 (k+1) y0 y1 y2))
 | 0=>fun _ _ _ r h=>by simp[metewandkit_EqTokens.l0] at h
 | k+1=>by
  have ih0:=metewandkit_EqTokens.mono_l k
  ·intro y0 y1 y2;unfold metewandkit_EqTokens.l0
   repeat' first
   | (with_reducible exact ih0 _ _ _)
   | (with_reducible exact LeO.refl _)
   | (with_reducible exact LeO.none _)
   | (with_reducible refine LeO.ite ?_ ?_)
   | (with_reducible refine LeO.bind ?_ (fun _=>?_))
   | exact ih0 _ _ _
   | exact LeO.none _
   | refine LeO.ite ?_ ?_
   | refine LeO.bind ?_ (fun _=>?_)
theorem metewandkit_EqTokens.calls (k:Nat) (A0:Option Addr) (c0:Nat) (l0:List (S47)) (A1:Option Addr) (c1:Nat) (l1:List (S47)) (r:Bool) (w:World) (hr0:Kd.C k47 w A0 l0.length l0) (hc0:l0.length≤c0) (hr1:Kd.C k47 w A1 l1.length l1) (hc1:l1.length≤c1) (h:metewandkit_EqTokens.f k l0 l1=some r) :
  Calls Tryz.prog 17 #[.slice A0 l0.length c0,.slice A1 l1.length c1] w fun e w'=>e=.returned (.bool r)∧Drawn0 w w':=by
 have hu47:=Tryz.underlying47;have HR0:=Aside0.mk hr0;have HC0:=Aside0.mk hc0;clear hr0 hc0;have HR1:=Aside0.mk hr1;have HC1:=Aside0.mk hc1;clear hr1 hc1;have H:(if (l0.length:Int)=(l1.length:Int) then (metewandkit_EqTokens.l0 k l0 l1 0) else (some false))=some r:=h;clear h;by_cases c3:(l0.length:Int)=(l1.length:Int)
 ·rw[kAb c3] at H;have c3b0:((l0.length:Int)==(l1.length:Int))=true:=beq_iff_eq.mpr c3;have c3b1:((l0.length:Int) != (l1.length:Int))=false:=bne_eq_false_iff_eq.mpr c3;have c3b2:(l0.length==l1.length)=true:=by first | simpa using c3 | (simp at c3⊢;omega)
  clear c3;have H':=Aside0.mk H;clear H;go_enter Tryz.func17,Tryz.ntmps17;go_wp2
  repeat (go_quiet (fail);try go_wp2)
  go_loopg [5] k (fun kq v5 w'=>∃(x5_1:Int),v5=.int .i64 x5_1∧Aside0 (metewandkit_EqTokens.l0 kq l0 l1 x5_1=some r)∧Aside0 (kq≤k)∧Drawn0 w w')
  case atStart=>exact⟨(0),kD8,H',⟨kA2 _⟩,by repeat (first | exact Drawn0.refl _ | apply Drawn0.step)⟩
  case round =>
   clear H'
   try clear c1
   try clear p2
   try clear c3
   try clear c3b0
   try clear c3b1
   try clear c3b2
   obtain⟨x5_1,rfl,HA,HK1,⟨m1,rfl⟩⟩:=hrel
   cases gk with
   | zero=>exact absurd HA.out (by simp[metewandkit_EqTokens.l0])
   | succ k1 =>
    have H:=HA.out;clear HA;simp only[metewandkit_EqTokens.l0] at H;by_cases c4:x5_1<(l0.length:Int)
    ·rw[kAb c4] at H;have c4b0:decide (x5_1<(l0.length:Int))=true:=kA5 c4;clear c4;by_cases c5:0≤x5_1
     ·rw[kAb c5] at H;have c5b0:decide (0≤x5_1)=true:=kA5 c5;clear c5;by_cases c6:x5_1<(l1.length:Int)
      ·rw[kAb c6] at H;have c6b0:decide (x5_1<(l1.length:Int))=true:=kA5 c6;clear c6;by_cases c7:(!(((zBs l0 x5_1).f0)==((zBs l1 x5_1).f0))||(!((((zBs l0 x5_1).f1).toList)==(((zBs l1 x5_1).f1).toList))||(!(((zBs l0 x5_1).f2)==((zBs l1 x5_1).f2)))))=true
       ·rw[kAb c7] at H;have c7b0:(!(((zBs l0 x5_1).f0)==((zBs l1 x5_1).f0))||(!((((zBs l0 x5_1).f1).toList)==(((zBs l1 x5_1).f1).toList))||(!(((zBs l0 x5_1).f2)==((zBs l1 x5_1).f2)))))=true:=c7;clear c7;obtain rfl:=kAc H;have p101:0≤(x5_1:Int):=kA8 kD1;have q101:x5_1<(l0.length:Int):=kA8 kD1;obtain⟨ad101,e101,hx101_0,hx101_1,hx101_2⟩:=at_T47 HR0.out x5_1 p101 q101
        cases e101;replace p101:=kAs p101;replace q101:=kAs q101;have p102:0≤(x5_1:Int):=kA8 kD1;have q102:x5_1<(l1.length:Int):=kA8 kD1;obtain⟨ad102,e102,hx102_0,hx102_1,hx102_2⟩:=at_T47 HR1.out x5_1 p102 q102
        cases e102;replace p102:=kAs p102;replace q102:=kAs q102;go_wp2
        repeat (go_quiet (fail);try go_wp2)
        go_ret;exact⟨kD8,by repeat (first | exact Drawn0.refl _ | apply Drawn0.step)⟩
       ·rw[kAa c7] at H;have c7b0:(!(((zBs l0 x5_1).f0)==((zBs l1 x5_1).f0))||(!((((zBs l0 x5_1).f1).toList)==(((zBs l1 x5_1).f1).toList))||(!(((zBs l0 x5_1).f2)==((zBs l1 x5_1).f2)))))=false:=by simpa using c7
        clear c7;have H':=Aside0.mk H;clear H;have p101:0≤(x5_1:Int):=kA8 kD1;have q101:x5_1<(l0.length:Int):=kA8 kD1;obtain⟨ad101,e101,hx101_0,hx101_1,hx101_2⟩:=at_T47 HR0.out x5_1 p101 q101
        cases e101;replace p101:=kAs p101;replace q101:=kAs q101;have p102:0≤(x5_1:Int):=kA8 kD1;have q102:x5_1<(l1.length:Int):=kA8 kD1;obtain⟨ad102,e102,hx102_0,hx102_1,hx102_2⟩:=at_T47 HR1.out x5_1 p102 q102
        cases e102;replace p102:=kAs p102;replace q102:=kAs q102;go_wp2
        repeat (go_quiet (fail);try go_wp2)
        go_roundg k1
        case measure=>have:=HK1.out;omega
        case rel=>exact⟨(wrap64 (x5_1+1)),kD8,H',⟨by have:=HK1.out;omega⟩,by repeat (first | exact Drawn0.refl _ | apply Drawn0.step)⟩
      ·rw[kAa c6] at H;exact absurd H kCY
     ·rw[kAa c5] at H;exact absurd H kCY
    ·rw[kAa c4] at H;have c4b0:decide (x5_1<(l0.length:Int))=false:=kA6 c4;clear c4;obtain rfl:=kAc H;go_wp2
     repeat (go_quiet (fail);try go_wp2)
     go_ret;exact⟨kD8,by repeat (first | exact Drawn0.refl _ | apply Drawn0.step)⟩
 ·rw[kAa c3] at H;have c3b0:((l0.length:Int)==(l1.length:Int))=false:=beq_eq_false_iff_ne.mpr c3;have c3b1:((l0.length:Int) != (l1.length:Int))=true:=bne_iff_ne.mpr c3;have c3b2:(l0.length==l1.length)=false:=by first | simpa using c3 | (simp at c3⊢;omega)
  obtain rfl:=kAc H;go_enter Tryz.func17,Tryz.ntmps17;go_wp2
  repeat (go_quiet (fail);try go_wp2)
  go_ret;exact⟨kD8,by repeat (first | exact Drawn0.refl _ | apply Drawn0.step)⟩
def read_word.f (a0:ByteArray):Option (Bool):=if a0.toList=([102,117,110]:List UInt8) then (some true) else (if a0.toList=([108,101,116]:List UInt8) then (some true) else (if a0.toList=([115,104,111,119]:List UInt8) then (some true) else (if a0.toList=([105,102]:List UInt8) then (some true) else (if a0.toList=([116,104,101,110]:List UInt8) then (some true) else (if a0.toList=([101,108,115,101]:List UInt8) then (some true) else (if a0.toList=([105,110]:List UInt8) then (some true) else (if a0.toList=([116,97,98]:List UInt8) then (some true) else (if a0.toList=([115,117,109]:List UInt8) then (some true) else (some false)))))))))
theorem read_word.calls (a0:ByteArray) (r:Bool) (w:World) (h:read_word.f a0=some r) :
  Calls Tryz.prog 106 #[.string a0] w fun e w'=>e=.returned (.bool r)∧Drawn0 w w':=by
 have H:(if a0.toList=([102,117,110]:List UInt8) then (some true) else (if a0.toList=([108,101,116]:List UInt8) then (some true) else (if a0.toList=([115,104,111,119]:List UInt8) then (some true) else (if a0.toList=([105,102]:List UInt8) then (some true) else (if a0.toList=([116,104,101,110]:List UInt8) then (some true) else (if a0.toList=([101,108,115,101]:List UInt8) then (some true) else (if a0.toList=([105,110]:List UInt8) then (some true) else (if a0.toList=([116,97,98]:List UInt8) then (some true) else (if a0.toList=([115,117,109]:List UInt8) then (some true) else (some false))))))))))=some r:=h;clear h;by_cases c2:a0.toList=([102,117,110]:List UInt8)
 ·rw[kAb c2] at H;have c2b0:(a0.toList==([102,117,110]:List UInt8))=true:=beq_iff_eq.mpr c2;have c2b1:(a0.toList != ([102,117,110]:List UInt8))=false:=bne_eq_false_iff_eq.mpr c2;clear c2;obtain rfl:=kAc H;go_enter Tryz.func106,Tryz.ntmps106;go_wp2;go_ret;exact⟨kD8,by repeat (first | exact Drawn0.refl _ | apply Drawn0.step)⟩
 ·rw[kAa c2] at H;have c2b0:(a0.toList==([102,117,110]:List UInt8))=false:=beq_eq_false_iff_ne.mpr c2;have c2b1:(a0.toList != ([102,117,110]:List UInt8))=true:=bne_iff_ne.mpr c2;by_cases c3:a0.toList=([108,101,116]:List UInt8)
  ·rw[kAb c3] at H;have c3b0:(a0.toList==([108,101,116]:List UInt8))=true:=beq_iff_eq.mpr c3;have c3b1:(a0.toList != ([108,101,116]:List UInt8))=false:=bne_eq_false_iff_eq.mpr c3;clear c3;obtain rfl:=kAc H;go_enter Tryz.func106,Tryz.ntmps106;go_wp2;go_ret;exact⟨kD8,by repeat (first | exact Drawn0.refl _ | apply Drawn0.step)⟩
  ·rw[kAa c3] at H;have c3b0:(a0.toList==([108,101,116]:List UInt8))=false:=beq_eq_false_iff_ne.mpr c3;have c3b1:(a0.toList != ([108,101,116]:List UInt8))=true:=bne_iff_ne.mpr c3;by_cases c4:a0.toList=([115,104,111,119]:List UInt8)
   ·rw[kAb c4] at H;have c4b0:(a0.toList==([115,104,111,119]:List UInt8))=true:=beq_iff_eq.mpr c4;have c4b1:(a0.toList != ([115,104,111,119]:List UInt8))=false:=bne_eq_false_iff_eq.mpr c4;clear c4;obtain rfl:=kAc H;go_enter Tryz.func106,Tryz.ntmps106;go_wp2;go_ret;exact⟨kD8,by repeat (first | exact Drawn0.refl _ | apply Drawn0.step)⟩
   ·rw[kAa c4] at H;have c4b0:(a0.toList==([115,104,111,119]:List UInt8))=false:=beq_eq_false_iff_ne.mpr c4;have c4b1:(a0.toList != ([115,104,111,119]:List UInt8))=true:=bne_iff_ne.mpr c4;by_cases c5:a0.toList=([105,102]:List UInt8)
    ·rw[kAb c5] at H;have c5b0:(a0.toList==([105,102]:List UInt8))=true:=beq_iff_eq.mpr c5;have c5b1:(a0.toList != ([105,102]:List UInt8))=false:=bne_eq_false_iff_eq.mpr c5;clear c5;obtain rfl:=kAc H;go_enter Tryz.func106,Tryz.ntmps106;go_wp2;go_ret;exact⟨kD8,by repeat (first | exact Drawn0.refl _ | apply Drawn0.step)⟩
    ·rw[kAa c5] at H;have c5b0:(a0.toList==([105,102]:List UInt8))=false:=beq_eq_false_iff_ne.mpr c5;have c5b1:(a0.toList != ([105,102]:List UInt8))=true:=bne_iff_ne.mpr c5;by_cases c6:a0.toList=([116,104,101,110]:List UInt8)
     ·rw[kAb c6] at H;have c6b0:(a0.toList==([116,104,101,110]:List UInt8))=true:=beq_iff_eq.mpr c6;have c6b1:(a0.toList != ([116,104,101,110]:List UInt8))=false:=bne_eq_false_iff_eq.mpr c6;clear c6;obtain rfl:=kAc H;go_enter Tryz.func106,Tryz.ntmps106;go_wp2;go_ret;exact⟨kD8,by repeat (first | exact Drawn0.refl _ | apply Drawn0.step)⟩
     ·rw[kAa c6] at H;have c6b0:(a0.toList==([116,104,101,110]:List UInt8))=false:=beq_eq_false_iff_ne.mpr c6;have c6b1:(a0.toList != ([116,104,101,110]:List UInt8))=true:=bne_iff_ne.mpr c6;by_cases c7:a0.toList=([101,108,115,101]:List UInt8)
      ·rw[kAb c7] at H;have c7b0:(a0.toList==([101,108,115,101]:List UInt8))=true:=beq_iff_eq.mpr c7;have c7b1:(a0.toList != ([101,108,115,101]:List UInt8))=false:=bne_eq_false_iff_eq.mpr c7;clear c7;obtain rfl:=kAc H;go_enter Tryz.func106,Tryz.ntmps106;go_wp2;go_ret;exact⟨kD8,by repeat (first | exact Drawn0.refl _ | apply Drawn0.step)⟩
      ·rw[kAa c7] at H;have c7b0:(a0.toList==([101,108,115,101]:List UInt8))=false:=beq_eq_false_iff_ne.mpr c7;have c7b1:(a0.toList != ([101,108,115,101]:List UInt8))=true:=bne_iff_ne.mpr c7;by_cases c8:a0.toList=([105,110]:List UInt8)
       ·rw[kAb c8] at H;have c8b0:(a0.toList==([105,110]:List UInt8))=true:=beq_iff_eq.mpr c8;have c8b1:(a0.toList != ([105,110]:List UInt8))=false:=bne_eq_false_iff_eq.mpr c8;clear c8;obtain rfl:=kAc H;go_enter Tryz.func106,Tryz.ntmps106;go_wp2;go_ret;exact⟨kD8,by repeat (first | exact Drawn0.refl _ | apply Drawn0.step)⟩
       ·rw[kAa c8] at H;have c8b0:(a0.toList==([105,110]:List UInt8))=false:=beq_eq_false_iff_ne.mpr c8;have c8b1:(a0.toList != ([105,110]:List UInt8))=true:=bne_iff_ne.mpr c8;by_cases c9:a0.toList=([116,97,98]:List UInt8)
        ·rw[kAb c9] at H;have c9b0:(a0.toList==([116,97,98]:List UInt8))=true:=beq_iff_eq.mpr c9;have c9b1:(a0.toList != ([116,97,98]:List UInt8))=false:=bne_eq_false_iff_eq.mpr c9;clear c9;obtain rfl:=kAc H;go_enter Tryz.func106,Tryz.ntmps106;go_wp2;go_ret;exact⟨kD8,by repeat (first | exact Drawn0.refl _ | apply Drawn0.step)⟩
        ·rw[kAa c9] at H;have c9b0:(a0.toList==([116,97,98]:List UInt8))=false:=beq_eq_false_iff_ne.mpr c9;have c9b1:(a0.toList != ([116,97,98]:List UInt8))=true:=bne_iff_ne.mpr c9;by_cases c10:a0.toList=([115,117,109]:List UInt8)
         ·rw[kAb c10] at H;have c10b0:(a0.toList==([115,117,109]:List UInt8))=true:=beq_iff_eq.mpr c10;have c10b1:(a0.toList != ([115,117,109]:List UInt8))=false:=bne_eq_false_iff_eq.mpr c10;clear c10;obtain rfl:=kAc H;go_enter Tryz.func106,Tryz.ntmps106;go_wp2;go_ret;exact⟨kD8,by repeat (first | exact Drawn0.refl _ | apply Drawn0.step)⟩
         ·rw[kAa c10] at H;have c10b0:(a0.toList==([115,117,109]:List UInt8))=false:=beq_eq_false_iff_ne.mpr c10;have c10b1:(a0.toList != ([115,117,109]:List UInt8))=true:=bne_iff_ne.mpr c10;obtain rfl:=kAc H;go_enter Tryz.func106,Tryz.ntmps106;go_wp2;go_ret;exact⟨kD8,by repeat (first | exact Drawn0.refl _ | apply Drawn0.step)⟩
def zD5.f (a0:Int) (a1:Int) (a2:Int):Option (Bool):=if a1≤a0 then (some (decide (a0≤a2))) else (some false)
theorem zD5.calls (a0:Int) (a1:Int) (a2:Int) (r:Bool) (w:World) (h:zD5.f a0 a1 a2=some r) :
  Calls Tryz.prog 104 #[.int .i64 a0,.int .i64 a1,.int .i64 a2] w fun e w'=>e=.returned (.bool r)∧Drawn0 w w':=by
 have H:(if a1≤a0 then (some (decide (a0≤a2))) else (some false))=some r:=h;clear h;by_cases c4:a1≤a0
 ·rw[kAb c4] at H;have c4b0:decide (a1≤a0)=true:=kA5 c4;clear c4;obtain rfl:=kAc H;go_enter Tryz.func104,Tryz.ntmps104;go_wp2;go_ret;exact⟨kD8,by repeat (first | exact Drawn0.refl _ | apply Drawn0.step)⟩
 ·rw[kAa c4] at H;have c4b0:decide (a1≤a0)=false:=kA6 c4;clear c4;obtain rfl:=kAc H;go_enter Tryz.func104,Tryz.ntmps104;go_wp2;go_ret;exact⟨kD8,by repeat (first | exact Drawn0.refl _ | apply Drawn0.step)⟩
def read_unit.l0:Nat→ByteArray→Int→Int→Option (Bool)
 | 0,_,_,_=>none
 | k+1,x0,x10,x11=>if x11<x10 then (if 0≤x11 then (if x11<(x0.size:Int) then (if (bt x0 x11)<32 then (some false) else (if (bt x0 x11) > 126 then (some false) else (if (bt x0 x11)=123 then (some false) else (if (bt x0 x11)=125 then (some false) else (read_unit.l0 k x0 x10 (wrap64 (x11+1))))))) else (none)) else (none)) else (some true)
def read_unit.f (k:Nat) (a0:ByteArray):Option (Bool):=(zD5.f (a0.size:Int) 1 20).bind fun t118=>(if t118=true then (read_unit.l0 k a0 (a0.size:Int) 0) else (some false))
theorem read_unit.mono_l:∀k,(∀y0 y1 y2,LeO (read_unit.l0 k y0 y1 y2) (read_unit.l0 (k+1) y0 y1 y2))
 | 0=>fun _ _ _ r h=>by simp[read_unit.l0] at h
 | k+1=>by
  have ih0:=read_unit.mono_l k
  ·intro y0 y1 y2;unfold read_unit.l0
   repeat' first
   | (with_reducible exact ih0 _ _ _)
   | (with_reducible exact LeO.refl _)
   | (with_reducible exact LeO.none _)
   | (with_reducible refine LeO.ite ?_ ?_)
   | (with_reducible refine LeO.bind ?_ (fun _=>?_))
   | exact ih0 _ _ _
   | exact LeO.none _
   | refine LeO.ite ?_ ?_
   | refine LeO.bind ?_ (fun _=>?_)
theorem read_unit.mono:∀a0 k,LeO (read_unit.f k a0) (read_unit.f (k+1) a0):=by
 intro a0 k;have ih0:=read_unit.mono_l k;unfold read_unit.f
 repeat' first
   | (with_reducible exact ih0 _ _ _)
   | (with_reducible exact LeO.refl _)
   | (with_reducible exact LeO.none _)
   | (with_reducible refine LeO.ite ?_ ?_)
   | (with_reducible refine LeO.bind ?_ (fun _=>?_))
   | exact ih0 _ _ _
   | exact LeO.none _
   | refine LeO.ite ?_ ?_
   | refine LeO.bind ?_ (fun _=>?_)
theorem read_unit.calls (k:Nat) (a0:ByteArray) (r:Bool) (w:World) (h:read_unit.f k a0=some r) :
  Calls Tryz.prog 125 #[.string a0] w fun e w'=>e=.returned (.bool r)∧Drawn0 w w':=by
 have H:((zD5.f (a0.size:Int) 1 20).bind fun t118=>(if t118=true then (read_unit.l0 k a0 (a0.size:Int) 0) else (some false)))=some r:=h;clear h;replace H:=Option.bind_eq_some_iff.mp H;obtain⟨t118,A20,H⟩:=H;replace H:(if t118=true then (read_unit.l0 k a0 (a0.size:Int) 0) else (some false))=some r:=H;have A2:=Aside0.mk A20;clear A20;by_cases c3:t118=true
 ·subst c3;have H1:(read_unit.l0 k a0 (a0.size:Int) 0)=some r:=by rw[kAb rfl] at H;exact H
  clear H;have H:=H1;clear H1;have H':=Aside0.mk H;clear H;go_enter Tryz.func125,Tryz.ntmps125;go_wp2_with (first | ((with_reducible refine zAc (f:=104) rfl ?_);refine zAQ (some 7) rfl rfl Tryz.func104 kCX rfl #[.int .i64 (a0.size:Int),.int .i64 1,.int .i64 20] rfl kD4 ?_;(with_reducible refine (zD5.calls (a0.size:Int) 1 20 true _ A2.out).mono ?_);rintro e w' ⟨rfl,⟨nd,rfl⟩⟩;refine⟨_,rfl,?_⟩));go_loopg [11] k (fun kq v11 w'=>∃(x11_1:Int),v11=.int .i64 x11_1∧Aside0 (read_unit.l0 kq a0 (a0.size:Int) x11_1=some r)∧Aside0 (kq≤k)∧Drawn0 w w')
  case atStart=>exact⟨(0),kD8,H',⟨kA2 _⟩,by repeat (first | exact Drawn0.refl _ | apply Drawn0.step)⟩
  case round =>
   clear H'
   try clear c1
   try clear p2
   try clear c3
   obtain⟨x11_1,rfl,HA,HK1,⟨m1,rfl⟩⟩:=hrel
   cases gk with
   | zero=>exact absurd HA.out (by simp[read_unit.l0])
   | succ k1 =>
    have H:=HA.out;clear HA;simp only[read_unit.l0] at H;by_cases c4:x11_1<(a0.size:Int)
    ·rw[kAb c4] at H;have c4b0:decide (x11_1<(a0.size:Int))=true:=kA5 c4;clear c4;by_cases c5:0≤x11_1
     ·rw[kAb c5] at H;have c5b0:decide (0≤x11_1)=true:=kA5 c5;clear c5;by_cases c6:x11_1<(a0.size:Int)
      ·rw[kAb c6] at H;have c6b0:decide (x11_1<(a0.size:Int))=true:=kA5 c6;clear c6;by_cases c8:(bt a0 x11_1)<32
       ·rw[kAb c8] at H;have c8b0:decide ((bt a0 x11_1)<32)=true:=kA5 c8;clear c8;obtain rfl:=kAc H;have p7:0≤(x11_1:Int):=kA8 kD1;have q7:x11_1<(a0.size:Int):=kA8 kD1;have hx7:=zBA a0 x11_1;replace p7:=kAs p7;replace q7:=kAs q7;go_wp2;go_ret;exact⟨kD8,by repeat (first | exact Drawn0.refl _ | apply Drawn0.step)⟩
       ·rw[kAa c8] at H;have c8b0:decide ((bt a0 x11_1)<32)=false:=kA6 c8;clear c8;by_cases c9:(bt a0 x11_1) > 126
        ·rw[kAb c9] at H;have c9b0:decide (126<(bt a0 x11_1))=true:=kA5 c9;clear c9;obtain rfl:=kAc H;have p7:0≤(x11_1:Int):=kA8 kD1;have q7:x11_1<(a0.size:Int):=kA8 kD1;have hx7:=zBA a0 x11_1;replace p7:=kAs p7;replace q7:=kAs q7;go_wp2;go_ret;exact⟨kD8,by repeat (first | exact Drawn0.refl _ | apply Drawn0.step)⟩
        ·rw[kAa c9] at H;have c9b0:decide (126<(bt a0 x11_1))=false:=kA6 c9;clear c9;by_cases c10:(bt a0 x11_1)=123
         ·rw[kAb c10] at H;have c10b0:((bt a0 x11_1)==123)=true:=beq_iff_eq.mpr c10;have c10b1:((bt a0 x11_1) != 123)=false:=bne_eq_false_iff_eq.mpr c10;clear c10;obtain rfl:=kAc H;have p7:0≤(x11_1:Int):=kA8 kD1;have q7:x11_1<(a0.size:Int):=kA8 kD1;have hx7:=zBA a0 x11_1;replace p7:=kAs p7;replace q7:=kAs q7;go_wp2;go_ret;exact⟨kD8,by repeat (first | exact Drawn0.refl _ | apply Drawn0.step)⟩
         ·rw[kAa c10] at H;have c10b0:((bt a0 x11_1)==123)=false:=beq_eq_false_iff_ne.mpr c10;have c10b1:((bt a0 x11_1) != 123)=true:=bne_iff_ne.mpr c10;by_cases c11:(bt a0 x11_1)=125
          ·rw[kAb c11] at H;have c11b0:((bt a0 x11_1)==125)=true:=beq_iff_eq.mpr c11;have c11b1:((bt a0 x11_1) != 125)=false:=bne_eq_false_iff_eq.mpr c11;clear c11;obtain rfl:=kAc H;have p7:0≤(x11_1:Int):=kA8 kD1;have q7:x11_1<(a0.size:Int):=kA8 kD1;have hx7:=zBA a0 x11_1;replace p7:=kAs p7;replace q7:=kAs q7;go_wp2;go_ret;exact⟨kD8,by repeat (first | exact Drawn0.refl _ | apply Drawn0.step)⟩
          ·rw[kAa c11] at H;have c11b0:((bt a0 x11_1)==125)=false:=beq_eq_false_iff_ne.mpr c11;have c11b1:((bt a0 x11_1) != 125)=true:=bne_iff_ne.mpr c11;have H':=Aside0.mk H;clear H;have p7:0≤(x11_1:Int):=kA8 kD1;have q7:x11_1<(a0.size:Int):=kA8 kD1;have hx7:=zBA a0 x11_1;replace p7:=kAs p7;replace q7:=kAs q7;go_wp2;go_roundg k1
           case measure=>have:=HK1.out;omega
           case rel=>exact⟨(wrap64 (x11_1+1)),kD8,H',⟨by have:=HK1.out;omega⟩,by repeat (first | exact Drawn0.refl _ | apply Drawn0.step)⟩
      ·rw[kAa c6] at H;exact absurd H kCY
     ·rw[kAa c5] at H;exact absurd H kCY
    ·rw[kAa c4] at H;have c4b0:decide (x11_1<(a0.size:Int))=false:=kA6 c4;clear c4;obtain rfl:=kAc H;go_wp2;go_ret;exact⟨kD8,by repeat (first | exact Drawn0.refl _ | apply Drawn0.step)⟩
 ·replace c3:=Bool.eq_false_iff.mpr c3;subst c3;have H1:(some false)=some r:=by rw[kAa (show ¬(false=true) by decide)] at H;exact H
  clear H;have H:=H1;clear H1;obtain rfl:=kAc H;go_enter Tryz.func125,Tryz.ntmps125;go_wp2_with (first | ((with_reducible refine zAc (f:=104) rfl ?_);refine zAQ (some 7) rfl rfl Tryz.func104 kCX rfl #[.int .i64 (a0.size:Int),.int .i64 1,.int .i64 20] rfl kD4 ?_;(with_reducible refine (zD5.calls (a0.size:Int) 1 20 false _ A2.out).mono ?_);rintro e w' ⟨rfl,⟨nd,rfl⟩⟩;refine⟨_,rfl,?_⟩));go_ret;exact⟨kD8,by repeat (first | exact Drawn0.refl _ | apply Drawn0.step)⟩
def stringslite_HasPrefix.f (a0:ByteArray) (a1:ByteArray):Option (Bool):=if (a0.size:Int)≥(a1.size:Int) then (if 0≤(a1.size:Int) then (if (a1.size:Int)≤(a0.size:Int) then (some ((a0.extract 0 ((a1.size:Int):Int).toNat).toList==a1.toList)) else (none)) else (none)) else (some false)
theorem stringslite_HasPrefix.calls (a0:ByteArray) (a1:ByteArray) (r:Bool) (w:World) (h:stringslite_HasPrefix.f a0 a1=some r) :
  Calls Tryz.prog 177 #[.string a0,.string a1] w fun e w'=>e=.returned (.bool r)∧Drawn0 w w':=by
 have H:(if (a0.size:Int)≥(a1.size:Int) then (if 0≤(a1.size:Int) then (if (a1.size:Int)≤(a0.size:Int) then (some ((a0.extract 0 ((a1.size:Int):Int).toNat).toList==a1.toList)) else (none)) else (none)) else (some false))=some r:=h;clear h;by_cases c3:(a0.size:Int)≥(a1.size:Int)
 ·rw[kAb c3] at H;have c3b0:decide ((a1.size:Int)≤(a0.size:Int))=true:=kA5 c3;have c3b1:decide (a1.size≤a0.size)=true:=kA5 (Int.ofNat_le.mp c3);clear c3;by_cases c4:0≤(a1.size:Int)
  ·rw[kAb c4] at H;have c4b0:=kAs c4;have c4b1:decide (0≤(a1.size:Int))=true:=kA5 c4;clear c4;by_cases c5:(a1.size:Int)≤(a0.size:Int)
   ·rw[kAb c5] at H;have c5b0:=kAs c5;have c5b1:decide ((a1.size:Int)≤(a0.size:Int))=true:=kA5 c5;clear c5;obtain rfl:=kAc H;go_enter Tryz.func177,Tryz.ntmps177;go_wp2;go_ret;exact⟨kD8,by repeat (first | exact Drawn0.refl _ | apply Drawn0.step)⟩
   ·rw[kAa c5] at H;exact absurd H kCY
  ·rw[kAa c4] at H;exact absurd H kCY
 ·rw[kAa c3] at H;have c3b0:decide ((a1.size:Int)≤(a0.size:Int))=false:=kA6 c3;have c3b1:decide (a1.size≤a0.size)=false:=kA6 (fun h=>c3 (Int.ofNat_le.mpr h));clear c3;obtain rfl:=kAc H;go_enter Tryz.func177,Tryz.ntmps177;go_wp2;go_ret;exact⟨kD8,by repeat (first | exact Drawn0.refl _ | apply Drawn0.step)⟩
def stringslite_TrimPrefix.f (a0:ByteArray) (a1:ByteArray):Option (ByteArray):=(stringslite_HasPrefix.f a0 a1).bind fun t119=>(if t119=true then (if 0≤(a1.size:Int) then (if (a1.size:Int)≤(a0.size:Int) then (some (a0.extract ((a1.size:Int):Int).toNat a0.size)) else (none)) else (none)) else (some a0))
theorem stringslite_TrimPrefix.calls (a0:ByteArray) (a1:ByteArray) (r:ByteArray) (w:World) (h:stringslite_TrimPrefix.f a0 a1=some r) :
  Calls Tryz.prog 152 #[.string a0,.string a1] w fun e w'=>e=.returned (.string r)∧Drawn0 w w':=by
 have H:((stringslite_HasPrefix.f a0 a1).bind fun t119=>(if t119=true then (if 0≤(a1.size:Int) then (if (a1.size:Int)≤(a0.size:Int) then (some (a0.extract ((a1.size:Int):Int).toNat a0.size)) else (none)) else (none)) else (some a0)))=some r:=h;clear h;replace H:=Option.bind_eq_some_iff.mp H;obtain⟨t119,A30,H⟩:=H;replace H:(if t119=true then (if 0≤(a1.size:Int) then (if (a1.size:Int)≤(a0.size:Int) then (some (a0.extract ((a1.size:Int):Int).toNat a0.size)) else (none)) else (none)) else (some a0))=some r:=H;have A3:=Aside0.mk A30;clear A30;by_cases c4:t119=true
 ·subst c4;have H1:(if 0≤(a1.size:Int) then (if (a1.size:Int)≤(a0.size:Int) then (some (a0.extract ((a1.size:Int):Int).toNat a0.size)) else (none)) else (none))=some r:=by rw[kAb rfl] at H;exact H
  clear H;have H:=H1;clear H1;by_cases c5:0≤(a1.size:Int)
  ·rw[kAb c5] at H;have c5b0:=kAs c5;have c5b1:decide (0≤(a1.size:Int))=true:=kA5 c5;clear c5;by_cases c6:(a1.size:Int)≤(a0.size:Int)
   ·rw[kAb c6] at H;have c6b0:=kAs c6;have c6b1:decide ((a1.size:Int)≤(a0.size:Int))=true:=kA5 c6;clear c6;obtain rfl:=kAc H;go_enter Tryz.func152,Tryz.ntmps152;go_wp2_with (first | ((with_reducible refine zAc (f:=177) rfl ?_);refine zAQ (some 7) rfl rfl Tryz.func177 kCX rfl #[.string a0,.string a1] rfl kD4 ?_;(with_reducible refine (stringslite_HasPrefix.calls a0 a1 true _ A3.out).mono ?_);rintro e w' ⟨rfl,⟨nd,rfl⟩⟩;refine⟨_,rfl,?_⟩));go_ret;exact⟨kD8,by repeat (first | exact Drawn0.refl _ | apply Drawn0.step)⟩
   ·rw[kAa c6] at H;exact absurd H kCY
  ·rw[kAa c5] at H;exact absurd H kCY
 ·replace c4:=Bool.eq_false_iff.mpr c4;subst c4;have H1:(some a0)=some r:=by rw[kAa (show ¬(false=true) by decide)] at H;exact H
  clear H;have H:=H1;clear H1;obtain rfl:=kAc H;go_enter Tryz.func152,Tryz.ntmps152;go_wp2_with (first | ((with_reducible refine zAc (f:=177) rfl ?_);refine zAQ (some 7) rfl rfl Tryz.func177 kCX rfl #[.string a0,.string a1] rfl kD4 ?_;(with_reducible refine (stringslite_HasPrefix.calls a0 a1 false _ A3.out).mono ?_);rintro e w' ⟨rfl,⟨nd,rfl⟩⟩;refine⟨_,rfl,?_⟩));go_ret;exact⟨kD8,by repeat (first | exact Drawn0.refl _ | apply Drawn0.step)⟩
def strings_TrimPrefix.f (a0:ByteArray) (a1:ByteArray):Option (ByteArray):=(stringslite_TrimPrefix.f a0 a1).bind fun t120=>(some t120)
theorem strings_TrimPrefix.calls (a0:ByteArray) (a1:ByteArray) (r:ByteArray) (w:World) (h:strings_TrimPrefix.f a0 a1=some r) :
  Calls Tryz.prog 124 #[.string a0,.string a1] w fun e w'=>e=.returned (.string r)∧Drawn0 w w':=by
 have H:((stringslite_TrimPrefix.f a0 a1).bind fun t120=>(some t120))=some r:=h;clear h;replace H:=Option.bind_eq_some_iff.mp H;obtain⟨t120,A30,H⟩:=H;replace H:(some t120)=some r:=H;have A3:=Aside0.mk A30;clear A30;obtain rfl:=kAc H;go_enter Tryz.func124,Tryz.ntmps124;go_wp2_with (first | ((with_reducible refine zAc (f:=152) rfl ?_);refine zAQ (some 7) rfl rfl Tryz.func152 kCX rfl #[.string a0,.string a1] rfl kD4 ?_;(with_reducible refine (stringslite_TrimPrefix.calls a0 a1 t120 _ A3.out).mono ?_);rintro e w' ⟨rfl,⟨nd,rfl⟩⟩;refine⟨_,rfl,?_⟩));go_ret;exact⟨kD8,by repeat (first | exact Drawn0.refl _ | apply Drawn0.step)⟩
end
end Go.Proofs.YtjaobihcdkjmbaaGreatDoor.PReadTokens
end
section
namespace Go.Proofs.YtjaobihcdkjmbaaGreatDoor
open Go.RowKit Go.Proofs.YtjaobihcdkjmbaaGreatDoorW.PrintWords
theorem zDL {P:Program} (w:World) (b:Nat) (s:ByteArray) (pos:Nat) (ty:TypeId) (hb:w.heap[b]?=some (.stringIter s pos)) (h:pos<s.size) :
  (Instr.next (.pointer (some ⟨b,0,none⟩)) true ty).run P w=.ok (.tuple #[.bool true,.int .i64 pos,.int .i32 (Utf8.decode s pos).1]) (w.putObj b (.stringIter s (pos+(Utf8.decode s pos).2))):=by
 simp[Instr.next,getObj,setObj,kCj,Sem.run,hb,Result.andThen,h,World.putObj,goInt]
theorem zDs {P:Program} (w:World) (b:Nat) (s:ByteArray) (pos:Nat) (ty:TypeId) (hb:w.heap[b]?=some (.stringIter s pos)) (h:¬pos<s.size) :
  (Instr.next (.pointer (some ⟨b,0,none⟩)) true ty).run P w=.ok (.tuple #[.bool false]) w:=by
 simp[Instr.next,getObj,Sem.run,hb,h]
def okC (ks:List Int) (b:UInt8):Bool:=ks.contains (srt b.toNat)
def zBa (ks:List Int) (l:List UInt8):Nat:=(l.takeWhile (okC ks)).length
theorem markFrom_high (c:Int) (h:128≤c):zBf c ms.data.toList=false:=by
 have hd:∀l:List UInt8,(∀m∈l,m.toNat<128)→zBf c l=false:=by
  intro l
  induction l with
  | nil=>intro _;rfl
  | cons m l ih =>
   intro hl;have h1:=hl m kB8;simp only[zBf,ih (fun x hx=>hl x (kB4 _ hx)),Bool.or_false];rw[kAj];omega
 exact hd _ kD0
theorem zEt (c:Int) (h:128≤c):srt c=0:=by
 unfold srt;rw[kAa kCW,kAa kCW,kAa kCW,kAa kCW,markFrom_high c h];rfl
theorem rune_ok (ks:List Int) (h0:ks.contains 0=false) (s:ByteArray) (pos:Nat) (h:pos<s.size) :
  ks.contains (srt ((Utf8.decode s pos).1:Nat))=okC ks (s[pos]'h)∧(okC ks (s[pos]'h)=true→(Utf8.decode s pos).2=1):=by
 by_cases ha:(s[pos]'h).toNat<128
 ·rw[decode_ascii s pos h ha];exact⟨rfl,fun _=>rfl⟩
 ·have hh:=(decode_high s pos h kCW).1;have e:okC ks (s[pos]'h)=false:=by
   unfold okC;rw[zEt _ kCW];exact h0
  rw[zEt _ kCW,e];exact⟨h0,fun h=>by cases h⟩
def Ran (ks:List Int) (sub:ByteArray) (pos:Nat):Prop:=zBa ks sub.data.toList=pos+zBa ks (sub.data.toList.drop pos)
theorem Ran.zero (ks:List Int) (sub:ByteArray):Ran ks sub 0:=by simp[Ran]
theorem Ran.more {ks:List Int} {sub:ByteArray} {pos:Nat} (h:Ran ks sub pos) (hp:pos<sub.size) (hk:okC ks (sub[pos]'hp)=true):Ran ks sub (pos+1):=by
 unfold Ran at h⊢;rw[h,kAn (show pos<sub.data.toList.length from hp)];have hk':okC ks (sub.data.toList[pos]'(show pos<sub.data.toList.length from hp))=true:=hk;have:zBa ks (sub.data.toList[pos]'(show pos<sub.data.toList.length from hp) :: sub.data.toList.drop (pos+1))=1+zBa ks (sub.data.toList.drop (pos+1)):=by
  unfold zBa;rw[kAQ,kAb hk',List.length_cons];omega
 omega
theorem Ran.stop {ks:List Int} {sub:ByteArray} {pos:Nat} (h:Ran ks sub pos) (hp:pos<sub.size) (hk:okC ks (sub[pos]'hp)=false):zBa ks sub.data.toList=pos:=by
 unfold Ran at h;rw[h,kAn (show pos<sub.data.toList.length from hp)];have hk':¬okC ks (sub.data.toList[pos]'(show pos<sub.data.toList.length from hp))=true:=Bool.eq_false_iff.1 hk;unfold zBa;rw[kAQ,kAa hk'];rfl
theorem Ran.end_ {ks:List Int} {sub:ByteArray} {pos:Nat} (h:Ran ks sub pos) (hp:¬pos<sub.size):zBa ks sub.data.toList=pos:=by
 unfold Ran at h;rw[h,kAZ (show sub.data.toList.length≤pos from kCE.1 hp)];rfl
theorem zAb {W w1:World} (hb:Below W.heap.size W w1) {b:Nat} {o:Obj} (h:W.heap[b]?=some o):w1.heap[b]?=some o:=(hb.block b (zA5 h)).trans h
structure RunAt (w:World) (S:Nat) (s sub:ByteArray) (b pos:Nat) (wr:World):Prop where
 grown:w.grownBy wr (some S)
 scan:wr.heap[S]?=some (.cells #[.string s,.int .i64 b] 129 (0,0))
 iter:wr.heap[w.heap.size]?=some (.stringIter sub pos)
theorem RunAt.next {w:World} {S:Nat} {s sub:ByteArray} {b pos:Nat} {wr:World} (h:RunAt w S s sub b pos wr) (hS:S<w.heap.size) (pos':Nat) :
  RunAt w S s sub b pos' (wr.putObj w.heap.size (.stringIter sub pos')):=by
 refine⟨⟨h.grown.os,h.grown.tape,h.grown.output,by rw[World.putObj_size];exact h.grown.size,fun k hk hne=>(kAp kCW).trans (h.grown.block k hk hne)⟩,?_,?_⟩
 ·exact (kAp kCW).trans h.scan
 ·exact kBf (zA5 h.iter)
theorem RunAt.below {w:World} {S:Nat} {s sub:ByteArray} {b pos:Nat} {wr w1:World} (h:RunAt w S s sub b pos wr) (hb:Below wr.heap.size wr w1):RunAt w S s sub b pos w1 :=
 ⟨kAi h.grown hb,zAb hb h.scan,zAb hb h.iter⟩
theorem RunAt.set {w:World} {S:Nat} {s sub:ByteArray} {b pos:Nat} {wr:World} (h:RunAt w S s sub b pos wr) (hS:S<w.heap.size) (b':Nat):RunAt w S s sub b' pos (wr.setCell ⟨S,1,none⟩ (.int .i64 b')):=by
 refine⟨kA9 h.grown (kAh _ _ _ _),?_,(kA7 _ _ _ _ kCZ).trans h.iter⟩;exact zAa h.scan 1 _
theorem zBx {w w':World} {row:Option Nat} (h:w.grownBy w' row) (n:Nat):w.grownBy (w'.drewN n) row:=⟨h.os,h.tape,h.output,h.size,h.block⟩
theorem contains_snoc (ks:List Int) (j:Nat) (x:Int) (h:j<ks.length):(ks.take (j+1)).contains x=((ks.take j).contains x||x==ks[j]):=by
 have e:ks.take (j+1)=ks.take j++[ks[j]]:=kBs h;rw[kBW];simp only[e,kCP,kC4,kBA,kCz,kB6,kAA]
theorem run_any (S g:Nat) (s:ByteArray) (a:Nat) (ha:a≤s.size) (ks:List Int) (t:TypeId) (w:World) (hs:s.size≤9223372036854775807)
  (hk0:ks.contains 0=false) (hkn:ks.length<100)
  (hS:w.heap[S]?=some (.cells #[.string s,.int .i64 a] 129 (0,0))) (hg:w.heap[g]?=some (.cells (ks.map (Value.int .i64)).toArray t (0,0))) (hgS:g≠S) :
  Calls Tryz.prog 122 #[.pointer (some ⟨S,0,none⟩),.slice (some ⟨g,0,none⟩) ks.length ks.length] w fun e w' =>
   e=.returned (.string (s.extract a (a+zBa ks (s.data.toList.drop a))))∧w.grownBy w' (some S) ∧
   w'.heap[S]?=some (.cells #[.string s,.int .i64 (a+zBa ks (s.data.toList.drop a):Nat)] 129 (0,0)):=by
 have hs0:=zA1 hS 0;have hs1:=zA1 hS 1;have HS:=kA1 hS;have HG:=kA1 hg;have HK:=kA1 hk0;clear hS hg hk0;have hSw:S<w.heap.size:=zA5 HS.out;have hgw:g<w.heap.size:=zA5 HG.out;go_enter Tryz.func122,Tryz.ntmps122;go_wp2
 go_step3
 go_wp2
 go_step3
 go_wp2;clear hs0 hs1;have hsz:(s.extract a s.size).size=s.size-a:=kCY
 have hdata:(s.extract a s.size).data.toList=s.data.toList.drop a:=by
  rw[kAS];exact kBp kCY
 have HD:=kA1 hdata;have hit:RunAt w S s (s.extract a s.size) a 0 (w.iter (s.extract a s.size) 0) :=
  ⟨kAE _ _ _,(kA4 _ _ _ hSw).trans HS.out,World.iter_heap _ _ _⟩
 clear hdata;generalize s.extract a s.size=sub at *;have Hsz:=kA1 hsz;clear hsz;go_loopg [] sub.size (fun k wr=>∃pos b,pos+k=sub.size∧Hid (b=a+pos)∧RunAt w S s sub b pos wr∧Ran ks sub pos)
 case atStart=>exact⟨0,a,kCW,rfl,hit,Ran.zero _ _⟩
 case round =>
  clear hit;obtain⟨pos,b,hpos,Hb,hat,hran⟩:=hrel;have hcs:=zA1 hat.scan 0;have hcs1:=zA1 hat.scan 1;have hfz:=zA2 hat.scan 1;have hab:a≤b:=by have:=Hb.out;omega
  have hbs:b≤s.size:=by have:=Hsz.out;have:=Hb.out;omega
  by_cases hp:pos<sub.size
  ·have hnx:=fun ty=>zDL (P:=Tryz.prog) wr w.heap.size sub pos ty hat.iter hp
   have hin:=hat.next hSw (pos+(Utf8.decode sub pos).2)
   have HR:=kA1 (rune_ok ks HK.out sub pos hp);have hbl:b<s.size:=by have:=Hsz.out;have:=Hb.out;omega
   go_wp2;clear hnx hat hcs hcs1 hfz;generalize wr.putObj w.heap.size (.stringIter sub (pos+(Utf8.decode sub pos).2))=W1 at *;generalize gk=G at *;go_loopg [26] ks.length (fun m i wi=>∃j:Nat,j+m=ks.length∧i=.int .i64 j∧Below W1.heap.size W1 wi∧Hid ((ks.take j).contains (srt (Utf8.decode sub pos).1)=false))
   case atStart=>exact⟨0,kCW,rfl,kA3 _ _,rfl⟩
   case round =>
    obtain⟨j,hj,rfl,hb,Hnone⟩:=hrel;have hin2:=hin.below hb;have hgc:=zAb hb ((hin.grown.block g hgw (fun e=>hgS (by injection e))).trans HG.out);by_cases hjl:j<ks.length
    ·have hcs:=zA1 hgc j;have hcv:(ks.map (Value.int .i64)).toArray[j]?=some (.int .i64 ks[j]):=by simp[hjl]
     rw[hcv] at hcs;have Hsn:=kA1 (contains_snoc ks j (srt (Utf8.decode sub pos).1) hjl);have Hgc:=kA1 hgc;clear hcv hgc;generalize ks[j]=kj at *;go_wp2_with (go_at_call 107;refine (zCL _ _).mono ?_;rintro e w1 ⟨rfl,hb1⟩;have hin3:=hin2.below hb1;have c31:=zA1 hin3.scan 1;have f31:=zA2 hin3.scan 1)
     ·have ht:(srt ↑(Utf8.decode sub pos).1==kj)=true:=kD3
      have hin3:RunAt w S s sub b (pos+(Utf8.decode sub pos).2) w1:=hin2.below kD3;go_roundg (G-1)
      case measure=>omega
      case rel =>
       have hct:ks.contains (srt (Utf8.decode sub pos).1)=true:=by
        have h1:=Hsn.out;rw[ht,Bool.or_true,kCP,kB6] at h1;rw[kCP,kB6];exact kCp h1
       rw[HR.out.1] at hct;have h:=hin3.set hSw (b+1);rw[HR.out.2 hct,show (((b+1:Nat)):Int)=(b:Int)+1 by omega] at h;exact⟨pos+1,b+1,kCW,(by show b+1=a+(pos+1);have:=Hb.out;omega),h,hran.more hp hct⟩
     ·have ht:(srt ↑(Utf8.decode sub pos).1==kj)=false:=kD3
      go_roundg (gk-1)
      case measure=>omega
      case rel =>
       refine⟨j+1,kCW,by go_num,?_,?_⟩
       ·exact hb.trans (hb1.mono hb.size)
       ·show _=_;rw[Hsn.out,Hnone.out,ht];rfl
    ·clear hgc;have Hok:Hid (okC ks sub[pos]=false):=by
      have h1:=Hnone.out;rw[kBp kCW,HR.out.1] at h1;exact h1
     have hlen:=kA1 (hran.stop hp Hok.out);have hcs:=zA1 hin2.scan 0;have hcs1:=zA1 hin2.scan 1;have hgrown:=hin2.grown;have hscan:=kA1 hin2.scan;clear hran hin hin2;go_wp2
     go_quiet (fail)
     go_wp2;rw[Exit.noGoto_ret];go_ret;rw[← HD.out,hlen.out,← Hb.out];exact⟨rfl,zBx hgrown _,hscan.out⟩
  ·have hnx:=fun ty=>zDs (P:=Tryz.prog) wr w.heap.size sub pos ty hat.iter hp
   have hlen:=kA1 (hran.end_ hp);have hgrown:=hat.grown;have hscan:=kA1 hat.scan;clear hat hran;go_wp2
   go_quiet (fail)
   go_wp2;rw[Exit.noGoto_ret];go_ret;rw[← HD.out,hlen.out,← Hb.out];exact⟨rfl,zBx hgrown _,hscan.out⟩
end Go.Proofs.YtjaobihcdkjmbaaGreatDoor
end
section
namespace Go.Proofs.YtjaobihcdkjmbaaGreatDoor
open Go.RowKit Go.Proofs.YtjaobihcdkjmbaaGreatDoorW.PrintWords Go.Proofs.YtjaobihcdkjmbaaGreatDoor.PReadTokens
def zDe (s:ByteArray):Bool:=(read_word.f s).getD false
theorem word_f (s:ByteArray):read_word.f s=some (zDe s):=by
 unfold zDe read_word.f
 repeat' split
 all_goals rfl
theorem word_any (s:ByteArray) (w:World):Calls Tryz.prog 106 #[.string s] w fun e w'=>e=.returned (.bool (zDe s))∧Below w.heap.size w w' :=
 (read_word.calls s (zDe s) w (word_f s)).mono fun _ _ ⟨h1,h2⟩=>⟨h1,h2.below⟩
def nchk (pos:Nat) (b:UInt8):Bool:=srt b.toNat==2||(srt b.toNat==4&&decide (0<pos))
def zC6:Nat→List UInt8→Bool
 | _,[]=>true
 | pos,b :: l=>nchk pos b&&zC6 (pos+1) l
def zC7 (s:ByteArray):Bool:=decide (0<s.size)&&decide (s.size≤12) && !zDe s&&zC6 0 s.data.toList
theorem zDv (s:ByteArray) (pos:Nat) (h:pos<s.size):zC6 pos (s.data.toList.drop pos)=(nchk pos (s[pos]'h)&&zC6 (pos+1) (s.data.toList.drop (pos+1))):=by
 rw[kAn (show pos<s.data.toList.length from h)];rfl
theorem rune_nchk (s:ByteArray) (pos:Nat) (h:pos<s.size) :
  nchk pos (s[pos]'h)=(srt ((Utf8.decode s pos).1:Nat)==2||(srt ((Utf8.decode s pos).1:Nat)==4&&decide (0<pos)))∧(nchk pos (s[pos]'h)=true→(Utf8.decode s pos).2=1):=by
 by_cases ha:(s[pos]'h).toNat<128
 ·rw[decode_ascii s pos h ha];exact⟨rfl,fun _=>rfl⟩
 ·have hh:=(decode_high s pos h kCW).1;have e:nchk pos (s[pos]'h)=false:=by
   unfold nchk;rw[zEt _ kCW];rfl
  rw[zEt _ kCW,e];exact⟨rfl,fun h=>by cases h⟩
theorem str_empty {s:ByteArray} (h:s.size=0):s.toList=[]:=by
 rw[kBm];exact kBn h
theorem str_some {s:ByteArray} (h:0<s.size):s.toList.isEmpty=false:=by
 rw[kBm]
 cases hl:s.data.toList with
 | nil=>have:s.data.toList.length=s.size:=rfl;rw[hl] at this;simp at this;omega
 | cons _ _=>rfl
structure IterAt (w1:World) (s:ByteArray) (pos:Nat) (wr:World):Prop where
 below_:Below w1.heap.size w1 wr
 iter:wr.heap[w1.heap.size]?=some (.stringIter s pos)
theorem IterAt.next {w1:World} {s:ByteArray} {pos:Nat} {wr:World} (h:IterAt w1 s pos wr) (pos':Nat):IterAt w1 s pos' (wr.putObj w1.heap.size (.stringIter s pos')) :=
 ⟨⟨h.below_.os,h.below_.tape,h.below_.output,by rw[World.putObj_size];exact h.below_.size,fun k hk=>(kAp kCW).trans (h.below_.block k hk)⟩,kBf (zA5 h.iter)⟩
theorem IterAt.below {w1:World} {s:ByteArray} {pos:Nat} {wr w2:World} (h:IterAt w1 s pos wr) (hb:Below wr.heap.size wr w2):IterAt w1 s pos w2 :=
 ⟨h.below_.trans (hb.mono h.below_.size),zAb hb h.iter⟩
theorem name_any (s:ByteArray) (w:World) (hs:s.size≤9223372036854775807) :
  Calls Tryz.prog 71 #[.string s] w fun e w'=>e=.returned (.bool (zC7 s))∧Below w.heap.size w w':=by
 by_cases h1:s.size=0
 ·have hres:zC7 s=false:=by unfold zC7;rw[h1];rfl
  rw[hres];have h2:=str_empty h1;clear h1 hres;go_enter Tryz.func71,Tryz.ntmps71;go_wp2;go_ret;exact⟨rfl,kA3 _ _⟩
 ·have h2:=str_some (s:=s) kCW;by_cases h3:s.size≤12
  ·cases hw:zDe s
   ·have hres:zC7 s=zC6 0 s.data.toList:=by unfold zC7;rw[hw];simp[h3];omega
    rw[hres];have hwd:=word_any s w;rw[hw] at hwd;clear hw hres;go_enter Tryz.func71,Tryz.ntmps71;go_wp2_with (go_at_call 106;refine hwd.mono ?_;rintro e w1 ⟨rfl,hb⟩);have hit:IterAt w1 s 0 (w1.iter s 0):=⟨(kA3 _ _).alloc (kA2 _) _,World.iter_heap _ _ _⟩;go_loopg [] s.size (fun k wr=>∃pos,pos+k=s.size∧IterAt w1 s pos wr∧Hid (zC6 0 s.data.toList=zC6 pos (s.data.toList.drop pos)))
    case atStart=>exact⟨0,kCW,hit,by show _=_;simp⟩
    case round =>
     clear hit;obtain⟨pos,hpos,hat,Hn⟩:=hrel;by_cases hp:pos<s.size
     ·have hnx:=fun ty=>zDL (P:=Tryz.prog) wr w1.heap.size s pos ty hat.iter hp
      have hin:=hat.next (pos+(Utf8.decode s pos).2)
      have HR:=kA1 (rune_nchk s pos hp);have HD:=kA1 (zDv s pos hp);go_wp2_with fail;clear hnx hat;generalize wr.putObj w1.heap.size (.stringIter s (pos+(Utf8.decode s pos).2))=W1 at *;refine (zCL _ _).mono ?_;rintro e w2 ⟨rfl,hb2⟩;have hin2:=hin.below hb2;have hbw:=hin2.below_
      cases hok:nchk pos s[pos]
      ·have Hres:Hid (zC6 0 s.data.toList=false):=by
        show _=_;rw[Hn.out,HD.out,hok];rfl
       have hr1:=HR.out.1;rw[hok] at hr1;have n2:(srt (Utf8.decode s pos).1 != 2)=true:=by
        cases h:(srt (Utf8.decode s pos).1==2) with
        | true=>rw[h] at hr1;cases hr1
        | false=>exact kCw.2 (kAj.1 h)
       have n2':=kAj.2 (kCw.1 n2);rw[n2',Bool.false_or] at hr1;have Hr1:=kA1 hr1;clear hr1 hok n2' hin hin2
       cases h4:(srt (Utf8.decode s pos).1==4) with
       | true =>
        have n4:(srt (Utf8.decode s pos).1 != 4)=false:=by simpa using h4
        have hz:((pos:Int)==0)=true:=by
         have h1:=Hr1.out;rw[h4,kC1] at h1;have:=kBr h1.symm;rw[kAA];omega
        clear h4;go_wp2;go_ret;rw[Hres.out];exact⟨rfl,hb.trans (hbw.mono hb.size)⟩
       | false =>
        have n4:(srt (Utf8.decode s pos).1 != 4)=true:=by simpa using h4
        clear h4;go_wp2;go_ret;rw[Hres.out];exact⟨rfl,hb.trans (hbw.mono hb.size)⟩
      ·have Hn':Hid (zC6 0 s.data.toList=zC6 (pos+1) (s.data.toList.drop (pos+1))):=by
        show _=_;rw[Hn.out,HD.out,hok,kC1]
       have hr1:=HR.out.1;have hwd:=HR.out.2 hok;rw[hwd] at hin2;rw[hok] at hr1;have Hr1:=kA1 hr1;clear hr1 hok hin hwd
       cases h2:(srt (Utf8.decode s pos).1==2) with
       | true =>
        have n2:(srt (Utf8.decode s pos).1 != 2)=false:=by simpa using h2
        clear h2;go_wp2;go_roundg (gk-1)
        case measure=>omega
        case rel=>exact⟨pos+1,kCW,hin2,Hn'⟩
       | false =>
        have n2:(srt (Utf8.decode s pos).1 != 2)=true:=by simpa using h2
        have h1:=Hr1.out;rw[h2,Bool.false_or,eq_comm,kAx] at h1;obtain⟨h4,hz⟩:=h1;have n4:(srt (Utf8.decode s pos).1 != 4)=false:=by simpa using h4
        have hz:=kA8 hz;have n0:((pos:Int)==0)=false:=by rw[kAj];omega
        clear h2 h4;go_wp2;go_roundg (gk-1)
        case measure=>omega
        case rel=>exact⟨pos+1,kCW,hin2,Hn'⟩
     ·have hnx:=fun ty=>zDs (P:=Tryz.prog) wr w1.heap.size s pos ty hat.iter hp
      have hres:=Hn.out;rw[kAZ (show s.data.toList.length≤pos from kCE.1 hp)] at hres;have Hres:=kA1 hres;have hbw:=hat.below_;clear hat hres;go_wp2;go_ret;rw[Hres.out];exact⟨rfl,hb.trans (hbw.mono hb.size)⟩
   ·have hres:zC7 s=false:=by unfold zC7;rw[hw];simp
    rw[hres];have hwd:=word_any s w;rw[hw] at hwd;clear hw hres;go_enter Tryz.func71,Tryz.ntmps71;go_wp2_with (go_at_call 106;refine hwd.mono ?_;rintro e w1 ⟨rfl,hb⟩);go_ret;exact⟨rfl,hb⟩
  ·have hres:zC7 s=false:=by unfold zC7;simp[h3]
   rw[hres];clear hres;go_enter Tryz.func71,Tryz.ntmps71;go_wp2;go_ret;exact⟨rfl,kA3 _ _⟩
def tokV (t:S47):Value:=.agg #[.int .i64 t.f0,.string t.f1,.int .i64 t.f2]
def zAn (s:ByteArray) (a:Nat):List UInt8:=s.data.toList.drop a
def zAl (s:ByteArray) (a:Nat):Nat:=a+zBa [1] (zAn s a)
def zAS (s:ByteArray) (b:Nat):Nat:=b+zBa [2,3,4] (zAn s b)
def zBi (s:ByteArray) (b:Nat):Nat:=b+zBa [4] (zAn s b)
theorem runLen_le (ks:List Int) (l:List UInt8):zBa ks l≤l.length:=(kCB _).length_le
theorem zDF (ks:List Int) (s:ByteArray) (a:Nat) (ha:a≤s.size):a+zBa ks (zAn s a)≤s.size:=by
 have:=runLen_le ks (zAn s a);unfold zAn at this⊢;rw[kAl] at this;have e:s.data.toList.length=s.size:=rfl;omega
def Scan (w:World) (S:Nat) (s:ByteArray) (a:Nat):Prop:=w.heap[S]?=some (.cells #[.string s,.int .i64 a] 129 (0,0))
theorem Scan.cells {w:World} {S:Nat} {s:ByteArray} {a:Nat} (h:Scan w S s a) :
  w.cell? ⟨S,0,none⟩=some (.string s)∧w.cell? ⟨S,1,none⟩=some (.int .i64 a)∧w.frozen? ⟨S,1,none⟩=false∧S<w.heap.size :=
 ⟨zA1 h 0,zA1 h 1,zA2 h 1,zA5 h⟩
theorem beq_comm_int (a b:Int):(a==b)=(b==a):=by rw[kBW,kAA,kAA];exact eq_comm
theorem run_one (S g:Nat) (s:ByteArray) (a:Nat) (k:Int) (hk:(k==0)=false) (t:TypeId) (w:World) (ha:a≤s.size) (hs:s.size≤9223372036854775807) (hS:Scan w S s a)
  (hg:w.heap[g]?=some (.cells #[.int .i64 k] t (0,0))) (hgS:g≠S) :
  Calls Tryz.prog 122 #[.pointer (some ⟨S,0,none⟩),.slice (some ⟨g,0,none⟩) 1 1] w fun e w' =>
   e=.returned (.string (s.extract a (a+zBa [k] (zAn s a))))∧w.grownBy w' (some S)∧Scan w' S s (a+zBa [k] (zAn s a)) :=
 run_any S g s a ha [k] t w hs (by rw[List.contains_cons,beq_comm_int,hk];rfl) (Nat.lt_of_le_of_lt (kA2 1) kCW) hS hg hgS
theorem zDJ (S:Nat) (s:ByteArray) (a b:Nat) (w:World) (o:Obj) (ha:a≤s.size) (hs:s.size≤2147483648) (hS:Scan w S s a) (hb:zAl s a=b) :
  Calls Tryz.prog 122 #[.pointer (some ⟨S,0,none⟩),.slice (some ⟨w.heap.size+1,0,none⟩) 1 1] ((w.alloc o).alloc (.cells #[.int .i64 1] 162)) fun e w' =>
   e=.returned (.string (s.extract a b))∧((w.alloc o).alloc (.cells #[.int .i64 1] 162)).grownBy w' (some S)∧Scan w' S s b:=by
 subst hb;have hlt:S<w.heap.size:=zA5 hS;refine run_one S (w.heap.size+1) s a 1 rfl 162 _ ha kCW ?_ ?_ kCW
 ·exact (kA4 _ _ _ kCZ).trans ((kA4 _ _ _ hlt).trans hS)
 ·have:=zA4 (w.alloc o) (.cells #[.int .i64 1] 162)
  rwa [kAC] at this
theorem results88 {tmps:Array Value} {W:World} {R:Nat} {cs:Array Value} (h2:tmps.getD 2 undef=.pointer (some ⟨R,0,none⟩)) (hs:cs.size=3) (hR:W.heap[R]?=some (.cells cs 47 (0,0))) :
  (results Tryz.f88 tmps).run Tryz.prog W=.ok (.tuple #[.agg cs,tmps.getD 3 undef]) W :=
 results_ct (fn:=Tryz.f88) Tryz.results88 tmps W R 47 cs (0,0) _ h2 hR Tryz.underlying47 rfl (by rw[hs];kernel_rfl)
theorem next_fin {w X:World} {S R n:Nat} {s:ByteArray} {x0 x1 x2:Value} (v0 v1 v2:Value) (hg:w.grownBy X (some S)) (hsc:Scan X S s n) (hR:X.heap[R]?=some (.cells #[x0,x1,x2] 47 (0,0))) (hRw:w.heap.size≤R) (hS:S<w.heap.size) :
  (((X.setCell ⟨R,0,none⟩ v0).setCell ⟨R,1,none⟩ v1).setCell ⟨R,2,none⟩ v2).heap[R]?=some (.cells #[v0,v1,v2] 47 (0,0)) ∧
   w.grownBy (((X.setCell ⟨R,0,none⟩ v0).setCell ⟨R,1,none⟩ v1).setCell ⟨R,2,none⟩ v2) (some S)∧Scan (((X.setCell ⟨R,0,none⟩ v0).setCell ⟨R,1,none⟩ v1).setCell ⟨R,2,none⟩ v2) S s n:=by
 have far:∀(Y:World) (i:Nat) (v:Value),w.grownBy Y (some S)→w.grownBy (Y.setCell ⟨R,i,none⟩ v) (some S):=fun Y i v h =>
  ⟨h.os,h.tape,h.output,by rw[kAM];exact h.size,fun k hk hne=>(kA7 _ _ _ _ kCZ).trans (h.block k hk hne)⟩
 have far2:∀(Y:World) (i:Nat) (v:Value),Scan Y S s n→Scan (Y.setCell ⟨R,i,none⟩ v) S s n:=fun Y i v h=>(kA7 _ _ _ _ kCZ).trans h
 exact⟨zAa (zAa (zAa hR 0 v0) 1 v1) 2 v2,far _ _ _ (far _ _ _ (far _ _ _ hg)),far2 _ _ _ (far2 _ _ _ (far2 _ _ _ hsc))⟩
theorem next_end (S:Nat) (s:ByteArray) (a:Nat) (w:World) (ha:a≤s.size) (hs:s.size≤2147483648) (hS:Scan w S s a) (hb:zAl s a=s.size) :
  Calls Tryz.prog 88 #[.pointer (some ⟨S,0,none⟩)] w fun e w'=>e=.returned (.tuple #[tokV ⟨-1,⟨#[]⟩,s.size⟩,.bool false])∧w.grownBy w' (some S)∧Scan w' S s s.size:=by
 have hSw:=hS.cells.2.2.2;have hcall:=fun o=>zDJ S s a s.size w o ha hs hS hb
 clear hb;go_enter Tryz.func88,Tryz.ntmps88;go_wp2_with (go_at_call 122;refine (hcall _).mono ?_;rintro e w1 ⟨rfl,hg,hsc⟩;obtain⟨c0,c1,f1,lt⟩:=hsc.cells;have hR:=(hg.block w.heap.size kCZ (fun e=>by injection e with e;omega)).trans ((kA4 _ _ _ kCY).trans (zA4 w _)));have cR0:=zA1 hR 0;have cR1:=zA1 hR 1;have cR2:=zA1 hR 2;have fR0:=zA2 hR 0;have fR1:=zA2 hR 1;have fR2:=zA2 hR 2;have hRl:=zA5 hR;have HR:=kA1 hR;clear hR
 go_quiet (fail)
 go_wp2;have hgX:=zBx (kCi (kA9 (kCi (kAE w _ (some S)) _) hg) (.cells #[.int .i64 (-1),.string ⟨#[]⟩,.int .i64 s.size] 47)) nq;obtain⟨h1,h2,h3⟩:=next_fin (.int .i64 (-1)) (.string ⟨#[]⟩) (.int .i64 s.size) hgX (zAp ((kA4 _ _ _ lt).trans hsc) nq) (zAp ((kA4 _ _ _ hRl).trans HR.out) nq) (kA2 _) hSw;exact kAg (results88 rfl rfl h1) rfl ⟨rfl,h2,h3⟩
theorem word_is (x:ByteArray) (r:Bool) (h:zDe x=r) (w:World):Calls Tryz.prog 106 #[.string x] w fun e w'=>e=.returned (.bool r)∧Below w.heap.size w w':=by rw[← h];exact word_any x w
theorem name_is (x:ByteArray) (r:Bool) (hs:x.size≤9223372036854775807) (h:zC7 x=r) (w:World):Calls Tryz.prog 71 #[.string x] w fun e w'=>e=.returned (.bool r)∧Below w.heap.size w w':=by rw[← h];exact name_any x w hs
theorem run_three (S g:Nat) (s:ByteArray) (a:Nat) (w:World) (ha:a≤s.size) (hs:s.size≤9223372036854775807) (hS:Scan w S s a)
  (hg:w.heap[g]?=some (.cells #[.int .i64 2,.int .i64 3,.int .i64 4] 162 (0,0))) (hgS:g≠S) :
  Calls Tryz.prog 122 #[.pointer (some ⟨S,0,none⟩),.slice (some ⟨g,0,none⟩) 3 3] w fun e w' =>
   e=.returned (.string (s.extract a (zAS s a)))∧w.grownBy w' (some S)∧Scan w' S s (zAS s a) :=
 run_any S g s a ha [2,3,4] 162 w hs kD0 kD0 hS hg hgS
structure NextAt (w:World) (S T:Nat) (s:ByteArray) (n:Nat) (t:S47) (W:World):Prop where
 grown:w.grownBy W (some S)
 scan:Scan W S s n
 res:W.heap[w.heap.size]?=some (.cells #[.int .i64 0,.string ⟨#[]⟩,.int .i64 0] 47 (0,0))
 tok:W.heap[T]?=some (.cells #[.int .i64 t.f0,.string t.f1,.int .i64 t.f2] 47 (0,0))
 hT:w.heap.size<T
theorem NextAt.below {w:World} {S T:Nat} {s:ByteArray} {n:Nat} {t:S47} {W W':World} (h:NextAt w S T s n t W) (hb:Below W.heap.size W W'):NextAt w S T s n t W' :=
 ⟨kAi h.grown hb,zAb hb h.scan,zAb hb h.res,zAb hb h.tok,h.hT⟩
theorem NextAt.alloc {w:World} {S T:Nat} {s:ByteArray} {n:Nat} {t:S47} {W:World} (h:NextAt w S T s n t W) (o:Obj):NextAt w S T s n t (W.alloc o) :=
 h.below ((kA3 _ _).alloc (kA2 _) o)
theorem NextAt.drew {w:World} {S T:Nat} {s:ByteArray} {n:Nat} {t:S47} {W:World} (h:NextAt w S T s n t W) (m:Nat):NextAt w S T s n t (W.drewN m) :=
 h.below (zA3 (kA3 _ _) m)
theorem NextAt.step {w:World} {S T:Nat} {s:ByteArray} {n n':Nat} {t:S47} {W W':World} (h:NextAt w S T s n t W) (hSw:S<w.heap.size) (hg:W.grownBy W' (some S)) (hs:Scan W' S s n'):NextAt w S T s n' t W' :=
 ⟨kA9 h.grown hg,hs,(hg.block _ (zA5 h.res) (fun e=>by injection e with e;omega)).trans h.res,(hg.block _ (zA5 h.tok) (fun e=>by injection e with e;have:=h.hT;omega)).trans h.tok,h.hT⟩
theorem NextAt.far {w:World} {S T:Nat} {s:ByteArray} {n:Nat} {t:S47} {W:World} (h:NextAt w S T s n t W) (hSw:S<w.heap.size) (i:Nat) (v:Value) (t':S47)
  (ht:(#[.int .i64 t.f0,.string t.f1,.int .i64 t.f2]:Array Value).setIfInBounds i v=#[.int .i64 t'.f0,.string t'.f1,.int .i64 t'.f2]):NextAt w S T s n t' (W.setCell ⟨T,i,none⟩ v):=by
 have hT:=h.hT;refine⟨⟨h.grown.os,h.grown.tape,h.grown.output,by rw[kAM];exact h.grown.size,fun k hk hne=>(kA7 _ _ _ _ kCZ).trans (h.grown.block k hk hne)⟩,(kA7 _ _ _ _ kCZ).trans h.scan,(kA7 _ _ _ _ kCZ).trans h.res,?_,hT⟩;rw[← ht];exact zAa h.tok i v
theorem NextAt.kind {w:World} {S T:Nat} {s:ByteArray} {n:Nat} {t:S47} {W:World} (h:NextAt w S T s n t W) (hSw:S<w.heap.size) (k:Int):NextAt w S T s n ⟨k,t.f1,t.f2⟩ (W.setCell ⟨T,0,none⟩ (.int .i64 k)):=h.far hSw 0 _ _ rfl
theorem NextAt.text {w:World} {S T:Nat} {s:ByteArray} {n:Nat} {t:S47} {W:World} (h:NextAt w S T s n t W) (hSw:S<w.heap.size) (x:ByteArray):NextAt w S T s n ⟨t.f0,x,t.f2⟩ (W.setCell ⟨T,1,none⟩ (.string x)):=h.far hSw 1 _ _ rfl
theorem NextAt.cells {w:World} {S T:Nat} {s:ByteArray} {n:Nat} {t:S47} {W:World} (h:NextAt w S T s n t W) :
  (W.cell? ⟨T,0,none⟩=some (.int .i64 t.f0)∧W.cell? ⟨T,1,none⟩=some (.string t.f1)∧W.cell? ⟨T,2,none⟩=some (.int .i64 t.f2)) ∧
  (W.frozen? ⟨T,0,none⟩=false∧W.frozen? ⟨T,1,none⟩=false∧W.frozen? ⟨T,2,none⟩=false) ∧
  (W.cell? ⟨w.heap.size,0,none⟩=some (.int .i64 0)∧W.cell? ⟨w.heap.size,1,none⟩=some (.string ⟨#[]⟩)∧W.cell? ⟨w.heap.size,2,none⟩=some (.int .i64 0)) ∧
  (W.frozen? ⟨w.heap.size,0,none⟩=false∧W.frozen? ⟨w.heap.size,1,none⟩=false∧W.frozen? ⟨w.heap.size,2,none⟩=false) ∧
  w.heap.size<W.heap.size∧T<W.heap.size :=
 ⟨⟨zA1 h.tok 0,zA1 h.tok 1,zA1 h.tok 2⟩,⟨zA2 h.tok 0,zA2 h.tok 1,zA2 h.tok 2⟩,⟨zA1 h.res 0,zA1 h.res 1,zA1 h.res 2⟩,⟨zA2 h.res 0,zA2 h.res 1,zA2 h.res 2⟩,zA5 h.res,zA5 h.tok⟩
theorem NextAt.fin {w:World} {S T:Nat} {s:ByteArray} {n:Nat} {t:S47} {W:World} (h:NextAt w S T s n t W) (hSw:S<w.heap.size) (v0 v1 v2:Value) :
  (((W.setCell ⟨w.heap.size,0,none⟩ v0).setCell ⟨w.heap.size,1,none⟩ v1).setCell ⟨w.heap.size,2,none⟩ v2).heap[w.heap.size]?=some (.cells #[v0,v1,v2] 47 (0,0)) ∧
   w.grownBy (((W.setCell ⟨w.heap.size,0,none⟩ v0).setCell ⟨w.heap.size,1,none⟩ v1).setCell ⟨w.heap.size,2,none⟩ v2) (some S)∧Scan (((W.setCell ⟨w.heap.size,0,none⟩ v0).setCell ⟨w.heap.size,1,none⟩ v1).setCell ⟨w.heap.size,2,none⟩ v2) S s n :=
 next_fin v0 v1 v2 h.grown h.scan h.res (kA2 _) hSw
theorem NextAt.start {w:World} {S:Nat} {s:ByteArray} {b:Nat} {w1:World} {o:Obj} (hg:((w.alloc (.cells #[.int .i64 0,.string ⟨#[]⟩,.int .i64 0] 47)).alloc o).grownBy w1 (some S)) (hsc:Scan w1 S s b) (hSw:S<w.heap.size) :
  NextAt w S w1.heap.size s b ⟨-1,⟨#[]⟩,b⟩ (w1.alloc (.cells #[.int .i64 (-1),.string ⟨#[]⟩,.int .i64 b] 47)):=by
 have hR:=(hg.block w.heap.size kCZ (fun e=>by injection e with e;omega)).trans ((kA4 _ _ _ kCY).trans (zA4 w _));have hlt:=zA5 hR;exact⟨kCi (kA9 (kCi (kAE w _ (some S)) _) hg) _,(kA4 _ _ _ (zA5 hsc)).trans hsc,(kA4 _ _ _ hlt).trans hR,zA4 _ _,hlt⟩
theorem run_three_x (S g:Nat) (s:ByteArray) (a n:Nat) (x:ByteArray) (w:World) (ha:a≤s.size) (hs:s.size≤9223372036854775807) (hS:Scan w S s a)
  (hg:w.heap[g]?=some (.cells #[.int .i64 2,.int .i64 3,.int .i64 4] 162 (0,0))) (hgS:g≠S) (hn:Hid (zAS s a=n)) (hx:Hid (s.extract a n=x)) :
  Calls Tryz.prog 122 #[.pointer (some ⟨S,0,none⟩),.slice (some ⟨g,0,none⟩) 3 3] w fun e w' =>
   e=.returned (.string x)∧w.grownBy w' (some S)∧Scan w' S s n:=by
 have:=run_three S g s a w ha hs hS hg hgS;rw[hn.out,hx.out] at this;exact this
theorem next_small (S:Nat) (s:ByteArray) (a b n:Nat) (x:ByteArray) (k:Int) (w:World) (ha:a≤s.size) (hs:s.size≤2147483648) (hS:Scan w S s a) (hb:zAl s a=b) (hbl:b<s.size) (hk:srt (s[b]'hbl).toNat=2)
  (Hn:Hid (zAS s b=n)) (Hx:Hid (s.extract b n=x)) (hc:(zDe x=true∧k=1)∨(zDe x=false∧zC7 x=true∧k=0)∨(zDe x=false∧zC7 x=false∧k=-1)) :
  Calls Tryz.prog 88 #[.pointer (some ⟨S,0,none⟩)] w fun e w'=>e=.returned (.tuple #[tokV ⟨k,x,b⟩,.bool true])∧w.grownBy w' (some S)∧Scan w' S s n:=by
 have hSw:=hS.cells.2.2.2;have hcall:=fun o=>zDJ S s a b w o ha hs hS hb
 have hsort:∀w,Calls Tryz.prog 107 #[.int .i32 (s[b]'hbl).toNat] w fun e w'=>e=.returned (.int .i64 2)∧Below w.heap.size w w':=fun w=>by
  have:=zCL (s[b]'hbl).toNat w;rwa [hk] at this
 have hw32:wrap32 ((s[b]'hbl).toNat:Int)=(s[b]'hbl).toNat:=by have:=(s[b]'hbl).toNat_lt;unfold wrap32;omega
 have hne:((b:Int)==(s.size:Int))=false:=by rw[kAj];omega
 have Hle:x.size≤s.size:=by rw[← Hx.out,kAy];omega
 clear hb hk;rcases hc with⟨hw,rfl⟩ | ⟨hw,hm,rfl⟩ | ⟨hw,hm,rfl⟩
 all_goals
  have hword:=word_is x _ hw
  try have hname:=name_is x _ kCW hm
  try clear hm
  clear hw;go_enter Tryz.func88,Tryz.ntmps88;go_wp2_with (go_at_call 122;refine (hcall _).mono ?_;rintro e w1 ⟨rfl,hg,hsc⟩;obtain⟨c0,c1,f1,lt⟩:=hsc.cells;have hN:=NextAt.start hg hsc hSw;have hd1:=kAq hN.hT;have hd2:=kB1 hN.hT)
  go_quiet (fail)
  generalize nq=n0 at *;go_wp2
  go_quiet (fail)
  generalize nq=n1 at *;have hN1:=hN.drew (n0+n1);go_wp2_with (go_at_call 107;refine (hsort _).mono ?_;rintro e w2 ⟨rfl,hb2⟩;have hN2:=hN1.below hb2);refine (run_three_x S _ s b n x _ kCW kCW (hN2.alloc _).scan (zA4 _ _) kDs Hn Hx).mono ?_;rintro e w3 ⟨rfl,hg3,hs3⟩;have hN3:=(hN2.alloc _).step hSw hg3 hs3;obtain⟨⟨t0,t1,t2⟩,⟨ft0,ft1,ft2⟩,⟨r0,r1,r2⟩,⟨fr0,fr1,fr2⟩,lr,lt3⟩:=hN3.cells;clear hsort hcall c0 c1 f1 hN hN1 hN2 hg hsc;go_wp2_with (first
    | (go_at_call 106;refine (hword _).mono ?_;rintro e w4 ⟨rfl,hb4⟩;have hN4:=((hN3.text hSw x).kind hSw 0).below hb4;obtain⟨⟨t0,t1,t2⟩,⟨ft0,ft1,ft2⟩,⟨r0,r1,r2⟩,⟨fr0,fr1,fr2⟩,lr,lt4⟩:=hN4.cells)
    | (go_at_call 71;refine (hname _).mono ?_;rintro e w5 ⟨rfl,hb5⟩;have hN5:=hN4.below hb5;obtain⟨⟨t0,t1,t2⟩,⟨ft0,ft1,ft2⟩,⟨r0,r1,r2⟩,⟨fr0,fr1,fr2⟩,lr,lt5⟩:=hN5.cells))
 ·obtain⟨h1,h2,h3⟩:=(hN4.kind hSw 1).fin hSw (.int .i64 1) (.string x) (.int .i64 b);exact kAg (results88 rfl rfl h1) rfl ⟨rfl,h2,h3⟩
 ·obtain⟨h1,h2,h3⟩:=hN5.fin hSw (.int .i64 0) (.string x) (.int .i64 b);exact kAg (results88 rfl rfl h1) rfl ⟨rfl,h2,h3⟩
 ·obtain⟨h1,h2,h3⟩:=(hN5.kind hSw (-1)).fin hSw (.int .i64 (-1)) (.string x) (.int .i64 b);exact kAg (results88 rfl rfl h1) rfl ⟨rfl,h2,h3⟩
end Go.Proofs.YtjaobihcdkjmbaaGreatDoor
end
