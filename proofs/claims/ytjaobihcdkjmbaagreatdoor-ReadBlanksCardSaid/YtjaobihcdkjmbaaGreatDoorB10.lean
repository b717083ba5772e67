/- The law ReadBlanks answers true for every argument; a part of its proof. -/
import Derived.Test.YtjaobihcdkjmbaaGreatDoorBa
import Derived.Test.YtjaobihcdkjmbaaGreatDoorBb
import Derived.Test.YtjaobihcdkjmbaaGreatDoorB0
import Derived.Test.YtjaobihcdkjmbaaGreatDoorB1
import Derived.Test.YtjaobihcdkjmbaaGreatDoorB2
import Derived.Test.YtjaobihcdkjmbaaGreatDoorB3
import Derived.Test.YtjaobihcdkjmbaaGreatDoorB7
set_option linter.unusedVariables false
set_option linter.unusedSimpArgs false
namespace Go.Proofs.YtjaobihcdkjmbaaGreatDoorW.PrintLast
end Go.Proofs.YtjaobihcdkjmbaaGreatDoorW.PrintLast
namespace Go.Proofs.YtjaobihcdkjmbaaGreatDoorW.PrintMore
end Go.Proofs.YtjaobihcdkjmbaaGreatDoorW.PrintMore
namespace Go.Proofs.YtjaobihcdkjmbaaGreatDoorW.PrintWords
end Go.Proofs.YtjaobihcdkjmbaaGreatDoorW.PrintWords
set_option maxRecDepth 100000
set_option maxHeartbeats 8000000
section
namespace Go.Proofs
open Go.RowKit Go.Maps Go.Sort Go.Shelf
def Tryz.copy110_ren:Go.Shelf.Ren:=⟨fun | 5=>110 | n=>n,fun | 23=>116 | 24=>116 | 26=>9 | 27=>4 | 0=>0 | 4=>4 | n=>n,fun | n=>n⟩
theorem Tryz.copy110:Go.Proofs.SlLaysX.n5 Tryz.prog Tryz.copy110_ren:={
  mixed:=kCU
  f5:=⟨Tryz.f110.name,kCW,Tryz.func110.trans (congrArg some kCU)⟩
  t0:=Tryz.underlying0
  a0:=Tryz.isAgg0
  z0:=Tryz.sizeOf0
  v0:=Tryz.zeroValue0
  t4:=Tryz.underlying4
  a4:=Tryz.isAgg4
  z4:=Tryz.sizeOf4
  v4:=Tryz.zeroValue4
  t23:=Tryz.underlying116
  a23:=Tryz.isAgg116
  z23:=Tryz.sizeOf116
  v23:=Tryz.zeroValue116
  t24:=Tryz.underlying116
  a24:=Tryz.isAgg116
  z24:=Tryz.sizeOf116
  v24:=Tryz.zeroValue116
  a26:=Tryz.isAgg9
  z26:=Tryz.sizeOf9
  a27:=Tryz.isAgg4
  z27:=Tryz.sizeOf4 }
def Tryz.keys112_ren:Go.Shelf.Ren:=⟨fun | 7=>112 | 10=>149 | n=>n,fun | 23=>116 | 26=>9 | 3=>4 | 28=>169 | 0=>0 | 27=>168 | 33=>114 | 4=>4 | n=>n,fun | n=>n⟩
theorem Tryz.keys112:Go.Proofs.SlLaysZ.n7 Tryz.prog Tryz.keys112_ren:={
  mixed:=kCU
  f7:=⟨Tryz.f112.name,kCW,Tryz.func112.trans (congrArg some kCU)⟩
  f10:=⟨Tryz.f149.name,kCW,Tryz.func149.trans (congrArg some kCU)⟩
  t0:=Tryz.underlying0
  a0:=Tryz.isAgg0
  z0:=Tryz.sizeOf0
  v0:=Tryz.zeroValue0
  t4:=Tryz.underlying4
  a4:=Tryz.isAgg4
  z4:=Tryz.sizeOf4
  v4:=Tryz.zeroValue4
  t23:=Tryz.underlying116
  a23:=Tryz.isAgg116
  z23:=Tryz.sizeOf116
  v23:=Tryz.zeroValue116
  t26:=Tryz.underlying9
  a26:=Tryz.isAgg9
  z26:=Tryz.sizeOf9
  v26:=Tryz.zeroValue9
  t27:=Tryz.underlying168
  a27:=Tryz.isAgg168
  z27:=Tryz.sizeOf168
  v27:=Tryz.zeroValue168
  t28:=Tryz.underlying169
  a28:=Tryz.isAgg169
  z28:=Tryz.sizeOf169
  v28:=Tryz.zeroValue169
  t33:=Tryz.underlying114
  a33:=Tryz.isAgg114
  z33:=Tryz.sizeOf114
  v33:=Tryz.zeroValue114 }
def Tryz.sorted111_ren:Go.Shelf.Ren:=⟨fun | 6=>111 | 8=>147 | 9=>148 | 11=>173 | 13=>175 | 12=>174 | 23=>210 | 24=>211 | 14=>201 | 15=>202 | 16=>203 | 17=>204 | 18=>205 | 19=>206 | 20=>207 | 21=>208 | 22=>209 | 25=>242 | 26=>243 | 27=>244 | 28=>245 | 29=>246 | 30=>247 | 31=>272 | n=>n,fun | 26=>9 | 28=>169 | 24=>34 | 0=>0 | 3=>3 | 37=>157 | 48=>270 | 50=>75 | 4=>4 | 40=>264 | 39=>263 | 45=>164 | 5=>5 | 9=>9 | 51=>291 | 55=>294 | 57=>316 | 58=>201 | 33=>114 | n=>n,fun | n=>n⟩
theorem Tryz.sorted111:Go.Proofs.SlLaysZ.n6 Tryz.prog Tryz.sorted111_ren:={
  mixed:=kCU
  f6:=⟨Tryz.f111.name,kCW,Tryz.func111.trans (congrArg some kCU)⟩
  f8:=⟨Tryz.f147.name,kCW,Tryz.func147.trans (congrArg some kCU)⟩
  f11:=⟨Tryz.f173.name,kCW,Tryz.func173.trans (congrArg some kCU)⟩
  t0:=Tryz.underlying0
  a0:=Tryz.isAgg0
  z0:=Tryz.sizeOf0
  v0:=Tryz.zeroValue0
  t24:=Tryz.underlying34
  a24:=Tryz.isAgg34
  z24:=Tryz.sizeOf34
  v24:=Tryz.zeroValue34
  t26:=Tryz.underlying9
  a26:=Tryz.isAgg9
  z26:=Tryz.sizeOf9
  v26:=Tryz.zeroValue9
  t28:=Tryz.underlying169
  a28:=Tryz.isAgg169
  z28:=Tryz.sizeOf169
  v28:=Tryz.zeroValue169
  i26:=by kernel_rfl }
def Tryz.sort148_ren:Go.Shelf.Ren:=⟨fun | 6=>148 | 8=>175 | 9=>174 | 19=>210 | 20=>211 | 21=>201 | 22=>202 | 23=>203 | 24=>204 | 25=>205 | 26=>206 | 27=>207 | 28=>208 | 29=>209 | 36=>242 | 31=>243 | 32=>244 | 37=>245 | 38=>246 | 39=>247 | 41=>272 | n=>n,fun | 27=>34 | 29=>9 | 3=>3 | 32=>157 | 26=>34 | 0=>0 | 44=>270 | 46=>75 | 4=>4 | 36=>264 | 35=>263 | 41=>164 | 5=>5 | 9=>9 | 53=>291 | 57=>294 | 63=>316 | 64=>201 | n=>n,fun | n=>n⟩
theorem Tryz.sort148:Go.Proofs.SlLaysM.n6 Tryz.prog Tryz.sort148_ren:={
  mixed:=kCU
  f6:=⟨Tryz.f148.name,kCW,Tryz.func148.trans (congrArg some kCU)⟩
  f8:=Tryz.func175.trans (congrArg some kCU)
  f9:=⟨Tryz.f174.name,kCW,Tryz.func174.trans (congrArg some kCU)⟩
  f19:=Tryz.func210.trans (congrArg some kCU)
  f20:=Tryz.func211.trans (congrArg some kCU)
  f21:=⟨Tryz.f201.name,kCW,Tryz.func201.trans (congrArg some kCU)⟩
  f22:=⟨Tryz.f202.name,kCW,Tryz.func202.trans (congrArg some kCU)⟩
  f23:=⟨Tryz.f203.name,kCW,Tryz.func203.trans (congrArg some kCU)⟩
  f24:=⟨Tryz.f204.name,kCW,Tryz.func204.trans (congrArg some kCU)⟩
  f25:=⟨Tryz.f205.name,kCW,Tryz.func205.trans (congrArg some kCU)⟩
  f26:=⟨Tryz.f206.name,kCW,Tryz.func206.trans (congrArg some kCU)⟩
  f27:=⟨Tryz.f207.name,kCW,Tryz.func207.trans (congrArg some kCU)⟩
  f28:=⟨Tryz.f208.name,kCW,Tryz.func208.trans (congrArg some kCU)⟩
  f29:=⟨Tryz.f209.name,kCW,Tryz.func209.trans (congrArg some kCU)⟩
  f31:=Tryz.func243.trans (congrArg some kCU)
  f32:=Tryz.func244.trans (congrArg some kCU)
  f36:=⟨Tryz.f242.name,kCW,Tryz.func242.trans (congrArg some kCU)⟩
  f37:=⟨Tryz.f245.name,kCW,Tryz.func245.trans (congrArg some kCU)⟩
  f38:=⟨Tryz.f246.name,kCW,Tryz.func246.trans (congrArg some kCU)⟩
  f39:=⟨Tryz.f247.name,kCW,Tryz.func247.trans (congrArg some kCU)⟩
  f41:=⟨Tryz.f272.name,kCW,Tryz.func272.trans (congrArg some kCU)⟩
  t0:=Tryz.underlying0
  a0:=Tryz.isAgg0
  z0:=Tryz.sizeOf0
  v0:=Tryz.zeroValue0
  t3:=Tryz.underlying3
  a3:=Tryz.isAgg3
  z3:=Tryz.sizeOf3
  v3:=Tryz.zeroValue3
  t4:=Tryz.underlying4
  a4:=Tryz.isAgg4
  z4:=Tryz.sizeOf4
  v4:=Tryz.zeroValue4
  t5:=Tryz.underlying5
  a5:=Tryz.isAgg5
  z5:=Tryz.sizeOf5
  v5:=Tryz.zeroValue5
  t9:=Tryz.underlying9
  a9:=Tryz.isAgg9
  z9:=Tryz.sizeOf9
  v9:=Tryz.zeroValue9
  t26:=Tryz.underlying34
  a26:=Tryz.isAgg34
  z26:=Tryz.sizeOf34
  v26:=Tryz.zeroValue34
  t27:=Tryz.underlying34
  a27:=Tryz.isAgg34
  z27:=Tryz.sizeOf34
  v27:=Tryz.zeroValue34
  t29:=Tryz.underlying9
  a29:=Tryz.isAgg9
  z29:=Tryz.sizeOf9
  v29:=Tryz.zeroValue9
  t32:=Tryz.underlying157
  a32:=Tryz.isAgg157
  z32:=Tryz.sizeOf157
  v32:=Tryz.zeroValue157
  t35:=Tryz.underlying263
  a35:=Tryz.isAgg263
  z35:=Tryz.sizeOf263
  v35:=Tryz.zeroValue263
  t36:=Tryz.underlying264
  a36:=Tryz.isAgg264
  z36:=Tryz.sizeOf264
  v36:=Tryz.zeroValue264
  t41:=Tryz.underlying164
  a41:=Tryz.isAgg164
  z41:=Tryz.sizeOf164
  v41:=Tryz.zeroValue164
  t44:=Tryz.underlying270
  a44:=Tryz.isAgg270
  z44:=Tryz.sizeOf270
  v44:=Tryz.zeroValue270
  t46:=Tryz.underlying75
  a46:=Tryz.isAgg75
  z46:=Tryz.sizeOf75
  v46:=Tryz.zeroValue75
  t53:=Tryz.underlying291
  a53:=Tryz.isAgg291
  z53:=Tryz.sizeOf291
  v53:=Tryz.zeroValue291
  t57:=Tryz.underlying294
  a57:=Tryz.isAgg294
  z57:=Tryz.sizeOf294
  v57:=Tryz.zeroValue294
  t63:=Tryz.underlying316
  a63:=Tryz.isAgg316
  z63:=Tryz.sizeOf316
  v63:=Tryz.zeroValue316
  t64:=Tryz.underlying201
  a64:=Tryz.isAgg201
  z64:=Tryz.sizeOf201
  v64:=Tryz.zeroValue201 }
theorem Tryz.sorts111 (m:Nat):AnyZ.SortsIn Tryz.prog Tryz.sorted111_ren Fence.wide m :=
  ⟨fun blk off cap ss W hH hblk hsz=>kBl.2 (AnyM.slices_Sort_string Tryz.sort148 blk off cap ss W hH hblk hsz),
   fun p cap W=>kBl.2 (AnyM.slices_Sort_string_none Tryz.sort148 p cap W)⟩
theorem Tryz.maps_Keys_112 (mb:Option Nat) (W:World):CallsIn Fence.wide 5 Tryz.prog 112 #[.map mb] W fun e w'=>e=.returned (.func (.func 149) #[] #[.pointer (some ⟨W.heap.size,0,none⟩)])∧w'=W.alloc (.cells #[.map mb] 116) :=
  AnyZ.keys_in Tryz.keys112 Fence.wide 5 trivial rfl mb W
theorem Tryz.slices_Sorted_keys_111_112 {H:Type} (b nn:Nat) (D0:DataW H) (R:Value→Option (DataW H×List MemPlace)) (w:World) (hown:w.ownsMap Tryz.prog 9 R b nn D0) (hmax:Maps.size D0≤maxLen) (hbytes:Maps.size D0*16≤140737488355328) :
    CallsIn Fence.wide 5 Tryz.prog 111 #[.func (.func 149) #[] #[.pointer (some ⟨w.heap.size,0,none⟩)]] (w.alloc (.cells #[.map (some b)] 116)) fun e w'=>∃(v:Value) (ss:List (List UInt8)),e=.returned v∧ss.Perm (strKeys D0) ∧
      w'.ownsRow (w.alloc (.cells #[.map (some b)] 116)).heap.size 9 1 v ss.length ((ss.mergeSort (fun x y=>decide (x≤y))).map encStr)∧(v=.slice none 0 0↔ss=[])∧Below (w.alloc (.cells #[.map (some b)] 116)).heap.size (w.alloc (.cells #[.map (some b)] 116)) w':=by
  have hbl:=hown.lt;have hseq:SeqGives Fence.wide 2 Tryz.prog 149 #[.pointer (some ⟨w.heap.size,0,none⟩)] encStr (fun ss=>ss.Perm (strKeys D0)) (Maps.size D0) (w.alloc (.cells #[.map (some b)] 116)) :=
    AnyZ.keys_gives (ρ:=Tryz.keys112_ren) { Tryz.keys112 with } Fence.wide _ trivial rfl kCT w.heap.size b nn D0 _ kCV kCV (by
      obtain⟨es,clock,hb,Ft,hs,hD⟩:=hown;exact⟨es,clock,(kA4 _ _ b hbl).trans hb,Ft,hs,hD⟩)
  exact AnyZ.sorted_in Tryz.sorted111 Fence.wide 5 trivial trivial trivial trivial rfl kCT (Tryz.sorts111 _) (enters_of Tryz.func148 kCU rfl) 149 #[.pointer (some ⟨w.heap.size,0,none⟩)] trivial (enters_of Tryz.func149 kCU rfl) _ _ hmax hbytes _ hseq
end Go.Proofs
end
section
namespace Go.Proofs.YtjaobihcdkjmbaaGreatDoor.PReadTokens
open Go.RowKit Go.Proofs.YtjaobihcdkjmbaaGreatDoorW.PrintWords Go.Proofs.YtjaobihcdkjmbaaGreatDoorW.PrintLast Go.Proofs.YtjaobihcdkjmbaaGreatDoorW.PrintMore
section
attribute [local go_sem] zDS zDQ zEO zEN zDb zDa zDR zDP   -- for this text's walks alone
set_option linter.unusedVariables false
set_option linter.unusedSimpArgs false
def metewandref01_OfInt.f:Nat→Int→Option (ByteArray)
 | 0,_=>none
 | k+1,a0=>if a0<0 then ((metewandref01_OfInt.f k (wrap64 (-a0))).bind fun t359=>(if 1+t359.size≤9223372036854775807 then (some ((⟨#[45]⟩:ByteArray)++t359)) else (none))) else (if a0<10 then (some (strOfNums (([(wrap64 (48+a0)) % 256]:List Int)))) else ((metewandref01_OfInt.f k (wrap64 (Int.tdiv a0 10))).bind fun t363=>((some (([(wrap64 (48+(Int.tmod a0 10))) % 256]:List Int):List Int)).bind fun y364=>(if t363.size+(strOfNums y364).size≤9223372036854775807 then (some (t363++(strOfNums y364))) else (none)))))
theorem metewandref01_OfInt.mono_l:∀k,(∀y0,LeO (metewandref01_OfInt.f k y0) (metewandref01_OfInt.f (k+1) y0))
 | 0=>fun _ r h=>by simp[metewandref01_OfInt.f] at h
 | k+1=>by
  have ih0:=metewandref01_OfInt.mono_l k
  ·intro y0;unfold metewandref01_OfInt.f
   repeat' first
   | (with_reducible exact ih0 _)
   | (with_reducible exact LeO.refl _)
   | (with_reducible exact LeO.none _)
   | (with_reducible refine LeO.ite ?_ ?_)
   | (with_reducible refine LeO.bind ?_ (fun _=>?_))
   | exact ih0 _
   | exact LeO.none _
   | refine LeO.ite ?_ ?_
   | refine LeO.bind ?_ (fun _=>?_)
theorem metewandref01_OfInt.mono:∀a0 k,LeO (metewandref01_OfInt.f k a0) (metewandref01_OfInt.f (k+1) a0):=by
 intro a0 k;have ih0:=metewandref01_OfInt.mono_l k;exact ih0 a0
def metewandref01_OfInt.T5:Bool×List (List Nat×List Nat):=(true,[([],[]),([0],[0]),([1],[1]),([],[]),([3],[3]),([4],[4]),([5],[5]),([6],[6]),([7],[7]),([2,8],[2,8]),([9,2,0,1,2,3,4,5,6,7,8,9],[9])])
def metewandref01_OfInt.B5:List Nat:=[0,1,3,0,8,24,56,120,248,511,1023]
theorem metewandref01_OfInt.tab5:rtab .any (opsOf Tryz.f84 5)=metewandref01_OfInt.T5:=kCU
theorem metewandref01_OfInt.bits5:waitsOk metewandref01_OfInt.T5.2 metewandref01_OfInt.B5=true:=kCU
theorem metewandref01_OfInt.calls (k:Nat):∀(a0:Int) (r:ByteArray) (w:World) (h:metewandref01_OfInt.f k a0=some r),
  Calls Tryz.prog 84 #[.int .i64 a0] w fun e w'=>e=.returned (.string r)∧Below w.heap.size w w':=by
 induction k using Nat.strongRecOn with
 | _ k ih =>
 intro a0 r w h
 cases k with
 | zero=>exact absurd h (by simp[metewandref01_OfInt.f])
 | succ k =>
 simp only[metewandref01_OfInt.f] at h;have HB:=Aside0.mk (kA3 w.heap.size w);have H:(if a0<0 then ((metewandref01_OfInt.f k (wrap64 (-a0))).bind fun t359=>(if 1+t359.size≤9223372036854775807 then (some ((⟨#[45]⟩:ByteArray)++t359)) else (none))) else (if a0<10 then (some (strOfNums (([(wrap64 (48+a0)) % 256]:List Int)))) else ((metewandref01_OfInt.f k (wrap64 (Int.tdiv a0 10))).bind fun t363=>((some (([(wrap64 (48+(Int.tmod a0 10))) % 256]:List Int):List Int)).bind fun y364=>(if t363.size+(strOfNums y364).size≤9223372036854775807 then (some (t363++(strOfNums y364))) else (none))))))=some r:=h;clear h;by_cases c2:a0<0
 ·rw[kAa c2] at H;have c2b0:decide (a0<0)=true:=kA7 c2;clear c2;replace H:=Option.bind_eq_some_iff.mp H;obtain⟨t359,A30,H⟩:=H;replace H:(if 1+t359.size≤9223372036854775807 then (some ((⟨#[45]⟩:ByteArray)++t359)) else (none))=some r:=H;have A3:=Aside0.mk A30;clear A30;by_cases c4:1+t359.size≤9223372036854775807
  ·rw[kAa c4] at H;have c4b0:=kB7 c4;have c4b1:decide (1+t359.size≤9223372036854775807)=true:=kA7 c4
   try have c4b2:(9223372036854775807<1+t359.size)=False:=eq_false (kCr.2 c4)
   obtain rfl:=kAg H;go_enter Tryz.func84,Tryz.ntmps84;go_wp2_with (first | ((with_reducible refine zAh (f:=84) rfl ?_);refine zAX (some 7) rfl rfl Tryz.func84 kCU rfl #[.int .i64 (wrap64 (-a0))] rfl kD2 ?_;(with_reducible refine (ih k kCT (wrap64 (-a0)) t359 _ A3.out).mono ?_);rintro e w5 ⟨rfl,hb⟩;refine⟨_,rfl,?_⟩;have n0_:=Aside0.mk (zB0 kD5 hb);clear HB;have HB:=n0_;clear n0_;(try clear hb);(try clear hb2);(try clear hk);(try clear hi)));go_ret;exact⟨by first | rfl | (simp[zAB,zAA]<;>rfl) | (simp[*,zAB,zAA]<;>rfl),kD5⟩
  ·rw[kA9 c4] at H;exact absurd H kCV
 ·rw[kA9 c2] at H;have c2b0:decide (a0<0)=false:=kA8 c2;clear c2;by_cases c6:a0<10
  ·rw[kAa c6] at H;have c6b0:decide (a0<10)=true:=kA7 c6;clear c6;obtain⟨y360,hy360⟩:∃y_:List Int,y_=(([(wrap64 (48+a0)) % 256]:List Int)):=⟨_,rfl⟩;replace H:(some (strOfNums y360))=some r:=by first | (rw[hy360];with_reducible exact H) | (have H2_:=(Option.bind_some _ _).symm.trans H;rw[hy360];with_reducible exact H2_) | (have H2_:=(Option.bind_some _ _).symm.trans H;with_reducible exact H2_) | with_reducible exact H | (rw[hy360];exact H) | exact H
   have Ny360:=Aside0.mk hy360;clear hy360;obtain rfl:=kAg H;go_enter Tryz.func84,Tryz.ntmps84;go_wp2_with (first | ((with_reducible refine zFo (N:=14) rfl ?_);refine Kd.R_lit (Kd.int .u8) _ 5 ?hg (N:=14) ?hd (xs:=([(wrap64 (48+a0)) % 256]:List Int)) (inner:=[.int .u8 ((wrap64 (48+a0)) % 256)]) (ok:=fun _=>True) (okp:=fun _=>True) ?hr ?hp (fun _ hk=>hk) trivial (kA3 _ _) (kA2 _) kCV ?_;(case hd=>rfl);(case hg=>rfl);(case hr=>first | (go_simp;done) | (go_simp;rfl));(case hp=>exact (Reps.one (show Kd.M (Kd.int .u8) _ _ _ ((wrap64 (48+a0)) % 256) [.int .u8 ((wrap64 (48+a0)) % 256)] from rfl) (Reps.none _ _)));intro v361 w7 ho8 hb hg_ hnew_;clear hg_ hnew_;(first | rw[← Ny360.out] at ho8 | (simp only[Int.reduceToNat] at ho8;rw[← Ny360.out] at ho8));have n0_:=Aside0.mk (Kd.R_lower ho8 (zCg kD5));have n1_:=Aside0.mk (zB0 kD5 hb);clear HB;have HO362:=n0_;have HB:=n1_;clear n0_ n1_;clear hb ho8;have hcv9:=zD7 (P:=Tryz.prog) Tryz.underlying84 Tryz.underlying5 Tryz.underlying9 (Kd.own_of_R HO362.out)));go_ret;exact⟨by first | rfl | (simp[zAB,zAA]<;>rfl) | (simp[*,zAB,zAA]<;>rfl),kD5⟩
  ·rw[kA9 c6] at H;have c6b0:decide (a0<10)=false:=kA8 c6;clear c6;replace H:=Option.bind_eq_some_iff.mp H;obtain⟨t363,A100,H⟩:=H;replace H:((some (([(wrap64 (48+(Int.tmod a0 10))) % 256]:List Int):List Int)).bind fun y364=>(if t363.size+(strOfNums y364).size≤9223372036854775807 then (some (t363++(strOfNums y364))) else (none)))=some r:=H;have A10:=Aside0.mk A100;clear A100;obtain⟨y364,hy364⟩:∃y_:List Int,y_=(([(wrap64 (48+(Int.tmod a0 10))) % 256]:List Int)):=⟨_,rfl⟩;replace H:(if t363.size+(strOfNums y364).size≤9223372036854775807 then (some (t363++(strOfNums y364))) else (none))=some r:=by first | (rw[hy364];with_reducible exact H) | (have H2_:=(Option.bind_some _ _).symm.trans H;rw[hy364];with_reducible exact H2_) | (have H2_:=(Option.bind_some _ _).symm.trans H;with_reducible exact H2_) | with_reducible exact H | (rw[hy364];exact H) | exact H
   have Ny364:=Aside0.mk hy364;clear hy364;by_cases c11:t363.size+(strOfNums y364).size≤9223372036854775807
   ·rw[kAa c11] at H;have c11b0:=kB7 c11;have c11b1:decide (t363.size+(strOfNums y364).size≤9223372036854775807)=true:=kA7 c11
    try have c11b2:(9223372036854775807<t363.size+(strOfNums y364).size)=False:=eq_false (kCr.2 c11)
    obtain rfl:=kAg H;go_enter Tryz.func84,Tryz.ntmps84
    try go_wp2
    have n0_:=Aside0.mk (zAb HB.out);clear HB;have HB:=n0_;clear n0_;refine zDu (n:=11) (S:=fun w'=>True) (ds:=[]) #[false,false,false,false,false,false,false,false,false,false,false] kCU rfl rfl trivial (fun hHeld=>?_);refine with_tabW metewandref01_OfInt.tab5 metewandref01_OfInt.bits5 (fun HT_ HW_=>?_);generalize w.drew=w12 at HB hHeld ⊢;refine zAp (i:=0) (N:=some 16) (v:=?_) (a':=?_) #[true,false,false,false,false,false,false,false,false,false,false] rfl rfl (zBM HT_.out kCU) (fun _ _ _ h=>h) (Or.inl ⟨kCY,?_⟩) ?_ ?_;rotate_left
    ·intro w';go_simp
     with_reducible rfl
    rotate_left
    ·simp only[Act.put,kA0,List.set_cons_zero,List.set_cons_succ,zAc,zAd];rfl
    refine zAp (i:=1) (N:=some 17) (v:=?_) (a':=?_) #[true,true,false,false,false,false,false,false,false,false,false] rfl rfl (zBM HT_.out kCU) (fun _ _ _ h=>h) (Or.inl ⟨kCY,?_⟩) ?_ ?_;rotate_left
    ·intro w';go_simp
     with_reducible rfl
    rotate_left
    ·simp only[Act.put,kA0,List.set_cons_zero,List.set_cons_succ,zAc,zAd];rfl
    refine zAp (i:=3) (N:=some 19) (v:=?_) (a':=?_) #[true,true,false,true,false,false,false,false,false,false,false] rfl rfl (zBM HT_.out kCU) (fun _ _ _ h=>h) (Or.inl ⟨kCY,?_⟩) ?_ ?_;rotate_left
    ·intro w';go_simp
     with_reducible rfl
    rotate_left
    ·simp only[Act.put,kA0,List.set_cons_zero,List.set_cons_succ,zAc,zAd];rfl
    refine zAp (i:=4) (N:=some 20) (v:=?_) (a':=?_) #[true,true,false,true,true,false,false,false,false,false,false] rfl rfl (zBM HT_.out kCU) (fun _ _ _ h=>h) (Or.inl ⟨kCY,?_⟩) ?_ ?_;rotate_left
    ·intro w';go_simp
     with_reducible rfl
    rotate_left
    ·simp only[Act.put,kA0,List.set_cons_zero,List.set_cons_succ,zAc,zAd];rfl
    refine zAp (i:=5) (N:=some 21) (v:=?_) (a':=?_) #[true,true,false,true,true,true,false,false,false,false,false] rfl rfl (zBM HT_.out kCU) (fun _ _ _ h=>h) (Or.inl ⟨kCY,?_⟩) ?_ ?_;rotate_left
    ·intro w';go_simp
     with_reducible rfl
    rotate_left
    ·simp only[Act.put,kA0,List.set_cons_zero,List.set_cons_succ,zAc,zAd];rfl
    refine zAp (i:=6) (N:=some 22) (v:=?_) (a':=?_) #[true,true,false,true,true,true,true,false,false,false,false] rfl rfl (zBM HT_.out kCU) (fun _ _ _ h=>h) (Or.inl ⟨kCY,?_⟩) ?_ ?_;rotate_left
    ·intro w';go_simp
     with_reducible rfl
    rotate_left
    ·simp only[Act.put,kA0,List.set_cons_zero,List.set_cons_succ,zAc,zAd];rfl
    refine join_ (σ:=Value) 2 #[true,true,true,true,true,true,true,true,true,false,false] (fun s_=>[(18,.string t363),(23,s_),(24,.string (strOfNums y364))]) (fun s_ w'=>(Kd.R (Kd.int .u8) 5 w' w.heap.size (fun _=>True) s_ y364)∧(Below w.heap.size w w')) ?_ ?_;rotate_left
    ·intro hCont;refine two_ (i:=2) (j:=7) (Ni:=some 18) (Nj:=some 23) #[true,true,true,true,true,true,true,false,false,false,false] #[true,true,false,true,true,true,true,true,false,false,false] rfl rfl rfl rfl (two_of HT_.out kCU) kCW kCW (fun K hK=>?_) (fun K hK=>?_)
     ·skip
      refine goes_ Tryz.func84 kCU rfl #[.int .i64 (wrap64 (Int.tdiv a0 10))] kCY rfl rfl kD2 ?_
      with_reducible refine (ih k kCT (wrap64 (Int.tdiv a0 10)) t363 _ A10.out).mono ?_
      rintro e w13⟨rfl,hb⟩;refine⟨_,rfl,?_⟩;have n0_:=Aside0.mk (zB0 kD5 hb);clear HB;have HB:=n0_;clear n0_
      (try clear hb)
      (try clear hb2)
      (try clear hk)
      (try clear hi)
      refine hK.out _ _ trivial (fun hHeld=>?_);clear hK K;refine zC9 (a':=?_) ?_ ?_;rotate_left
      ·show Act.put _ (some 18) _=_;simp only[Act.put,kA0,List.set_cons_zero,List.set_cons_succ,zAc,zAd];rfl
      refine one_ (i:=7) (N:=some 23) #[true,true,true,true,true,true,true,true,false,false,false] rfl rfl (one_of HT_.out kCU) kCW (fun K hK=>?_);refine Kd.R_lit_step (Kd.int .u8) _ 5 ?hg (N:=23) ?hd (xs:=([(wrap64 (48+(Int.tmod a0 10))) % 256]:List Int)) (inner:=[.int .u8 ((wrap64 (48+(Int.tmod a0 10))) % 256)]) (ok:=fun _=>True) (okp:=fun _=>True) ?hr ?hp (fun _ hk=>hk) trivial (kA3 _ _) (kA2 _) kCV ?_;(case hd=>rfl);(case hg=>rfl);(case hr=>first | (go_simp;done) | (go_simp;rfl));(case hp=>exact (Reps.one (show Kd.M (Kd.int .u8) _ _ _ ((wrap64 (48+(Int.tmod a0 10))) % 256) [.int .u8 ((wrap64 (48+(Int.tmod a0 10))) % 256)] from rfl) (Reps.none _ _)));intro v365 w14 ho15 hb hg_ hnew_;clear hg_ hnew_
      (first | rw[← Ny364.out] at ho15 | (simp only[Int.reduceToNat] at ho15;rw[← Ny364.out] at ho15))
      have n0_:=Aside0.mk (Kd.R_lower ho15 (zCg kD5));have n1_:=Aside0.mk (zB0 kD5 hb);clear HB;have HO366:=n0_;have HB:=n1_;clear n0_ n1_;clear hb ho15;refine hK.out _ _ trivial (fun hHeld=>?_);clear hK K;refine zC9 (a':=?_) ?_ ?_;rotate_left
      ·show Act.put _ (some 23) _=_;simp only[Act.put,kA0,List.set_cons_zero,List.set_cons_succ,zAc,zAd];rfl
      refine one_ (i:=8) (N:=some 24) #[true,true,true,true,true,true,true,true,true,false,false] rfl rfl (one_of HT_.out kCU) kCW (fun K hK=>?_);have hcv16:=zD7 (P:=Tryz.prog) Tryz.underlying84 Tryz.underlying5 Tryz.underlying9 (Kd.own_of_R HO366.out);refine zFv (w1:=?_) (v:=?_) kCY rfl ?_ ?_;rotate_left 2
      ·go_simp;constructor
       ·rfl
       ·rfl
      clear hcv16;refine hK.out _ _ trivial (fun hHeld=>?_);clear hK K;refine zC9 (a':=?_) ?_ ?_;rotate_left
      ·show Act.put _ (some 24) _=_;simp only[Act.put,kA0,List.set_cons_zero,List.set_cons_succ,zAc,zAd];rfl
      exact zC9 kDD (hCont (v365) _ ⟨kDk,kD5⟩)
     ·skip
      refine Kd.R_lit_step (Kd.int .u8) _ 5 ?hg (N:=23) ?hd (xs:=([(wrap64 (48+(Int.tmod a0 10))) % 256]:List Int)) (inner:=[.int .u8 ((wrap64 (48+(Int.tmod a0 10))) % 256)]) (ok:=fun _=>True) (okp:=fun _=>True) ?hr ?hp (fun _ hk=>hk) trivial (kA3 _ _) (kA2 _) kCV ?_;(case hd=>rfl);(case hg=>rfl);(case hr=>first | (go_simp;done) | (go_simp;rfl));(case hp=>exact (Reps.one (show Kd.M (Kd.int .u8) _ _ _ ((wrap64 (48+(Int.tmod a0 10))) % 256) [.int .u8 ((wrap64 (48+(Int.tmod a0 10))) % 256)] from rfl) (Reps.none _ _)));intro v365 w13 ho14 hb hg_ hnew_;clear hg_ hnew_
      (first | rw[← Ny364.out] at ho14 | (simp only[Int.reduceToNat] at ho14;rw[← Ny364.out] at ho14))
      have n0_:=Aside0.mk (Kd.R_lower ho14 (zCg kD5));have n1_:=Aside0.mk (zB0 kD5 hb);clear HB;have HO366:=n0_;have HB:=n1_;clear n0_ n1_;clear hb ho14;refine hK.out _ _ trivial (fun hHeld=>?_);clear hK K;refine zC9 (a':=?_) ?_ ?_;rotate_left
      ·show Act.put _ (some 23) _=_;simp only[Act.put,kA0,List.set_cons_zero,List.set_cons_succ,zAc,zAd];rfl
      refine two_ (i:=2) (j:=8) (Ni:=some 18) (Nj:=some 24) #[true,true,true,true,true,true,true,true,false,false,false] #[true,true,false,true,true,true,true,true,true,false,false] rfl rfl rfl rfl (two_of HT_.out kCU) kCW kCW (fun K hK=>?_) (fun K hK=>?_)
      ·skip
       refine goes_ Tryz.func84 kCU rfl #[.int .i64 (wrap64 (Int.tdiv a0 10))] kCY rfl rfl kD2 ?_
       with_reducible refine (ih k kCT (wrap64 (Int.tdiv a0 10)) t363 _ A10.out).mono ?_
       rintro e w15⟨rfl,hb⟩;refine⟨_,rfl,?_⟩;have n0_:=Aside0.mk (Kd.R_below kDk hb);have n1_:=Aside0.mk (zB0 kD5 hb);clear HO366;clear HB;have HO366:=n0_;have HB:=n1_;clear n0_ n1_
       (try clear hb)
       (try clear hb2)
       (try clear hk)
       (try clear hi)
       refine hK.out _ _ trivial (fun hHeld=>?_);clear hK K;refine zC9 (a':=?_) ?_ ?_;rotate_left
       ·show Act.put _ (some 18) _=_;simp only[Act.put,kA0,List.set_cons_zero,List.set_cons_succ,zAc,zAd];rfl
       refine one_ (i:=8) (N:=some 24) #[true,true,true,true,true,true,true,true,true,false,false] rfl rfl (one_of HT_.out kCU) kCW (fun K hK=>?_);have hcv16:=zD7 (P:=Tryz.prog) Tryz.underlying84 Tryz.underlying5 Tryz.underlying9 (Kd.own_of_R HO366.out);refine zFv (w1:=?_) (v:=?_) kCY rfl ?_ ?_;rotate_left 2
       ·go_simp;constructor
        ·rfl
        ·rfl
       clear hcv16;refine hK.out _ _ trivial (fun hHeld=>?_);clear hK K;refine zC9 (a':=?_) ?_ ?_;rotate_left
       ·show Act.put _ (some 24) _=_;simp only[Act.put,kA0,List.set_cons_zero,List.set_cons_succ,zAc,zAd];rfl
       exact zC9 kDD (hCont (v365) _ ⟨kDk,kD5⟩)
      ·skip
       have hcv15:=zD7 (P:=Tryz.prog) Tryz.underlying84 Tryz.underlying5 Tryz.underlying9 (Kd.own_of_R HO366.out);refine zFv (w1:=?_) (v:=?_) kCY rfl ?_ ?_;rotate_left 2
       ·go_simp;constructor
        ·rfl
        ·rfl
       clear hcv15;refine hK.out _ _ trivial (fun hHeld=>?_);clear hK K;refine zC9 (a':=?_) ?_ ?_;rotate_left
       ·show Act.put _ (some 24) _=_;simp only[Act.put,kA0,List.set_cons_zero,List.set_cons_succ,zAc,zAd];rfl
       refine one_ (i:=2) (N:=some 18) #[true,true,true,true,true,true,true,true,true,false,false] rfl rfl (one_of HT_.out kCU) kCW (fun K hK=>?_);refine goes_ Tryz.func84 kCU rfl #[.int .i64 (wrap64 (Int.tdiv a0 10))] kCY rfl rfl kD2 ?_
       with_reducible refine (ih k kCT (wrap64 (Int.tdiv a0 10)) t363 _ A10.out).mono ?_
       rintro e w16⟨rfl,hb⟩;refine⟨_,rfl,?_⟩;have n0_:=Aside0.mk (Kd.R_below kDk hb);have n1_:=Aside0.mk (zB0 kD5 hb);clear HO366;clear HB;have HO366:=n0_;have HB:=n1_;clear n0_ n1_
       (try clear hb)
       (try clear hb2)
       (try clear hk)
       (try clear hi)
       refine hK.out _ _ trivial (fun hHeld=>?_);clear hK K;refine zC9 (a':=?_) ?_ ?_;rotate_left
       ·show Act.put _ (some 18) _=_;simp only[Act.put,kA0,List.set_cons_zero,List.set_cons_succ,zAc,zAd];rfl
       exact zC9 kDD (hCont (v365) _ ⟨kDk,kD5⟩)
    rintro v365 w17⟨h0_,h1_⟩;have n0_:Aside0 (Kd.R (Kd.int .u8) 5 w17 w.heap.size (fun _=>True) v365 y364):=⟨h0_⟩;have n1_:Aside0 (Below w.heap.size w w17):=⟨h1_⟩;clear HB;clear h0_ h1_;have HO366:=n0_;have HB:=n1_;clear n0_ n1_;have hHeld:=trivial;refine zC9 (a':=?_) ?_ ?_;rotate_left
    ·simp only[zFH,Act.put,kA0,List.set_cons_zero,List.set_cons_succ];rfl
    refine zAp (i:=9) (N:=some 25) (v:=?_) (a':=?_) #[true,true,true,true,true,true,true,true,true,true,false] rfl rfl (zBM HT_.out kCU) (fun _ _ _ h=>h) (Or.inl ⟨kCY,?_⟩) ?_ ?_;rotate_left
    ·intro w';go_simp
     with_reducible rfl
    rotate_left
    ·simp only[Act.put,kA0,List.set_cons_zero,List.set_cons_succ,zAc,zAd];rfl
    refine zAp (i:=10) (N:=some 2) (v:=?_) (a':=?_) #[true,true,true,true,true,true,true,true,true,true,true] rfl rfl (zBM HT_.out kCU) (fun _ _ _ h=>h) (Or.inl ⟨kCY,?_⟩) ?_ ?_;rotate_left
    ·intro w';go_simp
     with_reducible rfl
    rotate_left
    ·simp only[Act.put,kA0,List.set_cons_zero,List.set_cons_succ,zAc,zAd];rfl
    refine done_ (done_of HT_.out kCU) ?_
    try go_wp2
    go_ret;exact⟨by first | rfl | (simp[zAB,zAA]<;>rfl) | (simp[*,zAB,zAA]<;>rfl),kD5⟩
   ·rw[kA9 c11] at H;exact absurd H kCV
def metewandkit_Digit.f (a0:Int):Option (ByteArray):=some (strOfNums (([(wrap64 (48+(Int.tmod a0 10))) % 256]:List Int)))
theorem metewandkit_Digit.calls (a0:Int) (r:ByteArray) (w:World) (h:metewandkit_Digit.f a0=some r) :
  Calls Tryz.prog 121 #[.int .i64 a0] w fun e w'=>e=.returned (.string r)∧Below w.heap.size w w':=by
 have HB:=Aside0.mk (kA3 w.heap.size w);have H:(some (strOfNums (([(wrap64 (48+(Int.tmod a0 10))) % 256]:List Int))))=some r:=h;clear h;obtain⟨y376,hy376⟩:∃y_:List Int,y_=(([(wrap64 (48+(Int.tmod a0 10))) % 256]:List Int)):=⟨_,rfl⟩;replace H:(some (strOfNums y376))=some r:=by first | (rw[hy376];with_reducible exact H) | (have H2_:=(Option.bind_some _ _).symm.trans H;rw[hy376];with_reducible exact H2_) | (have H2_:=(Option.bind_some _ _).symm.trans H;with_reducible exact H2_) | with_reducible exact H | (rw[hy376];exact H) | exact H
 have Ny376:=Aside0.mk hy376;clear hy376;obtain rfl:=kAg H;go_enter Tryz.func121,Tryz.ntmps121;go_wp2_with (first | ((with_reducible refine zFo (N:=7) rfl ?_);refine Kd.R_lit (Kd.int .u8) _ 5 ?hg (N:=7) ?hd (xs:=([(wrap64 (48+(Int.tmod a0 10))) % 256]:List Int)) (inner:=[.int .u8 ((wrap64 (48+(Int.tmod a0 10))) % 256)]) (ok:=fun _=>True) (okp:=fun _=>True) ?hr ?hp (fun _ hk=>hk) trivial (kA3 _ _) (kA2 _) kCV ?_;(case hd=>rfl);(case hg=>rfl);(case hr=>first | (go_simp;done) | (go_simp;rfl));(case hp=>exact (Reps.one (show Kd.M (Kd.int .u8) _ _ _ ((wrap64 (48+(Int.tmod a0 10))) % 256) [.int .u8 ((wrap64 (48+(Int.tmod a0 10))) % 256)] from rfl) (Reps.none _ _)));intro v377 w2 ho3 hb hg_ hnew_;clear hg_ hnew_;(first | rw[← Ny376.out] at ho3 | (simp only[Int.reduceToNat] at ho3;rw[← Ny376.out] at ho3));have n0_:=Aside0.mk (Kd.R_lower ho3 (zCg kD5));have n1_:=Aside0.mk (zB0 kD5 hb);clear HB;have HO378:=n0_;have HB:=n1_;clear n0_ n1_;clear hb ho3;have hcv4:=zD7 (P:=Tryz.prog) Tryz.underlying84 Tryz.underlying5 Tryz.underlying9 (Kd.own_of_R HO378.out)));go_ret;exact⟨by first | rfl | (simp[zAB,zAA]<;>rfl) | (simp[*,zAB,zAA]<;>rfl),kD5⟩
def metewandkit_Decimal.f:Nat→Int→Option (ByteArray)
 | 0,_=>none
 | k+1,a0=>if a0<0 then ((metewandkit_Decimal.f k (wrap64 (-a0))).bind fun t379=>(if 1+t379.size≤9223372036854775807 then (some ((⟨#[45]⟩:ByteArray)++t379)) else (none))) else (if a0<10 then ((metewandkit_Digit.f a0).bind fun t380=>(some t380)) else ((metewandkit_Decimal.f k (wrap64 (Int.tdiv a0 10))).bind fun t381=>((metewandkit_Digit.f (Int.tmod a0 10)).bind fun t382=>(if t381.size+t382.size≤9223372036854775807 then (some (t381++t382)) else (none)))))
theorem metewandkit_Decimal.mono_l:∀k,(∀y0,LeO (metewandkit_Decimal.f k y0) (metewandkit_Decimal.f (k+1) y0))
 | 0=>fun _ r h=>by simp[metewandkit_Decimal.f] at h
 | k+1=>by
  have ih0:=metewandkit_Decimal.mono_l k
  ·intro y0;unfold metewandkit_Decimal.f
   repeat' first
   | (with_reducible exact ih0 _)
   | (with_reducible exact LeO.refl _)
   | (with_reducible exact LeO.none _)
   | (with_reducible refine LeO.ite ?_ ?_)
   | (with_reducible refine LeO.bind ?_ (fun _=>?_))
   | exact ih0 _
   | exact LeO.none _
   | refine LeO.ite ?_ ?_
   | refine LeO.bind ?_ (fun _=>?_)
theorem metewandkit_Decimal.mono:∀a0 k,LeO (metewandkit_Decimal.f k a0) (metewandkit_Decimal.f (k+1) a0):=by
 intro a0 k;have ih0:=metewandkit_Decimal.mono_l k;exact ih0 a0
theorem metewandkit_Decimal.calls (k:Nat):∀(a0:Int) (r:ByteArray) (w:World) (h:metewandkit_Decimal.f k a0=some r),
  Calls Tryz.prog 86 #[.int .i64 a0] w fun e w'=>e=.returned (.string r)∧Below w.heap.size w w':=by
 induction k using Nat.strongRecOn with
 | _ k ih =>
 intro a0 r w h
 cases k with
 | zero=>exact absurd h (by simp[metewandkit_Decimal.f])
 | succ k =>
 simp only[metewandkit_Decimal.f] at h;have HB:=Aside0.mk (kA3 w.heap.size w);have H:(if a0<0 then ((metewandkit_Decimal.f k (wrap64 (-a0))).bind fun t379=>(if 1+t379.size≤9223372036854775807 then (some ((⟨#[45]⟩:ByteArray)++t379)) else (none))) else (if a0<10 then ((metewandkit_Digit.f a0).bind fun t380=>(some t380)) else ((metewandkit_Decimal.f k (wrap64 (Int.tdiv a0 10))).bind fun t381=>((metewandkit_Digit.f (Int.tmod a0 10)).bind fun t382=>(if t381.size+t382.size≤9223372036854775807 then (some (t381++t382)) else (none))))))=some r:=h;clear h;by_cases c2:a0<0
 ·rw[kAa c2] at H;have c2b0:decide (a0<0)=true:=kA7 c2;clear c2;replace H:=Option.bind_eq_some_iff.mp H;obtain⟨t379,A30,H⟩:=H;replace H:(if 1+t379.size≤9223372036854775807 then (some ((⟨#[45]⟩:ByteArray)++t379)) else (none))=some r:=H;have A3:=Aside0.mk A30;clear A30;by_cases c4:1+t379.size≤9223372036854775807
  ·rw[kAa c4] at H;have c4b0:=kB7 c4;have c4b1:decide (1+t379.size≤9223372036854775807)=true:=kA7 c4
   try have c4b2:(9223372036854775807<1+t379.size)=False:=eq_false (kCr.2 c4)
   obtain rfl:=kAg H;go_enter Tryz.func86,Tryz.ntmps86;go_wp2_with (first | ((with_reducible refine zAh (f:=86) rfl ?_);refine zAX (some 7) rfl rfl Tryz.func86 kCU rfl #[.int .i64 (wrap64 (-a0))] rfl kD2 ?_;(with_reducible refine (ih k kCT (wrap64 (-a0)) t379 _ A3.out).mono ?_);rintro e w5 ⟨rfl,hb⟩;refine⟨_,rfl,?_⟩;have n0_:=Aside0.mk (zB0 kD5 hb);clear HB;have HB:=n0_;clear n0_;(try clear hb);(try clear hb2);(try clear hk);(try clear hi)));go_ret;exact⟨by first | rfl | (simp[zAB,zAA]<;>rfl) | (simp[*,zAB,zAA]<;>rfl),kD5⟩
  ·rw[kA9 c4] at H;exact absurd H kCV
 ·rw[kA9 c2] at H;have c2b0:decide (a0<0)=false:=kA8 c2;clear c2;by_cases c6:a0<10
  ·rw[kAa c6] at H;have c6b0:decide (a0<10)=true:=kA7 c6;clear c6;replace H:=Option.bind_eq_some_iff.mp H;obtain⟨t380,A70,H⟩:=H;replace H:(some t380)=some r:=H;have A7:=Aside0.mk A70;clear A70;obtain rfl:=kAg H;go_enter Tryz.func86,Tryz.ntmps86;go_wp2_with (first | ((with_reducible refine zAh (f:=121) rfl ?_);refine zAX (some 12) rfl rfl Tryz.func121 kCU rfl #[.int .i64 a0] rfl kD2 ?_;(with_reducible refine (metewandkit_Digit.calls a0 t380 _ A7.out).mono ?_);rintro e w8 ⟨rfl,hb⟩;refine⟨_,rfl,?_⟩;have n0_:=Aside0.mk (zB0 kD5 hb);clear HB;have HB:=n0_;clear n0_;(try clear hb);(try clear hb2);(try clear hk);(try clear hi)));go_ret;exact⟨by first | rfl | (simp[zAB,zAA]<;>rfl) | (simp[*,zAB,zAA]<;>rfl),kD5⟩
  ·rw[kA9 c6] at H;have c6b0:decide (a0<10)=false:=kA8 c6;clear c6;replace H:=Option.bind_eq_some_iff.mp H;obtain⟨t381,A90,H⟩:=H;replace H:((metewandkit_Digit.f (Int.tmod a0 10)).bind fun t382=>(if t381.size+t382.size≤9223372036854775807 then (some (t381++t382)) else (none)))=some r:=H;have A9:=Aside0.mk A90;clear A90;replace H:=Option.bind_eq_some_iff.mp H;obtain⟨t382,A100,H⟩:=H;replace H:(if t381.size+t382.size≤9223372036854775807 then (some (t381++t382)) else (none))=some r:=H;have A10:=Aside0.mk A100;clear A100;by_cases c11:t381.size+t382.size≤9223372036854775807
   ·rw[kAa c11] at H;have c11b0:=kB7 c11;have c11b1:decide (t381.size+t382.size≤9223372036854775807)=true:=kA7 c11
    try have c11b2:(9223372036854775807<t381.size+t382.size)=False:=eq_false (kCr.2 c11)
    obtain rfl:=kAg H;go_enter Tryz.func86,Tryz.ntmps86;go_wp2_with (first | ((with_reducible refine zAh (f:=86) rfl ?_);refine zAX (some 15) rfl rfl Tryz.func86 kCU rfl #[.int .i64 (wrap64 (Int.tdiv a0 10))] rfl kD2 ?_;(with_reducible refine (ih k kCT (wrap64 (Int.tdiv a0 10)) t381 _ A9.out).mono ?_);rintro e w12 ⟨rfl,hb⟩;refine⟨_,rfl,?_⟩;have n0_:=Aside0.mk (zB0 kD5 hb);clear HB;have HB:=n0_;clear n0_;(try clear hb);(try clear hb2);(try clear hk);(try clear hi)) | ((with_reducible refine zAh (f:=121) rfl ?_);refine zAX (some 18) rfl rfl Tryz.func121 kCU rfl #[.int .i64 (Int.tmod a0 10)] rfl kD2 ?_;(with_reducible refine (metewandkit_Digit.calls (Int.tmod a0 10) t382 _ A10.out).mono ?_);rintro e w13 ⟨rfl,hb⟩;refine⟨_,rfl,?_⟩;have n0_:=Aside0.mk (zB0 kD5 hb);clear HB;have HB:=n0_;clear n0_;(try clear hb);(try clear hb2);(try clear hk);(try clear hi)));go_ret;exact⟨by first | rfl | (simp[zAB,zAA]<;>rfl) | (simp[*,zAB,zAA]<;>rfl),kD5⟩
   ·rw[kA9 c11] at H;exact absurd H kCV
end
end Go.Proofs.YtjaobihcdkjmbaaGreatDoor.PReadTokens
end
