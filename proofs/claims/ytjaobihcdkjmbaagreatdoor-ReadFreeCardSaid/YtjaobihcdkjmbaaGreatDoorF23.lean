/- The law ReadFree answers true for every argument; a part of its proof. -/
import Derived.StillTailTactics
import Derived.Test.YtjaobihcdkjmbaaGreatDoorF3
import Derived.Test.YtjaobihcdkjmbaaGreatDoorF6
import Derived.Test.YtjaobihcdkjmbaaGreatDoorF22
set_option linter.unusedVariables false
set_option linter.unusedSimpArgs false
section
namespace Go.Proofs.YtjaobihcdkjmbaaGreatDoor.PReadTokens
open Go.RowKit Go.Proofs.YtjaobihcdkjmbaaGreatDoorW.PrintWords Go.Proofs.YtjaobihcdkjmbaaGreatDoorW.PrintLast Go.Proofs.YtjaobihcdkjmbaaGreatDoorW.PrintMore
attribute [local go_sem] max2_int min2_int max_two min_two max_three min_three max_four min_four   -- for this text's walks alone
set_option linter.unusedVariables false
set_option linter.unusedSimpArgs false
mutual
def metewandref13_token.j1:Nat→ByteArray→Int→Int→Option (Int × ByteArray × Int × Int × Bool)
 | 0,_,_,_=>none
 | k+1,x0,x1,x7=>if 0≤x1 then (if x1≤x7 then (if x7≤(x0.size:Int) then ((metewandref13_Word.f (x0.extract (x1:Int).toNat (x7:Int).toNat)).bind fun t407=>(if t407=true then (some (1,x0.extract (x1:Int).toNat (x7:Int).toNat,x1,x7,true)) else ((metewandref13_Name.f k (x0.extract (x1:Int).toNat (x7:Int).toNat)).bind fun t408=>(some (0,x0.extract (x1:Int).toNat (x7:Int).toNat,x1,x7,t408))))) else (none)) else (none)) else (none)
def metewandref13_token.l0:Nat→ByteArray→Int→Int→Option (Int × ByteArray × Int × Int × Bool)
 | 0,_,_,_=>none
 | k+1,x0,x1,x7=>if x7 < (x0.size:Int) then (if 0≤x7 then ((metewandref13_small.f (bt x0 x7)).bind fun t404=>(if t404=true then (metewandref13_token.l0 k x0 x1 (wrap64 (x7+1))) else ((metewandref13_digit.f (bt x0 x7)).bind fun t405=>(if t405=true then (metewandref13_token.l0 k x0 x1 (wrap64 (x7+1))) else ((metewandref13_large.f (bt x0 x7)).bind fun t406=>(if t406=true then (metewandref13_token.l0 k x0 x1 (wrap64 (x7+1))) else (metewandref13_token.j1 k x0 x1 x7))))))) else (none)) else (metewandref13_token.j1 k x0 x1 x7)
def metewandref13_token.l1:Nat→ByteArray→Int→Int→Option (Int × ByteArray × Int × Int × Bool)
 | 0,_,_,_=>none
 | k+1,x0,x1,x7=>if x7 < (x0.size:Int) then (if 0≤x7 then ((metewandref13_digit.f (bt x0 x7)).bind fun t410=>(if t410=true then (metewandref13_token.l1 k x0 x1 (wrap64 (x7+1))) else (if 0≤x1 then (if x1≤x7 then (if x7≤(x0.size:Int) then (if ((x0.extract (x1:Int).toNat (x7:Int).toNat).size:Int)≤400 then (if 0 < ((x0.extract (x1:Int).toNat (x7:Int).toNat).size:Int) then (if (bt (x0.extract (x1:Int).toNat (x7:Int).toNat) 0)=48 then (some (2,x0.extract (x1:Int).toNat (x7:Int).toNat,x1,x7,(((x0.extract (x1:Int).toNat (x7:Int).toNat).size:Int) == 1))) else (some (2,x0.extract (x1:Int).toNat (x7:Int).toNat,x1,x7,true))) else (none)) else (some (2,x0.extract (x1:Int).toNat (x7:Int).toNat,x1,x7,false))) else (none)) else (none)) else (none)))) else (none)) else (if 0≤x1 then (if x1≤x7 then (if x7≤(x0.size:Int) then (if ((x0.extract (x1:Int).toNat (x7:Int).toNat).size:Int)≤400 then (if 0 < ((x0.extract (x1:Int).toNat (x7:Int).toNat).size:Int) then (if (bt (x0.extract (x1:Int).toNat (x7:Int).toNat) 0)=48 then (some (2,x0.extract (x1:Int).toNat (x7:Int).toNat,x1,x7,(((x0.extract (x1:Int).toNat (x7:Int).toNat).size:Int) == 1))) else (some (2,x0.extract (x1:Int).toNat (x7:Int).toNat,x1,x7,true))) else (none)) else (some (2,x0.extract (x1:Int).toNat (x7:Int).toNat,x1,x7,false))) else (none)) else (none)) else (none))
def metewandref13_token.l2:Nat→ByteArray→Int→Int→Option (Int × ByteArray × Int × Int × Bool)
 | 0,_,_,_=>none
 | k+1,x0,x1,x7=>if x7 < (x0.size:Int) then (if 0≤x7 then (if (bt x0 x7)=125 then (if x7=(x0.size:Int) then (some (0,(⟨#[]⟩:ByteArray),0,0,false)) else (if 0≤(wrap64 (x1+1)) then (if (wrap64 (x1+1))≤x7 then (if x7≤(x0.size:Int) then ((metewandref13_unit.f k (x0.extract ((wrap64 (x1+1)):Int).toNat (x7:Int).toNat)).bind fun t411=>(if t411=true then (some (3,x0.extract ((wrap64 (x1+1)):Int).toNat (x7:Int).toNat,x1,wrap64 (x7+1),true)) else (some (0,(⟨#[]⟩:ByteArray),0,0,false)))) else (none)) else (none)) else (none))) else (metewandref13_token.l2 k x0 x1 (wrap64 (x7+1)))) else (none)) else (if x7=(x0.size:Int) then (some (0,(⟨#[]⟩:ByteArray),0,0,false)) else (if 0≤(wrap64 (x1+1)) then (if (wrap64 (x1+1))≤x7 then (if x7≤(x0.size:Int) then ((metewandref13_unit.f k (x0.extract ((wrap64 (x1+1)):Int).toNat (x7:Int).toNat)).bind fun t412=>(if t412=true then (some (3,x0.extract ((wrap64 (x1+1)):Int).toNat (x7:Int).toNat,x1,wrap64 (x7+1),true)) else (some (0,(⟨#[]⟩:ByteArray),0,0,false)))) else (none)) else (none)) else (none)))
end
def metewandref13_token.f (k:Nat) (a0:ByteArray) (a1:Int):Option (Int × ByteArray × Int × Int × Bool):=if 0≤a1 then (if a1 < (a0.size:Int) then ((metewandref13_small.f (bt a0 a1)).bind fun t403=>(if t403=true then (metewandref13_token.l0 k a0 a1 (wrap64 (a1+1))) else ((metewandref13_digit.f (bt a0 a1)).bind fun t409=>(if t409=true then (metewandref13_token.l1 k a0 a1 (wrap64 (a1+1))) else (if (bt a0 a1)=123 then (metewandref13_token.l2 k a0 a1 (wrap64 (a1+1))) else ((metewandref13_sign.f k (bt a0 a1)).bind fun t413=>(if t413=true then (if a1≤(wrap64 (a1+1)) then (if (wrap64 (a1+1))≤(a0.size:Int) then (some (4,a0.extract (a1:Int).toNat ((wrap64 (a1+1)):Int).toNat,a1,wrap64 (a1+1),true)) else (none)) else (none)) else (some (0,(⟨#[]⟩:ByteArray),0,0,false))))))))) else (none)) else (none)
theorem metewandref13_token.mono_l:∀ k,(∀ y0 y1 y2,LeO (metewandref13_token.j1 k y0 y1 y2) (metewandref13_token.j1 (k+1) y0 y1 y2))∧(∀ y0 y1 y2,LeO (metewandref13_token.l0 k y0 y1 y2) (metewandref13_token.l0 (k+1) y0 y1 y2))∧(∀ y0 y1 y2,LeO (metewandref13_token.l1 k y0 y1 y2) (metewandref13_token.l1 (k+1) y0 y1 y2))∧(∀ y0 y1 y2,LeO (metewandref13_token.l2 k y0 y1 y2) (metewandref13_token.l2 (k+1) y0 y1 y2))
 | 0=>⟨fun _ _ _ r h=>by simp [metewandref13_token.j1] at h,fun _ _ _ r h=>by simp [metewandref13_token.l0] at h,fun _ _ _ r h=>by simp [metewandref13_token.l1] at h,fun _ _ _ r h=>by simp [metewandref13_token.l2] at h⟩
 | k+1=>by
  obtain ⟨ih0,ih1,ih2,ih3⟩:=metewandref13_token.mono_l k
  refine ⟨?_,?_,?_,?_⟩
  ·intro y0 y1 y2
   unfold metewandref13_token.j1
   repeat' first
   | (with_reducible exact ih0 _ _ _)
   | (with_reducible exact ih1 _ _ _)
   | (with_reducible exact ih2 _ _ _)
   | (with_reducible exact ih3 _ _ _)
   | (with_reducible exact metewandref13_Name.mono _ _)
   | (with_reducible exact metewandref13_sign.mono _ _)
   | (with_reducible exact metewandref13_unit.mono _ _)
   | (with_reducible exact LeO.refl _)
   | (with_reducible exact LeO.none _)
   | (with_reducible refine LeO.ite ?_ ?_)
   | (with_reducible refine LeO.bind ?_ (fun _=>?_))
   | exact ih0 _ _ _
   | exact ih1 _ _ _
   | exact ih2 _ _ _
   | exact ih3 _ _ _
   | exact metewandref13_Name.mono _ _
   | exact metewandref13_sign.mono _ _
   | exact metewandref13_unit.mono _ _
   | exact LeO.none _
   | refine LeO.ite ?_ ?_
   | refine LeO.bind ?_ (fun _=>?_)
  ·intro y0 y1 y2
   unfold metewandref13_token.l0
   repeat' first
   | (with_reducible exact ih0 _ _ _)
   | (with_reducible exact ih1 _ _ _)
   | (with_reducible exact ih2 _ _ _)
   | (with_reducible exact ih3 _ _ _)
   | (with_reducible exact metewandref13_Name.mono _ _)
   | (with_reducible exact metewandref13_sign.mono _ _)
   | (with_reducible exact metewandref13_unit.mono _ _)
   | (with_reducible exact LeO.refl _)
   | (with_reducible exact LeO.none _)
   | (with_reducible refine LeO.ite ?_ ?_)
   | (with_reducible refine LeO.bind ?_ (fun _=>?_))
   | exact ih0 _ _ _
   | exact ih1 _ _ _
   | exact ih2 _ _ _
   | exact ih3 _ _ _
   | exact metewandref13_Name.mono _ _
   | exact metewandref13_sign.mono _ _
   | exact metewandref13_unit.mono _ _
   | exact LeO.none _
   | refine LeO.ite ?_ ?_
   | refine LeO.bind ?_ (fun _=>?_)
  ·intro y0 y1 y2
   unfold metewandref13_token.l1
   repeat' first
   | (with_reducible exact ih0 _ _ _)
   | (with_reducible exact ih1 _ _ _)
   | (with_reducible exact ih2 _ _ _)
   | (with_reducible exact ih3 _ _ _)
   | (with_reducible exact metewandref13_Name.mono _ _)
   | (with_reducible exact metewandref13_sign.mono _ _)
   | (with_reducible exact metewandref13_unit.mono _ _)
   | (with_reducible exact LeO.refl _)
   | (with_reducible exact LeO.none _)
   | (with_reducible refine LeO.ite ?_ ?_)
   | (with_reducible refine LeO.bind ?_ (fun _=>?_))
   | exact ih0 _ _ _
   | exact ih1 _ _ _
   | exact ih2 _ _ _
   | exact ih3 _ _ _
   | exact metewandref13_Name.mono _ _
   | exact metewandref13_sign.mono _ _
   | exact metewandref13_unit.mono _ _
   | exact LeO.none _
   | refine LeO.ite ?_ ?_
   | refine LeO.bind ?_ (fun _=>?_)
  ·intro y0 y1 y2
   unfold metewandref13_token.l2
   repeat' first
   | (with_reducible exact ih0 _ _ _)
   | (with_reducible exact ih1 _ _ _)
   | (with_reducible exact ih2 _ _ _)
   | (with_reducible exact ih3 _ _ _)
   | (with_reducible exact metewandref13_Name.mono _ _)
   | (with_reducible exact metewandref13_sign.mono _ _)
   | (with_reducible exact metewandref13_unit.mono _ _)
   | (with_reducible exact LeO.refl _)
   | (with_reducible exact LeO.none _)
   | (with_reducible refine LeO.ite ?_ ?_)
   | (with_reducible refine LeO.bind ?_ (fun _=>?_))
   | exact ih0 _ _ _
   | exact ih1 _ _ _
   | exact ih2 _ _ _
   | exact ih3 _ _ _
   | exact metewandref13_Name.mono _ _
   | exact metewandref13_sign.mono _ _
   | exact metewandref13_unit.mono _ _
   | exact LeO.none _
   | refine LeO.ite ?_ ?_
   | refine LeO.bind ?_ (fun _=>?_)
theorem metewandref13_token.mono:∀ a0 a1 k,LeO (metewandref13_token.f k a0 a1) (metewandref13_token.f (k+1) a0 a1):=by
 intro a0 a1 k
 obtain ⟨ih0,ih1,ih2,ih3⟩:=metewandref13_token.mono_l k
 unfold metewandref13_token.f
 repeat' first
   | (with_reducible exact ih0 _ _ _)
   | (with_reducible exact ih1 _ _ _)
   | (with_reducible exact ih2 _ _ _)
   | (with_reducible exact ih3 _ _ _)
   | (with_reducible exact metewandref13_Name.mono _ _)
   | (with_reducible exact metewandref13_sign.mono _ _)
   | (with_reducible exact metewandref13_unit.mono _ _)
   | (with_reducible exact LeO.refl _)
   | (with_reducible exact LeO.none _)
   | (with_reducible refine LeO.ite ?_ ?_)
   | (with_reducible refine LeO.bind ?_ (fun _=>?_))
   | exact ih0 _ _ _
   | exact ih1 _ _ _
   | exact ih2 _ _ _
   | exact ih3 _ _ _
   | exact metewandref13_Name.mono _ _
   | exact metewandref13_sign.mono _ _
   | exact metewandref13_unit.mono _ _
   | exact LeO.none _
   | refine LeO.ite ?_ ?_
   | refine LeO.bind ?_ (fun _=>?_)
end Go.Proofs.YtjaobihcdkjmbaaGreatDoor.PReadTokens
end
section
namespace Go.Proofs.YtjaobihcdkjmbaaGreatDoor.PReadTokens
open Go.RowKit Go.Proofs.YtjaobihcdkjmbaaGreatDoorW.PrintWords Go.Proofs.YtjaobihcdkjmbaaGreatDoorW.PrintLast Go.Proofs.YtjaobihcdkjmbaaGreatDoorW.PrintMore
attribute [local go_sem] max2_int min2_int max_two min_two max_three min_three max_four min_four   -- for this text's walks alone
set_option linter.unusedVariables false
set_option linter.unusedSimpArgs false
def metewandref13_scan.l0:Nat→ByteArray→List (S47)→Int→Option ((List (S47)) × Int)
 | 0,_,_,_=>none
 | k+1,x0,x4,x5=>if x5 < (x0.size:Int) then (if 0≤x5 then (if (bt x0 x5)=32 then (metewandref13_scan.l0 k x0 x4 (wrap64 (x5+1))) else ((metewandref13_token.f k x0 x5).bind fun bt414=>(if bt414.2.2.2.2=true then (if x4.length < 4398046511104 then (metewandref13_scan.l0 k x0 (x4++[(⟨bt414.1,bt414.2.1,bt414.2.2.1⟩:S47)]) bt414.2.2.2.1) else (none)) else (some (x4,x5))))) else (none)) else (some (x4,(-1)))
def metewandref13_scan.f (k:Nat) (a0:ByteArray):Option ((List (S47)) × Int):=metewandref13_scan.l0 k a0 ([]:List (S47)) 0
theorem metewandref13_scan.mono_l:∀ k,(∀ y0 y1 y2,LeO (metewandref13_scan.l0 k y0 y1 y2) (metewandref13_scan.l0 (k+1) y0 y1 y2))
 | 0=>fun _ _ _ r h=>by simp [metewandref13_scan.l0] at h
 | k+1=>by
  have ih0:=metewandref13_scan.mono_l k
  ·intro y0 y1 y2
   unfold metewandref13_scan.l0
   repeat' first
   | (with_reducible exact ih0 _ _ _)
   | (with_reducible exact metewandref13_token.mono _ _ _)
   | (with_reducible exact LeO.refl _)
   | (with_reducible exact LeO.none _)
   | (with_reducible refine LeO.ite ?_ ?_)
   | (with_reducible refine LeO.bind ?_ (fun _=>?_))
   | exact ih0 _ _ _
   | exact metewandref13_token.mono _ _ _
   | exact LeO.none _
   | refine LeO.ite ?_ ?_
   | refine LeO.bind ?_ (fun _=>?_)
theorem metewandref13_scan.mono:∀ a0 k,LeO (metewandref13_scan.f k a0) (metewandref13_scan.f (k+1) a0):=by
 intro a0 k
 have ih0:=metewandref13_scan.mono_l k
 unfold metewandref13_scan.f
 repeat' first
   | (with_reducible exact ih0 _ _ _)
   | (with_reducible exact metewandref13_token.mono _ _ _)
   | (with_reducible exact LeO.refl _)
   | (with_reducible exact LeO.none _)
   | (with_reducible refine LeO.ite ?_ ?_)
   | (with_reducible refine LeO.bind ?_ (fun _=>?_))
   | exact ih0 _ _ _
   | exact metewandref13_token.mono _ _ _
   | exact LeO.none _
   | refine LeO.ite ?_ ?_
   | refine LeO.bind ?_ (fun _=>?_)
def metewandref13_Tokens.f (k:Nat) (a0:ByteArray):Option ((List (S47)) × Int × Int):=if (a0.size:Int) > 2000 then (some (([]:List (S47)),0,13)) else ((metewandref13_scan.f k a0).bind fun bt423=>(if bt423.2 ≥ 0 then (some (([]:List (S47)),bt423.2,1)) else (some (bt423.1,0,0))))
theorem metewandref13_Tokens.mono:∀ a0 k,LeO (metewandref13_Tokens.f k a0) (metewandref13_Tokens.f (k+1) a0):=by
 intro a0 k
 unfold metewandref13_Tokens.f
 repeat' first
   | (with_reducible exact metewandref13_scan.mono _ _)
   | (with_reducible exact LeO.refl _)
   | (with_reducible exact LeO.none _)
   | (with_reducible refine LeO.ite ?_ ?_)
   | (with_reducible refine LeO.bind ?_ (fun _=>?_))
   | exact metewandref13_scan.mono _ _
   | exact LeO.none _
   | refine LeO.ite ?_ ?_
   | refine LeO.bind ?_ (fun _=>?_)
end Go.Proofs.YtjaobihcdkjmbaaGreatDoor.PReadTokens
end
section
namespace Go.Proofs.YtjaobihcdkjmbaaGreatDoor
open Go.RowKit Go.Proofs.YtjaobihcdkjmbaaGreatDoorW.PrintWords Go.Proofs.YtjaobihcdkjmbaaGreatDoor.PReadTokens
structure Rod (w:World) (R N:Nat):Prop where
 out:∃ A l c at_ st,w.heap[R]?=some (.cells #[.slice A (l:Nat) c,.int .i64 at_,.int .u64 st] 77 (0,0))∧0≤at_∧at_≤N∧l≤9223372036854775807 ∧
  (∀ i,i < l→∃ ad x,A=some ad∧w.cell? (ad.add i)=some (.int .i64 x)∧ad.block < R)
theorem addr_block (a:Addr) (n:Nat):(a.add n).block=a.block:=by unfold Addr.add;split <;> rfl
theorem xor_pos (x y:Int):0≤Go.bits .xor .u64 x y:=wrap_u64_nonneg _
set_option maxRecDepth 100000 in
set_option maxHeartbeats 4000000 in
theorem turn_calls (R N:Nat) (w:World) (hR:Rod w R N) (hN:N≤1000000) :
  Calls Tryz.prog 59 #[.pointer (some ⟨R,0,none⟩)] w fun e w'=>(∃ x,e=.returned (.int .u64 x)∧0≤x)∧Rod w' R (N+1)∧w.grownBy w' (some R):=by
 obtain ⟨A,l,c,at_,st,h0,h1,h2,hl,h3⟩:=hR.out
 have a0:=blk_cell h0 0
 have a1:=blk_cell h0 1
 have a2:=blk_cell h0 2
 have f1:=blk_frozen h0 1
 have f2:=blk_frozen h0 2
 have hw1:IntKind.i64.wrap (at_+1)=at_+1:=by simp [IntKind.wrap,IntKind.bits,IntKind.signed];omega
 go_enter Tryz.func59,Tryz.ntmps59
 go_wp2_with fail
 have K:w.drew.cell? ⟨R,0,none⟩=some (.slice A l c)∧w.drew.cell? ⟨R,1,none⟩=some (.int .i64 at_):=⟨a0,a1⟩
 go_region_held3 (fun w':World=>w'.cell? ⟨R,0,none⟩=some (.slice A l c)∧w'.cell? ⟨R,1,none⟩=some (.int .i64 at_)) (first | with_reducible exact K) (fail)
 by_cases hlt:at_ < l
 ·obtain ⟨ad,x,hA,hx,_⟩:=h3 at_.toNat (by omega)
  have hx:w.drew.cell? (ad.add at_.toNat)=some (.int .i64 x):=hx
  subst hA
  have q1:(0≤at_)=True:=eq_true h1
  have q2:(at_ < (l:Int))=True:=eq_true hlt
  have q3:decide (at_ < (l:Int))=true:=decide_eq_true hlt
  rw [q3]
  go_wp2_with fail
  have K:w.drew.drew.cell? ⟨R,0,none⟩=some (.slice (some ad) l c)∧w.drew.drew.cell? ⟨R,1,none⟩=some (.int .i64 at_)∧w.drew.drew.cell? (ad.add at_.toNat)=some (.int .i64 x):=⟨a0,a1,hx⟩
  clear hx
  go_region_held3 (fun w':World=>w'.cell? ⟨R,0,none⟩=some (.slice (some ad) l c)∧w'.cell? ⟨R,1,none⟩=some (.int .i64 at_)∧w'.cell? (ad.add at_.toNat)=some (.int .i64 x)) (first | with_reducible exact K) (fail)
  generalize IntKind.u64.wrap (IntKind.u64.wrap ((at_+1) * 13503953896175478587)+IntKind.u64.wrap (IntKind.u64.wrap x * 4354685564936845355))=v3
  go_wp2_with fail
  generalize IntKind.u64.wrap (bits BinOp.xor IntKind.u64 st v3 * 11912009170470909681)=st2
  have j0:((((w.setCell ⟨R,1,none⟩ (.int .i64 (at_+1))).setCell ⟨R,2,none⟩ (.int .u64 st2)).drew.drew)).heap[R]?=some (.cells #[.slice (some ad) l c,.int .i64 (at_+1),.int .u64 st2] 77 (0,0)):=blk_set (blk_set h0 1 (.int .i64 (at_+1))) 2 (.int .u64 st2)
  have g0:w.grownBy ((((w.setCell ⟨R,1,none⟩ (.int .i64 (at_+1))).setCell ⟨R,2,none⟩ (.int .u64 st2)).drew.drew)) (some R):=grown_drew_n (n:=1) (grown_drew_n (n:=1) (Lib.grownBy_trans (Lib.grownBy_setCell _ _ _ _) (Lib.grownBy_setCell _ _ _ _)) )
  generalize (((w.setCell ⟨R,1,none⟩ (.int .i64 (at_+1))).setCell ⟨R,2,none⟩ (.int .u64 st2)).drew.drew)=W at *
  have c2:W.cell? ⟨R,2,none⟩=some (.int .u64 st2):=blk_cell j0 2
  have e2:W.frozen? ⟨R,2,none⟩=false:=blk_frozen j0 2
  have c2':W.drew.cell? ⟨R,2,none⟩=some (.int .u64 st2):=blk_cell j0 2
  have e2':W.drew.frozen? ⟨R,2,none⟩=false:=blk_frozen j0 2
  have j0:W.drew.heap[R]?=some (.cells #[.slice (some ad) l c,.int .i64 (at_+1),.int .u64 st2] 77 (0,0)):=j0
  clear K
  go_still_tail 13,(by kernel_rfl)
  go_wp2_with fail
  go_ret
  have g1:w.grownBy ((W.setCell ⟨R,2,none⟩ (.int .u64 (bits BinOp.xor IntKind.u64 st2 (st2 / 2147483648)))).drew) (some R):=grown_drew_n (n:=1) (Lib.grownBy_setB g0 2 _)
  refine ⟨⟨_,rfl,Int.ediv_nonneg (xor_pos _ _) (by decide)⟩,⟨_,l,c,at_+1,_,blk_set j0 2 _,by omega,by omega,hl,?_⟩,g1⟩
  intro i hi
  obtain ⟨ad,x,e1,e2,e3⟩:=h3 i hi
  exact ⟨ad,x,e1,cell_grown g1 e2 (by rw [addr_block];exact Nat.ne_of_lt e3),e3⟩
 ·have q3:decide (at_ < (l:Int))=false:=decide_eq_false hlt
  rw [q3]
  generalize IntKind.u64.wrap ((at_+1) * 13503953896175478587)=v3
  go_wp2_with fail
  generalize IntKind.u64.wrap (bits BinOp.xor IntKind.u64 st v3 * 11912009170470909681)=st2
  have j0:((((w.setCell ⟨R,1,none⟩ (.int .i64 (at_+1))).setCell ⟨R,2,none⟩ (.int .u64 st2)).drew)).heap[R]?=some (.cells #[.slice A l c,.int .i64 (at_+1),.int .u64 st2] 77 (0,0)):=blk_set (blk_set h0 1 (.int .i64 (at_+1))) 2 (.int .u64 st2)
  have g0:w.grownBy ((((w.setCell ⟨R,1,none⟩ (.int .i64 (at_+1))).setCell ⟨R,2,none⟩ (.int .u64 st2)).drew)) (some R):=grown_drew_n (n:=1) (Lib.grownBy_trans (Lib.grownBy_setCell _ _ _ _) (Lib.grownBy_setCell _ _ _ _))
  generalize (((w.setCell ⟨R,1,none⟩ (.int .i64 (at_+1))).setCell ⟨R,2,none⟩ (.int .u64 st2)).drew)=W at *
  have c2:W.cell? ⟨R,2,none⟩=some (.int .u64 st2):=blk_cell j0 2
  have e2:W.frozen? ⟨R,2,none⟩=false:=blk_frozen j0 2
  have c2':W.drew.cell? ⟨R,2,none⟩=some (.int .u64 st2):=blk_cell j0 2
  have e2':W.drew.frozen? ⟨R,2,none⟩=false:=blk_frozen j0 2
  have j0:W.drew.heap[R]?=some (.cells #[.slice A l c,.int .i64 (at_+1),.int .u64 st2] 77 (0,0)):=j0
  clear K
  go_still_tail 13,(by kernel_rfl)
  go_wp2_with fail
  go_ret
  have g1:w.grownBy ((W.setCell ⟨R,2,none⟩ (.int .u64 (bits BinOp.xor IntKind.u64 st2 (st2 / 2147483648)))).drew) (some R):=grown_drew_n (n:=1) (Lib.grownBy_setB g0 2 _)
  refine ⟨⟨_,rfl,Int.ediv_nonneg (xor_pos _ _) (by decide)⟩,⟨_,l,c,at_+1,_,blk_set j0 2 _,by omega,by omega,hl,?_⟩,g1⟩
  intro i hi
  obtain ⟨ad,x,e1,e2,e3⟩:=h3 i hi
  exact ⟨ad,x,e1,cell_grown g1 e2 (by rw [addr_block];exact Nat.ne_of_lt e3),e3⟩
set_option maxHeartbeats 1000000 in
theorem Up_calls (R N:Nat) (n:Int) (w:World) (hR:Rod w R N) (hN:N≤1000000) (hn:n≤1000000) (hn0:0≤n) :
  Calls Tryz.prog 22 #[.pointer (some ⟨R,0,none⟩),.int .i64 n] w fun e w'=>(∃ x,e=.returned (.int .i64 x)∧0≤x∧x≤n)∧Rod w' R (N+1)∧w.grownBy w' (some R):=by
 have ht:=turn_calls R N w hR hN
 go_enter Tryz.func22,Tryz.ntmps22
 go_wp2_with fail
 refine ht.mono ?_
 rintro e w1 ⟨⟨x,rfl,hx⟩,hr,hg⟩
 clear ht
 by_cases h1:n < 1
 ·have hd:decide (n < 1)=true:=decide_eq_true h1
  go_wp2
  go_ret
  exact ⟨⟨0,rfl,by omega,by omega⟩,hr,hg⟩
 ·have hd:decide (n < 1)=false:=decide_eq_false h1
  have hn1:(n=0)=False:=by simp;omega
  go_wp2_with fail
  have h3:0≤x % (n+1):=Int.emod_nonneg _ (by omega)
  have h4:x % (n+1) < n+1:=Int.emod_lt_of_pos _ (by omega)
  have e:wrap64 (x % (n+1))=x % (n+1):=by generalize x % (n+1)=y at *;unfold wrap64;omega
  rw [e]
  go_ret
  exact ⟨⟨_,rfl,h3,by omega⟩,hr,hg⟩
set_option maxHeartbeats 1000000 in
theorem Once_calls (R N:Nat) (n:Int) (w:World) (hR:Rod w R N) (hN:N≤1000000) (hn:n≤1000000) (hn0:1≤n) :
  Calls Tryz.prog 47 #[.pointer (some ⟨R,0,none⟩),.int .i64 n] w fun e w'=>(∃ x,e=.returned (.bool x))∧Rod w' R (N+1)∧w.grownBy w' (some R):=by
 have ht:=Up_calls R N (n - 1) w hR hN (by omega) (by omega)
 have hw:IntKind.i64.wrap (n - 1)=n - 1:=by simp [IntKind.wrap,IntKind.bits,IntKind.signed];omega
 go_enter Tryz.func47,Tryz.ntmps47
 go_wp2_with fail
 refine ht.mono ?_
 rintro e w1 ⟨⟨x,rfl,hx⟩,hr,hg⟩
 clear ht
 go_wp2
 go_ret
 exact ⟨⟨_,rfl⟩,hr,hg⟩
set_option maxHeartbeats 1000000 in
theorem From_calls (R N:Nat) (lo hi:Int) (w:World) (hR:Rod w R N) (hN:N≤1000000) (h1:-1000≤lo) (h2:lo≤hi) (h3:hi≤1000) :
  Calls Tryz.prog 51 #[.pointer (some ⟨R,0,none⟩),.int .i64 lo,.int .i64 hi] w fun e w'=>(∃ x,e=.returned (.int .i64 x)∧lo≤x∧x≤hi)∧Rod w' R (N+1)∧w.grownBy w' (some R):=by
 have ht:=Up_calls R N (hi - lo) w hR hN (by omega) (by omega)
 have hw:IntKind.i64.wrap (hi - lo)=hi - lo:=by simp [IntKind.wrap,IntKind.bits,IntKind.signed];omega
 go_enter Tryz.func51,Tryz.ntmps51
 go_wp2_with fail
 refine ht.mono ?_
 rintro e w1 ⟨⟨x,rfl,hx⟩,hr,hg⟩
 clear ht
 have hw2:IntKind.i64.wrap (lo+x)=lo+x:=by simp [IntKind.wrap,IntKind.bits,IntKind.signed];omega
 go_wp2
 go_ret
 exact ⟨⟨_,rfl,by omega,by omega⟩,hr,hg⟩
structure Nums (w:World) (R:Nat) (A:Addr) (l:List Int):Prop where
 cells:∀ i (h:i < l.length),w.cell? (A.add i)=some (.int .i64 l[i])
 ne:A.block≠R
set_option maxHeartbeats 1000000 in
theorem Pick_calls (R N:Nat) (A:Addr) (l:List Int) (w:World) (hR:Rod w R N) (hN:N≤1000000) (hA:Nums w R A l) (hl0:0 < l.length) (hl1:l.length≤1000) :
  Calls Tryz.prog 52 #[.pointer (some ⟨R,0,none⟩),.slice (some A) l.length l.length] w fun e w'=>(∃ x,e=.returned (.int .i64 x)∧x ∈ l)∧Rod w' R (N+1)∧w.grownBy w' (some R):=by
 have ht:=Up_calls R N (l.length - 1:Nat) w hR hN (by omega) (by omega)
 have hw:IntKind.i64.wrap ((l.length:Int) - 1)=((l.length - 1:Nat):Int):=by simp [IntKind.wrap,IntKind.bits,IntKind.signed];omega
 generalize hm:l.length=m at *
 go_enter Tryz.func52,Tryz.ntmps52
 go_wp2_with fail
 refine ht.mono ?_
 rintro e w1 ⟨⟨x,rfl,hx0,hx1⟩,hr,hg⟩
 clear ht
 have hlt:x.toNat < l.length:=by omega
 have hc:=cell_grown hg (hA.cells x.toNat hlt) (by rw [addr_block];exact hA.ne)
 have q1:(0≤x)=True:=eq_true hx0
 have q2:(x < (m:Int))=True:=eq_true (by omega)
 have hmem:l[x.toNat] ∈ l:=List.getElem_mem hlt
 generalize l[x.toNat]=y at *
 go_wp2
 go_ret
 exact ⟨⟨_,rfl,hmem⟩,hr,hg⟩
structure Strs (w:World) (R:Nat) (A:Addr) (l:List ByteArray):Prop where
 cells:∀ i (h:i < l.length),w.cell? (A.add i)=some (.string l[i])
 ne:A.block≠R
set_option maxHeartbeats 1000000 in
theorem PickText_calls (R N:Nat) (A:Addr) (l:List ByteArray) (w:World) (hR:Rod w R N) (hN:N≤1000000) (hA:Strs w R A l) (hl0:0 < l.length) (hl1:l.length≤1000) :
  Calls Tryz.prog 31 #[.pointer (some ⟨R,0,none⟩),.slice (some A) l.length l.length] w fun e w'=>(∃ x,e=.returned (.string x)∧x ∈ l)∧Rod w' R (N+1)∧w.grownBy w' (some R):=by
 have ht:=Up_calls R N (l.length - 1:Nat) w hR hN (by omega) (by omega)
 have hw:IntKind.i64.wrap ((l.length:Int) - 1)=((l.length - 1:Nat):Int):=by simp [IntKind.wrap,IntKind.bits,IntKind.signed];omega
 generalize hm:l.length=m at *
 go_enter Tryz.func31,Tryz.ntmps31
 go_wp2_with fail
 refine ht.mono ?_
 rintro e w1 ⟨⟨x,rfl,hx0,hx1⟩,hr,hg⟩
 clear ht
 have hlt:x.toNat < l.length:=by omega
 have hc:=cell_grown hg (hA.cells x.toNat hlt) (by rw [addr_block];exact hA.ne)
 have q1:(0≤x)=True:=eq_true hx0
 have q2:(x < (m:Int))=True:=eq_true (by omega)
 have hmem:l[x.toNat] ∈ l:=List.getElem_mem hlt
 generalize l[x.toNat]=y at *
 go_wp2
 go_ret
 exact ⟨⟨_,rfl,hmem⟩,hr,hg⟩
end Go.Proofs.YtjaobihcdkjmbaaGreatDoor
end
