/- What can be read as an expression is printed as a text that reads as the same, and is printed as itself: for every argument; a part of its proof. -/
import Derived.Test.YtjaobihcdkjmbaaGreatDoorDa
import Derived.Test.YtjaobihcdkjmbaaGreatDoorDb
import Derived.Test.YtjaobihcdkjmbaaGreatDoorD0
import Derived.Test.YtjaobihcdkjmbaaGreatDoorD23
set_option linter.unusedVariables false
set_option linter.unusedSimpArgs false
namespace Go.Proofs.YtjaobihcdkjmbaaGreatDoor.PReadTokens
end Go.Proofs.YtjaobihcdkjmbaaGreatDoor.PReadTokens
namespace Go.Proofs.YtjaobihcdkjmbaaGreatDoorW.PrintWords
end Go.Proofs.YtjaobihcdkjmbaaGreatDoorW.PrintWords
set_option maxRecDepth 100000
set_option maxHeartbeats 2000000
section
namespace Go.Proofs.YtjaobihcdkjmbaaGreatDoor
open Go.RowKit Go.Proofs.YtjaobihcdkjmbaaGreatDoorW.PrintWords Go.Proofs.YtjaobihcdkjmbaaGreatDoor.PReadTokens
theorem one_byte (b:Int) (w:World):(convert 84 9 (.slice (some ⟨w.heap.size,0,none⟩) 1 1)).run Tryz.prog (w.alloc (.cells #[.int .u8 b] 5))=.ok (.string (strOfNums [b])) (w.alloc (.cells #[.int .u8 b] 5)):=by
 refine Kd.C_string (xs:=[b]) Tryz.underlying84 Tryz.underlying5 Tryz.underlying9 ?_;obtain⟨A,c,h1,h2,h3⟩:=zBO.reads (zBO.lit (R:=(Kd.int .u8).K (w.alloc (.cells #[.int .u8 b] 5))) (e:=5) (ps:=[b]) w 0 ((Reps.none _ _).snoc rfl rfl) (kAI _) kD6);injection h1 with h1;subst h1;exact h3
theorem Spoilt_empty (s:ByteArray) (a h b:Int) (hs:s.size=0) (w:World):Calls Tryz.prog 14 #[.string s,.int .i64 a,.int .i64 h,.int .u8 b] w fun e w'=>(∃t,e=.returned (.string t))∧Below w.heap.size w w':=by
 have h0:((s.size:Int)==0)=true:=by rw[hs];rfl
 have hk:=one_byte b;have BW:=(kA3 w.heap.size w).alloc (kA2 _) (.cells #[.int .u8 b] 5);clear hs;go_enter Tryz.func14,Tryz.ntmps14;go_wp2;go_ret;exact⟨⟨_,rfl⟩,BW⟩
theorem one_byte_drew (b:Int) (w:World):(convert 84 9 (.slice (some ⟨w.heap.size,0,none⟩) 1 1)).run Tryz.prog (w.alloc (.cells #[.int .u8 b] 5)).drew=.ok (.string (strOfNums [b])) (w.alloc (.cells #[.int .u8 b] 5)).drew:=one_byte b w.drew
theorem Spoilt_some (s:ByteArray) (a h b:Int) (hs:0<s.size) (hs1:s.size≤1000000) (w:World):Calls Tryz.prog 14 #[.string s,.int .i64 a,.int .i64 h,.int .u8 b] w fun e w'=>(∃t,e=.returned (.string t))∧Below w.heap.size w w':=by
 have h0:((s.size:Int)==0)=false:=kAd.2 kD4;have hz1:((s.size:Int)=0)=False:=eq_false kD4;have hk:=one_byte_drew b;have B0:=(kA3 w.heap.size w).drew;have B1:=((kA3 w.heap.size w).alloc (kA2 _) (.cells #[.int .u8 b] 5)).drew;have hsz:(strOfNums [b]).size=1:=rfl;have tr:True:=trivial;go_enter Tryz.func14,Tryz.ntmps14;go_upto_region 4 with (fail);have hx0:-(s.size:Int)<a.tmod s.size:=by have:=Int.lt_tmod_of_pos a (show (0:Int)<s.size by omega);omega
 have hx1:a.tmod s.size<s.size:=Int.tmod_lt_of_pos a kD4;have hy0:-3<h.tmod 3:=by have:=Int.lt_tmod_of_pos h (show (0:Int)<3 by omega);omega
 have hy1:h.tmod 3<3:=Int.tmod_lt_of_pos h kD4;generalize a.tmod s.size=x at *;generalize h.tmod 3=y at *;clear hz1 h0;have hy:y=-2∨y=-1∨y=0∨y=1∨y=2:=kD4
 clear hy0 hy1;by_cases hx:x<0
 ·have hd:decide (x<0)=true:=kA8 hx;go_upto_region 6 with (fail);have hi0:0≤x+s.size:=kD4
  have hi1:x+s.size<s.size:=kD4
  generalize x+(s.size:Int)=i at *;clear hd hx hx0 hx1;have q1:(0≤i)=True:=kAX hi0;have q2:(i≤(s.size:Int))=True:=kAX kD4;have q3:IntKind.i64.wrap (i+1)=i+1:=by simp[IntKind.wrap,IntKind.bits,IntKind.signed];omega
  have q4:(0≤i+1)=True:=kAX kD4;have q5:(i+1≤(s.size:Int))=True:=kAX kD4;rcases hy with rfl | rfl | rfl | rfl | rfl
  all_goals
   go_wp2_with fail
   first | go_quiet (fail) | go_region
   go_wp2;go_ret;exact⟨⟨_,rfl⟩,by first | exact B0 | exact B1 | exact zA3 (kA3 _ _) _⟩
 ·have hd:decide (x<0)=false:=kAc hx;go_upto_region 6 with (fail);have hi0:0≤x:=kD4
  have hi1:x<s.size:=kD4
  clear hd hx hx0;generalize x=i at *;have q1:(0≤i)=True:=kAX hi0;have q2:(i≤(s.size:Int))=True:=kAX kD4;have q3:IntKind.i64.wrap (i+1)=i+1:=by simp[IntKind.wrap,IntKind.bits,IntKind.signed];omega
  have q4:(0≤i+1)=True:=kAX kD4;have q5:(i+1≤(s.size:Int))=True:=kAX kD4;rcases hy with rfl | rfl | rfl | rfl | rfl
  all_goals
   go_wp2_with fail
   first | go_quiet (fail) | go_region
   go_wp2;go_ret;exact⟨⟨_,rfl⟩,by first | exact B0 | exact B1 | exact zA3 (kA3 _ _) _⟩
theorem Spoilt_calls (s:ByteArray) (a h b:Int) (hs1:s.size≤1000000) (w:World):Calls Tryz.prog 14 #[.string s,.int .i64 a,.int .i64 h,.int .u8 b] w fun e w'=>(∃t,e=.returned (.string t))∧Below w.heap.size w w':=by
 rcases Nat.eq_zero_or_pos s.size with h0 | h0
 ·exact Spoilt_empty s a h b h0 w
 ·exact Spoilt_some s a h b h0 hs1 w
theorem NewRod_calls (A:Option Addr) (l:List Int) (c:Nat) (hl:l.length≤9223372036854775807) (w:World) (hc:Kd.C (Kd.int .i64) w A l.length l) :
  Calls Tryz.prog 11 #[.slice A l.length c] w fun e w'=>e=.returned (.pointer (some ⟨w.heap.size,0,none⟩))∧Rod w' w.heap.size 0∧Below w.heap.size w w':=by
 have hcells:∀i,i<l.length→∃ad x,A=some ad∧w.cell? (ad.add i)=some (.int .i64 x)∧ad.block<w.heap.size:=by
  intro i hi;obtain⟨ad,h1,h2⟩:=Kd.at_int hc i kD4 kD4;have h3:=kAJ w _ h2;rw[zCO] at h3;exact⟨ad,_,h1,h2,h3⟩
 have HC:=kA1 hcells;clear hcells hc;have BW:=(kA3 w.heap.size w).alloc (kA2 _) (.cells #[.slice A l.length c,.int .i64 0,.int .u64 7640891576956012809] 77);have hb:=kA1 (zA4 w (.cells #[.slice A l.length c,.int .i64 0,.int .u64 7640891576956012809] 77));go_enter Tryz.func11,Tryz.ntmps11;go_wp2;go_ret;refine⟨rfl,⟨A,l.length,c,0,_,hb.out,kD4,kD4,hl,fun i hi=>?_⟩,BW⟩;obtain⟨ad,x,h1,h2,h3⟩:=HC.out i hi;exact⟨ad,x,h1,zA0 BW h2,h3⟩
end Go.Proofs.YtjaobihcdkjmbaaGreatDoor
end
