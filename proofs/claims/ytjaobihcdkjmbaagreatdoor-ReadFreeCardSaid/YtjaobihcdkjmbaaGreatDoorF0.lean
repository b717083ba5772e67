/- The law ReadFree answers true for every argument; a part of its proof. -/
import Derived.Test.YtjaobihcdkjmbaaGreatDoorProg
import Derived.WalkKit
import Derived.BigQuiet
import Derived.Deep.QuietTactic
import Derived.Lib.Hide
set_option linter.unusedVariables false
set_option linter.unusedSimpArgs false
section
namespace Go.Proofs.YtjaobihcdkjmbaaGreatDoor
open Go.RowKit
theorem ret_int {k:IntKind} {a b:Int} (h:a=b):Ending.returned (.int k a)=.returned (.int k b):=by rw [h]
abbrev ms:ByteArray:={ data:=#[40,41,91,93,44,43,45,42,47,94,60,61,46,124] }
def markFrom (c:Int):List UInt8→Bool
 | []=>false
 | m :: l=>c == m.toNat || markFrom c l
def srt (c:Int):Int:=if c=32 then 1 else if 97≤c∧c≤122 then 2 else if 65≤c∧c≤90 then 3 else if 48≤c∧c≤57 then 4 else if markFrom c ms.data.toList=true then 5 else 0
theorem srt_mark {c:Int} (h1:(c == 32)=false) (h2:¬ (97≤c∧c≤122)) (h3:¬ (65≤c∧c≤90)) (h4:¬ (48≤c∧c≤57)) (h:markFrom c ms.data.toList=true):srt c=5:=by
 have h1:¬ c=32:=by simpa using h1
 unfold srt;rw [if_neg h1,if_neg h2,if_neg h3,if_neg h4,if_pos h]
theorem srt_other {c:Int} (h1:(c == 32)=false) (h2:¬ (97≤c∧c≤122)) (h3:¬ (65≤c∧c≤90)) (h4:¬ (48≤c∧c≤57)) (h:markFrom c ms.data.toList=false):srt c=0:=by
 have h1:¬ c=32:=by simpa using h1
 unfold srt;rw [if_neg h1,if_neg h2,if_neg h3,if_neg h4,if_neg (by simp [h])]
theorem ms_ascii (k:Nat) (h:k < ms.size):(ms[k]'h).toNat < 128:=by
 have:ms.size=14:=rfl
 have hk:k < 14:=by omega
 clear this
 revert k;decide
theorem markFrom_drop (c:Int) (k:Nat) (h:k < ms.size):markFrom c (ms.data.toList.drop k)=(c == (ms[k]'h).toNat || markFrom c (ms.data.toList.drop (k+1))):=by
 rw [List.drop_eq_getElem_cons (show k < ms.data.toList.length from h)]
 rfl
set_option maxHeartbeats 400000 in
theorem sortOf_any (c:Int) (w:World) :
  Calls Tryz.prog 107 #[.int .i32 c] w fun e w'=>e=.returned (.int .i64 (srt c))∧Below w.heap.size w w':=by
 go_enter Tryz.func107,Tryz.ntmps107
 go_wp2
 all_goals first
  | (go_ret;refine ⟨ret_int ?_,Below.refl _ _⟩;simp_all [srt];done)
  | (go_ret;refine ⟨ret_int ?_,Below.refl _ _⟩;simp_all [srt];omega)
  | skip
 all_goals
  have h1:(c == 32)=false:=by assumption
  have h2:¬ (97≤c∧c≤122):=by omega
  have h3:¬ (65≤c∧c≤90):=by omega
  have h4:¬ (48≤c∧c≤57):=by omega
  have HM:=Lib.hid (@srt_mark c h1 h2 h3 h4)
  have HO:=Lib.hid (@srt_other c h1 h2 h3 h4)
  clear h2 h3 h4
  go_loopw [4] (fun _ wr=>∃ k:Nat,k≤ms.size∧wr=w.iter ms k∧(markFrom c ms.data.toList=true↔markFrom c (ms.data.toList.drop k)=true)) (fun _ wr=>ms.size - wr.iterPos w.heap.size)
  case atStart=>exact ⟨0,Nat.zero_le _,rfl,Iff.rfl⟩
  case round =>
   obtain ⟨k,hk,rfl,hm⟩:=hrel
   have Hm:=Lib.hid hm
   clear hm
   by_cases hp:k < ms.size
   ·have hnx:=fun ty=>run_next_ascii (P:=Tryz.prog) w ms k ty hp (ms_ascii k hp)
    have hd:=Lib.hid (markFrom_drop c k hp)
    go_wp2
    ·have h9:(c == ((ms[k]'hp).toNat:Int))=true:=by assumption
     go_ret
     refine ⟨ret_int (HM.out ?_).symm,(Below.refl _ _).alloc (Nat.le_refl _) _⟩
     rw [Hm.out,hd.out,h9];rfl
    ·have h9:(c == ((ms[k]'hp).toNat:Int))=false:=by assumption
     go_roundw
     case rel=>exact ⟨k+1,by omega,rfl,by rw [Hm.out,hd.out,h9];rfl⟩
     case measure=>simp;omega
   ·have hnx:=fun ty=>run_next_end (P:=Tryz.prog) w ms k ty hp
    go_wp2
    go_ret
    refine ⟨ret_int (HO.out ?_).symm,(Below.refl _ _).alloc (Nat.le_refl _) _⟩
    rw [Bool.eq_false_iff,ne_eq,Hm.out,List.drop_eq_nil_of_le (show ms.data.toList.length≤k from Nat.not_lt.1 hp)]
    simp [markFrom]
end Go.Proofs.YtjaobihcdkjmbaaGreatDoor
end
