/- The law ReadFree answers true for every argument; a part of its proof. -/
import Derived.OwnWalkIn
import Derived.TacticsInMore
import Derived.Laws.IdiomCopy
import Derived.ChangeKeysEq
import Derived.Test.YtjaobihcdkjmbaaGreatDoorF3
import Derived.Test.YtjaobihcdkjmbaaGreatDoorF13
set_option linter.unusedVariables false
set_option linter.unusedSimpArgs false
section
namespace Go.Proofs.YtjaobihcdkjmbaaGreatDoor
open Go.RowKit Go.Maps Go.Sort Go.Proofs.YtjaobihcdkjmbaaGreatDoorW.PrintWords Go.Proofs.YtjaobihcdkjmbaaGreatDoor.PReadTokens
def NamesPost (D:DataW Unit) (w:World) (e:Ending) (w':World):Prop :=
 ∃ (v:Value) (ss:List (List UInt8)),e=.returned v∧ss.Perm (strKeys D)∧w'.ownsRow (w.heap.size+1) 9 1 v ss.length ((ss.mergeSort (fun x y=>decide (x≤y))).map encStr)∧(v=.slice none 0 0↔ss=[])∧Below w.heap.size w w'
set_option maxRecDepth 100000 in
set_option maxHeartbeats 1000000 in
theorem names_calls (b nn:Nat) (D:DataW Unit) (w:World) (hm:MapAt w b nn D) (hn:nn≤1000000000) :
  Calls Tryz.prog 74 #[.map (some b)] w (NamesPost D w):=by
 have hsz:=hm.size_le
 have hs:=Tryz.slices_Sorted_keys_111_112 b nn D (plainElem Tryz.prog 4) w hm (by unfold maxLen;omega) (by omega)
 refine (callsIn_wide (n:=6)).1 ?_
 have hfK:Fence.wide.fn 112:=trivial
 have hfS:Fence.wide.fn 111:=trivial
 have hD:Fence.wide.depth.isSome=false:=rfl
 refine callsIn_of_wp Tryz.func74 rfl trivial ?_
 simp only [Tryz.ntmps74,List.size_toArray,List.length_cons,List.length_nil,Nat.reduceAdd,Nat.reduceSub,Array.replicate_succ,Array.replicate_zero,List.push_toArray,List.append_toArray,List.nil_append,List.cons_append]
 gi_wp2_with (first
  | (gi_at_call 112;refine (Tryz.maps_Keys_112 _ _).mono ?_;rintro e w' ⟨rfl,rfl⟩)
  | (gi_at_call 111;refine hs.mono ?_;rintro e w' ⟨v,ss,rfl,hS,hrow,hnil,hb⟩))
 go_ret
 unfold NamesPost
 refine ⟨v,ss,rfl,hS,by rwa [World.size_alloc] at hrow,hnil,?_⟩
 exact ((Below.refl _ w).alloc (Nat.le_refl _) _).trans (hb.mono (by simp))
end Go.Proofs.YtjaobihcdkjmbaaGreatDoor
end
section
namespace Go.Proofs.YtjaobihcdkjmbaaGreatDoor.PReadTokens
open Go.RowKit Go.Proofs.YtjaobihcdkjmbaaGreatDoorW.PrintWords Go.Proofs.YtjaobihcdkjmbaaGreatDoorW.PrintLast Go.Proofs.YtjaobihcdkjmbaaGreatDoorW.PrintMore
attribute [local go_sem] max2_int min2_int max_two min_two max_three min_three max_four min_four   -- for this text's walks alone
set_option linter.unusedVariables false
set_option linter.unusedSimpArgs false
def strings_HasPrefix.f (a0:ByteArray) (a1:ByteArray):Option (Bool):=(stringslite_HasPrefix.f a0 a1).bind fun t155=>(some t155)
set_option maxHeartbeats 8000000 in
set_option maxRecDepth 100000 in
theorem strings_HasPrefix.calls (a0:ByteArray) (a1:ByteArray) (r:Bool) (w:World) (h:strings_HasPrefix.f a0 a1=some r) :
  Calls Tryz.prog 227 #[.string a0,.string a1] w fun e w'=>e=.returned (.bool r)∧Drawn0 w w':=by
 have H:((stringslite_HasPrefix.f a0 a1).bind fun t155=>(some t155))=some r:=h
 clear h
 replace H:=Option.bind_eq_some_iff.mp H
 obtain ⟨t155,A30,H⟩:=H
 replace H:(some t155)=some r:=H
 have A3:=Aside0.mk A30
 clear A30
 obtain rfl:=Option.some.inj H
 go_enter Tryz.func227,Tryz.ntmps227
 go_wp2_with (first | ((with_reducible refine gate_callee (f:=177) rfl ?_);refine goesL_ (some 7) rfl rfl Tryz.func177 (by kernel_rfl) rfl #[.string a0,.string a1] rfl (by (try simp only [List.map_toArray,List.map_cons,List.map_nil]);first | done | rfl | (simp only [List.length_drop,List.length_take];rfl)) ?_;(with_reducible refine (stringslite_HasPrefix.calls a0 a1 t155 _ A3.out).mono ?_);rintro e w' ⟨rfl,⟨nd,rfl⟩⟩;refine ⟨_,rfl,?_⟩))
 go_ret
 exact ⟨by first | rfl | (simp;done) | (simp [*];done),by repeat (first | exact Drawn0.refl _ | apply Drawn0.step)⟩
def cmp_isNaN_int.f (a0:Int):Option (Bool):=some (a0 != a0)
set_option maxHeartbeats 8000000 in
set_option maxRecDepth 100000 in
theorem cmp_isNaN_int.calls (a0:Int) (r:Bool) (w:World) (h:cmp_isNaN_int.f a0=some r) :
  Calls Tryz.prog 283 #[.int .i64 a0] w fun e w'=>e=.returned (.bool r)∧Drawn0 w w':=by
 have H:(some (a0 != a0))=some r:=h
 clear h
 obtain rfl:=Option.some.inj H
 go_enter Tryz.func283,Tryz.ntmps283
 go_wp2
 go_ret
 exact ⟨by first | rfl | (simp;done) | (simp [*];done),by repeat (first | exact Drawn0.refl _ | apply Drawn0.step)⟩
def cmp_Compare_int.f (a0:Int) (a1:Int):Option (Int):=(cmp_isNaN_int.f a0).bind fun t164=>((cmp_isNaN_int.f a1).bind fun t165=>(if t164=true then (if t165=true then (some 0) else (some (-1))) else (if t165=true then (some 1) else (if a0 < a1 then (some (-1)) else (if a0 > a1 then (some 1) else (some 0))))))
set_option maxHeartbeats 8000000 in
set_option maxRecDepth 100000 in
theorem cmp_Compare_int.calls (a0:Int) (a1:Int) (r:Int) (w:World) (h:cmp_Compare_int.f a0 a1=some r) :
  Calls Tryz.prog 263 #[.int .i64 a0,.int .i64 a1] w fun e w'=>e=.returned (.int .i64 r)∧Drawn0 w w':=by
 have H:((cmp_isNaN_int.f a0).bind fun t164=>((cmp_isNaN_int.f a1).bind fun t165=>(if t164=true then (if t165=true then (some 0) else (some (-1))) else (if t165=true then (some 1) else (if a0 < a1 then (some (-1)) else (if a0 > a1 then (some 1) else (some 0)))))))=some r:=h
 clear h
 replace H:=Option.bind_eq_some_iff.mp H
 obtain ⟨t164,A30,H⟩:=H
 replace H:((cmp_isNaN_int.f a1).bind fun t165=>(if t164=true then (if t165=true then (some 0) else (some (-1))) else (if t165=true then (some 1) else (if a0 < a1 then (some (-1)) else (if a0 > a1 then (some 1) else (some 0))))))=some r:=H
 have A3:=Aside0.mk A30
 clear A30
 replace H:=Option.bind_eq_some_iff.mp H
 obtain ⟨t165,A40,H⟩:=H
 replace H:(if t164=true then (if t165=true then (some 0) else (some (-1))) else (if t165=true then (some 1) else (if a0 < a1 then (some (-1)) else (if a0 > a1 then (some 1) else (some 0)))))=some r:=H
 have A4:=Aside0.mk A40
 clear A40
 by_cases c5:t164=true
 ·subst c5
  have H1:(if t165=true then (some 0) else (some (-1)))=some r:=by rw [if_pos rfl] at H;exact H
  clear H
  have H:=H1
  clear H1
  by_cases c6:t165=true
  ·subst c6
   have H1:(some 0)=some r:=by rw [if_pos rfl] at H;exact H
   clear H
   have H:=H1
   clear H1
   obtain rfl:=Option.some.inj H
   go_enter Tryz.func263,Tryz.ntmps263
   go_wp2_with (first | ((with_reducible refine gate_callee (f:=283) rfl ?_);refine goesL_ (some 8) rfl rfl Tryz.func283 (by kernel_rfl) rfl #[.int .i64 a0] rfl (by (try simp only [List.map_toArray,List.map_cons,List.map_nil]);first | done | rfl | (simp only [List.length_drop,List.length_take];rfl)) ?_;(with_reducible refine (cmp_isNaN_int.calls a0 true _ A3.out).mono ?_);rintro e w' ⟨rfl,⟨nd,rfl⟩⟩;refine ⟨_,rfl,?_⟩) | ((with_reducible refine gate_callee (f:=283) rfl ?_);refine goesL_ (some 10) rfl rfl Tryz.func283 (by kernel_rfl) rfl #[.int .i64 a1] rfl (by (try simp only [List.map_toArray,List.map_cons,List.map_nil]);first | done | rfl | (simp only [List.length_drop,List.length_take];rfl)) ?_;(with_reducible refine (cmp_isNaN_int.calls a1 true _ A4.out).mono ?_);rintro e w' ⟨rfl,⟨nd,rfl⟩⟩;refine ⟨_,rfl,?_⟩))
   go_ret
   exact ⟨by first | rfl | (simp;done) | (simp [*];done),by repeat (first | exact Drawn0.refl _ | apply Drawn0.step)⟩
  ·replace c6:=Bool.eq_false_iff.mpr c6
   subst c6
   have H1:(some (-1))=some r:=by rw [if_neg (show ¬ (false=true) by decide)] at H;exact H
   clear H
   have H:=H1
   clear H1
   obtain rfl:=Option.some.inj H
   go_enter Tryz.func263,Tryz.ntmps263
   go_wp2_with (first | ((with_reducible refine gate_callee (f:=283) rfl ?_);refine goesL_ (some 8) rfl rfl Tryz.func283 (by kernel_rfl) rfl #[.int .i64 a0] rfl (by (try simp only [List.map_toArray,List.map_cons,List.map_nil]);first | done | rfl | (simp only [List.length_drop,List.length_take];rfl)) ?_;(with_reducible refine (cmp_isNaN_int.calls a0 true _ A3.out).mono ?_);rintro e w' ⟨rfl,⟨nd,rfl⟩⟩;refine ⟨_,rfl,?_⟩) | ((with_reducible refine gate_callee (f:=283) rfl ?_);refine goesL_ (some 10) rfl rfl Tryz.func283 (by kernel_rfl) rfl #[.int .i64 a1] rfl (by (try simp only [List.map_toArray,List.map_cons,List.map_nil]);first | done | rfl | (simp only [List.length_drop,List.length_take];rfl)) ?_;(with_reducible refine (cmp_isNaN_int.calls a1 false _ A4.out).mono ?_);rintro e w' ⟨rfl,⟨nd,rfl⟩⟩;refine ⟨_,rfl,?_⟩))
   go_ret
   exact ⟨by first | rfl | (simp;done) | (simp [*];done),by repeat (first | exact Drawn0.refl _ | apply Drawn0.step)⟩
 ·replace c5:=Bool.eq_false_iff.mpr c5
  subst c5
  have H1:(if t165=true then (some 1) else (if a0 < a1 then (some (-1)) else (if a0 > a1 then (some 1) else (some 0))))=some r:=by rw [if_neg (show ¬ (false=true) by decide)] at H;exact H
  clear H
  have H:=H1
  clear H1
  by_cases c7:t165=true
  ·subst c7
   have H1:(some 1)=some r:=by rw [if_pos rfl] at H;exact H
   clear H
   have H:=H1
   clear H1
   obtain rfl:=Option.some.inj H
   go_enter Tryz.func263,Tryz.ntmps263
   go_wp2_with (first | ((with_reducible refine gate_callee (f:=283) rfl ?_);refine goesL_ (some 8) rfl rfl Tryz.func283 (by kernel_rfl) rfl #[.int .i64 a0] rfl (by (try simp only [List.map_toArray,List.map_cons,List.map_nil]);first | done | rfl | (simp only [List.length_drop,List.length_take];rfl)) ?_;(with_reducible refine (cmp_isNaN_int.calls a0 false _ A3.out).mono ?_);rintro e w' ⟨rfl,⟨nd,rfl⟩⟩;refine ⟨_,rfl,?_⟩) | ((with_reducible refine gate_callee (f:=283) rfl ?_);refine goesL_ (some 10) rfl rfl Tryz.func283 (by kernel_rfl) rfl #[.int .i64 a1] rfl (by (try simp only [List.map_toArray,List.map_cons,List.map_nil]);first | done | rfl | (simp only [List.length_drop,List.length_take];rfl)) ?_;(with_reducible refine (cmp_isNaN_int.calls a1 true _ A4.out).mono ?_);rintro e w' ⟨rfl,⟨nd,rfl⟩⟩;refine ⟨_,rfl,?_⟩))
   go_ret
   exact ⟨by first | rfl | (simp;done) | (simp [*];done),by repeat (first | exact Drawn0.refl _ | apply Drawn0.step)⟩
  ·replace c7:=Bool.eq_false_iff.mpr c7
   subst c7
   have H1:(if a0 < a1 then (some (-1)) else (if a0 > a1 then (some 1) else (some 0)))=some r:=by rw [if_neg (show ¬ (false=true) by decide)] at H;exact H
   clear H
   have H:=H1
   clear H1
   by_cases c8:a0 < a1
   ·rw [if_pos c8] at H
    have c8b0:decide (a0 < a1)=true:=decide_eq_true c8
    clear c8
    obtain rfl:=Option.some.inj H
    go_enter Tryz.func263,Tryz.ntmps263
    go_wp2_with (first | ((with_reducible refine gate_callee (f:=283) rfl ?_);refine goesL_ (some 8) rfl rfl Tryz.func283 (by kernel_rfl) rfl #[.int .i64 a0] rfl (by (try simp only [List.map_toArray,List.map_cons,List.map_nil]);first | done | rfl | (simp only [List.length_drop,List.length_take];rfl)) ?_;(with_reducible refine (cmp_isNaN_int.calls a0 false _ A3.out).mono ?_);rintro e w' ⟨rfl,⟨nd,rfl⟩⟩;refine ⟨_,rfl,?_⟩) | ((with_reducible refine gate_callee (f:=283) rfl ?_);refine goesL_ (some 10) rfl rfl Tryz.func283 (by kernel_rfl) rfl #[.int .i64 a1] rfl (by (try simp only [List.map_toArray,List.map_cons,List.map_nil]);first | done | rfl | (simp only [List.length_drop,List.length_take];rfl)) ?_;(with_reducible refine (cmp_isNaN_int.calls a1 false _ A4.out).mono ?_);rintro e w' ⟨rfl,⟨nd,rfl⟩⟩;refine ⟨_,rfl,?_⟩))
    go_ret
    exact ⟨by first | rfl | (simp;done) | (simp [*];done),by repeat (first | exact Drawn0.refl _ | apply Drawn0.step)⟩
   ·rw [if_neg c8] at H
    have c8b0:decide (a0 < a1)=false:=decide_eq_false c8
    clear c8
    by_cases c9:a0 > a1
    ·rw [if_pos c9] at H
     have c9b0:decide (a1 < a0)=true:=decide_eq_true c9
     clear c9
     obtain rfl:=Option.some.inj H
     go_enter Tryz.func263,Tryz.ntmps263
     go_wp2_with (first | ((with_reducible refine gate_callee (f:=283) rfl ?_);refine goesL_ (some 8) rfl rfl Tryz.func283 (by kernel_rfl) rfl #[.int .i64 a0] rfl (by (try simp only [List.map_toArray,List.map_cons,List.map_nil]);first | done | rfl | (simp only [List.length_drop,List.length_take];rfl)) ?_;(with_reducible refine (cmp_isNaN_int.calls a0 false _ A3.out).mono ?_);rintro e w' ⟨rfl,⟨nd,rfl⟩⟩;refine ⟨_,rfl,?_⟩) | ((with_reducible refine gate_callee (f:=283) rfl ?_);refine goesL_ (some 10) rfl rfl Tryz.func283 (by kernel_rfl) rfl #[.int .i64 a1] rfl (by (try simp only [List.map_toArray,List.map_cons,List.map_nil]);first | done | rfl | (simp only [List.length_drop,List.length_take];rfl)) ?_;(with_reducible refine (cmp_isNaN_int.calls a1 false _ A4.out).mono ?_);rintro e w' ⟨rfl,⟨nd,rfl⟩⟩;refine ⟨_,rfl,?_⟩))
     go_ret
     exact ⟨by first | rfl | (simp;done) | (simp [*];done),by repeat (first | exact Drawn0.refl _ | apply Drawn0.step)⟩
    ·rw [if_neg c9] at H
     have c9b0:decide (a1 < a0)=false:=decide_eq_false c9
     clear c9
     obtain rfl:=Option.some.inj H
     go_enter Tryz.func263,Tryz.ntmps263
     go_wp2_with (first | ((with_reducible refine gate_callee (f:=283) rfl ?_);refine goesL_ (some 8) rfl rfl Tryz.func283 (by kernel_rfl) rfl #[.int .i64 a0] rfl (by (try simp only [List.map_toArray,List.map_cons,List.map_nil]);first | done | rfl | (simp only [List.length_drop,List.length_take];rfl)) ?_;(with_reducible refine (cmp_isNaN_int.calls a0 false _ A3.out).mono ?_);rintro e w' ⟨rfl,⟨nd,rfl⟩⟩;refine ⟨_,rfl,?_⟩) | ((with_reducible refine gate_callee (f:=283) rfl ?_);refine goesL_ (some 10) rfl rfl Tryz.func283 (by kernel_rfl) rfl #[.int .i64 a1] rfl (by (try simp only [List.map_toArray,List.map_cons,List.map_nil]);first | done | rfl | (simp only [List.length_drop,List.length_take];rfl)) ?_;(with_reducible refine (cmp_isNaN_int.calls a1 false _ A4.out).mono ?_);rintro e w' ⟨rfl,⟨nd,rfl⟩⟩;refine ⟨_,rfl,?_⟩))
     go_ret
     exact ⟨by first | rfl | (simp;done) | (simp [*];done),by repeat (first | exact Drawn0.refl _ | apply Drawn0.step)⟩
def cmp_isNaN_uint32.f (a0:Int):Option (Bool):=some (a0 != a0)
set_option maxHeartbeats 8000000 in
set_option maxRecDepth 100000 in
theorem cmp_isNaN_uint32.calls (a0:Int) (r:Bool) (w:World) (h:cmp_isNaN_uint32.f a0=some r) :
  Calls Tryz.prog 284 #[.int .u32 a0] w fun e w'=>e=.returned (.bool r)∧Drawn0 w w':=by
 have H:(some (a0 != a0))=some r:=h
 clear h
 obtain rfl:=Option.some.inj H
 go_enter Tryz.func284,Tryz.ntmps284
 go_wp2
 go_ret
 exact ⟨by first | rfl | (simp;done) | (simp [*];done),by repeat (first | exact Drawn0.refl _ | apply Drawn0.step)⟩
def cmp_Compare_uint32.f (a0:Int) (a1:Int):Option (Int):=(cmp_isNaN_uint32.f a0).bind fun t166=>((cmp_isNaN_uint32.f a1).bind fun t167=>(if t166=true then (if t167=true then (some 0) else (some (-1))) else (if t167=true then (some 1) else (if a0 < a1 then (some (-1)) else (if a0 > a1 then (some 1) else (some 0))))))
set_option maxHeartbeats 8000000 in
set_option maxRecDepth 100000 in
theorem cmp_Compare_uint32.calls (a0:Int) (a1:Int) (r:Int) (w:World) (h:cmp_Compare_uint32.f a0 a1=some r) :
  Calls Tryz.prog 264 #[.int .u32 a0,.int .u32 a1] w fun e w'=>e=.returned (.int .i64 r)∧Drawn0 w w':=by
 have H:((cmp_isNaN_uint32.f a0).bind fun t166=>((cmp_isNaN_uint32.f a1).bind fun t167=>(if t166=true then (if t167=true then (some 0) else (some (-1))) else (if t167=true then (some 1) else (if a0 < a1 then (some (-1)) else (if a0 > a1 then (some 1) else (some 0)))))))=some r:=h
 clear h
 replace H:=Option.bind_eq_some_iff.mp H
 obtain ⟨t166,A30,H⟩:=H
 replace H:((cmp_isNaN_uint32.f a1).bind fun t167=>(if t166=true then (if t167=true then (some 0) else (some (-1))) else (if t167=true then (some 1) else (if a0 < a1 then (some (-1)) else (if a0 > a1 then (some 1) else (some 0))))))=some r:=H
 have A3:=Aside0.mk A30
 clear A30
 replace H:=Option.bind_eq_some_iff.mp H
 obtain ⟨t167,A40,H⟩:=H
 replace H:(if t166=true then (if t167=true then (some 0) else (some (-1))) else (if t167=true then (some 1) else (if a0 < a1 then (some (-1)) else (if a0 > a1 then (some 1) else (some 0)))))=some r:=H
 have A4:=Aside0.mk A40
 clear A40
 by_cases c5:t166=true
 ·subst c5
  have H1:(if t167=true then (some 0) else (some (-1)))=some r:=by rw [if_pos rfl] at H;exact H
  clear H
  have H:=H1
  clear H1
  by_cases c6:t167=true
  ·subst c6
   have H1:(some 0)=some r:=by rw [if_pos rfl] at H;exact H
   clear H
   have H:=H1
   clear H1
   obtain rfl:=Option.some.inj H
   go_enter Tryz.func264,Tryz.ntmps264
   go_wp2_with (first | ((with_reducible refine gate_callee (f:=284) rfl ?_);refine goesL_ (some 8) rfl rfl Tryz.func284 (by kernel_rfl) rfl #[.int .u32 a0] rfl (by (try simp only [List.map_toArray,List.map_cons,List.map_nil]);first | done | rfl | (simp only [List.length_drop,List.length_take];rfl)) ?_;(with_reducible refine (cmp_isNaN_uint32.calls a0 true _ A3.out).mono ?_);rintro e w' ⟨rfl,⟨nd,rfl⟩⟩;refine ⟨_,rfl,?_⟩) | ((with_reducible refine gate_callee (f:=284) rfl ?_);refine goesL_ (some 10) rfl rfl Tryz.func284 (by kernel_rfl) rfl #[.int .u32 a1] rfl (by (try simp only [List.map_toArray,List.map_cons,List.map_nil]);first | done | rfl | (simp only [List.length_drop,List.length_take];rfl)) ?_;(with_reducible refine (cmp_isNaN_uint32.calls a1 true _ A4.out).mono ?_);rintro e w' ⟨rfl,⟨nd,rfl⟩⟩;refine ⟨_,rfl,?_⟩))
   go_ret
   exact ⟨by first | rfl | (simp;done) | (simp [*];done),by repeat (first | exact Drawn0.refl _ | apply Drawn0.step)⟩
  ·replace c6:=Bool.eq_false_iff.mpr c6
   subst c6
   have H1:(some (-1))=some r:=by rw [if_neg (show ¬ (false=true) by decide)] at H;exact H
   clear H
   have H:=H1
   clear H1
   obtain rfl:=Option.some.inj H
   go_enter Tryz.func264,Tryz.ntmps264
   go_wp2_with (first | ((with_reducible refine gate_callee (f:=284) rfl ?_);refine goesL_ (some 8) rfl rfl Tryz.func284 (by kernel_rfl) rfl #[.int .u32 a0] rfl (by (try simp only [List.map_toArray,List.map_cons,List.map_nil]);first | done | rfl | (simp only [List.length_drop,List.length_take];rfl)) ?_;(with_reducible refine (cmp_isNaN_uint32.calls a0 true _ A3.out).mono ?_);rintro e w' ⟨rfl,⟨nd,rfl⟩⟩;refine ⟨_,rfl,?_⟩) | ((with_reducible refine gate_callee (f:=284) rfl ?_);refine goesL_ (some 10) rfl rfl Tryz.func284 (by kernel_rfl) rfl #[.int .u32 a1] rfl (by (try simp only [List.map_toArray,List.map_cons,List.map_nil]);first | done | rfl | (simp only [List.length_drop,List.length_take];rfl)) ?_;(with_reducible refine (cmp_isNaN_uint32.calls a1 false _ A4.out).mono ?_);rintro e w' ⟨rfl,⟨nd,rfl⟩⟩;refine ⟨_,rfl,?_⟩))
   go_ret
   exact ⟨by first | rfl | (simp;done) | (simp [*];done),by repeat (first | exact Drawn0.refl _ | apply Drawn0.step)⟩
 ·replace c5:=Bool.eq_false_iff.mpr c5
  subst c5
  have H1:(if t167=true then (some 1) else (if a0 < a1 then (some (-1)) else (if a0 > a1 then (some 1) else (some 0))))=some r:=by rw [if_neg (show ¬ (false=true) by decide)] at H;exact H
  clear H
  have H:=H1
  clear H1
  by_cases c7:t167=true
  ·subst c7
   have H1:(some 1)=some r:=by rw [if_pos rfl] at H;exact H
   clear H
   have H:=H1
   clear H1
   obtain rfl:=Option.some.inj H
   go_enter Tryz.func264,Tryz.ntmps264
   go_wp2_with (first | ((with_reducible refine gate_callee (f:=284) rfl ?_);refine goesL_ (some 8) rfl rfl Tryz.func284 (by kernel_rfl) rfl #[.int .u32 a0] rfl (by (try simp only [List.map_toArray,List.map_cons,List.map_nil]);first | done | rfl | (simp only [List.length_drop,List.length_take];rfl)) ?_;(with_reducible refine (cmp_isNaN_uint32.calls a0 false _ A3.out).mono ?_);rintro e w' ⟨rfl,⟨nd,rfl⟩⟩;refine ⟨_,rfl,?_⟩) | ((with_reducible refine gate_callee (f:=284) rfl ?_);refine goesL_ (some 10) rfl rfl Tryz.func284 (by kernel_rfl) rfl #[.int .u32 a1] rfl (by (try simp only [List.map_toArray,List.map_cons,List.map_nil]);first | done | rfl | (simp only [List.length_drop,List.length_take];rfl)) ?_;(with_reducible refine (cmp_isNaN_uint32.calls a1 true _ A4.out).mono ?_);rintro e w' ⟨rfl,⟨nd,rfl⟩⟩;refine ⟨_,rfl,?_⟩))
   go_ret
   exact ⟨by first | rfl | (simp;done) | (simp [*];done),by repeat (first | exact Drawn0.refl _ | apply Drawn0.step)⟩
  ·replace c7:=Bool.eq_false_iff.mpr c7
   subst c7
   have H1:(if a0 < a1 then (some (-1)) else (if a0 > a1 then (some 1) else (some 0)))=some r:=by rw [if_neg (show ¬ (false=true) by decide)] at H;exact H
   clear H
   have H:=H1
   clear H1
   by_cases c8:a0 < a1
   ·rw [if_pos c8] at H
    have c8b0:decide (a0 < a1)=true:=decide_eq_true c8
    clear c8
    obtain rfl:=Option.some.inj H
    go_enter Tryz.func264,Tryz.ntmps264
    go_wp2_with (first | ((with_reducible refine gate_callee (f:=284) rfl ?_);refine goesL_ (some 8) rfl rfl Tryz.func284 (by kernel_rfl) rfl #[.int .u32 a0] rfl (by (try simp only [List.map_toArray,List.map_cons,List.map_nil]);first | done | rfl | (simp only [List.length_drop,List.length_take];rfl)) ?_;(with_reducible refine (cmp_isNaN_uint32.calls a0 false _ A3.out).mono ?_);rintro e w' ⟨rfl,⟨nd,rfl⟩⟩;refine ⟨_,rfl,?_⟩) | ((with_reducible refine gate_callee (f:=284) rfl ?_);refine goesL_ (some 10) rfl rfl Tryz.func284 (by kernel_rfl) rfl #[.int .u32 a1] rfl (by (try simp only [List.map_toArray,List.map_cons,List.map_nil]);first | done | rfl | (simp only [List.length_drop,List.length_take];rfl)) ?_;(with_reducible refine (cmp_isNaN_uint32.calls a1 false _ A4.out).mono ?_);rintro e w' ⟨rfl,⟨nd,rfl⟩⟩;refine ⟨_,rfl,?_⟩))
    go_ret
    exact ⟨by first | rfl | (simp;done) | (simp [*];done),by repeat (first | exact Drawn0.refl _ | apply Drawn0.step)⟩
   ·rw [if_neg c8] at H
    have c8b0:decide (a0 < a1)=false:=decide_eq_false c8
    clear c8
    by_cases c9:a0 > a1
    ·rw [if_pos c9] at H
     have c9b0:decide (a1 < a0)=true:=decide_eq_true c9
     clear c9
     obtain rfl:=Option.some.inj H
     go_enter Tryz.func264,Tryz.ntmps264
     go_wp2_with (first | ((with_reducible refine gate_callee (f:=284) rfl ?_);refine goesL_ (some 8) rfl rfl Tryz.func284 (by kernel_rfl) rfl #[.int .u32 a0] rfl (by (try simp only [List.map_toArray,List.map_cons,List.map_nil]);first | done | rfl | (simp only [List.length_drop,List.length_take];rfl)) ?_;(with_reducible refine (cmp_isNaN_uint32.calls a0 false _ A3.out).mono ?_);rintro e w' ⟨rfl,⟨nd,rfl⟩⟩;refine ⟨_,rfl,?_⟩) | ((with_reducible refine gate_callee (f:=284) rfl ?_);refine goesL_ (some 10) rfl rfl Tryz.func284 (by kernel_rfl) rfl #[.int .u32 a1] rfl (by (try simp only [List.map_toArray,List.map_cons,List.map_nil]);first | done | rfl | (simp only [List.length_drop,List.length_take];rfl)) ?_;(with_reducible refine (cmp_isNaN_uint32.calls a1 false _ A4.out).mono ?_);rintro e w' ⟨rfl,⟨nd,rfl⟩⟩;refine ⟨_,rfl,?_⟩))
     go_ret
     exact ⟨by first | rfl | (simp;done) | (simp [*];done),by repeat (first | exact Drawn0.refl _ | apply Drawn0.step)⟩
    ·rw [if_neg c9] at H
     have c9b0:decide (a1 < a0)=false:=decide_eq_false c9
     clear c9
     obtain rfl:=Option.some.inj H
     go_enter Tryz.func264,Tryz.ntmps264
     go_wp2_with (first | ((with_reducible refine gate_callee (f:=284) rfl ?_);refine goesL_ (some 8) rfl rfl Tryz.func284 (by kernel_rfl) rfl #[.int .u32 a0] rfl (by (try simp only [List.map_toArray,List.map_cons,List.map_nil]);first | done | rfl | (simp only [List.length_drop,List.length_take];rfl)) ?_;(with_reducible refine (cmp_isNaN_uint32.calls a0 false _ A3.out).mono ?_);rintro e w' ⟨rfl,⟨nd,rfl⟩⟩;refine ⟨_,rfl,?_⟩) | ((with_reducible refine gate_callee (f:=284) rfl ?_);refine goesL_ (some 10) rfl rfl Tryz.func284 (by kernel_rfl) rfl #[.int .u32 a1] rfl (by (try simp only [List.map_toArray,List.map_cons,List.map_nil]);first | done | rfl | (simp only [List.length_drop,List.length_take];rfl)) ?_;(with_reducible refine (cmp_isNaN_uint32.calls a1 false _ A4.out).mono ?_);rintro e w' ⟨rfl,⟨nd,rfl⟩⟩;refine ⟨_,rfl,?_⟩))
     go_ret
     exact ⟨by first | rfl | (simp;done) | (simp [*];done),by repeat (first | exact Drawn0.refl _ | apply Drawn0.step)⟩
def limbs_shortly.l0:Nat→List Int→Int→List Int→Int→Int→Int→Option (List Int × Int)
 | 0,_,_,_,_,_,_=>none
 | k+1,x0,x1,x6,x7,x14,x15=>if x15 < x14 then (if 0≤(wrap64 ((wrap64 ((x0.length:Int) - 1)) - x15)) then (if (wrap64 ((wrap64 ((x0.length:Int) - 1)) - x15)) < (x0.length:Int) then (if (IntKind.u64.wrap (x1))=0 then (none) else (if (wrap64 ((wrap64 ((x0.length:Int) - 1)) - x15)) < (x6.length:Int) then (limbs_shortly.l0 k x0 x1 (x6.set ((wrap64 ((wrap64 ((x0.length:Int) - 1)) - x15)):Int).toNat ((IntKind.u64.wrap (Int.tdiv (IntKind.u64.wrap ((IntKind.u64.wrap (x7 * 1000000000))+(IntKind.u64.wrap (rd x0 (wrap64 ((wrap64 ((x0.length:Int) - 1)) - x15)))))) (IntKind.u64.wrap (x1)))) % 4294967296)) (Int.tmod (IntKind.u64.wrap ((IntKind.u64.wrap (x7 * 1000000000))+(IntKind.u64.wrap (rd x0 (wrap64 ((wrap64 ((x0.length:Int) - 1)) - x15)))))) (IntKind.u64.wrap (x1))) x14 (wrap64 (x15+1))) else (none))) else (none)) else (none)) else (some (x6,(x7) % 4294967296))
def limbs_shortly.f (k:Nat) (l0:List Int) (a1:Int):Option (List Int × Int):=if 0≤(l0.length:Int) then (if ((l0.length:Int):Int).toNat≤70368744177664 then (limbs_shortly.l0 k l0 a1 (List.replicate ((l0.length:Int):Int).toNat 0) 0 (l0.length:Int) 0) else (none)) else (none)
theorem limbs_shortly.mono_l:∀ k,(∀ y0 y1 y2 y3 y4 y5,LeO (limbs_shortly.l0 k y0 y1 y2 y3 y4 y5) (limbs_shortly.l0 (k+1) y0 y1 y2 y3 y4 y5))
 | 0=>fun _ _ _ _ _ _ r h=>by simp [limbs_shortly.l0] at h
 | k+1=>by
  have ih0:=limbs_shortly.mono_l k
  ·intro y0 y1 y2 y3 y4 y5
   unfold limbs_shortly.l0
   repeat' first
   | (with_reducible exact ih0 _ _ _ _ _ _)
   | (with_reducible exact LeO.refl _)
   | (with_reducible exact LeO.none _)
   | (with_reducible refine LeO.ite ?_ ?_)
   | (with_reducible refine LeO.bind ?_ (fun _=>?_))
   | exact ih0 _ _ _ _ _ _
   | exact LeO.none _
   | refine LeO.ite ?_ ?_
   | refine LeO.bind ?_ (fun _=>?_)
theorem limbs_shortly.mono:∀ a0 a1 k,LeO (limbs_shortly.f k a0 a1) (limbs_shortly.f (k+1) a0 a1):=by
 intro a0 a1 k
 have ih0:=limbs_shortly.mono_l k
 unfold limbs_shortly.f
 repeat' first
   | (with_reducible exact ih0 _ _ _ _ _ _)
   | (with_reducible exact LeO.refl _)
   | (with_reducible exact LeO.none _)
   | (with_reducible refine LeO.ite ?_ ?_)
   | (with_reducible refine LeO.bind ?_ (fun _=>?_))
   | exact ih0 _ _ _ _ _ _
   | exact LeO.none _
   | refine LeO.ite ?_ ?_
   | refine LeO.bind ?_ (fun _=>?_)
def limbs_shortly.T8:Bool × List (List Nat × List Nat):=(true,[([],[]),([],[]),([],[]),([],[]),([3],[3]),([2,4],[2,4]),([5],[5]),([],[]),([],[]),([8],[8]),([7,9],[7,9]),([0,1,0,1,2,3,4,5,6],[0,1]),([11,6,0,1,2,3,4,5,6],[6,11]),([10,12,0,1,2,3,4,5,6,7,8,9,10,11,12],[2,7,10])])
def limbs_shortly.B8:List Nat:=[0,0,0,0,8,28,60,0,0,256,896,127,2175,8191]
theorem limbs_shortly.tab8:rtab .any (opsOf Tryz.f259 8)=limbs_shortly.T8:=by kernel_rfl
theorem limbs_shortly.bits8:waitsOk limbs_shortly.T8.2 limbs_shortly.B8=true:=by kernel_rfl
set_option maxHeartbeats 8000000 in
set_option maxRecDepth 100000 in
theorem limbs_shortly.calls (k:Nat) (A0:Option Addr) (c0:Nat) (l0:List Int) (a1:Int) (r1:List Int) (r2:Int) (w:World) (hr0:Kd.C (Kd.int .u32) w A0 l0.length l0) (hc0:l0.length≤c0) (h:limbs_shortly.f k l0 a1=some (r1,r2)) :
  Calls Tryz.prog 259 #[.slice A0 l0.length c0,.int .u32 a1] w fun e w'=>∃ v0_:Value,e=.returned (.tuple #[v0_,.int .u32 r2])∧Kd.R (Kd.int .u32) 270 w' w.heap.size (fun _=>True) v0_ r1∧Below w.heap.size w w':=by
 have HR0:=Aside0.mk hr0
 have HC0:=Aside0.mk hc0
 clear hr0 hc0
 have HB:=Aside0.mk (Below.refl w.heap.size w)
 have H:(if 0≤(l0.length:Int) then (if ((l0.length:Int):Int).toNat≤70368744177664 then (limbs_shortly.l0 k l0 a1 (List.replicate ((l0.length:Int):Int).toNat 0) 0 (l0.length:Int) 0) else (none)) else (none))=some (r1,r2):=h
 clear h
 by_cases c3:0≤(l0.length:Int)
 ·rw [if_pos c3] at H
  have c3b0:=eq_true c3
  have c3b1:decide (0≤(l0.length:Int))=true:=decide_eq_true c3
  clear c3
  by_cases c4:((l0.length:Int):Int).toNat≤70368744177664
  ·rw [if_pos c4] at H
   have c4b0:=eq_true c4
   have c4b1:decide (((l0.length:Int):Int).toNat≤70368744177664)=true:=decide_eq_true c4
   clear c4
   obtain ⟨y170,hy170⟩:∃ y_:List Int,y_=(List.replicate ((l0.length:Int):Int).toNat 0):=⟨_,rfl⟩
   replace H:(limbs_shortly.l0 k l0 a1 y170 0 (l0.length:Int) 0)=some (r1,r2):=by first | (rw [hy170];with_reducible exact H) | (have H2_:=(Option.bind_some _ _).symm.trans H;rw [hy170];with_reducible exact H2_) | (have H2_:=(Option.bind_some _ _).symm.trans H;with_reducible exact H2_) | with_reducible exact H | (rw [hy170];exact H) | exact H
   have Ny170:=Aside0.mk hy170
   clear hy170
   have H':=Aside0.mk H
   clear H
   go_enter Tryz.func259,Tryz.ntmps259
   go_wp2_with (first | ((with_reducible refine gate_dst (N:=12) rfl ?_);refine Kd.R_make (Kd.int .u32) _ 270 rfl (N:=12) rfl 232 _ _ rfl (l0.length:Int) rfl rfl Tryz.underlying232 (.int .u32 0) 4 info270 rfl (by decide) (by omega) 0 (ok:=fun _=>True) (okp:=fun _=>True) rfl (fun _ hk=>hk) trivial (of_decide_eq_true (by first | (with_reducible assumption) | assumption)) (Nat.le_trans (Nat.mul_le_mul_right _ (of_decide_eq_true (by first | (with_reducible assumption) | assumption):(l0.length:Int).toNat≤70368744177664)) (by omega)) (Below.refl _ _) (Nat.le_refl _) ?_;intro v171 w5 ho6 hb hg_ hnew_;clear hg_ hnew_;(first | rw [← Ny170.out] at ho6 | (simp only [Int.reduceToNat] at ho6;rw [← Ny170.out] at ho6));have n0_:=Aside0.mk (Kd.R_lower ho6 (below_size (by repeat (first | (with_reducible first | exact HB.out | apply below_alloc | apply pw_below_drewN | apply below_drew1) | exact HB.out))));have n1_:=Aside0.mk (below_step (by repeat (first | (with_reducible first | exact HB.out | apply below_alloc | apply pw_below_drewN | apply below_drew1) | exact HB.out)) hb);clear HB;have HO172:=n0_;have HB:=n1_;clear n0_ n1_;clear hb ho6))
   go_loopg [7,15] k (fun kq v7 v15 w'=>∃ (x6_1:List Int) (x7_1:Int) (x15_1:Int),v7=.int .u64 x7_1∧v15=.int .i64 x15_1∧Aside0 (limbs_shortly.l0 kq l0 a1 x6_1 x7_1 (l0.length:Int) x15_1=some (r1,r2))∧Aside0 (kq≤k)∧Aside0 (Kd.R (Kd.int .u32) 270 w' w.heap.size (fun _=>True) v171 x6_1)∧Aside0 (Below w.heap.size w w'))
   case atStart=>exact ⟨(y170),(0),(0),(by first | rfl | (simp;done) | (simp [*];done)),(by first | rfl | (simp;done) | (simp [*];done)),H',⟨Nat.le_refl _⟩,⟨by (with_reducible repeat (first | apply Kd.R_alloc | apply Kd.R_drewN | apply Kd.R_drew));exact HO172.out⟩,⟨by repeat (first | (with_reducible first | exact HB.out | apply below_alloc | apply pw_below_drewN | apply below_drew1) | exact HB.out)⟩⟩
   case round =>
    clear H'
    try clear c2
    try clear p2
    try clear c3
    try clear c3b0
    try clear c3b1
    try clear c4
    try clear c4b0
    try clear c4b1
    obtain ⟨x6_1,x7_1,x15_1,rfl,rfl,HA,HK1,HO_6,HB⟩:=hrel
    cases gk with
    | zero=>exact absurd HA.out (by simp [limbs_shortly.l0])
    | succ k1 =>
     have H:=HA.out
     clear HA
     simp only [limbs_shortly.l0] at H
     by_cases c7:x15_1 < (l0.length:Int)
     ·rw [if_pos c7] at H
      have c7b0:decide (x15_1 < (l0.length:Int))=true:=decide_eq_true c7
      clear c7
      obtain ⟨ji8,hji8⟩:∃ j_:Int,(wrap64 ((wrap64 ((l0.length:Int) - 1)) - x15_1))=j_:=⟨_,rfl⟩
      replace H:(if 0≤(ji8) then (if (ji8) < (l0.length:Int) then (if (IntKind.u64.wrap (a1))=0 then (none) else (if (ji8) < (x6_1.length:Int) then (limbs_shortly.l0 k1 l0 a1 (x6_1.set ((ji8):Int).toNat ((IntKind.u64.wrap (Int.tdiv (IntKind.u64.wrap ((IntKind.u64.wrap (x7_1 * 1000000000))+(IntKind.u64.wrap (rd l0 (ji8))))) (IntKind.u64.wrap (a1)))) % 4294967296)) (Int.tmod (IntKind.u64.wrap ((IntKind.u64.wrap (x7_1 * 1000000000))+(IntKind.u64.wrap (rd l0 (ji8))))) (IntKind.u64.wrap (a1))) (l0.length:Int) (wrap64 (x15_1+1))) else (none))) else (none)) else (none))=some (r1,r2):=by first | (rw [hji8] at H;exact H) | (simp only [hji8] at H ⊢;exact H)
      have hji8w:(IntKind.i64.wrap ((wrap64 ((l0.length:Int) - 1)) - x15_1))=ji8:=(i64_w _).trans hji8
      by_cases c9:0≤(ji8)
      ·rw [if_pos c9] at H
       have c9b0:decide (0≤(ji8))=true:=decide_eq_true c9
       clear c9
       by_cases c10:(ji8) < (l0.length:Int)
       ·rw [if_pos c10] at H
        have c10b0:decide ((ji8) < (l0.length:Int))=true:=decide_eq_true c10
        clear c10
        by_cases c11:(IntKind.u64.wrap (a1))=0
        ·rw [if_pos c11] at H
         exact absurd H (by simp)
        ·rw [if_neg c11] at H
         have c11b0:((IntKind.u64.wrap (a1)) == 0)=false:=beq_eq_false_iff_ne.mpr c11
         have c11b1:((IntKind.u64.wrap (a1)) != 0)=true:=bne_iff_ne.mpr c11
         by_cases c12:(ji8) < (x6_1.length:Int)
         ·rw [if_pos c12] at H
          have c12b0:decide ((ji8) < (x6_1.length:Int))=true:=decide_eq_true c12
          clear c12
          obtain ⟨y174,hy174⟩:∃ y_:List Int,y_=(x6_1.set ((ji8):Int).toNat ((IntKind.u64.wrap (Int.tdiv (IntKind.u64.wrap ((IntKind.u64.wrap (x7_1 * 1000000000))+(IntKind.u64.wrap (rd l0 (ji8))))) (IntKind.u64.wrap (a1)))) % 4294967296)):=⟨_,rfl⟩
          replace H:(limbs_shortly.l0 k1 l0 a1 y174 (Int.tmod (IntKind.u64.wrap ((IntKind.u64.wrap (x7_1 * 1000000000))+(IntKind.u64.wrap (rd l0 (ji8))))) (IntKind.u64.wrap (a1))) (l0.length:Int) (wrap64 (x15_1+1)))=some (r1,r2):=by first | (rw [hy174];with_reducible exact H) | (have H2_:=(Option.bind_some _ _).symm.trans H;rw [hy174];with_reducible exact H2_) | (have H2_:=(Option.bind_some _ _).symm.trans H;with_reducible exact H2_) | with_reducible exact H | (rw [hy174];exact H) | exact H
          have Ny174:=Aside0.mk hy174
          clear hy174
          have H':=Aside0.mk H
          clear H
          have p173:0≤((ji8):Int):=of_decide_eq_true (by first | (with_reducible assumption) | assumption)
          have q173:(ji8) < (l0.length:Int):=of_decide_eq_true (by first | (with_reducible assumption) | assumption)
          obtain ⟨ad173,e173,hx173_0⟩:=Kd.at_int HR0.out (ji8) p173 q173
          cases e173
          replace hx173_0:=(HB.out.cell (World.block_lt_of_cell? w _ hx173_0)).trans hx173_0
          replace p173:=eq_true p173
          replace q173:=eq_true q173
          try go_wp2
          have n0_:=Aside0.mk (Kd.R_drew HO_6.out)
          have n1_:=Aside0.mk (below_drew1 HB.out)
          clear HO_6
          clear HB
          have HO_6:=n0_
          have HB:=n1_
          clear n0_ n1_
          have p13:0≤((ji8):Int):=of_decide_eq_true (by first | (with_reducible assumption) | assumption)
          have q13:((ji8):Int) < ((x6_1.length:Int):Int):=of_decide_eq_true (by first | (with_reducible assumption) | assumption)
          obtain ⟨go13,co13,eo13,gb13,gl13,cl13,HG13⟩:=Kd.R_form HO_6.out (by omega)
          (first | cases eo13 | (injection eo13 with ea_ en_ ec_;(first | subst ea_ | (injection ea_ with ea_;subst ea_));subst ec_;clear en_))
          have GB13:=Aside0.mk gb13
          have GG13:=Aside0.mk HG13
          clear gb13 gl13 HG13
          obtain ⟨hx13_0,hf13_0⟩:=Kd.R_celln 0 HO_6.out ((ji8):Int) p13 q13
          replace p13:=eq_true p13
          replace q13:=eq_true q13
          have HP15:=Kd.R_putn HO_6.out ((ji8):Int) ((IntKind.u64.wrap (Int.tdiv (IntKind.u64.wrap ((IntKind.u64.wrap (x7_1 * 1000000000))+(IntKind.u64.wrap (rd l0 (ji8))))) (IntKind.u64.wrap (a1)))) % 4294967296)
          rw [← Ny174.out] at HP15
          have HQ15:=Aside0.mk HP15
          clear HP15
          refine start_ (n:=14) (S:=fun w'=>True) (ds:=[12]) #[false,false,false,false,false,false,false,false,false,false,false,false,false,false] (by kernel_rfl) rfl rfl trivial (fun hHeld=>?_);refine with_tabW limbs_shortly.tab8 limbs_shortly.bits8 (fun HT_ HW_=>?_)
          generalize wr.drew=w14 at HO_6 HB GG13 HQ15 hf13_0 hx13_0 hHeld ⊢
          refine pure_ (i:=0) (N:=some 31) (v:=?_) (a':=?_) #[true,false,false,false,false,false,false,false,false,false,false,false,false,false] rfl rfl (any_of HT_.out (by kernel_rfl)) (fun _ _ _ h=>h) (Or.inl ⟨by rfl,?_⟩) ?_ ?_
          rotate_left
          ·intro w'
           go_simp
           with_reducible rfl
          rotate_left
          ·simp only [Act.put,List.setIfInBounds_toArray,List.set_cons_zero,List.set_cons_succ,i64_w,i32_w]
           rfl
          refine pure_ (i:=1) (N:=some 32) (v:=?_) (a':=?_) #[true,true,false,false,false,false,false,false,false,false,false,false,false,false] rfl rfl (any_of HT_.out (by kernel_rfl)) (fun _ _ _ h=>h) (Or.inl ⟨by rfl,?_⟩) ?_ ?_
          rotate_left
          ·intro w'
           go_simp
           with_reducible rfl
          rotate_left
          ·simp only [Act.put,List.setIfInBounds_toArray,List.set_cons_zero,List.set_cons_succ,i64_w,i32_w]
           rfl
          refine pure_ (i:=2) (N:=some 33) (v:=?_) (a':=?_) #[true,true,true,false,false,false,false,false,false,false,false,false,false,false] rfl rfl (any_of HT_.out (by kernel_rfl)) (fun _ _ _ h=>h) (Or.inl ⟨by rfl,?_⟩) ?_ ?_
          rotate_left
          ·intro w'
           go_simp
           with_reducible rfl
          rotate_left
          ·simp only [Act.put,List.setIfInBounds_toArray,List.set_cons_zero,List.set_cons_succ,i64_w,i32_w]
           rfl
          refine pure_ (i:=3) (N:=some 34) (v:=?_) (a':=?_) #[true,true,true,true,false,false,false,false,false,false,false,false,false,false] rfl rfl (any_of HT_.out (by kernel_rfl)) (fun _ _ _ h=>h) (Or.inl ⟨by rfl,?_⟩) ?_ ?_
          rotate_left
          ·intro w'
           go_simp
           with_reducible rfl
          rotate_left
          ·simp only [Act.put,List.setIfInBounds_toArray,List.set_cons_zero,List.set_cons_succ,i64_w,i32_w]
           rfl
          refine pure_ (i:=4) (N:=some 35) (v:=?_) (a':=?_) #[true,true,true,true,true,false,false,false,false,false,false,false,false,false] rfl rfl (any_of HT_.out (by kernel_rfl)) (fun _ _ _ h=>h) (Or.inl ⟨by rfl,?_⟩) ?_ ?_
          rotate_left
          ·intro w'
           go_simp
           with_reducible rfl
          rotate_left
          ·simp only [Act.put,List.setIfInBounds_toArray,List.set_cons_zero,List.set_cons_succ,i64_w,i32_w]
           rfl
          refine pure_ (i:=5) (N:=some 36) (v:=?_) (a':=?_) #[true,true,true,true,true,true,false,false,false,false,false,false,false,false] rfl rfl (any_of HT_.out (by kernel_rfl)) (fun _ _ _ h=>h) (Or.inl ⟨by rfl,?_⟩) ?_ ?_
          rotate_left
          ·intro w'
           go_simp
           with_reducible rfl
          rotate_left
          ·simp only [Act.put,List.setIfInBounds_toArray,List.set_cons_zero,List.set_cons_succ,i64_w,i32_w]
           rfl
          refine pure_ (i:=6) (N:=some 37) (v:=?_) (a':=?_) #[true,true,true,true,true,true,true,false,false,false,false,false,false,false] rfl rfl (any_of HT_.out (by kernel_rfl)) (fun _ _ _ h=>h) (Or.inl ⟨by rfl,?_⟩) ?_ ?_
          rotate_left
          ·intro w'
           go_simp
           with_reducible rfl
          rotate_left
          ·simp only [Act.put,List.setIfInBounds_toArray,List.set_cons_zero,List.set_cons_succ,i64_w,i32_w]
           rfl
          refine pure_ (i:=7) (N:=some 38) (v:=?_) (a':=?_) #[true,true,true,true,true,true,true,true,false,false,false,false,false,false] rfl rfl (any_of HT_.out (by kernel_rfl)) (fun _ _ _ h=>h) (Or.inl ⟨by rfl,?_⟩) ?_ ?_
          rotate_left
          ·intro w'
           go_simp
           with_reducible rfl
          rotate_left
          ·simp only [Act.put,List.setIfInBounds_toArray,List.set_cons_zero,List.set_cons_succ,i64_w,i32_w]
           rfl
          refine pure_ (i:=8) (N:=some 39) (v:=?_) (a':=?_) #[true,true,true,true,true,true,true,true,true,false,false,false,false,false] rfl rfl (any_of HT_.out (by kernel_rfl)) (fun _ _ _ h=>h) (Or.inl ⟨by rfl,?_⟩) ?_ ?_
          rotate_left
          ·intro w'
           go_simp
           with_reducible rfl
          rotate_left
          ·simp only [Act.put,List.setIfInBounds_toArray,List.set_cons_zero,List.set_cons_succ,i64_w,i32_w]
           rfl
          refine pure_ (i:=9) (N:=some 40) (v:=?_) (a':=?_) #[true,true,true,true,true,true,true,true,true,true,false,false,false,false] rfl rfl (any_of HT_.out (by kernel_rfl)) (fun _ _ _ h=>h) (Or.inl ⟨by rfl,?_⟩) ?_ ?_
          rotate_left
          ·intro w'
           go_simp
           with_reducible rfl
          rotate_left
          ·simp only [Act.put,List.setIfInBounds_toArray,List.set_cons_zero,List.set_cons_succ,i64_w,i32_w]
           rfl
          refine pure_ (i:=10) (N:=some 41) (v:=?_) (a':=?_) #[true,true,true,true,true,true,true,true,true,true,true,false,false,false] rfl rfl (any_of HT_.out (by kernel_rfl)) (fun _ _ _ h=>h) (Or.inl ⟨by rfl,?_⟩) ?_ ?_
          rotate_left
          ·intro w'
           go_simp
           with_reducible rfl
          rotate_left
          ·simp only [Act.put,List.setIfInBounds_toArray,List.set_cons_zero,List.set_cons_succ,i64_w,i32_w]
           rfl
          refine pure_ (i:=11) (N:=some 42) (v:=?_) (a':=?_) #[true,true,true,true,true,true,true,true,true,true,true,true,false,false] rfl rfl (any_of HT_.out (by kernel_rfl)) (fun _ _ _ h=>h) (Or.inl ⟨by rfl,?_⟩) ?_ ?_
          rotate_left
          ·intro w'
           go_simp
           with_reducible rfl
          rotate_left
          ·simp only [Act.put,List.setIfInBounds_toArray,List.set_cons_zero,List.set_cons_succ,i64_w,i32_w]
           rfl
          refine last_ (i:=12) (N:=none) #[true,true,true,true,true,true,true,true,true,true,true,true,true,false] rfl rfl (one_of HT_.out (by kernel_rfl)) (by decide) (fun K hK=>?_)
          refine skip_ (w1:=?_) (by rfl) rfl ?_ ?_
          rotate_left
          ·go_simp
           rfl
          refine hK.out _ _ ?_
          clear hK K
          refine pure_ (i:=13) (N:=some 7) (v:=?_) (a':=?_) #[true,true,true,true,true,true,true,true,true,true,true,true,true,true] rfl rfl (any_of HT_.out (by kernel_rfl)) (fun _ _ _ h=>h) (Or.inl ⟨by rfl,?_⟩) ?_ ?_
          rotate_left
          ·intro w'
           go_simp
           with_reducible rfl
          rotate_left
          ·simp only [Act.put,List.setIfInBounds_toArray,List.set_cons_zero,List.set_cons_succ,i64_w,i32_w]
           rfl
          refine done_ (done_of HT_.out (by kernel_rfl)) ?_
          try go_wp2
          go_roundg k1
          case measure=>have:=HK1.out;omega
          case rel=>exact ⟨(y174),(Int.tmod (IntKind.u64.wrap ((IntKind.u64.wrap (x7_1 * 1000000000))+(IntKind.u64.wrap (rd l0 (ji8))))) (IntKind.u64.wrap (a1))),(wrap64 (x15_1+1)),(by first | rfl | (simp;done) | (simp only [← hji8] <;> (first | rfl | simp)) | (simp [*];done)),(by first | rfl | (simp;done) | (simp [*];done)),H',⟨by have:=HK1.out;omega⟩,⟨by (with_reducible repeat (first | apply Kd.R_alloc | apply Kd.R_drewN | apply Kd.R_drew));exact HQ15.out⟩,⟨by repeat (first | (with_reducible first | exact HB.out | apply below_alloc | apply pw_below_drewN | apply below_drew1 | refine below_set ?_ GB13.out) | exact HB.out)⟩⟩
         ·rw [if_neg c12] at H
          exact absurd H (by simp)
       ·rw [if_neg c10] at H
        exact absurd H (by simp)
      ·rw [if_neg c9] at H
       exact absurd H (by simp)
     ·rw [if_neg c7] at H
      have c7b0:decide (x15_1 < (l0.length:Int))=false:=decide_eq_false c7
      clear c7
      simp only [Option.some.injEq,Prod.mk.injEq] at H
      obtain ⟨rfl,rfl⟩:=H
      go_wp2
      go_ret2
      exact ⟨_,by first | rfl | (simp [errW_none,errW_some] <;> rfl) | (simp [*,errW_none,errW_some] <;> rfl),by (with_reducible repeat (first | apply Kd.R_alloc | apply Kd.R_drewN | apply Kd.R_drew));exact HO_6.out,by repeat (first | (with_reducible first | exact HB.out | apply below_alloc | apply pw_below_drewN | apply below_drew1) | exact HB.out)⟩
  ·rw [if_neg c4] at H
   exact absurd H (by simp)
 ·rw [if_neg c3] at H
  exact absurd H (by simp)
end Go.Proofs.YtjaobihcdkjmbaaGreatDoor.PReadTokens
end
section
namespace Go.Proofs.YtjaobihcdkjmbaaGreatDoor
open Go.RowKit Go.Proofs.YtjaobihcdkjmbaaGreatDoorW.PrintWords Go.Proofs.YtjaobihcdkjmbaaGreatDoor.PReadTokens
theorem set2_fin {X:World} {R:Nat} {x0 x1:Value} {t:TypeId} (v0 v1:Value) (hR:X.heap[R]?=some (.cells #[x0,x1] t (0,0))) :
  ((X.setCell ⟨R,0,none⟩ v0).setCell ⟨R,1,none⟩ v1).heap[R]?=some (.cells #[v0,v1] t (0,0)):=blk_set (blk_set hR 0 v0) 1 v1
def sgnL (l:List Int):Int:=if l=[] then 0 else 1
structure Num (w:World) (l:List Int) (v:Value):Prop where
 out:∃ A c,v=.agg #[.int .i64 (sgnL l),.slice A l.length c]∧l.length≤c∧Kd.C (Kd.int .u32) w A l.length l
theorem Num.below {w w1:World} {l:List Int} {v:Value} (h:Num w l v) (hb:Below w.heap.size w w1):Num w1 l v:=by
 obtain ⟨A,c,h1,h2,h3⟩:=h.out
 exact ⟨A,c,h1,h2,Kd.C_below h3 hb⟩
set_option maxHeartbeats 1000000 in
theorem zero_calls (a:Int) (w:World):Calls Tryz.prog 231 #[.int .i64 a] w fun e w'=>e=.returned (.bool (a == 0))∧w'=w:=by
 go_enter Tryz.func231,Tryz.ntmps231
 go_wp2
 go_ret
 exact ⟨rfl,rfl⟩
theorem size234:(Tryz.prog.info? 234).map (·.size)=some 2:=by kernel_rfl
theorem size309:(Tryz.prog.info? 309).map (·.size)=some 2:=by kernel_rfl
end Go.Proofs.YtjaobihcdkjmbaaGreatDoor
end
section
namespace Go.Proofs.YtjaobihcdkjmbaaGreatDoor
open Go.RowKit Go.Proofs.YtjaobihcdkjmbaaGreatDoorW.PrintWords Go.Proofs.YtjaobihcdkjmbaaGreatDoor.PReadTokens
theorem part270_0 (a b:Int) (w:World):(part 270 #[.int .u32 a,.int .u32 b] (0 * Tryz.prog.cellsOf 270)).run Tryz.prog w=.ok (.int .u32 a) w:=by kernel_rfl
theorem part270_1 (a b:Int) (w:World):(part 270 #[.int .u32 a,.int .u32 b] (1 * Tryz.prog.cellsOf 270)).run Tryz.prog w=.ok (.int .u32 b) w:=by kernel_rfl
theorem part270_2 (a b:Int) (w:World):(part 270 #[.int .u32 a,.int .u32 b] (Tryz.prog.cellsOf 270)).run Tryz.prog w=.ok (.int .u32 b) w:=by kernel_rfl
theorem eq309 (a b c d:Int) (w:World):(Op.equalIn 10000 309 (.agg #[.int .u32 a,.int .u32 b]) (.agg #[.int .u32 c,.int .u32 d])).run Tryz.prog w=.ok (a == c && b == d) w:=by
 obtain ⟨i,hi⟩:=Option.isSome_iff_exists.1 (show (Tryz.prog.info? 270).isSome=true by kernel_rfl)
 have h:=run_equalIn_array (P:=Tryz.prog) w 9999 #[.int .u32 a,.int .u32 b] #[.int .u32 c,.int .u32 d] Tryz.underlying309 hi
 have h0:∀ x y:Int,(Op.equalIn 9999 270 (.int .u32 x) (.int .u32 y)).run Tryz.prog w=.ok (x == y) w:=fun x y=>run_equalIn_int w 9998 270 .u32 .u32 x y Tryz.underlying270
 refine h.trans ?_
 show (Op.eqItems 9999 270 (Tryz.prog.cellsOf 270) _ _ [0,1]).run Tryz.prog w=_
 simp only [Op.eqItems,Sem.run_bind,part270_0,part270_1,Result.andThen_ok,h0]
 cases hx:(a == c) <;> cases hy:(b == d) <;> simp [part270_2,h0,hy]
def cmpI (a b:Int):Int:=if a < b then -1 else if a > b then 1 else 0
theorem cmp32 (a b:Int) (w:World):Calls Tryz.prog 264 #[.int .u32 a,.int .u32 b] w fun e w'=>e=.returned (.int .i64 (cmpI a b))∧∃ n,w'=w.drewN n :=
 (cmp_Compare_uint32.calls a b (cmpI a b) w (by
  have h1:cmp_isNaN_uint32.f a=some false:=by unfold cmp_isNaN_uint32.f;simp
  have h2:cmp_isNaN_uint32.f b=some false:=by unfold cmp_isNaN_uint32.f;simp
  unfold cmp_Compare_uint32.f cmpI
  rw [h1,h2]
  by_cases hlt:a < b
  ·simp [hlt]
  ·by_cases hgt:a > b
   ·simp [hlt,hgt]
   ·simp [hlt,hgt])).mono fun _ _ ⟨h1,h2⟩=>⟨h1,h2.out⟩
end Go.Proofs.YtjaobihcdkjmbaaGreatDoor
end
section
namespace Go.Proofs.YtjaobihcdkjmbaaGreatDoor
open Go.RowKit Go.Proofs.YtjaobihcdkjmbaaGreatDoorW.PrintWords Go.Proofs.YtjaobihcdkjmbaaGreatDoor.PReadTokens
structure Trim (l:List Int) (k:Nat):Prop where
 le:k≤l.length
 zero:∀ i (h:i < l.length),k≤i→l[i]=0
 last:∀ i (h:i < l.length),k=i+1→l[i]≠0
def madeV (s:Int) (A:Option Addr) (k:Nat):Value:=if k=0 then .agg #[.int .i64 0,.slice none 0 0] else .agg #[.int .i64 s,.slice A k k]
set_option maxRecDepth 100000 in
set_option maxHeartbeats 4000000 in
theorem made_calls (s:Int) (A:Addr) (l:List Int) (c:Nat) (w:World) (hc:l.length≤c) (hsm:l.length≤1000000) (hcells:∀ i (h:i < l.length),w.cell? (A.add i)=some (.int .u32 l[i])) :
  Calls Tryz.prog 229 #[.int .i64 s,.slice (some A) l.length c] w fun e w'=>∃ k,Trim l k∧e=.returned (madeV s (some A) k)∧Below w.heap.size w w':=by
 have HCL:=Lib.hid hcells
 clear hcells
 have hb0:Below w.heap.size w (w.alloc (.cells #[.int .i64 0,.slice none 0 0] 234)):=(Below.refl _ w).alloc (Nat.le_refl _) _
 have h0:=blk_new w (.cells #[.int .i64 0,.slice none 0 0] 234)
 go_enter Tryz.func229,Tryz.ntmps229
 go_wp2_with fail
 generalize w.alloc (.cells #[.int .i64 0,.slice none 0 0] 234)=X at *
 go_loopg [5] l.length (fun m i wr=>m≤l.length∧i=.int .i64 m∧wr=X∧Hid (∀ i (h:i < l.length),m≤i→l[i]=0))
 case atStart=>exact ⟨Nat.le_refl _,rfl,rfl,Lib.hid (fun i h hk=>by omega)⟩
 case round =>
  obtain ⟨hkl,rfl,rfl,HZ⟩:=hrel
  have d0:=blk_cell h0 0
  have d1:=blk_cell h0 1
  have f0:=blk_frozen h0 0
  have f1:=blk_frozen h0 1
  cases gk with
  | zero =>
   have HF:Hid (∀ s':Int,Trim l 0):=Lib.hid (fun _=>⟨Nat.zero_le _,HZ.out,fun i h e=>by omega⟩)
   go_wp2
   refine bodyPost_ret (results_c Tryz.results229 _ _ w.heap.size 234 _ (0,0) _ rfl (set2_fin _ _ h0) Tryz.underlying234 rfl size234) rfl ⟨0,HF.out 0,rfl,(hb0.setCell (p:=⟨w.heap.size,0,none⟩) (Nat.le_refl _) _).setCell (p:=⟨w.heap.size,1,none⟩) (Nat.le_refl _) _⟩
  | succ k =>
   have hlt:k < l.length:=by omega
   have hcl:=pw_cell_below hb0 (HCL.out k hlt)
   by_cases hz:l[k]=0
   ·rw [hz] at hcl
    have HZ2:Hid (∀ i (h:i < l.length),k≤i→l[i]=0):=Lib.hid (fun i h hk=>by
     by_cases hik:i=k
     ·subst hik;exact hz
     ·exact HZ.out i h (by omega))
    clear hz
    go_wp2
    go_roundg k
    case measure=>omega
    case rel=>exact ⟨by omega,by go_num,rfl,HZ2⟩
   ·have HF:Hid (Trim l (k+1)):=Lib.hid ⟨hkl,HZ.out,fun i h e=>by
      obtain rfl:i=k:=by omega
      exact hz⟩
    generalize l[k]=y at *
    have hy:=beq_no hz
    have hk1:(((k+1:Nat):Int) == 0)=false:=beq_no (by omega)
    clear hz
    go_wp2
    refine bodyPost_ret (results_c Tryz.results229 _ _ w.heap.size 234 _ (0,0) _ rfl (set2_fin _ _ h0) Tryz.underlying234 rfl size234) rfl ⟨k+1,HF.out,by unfold madeV;rw [if_neg (by omega)],(hb0.setCell (p:=⟨w.heap.size,0,none⟩) (Nat.le_refl _) _).setCell (p:=⟨w.heap.size,1,none⟩) (Nat.le_refl _) _⟩
theorem num_ne {w:World} {g:Addr} {n a:Int} {R:Nat} {B:Option Addr} {l c:Nat} {t:TypeId} (hg:w.cell? g=some (.int .u32 n)) (hR:w.heap[R]?=some (.cells #[.int .i64 a,.slice B l c] t (0,0))):g.block≠R:=by
 intro e
 obtain ⟨b,o,sp⟩:=g
 simp only at e
 subst e
 simp only [World.cell?,hR] at hg
 match o with
 | 0=>simp at hg
 | 1=>simp at hg
 | k+2=>simp at hg
structure One (w:World) (n:Int) (v:Value):Prop where
 out:∃ g c,1≤c∧v=.agg #[.int .i64 1,.slice (some g) 1 c]∧w.cell? g=some (.int .u32 n)
theorem One.below {w w1:World} {n:Int} {v:Value} (h:One w n v) (hb:Below w.heap.size w w1):One w1 n v:=by
 obtain ⟨g,c,h1,h2,h3⟩:=h.out
 exact ⟨g,c,h1,h2,pw_cell_below hb h3⟩
theorem made_first (A:Addr) (n:Int) (r:List Int) (c:Nat) (w:World) (hn:n≠0) (hr:∀ x ∈ r,x=0) (hc:(n :: r).length≤c) (hsm:(n :: r).length≤1000000) (hcells:∀ i (h:i < (n :: r).length),w.cell? (A.add i)=some (.int .u32 (n :: r)[i])) :
  Calls Tryz.prog 229 #[.int .i64 1,.slice (some A) (n :: r).length c] w fun e w'=>∃ v,e=.returned v∧One w' n v∧Below w.heap.size w w':=by
 refine (made_calls 1 A (n :: r) c w hc hsm hcells).mono ?_
 rintro e w' ⟨k,ht,rfl,hb⟩
 have hk:k=1:=by
  rcases Nat.lt_or_ge k 1 with h | h
  ·exact absurd (ht.zero 0 (by simp) (by omega)) hn
  ·rcases Nat.lt_or_ge 1 k with h2 | h2
   ·obtain ⟨j,rfl⟩:∃ j,k=j+1:=⟨k - 1,by omega⟩
    have hl:=ht.le
    have:=ht.last j (by omega) rfl
    obtain ⟨i,rfl⟩:∃ i,j=i+1:=⟨j - 1,by omega⟩
    exact absurd (hr _ (List.getElem_mem (by simp at hl;omega))) this
   ·omega
 subst hk
 refine ⟨_,rfl,⟨A,1,Nat.le_refl _,rfl,?_⟩,hb⟩
 have:=hcells 0 (by simp)
 rw [Addr.add_zero'] at this
 exact pw_cell_below hb this
set_option maxRecDepth 100000 in
set_option maxHeartbeats 4000000 in
theorem of1_calls (w:World):Calls Tryz.prog 192 #[.int .i64 1] w fun e w'=>∃ v,e=.returned v∧One w' 1 v∧Below w.heap.size w w':=by
 have hb0:Below w.heap.size w ((w.alloc (.cells #[.int .i64 0,.slice none 0 0] 234)).alloc (.cells #[.int .u32 1,.int .u32 0,.int .u32 0] 270)):=((Below.refl _ w).alloc (Nat.le_refl _) _).alloc (by simp) _
 have h0:((w.alloc (.cells #[.int .i64 0,.slice none 0 0] 234)).alloc (.cells #[.int .u32 1,.int .u32 0,.int .u32 0] 270)).heap[w.heap.size]?=some (.cells #[.int .i64 0,.slice none 0 0] 234 (0,0)):=(Below.heap_alloc _ _ _ (by simp)).trans (blk_new w _)
 have h1:((w.alloc (.cells #[.int .i64 0,.slice none 0 0] 234)).alloc (.cells #[.int .u32 1,.int .u32 0,.int .u32 0] 270)).heap[w.heap.size+1]?=some (.cells #[.int .u32 1,.int .u32 0,.int .u32 0] 270 (0,0)):=alloc_at _ _ _ (by simp)
 go_enter Tryz.func192,Tryz.ntmps192
 go_wp2_with fail
 have hm:=made_first ⟨w.heap.size+1,0,none⟩ 1 [0,0] 3 _ (by decide) (by simp) (Nat.le_refl _) (by simp) (fun i h=>by
  have:=blk_cell h1 i
  rw [add_plain,this]
  match i,h with
  | 0,_=>rfl
  | 1,_=>rfl
  | 2,_=>rfl)
 simp only [List.length_cons,List.length_nil] at hm
 refine hm.mono ?_
 rintro e w1 ⟨v,rfl,hv,hb1⟩
 have hr:=bcell hb1 h0
 have hbw:=hb0.trans (hb1.mono (by simp;omega))
 obtain ⟨g,c,hc,rfl,hg⟩:=hv.out
 have d0:=blk_cell hr 0
 have d1:=blk_cell hr 1
 have f0:=blk_frozen hr 0
 have f1:=blk_frozen hr 1
 have hne:=num_ne hg hr
 go_wp2
 have hfar:((w1.setCell ⟨w.heap.size,0,none⟩ (.int .i64 1)).setCell ⟨w.heap.size,1,none⟩ (.slice (some g) 1 c)).cell? g=some (.int .u32 1):=by
  rw [World.cell?_setCell_far _ _ _ _ (Ne.symm hne),World.cell?_setCell_far _ _ _ _ (Ne.symm hne)];exact hg
 exact bodyPost_ret (results_c Tryz.results192 _ _ w.heap.size 234 _ (0,0) _ rfl (set2_fin _ _ hr) Tryz.underlying234 rfl size234) rfl ⟨_,rfl,⟨g,c,hc,rfl,hfar⟩,(hbw.setCell (p:=⟨w.heap.size,0,none⟩) (Nat.le_refl _) _).setCell (p:=⟨w.heap.size,1,none⟩) (Nat.le_refl _) _⟩
end Go.Proofs.YtjaobihcdkjmbaaGreatDoor
end
