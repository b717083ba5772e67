/- The law ReadFree answers true for every argument; a part of its proof. -/
import Derived.Test.YtjaobihcdkjmbaaGreatDoorF20
set_option linter.unusedVariables false
set_option linter.unusedSimpArgs false
section
namespace Go.Proofs.YtjaobihcdkjmbaaGreatDoor
open Go.RowKit Go.Maps Go.WideShapes Go.Proofs.YtjaobihcdkjmbaaGreatDoorW.PrintWords Go.Proofs.YtjaobihcdkjmbaaGreatDoor.PReadTokens
theorem nmL_inj {a b:ByteArray}:nmL a=nmL b↔a=b:=by
 constructor
 ·intro h
  injection h with h
  apply ByteArray.ext
  apply Array.ext'
  exact h
 ·rintro rfl;rfl
mutual
/-- How often a name is free. -/
def cntX (s:ByteArray):S31→Nat
 | ⟨op,_,nm,_,l⟩=>if op=1∧nm=s then 1 else cntL s op nm 0 l
def cntL (s:ByteArray) (op:Int) (nm:ByteArray):Nat→List S31→Nat
 | _,[]=>0
 | i,a :: l=>(if bindsAt op i=true∧nm=s then 0 else cntX s a)+cntL s op nm (i+1) l
end
theorem cntX_eq (s:ByteArray) (x:S31):cntX s x=if x.f0=1∧x.f2=s then 1 else cntL s x.f0 x.f2 0 x.f4:=by cases x;rw [cntX]
mutual
/-- A name has no arguments. -/
def refB:S31→Bool
 | ⟨op,_,_,_,l⟩=>(decide (op≠1) || l.isEmpty) && refL l
def refL:List S31→Bool
 | []=>true
 | x :: l=>refB x && refL l
end
theorem refB_eq (x:S31):refB x=((decide (x.f0≠1) || x.f4.isEmpty) && refL x.f4):=by cases x;rfl
theorem refL_mem {l:List S31} (h:refL l=true) {x:S31} (hx:x ∈ l):refB x=true:=by
 induction l with
 | nil=>cases hx
 | cons a l ih =>
  rw [refL,Bool.and_eq_true] at h
  rcases List.mem_cons.1 hx with rfl | hx
  ·exact h.1
  ·exact ih h.2 hx
def hasL (s:ByteArray) (op:Int) (nm:ByteArray):Nat→List S31→Bool
 | _,[]=>false
 | i,a :: l=>(!(bindsAt op i && decide (nm=s)) && has (freeG a) (nmL s)) || hasL s op nm (i+1) l
theorem has_merged (s:ByteArray) (op:Int) (nm:ByteArray):∀ (l:List S31) (i:Nat) (D:DataW Unit),(∀ a ∈ l,SetD (freeG a))→SetD D →
  has (mergeG op nm i D l) (nmL s)=(has D (nmL s) || hasL s op nm i l)
 | [],i,D,_,_=>by simp [mergeG,hasL]
 | a :: l,i,D,hl,hD=>by
  have ha:=hl a (List.mem_cons_self ..)
  have hd:SetD (ownDel op nm i (freeG a)):=by
   unfold ownDel
   split
   ·exact set_del ha
   ·exact ha
  have hm:=set_merge hD hd
  have ho:has (ownDel op nm i (freeG a)) (nmL s)=(!(bindsAt op i && decide (nm=s)) && has (freeG a) (nmL s)):=by
   unfold ownDel
   cases hb:bindsAt op i
   ·simp
   ·by_cases e:nm=s
    ·subst e
     rw [if_pos rfl,has_del_same];simp
    ·rw [if_pos rfl,has_del_other (fun h=>e (nmL_inj.1 h).symm)];simp [e]
  rw [mergeG,has_merged s op nm l (i+1) _ (fun b hb=>hl b (List.mem_cons_of_mem _ hb)) hm.1,hm.2,ho,hasL,Bool.or_assoc]
theorem has_own (x:S31) (s:ByteArray) (h:x.f2.size≤4611686018427387904):has (ownD x) (nmL s)=decide (x.f0=1∧x.f2=s):=by
 unfold ownD
 by_cases e:x.f0=1
 ·rw [if_pos e]
  have hk:=name_key x.f2 (by unfold maxLen;omega)
  by_cases e2:x.f2=s
  ·subst e2
   rw [has_put_same ⟨[],rfl⟩ (law9.one.key hk)];simp [e]
  ·rw [has_put_other (fun h=>e2 (nmL_inj.1 h).symm)]
   simp [e2];rfl
 ·rw [if_neg e]
  simp [e];rfl
theorem small_of {x:S31} (h:smallB x=true):x.f2.size≤4611686018427387904∧smallL x.f4=true:=by
 rw [smallB_eq,Bool.and_eq_true,decide_eq_true_eq] at h
 exact h
theorem set_args {x:S31} (h:smallB x=true):∀ a ∈ x.f4,SetD (freeG a):=fun a ha=>freeG_set _ a (Nat.le_refl _) (smallL_mem (small_of h).2 ha)
theorem has_free (x:S31) (h:smallB x=true) (s:ByteArray):has (freeG x) (nmL s)=(decide (x.f0=1∧x.f2=s) || hasL s x.f0 x.f2 0 x.f4):=by
 rw [freeG_eq,has_merged _ _ _ _ _ _ (set_args h) (own_set x (small_of h).1),has_own x s (small_of h).1]
theorem free_count (s:ByteArray):∀ (n:Nat) (x:S31),depthX x≤n→smallB x=true→has (freeG x) (nmL s)=decide (0 < cntX s x):=by
 intro n
 induction n with
 | zero=>intro x h;rw [depthX_eq] at h;omega
 | succ n ih =>
  intro x hd hs
  rw [depthX_eq] at hd
  have key:∀ (l:List S31) (i:Nat),(∀ a ∈ l,has (freeG a) (nmL s)=decide (0 < cntX s a))→hasL s x.f0 x.f2 i l=decide (0 < cntL s x.f0 x.f2 i l):=by
   intro l
   induction l with
   | nil=>intro i _;simp [hasL,cntL]
   | cons a l ih2 =>
    intro i hl
    rw [hasL,cntL,ih2 (i+1) (fun b hb=>hl b (List.mem_cons_of_mem _ hb)),hl a (List.mem_cons_self ..)]
    by_cases hb:bindsAt x.f0 i=true∧x.f2=s
    ·rw [if_pos hb];simp [hb.1,hb.2]
    ·rw [if_neg hb]
     have:(bindsAt x.f0 i && decide (x.f2=s))=false:=by
      rw [Bool.and_eq_false_iff]
      by_cases h1:bindsAt x.f0 i=true
      ·exact .inr (by simp;exact fun h2=>hb ⟨h1,h2⟩)
      ·exact .inl (by simpa using h1)
     rw [this]
     by_cases h1:0 < cntX s a <;> by_cases h2:0 < cntL s x.f0 x.f2 (i+1) l <;> simp [h1,h2] <;> omega
  rw [has_free x hs s,key x.f4 0 (fun a ha=>ih a (by have:=depthX_mem ha;omega) (smallL_mem (small_of hs).2 ha)),cntX_eq]
  by_cases h1:x.f0=1∧x.f2=s
  ·rw [if_pos h1];simp [h1]
  ·rw [if_neg h1];simp [h1]
theorem replL_cons {name:ByteArray} {y:S31} {T:DataW Unit} {op:Int} {nm:ByteArray} {i:Nat} {a:S31} {l l':List S31} (h:replL name y T op nm i (a :: l)=some l') :
  ∃ b r,l'=b :: r∧replOne name y T op nm i a=some b∧replL name y T op nm (i+1) l=some r:=by
 cases e:replOne name y T op nm i a with
 | none=>rw [replL_none e] at h;cases h
 | some b =>
  rw [replL_some e] at h
  obtain ⟨r,h1,h2⟩:=Option.map_eq_some_iff.1 h
  exact ⟨b,r,h2.symm,rfl,h1⟩
theorem replS_cases {name:ByteArray} {y:S31} {T:DataW Unit} {x z:S31} (h:replS name y T x=some z):(x.f0=1∧x.f2=name∧z=y)∨(¬ (x.f0=1∧x.f2=name)∧∃ l',replL name y T x.f0 x.f2 0 x.f4=some l'∧z=⟨x.f0,x.f1,x.f2,x.f3,l'⟩):=by
 rw [replS_eq] at h
 by_cases e:x.f0=1∧x.f2=name
 ·rw [if_pos e] at h
  injection h with h
  exact .inl ⟨e.1,e.2,h.symm⟩
 ·rw [if_neg e] at h
  obtain ⟨l',h1,h2⟩:=Option.map_eq_some_iff.1 h
  exact .inr ⟨e,l',h1,h2.symm⟩
theorem replOne_cases {name:ByteArray} {y:S31} {T:DataW Unit} {op:Int} {nm:ByteArray} {i:Nat} {a b:S31} (h:replOne name y T op nm i a=some b) :
  (bindsAt op i=true∧nm=name∧b=a)∨(¬ (bindsAt op i=true∧nm=name)∧¬ (bindsAt op i=true∧has T (nmL nm)=true∧has (freeG a) (nmL name)=true)∧replS name y T a=some b):=by
 unfold replOne at h
 by_cases e:bindsAt op i=true∧nm=name
 ·rw [if_pos e] at h
  injection h with h
  exact .inl ⟨e.1,e.2,h.symm⟩
 ·rw [if_neg e] at h
  by_cases e2:bindsAt op i=true∧has T (nmL nm)=true∧has (freeG a) (nmL name)=true
  ·rw [if_pos e2] at h;cases h
  ·rw [if_neg e2] at h
   exact .inr ⟨e,e2,h⟩
theorem repl_nodes (name:ByteArray) (y:S31) (T:DataW Unit):∀ (n:Nat) (x z:S31),depthX x≤n→refB x=true→replS name y T x=some z→nodesX z+cntX name x=nodesX x+cntX name x * nodesX y:=by
 intro n
 induction n with
 | zero=>intro x z h;rw [depthX_eq] at h;omega
 | succ n ih =>
  intro x z hd hr h
  rw [depthX_eq] at hd
  rw [refB_eq,Bool.and_eq_true] at hr
  rcases replS_cases h with ⟨h1,h2,rfl⟩ | ⟨hne,l',hl,rfl⟩
  ·have he:x.f4=[]:=by
    have:=hr.1
    simp [h1] at this
    exact this
   rw [cntX_eq,if_pos ⟨h1,h2⟩,nodesX_eq x,he]
   simp [nodesL];omega
  ·rw [cntX_eq,if_neg hne,nodesX_eq x,nodesX_eq]
   have key:∀ (l l':List S31) (i:Nat),(∀ a ∈ l,depthX a≤n∧refB a=true)→replL name y T x.f0 x.f2 i l=some l'→nodesL l'+cntL name x.f0 x.f2 i l=nodesL l+cntL name x.f0 x.f2 i l * nodesX y:=by
    intro l
    induction l with
    | nil=>intro l' i _ h;rw [replL_nil] at h;injection h with h;subst h;simp [nodesL,cntL]
    | cons a l ih2 =>
     intro l' i hall h
     obtain ⟨b,r,rfl,hb,hr⟩:=replL_cons h
     have h2:=ih2 r (i+1) (fun c hc=>hall c (List.mem_cons_of_mem _ hc)) hr
     obtain ⟨da,ra⟩:=hall a (List.mem_cons_self ..)
     rw [cntL]
     simp only [nodesL]
     rcases replOne_cases hb with ⟨h3,h4,rfl⟩ | ⟨h3,_,h5⟩
     ·rw [if_pos ⟨h3,h4⟩];simp only [Nat.zero_add];omega
     ·rw [if_neg h3,Nat.add_mul]
      have:=ih a b da ra h5
      omega
   have:=key x.f4 l' 0 (fun a ha=>⟨by have:=depthX_mem ha;omega,refL_mem hr.2 ha⟩) hl
   simp only
   omega
end Go.Proofs.YtjaobihcdkjmbaaGreatDoor
end
section
namespace Go.Proofs.YtjaobihcdkjmbaaGreatDoor
open Go.RowKit Go.Proofs.YtjaobihcdkjmbaaGreatDoorW.PrintWords Go.Proofs.YtjaobihcdkjmbaaGreatDoor.PReadTokens
set_option maxRecDepth 100000 in
set_option maxHeartbeats 1000000 in
theorem look_other_num (x:S31) (v5:Value) (w:World) (A:Option Addr) (c:Nat) (hv5:v5=.slice A x.f4.length c) (h0:0≤x.f0) (h1:x.f0≤14) (hlo:argLo x.f0≤x.f4.length) (hhi:(x.f4.length:Int)≤argHi x.f0)
  (hop:x.f0≠0) (hnum:x.f1≠z28):Calls Tryz.prog 102 #[exV x v5] w (LPost 1 w):=by
 obtain ⟨op,num,name,size,xs⟩:=x
 subst hv5
 simp only at *
 have hin:=in_any op 0 14
 rw [decide_eq_true h0,decide_eq_true h1] at hin
 have l1:decide ((xs.length:Int) < argLo op)=false:=decide_eq_false (by omega)
 have l2:decide (argHi op < (xs.length:Int))=false:=decide_eq_false (by omega)
 have hz:=sizes3 op
 have E0:=eq198_0
 have E9:=eq198_9
 have E99:=eq198_99
 have hA:=arguments_calls op
 have hZ:=sizes_calls op
 have hin2:=in_any size (sizeLo op) (sizeHi op)
 obtain ⟨nu,de⟩:=num
 have b0:=beq_no hop
 have E28:=eq28 nu de ⟨#[]⟩ ⟨#[]⟩
 have hne:(nu.toList == (⟨#[]⟩:ByteArray).toList && de.toList == (⟨#[]⟩:ByteArray).toList)=false:=by
  rw [nil_eq,nil_eq,Bool.and_eq_false_iff]
  by_cases h:nu=⟨#[]⟩
  ·refine .inr (decide_eq_false (fun h2=>hnum ?_))
   rw [h,h2];rfl
  ·exact .inl (decide_eq_false h)
 rw [hne] at E28
 generalize argLo op=aL at *
 generalize argHi op=aH at *
 generalize sizeLo op=sL at *
 generalize sizeHi op=sH at *
 clear h0 h1 hlo hhi hop hnum hne hz hZ hin2 E0 E9 E99
 unfold exV
 simp only
 go_enter Tryz.func102,Tryz.ntmps102
 go_wp2_with (first
  | (go_at_call 104;(with_reducible refine (hin _).mono ?_);rintro e wq ⟨rfl,hq⟩;subst wq)
  | (go_at_call 67;(with_reducible refine (fail_no _ _).mono ?_);rintro e wq ⟨rfl,hq⟩;subst wq)
  | (go_at_call 67;(with_reducible refine (fail_yes' _ _).mono ?_);rintro e wq ⟨rfl,hq⟩;subst wq))
 refine (hA _).mono ?_
 rintro e w1 ⟨rfl,hb1⟩
 have hx1:=bcell hb1 (blk_new w (.cells #[.int .i64 op,.string nu,.string de,.string name,.int .i64 size,.slice A xs.length c] 31))
 obtain ⟨⟨q0,q1,q2,q3,q4,q5⟩,_,xl⟩:=cells6 hx1
 have hbw:Below w.heap.size w w1:=((Below.refl _ w).alloc (Nat.le_refl _) _).trans (hb1.mono (by simp))
 have hbw':=hbw.alloc hbw.size (.cells #[.int .i64 aL,.int .i64 aH] 198)
 have HX:=Lib.hid hx1
 clear hx1
 go_wp2_with (first
  | (go_at_call 104;(with_reducible refine (hin _).mono ?_);rintro e wq ⟨rfl,hq⟩;subst wq)
  | (go_at_call 67;(with_reducible refine (fail_no _ _).mono ?_);rintro e wq ⟨rfl,hq⟩;subst wq)
  | (go_at_call 67;(with_reducible refine (fail_yes' _ _).mono ?_);rintro e wq ⟨rfl,hq⟩;subst wq))
 exact ⟨rfl,hbw',.inr ⟨by omega,rfl⟩⟩
set_option maxRecDepth 100000 in
set_option maxHeartbeats 1000000 in
theorem look_other_bad (x:S31) (v5:Value) (w:World) (A:Option Addr) (c:Nat) (hv5:v5=.slice A x.f4.length c) (h0:0≤x.f0) (h1:x.f0≤14) (hlo:argLo x.f0≤x.f4.length) (hhi:(x.f4.length:Int)≤argHi x.f0)
  (hop:x.f0≠0∧x.f0≠1∧x.f0≠10∧x.f0≠11∧x.f0≠13∧x.f0≠14) (hnum:x.f1=z28) (hname:x.f2≠⟨#[]⟩):Calls Tryz.prog 102 #[exV x v5] w (LPost 4 w):=by
 obtain ⟨op,num,name,size,xs⟩:=x
 subst hv5
 simp only at *
 have hin:=in_any op 0 14
 rw [decide_eq_true h0,decide_eq_true h1] at hin
 have l1:decide ((xs.length:Int) < argLo op)=false:=decide_eq_false (by omega)
 have l2:decide (argHi op < (xs.length:Int))=false:=decide_eq_false (by omega)
 have hz:=sizes3 op
 have E0:=eq198_0
 have E9:=eq198_9
 have E99:=eq198_99
 have hA:=arguments_calls op
 have hZ:=sizes_calls op
 have hin2:=in_any size (sizeLo op) (sizeHi op)
 subst hnum
 obtain ⟨n0,n1,n10,n11,n13,n14⟩:=hop
 have b0:=beq_no n0
 have b1:=beq_no n1
 have b10:=beq_no n10
 have b11:=beq_no n11
 have b13:=beq_no n13
 have b14:=beq_no n14
 have hsome:name.toList.isEmpty=false:=by
  cases h:name.toList with
  | nil=>exact absurd (str_nil h) hname
  | cons _ _=>rfl
 generalize argLo op=aL at *
 generalize argHi op=aH at *
 generalize sizeLo op=sL at *
 generalize sizeHi op=sH at *
 clear h0 h1 hlo hhi n0 n1 n10 n11 n13 n14 hname hz hZ hin2 E0 E9 E99
 unfold exV z28
 simp only
 go_enter Tryz.func102,Tryz.ntmps102
 go_wp2_with (first
  | (go_at_call 104;(with_reducible refine (hin _).mono ?_);rintro e wq ⟨rfl,hq⟩;subst wq)
  | (go_at_call 67;(with_reducible refine (fail_no _ _).mono ?_);rintro e wq ⟨rfl,hq⟩;subst wq)
  | (go_at_call 67;(with_reducible refine (fail_yes' _ _).mono ?_);rintro e wq ⟨rfl,hq⟩;subst wq))
 refine (hA _).mono ?_
 rintro e w1 ⟨rfl,hb1⟩
 have hx1:=bcell hb1 (blk_new w (.cells #[.int .i64 op,.string ⟨#[]⟩,.string ⟨#[]⟩,.string name,.int .i64 size,.slice A xs.length c] 31))
 obtain ⟨⟨q0,q1,q2,q3,q4,q5⟩,_,xl⟩:=cells6 hx1
 have hbw:Below w.heap.size w w1:=((Below.refl _ w).alloc (Nat.le_refl _) _).trans (hb1.mono (by simp))
 have hbw':=hbw.alloc hbw.size (.cells #[.int .i64 aL,.int .i64 aH] 198)
 have HX:=Lib.hid hx1
 clear hx1
 go_wp2_with (first
  | (go_at_call 104;(with_reducible refine (hin _).mono ?_);rintro e wq ⟨rfl,hq⟩;subst wq)
  | (go_at_call 67;(with_reducible refine (fail_no _ _).mono ?_);rintro e wq ⟨rfl,hq⟩;subst wq)
  | (go_at_call 67;(with_reducible refine (fail_yes' _ _).mono ?_);rintro e wq ⟨rfl,hq⟩;subst wq))
 exact ⟨rfl,hbw',.inr ⟨by omega,rfl⟩⟩
set_option maxRecDepth 100000 in
set_option maxHeartbeats 1000000 in
theorem look_other_tail (x:S31) (v5:Value) (w:World) (A:Option Addr) (c:Nat) (hv5:v5=.slice A x.f4.length c) (h0:0≤x.f0) (h1:x.f0≤14) (hlo:argLo x.f0≤x.f4.length) (hhi:(x.f4.length:Int)≤argHi x.f0)
  (hop:x.f0≠0∧x.f0≠1∧x.f0≠10∧x.f0≠11∧x.f0≠13∧x.f0≠14) (hnum:x.f1=z28) (hname:x.f2=⟨#[]⟩) (n:Int) (hN:Hid (n=if x.f3 < sizeLo x.f0∨sizeHi x.f0 < x.f3 then 2 else 0)):Calls Tryz.prog 102 #[exV x v5] w (LPost n w):=by
 obtain ⟨op,num,name,size,xs⟩:=x
 subst hv5
 simp only at *
 have hin:=in_any op 0 14
 rw [decide_eq_true h0,decide_eq_true h1] at hin
 have l1:decide ((xs.length:Int) < argLo op)=false:=decide_eq_false (by omega)
 have l2:decide (argHi op < (xs.length:Int))=false:=decide_eq_false (by omega)
 have hz:=sizes3 op
 have E0:=eq198_0
 have E9:=eq198_9
 have E99:=eq198_99
 have hA:=arguments_calls op
 have hZ:=sizes_calls op
 have hin2:=in_any size (sizeLo op) (sizeHi op)
 subst hnum hname
 obtain ⟨n0,n1,n10,n11,n13,n14⟩:=hop
 have b0:=beq_no n0
 have b1:=beq_no n1
 have b10:=beq_no n10
 have b11:=beq_no n11
 have b13:=beq_no n13
 have b14:=beq_no n14
 generalize argLo op=aL at *
 generalize argHi op=aH at *
 generalize sizeLo op=sL at *
 generalize sizeHi op=sH at *
 clear h0 h1 hlo hhi n0 n1 n10 n11 n13 n14
 unfold exV z28
 simp only
 go_enter Tryz.func102,Tryz.ntmps102
 go_wp2_with (first
  | (go_at_call 104;(with_reducible refine (hin _).mono ?_);rintro e wq ⟨rfl,hq⟩;subst wq)
  | (go_at_call 67;(with_reducible refine (fail_no _ _).mono ?_);rintro e wq ⟨rfl,hq⟩;subst wq)
  | (go_at_call 67;(with_reducible refine (fail_yes' _ _).mono ?_);rintro e wq ⟨rfl,hq⟩;subst wq))
 refine (hA _).mono ?_
 rintro e w1 ⟨rfl,hb1⟩
 have hx1:=bcell hb1 (blk_new w (.cells #[.int .i64 op,.string ⟨#[]⟩,.string ⟨#[]⟩,.string ⟨#[]⟩,.int .i64 size,.slice A xs.length c] 31))
 obtain ⟨⟨q0,q1,q2,q3,q4,q5⟩,_,xl⟩:=cells6 hx1
 have hbw:Below w.heap.size w w1:=((Below.refl _ w).alloc (Nat.le_refl _) _).trans (hb1.mono (by simp))
 have hbw':=hbw.alloc hbw.size (.cells #[.int .i64 aL,.int .i64 aH] 198)
 have HX:=Lib.hid hx1
 clear hx1
 have HX1:=HX
 go_wp2_with (first
  | (go_at_call 104;(with_reducible refine (hin _).mono ?_);rintro e wq ⟨rfl,hq⟩;subst wq)
  | (go_at_call 67;(with_reducible refine (fail_no _ _).mono ?_);rintro e wq ⟨rfl,hq⟩;subst wq)
  | (go_at_call 67;(with_reducible refine (fail_yes' _ _).mono ?_);rintro e wq ⟨rfl,hq⟩;subst wq))
 have HXa:=Lib.hid ((Below.heap_alloc w1 (.cells #[.int .i64 aL,.int .i64 aH] 198) _ xl).trans HX.out)
 have HYa:=Lib.hid (blk_new w1 (.cells #[.int .i64 aL,.int .i64 aH] 198))
 have hbwa:=hbw'
 clear HX1
 refine (hZ _).mono ?_
 rintro e w2 ⟨rfl,hb2⟩
 have hx2:=bcell hb2 HXa.out
 have hy2:=bcell hb2 HYa.out
 have hbw2:=hbwa.trans (hb2.mono hbwa.size)
 have hw1:=hbw.size
 obtain ⟨⟨p0,p1,p2,p3,p4,p5⟩,_,xl2⟩:=cells6 hx2
 have y0:=blk_cell hy2 0
 have y1:=blk_cell hy2 1
 have z0:=blk_frozen hy2 0
 have z1:=blk_frozen hy2 1
 have yl:=blk_lt hy2
 have hneq:=Nat.ne_of_lt xl
 clear hx2 hy2 HX hb1 hb2
 by_cases hsz:size < sL∨sH < size
 ·have hn:n=2:=by rw [hN.out,if_pos hsz]
  have hsb:(decide (sL≤size) && decide (size≤sH))=false:=by
   rw [Bool.and_eq_false_iff]
   rcases hsz with h | h
   ·exact .inl (decide_eq_false (by omega))
   ·exact .inr (decide_eq_false (by omega))
  rw [hsb] at hin2
  subst hn
  clear hsb
  rcases hz with ⟨rfl,rfl⟩ | ⟨rfl,rfl⟩ | ⟨rfl,rfl⟩
  ·have hs:(size == 0)=false:=beq_no (by omega)
   have hs':(size != 0)=true:=by rw [bne,hs];rfl
   clear hsz
   go_wp2_with (first
    | (go_at_call 104;(with_reducible refine (hin2 _).mono ?_);rintro e wq ⟨rfl,hq⟩;subst wq)
    | (go_at_call 67;(with_reducible refine (fail_no _ _).mono ?_);rintro e wq ⟨rfl,hq⟩;subst wq)
    | (go_at_call 67;(with_reducible refine (fail_yes' _ _).mono ?_);rintro e wq ⟨rfl,hq⟩;subst wq))
   exact ⟨rfl,(hbw2.setCell (p:=⟨w1.heap.size,0,none⟩) (by simp;omega) _).setCell (p:=⟨w1.heap.size,1,none⟩) (by simp;omega) _,.inr ⟨by omega,rfl⟩⟩
  all_goals
   clear hsz
   go_wp2_with (first
    | (go_at_call 104;(with_reducible refine (hin2 _).mono ?_);rintro e wq ⟨rfl,hq⟩;subst wq)
    | (go_at_call 67;(with_reducible refine (fail_no _ _).mono ?_);rintro e wq ⟨rfl,hq⟩;subst wq)
    | (go_at_call 67;(with_reducible refine (fail_yes' _ _).mono ?_);rintro e wq ⟨rfl,hq⟩;subst wq))
   exact ⟨rfl,(hbw2.setCell (p:=⟨w1.heap.size,0,none⟩) (by simp;omega) _).setCell (p:=⟨w1.heap.size,1,none⟩) (by simp;omega) _,.inr ⟨by omega,rfl⟩⟩
 ·have hn:n=0:=by rw [hN.out,if_neg hsz]
  rw [decide_eq_true (show sL≤size by omega),decide_eq_true (show size≤sH by omega)] at hin2
  subst hn
  rcases hz with ⟨rfl,rfl⟩ | ⟨rfl,rfl⟩ | ⟨rfl,rfl⟩
  ·have hs:(size == 0)=true:=by rw [beq_iff_eq];omega
   have hs':(size != 0)=false:=by rw [bne,hs];rfl
   clear hsz
   go_wp2_with (first
    | (go_at_call 104;(with_reducible refine (hin2 _).mono ?_);rintro e wq ⟨rfl,hq⟩;subst wq)
    | (go_at_call 67;(with_reducible refine (fail_no _ _).mono ?_);rintro e wq ⟨rfl,hq⟩;subst wq)
    | (go_at_call 67;(with_reducible refine (fail_yes' _ _).mono ?_);rintro e wq ⟨rfl,hq⟩;subst wq))
   exact bodyPost_end (results_none rfl _ _ _) rfl ⟨(hbw2.setCell (p:=⟨w1.heap.size,0,none⟩) (by simp;omega) _).setCell (p:=⟨w1.heap.size,1,none⟩) (by simp;omega) _,.inl ⟨rfl,rfl⟩⟩
  all_goals
   clear hsz
   go_wp2_with (first
    | (go_at_call 104;(with_reducible refine (hin2 _).mono ?_);rintro e wq ⟨rfl,hq⟩;subst wq)
    | (go_at_call 67;(with_reducible refine (fail_no _ _).mono ?_);rintro e wq ⟨rfl,hq⟩;subst wq)
    | (go_at_call 67;(with_reducible refine (fail_yes' _ _).mono ?_);rintro e wq ⟨rfl,hq⟩;subst wq))
   exact bodyPost_end (results_none rfl _ _ _) rfl ⟨(hbw2.setCell (p:=⟨w1.heap.size,0,none⟩) (by simp;omega) _).setCell (p:=⟨w1.heap.size,1,none⟩) (by simp;omega) _,.inl ⟨rfl,rfl⟩⟩
end Go.Proofs.YtjaobihcdkjmbaaGreatDoor
end
section
namespace Go.Proofs.YtjaobihcdkjmbaaGreatDoor
open Go.RowKit Go.Proofs.YtjaobihcdkjmbaaGreatDoorW.PrintWords Go.Proofs.YtjaobihcdkjmbaaGreatDoor.PReadTokens
set_option maxRecDepth 100000 in
set_option maxHeartbeats 2000000 in
theorem look_named_bad (x:S31) (v5:Value) (w:World) (A:Option Addr) (c:Nat) (hv5:v5=.slice A x.f4.length c) (h0:0≤x.f0) (h1:x.f0≤14) (hlo:argLo x.f0≤x.f4.length) (hhi:(x.f4.length:Int)≤argHi x.f0)
  (hop:x.f0=1∨x.f0=10∨x.f0=11∨x.f0=13∨x.f0=14) (hnum:x.f1=z28) (hsz1:x.f2.size≤9223372036854775807) (hname:nameB x.f2=false):Calls Tryz.prog 102 #[exV x v5] w (LPost 4 w):=by
 obtain ⟨op,num,name,size,xs⟩:=x
 subst hv5
 simp only at *
 have hin:=in_any op 0 14
 rw [decide_eq_true h0,decide_eq_true h1] at hin
 have l1:decide ((xs.length:Int) < argLo op)=false:=decide_eq_false (by omega)
 have l2:decide (argHi op < (xs.length:Int))=false:=decide_eq_false (by omega)
 have hz:=sizes3 op
 have E0:=eq198_0
 have E9:=eq198_9
 have E99:=eq198_99
 have hA:=arguments_calls op
 have hZ:=sizes_calls op
 have hin2:=in_any size (sizeLo op) (sizeHi op)
 subst hnum
 have hN:=fun w=>name_any name w hsz1
 rw [hname] at hN
 generalize argLo op=aL at *
 generalize argHi op=aH at *
 generalize sizeLo op=sL at *
 generalize sizeHi op=sH at *
 clear h0 h1 hlo hhi hz hZ hin2 E0 E9 E99 hname
 unfold exV z28
 simp only
 rcases hop with rfl | rfl | rfl | rfl | rfl
 all_goals
  go_enter Tryz.func102,Tryz.ntmps102
  go_wp2_with (first
   | (go_at_call 104;(with_reducible refine (hin _).mono ?_);rintro e wq ⟨rfl,hq⟩;subst wq)
   | (go_at_call 67;(with_reducible refine (fail_no _ _).mono ?_);rintro e wq ⟨rfl,hq⟩;subst wq)
   | (go_at_call 67;(with_reducible refine (fail_yes' _ _).mono ?_);rintro e wq ⟨rfl,hq⟩;subst wq))
  refine (hA _).mono ?_
  rintro e w1 ⟨rfl,hb1⟩
  have hx1:=bcell hb1 (blk_new w (.cells #[.int .i64 _,.string ⟨#[]⟩,.string ⟨#[]⟩,.string name,.int .i64 size,.slice A xs.length c] 31))
  obtain ⟨⟨q0,q1,q2,q3,q4,q5⟩,_,xl⟩:=cells6 hx1
  have hbw:Below w.heap.size w w1:=((Below.refl _ w).alloc (Nat.le_refl _) _).trans (hb1.mono (by simp))
  have hbw':=hbw.alloc hbw.size (.cells #[.int .i64 aL,.int .i64 aH] 198)
  have HX:=Lib.hid hx1
  clear hx1
  go_wp2_with (first
  | (go_at_call 104;(with_reducible refine (hin _).mono ?_);rintro e wq ⟨rfl,hq⟩;subst wq)
  | (go_at_call 67;(with_reducible refine (fail_no _ _).mono ?_);rintro e wq ⟨rfl,hq⟩;subst wq)
  | (go_at_call 67;(with_reducible refine (fail_yes' _ _).mono ?_);rintro e wq ⟨rfl,hq⟩;subst wq))
  refine (hN _).mono ?_
  rintro e w4 ⟨rfl,hb4⟩
  have hbw4:=hbw'.trans (hb4.mono hbw'.size)
  go_wp2_with (first
  | (go_at_call 104;(with_reducible refine (hin _).mono ?_);rintro e wq ⟨rfl,hq⟩;subst wq)
  | (go_at_call 67;(with_reducible refine (fail_no _ _).mono ?_);rintro e wq ⟨rfl,hq⟩;subst wq)
  | (go_at_call 67;(with_reducible refine (fail_yes' _ _).mono ?_);rintro e wq ⟨rfl,hq⟩;subst wq))
  exact ⟨rfl,hbw4,.inr ⟨by omega,rfl⟩⟩
set_option maxRecDepth 100000 in
set_option maxHeartbeats 2000000 in
theorem look_named_tail (x:S31) (v5:Value) (w:World) (A:Option Addr) (c:Nat) (hv5:v5=.slice A x.f4.length c) (h0:0≤x.f0) (h1:x.f0≤14) (hlo:argLo x.f0≤x.f4.length) (hhi:(x.f4.length:Int)≤argHi x.f0)
  (hop:x.f0=1∨x.f0=10∨x.f0=11∨x.f0=13∨x.f0=14) (hnum:x.f1=z28) (hsz1:x.f2.size≤9223372036854775807) (hname:nameB x.f2=true) (n:Int) (hN:Hid (n=if x.f3 < sizeLo x.f0∨sizeHi x.f0 < x.f3 then 2 else 0)):Calls Tryz.prog 102 #[exV x v5] w (LPost n w):=by
 obtain ⟨op,num,name,size,xs⟩:=x
 subst hv5
 simp only at *
 have hin:=in_any op 0 14
 rw [decide_eq_true h0,decide_eq_true h1] at hin
 have l1:decide ((xs.length:Int) < argLo op)=false:=decide_eq_false (by omega)
 have l2:decide (argHi op < (xs.length:Int))=false:=decide_eq_false (by omega)
 have hz:=sizes3 op
 have E0:=eq198_0
 have E9:=eq198_9
 have E99:=eq198_99
 have hA:=arguments_calls op
 have hZ:=sizes_calls op
 have hin2:=in_any size (sizeLo op) (sizeHi op)
 subst hnum
 have hNm:=fun w=>name_any name w hsz1
 rw [hname] at hNm
 generalize argLo op=aL at *
 generalize argHi op=aH at *
 generalize sizeLo op=sL at *
 generalize sizeHi op=sH at *
 clear h0 h1 hlo hhi hname
 unfold exV z28
 simp only
 rcases hop with rfl | rfl | rfl | rfl | rfl
 all_goals
  go_enter Tryz.func102,Tryz.ntmps102
  go_wp2_with (first
   | (go_at_call 104;(with_reducible refine (hin _).mono ?_);rintro e wq ⟨rfl,hq⟩;subst wq)
   | (go_at_call 67;(with_reducible refine (fail_no _ _).mono ?_);rintro e wq ⟨rfl,hq⟩;subst wq)
   | (go_at_call 67;(with_reducible refine (fail_yes' _ _).mono ?_);rintro e wq ⟨rfl,hq⟩;subst wq))
  refine (hA _).mono ?_
  rintro e w1 ⟨rfl,hb1⟩
  have hx1:=bcell hb1 (blk_new w (.cells #[.int .i64 _,.string ⟨#[]⟩,.string ⟨#[]⟩,.string name,.int .i64 size,.slice A xs.length c] 31))
  obtain ⟨⟨q0,q1,q2,q3,q4,q5⟩,_,xl⟩:=cells6 hx1
  have hbw:Below w.heap.size w w1:=((Below.refl _ w).alloc (Nat.le_refl _) _).trans (hb1.mono (by simp))
  have hbw':=hbw.alloc hbw.size (.cells #[.int .i64 aL,.int .i64 aH] 198)
  have HX:=Lib.hid hx1
  clear hx1
  go_wp2_with (first
  | (go_at_call 104;(with_reducible refine (hin _).mono ?_);rintro e wq ⟨rfl,hq⟩;subst wq)
  | (go_at_call 67;(with_reducible refine (fail_no _ _).mono ?_);rintro e wq ⟨rfl,hq⟩;subst wq)
  | (go_at_call 67;(with_reducible refine (fail_yes' _ _).mono ?_);rintro e wq ⟨rfl,hq⟩;subst wq))
  refine (hNm _).mono ?_
  rintro e w4 ⟨rfl,hb4⟩
  have HXa:=Lib.hid (bcell hb4 ((Below.heap_alloc w1 (.cells #[.int .i64 aL,.int .i64 aH] 198) _ xl).trans HX.out))
  have HYa:=Lib.hid (bcell hb4 (blk_new w1 (.cells #[.int .i64 aL,.int .i64 aH] 198)))
  have hbwa:=hbw'.trans (hb4.mono hbw'.size)
  obtain ⟨⟨r0,r1,r2,r3,r4,r5⟩,_,xl4⟩:=cells6 HXa.out
  go_wp2_with (first
  | (go_at_call 104;(with_reducible refine (hin _).mono ?_);rintro e wq ⟨rfl,hq⟩;subst wq)
  | (go_at_call 67;(with_reducible refine (fail_no _ _).mono ?_);rintro e wq ⟨rfl,hq⟩;subst wq)
  | (go_at_call 67;(with_reducible refine (fail_yes' _ _).mono ?_);rintro e wq ⟨rfl,hq⟩;subst wq))
  refine (hZ _).mono ?_
  rintro e w2 ⟨rfl,hb2⟩
  have hx2:=bcell hb2 HXa.out
  have hy2:=bcell hb2 HYa.out
  have hbw2:=hbwa.trans (hb2.mono hbwa.size)
  have hw1:=hbw.size
  obtain ⟨⟨p0,p1,p2,p3,p4,p5⟩,_,xl2⟩:=cells6 hx2
  have y0:=blk_cell hy2 0
  have y1:=blk_cell hy2 1
  have z0:=blk_frozen hy2 0
  have z1:=blk_frozen hy2 1
  have yl:=blk_lt hy2
  have hneq:=Nat.ne_of_lt xl
  clear hx2 hy2 HX hb1 hb2 hb4 r0 r1 r2 r3 r4 r5
  by_cases hsz:size < sL∨sH < size
  ·have hn:n=2:=by rw [hN.out,if_pos hsz]
   have hsb:(decide (sL≤size) && decide (size≤sH))=false:=by
    rw [Bool.and_eq_false_iff]
    rcases hsz with h | h
    ·exact .inl (decide_eq_false (by omega))
    ·exact .inr (decide_eq_false (by omega))
   rw [hsb] at hin2
   subst hn
   clear hsb
   rcases hz with ⟨rfl,rfl⟩ | ⟨rfl,rfl⟩ | ⟨rfl,rfl⟩
   ·have hs:(size == 0)=false:=beq_no (by omega)
    have hs':(size != 0)=true:=by rw [bne,hs];rfl
    clear hsz
    go_wp2_with (first
     | (go_at_call 104;(with_reducible refine (hin2 _).mono ?_);rintro e wq ⟨rfl,hq⟩;subst wq)
     | (go_at_call 67;(with_reducible refine (fail_no _ _).mono ?_);rintro e wq ⟨rfl,hq⟩;subst wq)
     | (go_at_call 67;(with_reducible refine (fail_yes' _ _).mono ?_);rintro e wq ⟨rfl,hq⟩;subst wq))
    exact ⟨rfl,(hbw2.setCell (p:=⟨w1.heap.size,0,none⟩) (by simp;omega) _).setCell (p:=⟨w1.heap.size,1,none⟩) (by simp;omega) _,.inr ⟨by omega,rfl⟩⟩
   all_goals
    clear hsz
    go_wp2_with (first
     | (go_at_call 104;(with_reducible refine (hin2 _).mono ?_);rintro e wq ⟨rfl,hq⟩;subst wq)
     | (go_at_call 67;(with_reducible refine (fail_no _ _).mono ?_);rintro e wq ⟨rfl,hq⟩;subst wq)
     | (go_at_call 67;(with_reducible refine (fail_yes' _ _).mono ?_);rintro e wq ⟨rfl,hq⟩;subst wq))
    exact ⟨rfl,(hbw2.setCell (p:=⟨w1.heap.size,0,none⟩) (by simp;omega) _).setCell (p:=⟨w1.heap.size,1,none⟩) (by simp;omega) _,.inr ⟨by omega,rfl⟩⟩
  ·have hn:n=0:=by rw [hN.out,if_neg hsz]
   rw [decide_eq_true (show sL≤size by omega),decide_eq_true (show size≤sH by omega)] at hin2
   subst hn
   rcases hz with ⟨rfl,rfl⟩ | ⟨rfl,rfl⟩ | ⟨rfl,rfl⟩
   ·have hs:(size == 0)=true:=by rw [beq_iff_eq];omega
    have hs':(size != 0)=false:=by rw [bne,hs];rfl
    clear hsz
    go_wp2_with (first
     | (go_at_call 104;(with_reducible refine (hin2 _).mono ?_);rintro e wq ⟨rfl,hq⟩;subst wq)
     | (go_at_call 67;(with_reducible refine (fail_no _ _).mono ?_);rintro e wq ⟨rfl,hq⟩;subst wq)
     | (go_at_call 67;(with_reducible refine (fail_yes' _ _).mono ?_);rintro e wq ⟨rfl,hq⟩;subst wq))
    exact bodyPost_end (results_none rfl _ _ _) rfl ⟨(hbw2.setCell (p:=⟨w1.heap.size,0,none⟩) (by simp;omega) _).setCell (p:=⟨w1.heap.size,1,none⟩) (by simp;omega) _,.inl ⟨rfl,rfl⟩⟩
   all_goals
    clear hsz
    go_wp2_with (first
     | (go_at_call 104;(with_reducible refine (hin2 _).mono ?_);rintro e wq ⟨rfl,hq⟩;subst wq)
     | (go_at_call 67;(with_reducible refine (fail_no _ _).mono ?_);rintro e wq ⟨rfl,hq⟩;subst wq)
     | (go_at_call 67;(with_reducible refine (fail_yes' _ _).mono ?_);rintro e wq ⟨rfl,hq⟩;subst wq))
    exact bodyPost_end (results_none rfl _ _ _) rfl ⟨(hbw2.setCell (p:=⟨w1.heap.size,0,none⟩) (by simp;omega) _).setCell (p:=⟨w1.heap.size,1,none⟩) (by simp;omega) _,.inl ⟨rfl,rfl⟩⟩
end Go.Proofs.YtjaobihcdkjmbaaGreatDoor
end
section
namespace Go.Proofs.YtjaobihcdkjmbaaGreatDoor
open Go.RowKit Go.Proofs.YtjaobihcdkjmbaaGreatDoorW.PrintWords Go.Proofs.YtjaobihcdkjmbaaGreatDoor.PReadTokens
set_option maxRecDepth 100000 in
set_option maxHeartbeats 1000000 in
theorem look_lit_chk (x:S31) (v5:Value) (w:World) (A:Option Addr) (c:Nat) (hv5:v5=.slice A x.f4.length c) (h0:0≤x.f0) (h1:x.f0≤14) (hlo:argLo x.f0≤x.f4.length) (hhi:(x.f4.length:Int)≤argHi x.f0)
  (hop:x.f0=0) (hS:Start w) (hs1:x.f1.f0.size≤9223372036854775807) (hs2:x.f1.f1.size≤9223372036854775807) (m:Int) (hm:m=chkR x.f1) (hm0:m≠0):Calls Tryz.prog 102 #[exV x v5] w (LPost m w):=by
 obtain ⟨op,num,name,size,xs⟩:=x
 subst hv5
 simp only at *
 have hin:=in_any op 0 14
 rw [decide_eq_true h0,decide_eq_true h1] at hin
 have l1:decide ((xs.length:Int) < argLo op)=false:=decide_eq_false (by omega)
 have l2:decide (argHi op < (xs.length:Int))=false:=decide_eq_false (by omega)
 have hz:=sizes3 op
 have E0:=eq198_0
 have E9:=eq198_9
 have E99:=eq198_99
 have hA:=arguments_calls op
 have hZ:=sizes_calls op
 have hin2:=in_any size (sizeLo op) (sizeHi op)
 obtain ⟨nu,de⟩:=num
 simp only at *
 subst hop
 have hC:=fun w hS=>rcheck_calls nu de hs1 hs2 w hS
 rw [← hm] at hC
 have hmb:(m != 0)=true:=by simp [hm0]
 replace hm0:=Lib.hid hm0
 clear hm
 generalize argLo 0=aL at *
 generalize argHi 0=aH at *
 generalize sizeLo 0=sL at *
 generalize sizeHi 0=sH at *
 clear h0 h1 hlo hhi hz hZ hin2 E0 E9 E99
 unfold exV
 simp only
 go_enter Tryz.func102,Tryz.ntmps102
 go_wp2_with (first
  | (go_at_call 104;(with_reducible refine (hin _).mono ?_);rintro e wq ⟨rfl,hq⟩;subst wq)
  | (go_at_call 67;(with_reducible refine (fail_no _ _).mono ?_);rintro e wq ⟨rfl,hq⟩;subst wq)
  | (go_at_call 67;(with_reducible refine (fail_yes' _ _).mono ?_);rintro e wq ⟨rfl,hq⟩;subst wq))
 refine (hA _).mono ?_
 rintro e w1 ⟨rfl,hb1⟩
 have hx1:=bcell hb1 (blk_new w (.cells #[.int .i64 0,.string nu,.string de,.string name,.int .i64 size,.slice A xs.length c] 31))
 obtain ⟨⟨q0,q1,q2,q3,q4,q5⟩,_,xl⟩:=cells6 hx1
 have hbw:Below w.heap.size w w1:=((Below.refl _ w).alloc (Nat.le_refl _) _).trans (hb1.mono (by simp))
 have hbw':=hbw.alloc hbw.size (.cells #[.int .i64 aL,.int .i64 aH] 198)
 have HX:=Lib.hid hx1
 clear hx1
 go_wp2_with (first
  | (go_at_call 104;(with_reducible refine (hin _).mono ?_);rintro e wq ⟨rfl,hq⟩;subst wq)
  | (go_at_call 67;(with_reducible refine (fail_no _ _).mono ?_);rintro e wq ⟨rfl,hq⟩;subst wq)
  | (go_at_call 67;(with_reducible refine (fail_yes' _ _).mono ?_);rintro e wq ⟨rfl,hq⟩;subst wq))
 refine (hC _ (hS.below hbw')).mono ?_
 rintro e w4 ⟨rfl,hb4⟩
 have HXa:=Lib.hid (bcell hb4 ((Below.heap_alloc w1 (.cells #[.int .i64 aL,.int .i64 aH] 198) _ xl).trans HX.out))
 have HYa:=Lib.hid (bcell hb4 (blk_new w1 (.cells #[.int .i64 aL,.int .i64 aH] 198)))
 have hbwa:=hbw'.trans (hb4.mono hbw'.size)
 obtain ⟨⟨r0,r1,r2,r3,r4,r5⟩,_,xl4⟩:=cells6 HXa.out
 go_wp2_with (first
  | (go_at_call 104;(with_reducible refine (hin _).mono ?_);rintro e wq ⟨rfl,hq⟩;subst wq)
  | (go_at_call 67;(with_reducible refine (fail_no _ _).mono ?_);rintro e wq ⟨rfl,hq⟩;subst wq)
  | (go_at_call 67;(with_reducible refine (fail_yes' _ _).mono ?_);rintro e wq ⟨rfl,hq⟩;subst wq))
 exact ⟨rfl,hbwa,.inr ⟨hm0.out,rfl⟩⟩
set_option maxRecDepth 100000 in
set_option maxHeartbeats 1000000 in
theorem look_lit_neg (x:S31) (v5:Value) (w:World) (A:Option Addr) (c:Nat) (hv5:v5=.slice A x.f4.length c) (h0:0≤x.f0) (h1:x.f0≤14) (hlo:argLo x.f0≤x.f4.length) (hhi:(x.f4.length:Int)≤argHi x.f0)
  (hop:x.f0=0) (hS:Start w) (hs1:x.f1.f0.size≤9223372036854775807) (hs2:x.f1.f1.size≤9223372036854775807) (hm:chkR x.f1=0) (hp:0 < x.f1.f0.size) (hneg:(((x.f1.f0[0]'hp).toNat:Int) == 45)=true):Calls Tryz.prog 102 #[exV x v5] w (LPost 2 w):=by
 obtain ⟨op,num,name,size,xs⟩:=x
 subst hv5
 simp only at *
 have hin:=in_any op 0 14
 rw [decide_eq_true h0,decide_eq_true h1] at hin
 have l1:decide ((xs.length:Int) < argLo op)=false:=decide_eq_false (by omega)
 have l2:decide (argHi op < (xs.length:Int))=false:=decide_eq_false (by omega)
 have hz:=sizes3 op
 have E0:=eq198_0
 have E9:=eq198_9
 have E99:=eq198_99
 have hA:=arguments_calls op
 have hZ:=sizes_calls op
 have hin2:=in_any size (sizeLo op) (sizeHi op)
 obtain ⟨nu,de⟩:=num
 simp only at *
 subst hop
 have hC:=fun w hS=>rcheck_calls nu de hs1 hs2 w hS
 rw [hm] at hC
 clear hm
 generalize argLo 0=aL at *
 generalize argHi 0=aH at *
 generalize sizeLo 0=sL at *
 generalize sizeHi 0=sH at *
 clear h0 h1 hlo hhi hz hZ hin2 E0 E9 E99
 unfold exV
 simp only
 go_enter Tryz.func102,Tryz.ntmps102
 go_wp2_with (first
  | (go_at_call 104;(with_reducible refine (hin _).mono ?_);rintro e wq ⟨rfl,hq⟩;subst wq)
  | (go_at_call 67;(with_reducible refine (fail_no _ _).mono ?_);rintro e wq ⟨rfl,hq⟩;subst wq)
  | (go_at_call 67;(with_reducible refine (fail_yes' _ _).mono ?_);rintro e wq ⟨rfl,hq⟩;subst wq))
 refine (hA _).mono ?_
 rintro e w1 ⟨rfl,hb1⟩
 have hx1:=bcell hb1 (blk_new w (.cells #[.int .i64 0,.string nu,.string de,.string name,.int .i64 size,.slice A xs.length c] 31))
 obtain ⟨⟨q0,q1,q2,q3,q4,q5⟩,_,xl⟩:=cells6 hx1
 have hbw:Below w.heap.size w w1:=((Below.refl _ w).alloc (Nat.le_refl _) _).trans (hb1.mono (by simp))
 have hbw':=hbw.alloc hbw.size (.cells #[.int .i64 aL,.int .i64 aH] 198)
 have HX:=Lib.hid hx1
 clear hx1
 go_wp2_with (first
  | (go_at_call 104;(with_reducible refine (hin _).mono ?_);rintro e wq ⟨rfl,hq⟩;subst wq)
  | (go_at_call 67;(with_reducible refine (fail_no _ _).mono ?_);rintro e wq ⟨rfl,hq⟩;subst wq)
  | (go_at_call 67;(with_reducible refine (fail_yes' _ _).mono ?_);rintro e wq ⟨rfl,hq⟩;subst wq))
 refine (hC _ (hS.below hbw')).mono ?_
 rintro e w4 ⟨rfl,hb4⟩
 have HXa:=Lib.hid (bcell hb4 ((Below.heap_alloc w1 (.cells #[.int .i64 aL,.int .i64 aH] 198) _ xl).trans HX.out))
 have HYa:=Lib.hid (bcell hb4 (blk_new w1 (.cells #[.int .i64 aL,.int .i64 aH] 198)))
 have hbwa:=hbw'.trans (hb4.mono hbw'.size)
 obtain ⟨⟨r0,r1,r2,r3,r4,r5⟩,_,xl4⟩:=cells6 HXa.out
 go_wp2_with (first
  | (go_at_call 104;(with_reducible refine (hin _).mono ?_);rintro e wq ⟨rfl,hq⟩;subst wq)
  | (go_at_call 67;(with_reducible refine (fail_no _ _).mono ?_);rintro e wq ⟨rfl,hq⟩;subst wq)
  | (go_at_call 67;(with_reducible refine (fail_yes' _ _).mono ?_);rintro e wq ⟨rfl,hq⟩;subst wq))
 exact ⟨rfl,hbwa,.inr ⟨by omega,rfl⟩⟩
set_option maxRecDepth 100000 in
set_option maxHeartbeats 1000000 in
theorem look_lit_bad (x:S31) (v5:Value) (w:World) (A:Option Addr) (c:Nat) (hv5:v5=.slice A x.f4.length c) (h0:0≤x.f0) (h1:x.f0≤14) (hlo:argLo x.f0≤x.f4.length) (hhi:(x.f4.length:Int)≤argHi x.f0)
  (hop:x.f0=0) (hS:Start w) (hs1:x.f1.f0.size≤9223372036854775807) (hs2:x.f1.f1.size≤9223372036854775807) (hm:chkR x.f1=0) (hp:0 < x.f1.f0.size) (hneg:(((x.f1.f0[0]'hp).toNat:Int) == 45)=false) (hs3:x.f2.size < 9223372036854775807) (hne:x.f2≠⟨#[]⟩) (hub:unitB x.f2=false):Calls Tryz.prog 102 #[exV x v5] w (LPost 4 w):=by
 obtain ⟨op,num,name,size,xs⟩:=x
 subst hv5
 simp only at *
 have hin:=in_any op 0 14
 rw [decide_eq_true h0,decide_eq_true h1] at hin
 have l1:decide ((xs.length:Int) < argLo op)=false:=decide_eq_false (by omega)
 have l2:decide (argHi op < (xs.length:Int))=false:=decide_eq_false (by omega)
 have hz:=sizes3 op
 have E0:=eq198_0
 have E9:=eq198_9
 have E99:=eq198_99
 have hA:=arguments_calls op
 have hZ:=sizes_calls op
 have hin2:=in_any size (sizeLo op) (sizeHi op)
 obtain ⟨nu,de⟩:=num
 simp only at *
 subst hop
 have hC:=fun w hS=>rcheck_calls nu de hs1 hs2 w hS
 rw [hm] at hC
 clear hm
 have hU:=fun w=>unit_any name hs3 w
 rw [hub] at hU
 have hsome:name.toList.isEmpty=false:=by
  cases h:name.toList with
  | nil=>exact absurd (str_nil h) hne
  | cons _ _=>rfl
 generalize argLo 0=aL at *
 generalize argHi 0=aH at *
 generalize sizeLo 0=sL at *
 generalize sizeHi 0=sH at *
 clear h0 h1 hlo hhi hz hZ hin2 E0 E9 E99 hne hub
 unfold exV
 simp only
 go_enter Tryz.func102,Tryz.ntmps102
 go_wp2_with (first
  | (go_at_call 104;(with_reducible refine (hin _).mono ?_);rintro e wq ⟨rfl,hq⟩;subst wq)
  | (go_at_call 67;(with_reducible refine (fail_no _ _).mono ?_);rintro e wq ⟨rfl,hq⟩;subst wq)
  | (go_at_call 67;(with_reducible refine (fail_yes' _ _).mono ?_);rintro e wq ⟨rfl,hq⟩;subst wq))
 refine (hA _).mono ?_
 rintro e w1 ⟨rfl,hb1⟩
 have hx1:=bcell hb1 (blk_new w (.cells #[.int .i64 0,.string nu,.string de,.string name,.int .i64 size,.slice A xs.length c] 31))
 obtain ⟨⟨q0,q1,q2,q3,q4,q5⟩,_,xl⟩:=cells6 hx1
 have hbw:Below w.heap.size w w1:=((Below.refl _ w).alloc (Nat.le_refl _) _).trans (hb1.mono (by simp))
 have hbw':=hbw.alloc hbw.size (.cells #[.int .i64 aL,.int .i64 aH] 198)
 have HX:=Lib.hid hx1
 clear hx1
 go_wp2_with (first
  | (go_at_call 104;(with_reducible refine (hin _).mono ?_);rintro e wq ⟨rfl,hq⟩;subst wq)
  | (go_at_call 67;(with_reducible refine (fail_no _ _).mono ?_);rintro e wq ⟨rfl,hq⟩;subst wq)
  | (go_at_call 67;(with_reducible refine (fail_yes' _ _).mono ?_);rintro e wq ⟨rfl,hq⟩;subst wq))
 refine (hC _ (hS.below hbw')).mono ?_
 rintro e w4 ⟨rfl,hb4⟩
 have HXa:=Lib.hid (bcell hb4 ((Below.heap_alloc w1 (.cells #[.int .i64 aL,.int .i64 aH] 198) _ xl).trans HX.out))
 have HYa:=Lib.hid (bcell hb4 (blk_new w1 (.cells #[.int .i64 aL,.int .i64 aH] 198)))
 have hbwa:=hbw'.trans (hb4.mono hbw'.size)
 obtain ⟨⟨r0,r1,r2,r3,r4,r5⟩,_,xl4⟩:=cells6 HXa.out
 go_wp2_with (first
  | (go_at_call 104;(with_reducible refine (hin _).mono ?_);rintro e wq ⟨rfl,hq⟩;subst wq)
  | (go_at_call 67;(with_reducible refine (fail_no _ _).mono ?_);rintro e wq ⟨rfl,hq⟩;subst wq)
  | (go_at_call 67;(with_reducible refine (fail_yes' _ _).mono ?_);rintro e wq ⟨rfl,hq⟩;subst wq))
 refine (hU _).mono ?_
 rintro e w5 ⟨rfl,hb5⟩
 have hbw5:=hbwa.trans (hb5.mono hbwa.size)
 go_wp2_with (first
  | (go_at_call 104;(with_reducible refine (hin _).mono ?_);rintro e wq ⟨rfl,hq⟩;subst wq)
  | (go_at_call 67;(with_reducible refine (fail_no _ _).mono ?_);rintro e wq ⟨rfl,hq⟩;subst wq)
  | (go_at_call 67;(with_reducible refine (fail_yes' _ _).mono ?_);rintro e wq ⟨rfl,hq⟩;subst wq))
 exact ⟨rfl,hbw5,.inr ⟨by omega,rfl⟩⟩
set_option maxRecDepth 100000 in
set_option maxHeartbeats 1000000 in
theorem look_lit_unit (x:S31) (v5:Value) (w:World) (A:Option Addr) (c:Nat) (hv5:v5=.slice A x.f4.length c) (h0:0≤x.f0) (h1:x.f0≤14) (hlo:argLo x.f0≤x.f4.length) (hhi:(x.f4.length:Int)≤argHi x.f0)
  (hop:x.f0=0) (hS:Start w) (hs1:x.f1.f0.size≤9223372036854775807) (hs2:x.f1.f1.size≤9223372036854775807) (hm:chkR x.f1=0) (hp:0 < x.f1.f0.size) (hneg:(((x.f1.f0[0]'hp).toNat:Int) == 45)=false) (hs3:x.f2.size < 9223372036854775807) (hne:x.f2≠⟨#[]⟩) (hub:unitB x.f2=true) (n:Int) (hN:Hid (n=if x.f3 < sizeLo x.f0∨sizeHi x.f0 < x.f3 then 2 else 0)):Calls Tryz.prog 102 #[exV x v5] w (LPost n w):=by
 obtain ⟨op,num,name,size,xs⟩:=x
 subst hv5
 simp only at *
 have hin:=in_any op 0 14
 rw [decide_eq_true h0,decide_eq_true h1] at hin
 have l1:decide ((xs.length:Int) < argLo op)=false:=decide_eq_false (by omega)
 have l2:decide (argHi op < (xs.length:Int))=false:=decide_eq_false (by omega)
 have hz:=sizes3 op
 have E0:=eq198_0
 have E9:=eq198_9
 have E99:=eq198_99
 have hA:=arguments_calls op
 have hZ:=sizes_calls op
 have hin2:=in_any size (sizeLo op) (sizeHi op)
 obtain ⟨nu,de⟩:=num
 simp only at *
 subst hop
 have hC:=fun w hS=>rcheck_calls nu de hs1 hs2 w hS
 rw [hm] at hC
 clear hm
 have hU:=fun w=>unit_any name hs3 w
 rw [hub] at hU
 have hsome:name.toList.isEmpty=false:=by
  cases h:name.toList with
  | nil=>exact absurd (str_nil h) hne
  | cons _ _=>rfl
 generalize argLo 0=aL at *
 generalize argHi 0=aH at *
 generalize sizeLo 0=sL at *
 generalize sizeHi 0=sH at *
 clear h0 h1 hlo hhi hne hub
 unfold exV
 simp only
 go_enter Tryz.func102,Tryz.ntmps102
 go_wp2_with (first
  | (go_at_call 104;(with_reducible refine (hin _).mono ?_);rintro e wq ⟨rfl,hq⟩;subst wq)
  | (go_at_call 67;(with_reducible refine (fail_no _ _).mono ?_);rintro e wq ⟨rfl,hq⟩;subst wq)
  | (go_at_call 67;(with_reducible refine (fail_yes' _ _).mono ?_);rintro e wq ⟨rfl,hq⟩;subst wq))
 refine (hA _).mono ?_
 rintro e w1 ⟨rfl,hb1⟩
 have hx1:=bcell hb1 (blk_new w (.cells #[.int .i64 0,.string nu,.string de,.string name,.int .i64 size,.slice A xs.length c] 31))
 obtain ⟨⟨q0,q1,q2,q3,q4,q5⟩,_,xl⟩:=cells6 hx1
 have hbw:Below w.heap.size w w1:=((Below.refl _ w).alloc (Nat.le_refl _) _).trans (hb1.mono (by simp))
 have hbw':=hbw.alloc hbw.size (.cells #[.int .i64 aL,.int .i64 aH] 198)
 have HX:=Lib.hid hx1
 clear hx1
 go_wp2_with (first
  | (go_at_call 104;(with_reducible refine (hin _).mono ?_);rintro e wq ⟨rfl,hq⟩;subst wq)
  | (go_at_call 67;(with_reducible refine (fail_no _ _).mono ?_);rintro e wq ⟨rfl,hq⟩;subst wq)
  | (go_at_call 67;(with_reducible refine (fail_yes' _ _).mono ?_);rintro e wq ⟨rfl,hq⟩;subst wq))
 refine (hC _ (hS.below hbw')).mono ?_
 rintro e w4 ⟨rfl,hb4⟩
 have HXa:=Lib.hid (bcell hb4 ((Below.heap_alloc w1 (.cells #[.int .i64 aL,.int .i64 aH] 198) _ xl).trans HX.out))
 have HYa:=Lib.hid (bcell hb4 (blk_new w1 (.cells #[.int .i64 aL,.int .i64 aH] 198)))
 have hbwa:=hbw'.trans (hb4.mono hbw'.size)
 obtain ⟨⟨r0,r1,r2,r3,r4,r5⟩,_,xl4⟩:=cells6 HXa.out
 go_wp2_with (first
  | (go_at_call 104;(with_reducible refine (hin _).mono ?_);rintro e wq ⟨rfl,hq⟩;subst wq)
  | (go_at_call 67;(with_reducible refine (fail_no _ _).mono ?_);rintro e wq ⟨rfl,hq⟩;subst wq)
  | (go_at_call 67;(with_reducible refine (fail_yes' _ _).mono ?_);rintro e wq ⟨rfl,hq⟩;subst wq))
 refine (hU _).mono ?_
 rintro e w5 ⟨rfl,hb5⟩
 have HXb:=Lib.hid (bcell hb5 HXa.out)
 have HYb:=Lib.hid (bcell hb5 HYa.out)
 have hbwb:=hbwa.trans (hb5.mono hbwa.size)
 obtain ⟨⟨s0,s1,s2,s3,s4,s5⟩,_,xl5⟩:=cells6 HXb.out
 clear r0 r1 r2 r3 r4 r5 HXa HYa
 go_wp2_with (first
  | (go_at_call 104;(with_reducible refine (hin _).mono ?_);rintro e wq ⟨rfl,hq⟩;subst wq)
  | (go_at_call 67;(with_reducible refine (fail_no _ _).mono ?_);rintro e wq ⟨rfl,hq⟩;subst wq)
  | (go_at_call 67;(with_reducible refine (fail_yes' _ _).mono ?_);rintro e wq ⟨rfl,hq⟩;subst wq))
 refine (hZ _).mono ?_
 rintro e w2 ⟨rfl,hb2⟩
 have hx2:=bcell hb2 HXb.out
 have hy2:=bcell hb2 HYb.out
 have hbw2:=hbwb.trans (hb2.mono hbwb.size)
 have hw1:=hbw.size
 obtain ⟨⟨p0,p1,p2,p3,p4,p5⟩,_,xl2⟩:=cells6 hx2
 have y0:=blk_cell hy2 0
 have y1:=blk_cell hy2 1
 have z0:=blk_frozen hy2 0
 have z1:=blk_frozen hy2 1
 have yl:=blk_lt hy2
 have hneq:=Nat.ne_of_lt xl
 clear hx2 hy2 HX hb1 hb2 hb4 hb5 s0 s1 s2 s3 s4 s5
 by_cases hsz:size < sL∨sH < size
 ·have hn:n=2:=by rw [hN.out,if_pos hsz]
  have hsb:(decide (sL≤size) && decide (size≤sH))=false:=by
   rw [Bool.and_eq_false_iff]
   rcases hsz with h | h
   ·exact .inl (decide_eq_false (by omega))
   ·exact .inr (decide_eq_false (by omega))
  rw [hsb] at hin2
  subst hn
  clear hsb
  rcases hz with ⟨rfl,rfl⟩ | ⟨rfl,rfl⟩ | ⟨rfl,rfl⟩
  ·have hs:(size == 0)=false:=beq_no (by omega)
   have hs':(size != 0)=true:=by rw [bne,hs];rfl
   clear hsz
   go_wp2_with (first
    | (go_at_call 104;(with_reducible refine (hin2 _).mono ?_);rintro e wq ⟨rfl,hq⟩;subst wq)
    | (go_at_call 67;(with_reducible refine (fail_no _ _).mono ?_);rintro e wq ⟨rfl,hq⟩;subst wq)
    | (go_at_call 67;(with_reducible refine (fail_yes' _ _).mono ?_);rintro e wq ⟨rfl,hq⟩;subst wq))
   exact ⟨rfl,(hbw2.setCell (p:=⟨w1.heap.size,0,none⟩) (by simp;omega) _).setCell (p:=⟨w1.heap.size,1,none⟩) (by simp;omega) _,.inr ⟨by omega,rfl⟩⟩
  all_goals
   clear hsz
   go_wp2_with (first
    | (go_at_call 104;(with_reducible refine (hin2 _).mono ?_);rintro e wq ⟨rfl,hq⟩;subst wq)
    | (go_at_call 67;(with_reducible refine (fail_no _ _).mono ?_);rintro e wq ⟨rfl,hq⟩;subst wq)
    | (go_at_call 67;(with_reducible refine (fail_yes' _ _).mono ?_);rintro e wq ⟨rfl,hq⟩;subst wq))
   exact ⟨rfl,(hbw2.setCell (p:=⟨w1.heap.size,0,none⟩) (by simp;omega) _).setCell (p:=⟨w1.heap.size,1,none⟩) (by simp;omega) _,.inr ⟨by omega,rfl⟩⟩
 ·have hn:n=0:=by rw [hN.out,if_neg hsz]
  rw [decide_eq_true (show sL≤size by omega),decide_eq_true (show size≤sH by omega)] at hin2
  subst hn
  rcases hz with ⟨rfl,rfl⟩ | ⟨rfl,rfl⟩ | ⟨rfl,rfl⟩
  ·have hs:(size == 0)=true:=by rw [beq_iff_eq];omega
   have hs':(size != 0)=false:=by rw [bne,hs];rfl
   clear hsz
   go_wp2_with (first
    | (go_at_call 104;(with_reducible refine (hin2 _).mono ?_);rintro e wq ⟨rfl,hq⟩;subst wq)
    | (go_at_call 67;(with_reducible refine (fail_no _ _).mono ?_);rintro e wq ⟨rfl,hq⟩;subst wq)
    | (go_at_call 67;(with_reducible refine (fail_yes' _ _).mono ?_);rintro e wq ⟨rfl,hq⟩;subst wq))
   exact bodyPost_end (results_none rfl _ _ _) rfl ⟨(hbw2.setCell (p:=⟨w1.heap.size,0,none⟩) (by simp;omega) _).setCell (p:=⟨w1.heap.size,1,none⟩) (by simp;omega) _,.inl ⟨rfl,rfl⟩⟩
  all_goals
   clear hsz
   go_wp2_with (first
    | (go_at_call 104;(with_reducible refine (hin2 _).mono ?_);rintro e wq ⟨rfl,hq⟩;subst wq)
    | (go_at_call 67;(with_reducible refine (fail_no _ _).mono ?_);rintro e wq ⟨rfl,hq⟩;subst wq)
    | (go_at_call 67;(with_reducible refine (fail_yes' _ _).mono ?_);rintro e wq ⟨rfl,hq⟩;subst wq))
   exact bodyPost_end (results_none rfl _ _ _) rfl ⟨(hbw2.setCell (p:=⟨w1.heap.size,0,none⟩) (by simp;omega) _).setCell (p:=⟨w1.heap.size,1,none⟩) (by simp;omega) _,.inl ⟨rfl,rfl⟩⟩
set_option maxRecDepth 100000 in
set_option maxHeartbeats 1000000 in
theorem look_lit_plain (x:S31) (v5:Value) (w:World) (A:Option Addr) (c:Nat) (hv5:v5=.slice A x.f4.length c) (h0:0≤x.f0) (h1:x.f0≤14) (hlo:argLo x.f0≤x.f4.length) (hhi:(x.f4.length:Int)≤argHi x.f0)
  (hop:x.f0=0) (hS:Start w) (hs1:x.f1.f0.size≤9223372036854775807) (hs2:x.f1.f1.size≤9223372036854775807) (hm:chkR x.f1=0) (hp:0 < x.f1.f0.size) (hneg:(((x.f1.f0[0]'hp).toNat:Int) == 45)=false) (hne:x.f2=⟨#[]⟩) (n:Int) (hN:Hid (n=if x.f3 < sizeLo x.f0∨sizeHi x.f0 < x.f3 then 2 else 0)):Calls Tryz.prog 102 #[exV x v5] w (LPost n w):=by
 obtain ⟨op,num,name,size,xs⟩:=x
 subst hv5
 simp only at *
 have hin:=in_any op 0 14
 rw [decide_eq_true h0,decide_eq_true h1] at hin
 have l1:decide ((xs.length:Int) < argLo op)=false:=decide_eq_false (by omega)
 have l2:decide (argHi op < (xs.length:Int))=false:=decide_eq_false (by omega)
 have hz:=sizes3 op
 have E0:=eq198_0
 have E9:=eq198_9
 have E99:=eq198_99
 have hA:=arguments_calls op
 have hZ:=sizes_calls op
 have hin2:=in_any size (sizeLo op) (sizeHi op)
 obtain ⟨nu,de⟩:=num
 simp only at *
 subst hop
 have hC:=fun w hS=>rcheck_calls nu de hs1 hs2 w hS
 rw [hm] at hC
 clear hm
 subst hne
 generalize argLo 0=aL at *
 generalize argHi 0=aH at *
 generalize sizeLo 0=sL at *
 generalize sizeHi 0=sH at *
 clear h0 h1 hlo hhi
 unfold exV
 simp only
 go_enter Tryz.func102,Tryz.ntmps102
 go_wp2_with (first
  | (go_at_call 104;(with_reducible refine (hin _).mono ?_);rintro e wq ⟨rfl,hq⟩;subst wq)
  | (go_at_call 67;(with_reducible refine (fail_no _ _).mono ?_);rintro e wq ⟨rfl,hq⟩;subst wq)
  | (go_at_call 67;(with_reducible refine (fail_yes' _ _).mono ?_);rintro e wq ⟨rfl,hq⟩;subst wq))
 refine (hA _).mono ?_
 rintro e w1 ⟨rfl,hb1⟩
 have hx1:=bcell hb1 (blk_new w (.cells #[.int .i64 0,.string nu,.string de,.string ⟨#[]⟩,.int .i64 size,.slice A xs.length c] 31))
 obtain ⟨⟨q0,q1,q2,q3,q4,q5⟩,_,xl⟩:=cells6 hx1
 have hbw:Below w.heap.size w w1:=((Below.refl _ w).alloc (Nat.le_refl _) _).trans (hb1.mono (by simp))
 have hbw':=hbw.alloc hbw.size (.cells #[.int .i64 aL,.int .i64 aH] 198)
 have HX:=Lib.hid hx1
 clear hx1
 go_wp2_with (first
  | (go_at_call 104;(with_reducible refine (hin _).mono ?_);rintro e wq ⟨rfl,hq⟩;subst wq)
  | (go_at_call 67;(with_reducible refine (fail_no _ _).mono ?_);rintro e wq ⟨rfl,hq⟩;subst wq)
  | (go_at_call 67;(with_reducible refine (fail_yes' _ _).mono ?_);rintro e wq ⟨rfl,hq⟩;subst wq))
 refine (hC _ (hS.below hbw')).mono ?_
 rintro e w4 ⟨rfl,hb4⟩
 have HXa:=Lib.hid (bcell hb4 ((Below.heap_alloc w1 (.cells #[.int .i64 aL,.int .i64 aH] 198) _ xl).trans HX.out))
 have HYa:=Lib.hid (bcell hb4 (blk_new w1 (.cells #[.int .i64 aL,.int .i64 aH] 198)))
 have hbwa:=hbw'.trans (hb4.mono hbw'.size)
 obtain ⟨⟨r0,r1,r2,r3,r4,r5⟩,_,xl4⟩:=cells6 HXa.out
 go_wp2_with (first
  | (go_at_call 104;(with_reducible refine (hin _).mono ?_);rintro e wq ⟨rfl,hq⟩;subst wq)
  | (go_at_call 67;(with_reducible refine (fail_no _ _).mono ?_);rintro e wq ⟨rfl,hq⟩;subst wq)
  | (go_at_call 67;(with_reducible refine (fail_yes' _ _).mono ?_);rintro e wq ⟨rfl,hq⟩;subst wq))
 refine (hZ _).mono ?_
 rintro e w2 ⟨rfl,hb2⟩
 have hx2:=bcell hb2 HXa.out
 have hy2:=bcell hb2 HYa.out
 have hbw2:=hbwa.trans (hb2.mono hbwa.size)
 have hw1:=hbw.size
 obtain ⟨⟨p0,p1,p2,p3,p4,p5⟩,_,xl2⟩:=cells6 hx2
 have y0:=blk_cell hy2 0
 have y1:=blk_cell hy2 1
 have z0:=blk_frozen hy2 0
 have z1:=blk_frozen hy2 1
 have yl:=blk_lt hy2
 have hneq:=Nat.ne_of_lt xl
 clear hx2 hy2 HX hb1 hb2 hb4 r0 r1 r2 r3 r4 r5
 by_cases hsz:size < sL∨sH < size
 ·have hn:n=2:=by rw [hN.out,if_pos hsz]
  have hsb:(decide (sL≤size) && decide (size≤sH))=false:=by
   rw [Bool.and_eq_false_iff]
   rcases hsz with h | h
   ·exact .inl (decide_eq_false (by omega))
   ·exact .inr (decide_eq_false (by omega))
  rw [hsb] at hin2
  subst hn
  clear hsb
  rcases hz with ⟨rfl,rfl⟩ | ⟨rfl,rfl⟩ | ⟨rfl,rfl⟩
  ·have hs:(size == 0)=false:=beq_no (by omega)
   have hs':(size != 0)=true:=by rw [bne,hs];rfl
   clear hsz
   go_wp2_with (first
    | (go_at_call 104;(with_reducible refine (hin2 _).mono ?_);rintro e wq ⟨rfl,hq⟩;subst wq)
    | (go_at_call 67;(with_reducible refine (fail_no _ _).mono ?_);rintro e wq ⟨rfl,hq⟩;subst wq)
    | (go_at_call 67;(with_reducible refine (fail_yes' _ _).mono ?_);rintro e wq ⟨rfl,hq⟩;subst wq))
   exact ⟨rfl,(hbw2.setCell (p:=⟨w1.heap.size,0,none⟩) (by simp;omega) _).setCell (p:=⟨w1.heap.size,1,none⟩) (by simp;omega) _,.inr ⟨by omega,rfl⟩⟩
  all_goals
   clear hsz
   go_wp2_with (first
    | (go_at_call 104;(with_reducible refine (hin2 _).mono ?_);rintro e wq ⟨rfl,hq⟩;subst wq)
    | (go_at_call 67;(with_reducible refine (fail_no _ _).mono ?_);rintro e wq ⟨rfl,hq⟩;subst wq)
    | (go_at_call 67;(with_reducible refine (fail_yes' _ _).mono ?_);rintro e wq ⟨rfl,hq⟩;subst wq))
   exact ⟨rfl,(hbw2.setCell (p:=⟨w1.heap.size,0,none⟩) (by simp;omega) _).setCell (p:=⟨w1.heap.size,1,none⟩) (by simp;omega) _,.inr ⟨by omega,rfl⟩⟩
 ·have hn:n=0:=by rw [hN.out,if_neg hsz]
  rw [decide_eq_true (show sL≤size by omega),decide_eq_true (show size≤sH by omega)] at hin2
  subst hn
  rcases hz with ⟨rfl,rfl⟩ | ⟨rfl,rfl⟩ | ⟨rfl,rfl⟩
  ·have hs:(size == 0)=true:=by rw [beq_iff_eq];omega
   have hs':(size != 0)=false:=by rw [bne,hs];rfl
   clear hsz
   go_wp2_with (first
    | (go_at_call 104;(with_reducible refine (hin2 _).mono ?_);rintro e wq ⟨rfl,hq⟩;subst wq)
    | (go_at_call 67;(with_reducible refine (fail_no _ _).mono ?_);rintro e wq ⟨rfl,hq⟩;subst wq)
    | (go_at_call 67;(with_reducible refine (fail_yes' _ _).mono ?_);rintro e wq ⟨rfl,hq⟩;subst wq))
   exact bodyPost_end (results_none rfl _ _ _) rfl ⟨(hbw2.setCell (p:=⟨w1.heap.size,0,none⟩) (by simp;omega) _).setCell (p:=⟨w1.heap.size,1,none⟩) (by simp;omega) _,.inl ⟨rfl,rfl⟩⟩
  all_goals
   clear hsz
   go_wp2_with (first
    | (go_at_call 104;(with_reducible refine (hin2 _).mono ?_);rintro e wq ⟨rfl,hq⟩;subst wq)
    | (go_at_call 67;(with_reducible refine (fail_no _ _).mono ?_);rintro e wq ⟨rfl,hq⟩;subst wq)
    | (go_at_call 67;(with_reducible refine (fail_yes' _ _).mono ?_);rintro e wq ⟨rfl,hq⟩;subst wq))
   exact bodyPost_end (results_none rfl _ _ _) rfl ⟨(hbw2.setCell (p:=⟨w1.heap.size,0,none⟩) (by simp;omega) _).setCell (p:=⟨w1.heap.size,1,none⟩) (by simp;omega) _,.inl ⟨rfl,rfl⟩⟩
end Go.Proofs.YtjaobihcdkjmbaaGreatDoor
end
