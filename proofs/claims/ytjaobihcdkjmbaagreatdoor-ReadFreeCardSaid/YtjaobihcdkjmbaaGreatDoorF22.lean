/- The law ReadFree answers true for every argument; a part of its proof. -/
import Derived.Test.YtjaobihcdkjmbaaGreatDoorF3
import Derived.Test.YtjaobihcdkjmbaaGreatDoorF11
import Derived.Test.YtjaobihcdkjmbaaGreatDoorF12
import Derived.Test.YtjaobihcdkjmbaaGreatDoorF20
import Derived.Test.YtjaobihcdkjmbaaGreatDoorF21
set_option linter.unusedVariables false
set_option linter.unusedSimpArgs false
section
namespace Go.Proofs.YtjaobihcdkjmbaaGreatDoor
open Go.RowKit Go.Proofs.YtjaobihcdkjmbaaGreatDoorW.PrintWords Go.Proofs.YtjaobihcdkjmbaaGreatDoor.PReadTokens
structure Sz (x:S31):Prop where
 num:x.f1.f0.size≤4611686018427387904
 den:x.f1.f1.size≤4611686018427387904
 name:x.f2.size≤4611686018427387904
theorem chkR_pos {r:S28} (h:chkR r=0):0 < r.f0.size:=by
 unfold chkR at h
 by_cases h1:wchkF r.f0=1∨wchkF r.f1=1∨negB r.f1=true∨r.f1=⟨#[48]⟩
 ·rw [if_pos h1] at h;cases h
 ·exact form_pos (wchk_form (fun h2=>h1 (.inl h2)))
theorem look_calls (x:S31) (hsz:Sz x) (v:Value) (w:World) (hv:Vw w x v) (hS:Start w):Calls Tryz.prog 102 #[v] w (LPost (lookE x) w):=by
 obtain ⟨A,c,rfl,_,_⟩:=hv.out
 have k1:=hsz.num
 have k2:=hsz.den
 have k3:=hsz.name
 unfold lookE
 by_cases h1:x.f0 < 0∨14 < x.f0
 ·rw [if_pos h1];exact look_out x _ w A c rfl h1
 rw [if_neg h1]
 by_cases h2:(x.f4.length:Int) < argLo x.f0
 ·rw [if_pos h2]
  have:=look_args x _ w A c rfl (by omega) (by omega) (.inl h2)
  rwa [if_pos h2] at this
 rw [if_neg h2]
 by_cases h3:argHi x.f0 < (x.f4.length:Int)
 ·rw [if_pos h3]
  have:=look_args x _ w A c rfl (by omega) (by omega) (.inr h3)
  rwa [if_neg h2] at this
 rw [if_neg h3]
 unfold midE
 by_cases h4:x.f0=0
 ·rw [if_pos h4]
  by_cases h5:chkR x.f1≠0
  ·rw [if_pos h5];exact look_lit_chk x _ w A c rfl (by omega) (by omega) (by omega) (by omega) h4 hS (by omega) (by omega) _ rfl h5
  rw [if_neg h5]
  have h5':chkR x.f1=0:=by omega
  have hp:=chkR_pos h5'
  have hh:=neg_head hp
  by_cases h6:negB x.f1.f0=true
  ·rw [if_pos h6];exact look_lit_neg x _ w A c rfl (by omega) (by omega) (by omega) (by omega) h4 hS (by omega) (by omega) h5' hp (by rw [hh,h6])
  rw [if_neg h6]
  have h6':negB x.f1.f0=false:=by simpa using h6
  rw [h6'] at hh
  unfold tailE badName
  rw [if_pos h4]
  by_cases h7:x.f2=⟨#[]⟩
  ·rw [if_neg (by simp [h7])]
   exact look_lit_plain x _ w A c rfl (by omega) (by omega) (by omega) (by omega) h4 hS (by omega) (by omega) h5' hp hh h7 _ (Lib.hid rfl)
  ·cases h8:unitB x.f2
   ·rw [if_pos (by simp [h7])]
    exact look_lit_bad x _ w A c rfl (by omega) (by omega) (by omega) (by omega) h4 hS (by omega) (by omega) h5' hp hh (by omega) h7 h8
   ·rw [if_neg (by simp)]
    exact look_lit_unit x _ w A c rfl (by omega) (by omega) (by omega) (by omega) h4 hS (by omega) (by omega) h5' hp hh (by omega) h7 h8 _ (Lib.hid rfl)
 rw [if_neg h4]
 by_cases h5:x.f1≠z28
 ·rw [if_pos h5];exact look_other_num x _ w A c rfl (by omega) (by omega) (by omega) (by omega) h4 h5
 rw [if_neg h5]
 have h5':x.f1=z28:=by simpa using h5
 unfold tailE badName
 rw [if_neg h4]
 by_cases h6:x.f0=1∨x.f0=10∨x.f0=11∨x.f0=13∨x.f0=14
 ·rw [if_pos h6]
  cases h7:nameB x.f2
  ·rw [if_pos (by simp)]
   exact look_named_bad x _ w A c rfl (by omega) (by omega) (by omega) (by omega) h6 h5' (by omega) h7
  ·rw [if_neg (by simp)]
   exact look_named_tail x _ w A c rfl (by omega) (by omega) (by omega) (by omega) h6 h5' (by omega) h7 _ (Lib.hid rfl)
 ·rw [if_neg h6]
  by_cases h7:x.f2=⟨#[]⟩
  ·rw [if_neg (by simp [h7])]
   exact look_other_tail x _ w A c rfl (by omega) (by omega) (by omega) (by omega) ⟨h4,by omega,by omega,by omega,by omega,by omega⟩ h5' h7 _ (Lib.hid rfl)
  ·rw [if_pos (by simp [h7])]
   exact look_other_bad x _ w A c rfl (by omega) (by omega) (by omega) (by omega) ⟨h4,by omega,by omega,by omega,by omega,by omega⟩ h5' h7
end Go.Proofs.YtjaobihcdkjmbaaGreatDoor
end
section
namespace Go.Proofs.YtjaobihcdkjmbaaGreatDoor
open Go.RowKit Go.Proofs.YtjaobihcdkjmbaaGreatDoorW.PrintWords Go.Proofs.YtjaobihcdkjmbaaGreatDoor.PReadTokens
mutual
/-- The first error in an expression that is inside of d others;0 if it has none. -/
noncomputable def walkE:Nat→S31→Int
 | d,⟨a,b,c,e,l⟩=>if 30≤d then 7 else if lookE ⟨a,b,c,e,l⟩≠0 then lookE ⟨a,b,c,e,l⟩ else walkL (d+1) l
noncomputable def walkL:Nat→List S31→Int
 | _,[]=>0
 | d,x :: l=>if walkE d x≠0 then walkE d x else walkL d l
end
theorem walkE_eq (d:Nat) (x:S31):walkE d x=if 30≤d then 7 else if lookE x≠0 then lookE x else walkL (d+1) x.f4:=by cases x;rw [walkE]
theorem walkL_drop (d:Nat) (l:List S31) (j:Nat) (h:j < l.length):walkL d (l.drop j)=if walkE d l[j]≠0 then walkE d l[j] else walkL d (l.drop (j+1)):=by
 rw [List.drop_eq_getElem_cons h,walkL]
mutual
/-- The strings of an expression,and of all in it,are no great ones. -/
def szB:S31→Bool
 | ⟨_,b,c,_,l⟩=>decide (b.f0.size≤4611686018427387904) && decide (b.f1.size≤4611686018427387904) && decide (c.size≤4611686018427387904) && szL l
def szL:List S31→Bool
 | []=>true
 | x :: l=>szB x && szL l
end
theorem szB_eq (x:S31):szB x=(decide (x.f1.f0.size≤4611686018427387904) && decide (x.f1.f1.size≤4611686018427387904) && decide (x.f2.size≤4611686018427387904) && szL x.f4):=by cases x;rfl
theorem szL_mem {l:List S31} (h:szL l=true) {x:S31} (hx:x ∈ l):szB x=true:=by
 induction l with
 | nil=>simp at hx
 | cons y l ih =>
  simp only [szL,Bool.and_eq_true] at h
  rcases List.mem_cons.1 hx with rfl | hx
  ·exact h.1
  ·exact ih h.2 hx
theorem sz_of {x:S31} (h:szB x=true):Sz x∧szL x.f4=true:=by
 rw [szB_eq] at h
 simp only [Bool.and_eq_true,decide_eq_true_eq] at h
 exact ⟨⟨h.1.1.1,h.1.1.2,h.1.2⟩,h.2⟩
set_option maxRecDepth 100000 in
set_option maxHeartbeats 2000000 in
theorem walk_calls:∀ (n:Nat) (x:S31) (d:Nat),depthX x≤n→d≤30→nodesX x≤4611686018427387904→szB x=true→∀ (v:Value) (w:World),Vw w x v→Start w →
  Calls Tryz.prog 64 #[v,.int .i64 d] w (LPost (walkE d x) w):=by
 intro n
 induction n with
 | zero=>intro x d h;rw [depthX_eq] at h;omega
 | succ n ih =>
  intro x d hd hd30 hn hsz v w hv hS
  obtain ⟨hz1,hz2⟩:=sz_of hsz
  have hlook:=fun w' (hb:Below w.heap.size w w') (v':Value) (hv':Vw w' x v')=>look_calls x hz1 v' w' hv' (hS.below hb)
  obtain ⟨A,c,rfl,hc1,hc2⟩:=hv.out
  rw [depthX_eq] at hd
  rw [nodesX_eq] at hn
  rw [walkE_eq]
  obtain ⟨lk,hlk⟩:∃ k,k=lookE x:=⟨_,rfl⟩
  rw [← hlk] at hlook ⊢
  replace hlk:=Lib.hid hlk
  have hrec:∀ (j:Nat) (hj:j < x.f4.length),d < 30→∀ v w',Below w.heap.size w w'→Vw w' x.f4[j] v→Calls Tryz.prog 64 #[v,.int .i64 (d+1:Nat)] w' (LPost (walkE (d+1) x.f4[j]) w'):=by
   intro j hj hdd v w' hb hv'
   have h1:=depthX_mem (List.getElem_mem hj)
   have h2:=nodesX_mem (List.getElem_mem hj)
   exact ih _ _ (by omega) (by omega) (by omega) (szL_mem hz2 (List.getElem_mem hj)) v w' hv' (hS.below hb)
  have hlen:=length_nodesL x.f4
  have hv0:=hv
  have hdrop:=walkL_drop (d+1) x.f4
  obtain ⟨f0,f1,f2,f3,xs⟩:=x
  simp only at *
  clear ih hv hz1 hz2 hsz hS
  unfold exV at *
  simp only at *
  have HR:=Lib.hid hrec
  have HL:=Lib.hid hlook
  have HV:=Lib.hid hv0
  have HC:=Lib.hid hc2
  have HD:=Lib.hid hdrop
  clear hrec hlook hv0 hc2 hdrop
  have hb0:=(Below.refl _ w).alloc (Nat.le_refl _) (.cells #[.int .i64 f0,.string f1.f0,.string f1.f1,.string f2,.int .i64 f3,.slice A xs.length c] 31)
  by_cases h30:30≤d
  ·rw [if_pos h30]
   have hdl:decide (30≤(d:Int))=true:=decide_eq_true (by omega)
   clear h30
   go_enter Tryz.func64,Tryz.ntmps64
   go_wp2_with (go_at_call 67;(with_reducible refine (fail_yes' _ _).mono ?_);rintro e wq ⟨rfl,hq⟩;subst wq)
   exact ⟨rfl,hb0,.inr ⟨by omega,rfl⟩⟩
  rw [if_neg h30]
  have hdl:decide (30≤(d:Int))=false:=decide_eq_false (by omega)
  obtain ⟨R,hR⟩:∃ R,R=if lk≠0 then lk else walkL (d+1) xs:=⟨_,rfl⟩
  rw [← hR]
  replace hR:=Lib.hid hR
  go_enter Tryz.func64,Tryz.ntmps64
  go_wp2_with (go_at_call 67;(with_reducible refine (fail_no _ _).mono ?_);rintro e wq ⟨rfl,hq⟩;subst wq)
  refine (HL.out _ hb0 _ (HV.out.below ((Below.refl _ w).alloc (Nat.le_refl _) _))).mono ?_
  rintro e w1 ⟨hb1,hcase⟩
  have hbw:=hb0.trans (hb1.mono (by simp))
  rcases hcase.symm with ⟨h0,he⟩ | ⟨h0,rfl⟩
  ·have hR2:Hid (R=lk):=Lib.hid (by rw [hR.out,if_pos h0])
   unfold wrongAt at he
   subst he
   replace h0:=Lib.hid h0
   clear hR
   go_wp2
   exact ⟨rfl,hbw,.inr ⟨by rw [hR2.out];exact h0.out,by rw [hR2.out];rfl⟩⟩
  replace hR:Hid (R=walkL (d+1) xs):=Lib.hid (by rw [hR.out,if_neg (by omega)])
  clear h0
  have hx1:=bcell hb1 (blk_new w (.cells #[.int .i64 f0,.string f1.f0,.string f1.f1,.string f2,.int .i64 f3,.slice A xs.length c] 31))
  obtain ⟨⟨q0,q1,q2,q3,q4,q5⟩,_,xl⟩:=cells6 hx1
  clear hx1 hb1
  go_wp2
  go_loopg [14] xs.length (fun k i wr=>∃ j:Nat,j+k=xs.length∧i=.int .i64 j∧Below w.heap.size w wr∧Hid (R=walkL (d+1) (xs.drop j)))
  case atStart=>exact ⟨0,by omega,rfl,hbw,by rw [List.drop_zero];exact hR⟩
  case round =>
   clear hbw q0 q1 q2 q3 q4 q5 xl hR
   obtain ⟨j,hj,rfl,hat,HRj⟩:=hrel
   by_cases hjl:j < xs.length
   ·obtain ⟨ad,A5,c5,rfl,q0,q1,q2,q3,q4,q5,hvw⟩:=arg_cells (Kd.C_below HC.out hat) j hjl
    have hr:=HR.out j hjl (by omega)
    have hdj:=HD.out j hjl
    generalize xs[j]=y at *
    have Hvw:=Lib.hid hvw
    have hd1:((d+1:Nat):Int)=(d:Int)+1:=by omega
    rw [hd1] at hr
    obtain ⟨m,hm⟩:∃ m,m=walkE (d+1) y:=⟨_,rfl⟩
    rw [← hm] at hr hdj
    rw [hdj] at HRj
    clear hvw hm hdj
    go_wp2_with fail
    refine (hr _ _ (hat.alloc hat.size _) (Hvw.out.below ((Below.refl _ _).alloc (Nat.le_refl _) _))).mono ?_
    rintro e w2 ⟨hb2,hcase⟩
    have hat2:Below w.heap.size w w2:=(hat.alloc hat.size _).trans (hb2.mono (by simp;have:=hat.size;omega))
    clear hr
    rcases hcase with ⟨h0,rfl⟩ | ⟨h0,he⟩
    ·have HRj':Hid (R=walkL (d+1) (xs.drop (j+1))):=Lib.hid (by rw [HRj.out,if_neg (by omega)])
     clear h0 HRj
     go_wp2
     go_roundg (gk - 1)
     case measure=>omega
     case rel=>exact ⟨j+1,round_next hj hjl,by go_num,hat2,HRj'⟩
    ·have HRj':Hid (R=m):=Lib.hid (by rw [HRj.out,if_pos h0])
     unfold wrongAt at he
     subst he
     replace h0:=Lib.hid h0
     clear HRj
     go_wp2
     exact ⟨rfl,hat2,.inr ⟨by rw [HRj'.out];exact h0.out,by rw [HRj'.out];rfl⟩⟩
   ·obtain rfl:j=xs.length:=by omega
    have HRj':Hid (R=0):=Lib.hid (by rw [HRj.out,List.drop_length,walkL])
    go_wp2
    exact bodyPost_end (results_none rfl _ _ _) rfl ⟨hat,.inl ⟨HRj'.out,rfl⟩⟩
noncomputable def chkE (x:S31):Int:=walkE 0 x
set_option maxRecDepth 100000 in
set_option maxHeartbeats 2000000 in
theorem CheckExpr_calls (x:S31) (hn:nodesX x≤4611686018427387904) (hsz:szB x=true) (v:Value) (w:World) (hv:Vw w x v) (hS:Start w) :
  Calls Tryz.prog 27 #[v] w fun e w'=>e=.returned (.int .i64 (chkE x))∧Below w.heap.size w w':=by
 obtain ⟨A,c,rfl,hc1,hc2⟩:=hv.out
 have hmf:∀ (fn:Fn) (first cap:Array Value) (w:World),(Instr.makeFunc fn first cap).run Tryz.prog w=.ok (.func fn first cap) w:=fun _ _ _ _=>rfl
 have hb0:∀ o,Below w.heap.size w ((w.alloc o).alloc (.cells #[.int .i64 0] 36)):=fun o=>((Below.refl _ w).alloc (Nat.le_refl _) _).alloc (by simp) _
 have hw:=fun w' (hb:Below w.heap.size w w')=>walk_calls _ x 0 (Nat.le_refl _) (by omega) hn hsz _ w' (hv.below hb) (hS.below hb)
 change ∀ w',Below w.heap.size w w'→Calls Tryz.prog 64 #[_,.int .i64 0] w' (LPost (chkE x) w') at hw
 have hr0:∀ o,((w.alloc o).alloc (.cells #[.int .i64 0] 36)).heap[w.heap.size+1]?=some (.cells #[.int .i64 0] 36 (0,0)):=fun o=>by have:=blk_new (w.alloc o) (.cells #[.int .i64 0] 36);rwa [World.size_alloc] at this
 generalize chkE x=n at *
 have hge:=fun o=>(hS.below (hb0 o)).err
 obtain ⟨f0,f1,f2,f3,xs⟩:=x
 simp only at *
 unfold exV at *
 simp only at *
 have HW:=Lib.hid hw
 have HG:=Lib.hid hge
 clear hw hv hS hc2 hge
 go_enter_defers Tryz.func27,Tryz.ntmps27
 go_wp2_with fail
 refine (HW.out _ (hb0 _)).mono ?_
 rintro e w1 ⟨hb1,hcase⟩
 have hr1:=bcell hb1 (hr0 _)
 have hg1:=pw_cell_below hb1 (HG.out _)
 have hbw:=(hb0 (.cells #[.int .i64 f0,.string f1.f0,.string f1.f1,.string f2,.int .i64 f3,.slice A xs.length c] 31)).trans (hb1.mono (by simp;omega))
 rcases hcase with ⟨h0,rfl⟩ | ⟨h0,he⟩
 ·subst h0
  have c1:=blk_cell hr1 0
  have f1':=blk_frozen hr1 0
  go_wp2
  have hr2:=blk_set hr1 0 (.int .i64 0)
  have hbw2:=hbw.setCell (p:=⟨w.heap.size+1,0,none⟩) (by simp) (.int .i64 0)
  generalize w1.setCell ⟨w.heap.size+1,0,none⟩ (.int .i64 0)=w2 at *
  refine leaves_cons (f:=62) (args:=#[.pointer (some ⟨w.heap.size+1,0,none⟩)]) (by simp) (by simp [go_sem]) ?_
  refine (catch62_idle (w.heap.size+1) (.int .i64 0) w2 hr2).mono ?_
  rintro e u w3 ⟨rfl,rfl,hw3⟩
  have c4:w3.cell? ⟨w.heap.size+1,0,none⟩=some (.int .i64 0):=by rw [hw3];exact blk_cell (blk_set hr2 0 (.int .i64 0)) 0
  have hfin:Below w.heap.size w w3:=by rw [hw3];exact hbw2.setCell (p:=⟨w.heap.size+1,0,none⟩) (by simp) _
  simp [Leaves,settle,results,Tryz.results27,go_sem,c4,hfin]
 ·unfold wrongAt at he
  subst he
  clear h0
  go_wp2
  refine leaves_cons (f:=62) (args:=#[.pointer (some ⟨w.heap.size+1,0,none⟩)]) (by simp) (by simp [go_sem]) ?_
  refine (catch62_hit (w.heap.size+1) n (.int .i64 0) [] w1 hr1 hg1).mono ?_
  rintro e u w3 ⟨rfl,rfl,hs3,hg3⟩
  have c4:w3.cell? ⟨w.heap.size+1,0,none⟩=some (.int .i64 n):=blk_cell hs3 0
  have hfin:Below w.heap.size w w3:=hbw.grown hg3 hbw.size (fun j e=>by injection e with e;omega)
  simp [Leaves,settle,results,Tryz.results27,go_sem,c4,hfin]
end Go.Proofs.YtjaobihcdkjmbaaGreatDoor
end
section
namespace Go.Proofs.YtjaobihcdkjmbaaGreatDoor
open Go.RowKit Go.Maps Go.WideShapes Go.Proofs.YtjaobihcdkjmbaaGreatDoorW.PrintWords Go.Proofs.YtjaobihcdkjmbaaGreatDoor.PReadTokens
theorem repl_all (B:S31→Prop) (p:Int→S28→ByteArray→Int→Nat→Prop) (hB:∀ x,B x↔(p x.f0 x.f1 x.f2 x.f3 x.f4.length∧∀ a ∈ x.f4,B a)) (name:ByteArray) (y:S31) (T:DataW Unit) (hy:B y) :
  ∀ (n:Nat) (x z:S31),depthX x≤n→B x→replS name y T x=some z→B z:=by
 intro n
 induction n with
 | zero=>intro x z h;rw [depthX_eq] at h;omega
 | succ n ih =>
  intro x z hd hx h
  rw [depthX_eq] at hd
  rcases replS_cases h with ⟨_,_,rfl⟩ | ⟨_,l',hl,rfl⟩
  ·exact hy
  ·have key:∀ (l l':List S31) (i:Nat),(∀ a ∈ l,depthX a≤n∧B a)→replL name y T x.f0 x.f2 i l=some l'→l'.length=l.length∧∀ b ∈ l',B b:=by
    intro l
    induction l with
    | nil=>intro l' i _ h;rw [replL_nil] at h;injection h with h;subst h;exact ⟨rfl,fun b hb=>by cases hb⟩
    | cons a l ih2 =>
     intro l' i hall h
     obtain ⟨b,r,rfl,hb,hr⟩:=replL_cons h
     obtain ⟨h1,h2⟩:=ih2 r (i+1) (fun c hc=>hall c (List.mem_cons_of_mem _ hc)) hr
     obtain ⟨da,ba⟩:=hall a (List.mem_cons_self ..)
     refine ⟨by simp [h1],fun c hc=>?_⟩
     rcases List.mem_cons.1 hc with rfl | hc
     ·rcases replOne_cases hb with ⟨_,_,rfl⟩ | ⟨_,_,h5⟩
      ·exact ba
      ·exact ih a c da ba h5
     ·exact h2 c hc
   obtain ⟨h1,h2⟩:=(hB x).1 hx
   obtain ⟨k1,k2⟩:=key x.f4 l' 0 (fun a ha=>⟨by have:=depthX_mem ha;omega,h2 a ha⟩) hl
   exact (hB _).2 ⟨by simp only;rw [k1];exact h1,k2⟩
theorem smallL_iff (l:List S31):smallL l=true↔∀ a ∈ l,smallB a=true:=by
 induction l with
 | nil=>simp [smallL]
 | cons a l ih=>rw [smallL,Bool.and_eq_true,ih];simp
theorem small_iff (x:S31):smallB x=true↔(x.f2.size≤4611686018427387904∧∀ a ∈ x.f4,smallB a=true):=by rw [smallB_eq,Bool.and_eq_true,decide_eq_true_eq,smallL_iff]
theorem szL_iff (l:List S31):szL l=true↔∀ a ∈ l,szB a=true:=by
 induction l with
 | nil=>simp [szL]
 | cons a l ih=>rw [szL,Bool.and_eq_true,ih];simp
theorem sz_iff (x:S31):szB x=true↔((x.f1.f0.size≤4611686018427387904∧x.f1.f1.size≤4611686018427387904∧x.f2.size≤4611686018427387904)∧∀ a ∈ x.f4,szB a=true):=by
 rw [szB_eq]
 simp only [Bool.and_eq_true,decide_eq_true_eq,szL_iff]
 constructor
 ·rintro ⟨⟨⟨h1,h2⟩,h3⟩,h4⟩;exact ⟨⟨h1,h2,h3⟩,h4⟩
 ·rintro ⟨⟨h1,h2,h3⟩,h4⟩;exact ⟨⟨⟨h1,h2⟩,h3⟩,h4⟩
theorem repl_small {name:ByteArray} {y x z:S31} {T:DataW Unit} (hx:smallB x=true) (hy:smallB y=true) (h:replS name y T x=some z):smallB z=true :=
 repl_all (fun x=>smallB x=true) (fun _ _ nm _ _=>nm.size≤4611686018427387904) small_iff name y T hy _ x z (Nat.le_refl _) hx h
theorem repl_sz {name:ByteArray} {y x z:S31} {T:DataW Unit} (hx:szB x=true) (hy:szB y=true) (h:replS name y T x=some z):szB z=true :=
 repl_all (fun x=>szB x=true) (fun _ q nm _ _=>q.f0.size≤4611686018427387904∧q.f1.size≤4611686018427387904∧nm.size≤4611686018427387904) sz_iff name y T hy _ x z (Nat.le_refl _) hx h
inductive OkX:S31→Prop
 | mk (x:S31) (h:lookE x=0) (hl:∀ a ∈ x.f4,OkX a):OkX x
theorem look_same (x:S31) (l:List S31) (h:l.length=x.f4.length):lookE ⟨x.f0,x.f1,x.f2,x.f3,l⟩=lookE x:=by
 obtain ⟨op,num,nm,size,l'⟩:=x
 simp only at h
 unfold lookE midE tailE badName
 simp only [h]
theorem ok_iff (x:S31):OkX x↔(lookE ⟨x.f0,x.f1,x.f2,x.f3,List.replicate x.f4.length z31⟩=0∧∀ a ∈ x.f4,OkX a):=by
 rw [look_same x _ (List.length_replicate ..)]
 exact ⟨fun ⟨_,h,hl⟩=>⟨h,hl⟩,fun ⟨h,hl⟩=>⟨_,h,hl⟩⟩
theorem repl_ok {name:ByteArray} {y x z:S31} {T:DataW Unit} (hx:OkX x) (hy:OkX y) (h:replS name y T x=some z):OkX z :=
 repl_all OkX (fun op q nm size k=>lookE ⟨op,q,nm,size,List.replicate k z31⟩=0) ok_iff name y T hy _ x z (Nat.le_refl _) hx h
theorem walkL_zero (d:Nat):∀ l:List S31,walkL d l=0↔∀ a ∈ l,walkE d a=0
 | []=>by rw [walkL];simp
 | a :: l=>by
  rw [walkL]
  by_cases h:walkE d a=0
  ·rw [if_neg (by simp [h]),walkL_zero d l];simp [h]
  ·rw [if_pos h];simp [h]
theorem depthL_le {l:List S31} {m:Nat} (h:∀ a ∈ l,depthX a≤m):depthL l≤m:=by
 induction l with
 | nil=>simp [depthL]
 | cons a l ih =>
  have h1:=h a (List.mem_cons_self ..)
  have h2:=ih (fun b hb=>h b (List.mem_cons_of_mem _ hb))
  rw [depthL];omega
theorem walk_iff:∀ (n:Nat) (x:S31) (d:Nat),depthX x≤n→(walkE d x=0↔(OkX x∧d+depthX x≤30)):=by
 intro n
 induction n with
 | zero=>intro x d h;rw [depthX_eq] at h;omega
 | succ n ih =>
  intro x d hd
  rw [depthX_eq] at hd
  have hi:∀ a ∈ x.f4,(walkE (d+1) a=0↔(OkX a∧d+1+depthX a≤30)):=fun a ha=>ih a (d+1) (by have:=depthX_mem ha;omega)
  rw [walkE_eq]
  by_cases h30:30≤d
  ·rw [if_pos h30]
   constructor
   ·intro h;omega
   ·rintro ⟨_,h⟩;rw [depthX_eq] at h;omega
  ·rw [if_neg h30]
   by_cases hl:lookE x=0
   ·rw [if_neg (by simp [hl]),walkL_zero]
    constructor
    ·intro h
     refine ⟨⟨_,hl,fun a ha=>((hi a ha).1 (h a ha)).1⟩,?_⟩
     have:=depthL_le (m:=30 - (d+1)) (fun a ha=>by have:=((hi a ha).1 (h a ha)).2;omega)
     rw [depthX_eq];omega
    ·rintro ⟨⟨_,_,hok⟩,hdd⟩ a ha
     refine (hi a ha).2 ⟨hok a ha,?_⟩
     have:=depthX_mem ha
     rw [depthX_eq] at hdd
     omega
   ·rw [if_pos hl]
    constructor
    ·intro h;exact absurd h hl
    ·rintro ⟨⟨_,h,_⟩,_⟩;exact absurd h hl
theorem chk_iff (x:S31):chkE x=0↔(OkX x∧depthX x≤30):=by
 have:=walk_iff _ x 0 (Nat.le_refl _)
 rw [Nat.zero_add] at this
 exact this
theorem repl_free (s:ByteArray) (y:S31) (hy:smallB y=true) (t:ByteArray):∀ (n:Nat) (x z:S31),depthX x≤n→smallB x=true→refB x=true→replS s y (freeG y) x=some z →
  (has (freeG z) (nmL t)=true↔((has (freeG x) (nmL t)=true∧t≠s)∨(has (freeG x) (nmL s)=true∧has (freeG y) (nmL t)=true))):=by
 intro n
 induction n with
 | zero=>intro x z h;rw [depthX_eq] at h;omega
 | succ n ih =>
  intro x z hd hs hr h
  have hsz:=repl_small hs hy h
  rw [depthX_eq] at hd
  have hrr:=hr
  rw [refB_eq,Bool.and_eq_true] at hrr
  rcases replS_cases h with ⟨h1,h2,rfl⟩ | ⟨hne,l',hl,rfl⟩
  ·have he:x.f4=[]:=by
    have:=hrr.1
    simp [h1] at this
    exact this
   rw [has_free x hs t,has_free x hs s,he]
   simp only [hasL,Bool.or_false,decide_eq_true_eq]
   constructor
   ·intro h;exact .inr ⟨⟨h1,h2⟩,h⟩
   ·rintro (⟨⟨_,h3⟩,h4⟩ | ⟨_,h⟩)
    ·exact absurd (h3.symm.trans h2) h4
    ·exact h
  ·have key:∀ (l l':List S31) (i:Nat),(∀ a ∈ l,depthX a≤n∧smallB a=true∧refB a=true)→replL s y (freeG y) x.f0 x.f2 i l=some l' →
     (hasL t x.f0 x.f2 i l'=true↔((hasL t x.f0 x.f2 i l=true∧t≠s)∨(hasL s x.f0 x.f2 i l=true∧has (freeG y) (nmL t)=true))):=by
    intro l
    induction l with
    | nil=>intro l' i _ h;rw [replL_nil] at h;injection h with h;subst h;simp [hasL]
    | cons a l ih2 =>
     intro l' i hall h
     obtain ⟨b,r,rfl,hb,hrr⟩:=replL_cons h
     have h2:=ih2 r (i+1) (fun c hc=>hall c (List.mem_cons_of_mem _ hc)) hrr
     obtain ⟨da,sa,ra⟩:=hall a (List.mem_cons_self ..)
     simp only [hasL,Bool.or_eq_true,Bool.and_eq_true,Bool.not_eq_true',Bool.and_eq_false_iff,decide_eq_false_iff_not] at h2 ⊢
     rcases replOne_cases hb with ⟨h3,h4,rfl⟩ | ⟨h3,h5,h6⟩
     ·rw [h2]
      constructor
      ·rintro (⟨k1,k2⟩ | ⟨k1,k2⟩ | k1)
       ·exact .inl ⟨.inl ⟨k1,k2⟩,fun e=>by rcases k1 with k1 | k1;(· rw [h3] at k1;cases k1);exact k1 (h4.trans e.symm)⟩
       ·exact .inl ⟨.inr k1,k2⟩
       ·exact .inr ⟨.inr k1.1,k1.2⟩
      ·rintro (⟨⟨k1,k2⟩ | k1,k3⟩ | ⟨⟨k1,k2⟩ | k1,k3⟩)
       ·exact .inl ⟨k1,k2⟩
       ·exact .inr (.inl ⟨k1,k3⟩)
       ·rcases k1 with k1 | k1
        ·rw [h3] at k1;cases k1
        ·exact absurd h4 k1
       ·exact .inr (.inr ⟨k1,k3⟩)
     ·have h7:=ih a b da sa ra h6
      rw [h7,h2]
      have hcl:has (freeG a) (nmL s)=true→has (freeG y) (nmL t)=true→(bindsAt x.f0 i=false∨¬ x.f2=t):=fun k1 k2=>by
       cases hbb:bindsAt x.f0 i
       ·exact .inl rfl
       ·exact .inr (fun e=>h5 ⟨hbb,by rw [e];exact k2,k1⟩)
      have hns:bindsAt x.f0 i=false∨¬ x.f2=s:=by
       cases hbb:bindsAt x.f0 i
       ·exact .inl rfl
       ·exact .inr (fun e=>h3 ⟨hbb,e⟩)
      constructor
      ·rintro (⟨k1,⟨k2,k3⟩ | ⟨k2,k3⟩⟩ | ⟨k1,k2⟩ | ⟨k1,k2⟩)
       ·exact .inl ⟨.inl ⟨k1,k2⟩,k3⟩
       ·exact .inr ⟨.inl ⟨hns,k2⟩,k3⟩
       ·exact .inl ⟨.inr k1,k2⟩
       ·exact .inr ⟨.inr k1,k2⟩
      ·rintro (⟨⟨k1,k2⟩ | k1,k3⟩ | ⟨⟨k1,k2⟩ | k1,k3⟩)
       ·exact .inl ⟨k1,.inl ⟨k2,k3⟩⟩
       ·exact .inr (.inl ⟨k1,k3⟩)
       ·exact .inl ⟨hcl k2 k3,.inr ⟨k2,k3⟩⟩
       ·exact .inr (.inr ⟨k1,k3⟩)
   have hk:=key x.f4 l' 0 (fun a ha=>⟨by have:=depthX_mem ha;omega,smallL_mem (small_of hs).2 ha,refL_mem hrr.2 ha⟩) hl
   rw [has_free _ hsz t,has_free x hs t,has_free x hs s]
   simp only [Bool.or_eq_true,decide_eq_true_eq]
   rw [hk]
   constructor
   ·rintro (⟨k1,k2⟩ | ⟨k1,k2⟩ | k1)
    ·exact .inl ⟨.inl ⟨k1,k2⟩,fun e=>hne ⟨k1,k2.trans e⟩⟩
    ·exact .inl ⟨.inr k1,k2⟩
    ·exact .inr ⟨.inr k1.1,k1.2⟩
   ·rintro (⟨k1 | k1,k2⟩ | ⟨k1 | k1,k2⟩)
    ·exact .inl k1
    ·exact .inr (.inl ⟨k1,k2⟩)
    ·exact absurd k1 hne
    ·exact .inr (.inr ⟨k1,k2⟩)
end Go.Proofs.YtjaobihcdkjmbaaGreatDoor
end
section
namespace Go.Proofs.YtjaobihcdkjmbaaGreatDoor.PReadTokens
open Go.RowKit Go.Proofs.YtjaobihcdkjmbaaGreatDoorW.PrintWords Go.Proofs.YtjaobihcdkjmbaaGreatDoorW.PrintLast Go.Proofs.YtjaobihcdkjmbaaGreatDoorW.PrintMore
attribute [local go_sem] max2_int min2_int max_two min_two max_three min_three max_four min_four   -- for this text's walks alone
set_option linter.unusedVariables false
set_option linter.unusedSimpArgs false
def metewandkit_EqTexts.l0:Nat→List ByteArray→List ByteArray→Int→Option (Bool)
 | 0,_,_,_=>none
 | k+1,x0,x1,x5=>if x5 < (x0.length:Int) then (if 0≤x5 then (if x5 < (x1.length:Int) then (if (rdOf ByteArray.empty x0 x5).toList=(rdOf ByteArray.empty x1 x5).toList then (metewandkit_EqTexts.l0 k x0 x1 (wrap64 (x5+1))) else (some false)) else (none)) else (none)) else (some true)
def metewandkit_EqTexts.f (k:Nat) (l0:List ByteArray) (l1:List ByteArray):Option (Bool):=if (l0.length:Int)=(l1.length:Int) then (metewandkit_EqTexts.l0 k l0 l1 0) else (some false)
theorem metewandkit_EqTexts.mono_l:∀ k,(∀ y0 y1 y2,LeO (metewandkit_EqTexts.l0 k y0 y1 y2) (metewandkit_EqTexts.l0 (k+1) y0 y1 y2))
 | 0=>fun _ _ _ r h=>by simp [metewandkit_EqTexts.l0] at h
 | k+1=>by
  have ih0:=metewandkit_EqTexts.mono_l k
  ·intro y0 y1 y2
   unfold metewandkit_EqTexts.l0
   repeat' first
   | (with_reducible exact ih0 _ _ _)
   | (with_reducible exact LeO.refl _)
   | (with_reducible exact LeO.none _)
   | (with_reducible refine LeO.ite ?_ ?_)
   | (with_reducible refine LeO.bind ?_ (fun _=>?_))
   | exact ih0 _ _ _
   | exact LeO.none _
   | refine LeO.ite ?_ ?_
   | refine LeO.bind ?_ (fun _=>?_)
theorem metewandkit_EqTexts.mono:∀ a0 a1 k,LeO (metewandkit_EqTexts.f k a0 a1) (metewandkit_EqTexts.f (k+1) a0 a1):=by
 intro a0 a1 k
 have ih0:=metewandkit_EqTexts.mono_l k
 unfold metewandkit_EqTexts.f
 repeat' first
   | (with_reducible exact ih0 _ _ _)
   | (with_reducible exact LeO.refl _)
   | (with_reducible exact LeO.none _)
   | (with_reducible refine LeO.ite ?_ ?_)
   | (with_reducible refine LeO.bind ?_ (fun _=>?_))
   | exact ih0 _ _ _
   | exact LeO.none _
   | refine LeO.ite ?_ ?_
   | refine LeO.bind ?_ (fun _=>?_)
set_option maxHeartbeats 8000000 in
set_option maxRecDepth 100000 in
theorem metewandkit_EqTexts.calls (k:Nat) (A0:Option Addr) (c0:Nat) (l0:List ByteArray) (A1:Option Addr) (c1:Nat) (l1:List ByteArray) (r:Bool) (w:World) (hr0:Kd.C Kd.string w A0 l0.length l0) (hc0:l0.length≤c0) (hr1:Kd.C Kd.string w A1 l1.length l1) (hc1:l1.length≤c1) (h:metewandkit_EqTexts.f k l0 l1=some r) :
  Calls Tryz.prog 40 #[.slice A0 l0.length c0,.slice A1 l1.length c1] w fun e w'=>e=.returned (.bool r)∧Drawn0 w w':=by
 have HR0:=Aside0.mk hr0
 have HC0:=Aside0.mk hc0
 clear hr0 hc0
 have HR1:=Aside0.mk hr1
 have HC1:=Aside0.mk hc1
 clear hr1 hc1
 have H:(if (l0.length:Int)=(l1.length:Int) then (metewandkit_EqTexts.l0 k l0 l1 0) else (some false))=some r:=h
 clear h
 by_cases c3:(l0.length:Int)=(l1.length:Int)
 ·rw [if_pos c3] at H
  have c3b0:((l0.length:Int) == (l1.length:Int))=true:=beq_iff_eq.mpr c3
  have c3b1:((l0.length:Int) != (l1.length:Int))=false:=bne_eq_false_iff_eq.mpr c3
  have c3b2:(l0.length == l1.length)=true:=by first | simpa using c3 | (simp at c3 ⊢;omega)
  clear c3
  have H':=Aside0.mk H
  clear H
  go_enter Tryz.func40,Tryz.ntmps40
  go_wp2
  repeat (go_quiet (fail);try go_wp2)
  go_loopg [5] k (fun kq v5 w'=>∃ (x5_1:Int),v5=.int .i64 x5_1∧Aside0 (metewandkit_EqTexts.l0 kq l0 l1 x5_1=some r)∧Aside0 (kq≤k)∧Drawn0 w w')
  case atStart=>exact ⟨(0),(by first | rfl | (simp;done) | (simp [*];done)),H',⟨Nat.le_refl _⟩,by repeat (first | exact Drawn0.refl _ | apply Drawn0.step)⟩
  case round =>
   clear H'
   try clear c1
   try clear p2
   try clear c3
   try clear c3b0
   try clear c3b1
   try clear c3b2
   obtain ⟨x5_1,rfl,HA,HK1,⟨m1,rfl⟩⟩:=hrel
   cases gk with
   | zero=>exact absurd HA.out (by simp [metewandkit_EqTexts.l0])
   | succ k1 =>
    have H:=HA.out
    clear HA
    simp only [metewandkit_EqTexts.l0] at H
    by_cases c4:x5_1 < (l0.length:Int)
    ·rw [if_pos c4] at H
     have c4b0:decide (x5_1 < (l0.length:Int))=true:=decide_eq_true c4
     clear c4
     by_cases c5:0≤x5_1
     ·rw [if_pos c5] at H
      have c5b0:decide (0≤x5_1)=true:=decide_eq_true c5
      clear c5
      by_cases c6:x5_1 < (l1.length:Int)
      ·rw [if_pos c6] at H
       have c6b0:decide (x5_1 < (l1.length:Int))=true:=decide_eq_true c6
       clear c6
       by_cases c7:(rdOf ByteArray.empty l0 x5_1).toList=(rdOf ByteArray.empty l1 x5_1).toList
       ·rw [if_pos c7] at H
        have c7b0:((rdOf ByteArray.empty l0 x5_1).toList == (rdOf ByteArray.empty l1 x5_1).toList)=true:=beq_iff_eq.mpr c7
        have c7b1:((rdOf ByteArray.empty l0 x5_1).toList != (rdOf ByteArray.empty l1 x5_1).toList)=false:=bne_eq_false_iff_eq.mpr c7
        clear c7
        have H':=Aside0.mk H
        clear H
        have p344:0≤(x5_1:Int):=of_decide_eq_true (by first | (with_reducible assumption) | assumption)
        have q344:x5_1 < (l0.length:Int):=of_decide_eq_true (by first | (with_reducible assumption) | assumption)
        obtain ⟨ad344,e344,hx344_0⟩:=Kd.at_string HR0.out x5_1 p344 q344
        cases e344
        replace p344:=eq_true p344
        replace q344:=eq_true q344
        have p345:0≤(x5_1:Int):=of_decide_eq_true (by first | (with_reducible assumption) | assumption)
        have q345:x5_1 < (l1.length:Int):=of_decide_eq_true (by first | (with_reducible assumption) | assumption)
        obtain ⟨ad345,e345,hx345_0⟩:=Kd.at_string HR1.out x5_1 p345 q345
        cases e345
        replace p345:=eq_true p345
        replace q345:=eq_true q345
        go_wp2
        repeat (go_quiet (fail);try go_wp2)
        go_roundg k1
        case measure=>have:=HK1.out;omega
        case rel=>exact ⟨(wrap64 (x5_1+1)),(by first | rfl | (simp;done) | (simp [*];done)),H',⟨by have:=HK1.out;omega⟩,by repeat (first | exact Drawn0.refl _ | apply Drawn0.step)⟩
       ·rw [if_neg c7] at H
        have c7b0:((rdOf ByteArray.empty l0 x5_1).toList == (rdOf ByteArray.empty l1 x5_1).toList)=false:=beq_eq_false_iff_ne.mpr c7
        have c7b1:((rdOf ByteArray.empty l0 x5_1).toList != (rdOf ByteArray.empty l1 x5_1).toList)=true:=bne_iff_ne.mpr c7
        obtain rfl:=Option.some.inj H
        have p344:0≤(x5_1:Int):=of_decide_eq_true (by first | (with_reducible assumption) | assumption)
        have q344:x5_1 < (l0.length:Int):=of_decide_eq_true (by first | (with_reducible assumption) | assumption)
        obtain ⟨ad344,e344,hx344_0⟩:=Kd.at_string HR0.out x5_1 p344 q344
        cases e344
        replace p344:=eq_true p344
        replace q344:=eq_true q344
        have p345:0≤(x5_1:Int):=of_decide_eq_true (by first | (with_reducible assumption) | assumption)
        have q345:x5_1 < (l1.length:Int):=of_decide_eq_true (by first | (with_reducible assumption) | assumption)
        obtain ⟨ad345,e345,hx345_0⟩:=Kd.at_string HR1.out x5_1 p345 q345
        cases e345
        replace p345:=eq_true p345
        replace q345:=eq_true q345
        go_wp2
        repeat (go_quiet (fail);try go_wp2)
        go_ret
        exact ⟨by first | rfl | (simp;done) | (simp [*];done),by repeat (first | exact Drawn0.refl _ | apply Drawn0.step)⟩
      ·rw [if_neg c6] at H
       exact absurd H (by simp)
     ·rw [if_neg c5] at H
      exact absurd H (by simp)
    ·rw [if_neg c4] at H
     have c4b0:decide (x5_1 < (l0.length:Int))=false:=decide_eq_false c4
     clear c4
     obtain rfl:=Option.some.inj H
     go_wp2
     repeat (go_quiet (fail);try go_wp2)
     go_ret
     exact ⟨by first | rfl | (simp;done) | (simp [*];done),by repeat (first | exact Drawn0.refl _ | apply Drawn0.step)⟩
 ·rw [if_neg c3] at H
  have c3b0:((l0.length:Int) == (l1.length:Int))=false:=beq_eq_false_iff_ne.mpr c3
  have c3b1:((l0.length:Int) != (l1.length:Int))=true:=bne_iff_ne.mpr c3
  have c3b2:(l0.length == l1.length)=false:=by first | simpa using c3 | (simp at c3 ⊢;omega)
  obtain rfl:=Option.some.inj H
  go_enter Tryz.func40,Tryz.ntmps40
  go_wp2
  repeat (go_quiet (fail);try go_wp2)
  go_ret
  exact ⟨by first | rfl | (simp;done) | (simp [*];done),by repeat (first | exact Drawn0.refl _ | apply Drawn0.step)⟩
def read_between_level.f (a0_0:Int) (a0_1:ByteArray) (a0_2:ByteArray) (a0_3:ByteArray) (a0_4:Int) (l0_5:List (S31)):Option (Int):=if a0_0=3 then (some 1) else (if a0_0=4 then (some 1) else (some 2))
def IsS77 (w0 W:World) (g:Nat) (f0:List Int) (f1:Int) (f2:Int):Prop:=∃ A0 c0,W.heap[g]?=some (.cells #[.slice A0 f0.length c0,.int .i64 f1,.int .u64 f2] 77 (0,0))∧w0.heap.size≤g∧Kd.C (Kd.int .i64) w0 A0 f0.length f0
theorem IsS77.grown {w0 W:World} {g:Nat} {f0:List Int} {f1:Int} {f2:Int} {W1:World} {row:Option Nat} (h:IsS77 w0 W g f0 f1 f2) (hw:W.grownBy W1 row) (hne:some g≠row):IsS77 w0 W1 g f0 f1 f2:=by
 obtain ⟨A0,c0,hb,hg,hr0⟩:=h
 exact ⟨A0,c0,blk_grown hb hw hne,hg,hr0⟩
theorem IsS77.below {w0 W:World} {g:Nat} {f0:List Int} {f1:Int} {f2:Int} {W1:World} (h:IsS77 w0 W g f0 f1 f2) (hw:Below W.heap.size W W1):IsS77 w0 W1 g f0 f1 f2:=h.grown (grown_of_below hw none) (by simp)
theorem IsS77.alloc {w0 W:World} {g:Nat} {f0:List Int} {f1:Int} {f2:Int} (h:IsS77 w0 W g f0 f1 f2) (o:Obj):IsS77 w0 (W.alloc o) g f0 f1 f2:=h.below (below_alloc (Below.refl _ _) o)
theorem IsS77.drewN {w0 W:World} {g:Nat} {f0:List Int} {f1:Int} {f2:Int} (h:IsS77 w0 W g f0 f1 f2) (m:Nat):IsS77 w0 (W.drewN m) g f0 f1 f2:=h
theorem IsS77.drew {w0 W:World} {g:Nat} {f0:List Int} {f1:Int} {f2:Int} (h:IsS77 w0 W g f0 f1 f2):IsS77 w0 W.drew g f0 f1 f2:=h
theorem IsS77.at_ {w0 W:World} {g:Nat} {f0:List Int} {f1:Int} {f2:Int} {w':World} {m:Nat} (hq:W.drewN m=w') (h:IsS77 w0 W g f0 f1 f2):IsS77 w0 w' g f0 f1 f2:=by subst hq;exact IsS77.drewN h m
theorem IsS77.own_ne {w0 W:World} {g:Nat} {f0:List Int} {f1:Int} {f2:Int} {α:Type} {d:Kd α} {e:Nat} {base:Nat} {ok:Nat→Prop} {v:Value} {xs:List α} (h:IsS77 w0 W g f0 f1 f2) (ho:d.R e W base ok v xs) (ht:e≠77):some g≠v.ownBlock:=by
 obtain ⟨A0,c0,hb,hg,hr0⟩:=h
 exact Kd.R_ne ho hb ht
theorem IsS77.lt {w0 W:World} {g:Nat} {f0:List Int} {f1:Int} {f2:Int} (h:IsS77 w0 W g f0 f1 f2):g < W.heap.size:=by
 obtain ⟨A0,c0,hb,hg,hr0⟩:=h
 exact blk_lt hb
theorem IsS77.far {w0 W:World} {g:Nat} {f0:List Int} {f1:Int} {f2:Int} {p:Addr} (h:IsS77 w0 W g f0 f1 f2) (hne:g≠p.block) (u:Value):IsS77 w0 (W.setCell p u) g f0 f1 f2:=by
 obtain ⟨A0,c0,hb,hg,hr0⟩:=h
 exact ⟨A0,c0,blk_far hb hne u,hg,hr0⟩
def metewandkit_NewRod.f (l0:List Int):Option (List Int × Int × Int):=some (l0,0,7640891576956012809)
mutual
def metewandref13_level.j0:Nat→Int→Bool→Option (Int)
 | 0,_,_=>none
 | k+1,x4,x5=>if x5=true then (some 0) else (if x4=2 then (metewandref13_level.j1 k x4 (x4 == 2)) else (if x4=3 then (metewandref13_level.j1 k x4 (x4 == 3)) else (metewandref13_level.j1 k x4 (x4 == 4))))
def metewandref13_level.j1:Nat→Int→Bool→Option (Int)
 | 0,_,_=>none
 | k+1,x4,x10=>if x10=true then (some 1) else (if x4=5 then (metewandref13_level.j2 k x4 (x4 == 5)) else (metewandref13_level.j2 k x4 (x4 == 6)))
def metewandref13_level.j2:Nat→Int→Bool→Option (Int)
 | 0,_,_=>none
 | k+1,x4,x14=>if x14=true then (some 2) else (if x4=7 then (some 3) else (some 4))
end
def metewandref13_level.f (k:Nat) (a0_0:Int) (a0_1:ByteArray) (a0_2:ByteArray) (a0_3:ByteArray) (a0_4:Int) (l0_5:List (S31)):Option (Int):=if a0_0=13 then (metewandref13_level.j0 k a0_0 (a0_0 == 13)) else (if a0_0=12 then (metewandref13_level.j0 k a0_0 (a0_0 == 12)) else (if a0_0=10 then (metewandref13_level.j0 k a0_0 (a0_0 == 10)) else (metewandref13_level.j0 k a0_0 (a0_0 == 11))))
theorem metewandref13_level.mono_l:∀ k,(∀ y0 y1,LeO (metewandref13_level.j0 k y0 y1) (metewandref13_level.j0 (k+1) y0 y1))∧(∀ y0 y1,LeO (metewandref13_level.j1 k y0 y1) (metewandref13_level.j1 (k+1) y0 y1))∧(∀ y0 y1,LeO (metewandref13_level.j2 k y0 y1) (metewandref13_level.j2 (k+1) y0 y1))
 | 0=>⟨fun _ _ r h=>by simp [metewandref13_level.j0] at h,fun _ _ r h=>by simp [metewandref13_level.j1] at h,fun _ _ r h=>by simp [metewandref13_level.j2] at h⟩
 | k+1=>by
  obtain ⟨ih0,ih1,ih2⟩:=metewandref13_level.mono_l k
  refine ⟨?_,?_,?_⟩
  ·intro y0 y1
   unfold metewandref13_level.j0
   repeat' first
   | (with_reducible exact ih0 _ _)
   | (with_reducible exact ih1 _ _)
   | (with_reducible exact ih2 _ _)
   | (with_reducible exact LeO.refl _)
   | (with_reducible exact LeO.none _)
   | (with_reducible refine LeO.ite ?_ ?_)
   | (with_reducible refine LeO.bind ?_ (fun _=>?_))
   | exact ih0 _ _
   | exact ih1 _ _
   | exact ih2 _ _
   | exact LeO.none _
   | refine LeO.ite ?_ ?_
   | refine LeO.bind ?_ (fun _=>?_)
  ·intro y0 y1
   unfold metewandref13_level.j1
   repeat' first
   | (with_reducible exact ih0 _ _)
   | (with_reducible exact ih1 _ _)
   | (with_reducible exact ih2 _ _)
   | (with_reducible exact LeO.refl _)
   | (with_reducible exact LeO.none _)
   | (with_reducible refine LeO.ite ?_ ?_)
   | (with_reducible refine LeO.bind ?_ (fun _=>?_))
   | exact ih0 _ _
   | exact ih1 _ _
   | exact ih2 _ _
   | exact LeO.none _
   | refine LeO.ite ?_ ?_
   | refine LeO.bind ?_ (fun _=>?_)
  ·intro y0 y1
   unfold metewandref13_level.j2
   repeat' first
   | (with_reducible exact ih0 _ _)
   | (with_reducible exact ih1 _ _)
   | (with_reducible exact ih2 _ _)
   | (with_reducible exact LeO.refl _)
   | (with_reducible exact LeO.none _)
   | (with_reducible refine LeO.ite ?_ ?_)
   | (with_reducible refine LeO.bind ?_ (fun _=>?_))
   | exact ih0 _ _
   | exact ih1 _ _
   | exact ih2 _ _
   | exact LeO.none _
   | refine LeO.ite ?_ ?_
   | refine LeO.bind ?_ (fun _=>?_)
theorem metewandref13_level.mono:∀ a0 a1 a2 a3 a4 a5 k,LeO (metewandref13_level.f k a0 a1 a2 a3 a4 a5) (metewandref13_level.f (k+1) a0 a1 a2 a3 a4 a5):=by
 intro a0 a1 a2 a3 a4 a5 k
 obtain ⟨ih0,ih1,ih2⟩:=metewandref13_level.mono_l k
 unfold metewandref13_level.f
 repeat' first
   | (with_reducible exact ih0 _ _)
   | (with_reducible exact ih1 _ _)
   | (with_reducible exact ih2 _ _)
   | (with_reducible exact LeO.refl _)
   | (with_reducible exact LeO.none _)
   | (with_reducible refine LeO.ite ?_ ?_)
   | (with_reducible refine LeO.bind ?_ (fun _=>?_))
   | exact ih0 _ _
   | exact ih1 _ _
   | exact ih2 _ _
   | exact LeO.none _
   | refine LeO.ite ?_ ?_
   | refine LeO.bind ?_ (fun _=>?_)
end Go.Proofs.YtjaobihcdkjmbaaGreatDoor.PReadTokens
end
section
namespace Go.Proofs.YtjaobihcdkjmbaaGreatDoor
open Go.RowKit Go.Proofs.YtjaobihcdkjmbaaGreatDoorW.PrintWords Go.Proofs.YtjaobihcdkjmbaaGreatDoor.PReadTokens
theorem readA:readS chk0 tA=(xA,0,0):=by kernel_rfl
theorem readB:readS chk0 tB=(xB,0,0):=by kernel_rfl
theorem readC:readS chk0 tC=(xC,0,0):=by kernel_rfl
theorem readD:readS chk0 tD=(xD,0,0):=by kernel_rfl
theorem readE:readS chk0 tE=(z31,2,1):=by kernel_rfl
theorem txtC:txtB xC=true:=by kernel_rfl
theorem txtD:txtB xD=true:=by kernel_rfl
theorem textC:textX xC 0=⟨#[45,97,32,42,32,98,94,45,50]⟩:=by kernel_rfl
theorem textD:textX xD 0=⟨#[97,32,45,32,40,98,32,45,32,99,41]⟩:=by kernel_rfl
theorem toks1:allToks ⟨#[97,49,43,50,123,109,47,115,125]⟩=[⟨0,⟨#[97,49]⟩,0⟩,⟨4,⟨#[43]⟩,2⟩,⟨2,⟨#[50]⟩,3⟩,⟨3,⟨#[109,47,115]⟩,4⟩]:=by kernel_rfl
theorem sizesA:nodesX xA=5∧depthX xA=3∧nodesX xB=4∧depthX xB=3∧nodesX xC=5∧depthX xC=4∧nodesX xD=5∧depthX xD=3:= by refine ⟨?_,?_,?_,?_,?_,?_,?_,?_⟩ <;> kernel_rfl
theorem eqt:metewandkit_EqTexts.f 10 [⟨#[97]⟩,⟨#[105]⟩] [⟨#[97]⟩,⟨#[105]⟩]=some true:=by kernel_rfl
theorem eqk:metewandkit_EqTokens.f 10 [⟨0,⟨#[97,49]⟩,0⟩,⟨4,⟨#[43]⟩,2⟩,⟨2,⟨#[50]⟩,3⟩,⟨3,⟨#[109,47,115]⟩,4⟩] [⟨0,⟨#[97,49]⟩,0⟩,⟨4,⟨#[43]⟩,2⟩,⟨2,⟨#[50]⟩,3⟩,⟨3,⟨#[109,47,115]⟩,4⟩]=some true:=by kernel_rfl
theorem reps_flat (w:World) (ts:List S47):Reps (k47.K w) 3 ts (flat ts):=by
 have key:∀ (ts pre:List S47),Reps (k47.K w) 3 pre (flat pre)→Reps (k47.K w) 3 (pre++ts) (flat (pre++ts)):=by
  intro ts
  induction ts with
  | nil=>intro pre h;simpa using h
  | cons t ts ih =>
   intro pre h
   have:=ih (pre++[t]) (by rw [flat_snoc];exact Reps.snoc h (k47_mk w t) rfl)
   simpa using this
 exact key ts [] (Reps.none _ _)
theorem OwnToks.C {w:World} {base:Nat} {v:Value} {ts:List S47} (h:OwnToks w base v ts):∃ A c,v=.slice A ts.length c∧ts.length≤c∧Kd.C k47 w A ts.length ts :=
 OwnRow.reads ⟨flat ts,h,reps_flat w ts⟩
theorem lit_toks (W:World) (ts:List S47) (h:ts.length≤9223372036854775807):Kd.C k47 (W.alloc (.cells (flat ts).toArray 47)) (some ⟨W.heap.size,0,none⟩) ts.length ts:=by
 obtain ⟨A,c,h1,h2,h3⟩:=OwnRow.reads (OwnRow.lit (R:=k47.K (W.alloc (.cells (flat ts).toArray 47))) (e:=47) W 0 (reps_flat _ ts) (Nat.zero_le _) h)
 injection h1 with h1
 rw [h1]
 exact h3
theorem reps_str (w:World) (xs:List ByteArray):Reps (Kd.string.K w) 1 xs (xs.map Value.string):=by
 have key:∀ (ts pre:List ByteArray),Reps (Kd.string.K w) 1 pre (pre.map Value.string)→Reps (Kd.string.K w) 1 (pre++ts) ((pre++ts).map Value.string):=by
  intro ts
  induction ts with
  | nil=>intro pre h;simpa using h
  | cons t ts ih =>
   intro pre h
   have:=ih (pre++[t]) (by rw [List.map_append];exact Reps.snoc h rfl rfl)
   simpa using this
 exact key xs [] (Reps.none _ _)
theorem lit_texts (W:World) (xs:List ByteArray) (h:xs.length≤9223372036854775807):Kd.C Kd.string (W.alloc (.cells (xs.map Value.string).toArray 9)) (some ⟨W.heap.size,0,none⟩) xs.length xs:=by
 obtain ⟨A,c,h1,h2,h3⟩:=OwnRow.reads (OwnRow.lit (R:=Kd.string.K (W.alloc (.cells (xs.map Value.string).toArray 9))) (e:=9) W 0 (reps_str _ xs) (Nat.zero_le _) h)
 injection h1 with h1
 rw [h1]
 exact h3
theorem own_texts {w:World} {base:Nat} {v:Value} {xs:List ByteArray} (h:w.ownsRow base 9 1 v xs.length (xs.map Value.string)):∃ A c,v=.slice A xs.length c∧xs.length≤c∧Kd.C Kd.string w A xs.length xs :=
 OwnRow.reads ⟨_,h,reps_str w xs⟩
theorem perm2 (ss:List (List UInt8)) (a b:List UInt8) (hab:a≠b) (h:ss.Perm [a,b]):ss=[a,b]∨ss=[b,a]:=by
 have hl:=h.length_eq
 match ss,hl with
 | [x,y],_ =>
  have hx:x ∈ [a,b]:=h.mem_iff.1 (by simp)
  have hy:y ∈ [a,b]:=h.mem_iff.1 (by simp)
  have ha:a ∈ [x,y]:=h.mem_iff.2 (by simp)
  have hb:b ∈ [x,y]:=h.mem_iff.2 (by simp)
  simp only [List.mem_cons,List.not_mem_nil,or_false] at hx hy ha hb
  rcases hx with rfl | rfl <;> rcases hy with rfl | rfl <;> simp_all
theorem sorted2 (ss:List (List UInt8)) (h:ss.Perm [[97],[105]]):ss.length=2∧(ss.mergeSort (fun x y=>decide (x≤y))).map encStr=[.string ⟨#[97]⟩,.string ⟨#[105]⟩]:=by
 rcases perm2 ss _ _ (by decide) h with rfl | rfl
 ·exact ⟨rfl,by simp [List.mergeSort,List.MergeSort.Internal.splitInTwo,List.merge];rfl⟩
 ·exact ⟨rfl,by simp [List.mergeSort,List.MergeSort.Internal.splitInTwo,List.merge];rfl⟩
end Go.Proofs.YtjaobihcdkjmbaaGreatDoor
end
section
namespace Go.Proofs.YtjaobihcdkjmbaaGreatDoor
open Go.RowKit Go.Proofs.YtjaobihcdkjmbaaGreatDoorW.PrintWords Go.Proofs.YtjaobihcdkjmbaaGreatDoor.PReadTokens
theorem toks_told (w:World):Calls Tryz.prog 15 #[.string ⟨#[97,49,43,50,123,109,47,115,125]⟩] w fun e w'=>∃ A c,e=.returned (.tuple #[.slice A 4 c,.int .i64 0,.int .i64 0])∧4≤c ∧
  Kd.C k47 w' A 4 [⟨0,⟨#[97,49]⟩,0⟩,⟨4,⟨#[43]⟩,2⟩,⟨2,⟨#[50]⟩,3⟩,⟨3,⟨#[109,47,115]⟩,4⟩]∧Below w.heap.size w w':=by
 refine (Tokens_calls _ (by show 9≤2000;omega) w).mono ?_
 intro e w' h
 unfold TokPost at h
 rw [toks1] at h
 have hb:badOf [⟨0,⟨#[97,49]⟩,0⟩,⟨4,⟨#[43]⟩,2⟩,⟨2,⟨#[50]⟩,3⟩,⟨3,⟨#[109,47,115]⟩,4⟩]=none:=rfl
 rw [hb] at h
 obtain ⟨v,h1,h2,h3⟩:=h
 obtain ⟨A,c,rfl,h4,h5⟩:=h2.C
 exact ⟨A,c,h1,h4,h5,h3⟩
theorem lenA:(allToks tA).length=5:=by kernel_rfl
theorem lenB:(allToks tB).length=7:=by kernel_rfl
theorem lenC:(allToks tC).length=7:=by kernel_rfl
theorem lenD:(allToks tD).length=7:=by kernel_rfl
theorem placeE:placeS chk0 tE=2:=by kernel_rfl
theorem read_told (s:ByteArray) (h:plainText s=true) (x:S31) (hr:readS chk0 s=(x,0,0)) (hp:parseS chk0 s=.ok (x,(allToks s).length)) (hn:nodesX x≤4611686018427387904) (w:World) (hS:Start w) :
  Calls Tryz.prog 18 #[.string s] w fun e w'=>∃ A c,e=.returned (.tuple #[.agg #[.int .i64 x.f0,.string x.f1.f0,.string x.f1.f1,.string x.f2,.int .i64 x.f3,.slice A x.f4.length c],.int .i64 0,.int .i64 0]) ∧
   Vw w' x (.agg #[.int .i64 x.f0,.string x.f1.f0,.string x.f1.f1,.string x.f2,.int .i64 x.f3,.slice A x.f4.length c])∧Below w.heap.size w w':=by
 have hrd:=ReadExpr_calls chk0 s (readable_plain chk0 s h) w hS (fun _=>⟨x,hp,hn⟩)
 unfold ReadPost at hrd
 rw [hr] at hrd
 simp only at hrd
 refine hrd.mono ?_
 rintro e w1 ⟨v5,rfl,hx,hb1⟩
 obtain ⟨A,c,hv5,hc1,hc2⟩:=hx.vw.out
 obtain rfl:=exV_inj hv5
 exact ⟨A,c,rfl,hx.vw,hb1⟩
end Go.Proofs.YtjaobihcdkjmbaaGreatDoor
end
section
namespace Go.Proofs.YtjaobihcdkjmbaaGreatDoor.PReadTokens
open Go.RowKit Go.Proofs.YtjaobihcdkjmbaaGreatDoorW.PrintWords Go.Proofs.YtjaobihcdkjmbaaGreatDoorW.PrintLast Go.Proofs.YtjaobihcdkjmbaaGreatDoorW.PrintMore
attribute [local go_sem] max2_int min2_int max_two min_two max_three min_three max_four min_four   -- for this text's walks alone
set_option linter.unusedVariables false
set_option linter.unusedSimpArgs false
def metewandref13_small.f (a0:Int):Option (Bool):=if a0 ≥ 97 then (some (decide (a0≤122))) else (some false)
def metewandref13_Word.f (a0:ByteArray):Option (Bool):=if a0.toList=([102,117,110]:List UInt8) then (some true) else (if a0.toList=([108,101,116]:List UInt8) then (some true) else (if a0.toList=([115,104,111,119]:List UInt8) then (some true) else (if a0.toList=([105,102]:List UInt8) then (some true) else (if a0.toList=([116,104,101,110]:List UInt8) then (some true) else (if a0.toList=([101,108,115,101]:List UInt8) then (some true) else (if a0.toList=([105,110]:List UInt8) then (some true) else (if a0.toList=([116,97,98]:List UInt8) then (some true) else (some (a0.toList == ([115,117,109]:List UInt8))))))))))
def metewandref13_digit.f (a0:Int):Option (Bool):=if a0 ≥ 48 then (some (decide (a0≤57))) else (some false)
end Go.Proofs.YtjaobihcdkjmbaaGreatDoor.PReadTokens
end
section
namespace Go.Proofs.YtjaobihcdkjmbaaGreatDoor.PReadTokens
open Go.RowKit Go.Proofs.YtjaobihcdkjmbaaGreatDoorW.PrintWords Go.Proofs.YtjaobihcdkjmbaaGreatDoorW.PrintLast Go.Proofs.YtjaobihcdkjmbaaGreatDoorW.PrintMore
attribute [local go_sem] max2_int min2_int max_two min_two max_three min_three max_four min_four   -- for this text's walks alone
set_option linter.unusedVariables false
set_option linter.unusedSimpArgs false
mutual
def metewandref13_Name.j0:Nat→ByteArray→Bool→Option (Bool)
 | 0,_,_=>none
 | k+1,x0,x21=>if x21=true then (some false) else (metewandref13_Name.l0 k x0 0)
def metewandref13_Name.l0:Nat→ByteArray→Int→Option (Bool)
 | 0,_,_=>none
 | k+1,x0,x3=>if x3 < (x0.size:Int) then (if 0≤x3 then ((metewandref13_small.f (bt x0 x3)).bind fun t400=>(if t400=true then (metewandref13_Name.l0 k x0 (wrap64 (x3+1))) else ((metewandref13_digit.f (bt x0 x3)).bind fun t401=>(if t401=true then (metewandref13_Name.l0 k x0 (wrap64 (x3+1))) else (some false))))) else (none)) else (some true)
end
def metewandref13_Name.f (k:Nat) (a0:ByteArray):Option (Bool):=if (a0.size:Int)=0 then (metewandref13_Name.j0 k a0 true) else (if (a0.size:Int) > 12 then (metewandref13_Name.j0 k a0 true) else (if 0 < (a0.size:Int) then ((metewandref13_small.f (bt a0 0)).bind fun t398=>(if t398=true then ((metewandref13_Word.f a0).bind fun t399=>(metewandref13_Name.j0 k a0 t399)) else (metewandref13_Name.j0 k a0 true))) else (none)))
theorem metewandref13_Name.mono_l:∀ k,(∀ y0 y1,LeO (metewandref13_Name.j0 k y0 y1) (metewandref13_Name.j0 (k+1) y0 y1))∧(∀ y0 y1,LeO (metewandref13_Name.l0 k y0 y1) (metewandref13_Name.l0 (k+1) y0 y1))
 | 0=>⟨fun _ _ r h=>by simp [metewandref13_Name.j0] at h,fun _ _ r h=>by simp [metewandref13_Name.l0] at h⟩
 | k+1=>by
  obtain ⟨ih0,ih1⟩:=metewandref13_Name.mono_l k
  refine ⟨?_,?_⟩
  ·intro y0 y1
   unfold metewandref13_Name.j0
   repeat' first
   | (with_reducible exact ih0 _ _)
   | (with_reducible exact ih1 _ _)
   | (with_reducible exact LeO.refl _)
   | (with_reducible exact LeO.none _)
   | (with_reducible refine LeO.ite ?_ ?_)
   | (with_reducible refine LeO.bind ?_ (fun _=>?_))
   | exact ih0 _ _
   | exact ih1 _ _
   | exact LeO.none _
   | refine LeO.ite ?_ ?_
   | refine LeO.bind ?_ (fun _=>?_)
  ·intro y0 y1
   unfold metewandref13_Name.l0
   repeat' first
   | (with_reducible exact ih0 _ _)
   | (with_reducible exact ih1 _ _)
   | (with_reducible exact LeO.refl _)
   | (with_reducible exact LeO.none _)
   | (with_reducible refine LeO.ite ?_ ?_)
   | (with_reducible refine LeO.bind ?_ (fun _=>?_))
   | exact ih0 _ _
   | exact ih1 _ _
   | exact LeO.none _
   | refine LeO.ite ?_ ?_
   | refine LeO.bind ?_ (fun _=>?_)
theorem metewandref13_Name.mono:∀ a0 k,LeO (metewandref13_Name.f k a0) (metewandref13_Name.f (k+1) a0):=by
 intro a0 k
 obtain ⟨ih0,ih1⟩:=metewandref13_Name.mono_l k
 unfold metewandref13_Name.f
 repeat' first
   | (with_reducible exact ih0 _ _)
   | (with_reducible exact ih1 _ _)
   | (with_reducible exact LeO.refl _)
   | (with_reducible exact LeO.none _)
   | (with_reducible refine LeO.ite ?_ ?_)
   | (with_reducible refine LeO.bind ?_ (fun _=>?_))
   | exact ih0 _ _
   | exact ih1 _ _
   | exact LeO.none _
   | refine LeO.ite ?_ ?_
   | refine LeO.bind ?_ (fun _=>?_)
def metewandref13_large.f (a0:Int):Option (Bool):=if a0 ≥ 65 then (some (decide (a0≤90))) else (some false)
mutual
def metewandref13_unit.j0:Nat→ByteArray→Bool→Option (Bool)
 | 0,_,_=>none
 | k+1,x0,x11=>if x11=true then (some false) else (metewandref13_unit.l0 k x0 0)
def metewandref13_unit.l0:Nat→ByteArray→Int→Option (Bool)
 | 0,_,_=>none
 | k+1,x0,x3=>if x3 < (x0.size:Int) then (if 0≤x3 then (if (bt x0 x3) < 32 then (some false) else (if (bt x0 x3) > 126 then (some false) else (if (bt x0 x3)=123 then (some false) else (if (bt x0 x3)=125 then (some false) else (metewandref13_unit.l0 k x0 (wrap64 (x3+1))))))) else (none)) else (some true)
end
def metewandref13_unit.f (k:Nat) (a0:ByteArray):Option (Bool):=if (a0.size:Int)=0 then (metewandref13_unit.j0 k a0 true) else (metewandref13_unit.j0 k a0 (decide ((a0.size:Int) > 20)))
theorem metewandref13_unit.mono_l:∀ k,(∀ y0 y1,LeO (metewandref13_unit.j0 k y0 y1) (metewandref13_unit.j0 (k+1) y0 y1))∧(∀ y0 y1,LeO (metewandref13_unit.l0 k y0 y1) (metewandref13_unit.l0 (k+1) y0 y1))
 | 0=>⟨fun _ _ r h=>by simp [metewandref13_unit.j0] at h,fun _ _ r h=>by simp [metewandref13_unit.l0] at h⟩
 | k+1=>by
  obtain ⟨ih0,ih1⟩:=metewandref13_unit.mono_l k
  refine ⟨?_,?_⟩
  ·intro y0 y1
   unfold metewandref13_unit.j0
   repeat' first
   | (with_reducible exact ih0 _ _)
   | (with_reducible exact ih1 _ _)
   | (with_reducible exact LeO.refl _)
   | (with_reducible exact LeO.none _)
   | (with_reducible refine LeO.ite ?_ ?_)
   | (with_reducible refine LeO.bind ?_ (fun _=>?_))
   | exact ih0 _ _
   | exact ih1 _ _
   | exact LeO.none _
   | refine LeO.ite ?_ ?_
   | refine LeO.bind ?_ (fun _=>?_)
  ·intro y0 y1
   unfold metewandref13_unit.l0
   repeat' first
   | (with_reducible exact ih0 _ _)
   | (with_reducible exact ih1 _ _)
   | (with_reducible exact LeO.refl _)
   | (with_reducible exact LeO.none _)
   | (with_reducible refine LeO.ite ?_ ?_)
   | (with_reducible refine LeO.bind ?_ (fun _=>?_))
   | exact ih0 _ _
   | exact ih1 _ _
   | exact LeO.none _
   | refine LeO.ite ?_ ?_
   | refine LeO.bind ?_ (fun _=>?_)
theorem metewandref13_unit.mono:∀ a0 k,LeO (metewandref13_unit.f k a0) (metewandref13_unit.f (k+1) a0):=by
 intro a0 k
 obtain ⟨ih0,ih1⟩:=metewandref13_unit.mono_l k
 unfold metewandref13_unit.f
 repeat' first
   | (with_reducible exact ih0 _ _)
   | (with_reducible exact ih1 _ _)
   | (with_reducible exact LeO.refl _)
   | (with_reducible exact LeO.none _)
   | (with_reducible refine LeO.ite ?_ ?_)
   | (with_reducible refine LeO.bind ?_ (fun _=>?_))
   | exact ih0 _ _
   | exact ih1 _ _
   | exact LeO.none _
   | refine LeO.ite ?_ ?_
   | refine LeO.bind ?_ (fun _=>?_)
def metewandref13_sign.l0:Nat→Int→Int→Option (Bool)
 | 0,_,_=>none
 | k+1,x0,x3=>if x3 < 14 then (if 0≤x3 then (if (bt (⟨#[40,41,91,93,44,43,45,42,47,94,60,61,46,124]⟩:ByteArray) x3)=x0 then (some true) else (metewandref13_sign.l0 k x0 (wrap64 (x3+1)))) else (none)) else (some false)
def metewandref13_sign.f (k:Nat) (a0:Int):Option (Bool):=metewandref13_sign.l0 k a0 0
theorem metewandref13_sign.mono_l:∀ k,(∀ y0 y1,LeO (metewandref13_sign.l0 k y0 y1) (metewandref13_sign.l0 (k+1) y0 y1))
 | 0=>fun _ _ r h=>by simp [metewandref13_sign.l0] at h
 | k+1=>by
  have ih0:=metewandref13_sign.mono_l k
  ·intro y0 y1
   unfold metewandref13_sign.l0
   repeat' first
   | (with_reducible exact ih0 _ _)
   | (with_reducible exact LeO.refl _)
   | (with_reducible exact LeO.none _)
   | (with_reducible refine LeO.ite ?_ ?_)
   | (with_reducible refine LeO.bind ?_ (fun _=>?_))
   | exact ih0 _ _
   | exact LeO.none _
   | refine LeO.ite ?_ ?_
   | refine LeO.bind ?_ (fun _=>?_)
theorem metewandref13_sign.mono:∀ a0 k,LeO (metewandref13_sign.f k a0) (metewandref13_sign.f (k+1) a0):=by
 intro a0 k
 have ih0:=metewandref13_sign.mono_l k
 unfold metewandref13_sign.f
 repeat' first
   | (with_reducible exact ih0 _ _)
   | (with_reducible exact LeO.refl _)
   | (with_reducible exact LeO.none _)
   | (with_reducible refine LeO.ite ?_ ?_)
   | (with_reducible refine LeO.bind ?_ (fun _=>?_))
   | exact ih0 _ _
   | exact LeO.none _
   | refine LeO.ite ?_ ?_
   | refine LeO.bind ?_ (fun _=>?_)
end Go.Proofs.YtjaobihcdkjmbaaGreatDoor.PReadTokens
end
