/- The law ReadFree answers true for every argument; a part of its proof. -/
import Derived.Deep.RegionHeld3
import Derived.Test.YtjaobihcdkjmbaaGreatDoorF2
import Derived.Test.YtjaobihcdkjmbaaGreatDoorF11
import Derived.Test.YtjaobihcdkjmbaaGreatDoorF13
import Derived.Test.YtjaobihcdkjmbaaGreatDoorF14
import Derived.Test.YtjaobihcdkjmbaaGreatDoorF17
import Derived.Test.YtjaobihcdkjmbaaGreatDoorF19
set_option linter.unusedVariables false
set_option linter.unusedSimpArgs false
section
namespace Go.Proofs.YtjaobihcdkjmbaaGreatDoor
open Go.RowKit Go.Proofs.YtjaobihcdkjmbaaGreatDoorW.PrintWords Go.Proofs.YtjaobihcdkjmbaaGreatDoor.PReadTokens
theorem sign_cmp {a b:Int} (h:Int.sign a≠Int.sign b):cmpI (Int.sign a) (Int.sign b)=cmpI a b:=by
 rcases Int.lt_trichotomy a 0 with ha | ha | ha <;> rcases Int.lt_trichotomy b 0 with hb | hb | hb
 ·rw [Int.sign_eq_neg_one_of_neg ha,Int.sign_eq_neg_one_of_neg hb] at h;exact absurd rfl h
 ·subst hb;rw [Int.sign_eq_neg_one_of_neg ha,cmpI_lt ha];rfl
 ·rw [Int.sign_eq_neg_one_of_neg ha,Int.sign_eq_one_of_pos hb,cmpI_lt (show a < b by omega)];rfl
 ·subst ha;rw [Int.sign_eq_neg_one_of_neg hb,cmpI_gt hb];rfl
 ·subst ha hb;exact absurd rfl h
 ·subst ha;rw [Int.sign_eq_one_of_pos hb,cmpI_lt hb];rfl
 ·rw [Int.sign_eq_one_of_pos ha,Int.sign_eq_neg_one_of_neg hb,cmpI_gt (show b < a by omega)];rfl
 ·subst hb;rw [Int.sign_eq_one_of_pos ha,cmpI_gt ha];rfl
 ·rw [Int.sign_eq_one_of_pos ha,Int.sign_eq_one_of_pos hb] at h;exact absurd rfl h
theorem cmpI_three (a b:Int):cmpI a b=0∨cmpI a b=1∨cmpI a b=-1:=by
 unfold cmpI;split
 ·exact .inr (.inr rfl)
 ·split
  ·exact .inr (.inl rfl)
  ·exact .inl rfl
theorem size_cmp {a b:Int} (h:Int.sign a=Int.sign b):Int.sign a * cmpI (a.natAbs:Int) (b.natAbs:Int)=cmpI a b:=by
 rcases Int.lt_trichotomy a 0 with ha | ha | ha <;> rcases Int.lt_trichotomy b 0 with hb | hb | hb
 ·rw [Int.sign_eq_neg_one_of_neg ha]
  rcases Int.lt_trichotomy a b with hc | hc | hc
  ·rw [cmpI_lt hc,cmpI_gt (by omega)];rfl
  ·subst hc;rw [cmpI_self,cmpI_self];rfl
  ·rw [cmpI_gt hc,cmpI_lt (by omega)];rfl
 ·subst hb;rw [Int.sign_eq_neg_one_of_neg ha] at h;cases h
 ·rw [Int.sign_eq_neg_one_of_neg ha,Int.sign_eq_one_of_pos hb] at h;cases h
 ·subst ha;rw [Int.sign_eq_neg_one_of_neg hb] at h;cases h
 ·subst ha hb;rfl
 ·subst ha;rw [Int.sign_eq_one_of_pos hb] at h;cases h
 ·rw [Int.sign_eq_one_of_pos ha,Int.sign_eq_neg_one_of_neg hb] at h;cases h
 ·subst hb;rw [Int.sign_eq_one_of_pos ha] at h;cases h
 ·rw [Int.sign_eq_one_of_pos ha,Int.one_mul]
  rcases Int.lt_trichotomy a b with hc | hc | hc
  ·rw [cmpI_lt hc,cmpI_lt (by omega)]
  ·subst hc;rw [cmpI_self,cmpI_self]
  ·rw [cmpI_gt hc,cmpI_gt (by omega)]
set_option maxRecDepth 100000 in
set_option maxHeartbeats 4000000 in
theorem order_LN (a b:Int) (va vb:Value) (w:World) (ha:LN w a va) (hb:LN w b vb) :
  Calls Tryz.prog 191 #[va,vb] w fun e w'=>e=.returned (.int .i64 (cmpI a b))∧Below w.heap.size w w':=by
 obtain ⟨la,A,ca,rfl,ha1,ha2,ha3,ha4,ha5,ha6⟩:=ha.out
 obtain ⟨lb,B,cb,rfl,hb1,hb2,hb3,hb4,hb5,hb6⟩:=hb.out
 clear ha hb
 have hsc:=@sign_cmp a b
 have hzc:=@size_cmp a b
 have hs3:=sign_three a
 obtain ⟨sa,hsa⟩:∃ s,s=Int.sign a:=⟨_,rfl⟩
 obtain ⟨sb,hsb⟩:∃ s,s=Int.sign b:=⟨_,rfl⟩
 obtain ⟨r,hr⟩:∃ r,r=cmpI a b:=⟨_,rfl⟩
 rw [← hsa,← hsb,← hr] at hsc
 rw [← hsa,← hsb,← hr,← ha6,← hb6] at hzc
 rw [← hsa,← hsb,← hr]
 rw [← hsa] at hs3
 have hr3:=cmpI_three a b
 rw [← hr] at hr3
 have hb0:Below w.heap.size w ((w.alloc (.cells #[.int .i64 sa,.slice A la.length ca] 234)).alloc (.cells #[.int .i64 sb,.slice B lb.length cb] 234)):=((Below.refl _ w).alloc (Nat.le_refl _) _).alloc (by simp) _
 have h0:((w.alloc (.cells #[.int .i64 sa,.slice A la.length ca] 234)).alloc (.cells #[.int .i64 sb,.slice B lb.length cb] 234)).heap[w.heap.size]?=some (.cells #[.int .i64 sa,.slice A la.length ca] 234 (0,0)):=(Below.heap_alloc _ _ _ (by simp)).trans (blk_new w _)
 have h1:((w.alloc (.cells #[.int .i64 sa,.slice A la.length ca] 234)).alloc (.cells #[.int .i64 sb,.slice B lb.length cb] 234)).heap[w.heap.size+1]?=some (.cells #[.int .i64 sb,.slice B lb.length cb] 234 (0,0)):=alloc_at _ _ _ (by simp)
 obtain ⟨t,ht⟩:∃ t,t=cmpI (val la) (val lb):=⟨_,rfl⟩
 have hsz:=fun w' (h1:Below w.heap.size w w')=>size_list sa sb la lb A B ca cb w' ha2 hb2 (Kd.C_below ha3 h1) (Kd.C_below hb3 h1) ha4 hb4 ha5 hb5
 rw [← ht] at hsz hzc
 have ht3:=cmpI_three (val la) (val lb)
 rw [← ht] at ht3
 have HSZ:=Lib.hid hsz
 clear hsz ha3 hb3 ha4 hb4 ha5 hb5 hsa hsb hr ht ha6 hb6
 by_cases hne:sa=sb
 ·have hbf:(sa != sb)=false:=by rw [hne];simp
  have HZ:=Lib.hid (hzc hne)
  have hwr:IntKind.i64.wrap (sa * t)=r:=by
   rw [HZ.out]
   rcases hr3 with h | h | h <;> rw [h] <;> rfl
  clear hsc hzc hne hr3 ht3 hs3
  go_enter Tryz.func191,Tryz.ntmps191
  go_wp2_with fail
  generalize (w.alloc (.cells #[.int .i64 sa,.slice A la.length ca] 234)).alloc (.cells #[.int .i64 sb,.slice B lb.length cb] 234)=X at *
  have BW:=hb0.drew
  have K:X.drew.cell? ⟨w.heap.size,0,none⟩=some (.int .i64 sa)∧X.drew.cell? ⟨w.heap.size,1,none⟩=some (.slice A la.length ca)∧X.drew.cell? ⟨w.heap.size+1,0,none⟩=some (.int .i64 sb)∧X.drew.cell? ⟨w.heap.size+1,1,none⟩=some (.slice B lb.length cb) :=
   ⟨blk_cell h0 0,blk_cell h0 1,blk_cell h1 0,blk_cell h1 1⟩
  have hlt:=blk_lt h1
  go_region_held3 (fun w':World=>w'.cell? ⟨w.heap.size,0,none⟩=some (.int .i64 sa)∧w'.cell? ⟨w.heap.size,1,none⟩=some (.slice A la.length ca)∧w'.cell? ⟨w.heap.size+1,0,none⟩=some (.int .i64 sb)∧w'.cell? ⟨w.heap.size+1,1,none⟩=some (.slice B lb.length cb)) (first | exact K) (first
   | (go_at_call 234;refine (HSZ.out _ BW).mono ?_;rintro e wq ⟨rfl,hq⟩;have K:=And.intro (pw_cell_below hq K.1) (And.intro (pw_cell_below hq K.2.1) (And.intro (pw_cell_below hq K.2.2.1) (pw_cell_below hq K.2.2.2)));have BW:=BW.trans (hq.mono BW.size)))
  go_wp2
  try rw [hwr]
  go_ret
  exact ⟨rfl,BW⟩
 ·have hbf:(sa != sb)=true:=by simp [hne]
  have hcs:=cmp_sign sa sb
  rw [hsc hne] at hcs
  have HCS:=Lib.hid hcs
  clear hcs hsc hzc hne hr3 ht3 hs3
  have c0:=blk_cell h0 0
  have c1:=blk_cell h1 0
  have l0:=blk_lt h0
  go_enter Tryz.func191,Tryz.ntmps191
  go_wp2_with (go_at_call 233;refine (HCS.out _).mono ?_;rintro e wq ⟨rfl,hq⟩)
  go_ret
  exact ⟨rfl,hb0.trans (hq.mono hb0.size)⟩
theorem One.ln {w:World} {n:Int} {v:Value} (h:One w n v) (h1:1≤n) (h2:n < 1000000000):LN w n v:=by
 obtain ⟨g,c,hc,rfl,hg⟩:=h.out
 have hs:Int.sign n=1:=Int.sign_eq_one_of_pos (by omega)
 refine ⟨[n],some g,c,by rw [hs];rfl,hc,by simp,?_,?_,?_,?_⟩
 ·exact cells_C (by simp) (fun i hi=>by
   obtain rfl:i=0:=by simp at hi;omega
   rw [Addr.add_zero'];exact hg)
 ·intro x hx
  simp at hx
  subst hx
  omega
 ·intro i hi he
  obtain rfl:i=0:=by simp at hi;omega
  simp
  omega
 ·simp only [val];omega
theorem of1_LN (w:World):Calls Tryz.prog 192 #[.int .i64 1] w fun e w'=>∃ v,e=.returned v∧LN w' 1 v∧Below w.heap.size w w' :=
 (of1_calls w).mono fun _ _ ⟨v,h1,h2,h3⟩=>⟨v,h1,h2.ln (by omega) (by omega),h3⟩
end Go.Proofs.YtjaobihcdkjmbaaGreatDoor
end
section
namespace Go.Proofs.YtjaobihcdkjmbaaGreatDoor
open Go.RowKit Go.Proofs.YtjaobihcdkjmbaaGreatDoorW.PrintWords Go.Proofs.YtjaobihcdkjmbaaGreatDoor.PReadTokens
theorem num_ne6 {w:World} {g:Addr} {n a b:Int} {s t:ByteArray} {R:Nat} {B B2:Option Addr} {l c l2 c2:Nat} {ty:TypeId} (hg:w.cell? g=some (.int .u32 n)) (hR:w.heap[R]?=some (.cells #[.string s,.string t,.int .i64 a,.slice B l c,.int .i64 b,.slice B2 l2 c2] ty (0,0))):g.block≠R:=by
 intro e
 obtain ⟨b,o,sp⟩:=g
 simp only at e
 subst e
 simp only [World.cell?,hR] at hg
 match o with
 | 0=>simp at hg
 | 1=>simp at hg
 | 2=>simp at hg
 | 3=>simp at hg
 | 4=>simp at hg
 | 5=>simp at hg
 | k+6=>simp at hg
theorem size236:(Tryz.prog.info? 236).map (·.size)=some 6:=by kernel_rfl
end Go.Proofs.YtjaobihcdkjmbaaGreatDoor
end
section
namespace Go.Proofs.YtjaobihcdkjmbaaGreatDoor
open Go.RowKit Go.Proofs.YtjaobihcdkjmbaaGreatDoorW.PrintWords Go.Proofs.YtjaobihcdkjmbaaGreatDoor.PReadTokens
def chkR (r:S28):Int :=
 if wchkF r.f0=1∨wchkF r.f1=1∨negB r.f1=true∨r.f1=⟨#[48]⟩ then 1
 else if wchkF r.f0≠0∨wchkF r.f1≠0 then 13
 else if Int.gcd (numV r.f0) (numV r.f1)=1 then 0 else 1
def RPost (n:Int) (w:World) (e:Ending) (w':World):Prop:=Below w.heap.size w w'∧((n=0∧∃ v,e=.returned v)∨(n≠0∧e=wrongAt 253 n))
theorem wchk_three (s:ByteArray):wchkF s=0∨wchkF s=1∨wchkF s=13:=by
 unfold wchkF
 split
 ·exact .inr (.inl rfl)
 ·split
  ·exact .inr (.inr rfl)
  ·exact .inl rfl
theorem wchk_form {s:ByteArray} (h:wchkF s≠1):formB s=true:=by
 unfold wchkF at h
 by_cases hf:formB s=false
 ·rw [if_pos hf] at h;exact absurd rfl h
 ·simpa using hf
theorem wchk_zero {s:ByteArray} (h:wchkF s=0):formB s=true∧(trimB s).size≤400:=by
 have hf:=wchk_form (s:=s) (by rw [h];omega)
 refine ⟨hf,?_⟩
 unfold wchkF at h
 rw [if_neg (by rw [hf];simp)] at h
 by_cases hl:400 < (trimB s).size
 ·rw [if_pos hl] at h;cases h
 ·omega
theorem form_pos {s:ByteArray} (h:formB s=true):0 < s.size:=by
 have h1:=(form_digs h).2
 have h2:=trim_size s
 omega
theorem neg_head {s:ByteArray} (h:0 < s.size):(((s[0]'h).toNat:Int) == 45)=negB s:=by
 unfold negB
 have hl:s.data.toList=s[0]'h :: s.data.toList.tail:=by
  cases he:s.data.toList with
  | nil=>exfalso;have:s.size=s.data.toList.length:=rfl;rw [he,List.length_nil] at this;omega
  | cons c r =>
   have e:s[0]'h=c:=by show s.data.toList[0]'h=c;simp [he]
   rw [e];rfl
 rw [hl]
 simp only
 rw [Bool.eq_iff_iff,beq_iff_eq,beq_iff_eq,← UInt8.toNat_inj]
 constructor
 ·intro h
  show (s[0]).toNat=45
  omega
 ·intro h
  rw [h];rfl
theorem str_eq (t u:ByteArray):(t.toList == u.toList)=decide (t=u):=by
 rw [Bool.eq_iff_iff,beq_iff_eq,decide_eq_true_eq,ByteArray.toList_eq,ByteArray.toList_eq]
 constructor
 ·intro h;apply ByteArray.ext;exact Array.toList_inj.1 h
 ·intro h;rw [h]
theorem LN_step {W W':World} {z:Int} {v:Value} {R:Nat} {s t:ByteArray} {a b:Int} {B B2:Option Addr} {l c l2 c2:Nat} {ty:TypeId} (h:LN W z v)
  (hR:W.heap[R]?=some (.cells #[.string s,.string t,.int .i64 a,.slice B l c,.int .i64 b,.slice B2 l2 c2] ty (0,0))) (hk:∀ p:Addr,p.block≠R→W'.cell? p=W.cell? p):LN W' z v:=by
 obtain ⟨m,A,c',h1,h2,h3,h4,h5⟩:=h.out
 refine ⟨m,A,c',h1,h2,h3,?_,h5⟩
 by_cases hn:m=[]
 ·subst hn
  exact ⟨h4.1,by simp,fun h=>by simp at h⟩
 ·obtain ⟨ad,rfl,hc⟩:=C_cells h4 hn
  refine cells_C (by omega) (fun i hi=>?_)
  have h6:=hc i hi
  rw [hk _ (num_ne6 h6 hR)]
  exact h6
set_option maxRecDepth 100000 in
set_option maxHeartbeats 8000000 in
theorem rtaken_calls (s t:ByteArray) (hs:s.size≤9223372036854775807) (ht:t.size≤9223372036854775807) (w:World) (hS:Start w) :
  Calls Tryz.prog 168 #[.agg #[.string s,.string t]] w (RPost (chkR ⟨s,t⟩) w):=by
 have HC1:Hid (∀ w,Start w→Calls Tryz.prog 187 #[.string s] w fun e w'=>e=.returned (.int .i64 (wchkF s))∧Below w.heap.size w w'):=Lib.hid (fun w hS=>wcheck_calls s hs w hS)
 have HC2:Hid (∀ w,Start w→Calls Tryz.prog 187 #[.string t] w fun e w'=>e=.returned (.int .i64 (wchkF t))∧Below w.heap.size w w'):=Lib.hid (fun w hS=>wcheck_calls t ht w hS)
 have HS:=Lib.hid hS
 obtain ⟨n,hn⟩:∃ n,n=chkR ⟨s,t⟩:=⟨_,rfl⟩
 rw [← hn]
 unfold chkR at hn
 simp only at hn
 have h3s:=wchk_three s
 have h3t:=wchk_three t
 have hfs:=@wchk_zero s
 have hft:=@wchk_zero t
 have hft1:=@wchk_form t
 obtain ⟨a,ha⟩:∃ a,a=wchkF s:=⟨_,rfl⟩
 obtain ⟨b,hb⟩:∃ b,b=wchkF t:=⟨_,rfl⟩
 rw [← ha] at HC1 hn h3s hfs
 rw [← hb] at HC2 hn h3t hft hft1
 clear ha hb hS
 replace hn:=Lib.hid hn
 replace hfs:=Lib.hid hfs
 replace hft:=Lib.hid hft
 replace hft1:=Lib.hid hft1
 obtain ⟨X,hX⟩:∃ X,X=((w.alloc (.cells #[.string s,.string t] 28)).alloc (.cells #[.string ⟨#[]⟩,.string ⟨#[]⟩,.int .i64 0,.slice none 0 0,.int .i64 0,.slice none 0 0] 236)):=⟨_,rfl⟩
 have hb0:Below w.heap.size w X:=by rw [hX];exact ((Below.refl _ w).alloc (Nat.le_refl _) _).alloc (by simp) _
 have h0:X.heap[w.heap.size]?=some (.cells #[.string s,.string t] 28 (0,0)):=by rw [hX];exact (Below.heap_alloc _ _ _ (by simp)).trans (blk_new w _)
 have h1:X.heap[w.heap.size+1]?=some (.cells #[.string ⟨#[]⟩,.string ⟨#[]⟩,.int .i64 0,.slice none 0 0,.int .i64 0,.slice none 0 0] 236 (0,0)):=by rw [hX];exact alloc_at _ _ _ (by simp)
 go_enter Tryz.func168,Tryz.ntmps168
 go_wp2_with fail
 rw [← hX]
 clear hX
 have K:X.drew.cell? ⟨w.heap.size,0,none⟩=some (.string s)∧X.drew.cell? ⟨w.heap.size,1,none⟩=some (.string t):=⟨blk_cell h0 0,blk_cell h0 1⟩
 have J0:X.drew.heap[w.heap.size]?=some (.cells #[.string s,.string t] 28 (0,0)):=h0
 have J1:X.drew.heap[w.heap.size+1]?=some (.cells #[.string ⟨#[]⟩,.string ⟨#[]⟩,.int .i64 0,.slice none 0 0,.int .i64 0,.slice none 0 0] 236 (0,0)):=h1
 have BW:=hb0.drew
 clear h0 h1 hb0
 go_region_held3 (fun w':World=>w'.cell? ⟨w.heap.size,0,none⟩=some (.string s)∧w'.cell? ⟨w.heap.size,1,none⟩=some (.string t)) (first | with_reducible exact K) (first
  | (go_at_call 187;refine (HC1.out _ (HS.out.below BW)).mono ?_;rintro e wq ⟨rfl,hq⟩;clear HC1;have K:=And.intro (pw_cell_below hq K.1) (pw_cell_below hq K.2);have J0:=bcell hq J0;have J1:=bcell hq J1;have BW:=BW.trans (hq.mono BW.size))
  | (go_at_call 187;refine (HC2.out _ (HS.out.below BW)).mono ?_;rintro e wq ⟨rfl,hq⟩;clear HC2;have K:=And.intro (pw_cell_below hq K.1) (pw_cell_below hq K.2);have J0:=bcell hq J0;have J1:=bcell hq J1;have BW:=BW.trans (hq.mono BW.size)))
 have q0:=K.1
 have q1:=K.2
 have q2:=blk_lt J0
 clear K
 have hy1:=Lib.hid (fail188_yes 1)
 have hy13:=Lib.hid (fail188_yes 13)
 unfold wrongAt at hy1 hy13
 by_cases ha1:a=1
 ·have e1:(a == 1)=true:=by rw [ha1];rfl
  have hn1:n=1:=by rw [hn.out,if_pos (.inl ha1)]
  clear ha1 h3s
  go_wp2_with (go_at_call 188;refine (hy1.out _).mono ?_;rintro e wr ⟨rfl,hr⟩;subst wr)
  exact ⟨rfl,BW,.inr ⟨by omega,rfl⟩⟩
 have e1:(a == 1)=false:=beq_no ha1
 by_cases hb1:b=1
 ·have e2:(b == 1)=true:=by rw [hb1];rfl
  have hn1:n=1:=by rw [hn.out,if_pos (.inr (.inl hb1))]
  clear hb1 h3t ha1 h3s
  go_wp2_with (go_at_call 188;refine (hy1.out _).mono ?_;rintro e wr ⟨rfl,hr⟩;subst wr)
  exact ⟨rfl,BW,.inr ⟨by omega,rfl⟩⟩
 have e2:(b == 1)=false:=beq_no hb1
 have htf:=hft1.out hb1
 have htp:=form_pos htf
 have hth:=neg_head htp
 cases hng:negB t
 case true =>
  rw [hng] at hth
  have hn1:n=1:=by rw [hn.out,if_pos (.inr (.inr (.inl hng)))]
  clear hb1 h3t ha1 h3s htf hng
  go_wp2_with (go_at_call 188;refine (hy1.out _).mono ?_;rintro e wr ⟨rfl,hr⟩;subst wr)
  exact ⟨rfl,BW,.inr ⟨by omega,rfl⟩⟩
 rw [hng] at hth
 have hse:=str_eq t ⟨#[48]⟩
 have h48:(⟨#[48]⟩:ByteArray).toList=[48]:=by rw [ByteArray.toList_eq]
 rw [h48] at hse
 have hse2:(t == ⟨#[48]⟩)=decide (t=⟨#[48]⟩):=by rw [beq_toListBytes];exact str_eq t _
 by_cases htz:t=⟨#[48]⟩
 ·have hn1:n=1:=by rw [hn.out,if_pos (.inr (.inr (.inr htz)))]
  rw [decide_eq_true htz] at hse hse2
  clear hb1 h3t ha1 h3s htf hng htz h48
  go_wp2_with (go_at_call 188;refine (hy1.out _).mono ?_;rintro e wr ⟨rfl,hr⟩;subst wr)
  exact ⟨rfl,BW,.inr ⟨by omega,rfl⟩⟩
 rw [decide_eq_false htz] at hse hse2
 have hno:¬ (a=1∨b=1∨negB t=true∨t=⟨#[48]⟩):=by
  rintro (h | h | h | h)
  ·exact ha1 h
  ·exact hb1 h
  ·rw [hng] at h;cases h
  ·exact htz h
 have hn2:=Lib.hid (hn.out.trans (if_neg hno))
 clear hno hng htz h48
 have hnc:=Lib.hid (fail188_no 1)
 by_cases ha0:a=0
 case neg =>
  have e3:(a != 0)=true:=by simp [ha0]
  have hn1:n=13:=by rw [hn2.out,if_pos (.inl ha0)]
  clear ha1 hb1 h3s h3t htf ha0
  go_wp2_with (first
   | (go_at_call 188;refine (hnc.out _).mono ?_;rintro e wr ⟨rfl,hr⟩;subst wr;clear hnc)
   | (go_at_call 188;refine (hy13.out _).mono ?_;rintro e wr ⟨rfl,hr⟩;subst wr))
  exact ⟨rfl,BW,.inr ⟨by omega,rfl⟩⟩
 by_cases hb0:b=0
 case neg =>
  have e3:(a != 0)=false:=by simp [ha0]
  have e4:(b != 0)=true:=by simp [hb0]
  have hn1:n=13:=by rw [hn2.out,if_pos (.inr hb0)]
  clear ha1 hb1 h3s h3t htf ha0 hb0
  go_wp2_with (first
   | (go_at_call 188;refine (hnc.out _).mono ?_;rintro e wr ⟨rfl,hr⟩;subst wr;clear hnc)
   | (go_at_call 188;refine (hy13.out _).mono ?_;rintro e wr ⟨rfl,hr⟩;subst wr))
  exact ⟨rfl,BW,.inr ⟨by omega,rfl⟩⟩
 have e3:(a != 0)=false:=by simp [ha0]
 have e4:(b != 0)=false:=by simp [hb0]
 obtain ⟨sf,sl⟩:=hfs.out ha0
 obtain ⟨tf,tl⟩:=hft.out hb0
 have hn3:=Lib.hid (hn2.out.trans (if_neg (by rintro (h | h) <;> omega)))
 obtain ⟨x,hx⟩:∃ x,x=numV s:=⟨_,rfl⟩
 obtain ⟨y,hy⟩:∃ y,y=numV t:=⟨_,rfl⟩
 rw [← hx,← hy] at hn3
 obtain ⟨sx,hsx⟩:∃ k,k=Int.sign x:=⟨_,rfl⟩
 obtain ⟨sy,hsy⟩:∃ k,k=Int.sign y:=⟨_,rfl⟩
 have HR1:Hid (∀ w,Calls Tryz.prog 189 #[.string s] w fun e w'=>∃ A m c,e=.returned (.agg #[.int .i64 sx,.slice A m c])∧LN w' x (.agg #[.int .i64 sx,.slice A m c])∧Below w.heap.size w w'):=Lib.hid (fun w =>
  (callsIn_wide.1 (read_LN 9 s (form_digs sf).1 (form_digs sf).2 (by omega) w)).mono fun _ _ ⟨v,h1,h2,h3⟩=>by
   rw [← hx] at h2
   obtain ⟨l,A,c,rfl,_⟩:=h2.out
   rw [← hsx] at h1 h2
   exact ⟨A,l.length,c,h1,h2,h3⟩)
 have HR2:Hid (∀ w,Calls Tryz.prog 189 #[.string t] w fun e w'=>∃ A m c,e=.returned (.agg #[.int .i64 sy,.slice A m c])∧LN w' y (.agg #[.int .i64 sy,.slice A m c])∧Below w.heap.size w w'):=Lib.hid (fun w =>
  (callsIn_wide.1 (read_LN 9 t (form_digs tf).1 (form_digs tf).2 (by omega) w)).mono fun _ _ ⟨v,h1,h2,h3⟩=>by
   rw [← hy] at h2
   obtain ⟨l,A,c,rfl,_⟩:=h2.out
   rw [← hsy] at h1 h2
   exact ⟨A,l.length,c,h1,h2,h3⟩)
 clear ha1 hb1 h3s h3t htf ha0 hb0 sf sl tf tl hx hy hsx hsy hn hn2 hfs hft hft1 hy13
 have hnc2:=Lib.hid (fail188_no 13)
 go_wp2_with (first
  | (go_at_call 188;refine (hnc.out _).mono ?_;rintro e wr ⟨rfl,hr⟩;subst wr;clear hnc)
  | (go_at_call 188;refine (hnc2.out _).mono ?_;rintro e wr ⟨rfl,hr⟩;subst wr;clear hnc2))
 have N0:(wq.alloc (.cells #[.string s,.string t,.int .i64 0,.slice none 0 0,.int .i64 0,.slice none 0 0] 236)).heap[wq.heap.size]?=some (.cells #[.string s,.string t,.int .i64 0,.slice none 0 0,.int .i64 0,.slice none 0 0] 236 (0,0)):=blk_new wq _
 have BN:=BW.alloc BW.size (.cells #[.string s,.string t,.int .i64 0,.slice none 0 0,.int .i64 0,.slice none 0 0] 236)
 have J1':=J1
 have J1:(wq.alloc (.cells #[.string s,.string t,.int .i64 0,.slice none 0 0,.int .i64 0,.slice none 0 0] 236)).heap[w.heap.size+1]?=some (.cells #[.string ⟨#[]⟩,.string ⟨#[]⟩,.int .i64 0,.slice none 0 0,.int .i64 0,.slice none 0 0] 236 (0,0)):=(Below.heap_alloc _ _ _ (blk_lt J1')).trans J1'
 have hlt:w.heap.size+1 < wq.heap.size:=blk_lt J1'
 clear J1' J0
 generalize wq.alloc (.cells #[.string s,.string t,.int .i64 0,.slice none 0 0,.int .i64 0,.slice none 0 0] 236)=Y at *
 generalize wq.heap.size=q at *
 have KS2:Hid (∀ (W:World) (a b:Value),(W.cell? ⟨q,0,none⟩=some (.string s)∧W.cell? ⟨q,1,none⟩=some (.string t)) →
   (((W.setCell ⟨q,2,none⟩ a).setCell ⟨q,3,none⟩ b).cell? ⟨q,0,none⟩=some (.string s)∧((W.setCell ⟨q,2,none⟩ a).setCell ⟨q,3,none⟩ b).cell? ⟨q,1,none⟩=some (.string t))) :=
  Lib.hid (fun W a b h=>⟨(World.cell?_setCell_other _ _ _ _ (by simp)).trans ((World.cell?_setCell_other _ _ _ _ (by simp)).trans h.1),(World.cell?_setCell_other _ _ _ _ (by simp)).trans ((World.cell?_setCell_other _ _ _ _ (by simp)).trans h.2)⟩)
 have KS3:Hid (∀ (W:World) (a b:Value),(W.cell? ⟨q,0,none⟩=some (.string s)∧W.cell? ⟨q,1,none⟩=some (.string t)) →
   (((W.setCell ⟨q,4,none⟩ a).setCell ⟨q,5,none⟩ b).cell? ⟨q,0,none⟩=some (.string s)∧((W.setCell ⟨q,4,none⟩ a).setCell ⟨q,5,none⟩ b).cell? ⟨q,1,none⟩=some (.string t))) :=
  Lib.hid (fun W a b h=>⟨(World.cell?_setCell_other _ _ _ _ (by simp)).trans ((World.cell?_setCell_other _ _ _ _ (by simp)).trans h.1),(World.cell?_setCell_other _ _ _ _ (by simp)).trans ((World.cell?_setCell_other _ _ _ _ (by simp)).trans h.2)⟩)
 have K:Y.drew.cell? ⟨q,0,none⟩=some (.string s)∧Y.drew.cell? ⟨q,1,none⟩=some (.string t):=⟨blk_cell N0 0,blk_cell N0 1⟩
 have N0:Y.drew.heap[q]?=some (.cells #[.string s,.string t,.int .i64 0,.slice none 0 0,.int .i64 0,.slice none 0 0] 236 (0,0)):=N0
 have J1:Y.drew.heap[w.heap.size+1]?=some (.cells #[.string ⟨#[]⟩,.string ⟨#[]⟩,.int .i64 0,.slice none 0 0,.int .i64 0,.slice none 0 0] 236 (0,0)):=J1
 have BN:=BN.drew
 clear q0 q1 q2 hth hse hse2 e1 e2 e3 e4 BW hq
 have hlt:=Lib.hid hlt
 go_region_held3 (fun w':World=>w'.cell? ⟨q,0,none⟩=some (.string s)∧w'.cell? ⟨q,1,none⟩=some (.string t)) (first | with_reducible exact K | with_reducible exact KS2.out _ _ _ K | with_reducible exact KS3.out _ _ _ (KS2.out _ _ _ K)) (first
  | (go_at_call 189;refine (HR1.out _).mono ?_;rintro e wa ⟨A1,m1,c1,rfl,L1,hqa⟩;clear HR1;have K:=And.intro (pw_cell_below hqa K.1) (pw_cell_below hqa K.2);have N0:=bcell hqa N0;have J1:=bcell hqa J1;have BN:=BN.trans (hqa.mono BN.size))
  | (go_at_call 189;refine (HR2.out _).mono ?_;rintro e wb ⟨A2,m2,c2,rfl,L2,hqb⟩;clear HR2;have L1:=L1.below hqb;have K:=And.intro (pw_cell_below hqb K.1) (pw_cell_below hqb K.2);have N0:=bcell hqb N0;have J1:=bcell hqb J1;have BN:=BN.trans (hqb.mono BN.size);have e0:=blk_frozen N0 2;have e1:=blk_frozen N0 3;have f0:=blk_frozen N0 4;have f1:=blk_frozen N0 5;have b0:=blk_cell N0 2;have b1:=blk_cell N0 3;have b2:=blk_cell N0 4;have b3:=blk_cell N0 5))
 have hbq:w.heap.size≤q:=by have:=hlt.out;omega
 have Z0:((((wb.setCell ⟨q,2,none⟩ (.int .i64 sx)).setCell ⟨q,3,none⟩ (.slice A1 m1 c1)).setCell ⟨q,4,none⟩ (.int .i64 sy)).setCell ⟨q,5,none⟩ (.slice A2 m2 c2)).heap[q]?=some (.cells #[.string s,.string t,.int .i64 sx,.slice A1 m1 c1,.int .i64 sy,.slice A2 m2 c2] 236 (0,0)):=blk_set (blk_set (blk_set (blk_set N0 2 _) 3 _) 4 _) 5 _
 have Z1:((((wb.setCell ⟨q,2,none⟩ (.int .i64 sx)).setCell ⟨q,3,none⟩ (.slice A1 m1 c1)).setCell ⟨q,4,none⟩ (.int .i64 sy)).setCell ⟨q,5,none⟩ (.slice A2 m2 c2)).heap[w.heap.size+1]?=some (.cells #[.string ⟨#[]⟩,.string ⟨#[]⟩,.int .i64 0,.slice none 0 0,.int .i64 0,.slice none 0 0] 236 (0,0)):=by
  have hq:q≠w.heap.size+1:=by have:=hlt.out;omega
  exact (Below.heap_setCell _ _ _ _ (Ne.symm hq)).trans ((Below.heap_setCell _ _ _ _ (Ne.symm hq)).trans ((Below.heap_setCell _ _ _ _ (Ne.symm hq)).trans ((Below.heap_setCell _ _ _ _ (Ne.symm hq)).trans J1)))
 have ZB:Below w.heap.size w ((((wb.setCell ⟨q,2,none⟩ (.int .i64 sx)).setCell ⟨q,3,none⟩ (.slice A1 m1 c1)).setCell ⟨q,4,none⟩ (.int .i64 sy)).setCell ⟨q,5,none⟩ (.slice A2 m2 c2)):=(((BN.setCell (p:=⟨q,2,none⟩) hbq _).setCell (p:=⟨q,3,none⟩) hbq _).setCell (p:=⟨q,4,none⟩) hbq _).setCell (p:=⟨q,5,none⟩) hbq _
 have hkk:∀ p:Addr,p.block≠q→((((wb.setCell ⟨q,2,none⟩ (.int .i64 sx)).setCell ⟨q,3,none⟩ (.slice A1 m1 c1)).setCell ⟨q,4,none⟩ (.int .i64 sy)).setCell ⟨q,5,none⟩ (.slice A2 m2 c2)).cell? p=wb.cell? p:=fun p hp=>by
  rw [World.cell?_setCell_far _ _ _ _ (Ne.symm hp),World.cell?_setCell_far _ _ _ _ (Ne.symm hp),World.cell?_setCell_far _ _ _ _ (Ne.symm hp),World.cell?_setCell_far _ _ _ _ (Ne.symm hp)]
 have M1:=LN_step L1 N0 hkk
 have M2:=LN_step L2 N0 hkk
 clear K N0 J1 BN b0 b1 b2 b3 e0 e1 f0 f1 KS2 KS3 hkk L1 L2
 generalize ((((wb.setCell ⟨q,2,none⟩ (.int .i64 sx)).setCell ⟨q,3,none⟩ (.slice A1 m1 c1)).setCell ⟨q,4,none⟩ (.int .i64 sy)).setCell ⟨q,5,none⟩ (.slice A2 m2 c2))=Z at *
 have z2:=blk_cell Z0 2
 have z3:=blk_cell Z0 3
 have z4:=blk_cell Z0 4
 have z5:=blk_cell Z0 5
 have hcm:=common_calls x y _ _ Z M1 M2
 clear M1 M2
 obtain ⟨g,hg⟩:∃ g:Int,g=(Int.gcd x y:Int):=⟨_,rfl⟩
 rw [← hg] at hcm
 replace hg:=Lib.hid hg
 go_wp2_with fail
 refine hcm.mono ?_
 rintro e W1 ⟨v1,rfl,hv1,hB1⟩
 clear hcm
 go_wp2_with fail
 refine (of1_LN _).mono ?_
 rintro e W2 ⟨v2,rfl,hv2,hB2⟩
 have hor:=order_LN g 1 v1 v2 W2 (hv1.below hB2) hv2
 clear hv1 hv2
 go_wp2_with fail
 refine hor.mono ?_
 rintro e W3 ⟨rfl,hB3⟩
 clear hor
 have Y0:=bcell hB3 (bcell hB2 (bcell hB1 Z0))
 have Y1:=bcell hB3 (bcell hB2 (bcell hB1 Z1))
 have YB:=((ZB.trans (hB1.mono ZB.size)))
 have YB:=((YB.trans (hB2.mono YB.size)))
 have YB:=((YB.trans (hB3.mono YB.size)))
 clear hB1 hB2 hB3 ZB Z0 Z1 z2 z3 z4 z5 hqa hqb
 by_cases hg1:Int.gcd x y=1
 ·have hn1:n=0:=by rw [hn3.out,if_pos hg1]
  have hg2:g=1:=by rw [hg.out,hg1];rfl
  have c11:cmpI g 1=0:=by rw [hg2];rfl
  rw [c11]
  clear hg2 hg1 c11
  have d0:=blk_cell Y0 0
  have d1:=blk_cell Y0 1
  have d2:=blk_cell Y0 2
  have d3:=blk_cell Y0 3
  have d4:=blk_cell Y0 4
  have d5:=blk_cell Y0 5
  have r0:=blk_cell Y1 0
  have r1:=blk_cell Y1 1
  have r2:=blk_cell Y1 2
  have r3:=blk_cell Y1 3
  have r4:=blk_cell Y1 4
  have r5:=blk_cell Y1 5
  have k0:=blk_frozen Y1 0
  have k1:=blk_frozen Y1 1
  have k2:=blk_frozen Y1 2
  have k3:=blk_frozen Y1 3
  have k4:=blk_frozen Y1 4
  have k5:=blk_frozen Y1 5
  replace hn1:=Lib.hid hn1
  go_wp2_with (go_at_call 188;refine (fail188_no _ _).mono ?_;rintro e wr ⟨rfl,hr⟩;subst wr)
  refine bodyPost_ret (results_c Tryz.results168 _ _ (w.heap.size+1) 236 _ (0,0) _ rfl (blk_set (blk_set (blk_set (blk_set (blk_set (blk_set Y1 0 _) 1 _) 2 _) 3 _) 4 _) 5 _) Tryz.underlying236 rfl size236) rfl ⟨?_,.inl ⟨hn1.out,_,rfl⟩⟩
  exact (((((YB.setCell (p:=⟨w.heap.size+1,0,none⟩) (by simp) _).setCell (p:=⟨w.heap.size+1,1,none⟩) (by simp) _).setCell (p:=⟨w.heap.size+1,2,none⟩) (by simp) _).setCell (p:=⟨w.heap.size+1,3,none⟩) (by simp) _).setCell (p:=⟨w.heap.size+1,4,none⟩) (by simp) _).setCell (p:=⟨w.heap.size+1,5,none⟩) (by simp) _
 ·have hn1:n=1:=by rw [hn3.out,if_neg hg1]
  have hg2:g≠1:=by rw [hg.out];omega
  have c11:(cmpI g 1 != 0)=true:=by rw [bne_iff_ne];exact fun h=>hg2 (cmpI_zero h)
  clear hg2 hg1
  generalize cmpI g 1=cc at *
  go_wp2_with (go_at_call 188;refine (hy1.out _).mono ?_;rintro e wr ⟨rfl,hr⟩;subst wr)
  exact ⟨rfl,YB,.inr ⟨by omega,rfl⟩⟩
end Go.Proofs.YtjaobihcdkjmbaaGreatDoor
end
section
namespace Go.Proofs.YtjaobihcdkjmbaaGreatDoor
open Go.RowKit Go.Proofs.YtjaobihcdkjmbaaGreatDoorW.PrintWords Go.Proofs.YtjaobihcdkjmbaaGreatDoor.PReadTokens
def chk0 (r:S28):Int:=if r.f1=⟨#[49]⟩∧(r.f0=⟨#[49]⟩∨r.f0=⟨#[50]⟩) then 0 else 1
end Go.Proofs.YtjaobihcdkjmbaaGreatDoor
end
section
namespace Go.Proofs.YtjaobihcdkjmbaaGreatDoor
open Go.RowKit Go.Proofs.YtjaobihcdkjmbaaGreatDoorW.PrintWords Go.Proofs.YtjaobihcdkjmbaaGreatDoor.PReadTokens
set_option maxRecDepth 100000 in
set_option maxHeartbeats 2000000 in
theorem rcheck_calls (s t:ByteArray) (hs:s.size≤9223372036854775807) (ht:t.size≤9223372036854775807) (w:World) (hS:Start w) :
  Calls Tryz.prog 141 #[.agg #[.string s,.string t]] w fun e w'=>e=.returned (.int .i64 (chkR ⟨s,t⟩))∧Below w.heap.size w w':=by
 have hmf:∀ (fn:Fn) (first cap:Array Value) (w:World),(Instr.makeFunc fn first cap).run Tryz.prog w=.ok (.func fn first cap) w:=fun _ _ _ _=>rfl
 have HT:=Lib.hid (fun w hS=>rtaken_calls s t hs ht w hS)
 obtain ⟨n,hn⟩:∃ n,n=chkR ⟨s,t⟩:=⟨_,rfl⟩
 rw [← hn] at HT ⊢
 replace hn:=Lib.hid hn
 have hb0:=((Below.refl _ w).alloc (Nat.le_refl _) (.cells #[.string s,.string t] 28)).alloc (by simp) (.cells #[.int .i64 0] 36)
 have hh1:((w.alloc (.cells #[.string s,.string t] 28)).alloc (.cells #[.int .i64 0] 36)).heap[w.heap.size+1]?=some (.cells #[.int .i64 0] 36 (0,0)):=alloc_at _ _ _ (by simp)
 have hS1:=hS.below hb0
 have hge:=hS1.err
 go_enter_defers Tryz.func141,Tryz.ntmps141
 go_wp2_with fail
 refine (HT.out _ hS1).mono ?_
 rintro e w1 ⟨hb1,hcase⟩
 have hr1:=bcell hb1 hh1
 have hbw:=hb0.trans (hb1.mono (by simp;try omega))
 have hg1:=pw_cell_below hb1 hge
 rcases hcase with ⟨h0,v,rfl⟩ | ⟨h0,he⟩
 ·subst h0
  have c1:=blk_cell hr1 0
  have f1':=blk_frozen hr1 0
  go_wp2
  have hr2:=blk_set hr1 0 (.int .i64 0)
  have hbw2:=hbw.setCell (p:=⟨w.heap.size+1,0,none⟩) (by simp) (.int .i64 0)
  generalize w1.setCell ⟨w.heap.size+1,0,none⟩ (.int .i64 0)=w2 at *
  refine leaves_cons (f:=166) (args:=#[.pointer (some ⟨w.heap.size+1,0,none⟩)]) (by simp) (by simp [go_sem]) ?_
  refine (catch166_idle (w.heap.size+1) (.int .i64 0) w2 hr2).mono ?_
  rintro e u w3 ⟨rfl,rfl,hw3⟩
  have c4:w3.cell? ⟨w.heap.size+1,0,none⟩=some (.int .i64 0):=by rw [hw3];exact blk_cell (blk_set hr2 0 (.int .i64 0)) 0
  have hfin:Below w.heap.size w w3:=by rw [hw3];exact hbw2.setCell (p:=⟨w.heap.size+1,0,none⟩) (by simp) _
  simp [Leaves,settle,results,Tryz.results141,go_sem,c4,hfin]
 ·unfold wrongAt at he
  subst he
  replace h0:=Lib.hid h0
  go_wp2
  refine leaves_cons (f:=166) (args:=#[.pointer (some ⟨w.heap.size+1,0,none⟩)]) (by simp) (by simp [go_sem]) ?_
  refine (catch166_hit (w.heap.size+1) n (.int .i64 0) [] w1 hr1 hg1).mono ?_
  rintro e u w3 ⟨rfl,rfl,hs3,hg3⟩
  have c4:w3.cell? ⟨w.heap.size+1,0,none⟩=some (.int .i64 n):=blk_cell hs3 0
  have hfin:Below w.heap.size w w3:=hbw.grown hg3 hbw.size (fun j e=>by injection e with e;omega)
  simp [Leaves,settle,results,Tryz.results141,go_sem,c4,hfin]
end Go.Proofs.YtjaobihcdkjmbaaGreatDoor
end
section
namespace Go.Proofs.YtjaobihcdkjmbaaGreatDoor
open Go.RowKit Go.Proofs.YtjaobihcdkjmbaaGreatDoorW.PrintWords Go.Proofs.YtjaobihcdkjmbaaGreatDoor.PReadTokens
theorem part28_0 (a b:Value) (w:World):(part 9 #[a,b] 0).run Tryz.prog w=.ok a w:=by kernel_rfl
theorem part28_1 (a b:Value) (w:World):(part 9 #[a,b] 1).run Tryz.prog w=.ok b w:=by kernel_rfl
theorem eq28 (a b c d:ByteArray) (w:World):(Op.equalIn 10000 28 (.agg #[.string a,.string b]) (.agg #[.string c,.string d])).run Tryz.prog w=.ok (a.toList == c.toList && b.toList == d.toList) w :=
 eqA_of Tryz.underlying28 (by kernel_rfl) (eqf_cons rfl (part28_0 _ _ _) (part28_0 _ _ _) (run_equalIn_string w _ _ _ _ Tryz.underlying9) (eqf_last rfl (part28_1 _ _ _) (part28_1 _ _ _) (run_equalIn_string w _ _ _ _ Tryz.underlying9)))
theorem str_nil {s:ByteArray} (h:s.toList=[]):s=⟨#[]⟩:=by
 rw [ByteArray.toList_eq] at h
 apply ByteArray.ext
 exact Array.toList_inj.1 h
theorem nil_eq (s:ByteArray):(s.toList == (⟨#[]⟩:ByteArray).toList)=decide (s=⟨#[]⟩):=str_eq s ⟨#[]⟩
def LPost (n:Int) (w:World) (e:Ending) (w':World):Prop:=Below w.heap.size w w'∧((n=0∧e=.returned (.tuple #[]))∨(n≠0∧e=wrongAt 159 n))
def badName (x:S31):Bool :=
 if x.f0=0 then !decide (x.f2=⟨#[]⟩) && !unitB x.f2
 else if x.f0=1∨x.f0=10∨x.f0=11∨x.f0=13∨x.f0=14 then !nameB x.f2
 else !decide (x.f2=⟨#[]⟩)
def tailE (x:S31):Int :=
 if badName x=true then 4
 else if x.f3 < sizeLo x.f0∨sizeHi x.f0 < x.f3 then 2
 else 0
open Classical in
noncomputable def midE (x:S31):Int :=
 if x.f0=0 then (if chkR x.f1≠0 then chkR x.f1 else if negB x.f1.f0=true then 2 else tailE x)
 else if x.f1≠z28 then 1 else tailE x
noncomputable def lookE (x:S31):Int :=
 if x.f0 < 0∨14 < x.f0 then 9
 else if (x.f4.length:Int) < argLo x.f0 then 8
 else if argHi x.f0 < (x.f4.length:Int) then 7
 else midE x
theorem fail_yes' (e:Int) (w:World):Calls Tryz.prog 67 #[.bool true,.int .i64 e] w fun en w'=>en=.panicked [{ v:=.iface 159 (.agg #[.int .i64 e]),recovered:=false }]∧w'=w:=fail_yes e w
set_option maxRecDepth 100000 in
set_option maxHeartbeats 1000000 in
theorem look_out (x:S31) (v5:Value) (w:World) (A:Option Addr) (c:Nat) (hv5:v5=.slice A x.f4.length c) (h:x.f0 < 0∨14 < x.f0):Calls Tryz.prog 102 #[exV x v5] w (LPost 9 w):=by
 obtain ⟨op,num,name,size,xs⟩:=x
 subst hv5
 simp only at *
 have hin:=in_any op 0 14
 have hb:(decide (0≤op) && decide (op≤14))=false:=by
  rw [Bool.and_eq_false_iff]
  rcases h with h | h
  ·exact .inl (decide_eq_false (by omega))
  ·exact .inr (decide_eq_false (by omega))
 rw [hb] at hin
 clear h hb
 unfold exV
 simp only
 go_enter Tryz.func102,Tryz.ntmps102
 go_wp2_with (first
  | (go_at_call 104;(with_reducible refine (hin _).mono ?_);rintro e wq ⟨rfl,hq⟩;subst wq)
  | (go_at_call 67;(with_reducible refine (fail_no _ _).mono ?_);rintro e wq ⟨rfl,hq⟩;subst wq)
  | (go_at_call 67;(with_reducible refine (fail_yes' _ _).mono ?_);rintro e wq ⟨rfl,hq⟩;subst wq))
 exact ⟨rfl,(Below.refl _ w).alloc (Nat.le_refl _) _,.inr ⟨by omega,rfl⟩⟩
set_option maxRecDepth 100000 in
set_option maxHeartbeats 1000000 in
theorem look_args (x:S31) (v5:Value) (w:World) (A:Option Addr) (c:Nat) (hv5:v5=.slice A x.f4.length c) (h0:0≤x.f0) (h1:x.f0≤14) (h:(x.f4.length:Int) < argLo x.f0∨argHi x.f0 < (x.f4.length:Int)):Calls Tryz.prog 102 #[exV x v5] w (LPost (if (x.f4.length:Int) < argLo x.f0 then 8 else 7) w):=by
 obtain ⟨op,num,name,size,xs⟩:=x
 subst hv5
 simp only at *
 have hin:=in_any op 0 14
 rw [decide_eq_true h0,decide_eq_true h1] at hin
 have hA:=arguments_calls op
 generalize argLo op=aL at *
 generalize argHi op=aH at *
 clear h0 h1
 unfold exV
 simp only
 by_cases hlt:(xs.length:Int) < aL
 ·rw [if_pos hlt]
  have l1:decide ((xs.length:Int) < aL)=true:=decide_eq_true hlt
  clear h hlt
  go_enter Tryz.func102,Tryz.ntmps102
  go_wp2_with (first
   | (go_at_call 104;(with_reducible refine (hin _).mono ?_);rintro e wq ⟨rfl,hq⟩;subst wq)
   | (go_at_call 67;(with_reducible refine (fail_no _ _).mono ?_);rintro e wq ⟨rfl,hq⟩;subst wq)
   | (go_at_call 67;(with_reducible refine (fail_yes' _ _).mono ?_);rintro e wq ⟨rfl,hq⟩;subst wq))
  refine (hA _).mono ?_
  rintro e w1 ⟨rfl,hb1⟩
  have hx1:=bcell hb1 (blk_new w (.cells #[.int .i64 op,.string num.f0,.string num.f1,.string name,.int .i64 size,.slice A xs.length c] 31))
  obtain ⟨⟨q0,q1,q2,q3,q4,q5⟩,_,xl⟩:=cells6 hx1
  have hbw:Below w.heap.size w w1:=((Below.refl _ w).alloc (Nat.le_refl _) _).trans (hb1.mono (by simp))
  have hbw':=hbw.alloc hbw.size (.cells #[.int .i64 aL,.int .i64 aH] 198)
  have HX:=Lib.hid hx1
  clear hx1
  go_wp2_with (first
  | (go_at_call 104;(with_reducible refine (hin _).mono ?_);rintro e wq ⟨rfl,hq⟩;subst wq)
  | (go_at_call 67;(with_reducible refine (fail_no _ _).mono ?_);rintro e wq ⟨rfl,hq⟩;subst wq)
  | (go_at_call 67;(with_reducible refine (fail_yes' _ _).mono ?_);rintro e wq ⟨rfl,hq⟩;subst wq))
  exact ⟨rfl,hbw',.inr ⟨by omega,rfl⟩⟩
 ·rw [if_neg hlt]
  have l1:decide ((xs.length:Int) < aL)=false:=decide_eq_false hlt
  have l2:decide (aH < (xs.length:Int))=true:=decide_eq_true (by omega)
  clear h hlt
  go_enter Tryz.func102,Tryz.ntmps102
  go_wp2_with (first
   | (go_at_call 104;(with_reducible refine (hin _).mono ?_);rintro e wq ⟨rfl,hq⟩;subst wq)
   | (go_at_call 67;(with_reducible refine (fail_no _ _).mono ?_);rintro e wq ⟨rfl,hq⟩;subst wq)
   | (go_at_call 67;(with_reducible refine (fail_yes' _ _).mono ?_);rintro e wq ⟨rfl,hq⟩;subst wq))
  refine (hA _).mono ?_
  rintro e w1 ⟨rfl,hb1⟩
  have hx1:=bcell hb1 (blk_new w (.cells #[.int .i64 op,.string num.f0,.string num.f1,.string name,.int .i64 size,.slice A xs.length c] 31))
  obtain ⟨⟨q0,q1,q2,q3,q4,q5⟩,_,xl⟩:=cells6 hx1
  have hbw:Below w.heap.size w w1:=((Below.refl _ w).alloc (Nat.le_refl _) _).trans (hb1.mono (by simp))
  have hbw':=hbw.alloc hbw.size (.cells #[.int .i64 aL,.int .i64 aH] 198)
  have HX:=Lib.hid hx1
  clear hx1
  go_wp2_with (first
  | (go_at_call 104;(with_reducible refine (hin _).mono ?_);rintro e wq ⟨rfl,hq⟩;subst wq)
  | (go_at_call 67;(with_reducible refine (fail_no _ _).mono ?_);rintro e wq ⟨rfl,hq⟩;subst wq)
  | (go_at_call 67;(with_reducible refine (fail_yes' _ _).mono ?_);rintro e wq ⟨rfl,hq⟩;subst wq))
  exact ⟨rfl,hbw',.inr ⟨by omega,rfl⟩⟩
end Go.Proofs.YtjaobihcdkjmbaaGreatDoor
end
section
namespace Go.Proofs.YtjaobihcdkjmbaaGreatDoor
open Go.RowKit Go.Maps Go.WideShapes Go.Proofs.YtjaobihcdkjmbaaGreatDoorW.PrintWords Go.Proofs.YtjaobihcdkjmbaaGreatDoor.PReadTokens
mutual
/-- An expression with another one in the place of a name;none if a name would be bound. -/
def replS (name:ByteArray) (y:S31) (T:DataW Unit):S31→Option S31
 | ⟨op,num,nm,size,l⟩=>if op=1∧nm=name then some y else (replL name y T op nm 0 l).map (fun l'=>⟨op,num,nm,size,l'⟩)
def replL (name:ByteArray) (y:S31) (T:DataW Unit) (op:Int) (nm:ByteArray):Nat→List S31→Option (List S31)
 | _,[]=>some []
 | i,a :: l =>
  match (if bindsAt op i=true∧nm=name then some a else if bindsAt op i=true∧has T (nmL nm)=true∧has (freeG a) (nmL name)=true then none else replS name y T a) with
  | none=>none
  | some b=>(replL name y T op nm (i+1) l).map (fun l'=>b :: l')
end
def replOne (name:ByteArray) (y:S31) (T:DataW Unit) (op:Int) (nm:ByteArray) (i:Nat) (a:S31):Option S31 :=
 if bindsAt op i=true∧nm=name then some a else if bindsAt op i=true∧has T (nmL nm)=true∧has (freeG a) (nmL name)=true then none else replS name y T a
theorem replS_eq (name:ByteArray) (y:S31) (T:DataW Unit) (x:S31):replS name y T x=if x.f0=1∧x.f2=name then some y else (replL name y T x.f0 x.f2 0 x.f4).map (fun l'=>⟨x.f0,x.f1,x.f2,x.f3,l'⟩):=by cases x;rw [replS]
theorem replL_none {name:ByteArray} {y:S31} {T:DataW Unit} {op:Int} {nm:ByteArray} {i:Nat} {a:S31} {l:List S31} (h:replOne name y T op nm i a=none):replL name y T op nm i (a :: l)=none:=by
 unfold replOne at h
 rw [replL,h]
theorem replL_some {name:ByteArray} {y:S31} {T:DataW Unit} {op:Int} {nm:ByteArray} {i:Nat} {a b:S31} {l:List S31} (h:replOne name y T op nm i a=some b):replL name y T op nm i (a :: l)=(replL name y T op nm (i+1) l).map (fun l'=>b :: l'):=by
 unfold replOne at h
 rw [replL,h]
theorem replL_nil (name:ByteArray) (y:S31) (T:DataW Unit) (op:Int) (nm:ByteArray) (i:Nat):replL name y T op nm i []=some []:=by rw [replL]
def Doing (full:Option (List S31)) (acc:List S31) (r:Option (List S31)):Prop:=full=r.map (fun l=>acc++l)
theorem doing_none {full r:Option (List S31)} {acc:List S31} (h:Doing full acc r) (h2:r=none):full=none:=by
 unfold Doing at h
 rw [h,h2];rfl
theorem doing_some {full r r2:Option (List S31)} {acc:List S31} {b:S31} (h:Doing full acc r) (h2:r=r2.map (fun l'=>b :: l')):Doing full (acc++[b]) r2:=by
 unfold Doing at h ⊢
 rw [h,h2]
 cases r2 <;> simp
theorem doing_end {full:Option (List S31)} {acc:List S31} (h:Doing full acc (some [])):full=some acc:=by
 unfold Doing at h
 rw [h];simp
def RepPost (r:Option S31) (w:World) (e:Ending) (w':World):Prop:=Below w.heap.size w w'∧((∃ z u,r=some z∧e=.returned u∧Ex w' (From w.heap.size) z u)∨(r=none∧e=wrongAt 159 15))
theorem fresh_row {W:World} {B n:Nat} {ok:Nat→Prop} {cur:Array Value} (hB:W.heap[B]?=some (.cells cur 31 (0,0))) (hc:cur.size=n * 6) (hn:n≤1000000000) (hok:ok B):k31.R 31 W 0 ok (.slice (some ⟨B,0,none⟩) 0 n) []:=by
 refine ⟨fun k hk=>?_,[],⟨rfl,.inr ⟨B,n,cur,rfl,Nat.zero_le _,hB,Nat.zero_le _,by unfold maxLen;omega,hc,by simp⟩⟩,Reps.none _ _⟩
 simp [Value.ownBlock] at hk
 rw [← hk];exact hok
theorem made_cap (n:Nat) (h:n≤1000000000) (W:World):(Instr.makeSlice 29 (.int .i64 0) (.int .i64 (n:Int))).run Tryz.prog W=.ok (.slice (some ⟨W.heap.size,0,none⟩) 0 n) (W.alloc (.cells (madeCells #[.int .i64 0,.string ⟨#[]⟩,.string ⟨#[]⟩,.string ⟨#[]⟩,.int .i64 0,.slice none 0 0] (n * 6)) 31)):=by
 obtain ⟨i0,hi,hzz⟩:=Option.map_eq_some_iff.1 info31
 simp only [Prod.mk.injEq] at hzz
 obtain ⟨hz0,hz1,hz2⟩:=hzz
 have hr:=run_make (P:=Tryz.prog) (w:=W) 29 31 i0 _ Tryz.underlying29 hi hz0 .i64 .i64 0 (n:Int) (by omega) (by omega) (by rw [hz2];omega) (by omega)
 rw [hr,hz1]
 rfl
structure RepAt (w:World) (bT nT:Nat) (T:DataW Unit) (xc yc:Obj) (acc:List S31) (vl:Value) (wr:World):Prop where
 row:k31.R 31 wr 0 (fun k=>w.heap.size+2 < k) vl acc
 x:wr.heap[w.heap.size]?=some xc
 y:wr.heap[w.heap.size+1]?=some yc
 z:wr.heap[w.heap.size+1+1]?=some (.cells #[.int .i64 0,.string ⟨#[]⟩,.string ⟨#[]⟩,.string ⟨#[]⟩,.int .i64 0,.slice none 0 0] 31 (0,0))
 map:MapAt wr bT nT T
 below:Below w.heap.size w wr
theorem RepAt.go {w:World} {bT nT:Nat} {T:DataW Unit} {xc yc:Obj} {acc:List S31} {vl:Value} {wr w1:World} (h:RepAt w bT nT T xc yc acc vl wr) (hb:Below wr.heap.size wr w1):RepAt w bT nT T xc yc acc vl w1 :=
 ⟨Kd.R_below h.row hb,bcell hb h.x,bcell hb h.y,bcell hb h.z,h.map.kept (row:=none) ⟨hb.os,hb.tape,hb.output,hb.size,fun k hk _=>hb.block k hk⟩ (by simp),h.below.trans (hb.mono h.below.size)⟩
theorem RepAt.more {w:World} {bT nT:Nat} {T:DataW Unit} {xc yc:Obj} {acc:List S31} {vl:Value} {wr w1 w4:World} (h:RepAt w bT nT T xc yc acc vl wr) (hbT:bT < w.heap.size) (hb:Below wr.heap.size wr w1) (hw1:wr.heap.size < w1.heap.size)
  {b:S31} {v5 v1:Value} (hx:Ex w1 (From (wr.heap.size+1)) b (exV b v5)) {inner:List Value} {W5:World} (hW5:W5=set6 w1 wr.heap.size (.int .i64 b.f0) (.string b.f1.f0) (.string b.f1.f1) (.string b.f2) (.int .i64 b.f3) v5)
  (hr:Reps (k31.M W5 0 (fun k=>w.heap.size+2 < k∧some k≠vl.ownBlock)) 6 acc inner) (hown:w4.ownsRow 0 31 6 v1 (acc.length+1) (inner++[.int .i64 b.f0,.string b.f1.f0,.string b.f1.f1,.string b.f2,.int .i64 b.f3,v5]))
  (hg:W5.grownBy w4 vl.ownBlock) (hat:v1.ownBlock=vl.ownBlock∨∃ b,v1.ownBlock=some b∧W5.heap.size≤b):RepAt w bT nT T xc yc (acc++[b]) v1 w4:=by
 have hvo:∀ k,vl.ownBlock=some k→w.heap.size+2 < k∧k < wr.heap.size:=fun k hk=>by
  have:=(Kd.R_bound h.row).1 k hk
  exact ⟨this.1,this.2.2.1⟩
 have hg5:w1.grownBy W5 (some wr.heap.size):=by rw [hW5];exact grown6 _ _ _ _ _ _ _
 have h1:=h.go hb
 have hsz:=hg5.size
 have hxl:=blk_lt h.x
 have hyl:=blk_lt h.y
 have hzl:=blk_lt h.z
 have hx1:=blk_lt h1.x
 have hy1:=blk_lt h1.y
 have hz1:=blk_lt h1.z
 have hm1:=h1.map.lt
 have old:∀ k,k≤w.heap.size+2→k < w1.heap.size→w4.heap[k]?=w1.heap[k]?:=fun k hk hk1 =>
  (hg.block k (by omega) (fun e=>by have:=hvo k e.symm;omega)).trans (hg5.block k hk1 (fun e=>by injection e with e;omega))
 obtain ⟨u,A,m,c,he,_,_,hM⟩:=hx.cells
 obtain rfl:=exV_inj he
 have hM5:k31.M W5 0 (From (wr.heap.size+1)) b [.int .i64 b.f0,.string b.f1.f0,.string b.f1.f1,.string b.f2,.int .i64 b.f3,_]:=Kd.M_grown hM hg5 (fun k hk e=>by injection e with e;simp only [From] at hk;omega)
 refine ⟨?_,(old _ (by omega) hx1).trans h1.x,(old _ (by omega) hy1).trans h1.y,(old _ (by omega) hz1).trans h1.z,?_,?_⟩
 ·refine Kd.R_appended (W:=W5) (okp:=From (wr.heap.size+1)) (fun k hk=>(hvo k hk).1) hr hM5 (fun k hk=>⟨?_,fun e=>?_⟩) (fun k hk=>?_) hown hg hat
  ·simp only [From] at hk;omega
  ·have:=hvo k e.symm;simp only [From] at hk;omega
  ·omega
 ·have e1:=h1.map.kept hg5 (by intro e;injection e with e;have:=h1.below;omega)
  exact e1.kept hg (fun e=>by have:=hvo bT e.symm;omega)
 ·exact (h1.below.grown hg5 h1.below.size (fun k e=>by injection e with e;omega)).grown hg (by have:=h1.below.size;omega) (fun k e=>by have:=hvo k e;omega)
set_option maxRecDepth 100000 in
set_option maxHeartbeats 4000000 in
theorem replaced_hit (name:ByteArray) (hname:name.size≤4611686018427387904) (y:S31) (hny:nodesX y≤1000000000) (T:DataW Unit) (hT:SetD T) (bT nT:Nat) (x:S31) (hn:nodesX x≤1000000000) (hsm:smallB x=true)
  (hrec:∀ (j:Nat) (hj:j < x.f4.length) v vy w',Vw w' x.f4[j] v→Vw w' y vy→MapAt w' bT nT T→Calls Tryz.prog 72 #[v,.string name,vy,.map (some bT)] w' (RepPost (replS name y T x.f4[j]) w')) (hhit:x.f0=1∧x.f2=name) (v vy:Value) (w:World) (hv:Vw w x v) (hvy:Vw w y vy) (hm:MapAt w bT nT T) :
  Calls Tryz.prog 72 #[v,.string name,vy,.map (some bT)] w (RepPost (replS name y T x) w):=by
  obtain ⟨A,c,rfl,hc1,hc2⟩:=hv.out
  obtain ⟨Ay,cy,rfl,hcy1,hcy2⟩:=hvy.out
  rw [smallB_eq,Bool.and_eq_true,decide_eq_true_eq] at hsm
  rw [nodesX_eq] at hn
  have hbT:=hm.lt
  have hkept:∀ (j:Nat) (hj:j < x.f4.length) v w',Vw w' x.f4[j] v→Calls Tryz.prog 108 #[v] w' fun e w''=>∃ u,e=.returned u∧Ex w'' (From w'.heap.size) x.f4[j] u∧Below w'.heap.size w' w'':=by
   intro j hj v w' h1
   have d2:=nodesX_mem (List.getElem_mem hj)
   exact kept_calls _ _ (Nat.le_refl _) (by omega) v w' h1
  have hfree:∀ (j:Nat) (hj:j < x.f4.length) v w',Vw w' x.f4[j] v→Calls Tryz.prog 73 #[v] w' fun e w''=>∃ b,e=.returned (.map (some b))∧w'.heap.size≤b∧MapAt w'' b (nodesX x.f4[j]) (freeG x.f4[j])∧Below w'.heap.size w' w'':=by
   intro j hj v w' h1
   have d2:=nodesX_mem (List.getElem_mem hj)
   exact freeG_calls _ _ (Nat.le_refl _) (by omega) (smallL_mem hsm.2 (List.getElem_mem hj)) v w' h1
  have hfset:∀ (j:Nat) (hj:j < x.f4.length),SetD (freeG x.f4[j]):=fun j hj=>freeG_set _ _ (Nat.le_refl _) (smallL_mem hsm.2 (List.getElem_mem hj))
  have hky:=fun v w' h=>kept_calls _ y (Nat.le_refl _) hny v w' h
  have hbn:=fun w'=>binds_calls x A x.f4.length c w'
  have hlen:=length_nodesL x.f4
  rw [replS_eq]
  obtain ⟨f0,f1,f2,f3,xs⟩:=x
  obtain ⟨g0,g1,g2,g3,ys⟩:=y
  simp only at *
  clear hv
  unfold exV at *
  simp only at *
  have hmk:=made_cap xs.length (by omega)
  have HR:=Lib.hid hrec
  have HK:=Lib.hid hkept
  have HF:=Lib.hid hfree
  have HFS:=Lib.hid hfset
  have HKY:=Lib.hid hky
  have HBN:=Lib.hid hbn
  have HC:=Lib.hid hc2
  have HVY:=Lib.hid hvy
  have HM:=Lib.hid hm
  have HSM:=Lib.hid hsm
  clear hrec hkept hfree hfset hky hbn hc2 hvy hm hsm
  have hX:∃ X,X=((w.alloc (.cells #[.int .i64 f0,.string f1.f0,.string f1.f1,.string f2,.int .i64 f3,.slice A xs.length c] 31)).alloc (.cells #[.int .i64 g0,.string g1.f0,.string g1.f1,.string g2,.int .i64 g3,.slice Ay ys.length cy] 31)).alloc (.cells #[.int .i64 0,.string ⟨#[]⟩,.string ⟨#[]⟩,.string ⟨#[]⟩,.int .i64 0,.slice none 0 0] 31):=⟨_,rfl⟩
  obtain ⟨X,hX⟩:=hX
  have hz:X.heap.size=w.heap.size+1+1+1:=by rw [hX];simp
  have hbX:Below w.heap.size w X:=by rw [hX];exact (((Below.refl _ w).alloc (Nat.le_refl _) _).alloc (by simp) _).alloc (by simp;omega) _
  have h0:X.heap[w.heap.size]?=some (.cells #[.int .i64 f0,.string f1.f0,.string f1.f1,.string f2,.int .i64 f3,.slice A xs.length c] 31 (0,0)):=by rw [hX];exact (Below.heap_alloc _ _ _ (by simp;omega)).trans ((Below.heap_alloc _ _ _ (by simp)).trans (blk_new w _))
  have h1:X.heap[w.heap.size+1]?=some (.cells #[.int .i64 g0,.string g1.f0,.string g1.f1,.string g2,.int .i64 g3,.slice Ay ys.length cy] 31 (0,0)):=by rw [hX];exact (Below.heap_alloc _ _ _ (by simp)).trans (alloc_at _ _ _ (by simp))
  have h2:X.heap[w.heap.size+1+1]?=some (.cells #[.int .i64 0,.string ⟨#[]⟩,.string ⟨#[]⟩,.string ⟨#[]⟩,.int .i64 0,.slice none 0 0] 31 (0,0)):=by rw [hX];exact alloc_at _ _ _ (by simp)
  ·rw [if_pos hhit]
   obtain ⟨hh1,hh2⟩:=hhit
   have e1:(f0 == 1)=true:=by rw [hh1];rfl
   have e2:(f2 == name)=true:=by rw [beq_toListBytes,hh2];simp
   have e3:(f2.toList == name.toList)=true:=by rw [hh2];simp
   obtain ⟨⟨p0,p1,p2,p3,p4,p5⟩,_,pl⟩:=cells6 h0
   obtain ⟨⟨s0,s1,s2,s3,s4,s5⟩,_,sl⟩:=cells6 h1
   clear hh1 hh2 hmk
   go_enter Tryz.func72,Tryz.ntmps72
   go_wp2_with fail
   rw [← hX]
   go_wp2_with fail
   refine (HKY.out _ _ (HVY.out.below hbX)).mono ?_
   rintro e w1 ⟨u,rfl,hu,hb1⟩
   obtain ⟨v5,A6,n6,c6,rfl,rfl,_,hM⟩:=hu.cells
   have hq:=bcell hb1 h2
   obtain ⟨⟨t0,t1,t2,t3,t4,t5⟩,⟨b0,b1,b2,b3,b4,b5⟩,tl⟩:=cells6 hq
   have hfin:=fin6 (.int .i64 g0) (.string g1.f0) (.string g1.f1) (.string g2) (.int .i64 g3) (.slice A6 n6 c6) hq
   have hbf:=below6 (hbX.trans (hb1.mono hbX.size)) (show w.heap.size≤w.heap.size+1+1 by omega) (.int .i64 g0) (.string g1.f0) (.string g1.f1) (.string g2) (.int .i64 g3) (.slice A6 n6 c6)
   have hux:=(hu.set6 (R:=w.heap.size+1+1) (fun k hk=>by simp only [From] at hk;omega) (.int .i64 g0) (.string g1.f0) (.string g1.f1) (.string g2) (.int .i64 g3) (.slice A6 n6 c6)).mono (S':=From w.heap.size) (fun k hk=>by simp only [From] at hk ⊢;omega)
   have HFI:=Lib.hid hfin
   have HBF:=Lib.hid hbf
   have HUX:=Lib.hid hux
   clear hfin hbf hux hu hM hq
   unfold exV
   go_wp2
   exact bodyPost_ret (results_c Tryz.results72 _ _ (w.heap.size+1+1) 31 _ (0,0) _ rfl HFI.out Tryz.underlying31 rfl size31) rfl ⟨HBF.out,.inl ⟨_,_,rfl,rfl,HUX.out⟩⟩
end Go.Proofs.YtjaobihcdkjmbaaGreatDoor
end
