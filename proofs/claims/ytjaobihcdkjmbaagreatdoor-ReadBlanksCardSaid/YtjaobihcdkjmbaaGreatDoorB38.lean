/- The law ReadBlanks answers true for every argument; a part of its proof. -/
import Derived.Test.YtjaobihcdkjmbaaGreatDoorBa
import Derived.Test.YtjaobihcdkjmbaaGreatDoorBb
import Derived.Test.YtjaobihcdkjmbaaGreatDoorB0
import Derived.Test.YtjaobihcdkjmbaaGreatDoorB7
import Derived.Test.YtjaobihcdkjmbaaGreatDoorB19
import Derived.Test.YtjaobihcdkjmbaaGreatDoorB23
import Derived.Test.YtjaobihcdkjmbaaGreatDoorB25
import Derived.Test.YtjaobihcdkjmbaaGreatDoorB26
import Derived.Test.YtjaobihcdkjmbaaGreatDoorB30
import Derived.Test.YtjaobihcdkjmbaaGreatDoorB32
import Derived.Test.YtjaobihcdkjmbaaGreatDoorB37
set_option linter.unusedVariables false
set_option linter.unusedSimpArgs false
namespace Go.Proofs.YtjaobihcdkjmbaaGreatDoor.PReadTokens
end Go.Proofs.YtjaobihcdkjmbaaGreatDoor.PReadTokens
namespace Go.Proofs.YtjaobihcdkjmbaaGreatDoorW.PrintWords
end Go.Proofs.YtjaobihcdkjmbaaGreatDoorW.PrintWords
set_option maxRecDepth 100000
set_option maxHeartbeats 4000000
section
namespace Go.Proofs.YtjaobihcdkjmbaaGreatDoor
open Go.RowKit Go.Proofs.YtjaobihcdkjmbaaGreatDoorW.PrintWords Go.Proofs.YtjaobihcdkjmbaaGreatDoor.PReadTokens
def txt1 (x:S31):Bool :=
 decide ((zDA x).size≤1000000)&&((decide (x.f0=1)&&decide (x.f4.length=0))||(decide (x.f0=2)&&decide (x.f4.length=1))||((decide (x.f0=3)||decide (x.f0=4)||decide (x.f0=5)||decide (x.f0=6))&&decide (x.f4.length=2)) ||
  (decide (x.f0=7)&&decide (x.f4.length=1)&&decide (-9≤x.f3)&&decide (x.f3≤9)))
mutual
def txtB:S31→Bool
 | ⟨a,b,c,d,l⟩=>txt1 ⟨a,b,c,d,l⟩&&txtL l
def txtL:List S31→Bool
 | []=>true
 | x :: l=>txtB x&&txtL l
end
theorem txtB_eq (x:S31):txtB x=(txt1 x&&txtL x.f4):=by cases x;rfl
theorem len0 {l:List S31} (h:l.length=0):l=[]:=kBK h
theorem len1 {l:List S31} (h:l.length=1):∃y,l=[y]:=List.length_eq_one_iff.1 h
theorem len2 {l:List S31} (h:l.length=2):∃y z,l=[y,z]:=by
 match l,h with
 | [y,z],_=>exact⟨y,z,rfl⟩
theorem text_calls:∀(n:Nat) (x:S31),zAC x≤n→txtB x=true→∀(least:Int) (v:Value) (w:World),Vw w x v→Tab w →
  Calls Tryz.prog 58 #[v,.int .i64 least] w fun e w'=>e=.returned (.string (zAy x least))∧Below w.heap.size w w':=by
 intro n
 induction n with
 | zero=>intro x h;rw[zAr] at h;omega
 | succ n ih =>
  intro x hd hx least v w hv hT;rw[txtB_eq,kAj] at hx;obtain⟨h1,h2⟩:=hx;unfold txt1 at h1;simp only[kAj,kCt,kAN] at h1;obtain⟨hsz,hk⟩:=h1;rw[zAr] at hd;have hrec:∀y,y∈x.f4→txtB y=true→∀v w' ls,Vw w' y v→Below w.heap.size w w'→Calls Tryz.prog 58 #[v,.int .i64 ls] w' fun e w''=>e=.returned (.string (zAy y ls))∧Below w'.heap.size w' w'':=by
   intro y hy hty v w' ls hv' hb;have:=zB7 hy;exact ih y kCT hty ls v w' hv' (hT.below hb)
  rcases hk with ((⟨ho,hl⟩ | ⟨ho,hl⟩) | ⟨ho,hl⟩) | ⟨⟨⟨ho,hl⟩,hs0⟩,hs1⟩
  ·exact text_ref x ho (len0 hl) least v w hv hsz
  ·obtain⟨y,hy⟩:=len1 hl;rw[hy] at h2 hrec;simp only[txtL,kAj] at h2;exact text_ahead x y ho hy least v w hv hsz (hrec y kCV h2.1)
  ·obtain⟨y,z,hy⟩:=len2 hl;rw[hy] at h2 hrec;simp only[txtL,kAj] at h2;rcases ho with ((ho | ho) | ho) | ho
   ·exact text_op3 x y z ho hy least v w hv hsz (hrec y kCV h2.1) (hrec z kCV h2.2.1)
   ·exact text_op4 x y z ho hy least v w hv hsz (hrec y kCV h2.1) (hrec z kCV h2.2.1)
   ·exact text_op5 x y z ho hy least v w hv hsz (hrec y kCV h2.1) (hrec z kCV h2.2.1)
   ·exact text_op6 x y z ho hy least v w hv hsz (hrec y kCV h2.1) (hrec z kCV h2.2.1)
  ·obtain⟨y,hy⟩:=len1 hl;rw[hy] at h2 hrec;simp only[txtL,kAj] at h2;exact text_pow x y ho hy kCT kCT least v w hv hsz hT (hrec y kCV h2.1)
theorem open_ref (num:S28) (name:ByteArray) (size:Int) (v:Value) (w:World) (hv:Vw w ⟨1,num,name,size,[]⟩ v) :
  Calls Tryz.prog 46 #[v] w fun e w'=>e=.returned (.string name)∧Below w.heap.size w w':=by
 obtain⟨A,c,rfl,hc1,hc2⟩:=hv.out;unfold exV at hv⊢;simp only at hv⊢;clear hv hc2;go_enter Tryz.func46,Tryz.ntmps46;go_wp2;go_ret;exact⟨rfl,(kA3 _ w).alloc (kA2 _) _⟩
theorem open_lit (num:S28) (name:ByteArray) (size:Int) (v:Value) (w:World) (hv:Vw w ⟨0,num,name,size,[]⟩ v) (h1:num.f0.size≤1000000) (h2:num.f1.size≤1000000) (h3:name.size≤1000000) :
  Calls Tryz.prog 46 #[v] w fun e w'=>e=.returned (.string (litR num name))∧Below w.heap.size w w':=by
 obtain⟨A,c,rfl,hc1,hc2⟩:=hv.out;unfold exV at hv⊢;simp only at hv⊢;clear hv hc2;have HL:Hid (∀a b,(num.f1.toList == [49])=a→(name.toList == [])=b→litR num name=(if b then (if a then num.f0 else num.f0++⟨#[124]⟩++num.f1) else (if a then num.f0 else num.f0++⟨#[124]⟩++num.f1)++⟨#[123]⟩++name++⟨#[125]⟩)):=kA1 (fun a b ha hb=>by unfold litR litN;rw[ha,hb]);generalize litR num name=r at *;have a0:∀w,(Op.stringOp .add num.f0 ⟨#[124]⟩).run Tryz.prog w=.ok (.string (num.f0++⟨#[124]⟩)) w:=fun w=>kAk w _ _ kDH
 have a1:∀w,(Op.stringOp .add (num.f0++⟨#[124]⟩) num.f1).run Tryz.prog w=.ok (.string (num.f0++⟨#[124]⟩++num.f1)) w:=fun w=>kAk w _ _ kD1
 have hadd:∀(n:ByteArray) (w:World),n.size≤2000001→(Op.stringOp .add n ⟨#[123]⟩).run Tryz.prog w=.ok (.string (n++⟨#[123]⟩)) w∧(Op.stringOp .add (n++⟨#[123]⟩) name).run Tryz.prog w=.ok (.string (n++⟨#[123]⟩++name)) w ∧
   (Op.stringOp .add (n++⟨#[123]⟩++name) ⟨#[125]⟩).run Tryz.prog w=.ok (.string (n++⟨#[123]⟩++name++⟨#[125]⟩)) w:=fun n w hn=>by
  refine⟨kAk w _ _ ?_,kAk w _ _ ?_,kAk w _ _ ?_⟩<;>simp only[kAb,ByteArray.size_mk',kAc,List.length_cons,List.length_nil]<;>omega
 have HA:=kA1 hadd;clear hadd;have BW:=(kA3 _ w).alloc (kA2 _) (.cells #[.int .i64 0,.string num.f0,.string num.f1,.string name,.int .i64 size,.slice A 0 c] 31)
 cases ha:(num.f1.toList == [49]) with
 | true =>
  cases hb:(name.toList == []) with
  | true =>
   obtain rfl:=HL.out _ _ ha hb;go_enter Tryz.func46,Tryz.ntmps46;go_wp2;go_ret;exact⟨rfl,BW⟩
  | false =>
   have hr:=HL.out _ _ ha hb;simp only[if_true,kBY,if_false] at hr;have hb2:name.toList.isEmpty=false:=by rw[← hb];cases name.toList<;>rfl
   have b0:=fun w=>(HA.out num.f0 w kCT).1
   have b1:=fun w=>(HA.out num.f0 w kCT).2.1
   have b2:=fun w=>(HA.out num.f0 w kCT).2.2
   have HR:=kA1 hr;clear hr a0 a1;go_enter Tryz.func46,Tryz.ntmps46;go_wp2;go_ret;exact⟨by rw[HR.out];rfl,BW⟩
 | false =>
  cases hb:(name.toList == []) with
  | true =>
   have hr:=HL.out _ _ ha hb;simp only[if_true,kBY,if_false] at hr;have HR:=kA1 hr;clear hr;go_enter Tryz.func46,Tryz.ntmps46;go_wp2;go_ret;exact⟨by rw[HR.out];rfl,BW⟩
  | false =>
   have hr:=HL.out _ _ ha hb;simp only[if_true,kBY,if_false] at hr;have hb2:name.toList.isEmpty=false:=by rw[← hb];cases name.toList<;>rfl
   have hsz:(num.f0++⟨#[124]⟩++num.f1).size≤2000001:=kD1
   have b0:=fun w=>(HA.out _ w hsz).1
   have b1:=fun w=>(HA.out _ w hsz).2.1
   have b2:=fun w=>(HA.out _ w hsz).2.2
   have HR:=kA1 hr;clear hr hsz;go_enter Tryz.func46,Tryz.ntmps46;go_wp2;go_ret;exact⟨by rw[HR.out];rfl,BW⟩
theorem open_list (num:S28) (name:ByteArray) (size:Int) (l:List S31) (v:Value) (w:World) (hv:Vw w ⟨8,num,name,size,l⟩ v) (hs:(zBz (l.map fun y=>zAi y 0)).size≤1000000)
  (hr:∀A c w,k31.C w A l.length l→Calls Tryz.prog 85 #[.slice A l.length c] w fun e w'=>e=.returned (.string (zBz (l.map fun y=>zAi y 0)))∧Below w.heap.size w w') :
  Calls Tryz.prog 46 #[v] w fun e w'=>e=.returned (.string (⟨#[91]⟩++zBz (l.map fun y=>zAi y 0)++⟨#[93]⟩))∧Below w.heap.size w w':=by
 obtain⟨A,c,rfl,hc1,hc2⟩:=hv.out;unfold exV at hv⊢;simp only at hv hc2 ⊢;have BW:=(kA3 _ w).alloc (kA2 _) (.cells #[.int .i64 8,.string num.f0,.string num.f1,.string name,.int .i64 size,.slice A l.length c] 31);have HR:=kA1 (hr A c _ (Kd.C_below hc2 BW));clear hv hc2 hr;generalize zBz (l.map fun y=>zAi y 0)=t at *;have a0:∀w,(Op.stringOp .add ⟨#[91]⟩ t).run Tryz.prog w=.ok (.string (⟨#[91]⟩++t)) w:=fun w=>kAk w _ _ kDH
 have a1:∀w,(Op.stringOp .add (⟨#[91]⟩++t) ⟨#[93]⟩).run Tryz.prog w=.ok (.string (⟨#[91]⟩++t++⟨#[93]⟩)) w:=fun w=>kAk w _ _ kD1
 go_enter Tryz.func46,Tryz.ntmps46;go_wp2_with fail;refine HR.out.mono ?_;rintro e w1 ⟨rfl,hb1⟩;go_wp2;go_ret;exact⟨rfl,BW.trans (hb1.mono BW.size)⟩
theorem open_call (num:S28) (name:ByteArray) (size:Int) (l:List S31) (v:Value) (w:World) (hv:Vw w ⟨14,num,name,size,l⟩ v) (hs:(zBz (l.map fun y=>zAi y 0)).size≤1000000) (hn:name.size≤1000000)
  (hr:∀A c w,k31.C w A l.length l→Calls Tryz.prog 85 #[.slice A l.length c] w fun e w'=>e=.returned (.string (zBz (l.map fun y=>zAi y 0)))∧Below w.heap.size w w') :
  Calls Tryz.prog 46 #[v] w fun e w'=>e=.returned (.string (name++⟨#[40]⟩++zBz (l.map fun y=>zAi y 0)++⟨#[41]⟩))∧Below w.heap.size w w':=by
 obtain⟨A,c,rfl,hc1,hc2⟩:=hv.out;unfold exV at hv⊢;simp only at hv hc2 ⊢;have BW:=(kA3 _ w).alloc (kA2 _) (.cells #[.int .i64 14,.string num.f0,.string num.f1,.string name,.int .i64 size,.slice A l.length c] 31);have hbl:=zA4 w (.cells #[.int .i64 14,.string num.f0,.string num.f1,.string name,.int .i64 size,.slice A l.length c] 31);obtain⟨⟨p0,p1,p2,p3,p4,p5⟩,_,xl⟩:=zA6 hbl;have HR:=kA1 (fun w h=>hr A c w h);have HC:=kA1 hc2;clear hv hc2 hr;generalize zBz (l.map fun y=>zAi y 0)=t at *;have a0:∀w,(Op.stringOp .add name ⟨#[40]⟩).run Tryz.prog w=.ok (.string (name++⟨#[40]⟩)) w:=fun w=>kAk w _ _ kDH
 have a1:∀w,(Op.stringOp .add (name++⟨#[40]⟩) t).run Tryz.prog w=.ok (.string (name++⟨#[40]⟩++t)) w:=fun w=>kAk w _ _ kD1
 have a2:∀w,(Op.stringOp .add (name++⟨#[40]⟩++t) ⟨#[41]⟩).run Tryz.prog w=.ok (.string (name++⟨#[40]⟩++t++⟨#[41]⟩)) w:=fun w=>kAk w _ _ kD1
 go_enter Tryz.func46,Tryz.ntmps46;go_wp2_with fail;generalize hX:w.alloc (.cells #[.int .i64 14,.string num.f0,.string num.f1,.string name,.int .i64 size,.slice A l.length c] 31)=X at *;have BW:=BW.drew;have K:X.drew.cell? ⟨w.heap.size,3,none⟩=some (.string name)∧X.drew.cell? ⟨w.heap.size,5,none⟩=some (.slice A l.length c):=⟨p3,p5⟩;have C:=Kd.C_below HC.out BW;clear hbl p0 p1 p2 p3 p4 p5 xl
 go_region_held3 (fun w':World=>w'.cell? ⟨w.heap.size,3,none⟩=some (.string name)∧w'.cell? ⟨w.heap.size,5,none⟩=some (.slice A l.length c)) (first | exact K) (first
  | (go_at_call 85;refine (HR.out _ C).mono ?_;rintro e wq ⟨rfl,hq⟩;have K:=(⟨zA0 hq K.1,zA0 hq K.2⟩:wq.cell? ⟨w.heap.size,3,none⟩=some (.string name)∧wq.cell? ⟨w.heap.size,5,none⟩=some (.slice A l.length c));have BW:=BW.trans (hq.mono BW.size)))
 all_goals
  go_wp2;go_ret;exact⟨rfl,BW⟩
def refKind (op size:Int) (k:Nat):Prop :=
 ((op=0∨op=1)∧k=0)∨(op=2∧k=1)∨((op=3∨op=4∨op=5∨op=6∨op=9∨op=13)∧k=2)∨((op=7∨op=10∨op=11)∧k=1∧-9≤size∧size≤99)∨(op=12∧k=4)∨(op=8∨op=14)
inductive RefOk:S31→Prop
 | mk (op:Int) (num:S28) (name:ByteArray) (size:Int) (l:List S31) (hk:refKind op size l.length) (h0:num.f0.size≤1000000) (h1:num.f1.size≤1000000) (h2:name.size≤1000000) (h3:l.length≤1000000)
   (hj:∀j,j≤l.length→(zBz ((l.take j).map fun y=>zAi y 0)).size≤1000000) (hs:∀y∈l,(zBl y).size≤999000) (hl:∀y∈l,RefOk y):RefOk ⟨op,num,name,size,l⟩
theorem open_all (x:S31) (h:RefOk x):∀v w,Vw w x v→Calls Tryz.prog 46 #[v] w fun e w'=>e=.returned (.string (zBl x))∧Below w.heap.size w w':=by
 induction h with
 | mk op num name size l hk h0 h1 h2 h3 hj hs hl ih =>
  intro v w hv;have ht:∀y∈l,∀want v w,Vw w y v→Calls Tryz.prog 83 #[v,.int .i64 want] w fun e w'=>e=.returned (.string (zAi y want))∧Below w.heap.size w w' :=
   fun y hy want v w hv=>rtext_of y (by have:=hs y hy;omega) (ih y hy) want v w hv
  have hts:∀y∈l,∀want,(zAi y want).size≤1000000:=fun y hy want=>by have:=hs y hy;have:=zEI y want;omega
  have hjf:(zBz (l.map fun y=>zAi y 0)).size≤1000000:=by have:=hj l.length (kA2 _);rwa [kB1] at this
  have htx:∀A c w,k31.C w A l.length l→Calls Tryz.prog 85 #[.slice A l.length c] w fun e w'=>e=.returned (.string (zBz (l.map fun y=>zAi y 0)))∧Below w.heap.size w w' :=
   fun A c w hc=>rtexts_of l h3 hj (fun j h=>hts _ (kAA h) 0) (fun j h v w hv=>ht _ (kAA h) 0 v w hv) A c w hc
  rcases hk with⟨rfl | rfl,hk⟩ | ⟨rfl,hk⟩ | ⟨rfl | rfl | rfl | rfl | rfl | rfl,hk⟩ | ⟨rfl | rfl | rfl,hk,hz0,hz1⟩ | ⟨rfl,hk⟩ | (rfl | rfl)
  ·match l,hk with
   | [],_=>exact open_lit num name size v w hv h0 h1 h2
  ·match l,hk with
   | [],_=>exact open_ref num name size v w hv
  ·match l,hk with
   | [a],_=>exact open_op2 num name size a v w hv h2 (fun v w=>ht a kCV _ v w) (hts a kCV _)
  ·match l,hk with
   | [a,b],_=>exact open_op3 num name size a b v w hv h2 (fun v w=>ht a kCV _ v w) (hts a kCV _) (fun v w=>ht b kCV _ v w) (hts b kCV _)
  ·match l,hk with
   | [a,b],_=>exact open_op4 num name size a b v w hv h2 (fun v w=>ht a kCV _ v w) (hts a kCV _) (fun v w=>ht b kCV _ v w) (hts b kCV _)
  ·match l,hk with
   | [a,b],_=>exact open_op5 num name size a b v w hv h2 (fun v w=>ht a kCV _ v w) (hts a kCV _) (fun v w=>ht b kCV _ v w) (hts b kCV _)
  ·match l,hk with
   | [a,b],_=>exact open_op6 num name size a b v w hv h2 (fun v w=>ht a kCV _ v w) (hts a kCV _) (fun v w=>ht b kCV _ v w) (hts b kCV _)
  ·match l,hk with
   | [a,b],_=>exact open_op9 num name size a b v w hv h2 (fun v w=>ht a kCV _ v w) (hts a kCV _) (fun v w=>ht b kCV _ v w) (hts b kCV _)
  ·match l,hk with
   | [a,b],_=>exact open_op13 num name size a b v w hv h2 (fun v w=>ht a kCV _ v w) (hts a kCV _) (fun v w=>ht b kCV _ v w) (hts b kCV _)
  ·match l,hk with
   | [a],_=>exact open_op7 num name size a v w hv h2 hz0 hz1 (fun v w=>ht a kCV _ v w) (hts a kCV _)
  ·match l,hk with
   | [a],_=>exact open_op10 num name size a v w hv h2 hz0 hz1 (fun v w=>ht a kCV _ v w) (hts a kCV _)
  ·match l,hk with
   | [a],_=>exact open_op11 num name size a v w hv h2 hz0 hz1 (fun v w=>ht a kCV _ v w) (hts a kCV _)
  ·match l,hk with
   | [a,b,c,d],_=>exact open_op12 num name size a b c d v w hv h2 (fun v w=>ht a kCV _ v w) (hts a kCV _) (fun v w=>ht b kCV _ v w) (hts b kCV _) (fun v w=>ht c kCV _ v w) (hts c kCV _) (fun v w=>ht d kCV _ v w) (hts d kCV _)
  ·have e:zBl ⟨8,num,name,size,l⟩=⟨#[91]⟩++zBz (l.map fun y=>zAi y 0)++⟨#[93]⟩:=by
    rw[← zDf];rfl
   rw[e];exact open_list num name size l v w hv hjf htx
  ·have e:zBl ⟨14,num,name,size,l⟩=name++⟨#[40]⟩++zBz (l.map fun y=>zAi y 0)++⟨#[41]⟩:=by
    rw[← zDf];rfl
   rw[e];exact open_call num name size l v w hv hjf h2 htx
theorem ExprText_calls (x:S31) (h:RefOk x) (v:Value) (w:World) (hv:Vw w x v):Calls Tryz.prog 12 #[v] w fun e w'=>e=.returned (.string (zBl x))∧Below w.heap.size w w':=by
 obtain⟨A,c,rfl,hc1,hc2⟩:=hv.out;have HO:=kA1 (open_all x h);have HV:=kA1 hv;have BW:=(kA3 _ w).alloc (kA2 _) (.cells #[.int .i64 x.f0,.string x.f1.f0,.string x.f1.f1,.string x.f2,.int .i64 x.f3,.slice A x.f4.length c] 31);generalize zBl x=r at *;unfold exV at *;clear h hv hc2;go_enter Tryz.func12,Tryz.ntmps12;go_wp2_with fail;refine (HO.out _ _ (HV.out.below BW)).mono ?_;rintro e w1 ⟨rfl,hb1⟩;go_wp2;go_ret;exact⟨rfl,BW.trans (hb1.mono BW.size)⟩
end Go.Proofs.YtjaobihcdkjmbaaGreatDoor
end
