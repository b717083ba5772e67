/- What can be read as an expression is printed as a text that reads as the same, and is printed as itself: for every argument; a part of its proof. -/
import Derived.Test.YtjaobihcdkjmbaaGreatDoorDa
import Derived.Test.YtjaobihcdkjmbaaGreatDoorDb
import Derived.Test.YtjaobihcdkjmbaaGreatDoorD0
import Derived.Test.YtjaobihcdkjmbaaGreatDoorD7
import Derived.Test.YtjaobihcdkjmbaaGreatDoorD9
import Derived.Test.YtjaobihcdkjmbaaGreatDoorD10
import Derived.Test.YtjaobihcdkjmbaaGreatDoorD11
import Derived.Test.YtjaobihcdkjmbaaGreatDoorD13
import Derived.Test.YtjaobihcdkjmbaaGreatDoorD16
import Derived.Test.YtjaobihcdkjmbaaGreatDoorD17
import Derived.Test.YtjaobihcdkjmbaaGreatDoorD20
import Derived.Test.YtjaobihcdkjmbaaGreatDoorD23
import Derived.Test.YtjaobihcdkjmbaaGreatDoorD25
import Derived.Test.YtjaobihcdkjmbaaGreatDoorD29
import Derived.Test.YtjaobihcdkjmbaaGreatDoorD31
set_option linter.unusedVariables false
set_option linter.unusedSimpArgs false
namespace Go.Proofs.YtjaobihcdkjmbaaGreatDoor.PReadTokens
end Go.Proofs.YtjaobihcdkjmbaaGreatDoor.PReadTokens
namespace Go.Proofs.YtjaobihcdkjmbaaGreatDoorW.PrintWords
end Go.Proofs.YtjaobihcdkjmbaaGreatDoorW.PrintWords
set_option maxRecDepth 100000
set_option maxHeartbeats 4000000
section
namespace Go.Proofs.YtjaobihcdkjmbaaGreatDoor
open Go.RowKit Go.Proofs.YtjaobihcdkjmbaaGreatDoorW.PrintWords Go.Proofs.YtjaobihcdkjmbaaGreatDoor.PReadTokens
theorem expr_plain (W0:World) (R B:Nat) (ts:List S47) (en now:Nat) (w:World) (E:Env W0 R B ts) (h:St W0 R B ts en now w)
  (h1:sk ts en now ⟨#[108,101,116]⟩=false) (h2:sk ts en now ⟨#[105,102]⟩=false) (h3:sk ts en now ⟨#[116,97,98]⟩=false) (h4:sk ts en now ⟨#[115,117,109]⟩=false) (r:PR)
  (hs:∀w',St W0 R B ts en now w'→Calls Tryz.prog 135 #[.pointer (some ⟨R,0,none⟩)] w' (zAk w' R ts en now r)) :
  Calls Tryz.prog 134 #[.pointer (some ⟨R,0,none⟩)] w (zAk w R ts en now r):=by
 have hRw:=h.rdr.lt;have M0:=Mid.start h;have hnow:=h.pos;have H1:=kA1 (fun w' hr=>zAT R ts now en ⟨#[108,101,116]⟩ w' hr hnow h1);have H2:=kA1 (fun w' hr=>zAT R ts now en ⟨#[105,102]⟩ w' hr hnow h2);have H3:=kA1 (fun w' hr=>zAT R ts now en ⟨#[116,97,98]⟩ w' hr hnow h3);have H4:=kA1 (fun w' hr=>zAT R ts now en ⟨#[115,117,109]⟩ w' hr hnow h4);have HS:=kA1 hs;clear h h1 h2 h3 h4 hs;have s1:=H1.out _ M0.st.rdr;go_enter Tryz.func134,Tryz.ntmps134;go_wp2_with fail;refine s1.mono ?_;rintro e w1 ⟨rfl,k1⟩;have M1:=M0.go E hRw k1 hnow;have s2:=H2.out _ M1.st.rdr;go_wp2_with fail;refine s2.mono ?_;rintro e w2 ⟨rfl,k2⟩;have M2:=M1.go E hRw k2 hnow;have s3:=H3.out _ M2.st.rdr;go_wp2_with fail;refine s3.mono ?_;rintro e w3 ⟨rfl,k3⟩;have M3:=M2.go E hRw k3 hnow;have s4:=H4.out _ M3.st.rdr;go_wp2_with fail;refine s4.mono ?_;rintro e w4 ⟨rfl,k4⟩;have M4:=M3.go E hRw k4 hnow;have hl:=HS.out _ M4.st;obtain⟨c1,f1,c3,c4,lt⟩:=M4.st.rdr.cells
 cases r with
 | error p =>
  unfold zAk zAm at hl;go_wp2_with (go_at_call 135;refine hl.mono ?_;rintro e w2 ⟨rfl,hg⟩);exact⟨rfl,rfl,kA7 M4.took.grown hg⟩
 | ok r =>
  obtain⟨x,n⟩:=r;unfold zAk at hl;go_wp2_with fail;refine hl.mono ?_;rintro e w5 ⟨hn1,hn2,v,rfl,hx,hk⟩;obtain⟨v5,A5,n5,c5,rfl,rfl,_,_⟩:=hx.cells;unfold exV;have M5:=M4.go E hRw hk hn2;have hx2:=hx.mono (fun k hk=>kBs M4.lt hk);obtain⟨⟨q0,q1,q2,q3,q4,q5⟩,⟨f0,f1,f2,f3,f4,f5⟩,xl2⟩:=zA6 M5.res;go_wp2;refine kAi (zAg Tryz.results134 _ _ w.heap.size 31 _ (0,0) _ rfl (fin6 _ _ _ _ _ _ M5.res) Tryz.underlying31 rfl zB6) rfl (M5.done hRw hx2 kD4 _ _ _ _ _ _)
theorem open_ref (num:S28) (name:ByteArray) (size:Int) (v:Value) (w:World) (hv:Vw w ⟨1,num,name,size,[]⟩ v) :
  Calls Tryz.prog 46 #[v] w fun e w'=>e=.returned (.string name)∧Below w.heap.size w w':=by
 obtain⟨A,c,rfl,hc1,hc2⟩:=hv.out;unfold exV at hv⊢;simp only at hv⊢;clear hv hc2;go_enter Tryz.func46,Tryz.ntmps46;go_wp2;go_ret;exact⟨rfl,(kA3 _ w).alloc (kA2 _) _⟩
theorem open_lit (num:S28) (name:ByteArray) (size:Int) (v:Value) (w:World) (hv:Vw w ⟨0,num,name,size,[]⟩ v) (h1:num.f0.size≤1000000) (h2:num.f1.size≤1000000) (h3:name.size≤1000000) :
  Calls Tryz.prog 46 #[v] w fun e w'=>e=.returned (.string (litR num name))∧Below w.heap.size w w':=by
 obtain⟨A,c,rfl,hc1,hc2⟩:=hv.out;unfold exV at hv⊢;simp only at hv⊢;clear hv hc2;have HL:Hid (∀a b,(num.f1.toList == [49])=a→(name.toList == [])=b→litR num name=(if b then (if a then num.f0 else num.f0++⟨#[124]⟩++num.f1) else (if a then num.f0 else num.f0++⟨#[124]⟩++num.f1)++⟨#[123]⟩++name++⟨#[125]⟩)):=kA1 (fun a b ha hb=>by unfold litR litN;rw[ha,hb]);generalize litR num name=r at *;have a0:∀w,(Op.stringOp .add num.f0 ⟨#[124]⟩).run Tryz.prog w=.ok (.string (num.f0++⟨#[124]⟩)) w:=fun w=>kAj w _ _ kDW
 have a1:∀w,(Op.stringOp .add (num.f0++⟨#[124]⟩) num.f1).run Tryz.prog w=.ok (.string (num.f0++⟨#[124]⟩++num.f1)) w:=fun w=>kAj w _ _ kDc
 have hadd:∀(n:ByteArray) (w:World),n.size≤2000001→(Op.stringOp .add n ⟨#[123]⟩).run Tryz.prog w=.ok (.string (n++⟨#[123]⟩)) w∧(Op.stringOp .add (n++⟨#[123]⟩) name).run Tryz.prog w=.ok (.string (n++⟨#[123]⟩++name)) w ∧
   (Op.stringOp .add (n++⟨#[123]⟩++name) ⟨#[125]⟩).run Tryz.prog w=.ok (.string (n++⟨#[123]⟩++name++⟨#[125]⟩)) w:=fun n w hn=>by
  refine⟨kAj w _ _ ?_,kAj w _ _ ?_,kAj w _ _ ?_⟩<;>simp only[kA6,ByteArray.size_mk',kAb,List.length_cons,List.length_nil]<;>omega
 have HA:=kA1 hadd;clear hadd;have BW:=(kA3 _ w).alloc (kA2 _) (.cells #[.int .i64 0,.string num.f0,.string num.f1,.string name,.int .i64 size,.slice A 0 c] 31)
 cases ha:(num.f1.toList == [49]) with
 | true =>
  cases hb:(name.toList == []) with
  | true =>
   obtain rfl:=HL.out _ _ ha hb;go_enter Tryz.func46,Tryz.ntmps46;go_wp2;go_ret;exact⟨rfl,BW⟩
  | false =>
   have hr:=HL.out _ _ ha hb;simp only[kCO,kBu,kCL] at hr;have hb2:name.toList.isEmpty=false:=by rw[← hb];cases name.toList<;>rfl
   have b0:=fun w=>(HA.out num.f0 w kD4).1
   have b1:=fun w=>(HA.out num.f0 w kD4).2.1
   have b2:=fun w=>(HA.out num.f0 w kD4).2.2
   have HR:=kA1 hr;clear hr a0 a1;go_enter Tryz.func46,Tryz.ntmps46;go_wp2;go_ret;exact⟨by rw[HR.out];rfl,BW⟩
 | false =>
  cases hb:(name.toList == []) with
  | true =>
   have hr:=HL.out _ _ ha hb;simp only[kCO,kBu,kCL] at hr;have HR:=kA1 hr;clear hr;go_enter Tryz.func46,Tryz.ntmps46;go_wp2;go_ret;exact⟨by rw[HR.out];rfl,BW⟩
  | false =>
   have hr:=HL.out _ _ ha hb;simp only[kCO,kBu,kCL] at hr;have hb2:name.toList.isEmpty=false:=by rw[← hb];cases name.toList<;>rfl
   have hsz:(num.f0++⟨#[124]⟩++num.f1).size≤2000001:=kDc
   have b0:=fun w=>(HA.out _ w hsz).1
   have b1:=fun w=>(HA.out _ w hsz).2.1
   have b2:=fun w=>(HA.out _ w hsz).2.2
   have HR:=kA1 hr;clear hr hsz;go_enter Tryz.func46,Tryz.ntmps46;go_wp2;go_ret;exact⟨by rw[HR.out];rfl,BW⟩
theorem open_list (num:S28) (name:ByteArray) (size:Int) (l:List S31) (v:Value) (w:World) (hv:Vw w ⟨8,num,name,size,l⟩ v) (hs:(zAV (l.map fun y=>zA7 y 0)).size≤1000000)
  (hr:∀A c w,k31.C w A l.length l→Calls Tryz.prog 85 #[.slice A l.length c] w fun e w'=>e=.returned (.string (zAV (l.map fun y=>zA7 y 0)))∧Below w.heap.size w w') :
  Calls Tryz.prog 46 #[v] w fun e w'=>e=.returned (.string (⟨#[91]⟩++zAV (l.map fun y=>zA7 y 0)++⟨#[93]⟩))∧Below w.heap.size w w':=by
 obtain⟨A,c,rfl,hc1,hc2⟩:=hv.out;unfold exV at hv⊢;simp only at hv hc2 ⊢;have BW:=(kA3 _ w).alloc (kA2 _) (.cells #[.int .i64 8,.string num.f0,.string num.f1,.string name,.int .i64 size,.slice A l.length c] 31);have HR:=kA1 (hr A c _ (Kd.C_below hc2 BW));clear hv hc2 hr;generalize zAV (l.map fun y=>zA7 y 0)=t at *;have a0:∀w,(Op.stringOp .add ⟨#[91]⟩ t).run Tryz.prog w=.ok (.string (⟨#[91]⟩++t)) w:=fun w=>kAj w _ _ kDW
 have a1:∀w,(Op.stringOp .add (⟨#[91]⟩++t) ⟨#[93]⟩).run Tryz.prog w=.ok (.string (⟨#[91]⟩++t++⟨#[93]⟩)) w:=fun w=>kAj w _ _ kDc
 go_enter Tryz.func46,Tryz.ntmps46;go_wp2_with fail;refine HR.out.mono ?_;rintro e w1 ⟨rfl,hb1⟩;go_wp2;go_ret;exact⟨rfl,BW.trans (hb1.mono BW.size)⟩
theorem open_call (num:S28) (name:ByteArray) (size:Int) (l:List S31) (v:Value) (w:World) (hv:Vw w ⟨14,num,name,size,l⟩ v) (hs:(zAV (l.map fun y=>zA7 y 0)).size≤1000000) (hn:name.size≤1000000)
  (hr:∀A c w,k31.C w A l.length l→Calls Tryz.prog 85 #[.slice A l.length c] w fun e w'=>e=.returned (.string (zAV (l.map fun y=>zA7 y 0)))∧Below w.heap.size w w') :
  Calls Tryz.prog 46 #[v] w fun e w'=>e=.returned (.string (name++⟨#[40]⟩++zAV (l.map fun y=>zA7 y 0)++⟨#[41]⟩))∧Below w.heap.size w w':=by
 obtain⟨A,c,rfl,hc1,hc2⟩:=hv.out;unfold exV at hv⊢;simp only at hv hc2 ⊢;have BW:=(kA3 _ w).alloc (kA2 _) (.cells #[.int .i64 14,.string num.f0,.string num.f1,.string name,.int .i64 size,.slice A l.length c] 31);have hbl:=zA4 w (.cells #[.int .i64 14,.string num.f0,.string num.f1,.string name,.int .i64 size,.slice A l.length c] 31);obtain⟨⟨p0,p1,p2,p3,p4,p5⟩,_,xl⟩:=zA6 hbl;have HR:=kA1 (fun w h=>hr A c w h);have HC:=kA1 hc2;clear hv hc2 hr;generalize zAV (l.map fun y=>zA7 y 0)=t at *;have a0:∀w,(Op.stringOp .add name ⟨#[40]⟩).run Tryz.prog w=.ok (.string (name++⟨#[40]⟩)) w:=fun w=>kAj w _ _ kDW
 have a1:∀w,(Op.stringOp .add (name++⟨#[40]⟩) t).run Tryz.prog w=.ok (.string (name++⟨#[40]⟩++t)) w:=fun w=>kAj w _ _ kDc
 have a2:∀w,(Op.stringOp .add (name++⟨#[40]⟩++t) ⟨#[41]⟩).run Tryz.prog w=.ok (.string (name++⟨#[40]⟩++t++⟨#[41]⟩)) w:=fun w=>kAj w _ _ kDc
 go_enter Tryz.func46,Tryz.ntmps46;go_wp2_with fail;generalize hX:w.alloc (.cells #[.int .i64 14,.string num.f0,.string num.f1,.string name,.int .i64 size,.slice A l.length c] 31)=X at *;have BW:=BW.drew;have K:X.drew.cell? ⟨w.heap.size,3,none⟩=some (.string name)∧X.drew.cell? ⟨w.heap.size,5,none⟩=some (.slice A l.length c):=⟨p3,p5⟩;have C:=Kd.C_below HC.out BW;clear hbl p0 p1 p2 p3 p4 p5 xl
 go_region_held3 (fun w':World=>w'.cell? ⟨w.heap.size,3,none⟩=some (.string name)∧w'.cell? ⟨w.heap.size,5,none⟩=some (.slice A l.length c)) (first | exact K) (first
  | (go_at_call 85;refine (HR.out _ C).mono ?_;rintro e wq ⟨rfl,hq⟩;have K:=(⟨zA0 hq K.1,zA0 hq K.2⟩:wq.cell? ⟨w.heap.size,3,none⟩=some (.string name)∧wq.cell? ⟨w.heap.size,5,none⟩=some (.slice A l.length c));have BW:=BW.trans (hq.mono BW.size)))
 all_goals
  go_wp2;go_ret;exact⟨rfl,BW⟩
def refKind (op size:Int) (k:Nat):Prop :=
 ((op=0∨op=1)∧k=0)∨(op=2∧k=1)∨((op=3∨op=4∨op=5∨op=6∨op=9∨op=13)∧k=2)∨((op=7∨op=10∨op=11)∧k=1∧-9≤size∧size≤99)∨(op=12∧k=4)∨(op=8∨op=14)
inductive RefOk:S31→Prop
 | mk (op:Int) (num:S28) (name:ByteArray) (size:Int) (l:List S31) (hk:refKind op size l.length) (h0:num.f0.size≤1000000) (h1:num.f1.size≤1000000) (h2:name.size≤1000000) (h3:l.length≤1000000)
   (hj:∀j,j≤l.length→(zAV ((l.take j).map fun y=>zA7 y 0)).size≤1000000) (hs:∀y∈l,(zAr y).size≤999000) (hl:∀y∈l,RefOk y):RefOk ⟨op,num,name,size,l⟩
theorem open_all (x:S31) (h:RefOk x):∀v w,Vw w x v→Calls Tryz.prog 46 #[v] w fun e w'=>e=.returned (.string (zAr x))∧Below w.heap.size w w':=by
 induction h with
 | mk op num name size l hk h0 h1 h2 h3 hj hs hl ih =>
  intro v w hv;have ht:∀y∈l,∀want v w,Vw w y v→Calls Tryz.prog 83 #[v,.int .i64 want] w fun e w'=>e=.returned (.string (zA7 y want))∧Below w.heap.size w w' :=
   fun y hy want v w hv=>rtext_of y (by have:=hs y hy;omega) (ih y hy) want v w hv
  have hts:∀y∈l,∀want,(zA7 y want).size≤1000000:=fun y hy want=>by have:=hs y hy;have:=zCK y want;omega
  have hjf:(zAV (l.map fun y=>zA7 y 0)).size≤1000000:=by have:=hj l.length (kA2 _);rwa [kB6] at this
  have htx:∀A c w,k31.C w A l.length l→Calls Tryz.prog 85 #[.slice A l.length c] w fun e w'=>e=.returned (.string (zAV (l.map fun y=>zA7 y 0)))∧Below w.heap.size w w' :=
   fun A c w hc=>rtexts_of l h3 hj (fun j h=>hts _ (kAC h) 0) (fun j h v w hv=>ht _ (kAC h) 0 v w hv) A c w hc
  rcases hk with⟨rfl | rfl,hk⟩ | ⟨rfl,hk⟩ | ⟨rfl | rfl | rfl | rfl | rfl | rfl,hk⟩ | ⟨rfl | rfl | rfl,hk,hz0,hz1⟩ | ⟨rfl,hk⟩ | (rfl | rfl)
  ·match l,hk with
   | [],_=>exact open_lit num name size v w hv h0 h1 h2
  ·match l,hk with
   | [],_=>exact open_ref num name size v w hv
  ·match l,hk with
   | [a],_=>exact open_op2 num name size a v w hv h2 (fun v w=>ht a kD6 _ v w) (hts a kD6 _)
  ·match l,hk with
   | [a,b],_=>exact open_op3 num name size a b v w hv h2 (fun v w=>ht a kD6 _ v w) (hts a kD6 _) (fun v w=>ht b kD6 _ v w) (hts b kD6 _)
  ·match l,hk with
   | [a,b],_=>exact open_op4 num name size a b v w hv h2 (fun v w=>ht a kD6 _ v w) (hts a kD6 _) (fun v w=>ht b kD6 _ v w) (hts b kD6 _)
  ·match l,hk with
   | [a,b],_=>exact open_op5 num name size a b v w hv h2 (fun v w=>ht a kD6 _ v w) (hts a kD6 _) (fun v w=>ht b kD6 _ v w) (hts b kD6 _)
  ·match l,hk with
   | [a,b],_=>exact open_op6 num name size a b v w hv h2 (fun v w=>ht a kD6 _ v w) (hts a kD6 _) (fun v w=>ht b kD6 _ v w) (hts b kD6 _)
  ·match l,hk with
   | [a,b],_=>exact open_op9 num name size a b v w hv h2 (fun v w=>ht a kD6 _ v w) (hts a kD6 _) (fun v w=>ht b kD6 _ v w) (hts b kD6 _)
  ·match l,hk with
   | [a,b],_=>exact open_op13 num name size a b v w hv h2 (fun v w=>ht a kD6 _ v w) (hts a kD6 _) (fun v w=>ht b kD6 _ v w) (hts b kD6 _)
  ·match l,hk with
   | [a],_=>exact open_op7 num name size a v w hv h2 hz0 hz1 (fun v w=>ht a kD6 _ v w) (hts a kD6 _)
  ·match l,hk with
   | [a],_=>exact open_op10 num name size a v w hv h2 hz0 hz1 (fun v w=>ht a kD6 _ v w) (hts a kD6 _)
  ·match l,hk with
   | [a],_=>exact open_op11 num name size a v w hv h2 hz0 hz1 (fun v w=>ht a kD6 _ v w) (hts a kD6 _)
  ·match l,hk with
   | [a,b,c,d],_=>exact open_op12 num name size a b c d v w hv h2 (fun v w=>ht a kD6 _ v w) (hts a kD6 _) (fun v w=>ht b kD6 _ v w) (hts b kD6 _) (fun v w=>ht c kD6 _ v w) (hts c kD6 _) (fun v w=>ht d kD6 _ v w) (hts d kD6 _)
  ·have e:zAr ⟨8,num,name,size,l⟩=⟨#[91]⟩++zAV (l.map fun y=>zA7 y 0)++⟨#[93]⟩:=by
    rw[← zBS];rfl
   rw[e];exact open_list num name size l v w hv hjf htx
  ·have e:zAr ⟨14,num,name,size,l⟩=name++⟨#[40]⟩++zAV (l.map fun y=>zA7 y 0)++⟨#[41]⟩:=by
    rw[← zBS];rfl
   rw[e];exact open_call num name size l v w hv hjf h2 htx
theorem ExprText_calls (x:S31) (h:RefOk x) (v:Value) (w:World) (hv:Vw w x v):Calls Tryz.prog 12 #[v] w fun e w'=>e=.returned (.string (zAr x))∧Below w.heap.size w w':=by
 obtain⟨A,c,rfl,hc1,hc2⟩:=hv.out;have HO:=kA1 (open_all x h);have HV:=kA1 hv;have BW:=(kA3 _ w).alloc (kA2 _) (.cells #[.int .i64 x.f0,.string x.f1.f0,.string x.f1.f1,.string x.f2,.int .i64 x.f3,.slice A x.f4.length c] 31);generalize zAr x=r at *;unfold exV at *;clear h hv hc2;go_enter Tryz.func12,Tryz.ntmps12;go_wp2_with fail;refine (HO.out _ _ (HV.out.below BW)).mono ?_;rintro e w1 ⟨rfl,hb1⟩;go_wp2;go_ret;exact⟨rfl,BW.trans (hb1.mono BW.size)⟩
abbrev kt (t:S47):Tk:=(t.f0,t.f1)
theorem toksF_enough:∀(n m:Nat) (s:ByteArray) (a:Nat),a≤s.size→s.size<a+n→s.size<a+m→zCf n s a=zCf m s a:=by
 intro n
 induction n with
 | zero=>intro m s a h1 h2;omega
 | succ n ih =>
  intro m s a h1 h2 h3;obtain⟨m,rfl⟩:∃i,m=i+1:=⟨m-1,kD4⟩;unfold zCf;by_cases hb:zAt s a<s.size
  ·rw[kAa hb,kAa hb];by_cases hk:(zAO s (zAt s a)).1.f0=-1
   ·rw[kAa hk,kAa hk]
   ·rw[kA9 hk,kA9 hk];have hm:=zDQ s _ hb hk;have hsk:a≤zAt s a:=kCR _ _;rw[ih m s _ hm.2 kD4 kD4]
  ·rw[kA9 hb,kA9 hb]
def Tks (s:ByteArray) (a:Nat):List S47:=zCf (s.size+1) s a
theorem Tks_zero (s:ByteArray):Tks s 0=zA9 s:=rfl
theorem zCb (s:ByteArray) (a:Nat) (h:a≤s.size) :
  Tks s a=if zAt s a<s.size then (if (zAO s (zAt s a)).1.f0=-1 then [(zAO s (zAt s a)).1] else (zAO s (zAt s a)).1 :: Tks s (zAO s (zAt s a)).2) else []:=by
 unfold Tks
 conv=>lhs;unfold zCf
 by_cases hb:zAt s a<s.size
 ·rw[kAa hb,kAa hb];by_cases hk:(zAO s (zAt s a)).1.f0=-1
  ·rw[kAa hk,kAa hk]
  ·rw[kA9 hk,kA9 hk];have hm:=zDQ s _ hb hk;rw[toksF_enough s.size (s.size+1) s _ hm.2 kD4 kD4]
 ·rw[kA9 hb,kA9 hb]
def Lies (s:ByteArray) (a:Nat) (b:List UInt8):Prop:=∃r,zAu s a=b++r
theorem zEK {s:ByteArray} {a:Nat} {b c:List UInt8}:Lies s a (b++c)↔Lies s a b∧Lies s (a+b.length) c:=by
 constructor
 ·rintro⟨r,h⟩;refine⟨⟨c++r,by rw[h,kBl]⟩,⟨r,?_⟩⟩;unfold zAu at h⊢;rw[← kC0,h,kBl,List.drop_left]
 ·rintro⟨⟨r,h1⟩,⟨q,h2⟩⟩;refine⟨q,?_⟩;unfold zAu at h1 h2 ⊢;rw[← kC0,h1,List.drop_left] at h2;rw[h1,h2,kBl]
theorem lies_all (s:ByteArray):Lies s 0 s.data.toList:=⟨[],by unfold zAu;simp⟩
theorem zDL {s:ByteArray} {a:Nat} {c:UInt8} {b:List UInt8} (h:Lies s a (c :: b)):∃hl:a<s.size,s[a]'hl=c:=by
 obtain⟨r,h⟩:=h;unfold zAu at h;have hl:a<s.size:=by
  have h2:=congrArg List.length h;rw[kAm] at h2;have:s.data.toList.length=s.size:=rfl;simp at h2;omega
 refine⟨hl,?_⟩;rw[kAp (show a<s.data.toList.length from hl)] at h;injection h
theorem lies_le {s:ByteArray} {a:Nat} {b:List UInt8} (h:Lies s a b) (ha:a≤s.size):a+b.length≤s.size:=by
 obtain⟨r,h⟩:=h;have h2:=congrArg List.length h;rw[bytesAt_length,kAt] at h2;omega
theorem zDM {s:ByteArray} {a:Nat} {b:List UInt8} (h:Lies s a b):(s.extract a (a+b.length)).data.toList=b:=by
 obtain⟨r,h⟩:=h;rw[kBj];unfold zAu at h;rw[h,show a+b.length-a=b.length by omega,List.take_left]
theorem zDq {s:ByteArray} {a:Nat} {b:List UInt8} (h:Lies s a b):zAu s a=b++zAu s (a+b.length):=by
 obtain⟨r,h⟩:=h;unfold zAu at h⊢;rw[← kC0,h,List.drop_left]
abbrev sr (c:UInt8):Int:=srt c.toNat
def Sep (s:ByteArray) (e:Nat):Prop:=∀h:e<s.size,okC [2,3,4] (s[e]'h)=false
theorem run_ends {ks:List Int} {s:ByteArray} {e:Nat} (h:∀h:e<s.size,okC ks (s[e]'h)=false):zBc ks (zAu s e)=0:=by
 unfold zBc zAu;by_cases hl:e<s.size
 ·rw[kAp (show e<s.data.toList.length from hl),kB0];have:okC ks (s.data.toList[e]'(show e<s.data.toList.length from hl))=false:=h hl;rw[this];rfl
 ·rw[kBq (show s.data.toList.length≤e by have:s.data.toList.length=s.size:=rfl;omega)];rfl
theorem run_all {ks:List Int} {b r:List UInt8} (h:b.all (okC ks)=true):zBc ks (b++r)=b.length+zBc ks r:=by
 unfold zBc
 induction b with
 | nil=>simp
 | cons c b ih =>
  rw[List.all_cons,kAo] at h;rw[List.cons_append,kB0,h.1,kAa rfl,List.length_cons,ih h.2,List.length_cons];omega
theorem okC_of {ks:List Int} {c:UInt8}:okC ks c=true↔sr c∈ks:=by unfold okC;simp
theorem zEA {s:ByteArray} {a:Nat} {c:UInt8} {b:List UInt8} (h:Lies s a (c :: b)) (hc:sr c≠1):zAt s a=a:=by
 unfold zAt;obtain⟨hl,e⟩:=zDL h;rw[run_ends (fun h=>by rw[e];rw[kCJ];intro h2;rw[okC_of] at h2;simp at h2;exact hc h2)];omega
def Pf (b:List UInt8) (l:List Tk):Prop:=∀s a,a≤s.size→Lies s a b→(Tks s a).map kt=l++(Tks s (a+b.length)).map kt
def Pc (b:List UInt8) (l:List Tk):Prop:=∀s a,a≤s.size→Lies s a b→Sep s (a+b.length)→(Tks s a).map kt=l++(Tks s (a+b.length)).map kt
theorem Pf.pc {b:List UInt8} {l:List Tk} (h:Pf b l):Pc b l:=fun s a ha hl _=>h s a ha hl
theorem pf_nil:Pf [] []:=fun s a _ _=>rfl
theorem zDu {b c:List UInt8} {l m:List Tk} (h1:Pf b l) (h2:Pf c m):Pf (b++c) (l++m):=fun s a ha h=>by
 obtain⟨hb,hc⟩:=zEK.1 h;rw[h1 s a ha hb,h2 s _ (lies_le hb ha) hc,kBl,kAt,kBR]
theorem zC6 {b c:List UInt8} {l m:List Tk} (h1:Pf b l) (h2:Pc c m):Pc (b++c) (l++m):=fun s a ha h hs=>by
 obtain⟨hb,hc⟩:=zEK.1 h;rw[kAt,← kBR] at hs⊢;rw[h1 s a ha hb,h2 s _ (lies_le hb ha) hc hs,kBl]
def Brk (c:UInt8):Prop:=okC [2,3,4] c=false
theorem zC9 {b:List UInt8} {x:UInt8} {c:List UInt8} {l m:List Tk} (h1:Pc b l) (h2:Pf (x :: c) m) (hx:Brk x):Pf (b++x :: c) (l++m):=fun s a ha h=>by
 obtain⟨hb,hc⟩:=zEK.1 h;obtain⟨hl,e⟩:=zDL hc;rw[h1 s a ha hb (fun h=>by rw[e];exact hx),h2 s _ (lies_le hb ha) hc,kBl,kAt,kBR]
theorem zBI:Pf [32] []:=fun s a ha h=>by
 obtain⟨hl,e⟩:=zDL h;have hsk:zAt s a=zAt s (a+1):=by
  unfold zAt;rw[zDq h];show a+zBc [1] ([32]++zAu s (a+1))=_;rw[run_all kD7];simp only[List.length_singleton];omega
 show (Tks s a).map kt=(Tks s (a+1)).map kt;rw[zCb s a ha,zCb s (a+1) kD4,hsk]
theorem zBy (c:UInt8) (hc:sr c=5):Pf [c] [sgTk c]:=fun s a ha h=>by
 obtain⟨hl,e⟩:=zDL h;have hsk:zAt s a=a:=zEA h kD4;have ht:zAO s a=(⟨4,⟨#[c]⟩,a⟩,a+1):=by
  unfold zAO;rw[kCs hl,kA9 (by rw[e];show ¬sr c=2;omega),kA9 (by rw[e];show ¬sr c=4;omega),kAa kDX,e]
 rw[zCb s a ha,hsk,kAa hl,ht,kA9 kD6];rfl
theorem ba_ext {x y:ByteArray} (h:x.data.toList=y.data.toList):x=y:=by
 apply kBG;exact kBx.1 h
theorem pc_name (w:ByteArray) (c:UInt8) (r:List UInt8) (hw:w.data.toList=c :: r) (hc:sr c=2) (hall:w.data.toList.all (okC [2,3,4])=true) (hk:zC8 w≠-1):Pc w.data.toList [(zC8 w,w)]:=fun s a ha h hs=>by
 have h':=h;rw[hw] at h';obtain⟨hl,e⟩:=zDL h';have hsk:zAt s a=a:=zEA h' kD4;have hend:zBt s a=a+w.data.toList.length:=by
  unfold zBt;rw[zDq h,run_all hall,run_ends hs,Nat.add_zero]
 have hex:s.extract a (zBt s a)=w:=ba_ext (by rw[hend];exact zDM h);have ht:zAO s a=(⟨zC8 w,w,a⟩,a+w.data.toList.length):=by
  unfold zAO;rw[kCs hl,kAa kDX,hex,hend]
 rw[zCb s a ha,hsk,kAa hl,ht,kA9 hk];rfl
theorem pc_num (w:ByteArray) (c:UInt8) (r:List UInt8) (hw:w.data.toList=c :: r) (hall:w.data.toList.all (okC [4])=true) (h0:c.toNat≠48∨w.size=1) (hz:w.size≤400):Pc w.data.toList [(2,w)]:=fun s a ha h hs=>by
 have h':=h;rw[hw] at h';obtain⟨hl,e⟩:=zDL h';have hc:sr c=4:=by
  rw[hw,List.all_cons,kAo,okC_of] at hall;simpa using hall.1
 have hsk:zAt s a=a:=zEA h' kD4;have hend:zBm s a=a+w.data.toList.length:=by
  unfold zBm;rw[zDq h,run_all hall,run_ends (fun h=>?_),Nat.add_zero];have:=hs h;rw[kCJ] at this⊢;intro h2;rw[okC_of] at h2;apply this;rw[okC_of];simp only[kAO,kBc,kCm] at h2⊢;exact .inr (.inr h2)
 have hex:s.extract a (zBm s a)=w:=ba_ext (by rw[hend];exact zDM h);have hnk:zF0 c.toNat w=2:=by unfold zF0;rw[kAa ⟨h0,hz⟩]
 have ht:zAO s a=(⟨2,w,a⟩,a+w.data.toList.length):=by
  unfold zAO;rw[kCs hl,kA9 (by rw[e];show ¬sr c=2;omega),kAa kDX,hex,hend,e,hnk]
 rw[zCb s a ha,hsk,kAa hl,ht,kA9 kD6];rfl
theorem brk_all {u r:List UInt8} (h:u.all uchk=true):brk (u++125 :: r)=u.length:=by
 unfold brk
 induction u with
 | nil=>rfl
 | cons c u ih =>
  rw[List.all_cons,kAo] at h;have hc:(c != 125)=true:=by
   have:=h.1;unfold uchk at this;rw[kCV];rintro rfl;exact absurd this kD7
  rw[List.cons_append,kB0,hc,kAa rfl,List.length_cons,ih h.2,List.length_cons]
theorem pf_unit (u:ByteArray) (hu:zCe u=true):Pf (123 :: (u.data.toList++[125])) [(3,u)]:=fun s a ha h=>by
 obtain⟨hl,e⟩:=zDL h;have hall:u.data.toList.all uchk=true:=by unfold zCe at hu;rw[kAo] at hu;exact hu.2
 have hsk:zAt s a=a:=zEA h kD7;obtain⟨_,h1⟩:=zEK (b:=[123]) |>.1 h
 obtain⟨h2,h3⟩:=zEK.1 h1;have hcl:zAR s a=a+1+u.data.toList.length:=by
  unfold zAR;have hb:=zDq h1;simp only[List.length_singleton] at hb;have e2:∀X:List UInt8,u.data.toList.append [125]++X=u.data.toList++125 :: X:=fun X=>by simp
  rw[hb,e2,brk_all hall]
 obtain⟨hl3,_⟩:=zDL h3;simp only[List.length_singleton] at h2 h3 hl3;have hex:s.extract (a+1) (zAR s a)=u:=ba_ext (by rw[hcl];exact zDM h2);have ht:zAO s a=(⟨3,u,a⟩,a+1+u.data.toList.length+1):=by
  unfold zAO;rw[kCs hl,kA9 (by rw[e];decide),kA9 (by rw[e];decide),kA9 (by rw[e];decide),kAa ⟨by rw[e];rfl,by rw[hcl];exact hl3,by rw[hex];exact hu⟩,hex,hcl]
 rw[zCb s a ha,hsk,kAa hl,ht,kA9 kD6];show _ :: _=_ :: _;congr 2;simp only[List.length_cons,kAt,List.length_nil];rw[show a+1+u.data.toList.length+1=a+(u.data.toList.length+(0+1)+1) by omega]
theorem expr_let (W0:World) (R B:Nat) (ts:List S47) (en:Nat) (ex:Nat→PR) (m now:Nat) (w:World) (E:Env W0 R B ts) (h:St W0 R B ts en now w) (hm:m≤now+1) (hex:Pars W0 R B ts en 134 ex m) (hlet:sk ts en now ⟨#[108,101,116]⟩=true) :
  Calls Tryz.prog 134 #[.pointer (some ⟨R,0,none⟩)] w (zAk w R ts en now (letS ts en ex (now+1))):=by
 have few:=E.few;have hRw:=h.rdr.lt;have M0:=Mid.start h;have hlt0:=zAv hlet;have s0:=zAE R ts now en ⟨#[108,101,116]⟩ (w.alloc zO) M0.st.rdr few hlet;clear h hlet;unfold letS;by_cases h0:(tokP ts en (now+1)).f0=0
 ·rw[kAa h0];have hlt1:=zBP h0 kD7;have HK:=kA1 (fun w' hr=>zCC R ts (now+1) en 0 w' hr hlt1 few (by rw[kAA];exact h0));clear h0;generalize (tokP ts en (now+1)).f1=nm at *
  cases h1:sk ts en (now+1+1) ⟨#[61]⟩ with
  | false =>
   rw[kA9 kD7];have ht:=fun w' hr=>zCt R ts (now+1+1) en ⟨#[61]⟩ w' hr hlt1 h1
   unfold zAm at ht;have HT:=kA1 ht;clear ht h1 hex;unfold atP;go_enter Tryz.func134,Tryz.ntmps134;go_wp2_with fail;refine s0.mono ?_;rintro e w1 ⟨rfl,k1⟩;have M1:=M0.go E hRw k1 hlt0;have hk:=HK.out _ M1.st.rdr;clear s0 k1 M0;go_wp2_with fail;refine hk.mono ?_;rintro e w2 ⟨rfl,k2⟩;have M2:=M1.go E hRw k2 hlt1;have hXR:w2.heap.size≠R:=kAs k2.rdr.lt;have hXw:=M2.lt;have M3:=M2.alloc (.cells #[.int .i64 13,.string ⟨#[]⟩,.string ⟨#[]⟩,.string nm,.int .i64 0,.slice none 0 0] 31);have x3:=zA4 w2 (.cells #[.int .i64 13,.string ⟨#[]⟩,.string ⟨#[]⟩,.string nm,.int .i64 0,.slice none 0 0] 31);have ht:=HT.out _ M3.st.rdr;clear hk k2 M1 M2;go_wp2_with fail;generalize w2.heap.size=X at *;refine ht.mono ?_;rintro e w4 ⟨rfl,hb4⟩;go_wp2;exact⟨rfl,rfl,kAk M3.took.grown hb4⟩
  | true =>
   rw[kAa rfl];have hlt2:=zAv h1;have HT:=kA1 (fun w' hr=>zBW R ts (now+1+1) en ⟨#[61]⟩ w' hr few h1);clear h1;have hxa:=fun w' hs=>hex (now+1+2) w' kD4 hs
   cases hc:ex (now+1+2) with
   | error q =>
    rw[hc] at hxa;unfold zAk zAm at hxa;have HA:=kA1 hxa;clear hxa hc hex;dsimp only;go_enter Tryz.func134,Tryz.ntmps134;go_wp2_with fail;refine s0.mono ?_;rintro e w1 ⟨rfl,k1⟩;have M1:=M0.go E hRw k1 hlt0;have hk:=HK.out _ M1.st.rdr;clear s0 k1 M0;go_wp2_with fail;refine hk.mono ?_;rintro e w2 ⟨rfl,k2⟩;have M2:=M1.go E hRw k2 hlt1;have hXR:w2.heap.size≠R:=kAs k2.rdr.lt;have hXw:=M2.lt;have M3:=M2.alloc (.cells #[.int .i64 13,.string ⟨#[]⟩,.string ⟨#[]⟩,.string nm,.int .i64 0,.slice none 0 0] 31);have x3:=zA4 w2 (.cells #[.int .i64 13,.string ⟨#[]⟩,.string ⟨#[]⟩,.string nm,.int .i64 0,.slice none 0 0] 31);have ht:=HT.out _ M3.st.rdr;clear hk k2 M1 M2;go_wp2_with fail;generalize w2.heap.size=X at *;refine ht.mono ?_;rintro e w4 ⟨rfl,k4⟩;have M4:=M3.go E hRw k4 hlt2;have x4:=k4.blk x3 hXR;have hx:=HA.out _ M4.st;obtain⟨a1,f1,a3,a4,lt⟩:=M4.st.rdr.cells;clear ht k4 M3 x3;go_wp2_with (go_at_call 134;refine hx.mono ?_;rintro e w5 ⟨rfl,hg⟩);exact⟨rfl,rfl,kA7 M4.took.grown hg⟩
   | ok r =>
    obtain⟨a,n⟩:=r;rw[hc] at hxa;unfold zAk at hxa;have HA:=kA1 hxa;clear hxa hc;dsimp only
    cases h2:sk ts en n ⟨#[105,110]⟩ with
    | false =>
     rw[kA9 kD7];have ht:=fun hn w' hr=>zCt R ts n en ⟨#[105,110]⟩ w' hr hn h2
     unfold zAm at ht;have HT2:=kA1 ht;clear ht h2 hex;unfold atP;go_enter Tryz.func134,Tryz.ntmps134;go_wp2_with fail;refine s0.mono ?_;rintro e w1 ⟨rfl,k1⟩;have M1:=M0.go E hRw k1 hlt0;have hk:=HK.out _ M1.st.rdr;clear s0 k1 M0;go_wp2_with fail;refine hk.mono ?_;rintro e w2 ⟨rfl,k2⟩;have M2:=M1.go E hRw k2 hlt1;have hXR:w2.heap.size≠R:=kAs k2.rdr.lt;have hXw:=M2.lt;have M3:=M2.alloc (.cells #[.int .i64 13,.string ⟨#[]⟩,.string ⟨#[]⟩,.string nm,.int .i64 0,.slice none 0 0] 31);have x3:=zA4 w2 (.cells #[.int .i64 13,.string ⟨#[]⟩,.string ⟨#[]⟩,.string nm,.int .i64 0,.slice none 0 0] 31);have ht:=HT.out _ M3.st.rdr;clear hk k2 M1 M2;go_wp2_with fail;generalize w2.heap.size=X at *;refine ht.mono ?_;rintro e w4 ⟨rfl,k4⟩;have M4:=M3.go E hRw k4 hlt2;have x4:=k4.blk x3 hXR;have hx:=HA.out _ M4.st;obtain⟨a1,f1,a3,a4,lt⟩:=M4.st.rdr.cells;clear ht k4 M3 x3;have hX4:=M4.lt;go_wp2_with fail;refine hx.mono ?_;rintro e w5 ⟨hn1,hn2,va,rfl,hva,k5⟩;obtain⟨v5,A5,n5,c5,rfl,rfl,_,_⟩:=hva.cells;have M5:=M4.go E hRw k5 hn2;have x5:=k5.blk x4 hXR;have hva5:=hva.mono (S':=fun k=>w.heap.size<k∧k≠X) (fun k hk=>by have:=zA5 x4;simp only[From] at hk;omega);unfold exV;have hYR:w5.heap.size≠R:=kAs k5.rdr.lt;have hXY:X<w5.heap.size:=zA5 x5;have M6:=M5.alloc (.cells #[.int .i64 a.f0,.string a.f1.f0,.string a.f1.f1,.string a.f2,.int .i64 a.f3,.slice A5 n5 c5] 31);have y6:=zA4 w5 (.cells #[.int .i64 a.f0,.string a.f1.f0,.string a.f1.f1,.string a.f2,.int .i64 a.f3,.slice A5 n5 c5] 31);have x6:(w5.alloc (.cells #[.int .i64 a.f0,.string a.f1.f0,.string a.f1.f1,.string a.f2,.int .i64 a.f3,.slice A5 n5 c5] 31)).heap[X]?=_:=(kA4 _ _ _ hXY).trans x5;have hva6:=hva5.below ((kA3 _ w5).alloc (kA2 _) (.cells #[.int .i64 a.f0,.string a.f1.f0,.string a.f1.f1,.string a.f2,.int .i64 a.f3,.slice A5 n5 c5] 31));have ht:=HT2.out hn2 _ M6.st.rdr;clear hx k5 M4 M5 x4 x5 hva hva5 a1 f1 a3 a4 lt;go_wp2_with fail;generalize w5.heap.size=Y at *;refine ht.mono ?_;rintro e w7 ⟨rfl,hb7⟩;go_wp2;exact⟨rfl,rfl,kAk M6.took.grown hb7⟩
    | true =>
     rw[kAa rfl];have hlt4:=zAv h2;have HT2:=kA1 (fun (_:n≤ts.length) w' hr=>zBW R ts n en ⟨#[105,110]⟩ w' hr few h2);clear h2;have hxb:=fun w' (hn:m≤n+1) hs=>hex (n+1) w' hn hs
     cases hc:ex (n+1) with
     | error q =>
      rw[hc] at hxb;unfold zAk zAm at hxb;have HB:=kA1 hxb;clear hxb hc hex;dsimp only;go_enter Tryz.func134,Tryz.ntmps134;go_wp2_with fail;refine s0.mono ?_;rintro e w1 ⟨rfl,k1⟩;have M1:=M0.go E hRw k1 hlt0;have hk:=HK.out _ M1.st.rdr;clear s0 k1 M0;go_wp2_with fail;refine hk.mono ?_;rintro e w2 ⟨rfl,k2⟩;have M2:=M1.go E hRw k2 hlt1;have hXR:w2.heap.size≠R:=kAs k2.rdr.lt;have hXw:=M2.lt;have M3:=M2.alloc (.cells #[.int .i64 13,.string ⟨#[]⟩,.string ⟨#[]⟩,.string nm,.int .i64 0,.slice none 0 0] 31);have x3:=zA4 w2 (.cells #[.int .i64 13,.string ⟨#[]⟩,.string ⟨#[]⟩,.string nm,.int .i64 0,.slice none 0 0] 31);have ht:=HT.out _ M3.st.rdr;clear hk k2 M1 M2;go_wp2_with fail;generalize w2.heap.size=X at *;refine ht.mono ?_;rintro e w4 ⟨rfl,k4⟩;have M4:=M3.go E hRw k4 hlt2;have x4:=k4.blk x3 hXR;have hx:=HA.out _ M4.st;obtain⟨a1,f1,a3,a4,lt⟩:=M4.st.rdr.cells;clear ht k4 M3 x3;have hX4:=M4.lt;go_wp2_with fail;refine hx.mono ?_;rintro e w5 ⟨hn1,hn2,va,rfl,hva,k5⟩;obtain⟨v5,A5,n5,c5,rfl,rfl,_,_⟩:=hva.cells;have M5:=M4.go E hRw k5 hn2;have x5:=k5.blk x4 hXR;have hva5:=hva.mono (S':=fun k=>w.heap.size<k∧k≠X) (fun k hk=>by have:=zA5 x4;simp only[From] at hk;omega);unfold exV;have hYR:w5.heap.size≠R:=kAs k5.rdr.lt;have hXY:X<w5.heap.size:=zA5 x5;have M6:=M5.alloc (.cells #[.int .i64 a.f0,.string a.f1.f0,.string a.f1.f1,.string a.f2,.int .i64 a.f3,.slice A5 n5 c5] 31);have y6:=zA4 w5 (.cells #[.int .i64 a.f0,.string a.f1.f0,.string a.f1.f1,.string a.f2,.int .i64 a.f3,.slice A5 n5 c5] 31);have x6:(w5.alloc (.cells #[.int .i64 a.f0,.string a.f1.f0,.string a.f1.f1,.string a.f2,.int .i64 a.f3,.slice A5 n5 c5] 31)).heap[X]?=_:=(kA4 _ _ _ hXY).trans x5;have hva6:=hva5.below ((kA3 _ w5).alloc (kA2 _) (.cells #[.int .i64 a.f0,.string a.f1.f0,.string a.f1.f1,.string a.f2,.int .i64 a.f3,.slice A5 n5 c5] 31));have ht:=HT2.out hn2 _ M6.st.rdr;clear hx k5 M4 M5 x4 x5 hva hva5 a1 f1 a3 a4 lt;go_wp2_with fail;generalize w5.heap.size=Y at *;refine ht.mono ?_;rintro e w7 ⟨rfl,k7⟩;have M7:=M6.go E hRw k7 hlt4;have x7:=k7.blk x6 hXR;have y7:=k7.blk y6 hYR;have hva7:=hva6.grown k7.grown (fun k hk e=>by subst e;omega);have M7d:=M7.below ((kA3 _ w7).drew);have hx:=HB.out _ kD4 M7d.st;obtain⟨-,-,hR3,-,hRl⟩:=M7.st.rdr.cells;obtain⟨⟨p0,p1,p2,p3,p4,p5⟩,-,yl⟩:=zA6 y7;have y7d:w7.drew.heap[Y]?=_:=y7;clear ht k7 M6 x6 y6 hva6;go_wp2_with fail;refine kB7 (S:=(fun w'=>w'.cell? ⟨R,3,none⟩=some (.func (.func 134) #[] #[])∧w'.cell? ⟨Y,0,none⟩=some (Value.int IntKind.i64 a.f0)∧w'.cell? ⟨Y,1,none⟩=some (Value.string a.f1.f0)∧w'.cell? ⟨Y,2,none⟩=some (Value.string a.f1.f1)∧w'.cell? ⟨Y,3,none⟩=some (Value.string a.f2)∧w'.cell? ⟨Y,4,none⟩=some (Value.int IntKind.i64 a.f3)∧w'.cell? ⟨Y,5,none⟩=some (.slice A5 n5 c5))) kD5 ⟨hR3,(zA6 y7d).1⟩ (fun hHeld=>?_);refine kAx (i:=1) (v:=?v1c1) rfl kD5 kD5 kD5 (fun _ _ _ h=>h) (Or.inl ⟨kD9,?hy1c1⟩) kDb ?rest1c1
      case hy1c1=>(intro w hSw;(try dsimp only at hSw);go_simp;try (with_reducible rfl))
      try simp only[Act.put,kA0,List.set_cons_zero,List.set_cons_succ]
      refine kAx (i:=0) (v:=?v0c2) rfl kD5 kD5 kD5 (fun _ _ _ h=>h) (Or.inl ⟨kD9,?hy0c2⟩) kDb ?rest0c2
      case hy0c2=>(intro w hSw;(try dsimp only at hSw);go_simp;try (with_reducible rfl))
      try simp only[Act.put,kA0,List.set_cons_zero,List.set_cons_succ]
      refine kAx (i:=2) (v:=?v2c3) rfl kD5 kD5 kD5 (fun _ _ _ h=>h) (Or.inl ⟨kD9,?hy2c3⟩) kDb ?rest2c3
      case hy2c3=>(intro w hSw;(try dsimp only at hSw);go_simp;try (with_reducible rfl))
      try simp only[Act.put,kA0,List.set_cons_zero,List.set_cons_succ]
      refine kAx (i:=3) (v:=?v3c4) rfl kD5 kD5 kD5 (fun _ _ _ h=>h) (Or.inl ⟨kD9,?hy3c4⟩) kDb ?rest3c4
      case hy3c4=>(intro w hSw;(try dsimp only at hSw);go_simp;try (with_reducible rfl))
      try simp only[Act.put,kA0,List.set_cons_zero,List.set_cons_succ]
      refine kAx (i:=4) (v:=?v4c5) rfl kD5 kD5 kD5 (fun _ _ _ h=>h) (Or.inl ⟨kD9,?hy4c5⟩) kDb ?rest4c5
      case hy4c5=>(intro w hSw;(try dsimp only at hSw);go_simp;try (with_reducible rfl))
      try simp only[Act.put,kA0,List.set_cons_zero,List.set_cons_succ]
      refine kAx (i:=5) (v:=?v5c6) rfl kD5 kD5 kD5 (fun _ _ _ h=>h) (Or.inl ⟨kD9,?hy5c6⟩) kDb ?rest5c6
      case hy5c6=>(intro w hSw;(try dsimp only at hSw);go_simp;try (with_reducible rfl))
      try simp only[Act.put,kA0,List.set_cons_zero,List.set_cons_succ]
      refine kBO (rs:=[6]) kD5 kD6 ?_;refine kBF rfl (fun K hK=>?_) kBJ;go_simp;go_wp2_with (go_at_call 134;refine hx.mono ?_;rintro e w8 ⟨rfl,hg⟩);exact⟨rfl,rfl,kA7 M7d.took.grown hg⟩
     | ok r =>
      obtain⟨b,j⟩:=r;rw[hc] at hxb;unfold zAk at hxb;have HB:=kA1 hxb;clear hxb hc hex;dsimp only;go_enter Tryz.func134,Tryz.ntmps134;go_wp2_with fail;refine s0.mono ?_;rintro e w1 ⟨rfl,k1⟩;have M1:=M0.go E hRw k1 hlt0;have hk:=HK.out _ M1.st.rdr;clear s0 k1 M0;go_wp2_with fail;refine hk.mono ?_;rintro e w2 ⟨rfl,k2⟩;have M2:=M1.go E hRw k2 hlt1;have hXR:w2.heap.size≠R:=kAs k2.rdr.lt;have hXw:=M2.lt;have M3:=M2.alloc (.cells #[.int .i64 13,.string ⟨#[]⟩,.string ⟨#[]⟩,.string nm,.int .i64 0,.slice none 0 0] 31);have x3:=zA4 w2 (.cells #[.int .i64 13,.string ⟨#[]⟩,.string ⟨#[]⟩,.string nm,.int .i64 0,.slice none 0 0] 31);have ht:=HT.out _ M3.st.rdr;clear hk k2 M1 M2;go_wp2_with fail;generalize w2.heap.size=X at *;refine ht.mono ?_;rintro e w4 ⟨rfl,k4⟩;have M4:=M3.go E hRw k4 hlt2;have x4:=k4.blk x3 hXR;have hx:=HA.out _ M4.st;obtain⟨a1,f1,a3,a4,lt⟩:=M4.st.rdr.cells;clear ht k4 M3 x3;have hX4:=M4.lt;go_wp2_with fail;refine hx.mono ?_;rintro e w5 ⟨hn1,hn2,va,rfl,hva,k5⟩;obtain⟨v5,A5,n5,c5,rfl,rfl,_,_⟩:=hva.cells;have M5:=M4.go E hRw k5 hn2;have x5:=k5.blk x4 hXR;have hva5:=hva.mono (S':=fun k=>w.heap.size<k∧k≠X) (fun k hk=>by have:=zA5 x4;simp only[From] at hk;omega);unfold exV;have hYR:w5.heap.size≠R:=kAs k5.rdr.lt;have hXY:X<w5.heap.size:=zA5 x5;have M6:=M5.alloc (.cells #[.int .i64 a.f0,.string a.f1.f0,.string a.f1.f1,.string a.f2,.int .i64 a.f3,.slice A5 n5 c5] 31);have y6:=zA4 w5 (.cells #[.int .i64 a.f0,.string a.f1.f0,.string a.f1.f1,.string a.f2,.int .i64 a.f3,.slice A5 n5 c5] 31);have x6:(w5.alloc (.cells #[.int .i64 a.f0,.string a.f1.f0,.string a.f1.f1,.string a.f2,.int .i64 a.f3,.slice A5 n5 c5] 31)).heap[X]?=_:=(kA4 _ _ _ hXY).trans x5;have hva6:=hva5.below ((kA3 _ w5).alloc (kA2 _) (.cells #[.int .i64 a.f0,.string a.f1.f0,.string a.f1.f1,.string a.f2,.int .i64 a.f3,.slice A5 n5 c5] 31));have ht:=HT2.out hn2 _ M6.st.rdr;clear hx k5 M4 M5 x4 x5 hva hva5 a1 f1 a3 a4 lt;go_wp2_with fail;generalize w5.heap.size=Y at *;refine ht.mono ?_;rintro e w7 ⟨rfl,k7⟩;have M7:=M6.go E hRw k7 hlt4;have x7:=k7.blk x6 hXR;have y7:=k7.blk y6 hYR;have hva7:=hva6.grown k7.grown (fun k hk e=>by subst e;omega);have M7d:=M7.below ((kA3 _ w7).drew);have hx:=HB.out _ kD4 M7d.st;obtain⟨-,-,hR3,-,hRl⟩:=M7.st.rdr.cells;obtain⟨⟨p0,p1,p2,p3,p4,p5⟩,-,yl⟩:=zA6 y7;have y7d:w7.drew.heap[Y]?=_:=y7;clear ht k7 M6 x6 y6 hva6;go_wp2_with fail
      go_region_with ((first
       | (go_at_call 134;refine hx.mono ?_;rintro e w8 ⟨hm1,hm2,vb,rfl,hvb,k8⟩;obtain⟨u5,A6,n6,c6,rfl,rfl,_,_⟩:=hvb.cells;have M8:=M7d.go E hRw k8 hm2;have x8:=k8.blk x7 hXR;have y8:=k8.blk y7 hYR;obtain⟨⟨r0,r1,r2,r3,r4,r5⟩,-,yl8⟩:=zA6 y8;obtain⟨⟨q0,q1,q2,q3,q4,q5⟩,⟨z0,z1,z2,z3,z4,z5⟩,xl8⟩:=zA6 x8;unfold exV)))
      all_goals
       have hwX:w.heap.size<w7.heap.size:=M7.lt;have hX7:X<w7.heap.size:=zA5 x7;obtain⟨⟨i0,i1,i2,i3,i4,i5⟩,⟨l0,l1,l2,l3,l4,l5⟩,zl8⟩:=zA6 M8.res;have hva8:=(hva7.below ((kA3 _ w7).drew)).grown k8.grown (fun k hk e=>by subst e;omega);have hvb8:=hvb.mono (S':=fun k=>w.heap.size<k∧k≠X) (fun k hk=>by have:w7.heap.size≤k:=hk;exact⟨kD4,kD4⟩);have hrow:=hva8.pair hvb8 ⟨zl8,kAs xl8⟩ ⟨13,z28,nm,0,[a,b]⟩ rfl;have M9:=(M8.alloc (.cells #[.int .i64 a.f0,.string a.f1.f0,.string a.f1.f1,.string a.f2,.int .i64 a.f3,.slice A5 n5 c5,.int .i64 b.f0,.string b.f1.f0,.string b.f1.f1,.string b.f2,.int .i64 b.f3,.slice A6 n6 c6] 31)).setX E hRw hXR hXw ((kA4 _ _ _ xl8).trans x8) 5 (.slice (some ⟨w8.heap.size,0,none⟩) 2 2);have hx9:=(hrow.step (w1:=(w8.alloc (.cells #[.int .i64 a.f0,.string a.f1.f0,.string a.f1.f1,.string a.f2,.int .i64 a.f3,.slice A5 n5 c5,.int .i64 b.f0,.string b.f1.f0,.string b.f1.f1,.string b.f2,.int .i64 b.f3,.slice A6 n6 c6] 31)).setCell ⟨X,5,none⟩ (.slice (some ⟨w8.heap.size,0,none⟩) 2 2)) (fun k hk _=>kA5 _ _ _ _ hk.2)).mono (S':=fun k=>w.heap.size<k) (fun k hk=>hk.1);have hfin:=fin6 (.int .i64 13) (.string ⟨#[]⟩) (.string ⟨#[]⟩) (.string nm) (.int .i64 0) (.slice (some ⟨w8.heap.size,0,none⟩) 2 2) M9.res;have hdone:=M9.done hRw hx9 (show now<j by omega) (.int .i64 13) (.string ⟨#[]⟩) (.string ⟨#[]⟩) (.string nm) (.int .i64 0) (.slice (some ⟨w8.heap.size,0,none⟩) 2 2);simp only[set6,kBa,kAN,xl8,zl8] at hfin hdone;have HF:=kA1 hfin;have HD:=kA1 hdone;clear hfin hdone hx9 M9 hrow hva8 hvb8 hva7 hvb M8 M7 M7d k8 x7 y7 y7d x8 y8;go_wp2;exact kAi (zAg Tryz.results134 _ _ w.heap.size 31 _ (0,0) _ rfl HF.out Tryz.underlying31 rfl zB6) rfl HD.out
 ·rw[kA9 h0];have ht:=fun w' hr=>kind_no R ts (now+1) en 0 w' hr hlt0 (by rw[kAd];exact h0)
  unfold zAm at ht;have HK:=kA1 ht;clear ht h0 hex;unfold atP;generalize (tokP ts en (now+1)).f2=q at *;go_enter Tryz.func134,Tryz.ntmps134;go_wp2_with fail;refine s0.mono ?_;rintro e w1 ⟨rfl,k1⟩;have M1:=M0.go E hRw k1 hlt0;have hk:=HK.out _ M1.st.rdr;go_wp2_with fail;refine hk.mono ?_;rintro e w2 ⟨rfl,hb2⟩;go_wp2;exact⟨rfl,rfl,kAk M1.took.grown hb2⟩
theorem expr_tab (W0:World) (R B:Nat) (ts:List S47) (en now:Nat) (w:World) (E:Env W0 R B ts) (h:St W0 R B ts en now w)
  (h1:sk ts en now ⟨#[108,101,116]⟩=false) (h2:sk ts en now ⟨#[105,102]⟩=false) (h3:sk ts en now ⟨#[116,97,98]⟩=true) (r:PR)
  (hs:∀w',St W0 R B ts en (now+1) w'→Calls Tryz.prog 159 #[.pointer (some ⟨R,0,none⟩),.int .i64 10] w' (zAk w' R ts en (now+1) r)) :
  Calls Tryz.prog 134 #[.pointer (some ⟨R,0,none⟩)] w (zAk w R ts en now r):=by
 have hRw:=h.rdr.lt;have M0:=Mid.start h;have hnow:=h.pos;have few:=E.few;have hlt:=zAv h3;have H1:=kA1 (fun w' hr=>zAT R ts now en ⟨#[108,101,116]⟩ w' hr hnow h1);have H2:=kA1 (fun w' hr=>zAT R ts now en ⟨#[105,102]⟩ w' hr hnow h2);have H3:=kA1 (fun w' hr=>zAE R ts now en ⟨#[116,97,98]⟩ w' hr few h3);have HS:=kA1 hs;clear h h1 h2 h3 hs;have s1:=H1.out _ M0.st.rdr;go_enter Tryz.func134,Tryz.ntmps134;go_wp2_with fail;refine s1.mono ?_;rintro e w1 ⟨rfl,k1⟩;have M1:=M0.go E hRw k1 hnow;have s2:=H2.out _ M1.st.rdr;go_wp2_with fail;refine s2.mono ?_;rintro e w2 ⟨rfl,k2⟩;have M2:=M1.go E hRw k2 hnow;have s3:=H3.out _ M2.st.rdr;go_wp2_with fail;refine s3.mono ?_;rintro e w3 ⟨rfl,k3⟩;have M4:=M2.go E hRw k3 hlt;have hl:=HS.out _ M4.st;clear s1 s2 s3 k1 k2 k3 M0 M1 M2
 cases r with
 | error p =>
  unfold zAk zAm at hl;go_wp2_with (go_at_call 159;refine hl.mono ?_;rintro e w2 ⟨rfl,hg⟩);exact⟨rfl,rfl,kA7 M4.took.grown hg⟩
 | ok r =>
  obtain⟨x,n⟩:=r;unfold zAk at hl;go_wp2_with fail;refine hl.mono ?_;rintro e w5 ⟨hn1,hn2,v,rfl,hx,hk⟩;obtain⟨v5,A5,n5,c5,rfl,rfl,_,_⟩:=hx.cells;unfold exV;have M5:=M4.go E hRw hk hn2;have hx2:=hx.mono (fun k hk=>kBs M4.lt hk);obtain⟨⟨q0,q1,q2,q3,q4,q5⟩,⟨f0,f1,f2,f3,f4,f5⟩,xl2⟩:=zA6 M5.res;go_wp2;refine kAi (zAg Tryz.results134 _ _ w.heap.size 31 _ (0,0) _ rfl (fin6 _ _ _ _ _ _ M5.res) Tryz.underlying31 rfl zB6) rfl (M5.done hRw hx2 kD4 _ _ _ _ _ _)
theorem expr_sum (W0:World) (R B:Nat) (ts:List S47) (en now:Nat) (w:World) (E:Env W0 R B ts) (h:St W0 R B ts en now w)
  (h1:sk ts en now ⟨#[108,101,116]⟩=false) (h2:sk ts en now ⟨#[105,102]⟩=false) (h3:sk ts en now ⟨#[116,97,98]⟩=false) (h4:sk ts en now ⟨#[115,117,109]⟩=true) (r:PR)
  (hs:∀w',St W0 R B ts en (now+1) w'→Calls Tryz.prog 159 #[.pointer (some ⟨R,0,none⟩),.int .i64 11] w' (zAk w' R ts en (now+1) r)) :
  Calls Tryz.prog 134 #[.pointer (some ⟨R,0,none⟩)] w (zAk w R ts en now r):=by
 have hRw:=h.rdr.lt;have M0:=Mid.start h;have hnow:=h.pos;have few:=E.few;have hlt:=zAv h4;have H1:=kA1 (fun w' hr=>zAT R ts now en ⟨#[108,101,116]⟩ w' hr hnow h1);have H2:=kA1 (fun w' hr=>zAT R ts now en ⟨#[105,102]⟩ w' hr hnow h2);have H3:=kA1 (fun w' hr=>zAT R ts now en ⟨#[116,97,98]⟩ w' hr hnow h3);have H4:=kA1 (fun w' hr=>zAE R ts now en ⟨#[115,117,109]⟩ w' hr few h4);have HS:=kA1 hs;clear h h1 h2 h3 h4 hs;have s1:=H1.out _ M0.st.rdr;go_enter Tryz.func134,Tryz.ntmps134;go_wp2_with fail;refine s1.mono ?_;rintro e w1 ⟨rfl,k1⟩;have M1:=M0.go E hRw k1 hnow;have s2:=H2.out _ M1.st.rdr;go_wp2_with fail;refine s2.mono ?_;rintro e w2 ⟨rfl,k2⟩;have M2:=M1.go E hRw k2 hnow;have s3:=H3.out _ M2.st.rdr;go_wp2_with fail;refine s3.mono ?_;rintro e w3 ⟨rfl,k3⟩;have M3:=M2.go E hRw k3 hnow;have s4:=H4.out _ M3.st.rdr;go_wp2_with fail;refine s4.mono ?_;rintro e w4 ⟨rfl,k4⟩;have M4:=M3.go E hRw k4 hlt;have hl:=HS.out _ M4.st;clear s1 s2 s3 s4 k1 k2 k3 k4 M0 M1 M2 M3
 cases r with
 | error p =>
  unfold zAk zAm at hl;go_wp2_with (go_at_call 159;refine hl.mono ?_;rintro e w2 ⟨rfl,hg⟩);exact⟨rfl,rfl,kA7 M4.took.grown hg⟩
 | ok r =>
  obtain⟨x,n⟩:=r;unfold zAk at hl;go_wp2_with fail;refine hl.mono ?_;rintro e w5 ⟨hn1,hn2,v,rfl,hx,hk⟩;obtain⟨v5,A5,n5,c5,rfl,rfl,_,_⟩:=hx.cells;unfold exV;have M5:=M4.go E hRw hk hn2;have hx2:=hx.mono (fun k hk=>kBs M4.lt hk);obtain⟨⟨q0,q1,q2,q3,q4,q5⟩,⟨f0,f1,f2,f3,f4,f5⟩,xl2⟩:=zA6 M5.res;go_wp2;refine kAi (zAg Tryz.results134 _ _ w.heap.size 31 _ (0,0) _ rfl (fin6 _ _ _ _ _ _ M5.res) Tryz.underlying31 rfl zB6) rfl (M5.done hRw hx2 kD4 _ _ _ _ _ _)
end Go.Proofs.YtjaobihcdkjmbaaGreatDoor
end
