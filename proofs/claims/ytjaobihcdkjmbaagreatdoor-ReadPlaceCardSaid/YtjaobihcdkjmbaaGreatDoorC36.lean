/- The law ReadPlace answers true for every argument; a part of its proof. -/
import Derived.Test.YtjaobihcdkjmbaaGreatDoorCa
import Derived.Test.YtjaobihcdkjmbaaGreatDoorCb
import Derived.Test.YtjaobihcdkjmbaaGreatDoorC0
import Derived.Test.YtjaobihcdkjmbaaGreatDoorC7
import Derived.Test.YtjaobihcdkjmbaaGreatDoorC8
import Derived.Test.YtjaobihcdkjmbaaGreatDoorC12
import Derived.Test.YtjaobihcdkjmbaaGreatDoorC15
import Derived.Test.YtjaobihcdkjmbaaGreatDoorC20
import Derived.Test.YtjaobihcdkjmbaaGreatDoorC25
set_option linter.unusedVariables false
set_option linter.unusedSimpArgs false
namespace Go.Proofs.YtjaobihcdkjmbaaGreatDoor.PReadTokens
end Go.Proofs.YtjaobihcdkjmbaaGreatDoor.PReadTokens
namespace Go.Proofs.YtjaobihcdkjmbaaGreatDoorW.PrintWords
end Go.Proofs.YtjaobihcdkjmbaaGreatDoorW.PrintWords
set_option maxRecDepth 100000
set_option maxHeartbeats 4000000
section
namespace Go.Proofs.YtjaobihcdkjmbaaGreatDoor
open Go.RowKit Go.Proofs.YtjaobihcdkjmbaaGreatDoorW.PrintWords Go.Proofs.YtjaobihcdkjmbaaGreatDoor.PReadTokens
theorem open_ref (num:S28) (name:ByteArray) (size:Int) (v:Value) (w:World) (hv:Vw w ⟨1,num,name,size,[]⟩ v) :
  Calls Tryz.prog 46 #[v] w fun e w'=>e=.returned (.string name)∧Below w.heap.size w w':=by
 obtain⟨A,c,rfl,hc1,hc2⟩:=hv.out;unfold exV at hv⊢;simp only at hv⊢;clear hv hc2;go_enter Tryz.func46,Tryz.ntmps46;go_wp2;go_ret;exact⟨rfl,(kA3 _ w).alloc (kA2 _) _⟩
theorem open_lit (num:S28) (name:ByteArray) (size:Int) (v:Value) (w:World) (hv:Vw w ⟨0,num,name,size,[]⟩ v) (h1:num.f0.size≤1000000) (h2:num.f1.size≤1000000) (h3:name.size≤1000000) :
  Calls Tryz.prog 46 #[v] w fun e w'=>e=.returned (.string (litR num name))∧Below w.heap.size w w':=by
 obtain⟨A,c,rfl,hc1,hc2⟩:=hv.out;unfold exV at hv⊢;simp only at hv⊢;clear hv hc2;have HL:Hid (∀a b,(num.f1.toList == [49])=a→(name.toList == [])=b→litR num name=(if b then (if a then num.f0 else num.f0++⟨#[124]⟩++num.f1) else (if a then num.f0 else num.f0++⟨#[124]⟩++num.f1)++⟨#[123]⟩++name++⟨#[125]⟩)):=kA1 (fun a b ha hb=>by unfold litR litN;rw[ha,hb]);generalize litR num name=r at *;have a0:∀w,(Op.stringOp .add num.f0 ⟨#[124]⟩).run Tryz.prog w=.ok (.string (num.f0++⟨#[124]⟩)) w:=fun w=>kAm w _ _ kDK
 have a1:∀w,(Op.stringOp .add (num.f0++⟨#[124]⟩) num.f1).run Tryz.prog w=.ok (.string (num.f0++⟨#[124]⟩++num.f1)) w:=fun w=>kAm w _ _ kD5
 have hadd:∀(n:ByteArray) (w:World),n.size≤2000001→(Op.stringOp .add n ⟨#[123]⟩).run Tryz.prog w=.ok (.string (n++⟨#[123]⟩)) w∧(Op.stringOp .add (n++⟨#[123]⟩) name).run Tryz.prog w=.ok (.string (n++⟨#[123]⟩++name)) w ∧
   (Op.stringOp .add (n++⟨#[123]⟩++name) ⟨#[125]⟩).run Tryz.prog w=.ok (.string (n++⟨#[123]⟩++name++⟨#[125]⟩)) w:=fun n w hn=>by
  refine⟨kAm w _ _ ?_,kAm w _ _ ?_,kAm w _ _ ?_⟩<;>simp only[kAd,ByteArray.size_mk',kAf,List.length_cons,List.length_nil]<;>omega
 have HA:=kA1 hadd;clear hadd;have BW:=(kA3 _ w).alloc (kA2 _) (.cells #[.int .i64 0,.string num.f0,.string num.f1,.string name,.int .i64 size,.slice A 0 c] 31)
 cases ha:(num.f1.toList == [49]) with
 | true =>
  cases hb:(name.toList == []) with
  | true =>
   obtain rfl:=HL.out _ _ ha hb;go_enter Tryz.func46,Tryz.ntmps46;go_wp2;go_ret;exact⟨rfl,BW⟩
  | false =>
   have hr:=HL.out _ _ ha hb;simp only[if_true,kCh,if_false] at hr;have hb2:name.toList.isEmpty=false:=by rw[← hb];cases name.toList<;>rfl
   have b0:=fun w=>(HA.out num.f0 w kCW).1
   have b1:=fun w=>(HA.out num.f0 w kCW).2.1
   have b2:=fun w=>(HA.out num.f0 w kCW).2.2
   have HR:=kA1 hr;clear hr a0 a1;go_enter Tryz.func46,Tryz.ntmps46;go_wp2;go_ret;exact⟨by rw[HR.out];rfl,BW⟩
 | false =>
  cases hb:(name.toList == []) with
  | true =>
   have hr:=HL.out _ _ ha hb;simp only[if_true,kCh,if_false] at hr;have HR:=kA1 hr;clear hr;go_enter Tryz.func46,Tryz.ntmps46;go_wp2;go_ret;exact⟨by rw[HR.out];rfl,BW⟩
  | false =>
   have hr:=HL.out _ _ ha hb;simp only[if_true,kCh,if_false] at hr;have hb2:name.toList.isEmpty=false:=by rw[← hb];cases name.toList<;>rfl
   have hsz:(num.f0++⟨#[124]⟩++num.f1).size≤2000001:=kD5
   have b0:=fun w=>(HA.out _ w hsz).1
   have b1:=fun w=>(HA.out _ w hsz).2.1
   have b2:=fun w=>(HA.out _ w hsz).2.2
   have HR:=kA1 hr;clear hr hsz;go_enter Tryz.func46,Tryz.ntmps46;go_wp2;go_ret;exact⟨by rw[HR.out];rfl,BW⟩
theorem open_list (num:S28) (name:ByteArray) (size:Int) (l:List S31) (v:Value) (w:World) (hv:Vw w ⟨8,num,name,size,l⟩ v) (hs:(zBX (l.map fun y=>zAj y 0)).size≤1000000)
  (hr:∀A c w,k31.C w A l.length l→Calls Tryz.prog 85 #[.slice A l.length c] w fun e w'=>e=.returned (.string (zBX (l.map fun y=>zAj y 0)))∧Below w.heap.size w w') :
  Calls Tryz.prog 46 #[v] w fun e w'=>e=.returned (.string (⟨#[91]⟩++zBX (l.map fun y=>zAj y 0)++⟨#[93]⟩))∧Below w.heap.size w w':=by
 obtain⟨A,c,rfl,hc1,hc2⟩:=hv.out;unfold exV at hv⊢;simp only at hv hc2 ⊢;have BW:=(kA3 _ w).alloc (kA2 _) (.cells #[.int .i64 8,.string num.f0,.string num.f1,.string name,.int .i64 size,.slice A l.length c] 31);have HR:=kA1 (hr A c _ (Kd.C_below hc2 BW));clear hv hc2 hr;generalize zBX (l.map fun y=>zAj y 0)=t at *;have a0:∀w,(Op.stringOp .add ⟨#[91]⟩ t).run Tryz.prog w=.ok (.string (⟨#[91]⟩++t)) w:=fun w=>kAm w _ _ kDK
 have a1:∀w,(Op.stringOp .add (⟨#[91]⟩++t) ⟨#[93]⟩).run Tryz.prog w=.ok (.string (⟨#[91]⟩++t++⟨#[93]⟩)) w:=fun w=>kAm w _ _ kD5
 go_enter Tryz.func46,Tryz.ntmps46;go_wp2_with fail;refine HR.out.mono ?_;rintro e w1 ⟨rfl,hb1⟩;go_wp2;go_ret;exact⟨rfl,BW.trans (hb1.mono BW.size)⟩
theorem open_call (num:S28) (name:ByteArray) (size:Int) (l:List S31) (v:Value) (w:World) (hv:Vw w ⟨14,num,name,size,l⟩ v) (hs:(zBX (l.map fun y=>zAj y 0)).size≤1000000) (hn:name.size≤1000000)
  (hr:∀A c w,k31.C w A l.length l→Calls Tryz.prog 85 #[.slice A l.length c] w fun e w'=>e=.returned (.string (zBX (l.map fun y=>zAj y 0)))∧Below w.heap.size w w') :
  Calls Tryz.prog 46 #[v] w fun e w'=>e=.returned (.string (name++⟨#[40]⟩++zBX (l.map fun y=>zAj y 0)++⟨#[41]⟩))∧Below w.heap.size w w':=by
 obtain⟨A,c,rfl,hc1,hc2⟩:=hv.out;unfold exV at hv⊢;simp only at hv hc2 ⊢;have BW:=(kA3 _ w).alloc (kA2 _) (.cells #[.int .i64 14,.string num.f0,.string num.f1,.string name,.int .i64 size,.slice A l.length c] 31);have hbl:=zA4 w (.cells #[.int .i64 14,.string num.f0,.string num.f1,.string name,.int .i64 size,.slice A l.length c] 31);obtain⟨⟨p0,p1,p2,p3,p4,p5⟩,_,xl⟩:=zA9 hbl;have HR:=kA1 (fun w h=>hr A c w h);have HC:=kA1 hc2;clear hv hc2 hr;generalize zBX (l.map fun y=>zAj y 0)=t at *;have a0:∀w,(Op.stringOp .add name ⟨#[40]⟩).run Tryz.prog w=.ok (.string (name++⟨#[40]⟩)) w:=fun w=>kAm w _ _ kDK
 have a1:∀w,(Op.stringOp .add (name++⟨#[40]⟩) t).run Tryz.prog w=.ok (.string (name++⟨#[40]⟩++t)) w:=fun w=>kAm w _ _ kD5
 have a2:∀w,(Op.stringOp .add (name++⟨#[40]⟩++t) ⟨#[41]⟩).run Tryz.prog w=.ok (.string (name++⟨#[40]⟩++t++⟨#[41]⟩)) w:=fun w=>kAm w _ _ kD5
 go_enter Tryz.func46,Tryz.ntmps46;go_wp2_with fail;generalize hX:w.alloc (.cells #[.int .i64 14,.string num.f0,.string num.f1,.string name,.int .i64 size,.slice A l.length c] 31)=X at *;have BW:=BW.drew;have K:X.drew.cell? ⟨w.heap.size,3,none⟩=some (.string name)∧X.drew.cell? ⟨w.heap.size,5,none⟩=some (.slice A l.length c):=⟨p3,p5⟩;have C:=Kd.C_below HC.out BW;clear hbl p0 p1 p2 p3 p4 p5 xl
 go_region_held3 (fun w':World=>w'.cell? ⟨w.heap.size,3,none⟩=some (.string name)∧w'.cell? ⟨w.heap.size,5,none⟩=some (.slice A l.length c)) (first | exact K) (first
  | (go_at_call 85;refine (HR.out _ C).mono ?_;rintro e wq ⟨rfl,hq⟩;have K:=(⟨zA0 hq K.1,zA0 hq K.2⟩:wq.cell? ⟨w.heap.size,3,none⟩=some (.string name)∧wq.cell? ⟨w.heap.size,5,none⟩=some (.slice A l.length c));have BW:=BW.trans (hq.mono BW.size)))
 all_goals
  go_wp2;go_ret;exact⟨rfl,BW⟩
def refKind (op size:Int) (k:Nat):Prop :=
 ((op=0∨op=1)∧k=0)∨(op=2∧k=1)∨((op=3∨op=4∨op=5∨op=6∨op=9∨op=13)∧k=2)∨((op=7∨op=10∨op=11)∧k=1∧-9≤size∧size≤99)∨(op=12∧k=4)∨(op=8∨op=14)
inductive RefOk:S31→Prop
 | mk (op:Int) (num:S28) (name:ByteArray) (size:Int) (l:List S31) (hk:refKind op size l.length) (h0:num.f0.size≤1000000) (h1:num.f1.size≤1000000) (h2:name.size≤1000000) (h3:l.length≤1000000)
   (hj:∀j,j≤l.length→(zBX ((l.take j).map fun y=>zAj y 0)).size≤1000000) (hs:∀y∈l,(zCd y).size≤999000) (hl:∀y∈l,RefOk y):RefOk ⟨op,num,name,size,l⟩
theorem open_all (x:S31) (h:RefOk x):∀v w,Vw w x v→Calls Tryz.prog 46 #[v] w fun e w'=>e=.returned (.string (zCd x))∧Below w.heap.size w w':=by
 induction h with
 | mk op num name size l hk h0 h1 h2 h3 hj hs hl ih =>
  intro v w hv;have ht:∀y∈l,∀want v w,Vw w y v→Calls Tryz.prog 83 #[v,.int .i64 want] w fun e w'=>e=.returned (.string (zAj y want))∧Below w.heap.size w w' :=
   fun y hy want v w hv=>rtext_of y (by have:=hs y hy;omega) (ih y hy) want v w hv
  have hts:∀y∈l,∀want,(zAj y want).size≤1000000:=fun y hy want=>by have:=hs y hy;have:=zEZ y want;omega
  have hjf:(zBX (l.map fun y=>zAj y 0)).size≤1000000:=by have:=hj l.length (kA2 _);rwa [kB5] at this
  have htx:∀A c w,k31.C w A l.length l→Calls Tryz.prog 85 #[.slice A l.length c] w fun e w'=>e=.returned (.string (zBX (l.map fun y=>zAj y 0)))∧Below w.heap.size w w' :=
   fun A c w hc=>rtexts_of l h3 hj (fun j h=>hts _ (kAR h) 0) (fun j h v w hv=>ht _ (kAR h) 0 v w hv) A c w hc
  rcases hk with⟨rfl | rfl,hk⟩ | ⟨rfl,hk⟩ | ⟨rfl | rfl | rfl | rfl | rfl | rfl,hk⟩ | ⟨rfl | rfl | rfl,hk,hz0,hz1⟩ | ⟨rfl,hk⟩ | (rfl | rfl)
  ·match l,hk with
   | [],_=>exact open_lit num name size v w hv h0 h1 h2
  ·match l,hk with
   | [],_=>exact open_ref num name size v w hv
  ·match l,hk with
   | [a],_=>exact open_op2 num name size a v w hv h2 (fun v w=>ht a kCY _ v w) (hts a kCY _)
  ·match l,hk with
   | [a,b],_=>exact open_op3 num name size a b v w hv h2 (fun v w=>ht a kCY _ v w) (hts a kCY _) (fun v w=>ht b kCY _ v w) (hts b kCY _)
  ·match l,hk with
   | [a,b],_=>exact open_op4 num name size a b v w hv h2 (fun v w=>ht a kCY _ v w) (hts a kCY _) (fun v w=>ht b kCY _ v w) (hts b kCY _)
  ·match l,hk with
   | [a,b],_=>exact open_op5 num name size a b v w hv h2 (fun v w=>ht a kCY _ v w) (hts a kCY _) (fun v w=>ht b kCY _ v w) (hts b kCY _)
  ·match l,hk with
   | [a,b],_=>exact open_op6 num name size a b v w hv h2 (fun v w=>ht a kCY _ v w) (hts a kCY _) (fun v w=>ht b kCY _ v w) (hts b kCY _)
  ·match l,hk with
   | [a,b],_=>exact open_op9 num name size a b v w hv h2 (fun v w=>ht a kCY _ v w) (hts a kCY _) (fun v w=>ht b kCY _ v w) (hts b kCY _)
  ·match l,hk with
   | [a,b],_=>exact open_op13 num name size a b v w hv h2 (fun v w=>ht a kCY _ v w) (hts a kCY _) (fun v w=>ht b kCY _ v w) (hts b kCY _)
  ·match l,hk with
   | [a],_=>exact open_op7 num name size a v w hv h2 hz0 hz1 (fun v w=>ht a kCY _ v w) (hts a kCY _)
  ·match l,hk with
   | [a],_=>exact open_op10 num name size a v w hv h2 hz0 hz1 (fun v w=>ht a kCY _ v w) (hts a kCY _)
  ·match l,hk with
   | [a],_=>exact open_op11 num name size a v w hv h2 hz0 hz1 (fun v w=>ht a kCY _ v w) (hts a kCY _)
  ·match l,hk with
   | [a,b,c,d],_=>exact open_op12 num name size a b c d v w hv h2 (fun v w=>ht a kCY _ v w) (hts a kCY _) (fun v w=>ht b kCY _ v w) (hts b kCY _) (fun v w=>ht c kCY _ v w) (hts c kCY _) (fun v w=>ht d kCY _ v w) (hts d kCY _)
  ·have e:zCd ⟨8,num,name,size,l⟩=⟨#[91]⟩++zBX (l.map fun y=>zAj y 0)++⟨#[93]⟩:=by
    rw[← zDS];rfl
   rw[e];exact open_list num name size l v w hv hjf htx
  ·have e:zCd ⟨14,num,name,size,l⟩=name++⟨#[40]⟩++zBX (l.map fun y=>zAj y 0)++⟨#[41]⟩:=by
    rw[← zDS];rfl
   rw[e];exact open_call num name size l v w hv hjf h2 htx
theorem zEe (x:S31) (h:RefOk x) (v:Value) (w:World) (hv:Vw w x v):Calls Tryz.prog 12 #[v] w fun e w'=>e=.returned (.string (zCd x))∧Below w.heap.size w w':=by
 obtain⟨A,c,rfl,hc1,hc2⟩:=hv.out;have HO:=kA1 (open_all x h);have HV:=kA1 hv;have BW:=(kA3 _ w).alloc (kA2 _) (.cells #[.int .i64 x.f0,.string x.f1.f0,.string x.f1.f1,.string x.f2,.int .i64 x.f3,.slice A x.f4.length c] 31);generalize zCd x=r at *;unfold exV at *;clear h hv hc2;go_enter Tryz.func12,Tryz.ntmps12;go_wp2_with fail;refine (HO.out _ _ (HV.out.below BW)).mono ?_;rintro e w1 ⟨rfl,hb1⟩;go_wp2;go_ret;exact⟨rfl,BW.trans (hb1.mono BW.size)⟩
theorem expr_tab (W0:World) (R B:Nat) (ts:List S47) (en now:Nat) (w:World) (E:Env W0 R B ts) (h:St W0 R B ts en now w)
  (h1:sk ts en now ⟨#[108,101,116]⟩=false) (h2:sk ts en now ⟨#[105,102]⟩=false) (h3:sk ts en now ⟨#[116,97,98]⟩=true) (r:PR)
  (hs:∀w',St W0 R B ts en (now+1) w'→Calls Tryz.prog 159 #[.pointer (some ⟨R,0,none⟩),.int .i64 10] w' (zAi w' R ts en (now+1) r)) :
  Calls Tryz.prog 134 #[.pointer (some ⟨R,0,none⟩)] w (zAi w R ts en now r):=by
 have hRw:=h.rdr.lt;have M0:=Mid.start h;have hnow:=h.pos;have few:=E.few;have hlt:=zAw h3;have H1:=kA1 (fun w' hr=>zB1 R ts now en ⟨#[108,101,116]⟩ w' hr hnow h1);have H2:=kA1 (fun w' hr=>zB1 R ts now en ⟨#[105,102]⟩ w' hr hnow h2);have H3:=kA1 (fun w' hr=>zAF R ts now en ⟨#[116,97,98]⟩ w' hr few h3);have HS:=kA1 hs;clear h h1 h2 h3 hs;have s1:=H1.out _ M0.st.rdr;go_enter Tryz.func134,Tryz.ntmps134;go_wp2_with fail;refine s1.mono ?_;rintro e w1 ⟨rfl,k1⟩;have M1:=M0.go E hRw k1 hnow;have s2:=H2.out _ M1.st.rdr;go_wp2_with fail;refine s2.mono ?_;rintro e w2 ⟨rfl,k2⟩;have M2:=M1.go E hRw k2 hnow;have s3:=H3.out _ M2.st.rdr;go_wp2_with fail;refine s3.mono ?_;rintro e w3 ⟨rfl,k3⟩;have M4:=M2.go E hRw k3 hlt;have hl:=HS.out _ M4.st;clear s1 s2 s3 k1 k2 k3 M0 M1 M2
 cases r with
 | error p =>
  unfold zAi zAk at hl;go_wp2_with (go_at_call 159;refine hl.mono ?_;rintro e w2 ⟨rfl,hg⟩);exact⟨rfl,rfl,kA9 M4.took.grown hg⟩
 | ok r =>
  obtain⟨x,n⟩:=r;unfold zAi at hl;go_wp2_with fail;refine hl.mono ?_;rintro e w5 ⟨hn1,hn2,v,rfl,hx,hk⟩;obtain⟨v5,A5,n5,c5,rfl,rfl,_,_⟩:=hx.cells;unfold exV;have M5:=M4.go E hRw hk hn2;have hx2:=hx.mono (fun k hk=>kBi M4.lt hk);obtain⟨⟨q0,q1,q2,q3,q4,q5⟩,⟨f0,f1,f2,f3,f4,f5⟩,xl2⟩:=zA9 M5.res;go_wp2;refine kAg (zAe Tryz.results134 _ _ w.heap.size 31 _ (0,0) _ rfl (fin6 _ _ _ _ _ _ M5.res) Tryz.underlying31 rfl zB6) rfl (M5.done hRw hx2 kCW _ _ _ _ _ _)
theorem expr_sum (W0:World) (R B:Nat) (ts:List S47) (en now:Nat) (w:World) (E:Env W0 R B ts) (h:St W0 R B ts en now w)
  (h1:sk ts en now ⟨#[108,101,116]⟩=false) (h2:sk ts en now ⟨#[105,102]⟩=false) (h3:sk ts en now ⟨#[116,97,98]⟩=false) (h4:sk ts en now ⟨#[115,117,109]⟩=true) (r:PR)
  (hs:∀w',St W0 R B ts en (now+1) w'→Calls Tryz.prog 159 #[.pointer (some ⟨R,0,none⟩),.int .i64 11] w' (zAi w' R ts en (now+1) r)) :
  Calls Tryz.prog 134 #[.pointer (some ⟨R,0,none⟩)] w (zAi w R ts en now r):=by
 have hRw:=h.rdr.lt;have M0:=Mid.start h;have hnow:=h.pos;have few:=E.few;have hlt:=zAw h4;have H1:=kA1 (fun w' hr=>zB1 R ts now en ⟨#[108,101,116]⟩ w' hr hnow h1);have H2:=kA1 (fun w' hr=>zB1 R ts now en ⟨#[105,102]⟩ w' hr hnow h2);have H3:=kA1 (fun w' hr=>zB1 R ts now en ⟨#[116,97,98]⟩ w' hr hnow h3);have H4:=kA1 (fun w' hr=>zAF R ts now en ⟨#[115,117,109]⟩ w' hr few h4);have HS:=kA1 hs;clear h h1 h2 h3 h4 hs;have s1:=H1.out _ M0.st.rdr;go_enter Tryz.func134,Tryz.ntmps134;go_wp2_with fail;refine s1.mono ?_;rintro e w1 ⟨rfl,k1⟩;have M1:=M0.go E hRw k1 hnow;have s2:=H2.out _ M1.st.rdr;go_wp2_with fail;refine s2.mono ?_;rintro e w2 ⟨rfl,k2⟩;have M2:=M1.go E hRw k2 hnow;have s3:=H3.out _ M2.st.rdr;go_wp2_with fail;refine s3.mono ?_;rintro e w3 ⟨rfl,k3⟩;have M3:=M2.go E hRw k3 hnow;have s4:=H4.out _ M3.st.rdr;go_wp2_with fail;refine s4.mono ?_;rintro e w4 ⟨rfl,k4⟩;have M4:=M3.go E hRw k4 hlt;have hl:=HS.out _ M4.st;clear s1 s2 s3 s4 k1 k2 k3 k4 M0 M1 M2 M3
 cases r with
 | error p =>
  unfold zAi zAk at hl;go_wp2_with (go_at_call 159;refine hl.mono ?_;rintro e w2 ⟨rfl,hg⟩);exact⟨rfl,rfl,kA9 M4.took.grown hg⟩
 | ok r =>
  obtain⟨x,n⟩:=r;unfold zAi at hl;go_wp2_with fail;refine hl.mono ?_;rintro e w5 ⟨hn1,hn2,v,rfl,hx,hk⟩;obtain⟨v5,A5,n5,c5,rfl,rfl,_,_⟩:=hx.cells;unfold exV;have M5:=M4.go E hRw hk hn2;have hx2:=hx.mono (fun k hk=>kBi M4.lt hk);obtain⟨⟨q0,q1,q2,q3,q4,q5⟩,⟨f0,f1,f2,f3,f4,f5⟩,xl2⟩:=zA9 M5.res;go_wp2;refine kAg (zAe Tryz.results134 _ _ w.heap.size 31 _ (0,0) _ rfl (fin6 _ _ _ _ _ _ M5.res) Tryz.underlying31 rfl zB6) rfl (M5.done hRw hx2 kCW _ _ _ _ _ _)
end Go.Proofs.YtjaobihcdkjmbaaGreatDoor
end
