/- What can be read as an expression is printed as a text that reads as the same, and is printed as itself: for every argument; a part of its proof. -/
import Derived.Test.YtjaobihcdkjmbaaGreatDoorDa
import Derived.Test.YtjaobihcdkjmbaaGreatDoorDb
import Derived.Test.YtjaobihcdkjmbaaGreatDoorTie
import Derived.Test.YtjaobihcdkjmbaaGreatDoorCards
import Derived.Test.YtjaobihcdkjmbaaGreatDoorD0
import Derived.Test.YtjaobihcdkjmbaaGreatDoorD7
import Derived.Test.YtjaobihcdkjmbaaGreatDoorD9
import Derived.Test.YtjaobihcdkjmbaaGreatDoorD10
import Derived.Test.YtjaobihcdkjmbaaGreatDoorD11
import Derived.Test.YtjaobihcdkjmbaaGreatDoorD16
import Derived.Test.YtjaobihcdkjmbaaGreatDoorD17
import Derived.Test.YtjaobihcdkjmbaaGreatDoorD19
import Derived.Test.YtjaobihcdkjmbaaGreatDoorD20
import Derived.Test.YtjaobihcdkjmbaaGreatDoorD21
import Derived.Test.YtjaobihcdkjmbaaGreatDoorD22
import Derived.Test.YtjaobihcdkjmbaaGreatDoorD23
import Derived.Test.YtjaobihcdkjmbaaGreatDoorD24
import Derived.Test.YtjaobihcdkjmbaaGreatDoorD26
import Derived.Test.YtjaobihcdkjmbaaGreatDoorD27
import Derived.Test.YtjaobihcdkjmbaaGreatDoorD28
import Derived.Test.YtjaobihcdkjmbaaGreatDoorD29
import Derived.Test.YtjaobihcdkjmbaaGreatDoorD30
import Derived.Test.YtjaobihcdkjmbaaGreatDoorD35
import Derived.Test.YtjaobihcdkjmbaaGreatDoorD36
import Derived.Test.YtjaobihcdkjmbaaGreatDoorD37
set_option linter.unusedVariables false
set_option linter.unusedSimpArgs false
namespace Go.Proofs.YtjaobihcdkjmbaaGreatDoor.PReadTokens
end Go.Proofs.YtjaobihcdkjmbaaGreatDoor.PReadTokens
namespace Go.Proofs.YtjaobihcdkjmbaaGreatDoorW.PrintWords
end Go.Proofs.YtjaobihcdkjmbaaGreatDoorW.PrintWords
set_option maxRecDepth 100000
set_option maxHeartbeats 4000000
section
namespace Go.Proofs.YtjaobihcdkjmbaaGreatDoor
open Go.RowKit Go.Maps Go.Sort Go.Proofs.YtjaobihcdkjmbaaGreatDoorW.PrintWords Go.Proofs.YtjaobihcdkjmbaaGreatDoor.PReadTokens
def zGn (D:DataW Unit) (w:World) (e:Ending) (w':World):Prop :=
 ∃(v:Value) (ss:List (List UInt8)),e=.returned v∧ss.Perm (strKeys D)∧w'.ownsRow (w.heap.size+1) 9 1 v ss.length ((ss.mergeSort (fun x y=>decide (x≤y))).map encStr)∧(v=.slice none 0 0↔ss=[])∧Below w.heap.size w w'
theorem names_calls (b nn:Nat) (D:DataW Unit) (w:World) (hm:MapAt w b nn D) (hn:nn≤1000000000) :
  Calls Tryz.prog 74 #[.map (some b)] w (zGn D w):=by
 have hsz:=hm.size_le;have hs:=Tryz.slices_Sorted_keys_111_112 b nn D (plainElem Tryz.prog 4) w hm kDn kD4;refine (kBp (n:=6)).1 ?_;have hfK:Fence.wide.fn 112:=trivial;have hfS:Fence.wide.fn 111:=trivial;have hD:Fence.wide.depth.isSome=false:=rfl;refine kCB Tryz.func74 rfl trivial ?_;simp only[Tryz.ntmps74,kAb,List.length_cons,List.length_nil,Nat.reduceAdd,Nat.reduceSub,kB2,Array.replicate_zero,kBk,kAR,List.nil_append,List.cons_append]
 gi_wp2_with (first
  | (gi_at_call 112;refine (Tryz.maps_Keys_112 _ _).mono ?_;rintro e w' ⟨rfl,rfl⟩)
  | (gi_at_call 111;refine hs.mono ?_;rintro e w' ⟨v,ss,rfl,hS,hrow,hnil,hb⟩))
 go_ret;unfold zGn;refine⟨v,ss,rfl,hS,by rwa [kAw] at hrow,hnil,?_⟩;exact ((kA3 _ w).alloc (kA2 _) _).trans (hb.mono kD6)
end Go.Proofs.YtjaobihcdkjmbaaGreatDoor
end
section
namespace Go.Proofs.YtjaobihcdkjmbaaGreatDoor
open Go.RowKit Go.Proofs.YtjaobihcdkjmbaaGreatDoorW.PrintWords Go.Proofs.YtjaobihcdkjmbaaGreatDoor.PReadTokens
def sumZ:List ByteArray→Nat
 | []=>0
 | t :: ts=>t.size+2+sumZ ts
theorem fold_size:∀(ts:List ByteArray) (a:ByteArray),(ts.foldl (fun a u=>a++⟨#[44,32]⟩++u) a).size≤a.size+sumZ ts:=by
 intro ts
 induction ts with
 | nil=>intro a;simp[sumZ]
 | cons u ts ih =>
  intro a;have h1:=ih (a++⟨#[44,32]⟩++u);simp only[kA6,ByteArray.size_mk',kAb,List.length_cons,List.length_nil] at h1;simp only[List.foldl_cons,sumZ];omega
theorem joinR_sum (l:List ByteArray):(zAV l).size≤sumZ l:=by
 cases l with
 | nil=>show 0≤_;omega
 | cons t ts=>have:=fold_size ts t;unfold zAV;simp only[sumZ];omega
theorem sumZ_nodes:∀l:List S31,(∀y∈l,(zAr y).size+10≤1000*zAl y)→sumZ (l.map fun y=>zA7 y 0)≤1000*zAy l
 | [],_=>by simp[sumZ]
 | y :: l,h=>by
  have h1:=h y kD6;have h2:=sumZ_nodes l (fun z hz=>h z (kAM _ hz));have h3:=zCK y 0;simp only[kAh,sumZ,zAy];omega
theorem zFS {num:S28} (h:chkR num=0):num.f0.size≤401∧num.f1.size≤401:=by
 obtain⟨_,h1,_,h2,_⟩:=chk_num h;have key:∀s:ByteArray,(zBr s).size≤400→s.size≤401:=fun s h=>by
  unfold zBr at h;split at h
  ·rw[kBr] at h;omega
  ·omega
 exact⟨key _ h1,key _ h2⟩
theorem zDX {s:ByteArray} (h:zBQ s=true):s.size≤12:=by
 unfold zBQ at h;simp only[kAo,kAU] at h;omega
theorem unitB_20 {s:ByteArray} (h:zCe s=true):s.size≤20:=by
 unfold zCe at h;simp only[kAo,kAU] at h;omega
theorem open_small:∀(d:Nat) (x:S31),zAI x≤d→OkX x→(zAr x).size+10≤1000*zAl x:=by
 intro d
 induction d with
 | zero=>intro x h;rw[zAw] at h;omega
 | succ d ih =>
  intro x hd hx;obtain⟨x,hl,ho⟩:=hx;have hn:=zCT hl;rw[zAw] at hd;have hy:∀y∈x.f4,(zAr y).size+10≤1000*zAl y:=fun y hy=>ih y (by have:=zBh hy;omega) (ho y hy)
  have hr:∀y∈x.f4,∀ls,(zA7 y ls).size+8≤1000*zAl y:=fun y h ls=>by have:=hy y h;have:=zCK y ls;omega
  have hj:=kAB (joinR_sum _) (sumZ_nodes x.f4 hy);rw[zB3];clear ih hd ho hl;obtain⟨op,num,name,size,l⟩:=x;simp only at *;unfold nodeG at hn;rcases hn with⟨rfl,h1,h2,h3,rfl,hk⟩ | ⟨rfl,rfl,hm,rfl,hk⟩ | ⟨rfl,rfl,rfl,rfl,hk⟩ | ⟨ho,rfl,rfl,rfl,hk⟩ | ⟨rfl,rfl,rfl,⟨hs0,hs1⟩,hk⟩ | ⟨rfl,rfl,rfl,rfl,hk0,hk1⟩ | ⟨ho,rfl,hm,⟨hs0,hs1⟩,hk⟩ | ⟨rfl,rfl,rfl,rfl,hk⟩ | ⟨rfl,rfl,hm,rfl,hk⟩ | ⟨rfl,rfl,hm,rfl,hk⟩
  ·obtain rfl:l=[]:=kAK hk;have a:=zFS h1;have b:name.size≤20:=by rcases h3 with rfl | h3;exact kAI _;exact unitB_20 h3
   have c:=litR_size num name;have e:zAr ⟨0,num,name,0,[]⟩=litR num name:=rfl;rw[e];simp only[zAy];omega
  ·obtain rfl:l=[]:=kAK hk;have a:=zDX hm;have e:zAr ⟨1,z28,name,0,[]⟩=name:=rfl;rw[e];simp only[zAy];omega
  ·obtain⟨y,rfl⟩:=len1 hk;have a:=hr y kD6 2;have e:zAr ⟨2,z28,eB,0,[y]⟩=⟨#[45]⟩++zA7 y 2:=rfl;rw[e];clear hr hy hj;simp only[kA6,ByteArray.size_mk',kAb,List.length_cons,List.length_nil,zAy];omega
  ·obtain⟨y,z,rfl⟩:=len2 hk;have a:=fun ls=>hr y kD6 ls
   have b:=fun ls=>hr z kD6 ls
   clear hr hy hj;rcases ho with rfl | rfl | rfl | rfl | rfl
   ·have e:zAr ⟨3,z28,eB,0,[y,z]⟩=zA7 y 1++⟨#[32,43,32]⟩++zA7 z 2:=rfl;rw[e];have a:=a 1;have b:=b 2;simp only[kA6,ByteArray.size_mk',kAb,List.length_cons,List.length_nil,zAy];omega
   ·have e:zAr ⟨4,z28,eB,0,[y,z]⟩=zA7 y 1++⟨#[32,45,32]⟩++zA7 z 2:=rfl;rw[e];have a:=a 1;have b:=b 2;simp only[kA6,ByteArray.size_mk',kAb,List.length_cons,List.length_nil,zAy];omega
   ·have e:zAr ⟨5,z28,eB,0,[y,z]⟩=zA7 y 2++⟨#[32,42,32]⟩++zA7 z 3:=rfl;rw[e];have a:=a 2;have b:=b 3;simp only[kA6,ByteArray.size_mk',kAb,List.length_cons,List.length_nil,zAy];omega
   ·have e:zAr ⟨6,z28,eB,0,[y,z]⟩=zA7 y 2++⟨#[32,47,32]⟩++zA7 z 3:=rfl;rw[e];have a:=a 2;have b:=b 3;simp only[kA6,ByteArray.size_mk',kAb,List.length_cons,List.length_nil,zAy];omega
   ·have e:zAr ⟨9,z28,eB,0,[y,z]⟩=zA7 y 4++⟨#[91]⟩++zA7 z 0++⟨#[93]⟩:=rfl;rw[e];have a:=a 4;have b:=b 0;simp only[kA6,ByteArray.size_mk',kAb,List.length_cons,List.length_nil,zAy];omega
  ·obtain⟨y,rfl⟩:=len1 hk;have a:=hr y kD6 4;have b:=zCz size hs0 kD4;have e:zAr ⟨7,z28,eB,size,[y]⟩=zA7 y 4++⟨#[94]⟩++ofR size:=rfl;rw[e];clear hr hy hj;simp only[kA6,ByteArray.size_mk',kAb,List.length_cons,List.length_nil,zAy];omega
  ·have e:zAr ⟨8,z28,eB,0,l⟩=⟨#[91]⟩++zAV (l.map fun y=>zA7 y 0)++⟨#[93]⟩:=by rw[← zBS];rfl
   rw[e];simp only[kA6,ByteArray.size_mk',kAb,List.length_cons,List.length_nil];omega
  ·obtain⟨y,rfl⟩:=len1 hk;have a:=hr y kD6 0;have b:=zCz size kD4 hs1;have c:=zDX hm;clear hr hy hj;rcases ho with rfl | rfl
   ·have e:zAr ⟨10,z28,name,size,[y]⟩=⟨#[116,97,98,32]⟩++name++⟨#[32,60,32]⟩++ofR size++⟨#[32,46,32]⟩++zA7 y 0:=rfl;rw[e];simp only[kA6,ByteArray.size_mk',kAb,List.length_cons,List.length_nil,zAy];omega
   ·have e:zAr ⟨11,z28,name,size,[y]⟩=⟨#[115,117,109,32]⟩++name++⟨#[32,60,32]⟩++ofR size++⟨#[32,46,32]⟩++zA7 y 0:=rfl;rw[e];simp only[kA6,ByteArray.size_mk',kAb,List.length_cons,List.length_nil,zAy];omega
  ·obtain⟨y,z,t,u,rfl⟩:=len4 hk;have a:=hr y kD6 1;have b:=hr z kD6 1;have c:=hr t kD6 0;have d:=hr u kD6 0;have e:zAr ⟨12,z28,eB,0,[y,z,t,u]⟩=⟨#[105,102,32]⟩++zA7 y 1++⟨#[32,60,32]⟩++zA7 z 1++⟨#[32,116,104,101,110,32]⟩++zA7 t 0++⟨#[32,101,108,115,101,32]⟩++zA7 u 0:=rfl;rw[e];clear hr hy hj;simp only[kA6,ByteArray.size_mk',kAb,List.length_cons,List.length_nil,zAy];omega
  ·obtain⟨y,z,rfl⟩:=len2 hk;have a:=hr y kD6 0;have b:=hr z kD6 0;have c:=zDX hm;have e:zAr ⟨13,z28,name,0,[y,z]⟩=⟨#[108,101,116,32]⟩++name++⟨#[32,61,32]⟩++zA7 y 0++⟨#[32,105,110,32]⟩++zA7 z 0:=rfl;rw[e];clear hr hy hj;simp only[kA6,ByteArray.size_mk',kAb,List.length_cons,List.length_nil,zAy];omega
  ·have c:=zDX hm;have e:zAr ⟨14,z28,name,0,l⟩=name++⟨#[40]⟩++zAV (l.map fun y=>zA7 y 0)++⟨#[41]⟩:=by rw[← zBS];rfl
   rw[e];simp only[kA6,ByteArray.size_mk',kAb,List.length_cons,List.length_nil];omega
theorem text_ok:∀(d:Nat) (x:S31),zAI x≤d→OkX x→zAl x≤100000→zD5 x:=by
 intro d
 induction d with
 | zero=>intro x h;rw[zAw] at h;omega
 | succ d ih =>
  intro x hd hx hn;have hs:=open_small _ x (kA2 _) hx;obtain⟨x,hl,ho⟩:=hx;have hg:=zCT hl;rw[zAw] at hd;rw[zB3] at hn;have hm:∀y∈x.f4,zAl y≤100000:=fun y hy=>by have:=zDh hy;omega
  have hnum:x.f1.f0.size≤1000000∧x.f1.f1.size≤1000000∧x.f2.size≤1000000:=by
   rcases hg with⟨_,h1,_,h3,_,_⟩ | ⟨_,h1,h2,_⟩ | ⟨_,h1,h2,_⟩ | ⟨_,h1,h2,_⟩ | ⟨_,h1,h2,_⟩ | ⟨_,h1,h2,_⟩ | ⟨_,h1,h2,_⟩ | ⟨_,h1,h2,_⟩ | ⟨_,h1,h2,_⟩ | ⟨_,h1,h2,_⟩
   ·have a:=zFS h1;have b:x.f2.size≤20:=by rcases h3 with h3 | h3;(rw[h3];exact kAI _);exact unitB_20 h3
    omega
   all_goals
    rw[h1];refine⟨kAI _,kAI _,?_⟩
    first | (rw[h2];exact kAI _) | (have:=zDX h2;omega)
  refine text58 x hg hnum (by rw[zB3] at hs;omega) (fun y hy=>ih y (by have:=zBh hy;omega) (ho y hy) (hm y hy)) (fun y hy ls=>?_);have h1:=open_small _ y (kA2 _) (ho y hy);have h2:=zCK y ls;have h3:=hm y hy;omega
end Go.Proofs.YtjaobihcdkjmbaaGreatDoor
end
section
namespace Go.Proofs.YtjaobihcdkjmbaaGreatDoor
open Go.RowKit Go.Maps Go.Sort Go.Proofs.YtjaobihcdkjmbaaGreatDoorW.PrintWords Go.Proofs.YtjaobihcdkjmbaaGreatDoor.PReadTokens
theorem zFa (x:S31) (h:chkE x=0) (hn:zAl x≤4611686018427387904) (hsz:szB x=true) (v:Value) (w:World) (hv:Vw w x v) (hS:Start w) :
  Calls Tryz.prog 27 #[v] w fun e w'=>e=.returned (.int .i64 0)∧Below w.heap.size w w':=by
 have:=zGo x hn hsz v w hv hS
 rwa [h] at this
theorem Free_calls (x:S31) (hc0:chkE x=0) (hn:zAl x≤1000000000) (hsz:szB x=true) (hsm:smallB x=true) (v:Value) (w:World) (hv:Vw w x v) (hS:Start w) :
  Calls Tryz.prog 33 #[v] w fun e w'=>∃(u:Value) (ss:List (List UInt8)) (base:Nat),e=.returned (.tuple #[u,.int .i64 0])∧ss.Perm (strKeys (zEL x))∧w'.ownsRow base 9 1 u ss.length ((ss.mergeSort (fun x y=>decide (x≤y))).map encStr)∧w.heap.size≤base∧Below w.heap.size w w':=by
 obtain⟨A,c,rfl,hc1,hc2⟩:=hv.out;have hck:=fun w' (hb:Below w.heap.size w w')=>zFa x hc0 kD4 hsz _ w' (hv.below hb) (hS.below hb)
 have hfr:=fun w' (hb:Below w.heap.size w w')=>freeG_calls _ x (kA2 _) kD4 hsm _ w' (hv.below hb)
 generalize zEL x=D at *;generalize zAl x=nn at *;obtain⟨f0,f1,f2,f3,xs⟩:=x;simp only at *;unfold exV at *;simp only at *;have HC:=kA1 hck;have HT:=kA1 hfr;clear hck hfr hv hS hc2 hc0 hsz hsm;go_enter Tryz.func33,Tryz.ntmps33;go_wp2_with fail;have hb0:=(kA3 _ w).alloc (kA2 _) (.cells #[.int .i64 f0,.string f1.f0,.string f1.f1,.string f2,.int .i64 f3,.slice A xs.length c] 31);have hbl:=zA4 w (.cells #[.int .i64 f0,.string f1.f0,.string f1.f1,.string f2,.int .i64 f3,.slice A xs.length c] 31);refine (HC.out _ hb0).mono ?_;rintro e w1 ⟨rfl,hb1⟩;have hbl1:=zAa hb1 hbl;obtain⟨⟨q0,q1,q2,q3,q4,q5⟩,_,xl⟩:=zA6 hbl1;have hbw:=hb0.trans (hb1.mono kD6);clear hbl hbl1;go_wp2_with fail;refine (HT.out _ hbw).mono ?_;rintro e w2 ⟨b,rfl,hge,hm,hb2⟩;have hbx:=hbw.trans (hb2.mono hbw.size);have hnm:=names_calls b nn D w2 hm hn;unfold zGn at hnm;have HN:=kA1 hnm;clear hnm hm;go_wp2_with fail;refine HN.out.mono ?_;rintro e w3 ⟨u,ss,rfl,hp,hrow,hnil,hb3⟩;have HP:=kA1 hp;have HR:=kA1 hrow;clear hp hrow hnil;go_wp2;refine kAi (kD1 rfl _ _ _) rfl ⟨u,ss,w2.heap.size+1,rfl,HP.out,HR.out,by have:=hbx.size;omega,hbx.trans (hb3.mono hbx.size)⟩
theorem Size_calls (x:S31) (hc0:chkE x=0) (hn:zAl x≤4611686018427387904) (hsz:szB x=true) (v:Value) (w:World) (hv:Vw w x v) (hS:Start w) :
  Calls Tryz.prog 35 #[v] w fun e w'=>e=.returned (.tuple #[.int .i64 (zAl x),.int .i64 (zAI x),.int .i64 0])∧Below w.heap.size w w':=by
 obtain⟨A,c,rfl,hc1,hc2⟩:=hv.out;have hck:=fun w' (hb:Below w.heap.size w w')=>zFa x hc0 hn hsz _ w' (hv.below hb) (hS.below hb)
 have hdp:=fun w' (hb:Below w.heap.size w w')=>deep_calls _ x (kA2 _) hn _ w' (hv.below hb)
 generalize zAI x=dd at *;generalize zAl x=nn at *;obtain⟨f0,f1,f2,f3,xs⟩:=x;simp only at *;unfold exV at *;simp only at *;have HC:=kA1 hck;have HT:=kA1 hdp;clear hck hdp hv hS hc2 hc0 hsz;go_enter Tryz.func35,Tryz.ntmps35;go_wp2_with fail;have hb0:=(kA3 _ w).alloc (kA2 _) (.cells #[.int .i64 f0,.string f1.f0,.string f1.f1,.string f2,.int .i64 f3,.slice A xs.length c] 31);have hbl:=zA4 w (.cells #[.int .i64 f0,.string f1.f0,.string f1.f1,.string f2,.int .i64 f3,.slice A xs.length c] 31);refine (HC.out _ hb0).mono ?_;rintro e w1 ⟨rfl,hb1⟩;have hbl1:=zAa hb1 hbl;obtain⟨⟨q0,q1,q2,q3,q4,q5⟩,_,xl⟩:=zA6 hbl1;have hbw:=hb0.trans (hb1.mono kD6);clear hbl hbl1;go_wp2_with fail;refine (HT.out _ hbw).mono ?_;rintro e w2 ⟨rfl,hb2⟩;have hbx:=hbw.trans (hb2.mono hbw.size);go_wp2
 go_quiet (fail)
 go_wp2;refine kAi (results_tmp3 rfl _ _ _) rfl ⟨rfl,?_⟩;have h9:=hbx.alloc hbx.size (.cells #[.int .i64 nn,.int .i64 dd] 100)
 first | exact zA3 h9 _ | exact h9.drew | exact h9
end Go.Proofs.YtjaobihcdkjmbaaGreatDoor
end
section
namespace Go.Proofs.YtjaobihcdkjmbaaGreatDoor
open Go.RowKit Go.Proofs.YtjaobihcdkjmbaaGreatDoorW.PrintWords Go.Proofs.YtjaobihcdkjmbaaGreatDoor.PReadTokens
theorem okRef (n:ByteArray) (h:zBQ n=true):OkX (refX n):=zE6 (.inr (.inl ⟨rfl,rfl,h,rfl,rfl⟩)) (fun a h=>by cases h)
theorem okLit (n:ByteArray) (h1:chkR ⟨n,⟨#[49]⟩⟩=0) (h2:negB n=false):OkX ⟨0,⟨n,⟨#[49]⟩⟩,⟨#[]⟩,0,[]⟩:=zE6 (.inl ⟨rfl,h1,h2,.inl rfl,rfl,rfl⟩) (fun a h=>by cases h)
theorem okTwo (op:Int) (h:op=3∨op=4∨op=5∨op=6∨op=9) (a b:S31) (ha:OkX a) (hb:OkX b):OkX (twoX op a b) :=
 zE6 (.inr (.inr (.inr (.inl ⟨h,rfl,rfl,rfl,rfl⟩)))) (fun x hx=>by simp only[kAO,kBc,kCm] at hx;rcases hx with rfl | rfl;exact ha;exact hb)
theorem chkA:chkE xA=0:=(zEn xA).2 ⟨okTwo 3 kD6 _ _ (okLit _ kD5 kD5) (okTwo 5 kD6 _ _ (okRef _ kD5) (okLit _ kD5 kD5)),by rw[zEd.2.1];omega⟩
theorem chkB:chkE xB=0:=(zEn xB).2 ⟨okTwo 9 kD6 _ _ (zE6 (.inr (.inr (.inr (.inr (.inr (.inr (.inr (.inr (.inr ⟨rfl,rfl,kD5,rfl,kD7⟩))))))))) (fun x hx=>by simp only[kAO,kBc,kCm] at hx;rw[hx];exact okRef _ kD5)) (okRef _ kD5),by rw[zEd.2.2.2.1];omega⟩
theorem chkC:chkE xC=0:=(zEn xC).2 ⟨zE6 (.inr (.inr (.inl ⟨rfl,rfl,rfl,rfl,rfl⟩))) (fun x hx=>by
 simp only[kAO,kBc,kCm] at hx;rw[hx];exact okTwo 5 kD6 _ _ (okRef _ kD5) (zE6 (.inr (.inr (.inr (.inr (.inl ⟨rfl,rfl,rfl,kD7,rfl⟩))))) (fun x hx=>by simp only[kAO,kBc,kCm] at hx;rw[hx];exact okRef _ kD5))),by rw[zEd.2.2.2.2.2.1];omega⟩
theorem chkD:chkE xD=0:=(zEn xD).2 ⟨okTwo 4 kD6 _ _ (okRef _ kD5) (okTwo 4 kD6 _ _ (okRef _ kD5) (okRef _ kD5)),by rw[zEd.2.2.2.2.2.2.2];omega⟩
theorem szsA:szB xA=true:=kD5
theorem szsB:szB xB=true:=kD5
theorem smB:smallB xB=true:=kD5
theorem keysG:strKeys (zEL xB)=[[97],[105]]:=kD5
theorem free_told2 (v:Value) (w:World) (hv:Vw w xB v) (hS:Start w) :
  Calls Tryz.prog 33 #[v] w fun e w'=>∃A c,e=.returned (.tuple #[.slice A 2 c,.int .i64 0])∧2≤c∧Kd.C Kd.string w' A 2 [⟨#[97]⟩,⟨#[105]⟩]∧Below w.heap.size w w':=by
 refine (Free_calls xB chkB (by rw[zEd.2.2.1];omega) szsB smB v w hv hS).mono ?_;rintro e w' ⟨u,ss,base,rfl,hp,ho,_,hb⟩;rw[keysG] at hp;obtain⟨h1,h2⟩:=sorted2 ss hp;rw[h1,h2] at ho;obtain⟨A,c,rfl,h4,h5⟩:=own_texts (xs:=[⟨#[97]⟩,⟨#[105]⟩]) ho;exact⟨A,c,rfl,h4,h5,hb⟩
theorem szL_all {l:List S31} (h:∀x∈l,szB x=true):szL l=true:=by
  induction l with
  | nil=>rfl
  | cons y l ih=>unfold szL;rw[h y kD6,ih (fun x hx=>h x (kAM _ hx))];rfl
theorem ok_num {x:S31} (hl:zEH x=0):x.f1.f0.size≤1000000∧x.f1.f1.size≤1000000∧x.f2.size≤1000000:=by
  have hg:=zCT hl;rcases hg with⟨_,h1,_,h3,_,_⟩ | ⟨_,h1,h2,_⟩ | ⟨_,h1,h2,_⟩ | ⟨_,h1,h2,_⟩ | ⟨_,h1,h2,_⟩ | ⟨_,h1,h2,_⟩ | ⟨_,h1,h2,_⟩ | ⟨_,h1,h2,_⟩ | ⟨_,h1,h2,_⟩ | ⟨_,h1,h2,_⟩
  · have a:=zFS h1
    have b:x.f2.size≤20:=by rcases h3 with h3 | h3;(rw[h3];exact kAI _);exact unitB_20 h3
    omega
  all_goals
    rw[h1];refine⟨kAI _,kAI _,?_⟩
    first | (rw[h2];exact kAI _) | (have:=zDX h2;omega)
theorem ok_sz (x:S31) (h:OkX x):szB x=true:=by
  induction h with
  | mk x hl ho ih =>
    have:=ok_num hl;rw[szB_eq,kA8 kD4,kA8 kD4,kA8 kD4,szL_all ih];rfl
def prT (r:ByteArray):Value:=if r.size≤2000 then .tuple #[.string r,.int .i64 0] else .tuple #[.string ⟨#[]⟩,.int .i64 13]
theorem PrintX (x:S31) (hc:chkE x=0) (hn:zAl x≤100000) (v:Value) (w:World) (hv:Vw w x v) (hS:Start w) (hT:Tab w) :
    Calls Tryz.prog 20 #[v] w fun e w'=>e=.returned (prT (zAr x))∧Below w.heap.size w w':=by
  have hok:=((zEn x).1 hc).1;have hsz:=ok_sz x hok;obtain⟨A,c,rfl,hc1,hc2⟩:=hv.out;have hck:=fun w' (hb:Below w.heap.size w w')=>zFa x hc kD4 hsz _ w' (hv.below hb) (hS.below hb)
  have htt:=fun w' (hb:Below w.heap.size w w')=>text_ok _ x (kA2 _) hok hn _ w' 0 kD7 (hv.below hb) (hT.below hb)
  have hr0:zA7 x 0=zAr x:=by
    unfold zA7 zCm;rw[if_neg (by unfold levR;(repeat' split)<;>omega)]
  rw[hr0] at htt;clear hr0 hok;generalize zAr x=r at *;obtain⟨f0,f1,f2,f3,xs⟩:=x;simp only at *;unfold exV at *;simp only at *;have HC:=kA1 hck;have HT:=kA1 htt;clear hck htt hv hS hc2 hc hsz hn hT;unfold prT;obtain⟨b,hb,hb'⟩:∃b,decide ((2000:Int)<(r.size:Int))=b∧Hid (b=decide (2000<r.size)):=⟨_,rfl,kA1 (by congr 1;rw[eq_iff_iff];omega)⟩;go_enter Tryz.func20,Tryz.ntmps20;go_wp2_with fail;have hb0:=(kA3 _ w).alloc (kA2 _) (.cells #[.int .i64 f0,.string f1.f0,.string f1.f1,.string f2,.int .i64 f3,.slice A xs.length c] 31);have hbl:=zA4 w (.cells #[.int .i64 f0,.string f1.f0,.string f1.f1,.string f2,.int .i64 f3,.slice A xs.length c] 31);refine (HC.out _ hb0).mono ?_;rintro e w1 ⟨rfl,hb1⟩;have hbl1:=zAa hb1 hbl;obtain⟨⟨q0,q1,q2,q3,q4,q5⟩,_,xl⟩:=zA6 hbl1;have hbw:=hb0.trans (hb1.mono kD6);clear hbl hbl1;go_wp2_with fail;refine (HT.out _ hbw).mono ?_;rintro e w2 ⟨rfl,hb2⟩
  cases b
  · have h2:r.size≤2000:=by have:=kCe hb'.out.symm;omega
    have H2:=kA1 h2;clear h2;go_wp2;refine kAi (kD1 rfl _ _ _) rfl ⟨by first | rfl | (rw[kAa H2.out];rfl),hbw.trans (hb2.mono hbw.size)⟩
  · have h2:¬r.size≤2000:=by have:=kAn hb'.out.symm;omega
    have H2:=kA1 h2;clear h2;go_wp2;refine kAi (kD1 rfl _ _ _) rfl ⟨by first | rfl | (rw[kA9 H2.out];rfl),hbw.trans (hb2.mono hbw.size)⟩
end Go.Proofs.YtjaobihcdkjmbaaGreatDoor
end
section
namespace Go.Proofs.YtjaobihcdkjmbaaGreatDoor
open Go.RowKit Go.Maps Go.Proofs.YtjaobihcdkjmbaaGreatDoorW.PrintWords Go.Proofs.YtjaobihcdkjmbaaGreatDoor.PReadTokens
noncomputable def zDe (s:ByteArray):S31×Int×Int:=if s.size≤2000 then zDx chkR s else (z31,0,13)
def zCs (s:ByteArray) (w:World) (e:Ending) (w':World):Prop :=
 ∃v5,e=.returned (.tuple #[exV (zDe s).1 v5,.int .i64 (zDe s).2.1,.int .i64 (zDe s).2.2])∧Ex w' (From w.heap.size) (zDe s).1 (exV (zDe s).1 v5)∧Below w.heap.size w w'
theorem readV_large {s:ByteArray} (h:¬s.size≤2000):zDe s=(z31,0,13):=kA9 h
theorem postA_large {s:ByteArray} (h:¬s.size≤2000) {w w':World} {e:Ending} {v5:Value} (h1:e=.returned (.tuple #[exV z31 v5,.int .i64 0,.int .i64 13])) (h2:Ex w' (From w.heap.size) z31 (exV z31 v5)) (h3:Below w.heap.size w w'):zCs s w e w':=by
 unfold zCs;rw[readV_large h];exact⟨v5,h1,h2,h3⟩
theorem zDT (s:ByteArray) (w:World) (hS:Start w):Calls Tryz.prog 18 #[.string s] w (zCs s w):=by
 by_cases h:s.size≤2000
 ·refine (read_any s h w hS).mono ?_;intro e w' hp;unfold zE3 at hp;unfold zCs zDe;rw[kAa h];exact hp
 ·have hbig:decide (2000<(s.size:Int))=true:=kA8 kD4;have hb0:=(kA3 w.heap.size w).alloc (kA2 _) (.cells #[.int .i64 0,.string ⟨#[]⟩,.string ⟨#[]⟩,.string ⟨#[]⟩,.int .i64 0,.slice none 0 0] 31);have r2:=zA4 w (.cells #[.int .i64 0,.string ⟨#[]⟩,.string ⟨#[]⟩,.string ⟨#[]⟩,.int .i64 0,.slice none 0 0] 31);have HP:=kA1 h;clear h hS;go_enter Tryz.func18,Tryz.ntmps18;go_wp2;refine kAi (zDn rfl _ _ w.heap.size 31 _ (0,0) _ rfl r2 Tryz.underlying31 rfl zB6) rfl ?_;exact postA_large HP.out rfl (Ex.leaf _ rfl) hb0
theorem kt_len (s:ByteArray):(zA9 s).length≤s.size+1:=zCl (s.size+1) s 0
theorem readV_says (s:ByteArray):(∃p e:Int,zDe s=(z31,p,e)∧e≠0∧0≤p∧p≤s.size)∨∃x,zDe s=(x,0,0)∧chkE x=0∧zAl x≤100000:=by
 unfold zDe;by_cases h:s.size≤2000
 ·rw[kAa h];obtain⟨j,h1,h2⟩:=stop_all s;rcases place_of h2 h1 with hp | ⟨hp,x,hx,hn,hj⟩
  ·exact .inl ⟨_,1,readS_at hp,kD7,kD4,by have:=plc_le h2;omega⟩
  ·have hlen:=kt_len s;by_cases hd:30<zAI x
   ·exact .inl ⟨0,7,by unfold zDx;rw[hp,kA9 kD7,hx];simp only[kAa hd],kD7,kD4,kD4⟩
   ·exact .inr ⟨x,by unfold zDx;rw[hp,kA9 kD7,hx];simp only[kA9 hd],(zEn x).2 ⟨parse_ok hx,kD4⟩,kD4⟩
 ·rw[kA9 h];exact .inl ⟨0,13,rfl,kD7,kD4,kD4⟩
theorem readV_open {x:S31} (hc:chkE x=0) (hs:(zAr x).size≤2000):zDe (zAr x)=(x,0,0):=by
 obtain⟨hok,hd⟩:=(zEn x).1 hc;unfold zDe;rw[kAa hs];exact readS_ok (read_toks hok (toks_open x hok)) hd
end Go.Proofs.YtjaobihcdkjmbaaGreatDoor
end
section
namespace Go.Proofs.YtjaobihcdkjmbaaGreatDoor
open Go.RowKit Go.Proofs.YtjaobihcdkjmbaaGreatDoorW.PrintWords Go.Proofs.YtjaobihcdkjmbaaGreatDoor.PReadTokens
theorem readA3:zDe tA=(xA,0,0):=kD5
theorem readB3:zDe tB=(xB,0,0):=kD5
theorem readC3:zDe tC=(xC,0,0):=kD5
theorem readD3:zDe tD=(xD,0,0):=kD5
theorem readE3:zDe tE=(z31,2,1):=kD5
theorem textC3:zAr xC=⟨#[45,97,32,42,32,98,94,45,50]⟩:=kD5
theorem textD3:zAr xD=⟨#[97,32,45,32,40,98,32,45,32,99,41]⟩:=kD5
theorem zEY (s:ByteArray) (x:S31) (hr:zDe s=(x,0,0)) (w:World) (hS:Start w) :
  Calls Tryz.prog 18 #[.string s] w fun e w'=>∃A c,e=.returned (.tuple #[.agg #[.int .i64 x.f0,.string x.f1.f0,.string x.f1.f1,.string x.f2,.int .i64 x.f3,.slice A x.f4.length c],.int .i64 0,.int .i64 0]) ∧
   Vw w' x (.agg #[.int .i64 x.f0,.string x.f1.f0,.string x.f1.f1,.string x.f2,.int .i64 x.f3,.slice A x.f4.length c])∧Below w.heap.size w w':=by
 have hrd:=zDT s w hS;unfold zCs at hrd;rw[hr] at hrd;simp only at hrd;refine hrd.mono ?_;rintro e w1 ⟨v5,rfl,hx,hb1⟩;obtain⟨A,c,hv5,hc1,hc2⟩:=hx.vw.out;obtain rfl:=zCu hv5;exact⟨A,c,rfl,hx.vw,hb1⟩
theorem shown3 (s:ByteArray) (x:S31) (hr:zDe s=(x,0,0)) (hc:chkE x=0) (hn:zAl x≤100000) (hlen:(zAr x).size≤2000) (w:World) (hS:Start w) (hT:Tab w) :
  Calls Tryz.prog 44 #[.string s] w fun e w'=>e=.returned (.string (zAr x))∧Below w.heap.size w w':=by
 have hrd:=zEY s x hr w hS;have hpr:=fun v w' (hb:Below w.heap.size w w') (hv:Vw w' x v)=>PrintX x hc hn v w' hv (hS.below hb) (hT.below hb)
 have hp0:prT (zAr x)=.tuple #[.string (zAr x),.int .i64 0]:=kAa hlen;rw[hp0] at hpr;generalize zAr x=r at *;have HP:=kA1 hpr;clear hpr hr hc hS hT hp0;go_enter Tryz.func44,Tryz.ntmps44;go_wp2_with fail;refine hrd.mono ?_;rintro e w1 ⟨A,c,rfl,hvw,hb1⟩;have HX:=kA1 hvw;clear hvw;have hb2:=hb1.alloc hb1.size (.cells #[.int .i64 x.f0,.string x.f1.f0,.string x.f1.f1,.string x.f2,.int .i64 x.f3,.slice A x.f4.length c] 31);go_wp2_with fail;refine (HP.out _ _ hb2 (HX.out.below ((kA3 _ w1).alloc (kA2 _) _))).mono ?_;rintro e w2 ⟨rfl,hb3⟩;go_wp2;go_ret;exact⟨rfl,hb2.trans (hb3.mono hb2.size)⟩
theorem wrong3 (s:ByteArray) (at_:Int) (hr:zDe s=(z31,at_,1)) (w:World) (hS:Start w) :
  Calls Tryz.prog 45 #[.string s,.int .i64 at_] w fun e w'=>e=.returned (.bool true)∧Below w.heap.size w w':=by
 have hrd:=zDT s w hS;unfold zCs at hrd;rw[hr] at hrd;simp only at hrd;have heq:(at_==at_)=true:=kD6
 go_enter Tryz.func45,Tryz.ntmps45;go_wp2_with fail;refine hrd.mono ?_;rintro e w1 ⟨v5,rfl,hx,hb1⟩;obtain⟨A,c,hv5,hc1,hc2⟩:=hx.vw.out;obtain rfl:=zCu hv5;have hex:exV z31 (.slice A z31.f4.length c)=.agg #[.int .i64 0,.string ⟨#[]⟩,.string ⟨#[]⟩,.string ⟨#[]⟩,.int .i64 0,.slice A 0 c]:=rfl;rw[hex];clear hx hv5 hc1 hc2;go_wp2;go_ret;exact⟨rfl,hb1.alloc hb1.size _⟩
theorem zFB (w:World) (hS:Start w) (hT:Tab w):Calls Tryz.prog 10 #[] w fun e w'=>e=.returned (.bool true)∧Below w.heap.size w w':=by
 have H1:=kA1 (toks_told);have HRA:=kA1 (fun w (hS:Start w)=>zEY tA xA readA3 w hS);have HRB:=kA1 (fun w (hS:Start w)=>zEY tB xB readB3 w hS);have HSZ:=kA1 (fun v w (hv:Vw w xA v) (hS:Start w)=>(by simpa[zEd.1,zEd.2.1] using Size_calls xA chkA (by rw[zEd.1];omega) szsA v w hv hS:Calls Tryz.prog 35 #[v] w fun e w'=>e=.returned (.tuple #[.int .i64 5,.int .i64 3,.int .i64 0])∧Below w.heap.size w w'));have HFR:=kA1 (fun v w (hv:Vw w xB v) (hS:Start w)=>free_told2 v w hv hS);have HSC:=kA1 (fun w (hS:Start w) (hT:Tab w)=>(by rw[← textC3];exact shown3 tC xC readC3 chkC (by rw[zEd.2.2.2.2.1];omega) (by rw[textC3];show 9≤2000;omega) w hS hT:Calls Tryz.prog 44 #[.string tC] w fun e w'=>e=.returned (.string ⟨#[45,97,32,42,32,98,94,45,50]⟩)∧Below w.heap.size w w'));have HSD:=kA1 (fun w (hS:Start w) (hT:Tab w)=>(by rw[← textD3];exact shown3 tD xD readD3 chkD (by rw[zEd.2.2.2.2.2.2.1];omega) (by rw[textD3];show 11≤2000;omega) w hS hT:Calls Tryz.prog 44 #[.string tD] w fun e w'=>e=.returned (.string ⟨#[97,32,45,32,40,98,32,45,32,99,41]⟩)∧Below w.heap.size w w'));have HWE:=kA1 (fun w (hS:Start w)=>wrong3 tE 2 readE3 w hS);go_enter Tryz.func10,Tryz.ntmps10;go_wp2_with fail;refine (H1.out _).mono ?_;rintro e w1 ⟨A1,c1,rfl,hc1,hk1,hb1⟩;clear H1;have hk1:=kA1 hk1;go_wp2_with fail;refine (HRA.out _ (hS.below hb1)).mono ?_;rintro e w2 ⟨A2,c2,rfl,hv2,hb2⟩;clear HRA;have hk2:=kA1 (Kd.C_below hk1.out hb2);have hb:=hb1.trans (hb2.mono hb1.size);clear hk1 hb1 hb2;have hl2:xA.f4.length=2:=rfl;rw[hl2] at hv2⊢;have hv2:=kA1 hv2;generalize xA.f0=a0 at *;generalize xA.f1.f0=a1 at *;generalize xA.f1.f1=a2 at *;generalize xA.f2=a3 at *;generalize xA.f3=a4 at *;go_wp2_with fail;have hb3:=hb.alloc hb.size (.cells #[.int .i64 a0,.string a1,.string a2,.string a3,.int .i64 a4,.slice A2 2 c2] 31);have hk3:=kA1 (Kd.C_alloc hk2.out (.cells #[.int .i64 a0,.string a1,.string a2,.string a3,.int .i64 a4,.slice A2 2 c2] 31));refine (HSZ.out _ _ (hv2.out.below ((kA3 _ w2).alloc (kA2 _) _)) (hS.below hb3)).mono ?_;rintro e w3 ⟨rfl,hb4⟩;have hk4:=kA1 (Kd.C_below hk3.out hb4);have hb:=hb3.trans (hb4.mono hb3.size);clear hk2 hk3 hb3 hb4 hv2 HSZ;go_wp2_with fail;refine (HRB.out _ (hS.below hb)).mono ?_;rintro e w4 ⟨A4,c4,rfl,hv4,hb4⟩;clear HRB;have hk5:=kA1 (Kd.C_below hk4.out hb4);have hb:=hb.trans (hb4.mono hb.size);clear hk4 hb4;have hl4:xB.f4.length=2:=rfl;rw[hl4] at hv4⊢;have hv4:=kA1 hv4;generalize xB.f0=b0 at *;generalize xB.f1.f0=b1 at *;generalize xB.f1.f1=b2 at *;generalize xB.f2=b3 at *;generalize xB.f3=b4 at *;go_wp2_with fail;have hb3:=hb.alloc hb.size (.cells #[.int .i64 b0,.string b1,.string b2,.string b3,.int .i64 b4,.slice A4 2 c4] 31);have hk3:=kA1 (Kd.C_alloc hk5.out (.cells #[.int .i64 b0,.string b1,.string b2,.string b3,.int .i64 b4,.slice A4 2 c4] 31));refine (HFR.out _ _ (hv4.out.below ((kA3 _ w4).alloc (kA2 _) _)) (hS.below hb3)).mono ?_;rintro e w5 ⟨A5,c5,rfl,hc5,hf5,hb4⟩;have hk4:=kA1 (Kd.C_below hk3.out hb4);have hb:=hb3.trans (hb4.mono hb3.size);have hf5:=kA1 hf5;clear hk3 hk5 hb3 hb4 hv4 HFR;go_wp2_with fail;refine (HSC.out _ (hS.below hb) (hT.below hb)).mono ?_;rintro e w6 ⟨rfl,hb6⟩;have hk6:=kA1 (Kd.C_below hk4.out hb6);have hf6:=kA1 (Kd.C_below hf5.out hb6);have hb:=hb.trans (hb6.mono hb.size);clear hb6 hk4 hf5 HSC;go_wp2_with fail;refine (HSD.out _ (hS.below hb) (hT.below hb)).mono ?_;rintro e w7 ⟨rfl,hb6⟩;have hk7:=kA1 (Kd.C_below hk6.out hb6);have hf7:=kA1 (Kd.C_below hf6.out hb6);have hb:=hb.trans (hb6.mono hb.size);clear hb6 hk6 hf6 HSD;go_wp2_with fail;refine (HWE.out _ (hS.below hb)).mono ?_;rintro e w8 ⟨rfl,hb6⟩;have hk8:=kA1 (Kd.C_below hk7.out hb6);have hf8:=kA1 (Kd.C_below hf7.out hb6);have hb:=hb.trans (hb6.mono hb.size);clear hb6 hk7 hf7 HWE;go_wp2_with fail;have hb:=hb.alloc hb.size (.cells #[.string ⟨#[97]⟩,.string ⟨#[105]⟩] 9);have hk9:=kA1 (Kd.C_alloc hk8.out (.cells #[.string ⟨#[97]⟩,.string ⟨#[105]⟩] 9));refine (metewandkit_EqTexts.calls 10 A5 c5 [⟨#[97]⟩,⟨#[105]⟩] (some ⟨w8.heap.size,0,none⟩) 2 [⟨#[97]⟩,⟨#[105]⟩] true _ (Kd.C_alloc hf8.out _) hc5 (lit_texts w8 [⟨#[97]⟩,⟨#[105]⟩] kD7) (kA2 _) eqt).mono ?_;rintro e w9 ⟨rfl,hd9⟩;obtain⟨k9,hd9⟩:=hd9.out;subst hd9;have hk10:=kA1 (Kd.C_drewN hk9.out k9);have hb:=zA3 hb k9;clear hk8 hk9 hf8;go_wp2_with fail;have hlit:=lit_toks ((w8.alloc (.cells #[.string ⟨#[97]⟩,.string ⟨#[105]⟩] 9)).drewN k9) [⟨0,⟨#[97,49]⟩,0⟩,⟨4,⟨#[43]⟩,2⟩,⟨2,⟨#[50]⟩,3⟩,⟨3,⟨#[109,47,115]⟩,4⟩] kD7;rw[show ((w8.alloc (.cells #[.string ⟨#[97]⟩,.string ⟨#[105]⟩] 9)).drewN k9).heap.size=w8.heap.size+1 from by simp] at hlit;have hb:=hb.alloc hb.size (.cells (flat [⟨0,⟨#[97,49]⟩,0⟩,⟨4,⟨#[43]⟩,2⟩,⟨2,⟨#[50]⟩,3⟩,⟨3,⟨#[109,47,115]⟩,4⟩]).toArray 47);refine (metewandkit_EqTokens.calls 10 A1 c1 [⟨0,⟨#[97,49]⟩,0⟩,⟨4,⟨#[43]⟩,2⟩,⟨2,⟨#[50]⟩,3⟩,⟨3,⟨#[109,47,115]⟩,4⟩] (some ⟨w8.heap.size+1,0,none⟩) 4 [⟨0,⟨#[97,49]⟩,0⟩,⟨4,⟨#[43]⟩,2⟩,⟨2,⟨#[50]⟩,3⟩,⟨3,⟨#[109,47,115]⟩,4⟩] true _ (Kd.C_alloc hk10.out _) hc1 hlit (kA2 _) eqk).mono ?_;rintro e w10 ⟨rfl,hd⟩;obtain⟨k10,hd⟩:=hd.out;subst hd;have hb:=zA3 hb k10;go_wp2;go_ret;exact⟨rfl,hb⟩
end Go.Proofs.YtjaobihcdkjmbaaGreatDoor
end
section
namespace Go.Proofs.YtjaobihcdkjmbaaGreatDoor
open Go.RowKit Go.Maps Go.Proofs.YtjaobihcdkjmbaaGreatDoorW.PrintWords Go.Proofs.YtjaobihcdkjmbaaGreatDoor.PReadTokens
theorem zGl (s:ByteArray) (at_ how by_:Int) (A:Option Addr) (l:List Int) (c:Nat) (hl:l.length≤9223372036854775807) (w:World) (hc:Kd.C (Kd.int .i64) w A l.length l) (hS:Start w) (hT:Tab w) :
  Calls Tryz.prog 4 #[.string s,.int .i64 at_,.int .i64 how,.int .u8 by_,.slice A l.length c] w fun e w'=>e=.returned (.bool true)∧Below w.heap.size w w':=by
 have hr:=NewRod_calls A l c hl w hc;have HS:=kA1 hS;have HT:=kA1 hT;clear hc hl;by_cases h200:200<s.size
 ·have hd:decide ((200:Int)<(s.size:Int))=true:=kA8 kD4;have htd:=zFB w hS hT;clear hr hS hT;go_enter Tryz.func4,Tryz.ntmps4;go_wp2_with fail;refine htd.mono ?_;rintro e we ⟨rfl,hbe⟩;go_wp2;go_ret;exact⟨rfl,hbe⟩
 ·have hd:decide ((200:Int)<(s.size:Int))=false:=kAc kD4;clear hS hT;go_enter Tryz.func4,Tryz.ntmps4;go_wp2_with fail;refine hr.mono ?_;rintro e w1 ⟨rfl,r1,hb1⟩;clear hr;have hx:=zFj 3 kD7 w.heap.size 0 w1 r1 kD7;have hlt1:=r1.lt;go_wp2_with fail;refine hx.mono ?_;rintro e w2 ⟨x,vx,rfl,hx1,hx2,r2,g2⟩;have hb2:Below w.heap.size w w2:=hb1.grown g2 (kAP hlt1) (fun k e=>by injection e with e;omega);clear hx hb1 g2 r1;have ht:=ExprText_calls x (made_ref 3 x hx1 kD7) _ w2 hx2.vw;have htx:=zFX 3 x hx1;go_wp2_with fail;refine ht.mono ?_;rintro e w3 ⟨rfl,hb3⟩;have hb3':=hb2.trans (hb3.mono hb2.size);clear ht hx2 r2 hb3 hb2 hx1;generalize zAr x=a at *;have hsz:a.size≤1000000:=kAB htx kD7;have hsp:=Spoilt_calls a at_ how by_ hsz w3;clear htx hsz;go_wp2_with fail;refine hsp.mono ?_;rintro e w4 ⟨⟨t,rfl⟩,hb4⟩;have hb4':=hb3'.trans (hb4.mono hb3'.size);have hb5:=kA1 (hb4'.alloc hb4'.size (.cells #[.string s,.string t] 9));have hbl:=kA1 (zA4 w4 (.cells #[.string s,.string t] 9));clear hsp hb4 hb3' hb4';go_wp2_with fail;go_loopg [13] 2 (fun k v13 wr=>∃j:Nat,v13=.int .i64 j∧j+k=2∧Hid (wr.heap[w4.heap.size]?=some (.cells #[.string s,.string t] 9 (0,0)))∧Hid (Below w.heap.size w wr))
  case atStart=>exact⟨0,rfl,kD4,hbl,hb5⟩
  case round =>
   obtain⟨j,rfl,hj,HB,HW⟩:=hrel;clear hb5 hbl;by_cases hjl:j<2
   ·have hj01:j=0∨j=1:=kD4
    obtain⟨u,hu⟩:∃u,wr.cell? ⟨w4.heap.size,j,none⟩=some (.string u):=by
     rcases hj01 with rfl | rfl
     ·exact⟨s,zA1 HB.out 0⟩
     ·exact⟨t,zA1 HB.out 1⟩
    have hre:=zDT u wr (HS.out.below HW.out);unfold zCs at hre;have HU:=kA1 hu;rcases readV_says u with⟨p,e,hv,he,hp0,hp1⟩ | ⟨x,hv,hc,hn⟩
    ·rw[hv] at hre;have he':(e != 0)=true:=kCV.2 he;have hd1:decide (p<0)=false:=kAc kD4;have hd2:decide ((u.size:Int)<p)=false:=kAc kD4;have HV:=kA1 hv;clear he hp0 hp1 hv;rcases hj01 with rfl | rfl
     all_goals
      go_wp2_with fail;refine hre.mono ?_;rintro en w5 ⟨v5,rfl,hE,hb6⟩;obtain⟨Az,nz,cz,rfl⟩:=ex_agg hE;have hB6:=HW.out.trans (hb6.mono HW.out.size);have hbk6:=zAa hb6 HB.out;have hu6:=zA0 hb6 HU.out;have hX:=(kA3 w5.heap.size w5).alloc (kA2 _) (.cells #[.int .i64 z31.f0,.string z31.f1.f0,.string z31.f1.f1,.string z31.f2,.int .i64 z31.f3,.slice Az nz cz] 31);obtain⟨⟨q0,q1,q2,q3,q4,q5⟩,_,xl⟩:=zA6 (zA4 w5 (.cells #[.int .i64 z31.f0,.string z31.f1.f0,.string z31.f1.f1,.string z31.f2,.int .i64 z31.f3,.slice Az nz cz] 31));have hva:=hE.vw.below hX;have hu7:=zA0 hX hu6;have hbk7:=kA1 (zAa hX hbk6);have hB7:=kA1 (hB6.trans (hX.mono hB6.size));obtain⟨W6,hW6⟩:∃Y,Y=w5.alloc (.cells #[.int .i64 z31.f0,.string z31.f1.f0,.string z31.f1.f1,.string z31.f2,.int .i64 z31.f3,.slice Az nz cz] 31):=⟨_,rfl⟩;rw[← hW6] at hva hu7 hbk7 hB7 q0 q1 q2 q3 q4 q5 xl;have heq:=eqx_calls _ z31 (kA2 _) kD7 _ (exV z31 (.slice none 0 0)) W6 hva (Ex.leaf (S:=fun _=>True) z31 rfl).vw;have HW6:=kA1 hW6;have HEQ:=kA1 heq;clear hre hE hb6 hB6 hbk6 hu6 hu hX hva hW6 heq;unfold exV at *;go_upto_region 9 with (fail);rw[← HW6.out];clear HW6;go_wp2_with fail;refine HEQ.out.mono ?_;rintro en w7 ⟨rfl,hb8⟩;have hbk8:=kA1 (zAa hb8 hbk7.out);have hB8:=kA1 (hB7.out.trans (hb8.mono hB7.out.size));clear hb8 hbk7 hB7 q0 q1 q2 q3 q4 q5 hu7 HEQ;go_wp2;go_roundg (gk-1)
      case measure=>omega
      case rel=>first | exact⟨1,rfl,kD4,hbk8,hB8⟩ | exact⟨2,rfl,kD4,hbk8,hB8⟩
    ·rw[hv] at hre;have hlit:∀b:ByteArray,(b.toList != b.toList)=false:=fun b=>by simp
     rcases hj01 with rfl | rfl
     all_goals
      go_wp2_with fail;refine hre.mono ?_;rintro en w5 ⟨v5,rfl,hE,hb6⟩;obtain⟨Az,nz,cz,rfl⟩:=ex_agg hE;have hB6:=HW.out.trans (hb6.mono HW.out.size);have hbk6:=zAa hb6 HB.out;have hX:=(kA3 w5.heap.size w5).alloc (kA2 _) (.cells #[.int .i64 x.f0,.string x.f1.f0,.string x.f1.f1,.string x.f2,.int .i64 x.f3,.slice Az nz cz] 31);have hbx:=zA4 w5 (.cells #[.int .i64 x.f0,.string x.f1.f0,.string x.f1.f1,.string x.f2,.int .i64 x.f3,.slice Az nz cz] 31);have hva:=hE.vw.below hX;have hbk7:=kA1 (zAa hX hbk6);have hB7:=kA1 (hB6.trans (hX.mono hB6.size));obtain⟨W6,hW6⟩:∃Y,Y=w5.alloc (.cells #[.int .i64 x.f0,.string x.f1.f0,.string x.f1.f1,.string x.f2,.int .i64 x.f3,.slice Az nz cz] 31):=⟨_,rfl⟩;rw[← hW6] at hva hbk7 hB7 hbx;obtain⟨⟨q0,q1,q2,q3,q4,q5⟩,_,xl⟩:=zA6 hbx;have hpr:=PrintX x hc hn _ W6 hva (HS.out.below hB7.out) (HT.out.below hB7.out);have HVA:=kA1 hva;have HBX:=kA1 hbx;have HW6:=kA1 hW6;have HPR:=kA1 hpr;have HU2:=HU;clear hre hE hb6 hB6 hbk6 hu hX hva hW6 hpr hbx HU HU2;by_cases hsz:(zAr x).size≤2000
      ·have hop:=readV_open hc hsz;have e1:prT (zAr x)=.tuple #[.string (zAr x),.int .i64 0]:=kAa hsz;rw[e1] at HPR;have HOP:=kA1 hop;have E1:=kA1 e1;clear hop e1 hsz;unfold exV at HPR;unfold exV;go_upto_region 9 with (fail);rw[← HW6.out];clear HW6;go_wp2_with fail;refine HPR.out.mono ?_;rintro en w7 ⟨rfl,hb8⟩;have hbk8:=kA1 (zAa hb8 hbk7.out);have hB8:=kA1 (hB7.out.trans (hb8.mono hB7.out.size));have hbx8:=kA1 (zAa hb8 HBX.out);have hva8:=kA1 (HVA.out.below hb8);have hre2:=zDT (zAr x) w7 (HS.out.below hB8.out);unfold zCs at hre2;rw[HOP.out] at hre2;clear hb8 hbk7 hB7 q0 q1 q2 q3 q4 q5 xl HPR HVA HBX;go_wp2_with fail;refine hre2.mono ?_;rintro en w8 ⟨v6,rfl,hE2,hb9⟩;obtain⟨Ay,ny,cy,rfl⟩:=ex_agg hE2;have hX2:=(kA3 w8.heap.size w8).alloc (kA2 _) (.cells #[.int .i64 x.f0,.string x.f1.f0,.string x.f1.f1,.string x.f2,.int .i64 x.f3,.slice Ay ny cy] 31);have hby:=zA4 w8 (.cells #[.int .i64 x.f0,.string x.f1.f0,.string x.f1.f1,.string x.f2,.int .i64 x.f3,.slice Ay ny cy] 31);have hB9:=hB8.out.trans (hb9.mono hB8.out.size);have hbk9:=kA1 (zAa hX2 (zAa hb9 hbk8.out));have hbx9:=kA1 (zAa hX2 (zAa hb9 hbx8.out));have hva9:=kA1 ((hva8.out.below hb9).below hX2);have hvb9:=hE2.vw.below hX2;have hBA:=kA1 (hB9.trans (hX2.mono hB9.size));obtain⟨W9,hW9⟩:∃Y,Y=w8.alloc (.cells #[.int .i64 x.f0,.string x.f1.f0,.string x.f1.f1,.string x.f2,.int .i64 x.f3,.slice Ay ny cy] 31):=⟨_,rfl⟩;rw[← hW9] at hvb9 hbk9 hbx9 hva9 hBA hby
       have hpr2:=PrintX x hc hn _ W9 hvb9 (HS.out.below hBA.out) (HT.out.below hBA.out);rw[E1.out] at hpr2;obtain⟨⟨y0,y1,y2,y3,y4,y5⟩,_,yl⟩:=zA6 hby
       have HVB:=kA1 hvb9;have HBY:=kA1 hby
       have HW9:=kA1 hW9;have HPR2:=kA1 hpr2;clear hre2 hE2 hb9 hB9 hX2 hvb9 hby hW9 hpr2 hbk8 hB8 hbx8 hva8;unfold exV at HPR2;unfold exV;go_upto_region 15 with (fail);rw[← HW9.out];clear HW9;go_wp2_with fail;refine HPR2.out.mono ?_;rintro en wa ⟨rfl,hba⟩;have hbka:=kA1 (zAa hba hbk9.out);have hBa:=kA1 (hBA.out.trans (hba.mono hBA.out.size));obtain⟨⟨q0,q1,q2,q3,q4,q5⟩,_,xl⟩:=zA6 (zAa hba hbx9.out);have hyy:=zAa hba HBY.out;clear y0 y1 y2 y3 y4 y5 yl;obtain⟨⟨y0,y1,y2,y3,y4,y5⟩,_,yl⟩:=zA6 hyy;have heq:=eqx_calls _ x (kA2 _) kD4 _ _ wa (hva9.out.below hba) (HVB.out.below hba);unfold exV at heq;have HEQ:=kA1 heq;clear heq hyy hba hbk9 hbx9 hva9 hBA HVB HBY HPR2;go_wp2_with fail;refine HEQ.out.mono ?_;rintro en w7b ⟨rfl,hb8⟩;have hbk8:=kA1 (zAa hb8 hbka.out);have hB8:=kA1 (hBa.out.trans (hb8.mono hBa.out.size));clear hb8 hbka hBa q0 q1 q2 q3 q4 q5 y0 y1 y2 y3 y4 y5 HEQ;go_wp2;go_roundg (gk-1)
       case measure=>omega
       case rel=>first | exact⟨1,rfl,kD4,hbk8,hB8⟩ | exact⟨2,rfl,kD4,hbk8,hB8⟩
      ·have e1:prT (zAr x)=.tuple #[.string ⟨#[]⟩,.int .i64 13]:=kA9 hsz;rw[e1] at HPR;clear e1 hsz;unfold exV at HPR;unfold exV;go_upto_region 9 with (fail);rw[← HW6.out];clear HW6;go_wp2_with fail;refine HPR.out.mono ?_;rintro en w7 ⟨rfl,hb8⟩;have hbk8:=kA1 (zAa hb8 hbk7.out);have hB8:=kA1 (hB7.out.trans (hb8.mono hB7.out.size));clear hb8 hbk7 hB7 q0 q1 q2 q3 q4 q5 HPR HVA HBX;go_wp2;go_roundg (gk-1)
       case measure=>omega
       case rel=>first | exact⟨1,rfl,kD4,hbk8,hB8⟩ | exact⟨2,rfl,kD4,hbk8,hB8⟩
   ·obtain rfl:j=2:=kD4
    have htd:=zFB wr (HS.out.below HW.out) (HT.out.below HW.out);go_wp2_with fail;refine htd.mono ?_;rintro e we ⟨rfl,hbe⟩;go_wp2;go_ret;exact⟨rfl,HW.out.trans (hbe.mono HW.out.size)⟩
end Go.Proofs.YtjaobihcdkjmbaaGreatDoor
end
section
namespace Go.Proofs.YtjaobihcdkjmbaaGreatDoor
open Go.ChangeMaps (open_string)
open Go.RowKit Go.ChangeShapes Go.WideShapes Go.ChangeAt Go.Proofs.YtjaobihcdkjmbaaGreatDoorW.PrintWords
def aC:Array Value:=#[.string ⟨#[]⟩,.int .i64 0,.int .i64 0,.int .u8 0,.slice none 0 0]
theorem zFp (os:Os) (started:os.Started) (H:Type) (enc:TypeId×Value→H) :
  ReturnsInHanded {} Tryz.checked os 4 .any (fun w args=>(Rows.readCanonSpec.pre enc Tryz.prog Tryz.f4 [] false w args∧laidMetH Tryz.prog laidL w)∧sizedMet enc Tryz.prog Tryz.f4 (OpenSpec.ofChange Rows.readCanonSpec) false w args)
   (Rows.readCanonSpec.post enc Tryz.prog Tryz.f4 false true false false):=by
 refine returnsInHanded_of_change_and (C:=Tryz.checked) (X:=fun w _=>laidMetH Tryz.prog laidL w) (fun _ _ _ hh h=>h.of_heap hh) noKnob started kD5 Tryz.func4
  (ChangeSpec.witness_shaped (enc:=enc) (C:=Tryz.checked) (os:=os) (X:=fun w _=>laidMetH Tryz.prog laidL w) false (World.doorLaid Tryz.prog 69 os) aC 8 rfl (World.shaped_of_RefB kD5 kD5) kD5 kD5 kD5 (door_met os _)) ?_
 intro W base args ds gs before hval0 hW _ _ hL _;have hval:∀(j:Nat) t v,Tryz.f4.params[j]?=some t→args[j]?=some v→Value.okWide Tryz.prog W .any base t v:=hval0;have hW':=hW;obtain⟨p,q,hA0,hV,rfl,hfz,hnd⟩:=hW;have hA:DataW.TrodAll enc Tryz.prog W 0 (fun _=>true) true Tryz.f4.params.toList args.toList ds p:=hA0;have hlt:∀x∈p,x.block<W.heap.size:=fun x hx=>by simpa using hW'.lt x (kCS _ hx)
 have hA2:=hA;rw[Tryz.params4] at hA hval;obtain⟨v0,vs0,d0,ds0,p0,q0,hargs,rfl,rfl,h0,r0⟩:=trodAll_cons hA;obtain⟨v1,vs1,d1,ds1,p1,q1,rfl,rfl,rfl,h1,r1⟩:=trodAll_cons r0;obtain⟨v2,vs2,d2,ds2,p2,q2,rfl,rfl,rfl,h2,r2⟩:=trodAll_cons r1;obtain⟨v3,vs3,d3,ds3,p3,q3,rfl,rfl,rfl,h3,r3⟩:=trodAll_cons r2;obtain⟨v4,vs4,d4,ds4,p4,q4,rfl,rfl,rfl,h4,r4⟩:=trodAll_cons r3;obtain⟨rfl,rfl,rfl⟩:=trodAll_nil r4;obtain rfl:args=#[v0,v1,v2,v3,v4]:=by cases args;simp_all
 obtain⟨pp,hpp⟩:∃pp,pp=p0++(p1++(p2++(p3++(p4++[])))):=⟨_,rfl⟩;rw[← hpp] at hA2 hlt hW';obtain⟨rfl,rfl⟩:=trodVars_none hV;obtain⟨s,rfl,_,_,hs⟩:=open_string Tryz.underlying9 (hval 0 9 v0 rfl rfl) h0;obtain⟨a,rfl,_,_,wa⟩:=open_int Tryz.underlying3 (hval 1 3 v1 rfl rfl) h1;obtain⟨h,rfl,_,_,wh⟩:=open_int Tryz.underlying3 (hval 2 3 v2 rfl rfl) h2;obtain⟨b,rfl,_,_,wb⟩:=open_int Tryz.underlying5 (hval 3 5 v3 rfl rfl) h3;obtain⟨A,c,l,rfl,hl,hc,hC⟩:=ints_in (okWide_slice Tryz.underlying22 (hval 4 22 v4 rfl rfl)) h4;obtain⟨hS,hT⟩:=start_of_laid hL;have e1:Rows.readCanonSpec.fn H ([d0,d1,d2,d3,d4]++[])={ results:=[.lit (.bool true)],args:=[d0,d1,d2,d3,d4] }:=rfl;refine (zGl s a h b A l c hl W hC hS hT).mono fun e W' ⟨he,hb⟩=>?_
 subst he;refine⟨_,rfl,_,_,_,[],pp,[],hW',?_,?_,?_,hb.frame _,fun h=>by cases h⟩
 ·rw[e1];exact trodAll_mk1 (shut_bool Tryz.underlying4 true)
 ·rw[e1];exact trodAll_below hb _ _ _ _ (by rw[Tryz.params4];intro t ht;simp at ht;rcases ht with rfl | rfl | rfl | rfl<;>exact⟨kD5,by rw[typesSize];decide⟩) hA2 hlt
 ·rw[e1];rfl
theorem ReadCanon_said:Rows.ReadCanonSaid :=
 OpenClaim.holds_of_wide 4 Tryz.f4 rfl rfl rfl rfl rfl rfl rfl ⟨rfl,rfl,rfl,rfl,rfl⟩ rfl rfl rfl rfl rfl zFJ Tryz.func4 zFm
  readCanon_inst readCanon_wrap
  (fun os started H enc _=>zFp os started H enc)
theorem zGk (f : FuncId) (fn : Func) (hf : Tryz.pinned.checked.prog.funcNamed "metewand/metewandlaw13.ReadCanon" = some f) (hfn : Tryz.pinned.checked.prog.funcs[f]? = some fn) :
  true=Tryz.pinned.checked.prog.looks []∧∀(j:Nat) t,fn.params[j]?=some t→Tryz.pinned.checked.prog.wantsStandIn t=false:=by
 obtain rfl : f = 4 := kAg ((show Tryz.prog.funcNamed "metewand/metewandlaw13.ReadCanon" = some 4 by kernel_rfl).symm.trans hf) |>.symm
 obtain rfl:fn=Tryz.f4:=(kAg (Tryz.func4.symm.trans hfn)).symm;refine⟨zFK,fun j t ht=>?_⟩;rw[Tryz.params4] at ht;have hm:=Array.mem_of_getElem? ht;simp at hm;rcases hm with rfl | rfl | rfl | rfl
 ·exact (show Tryz.prog.wantsStandIn 9=false by kernel_rfl)
 ·exact (show Tryz.prog.wantsStandIn 3=false by kernel_rfl)
 ·exact (show Tryz.prog.wantsStandIn 5=false by kernel_rfl)
 ·exact (show Tryz.prog.wantsStandIn 22=false by kernel_rfl)
theorem ReadCanon_card:Rows.ReadCanonCardSaid :=
 Claim7.holds_tied_plain_at .later [] _ _ _ _ ReadCanon_said (fun _ h=>by cases h) kD5 (fun _ h=>by cases h) readCanon_row_tie rfl ⟨rfl,rfl⟩ kD5 rfl zGk kD5
end Go.Proofs.YtjaobihcdkjmbaaGreatDoor
end
