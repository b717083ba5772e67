/- The law ReadPlace answers true for every argument; a part of its proof. -/
import Derived.Test.YtjaobihcdkjmbaaGreatDoorCa
import Derived.Test.YtjaobihcdkjmbaaGreatDoorCb
import Derived.Test.YtjaobihcdkjmbaaGreatDoorC0
import Derived.Test.YtjaobihcdkjmbaaGreatDoorC1
import Derived.Test.YtjaobihcdkjmbaaGreatDoorC2
import Derived.Test.YtjaobihcdkjmbaaGreatDoorC3
import Derived.Test.YtjaobihcdkjmbaaGreatDoorC7
import Derived.Test.YtjaobihcdkjmbaaGreatDoorC8
import Derived.Test.YtjaobihcdkjmbaaGreatDoorC9
import Derived.Test.YtjaobihcdkjmbaaGreatDoorC12
set_option linter.unusedVariables false
set_option linter.unusedSimpArgs false
namespace Go.Proofs.YtjaobihcdkjmbaaGreatDoor.PReadTokens
end Go.Proofs.YtjaobihcdkjmbaaGreatDoor.PReadTokens
namespace Go.Proofs.YtjaobihcdkjmbaaGreatDoorW.PrintLast
end Go.Proofs.YtjaobihcdkjmbaaGreatDoorW.PrintLast
namespace Go.Proofs.YtjaobihcdkjmbaaGreatDoorW.PrintMore
end Go.Proofs.YtjaobihcdkjmbaaGreatDoorW.PrintMore
namespace Go.Proofs.YtjaobihcdkjmbaaGreatDoorW.PrintWords
end Go.Proofs.YtjaobihcdkjmbaaGreatDoorW.PrintWords
set_option maxRecDepth 100000
set_option maxHeartbeats 8000000
section
namespace Go.Proofs.YtjaobihcdkjmbaaGreatDoor
open Go.RowKit Go.Proofs.YtjaobihcdkjmbaaGreatDoorW.PrintWords Go.Proofs.YtjaobihcdkjmbaaGreatDoor.PReadTokens
def zDm (op:Int):TypeId:=if op=13∨op=12∨op=10∨op=11 then 150 else if op=3∨op=4∨op=5∨op=6 then 152 else if op=2 then 154 else if op=7∨op=9 then 155 else 156
theorem zBo (x:S31) (A:Option Addr) (n c:Nat) (w:World):Calls Tryz.prog 96 #[exV x (.slice A n c)] w fun e w'=>e=.returned (.iface (zDm x.f0) (exV x (.slice A n c)))∧Below w.heap.size w w':=by
 obtain⟨op,num,name,size,xs⟩:=x;unfold exV;simp only;by_cases h:op=13∨op=12∨op=10∨op=11∨op=3∨op=4∨op=5∨op=6∨op=2∨op=7∨op=9
 ·rcases h with rfl | rfl | rfl | rfl | rfl | rfl | rfl | rfl | rfl | rfl | rfl
  all_goals
   go_enter Tryz.func96,Tryz.ntmps96;go_wp2;go_ret;exact⟨rfl,(kA3 _ w).alloc (kA2 _) _⟩
 ·have e:zDm op=156:=by unfold zDm;rw[kAa kCW,kAa kCW,kAa kCW,kAa kCW]
  rw[e];have h2:=zAA (a:=op) (b:=2) kCW;have h3:=zAA (a:=op) (b:=3) kCW;have h4:=zAA (a:=op) (b:=4) kCW;have h5:=zAA (a:=op) (b:=5) kCW;have h6:=zAA (a:=op) (b:=6) kCW;have h7:=zAA (a:=op) (b:=7) kCW;have h9:=zAA (a:=op) (b:=9) kCW;have h10:=zAA (a:=op) (b:=10) kCW;have h11:=zAA (a:=op) (b:=11) kCW;have h12:=zAA (a:=op) (b:=12) kCW;have h13:=zAA (a:=op) (b:=13) kCW;clear e h;go_enter Tryz.func96,Tryz.ntmps96;go_wp2;go_ret;exact⟨rfl,(kA3 _ w).alloc (kA2 _) _⟩
def cat (xs:List ByteArray):ByteArray:=⟨(Lib.join (xs.map (·.data.toList)) []).toArray⟩
theorem cat_data (xs:List ByteArray):(cat xs).data.toList=(xs.map (·.data.toList)).flatten:=by
 show (Lib.join (xs.map (·.data.toList)) [])=_;unfold Lib.join;generalize xs.map (·.data.toList)=l
 induction l with
 | nil=>rfl
 | cons a l ih =>
  cases l with
  | nil=>simp[List.intercalate]
  | cons b l=>rw[List.intercalate_cons_cons];simp[ih]
theorem zAW (bk:Nat) (xs:List ByteArray) (t:TypeId) (w:World) (hb:w.heap[bk]?=some (.cells (xs.map Value.string).toArray t (0,0))) (hN:xs.length≤140737488355328) (hlen:(cat xs).size≤140737488355328) :
  Calls Tryz.prog 98 #[.slice (some ⟨bk,0,none⟩) xs.length xs.length] w fun e w'=>e=.returned (.string (cat xs))∧Below w.heap.size w w':=by
 have hj:=Tryz.strings_Join bk 0 xs.length xs ⟨#[]⟩ w (fun j x hx=>by
  have h1:=zA1 hb j;rw[kAL];refine h1.trans ?_;simp[hx]) (zA5 hb) hN (kA2 _) hlen
 go_enter Tryz.func98,Tryz.ntmps98;go_wp2_with (go_at_call 137;refine hj.mono ?_;rintro e w1 ⟨rfl,hb1⟩);go_ret;exact⟨rfl,hb1⟩
abbrev zE:Value:=.agg #[.int .i64 0,.string ⟨#[]⟩,.string ⟨#[]⟩,.string ⟨#[]⟩,.int .i64 0,.slice none 0 0]
theorem ta150_150 (v:Value) (w:World):(Instr.typeAssert (.iface 150 v) 147 150 true).run Tryz.prog w=.ok (.tuple #[v,.bool true]) w:=kCX
theorem zDI (v:Value) (w:World):(Instr.typeAssert (.iface 152 v) 147 150 true).run Tryz.prog w=.ok (.tuple #[zE,.bool false]) w:=kCX
theorem zEs (v:Value) (w:World):(Instr.typeAssert (.iface 152 v) 147 152 true).run Tryz.prog w=.ok (.tuple #[v,.bool true]) w:=kCX
theorem ta154_150 (v:Value) (w:World):(Instr.typeAssert (.iface 154 v) 147 150 true).run Tryz.prog w=.ok (.tuple #[zE,.bool false]) w:=kCX
theorem ta154_152 (v:Value) (w:World):(Instr.typeAssert (.iface 154 v) 147 152 true).run Tryz.prog w=.ok (.tuple #[zE,.bool false]) w:=kCX
theorem ta154_154 (v:Value) (w:World):(Instr.typeAssert (.iface 154 v) 147 154 true).run Tryz.prog w=.ok (.tuple #[v,.bool true]) w:=kCX
theorem ta155_150 (v:Value) (w:World):(Instr.typeAssert (.iface 155 v) 147 150 true).run Tryz.prog w=.ok (.tuple #[zE,.bool false]) w:=kCX
theorem ta155_152 (v:Value) (w:World):(Instr.typeAssert (.iface 155 v) 147 152 true).run Tryz.prog w=.ok (.tuple #[zE,.bool false]) w:=kCX
theorem ta155_154 (v:Value) (w:World):(Instr.typeAssert (.iface 155 v) 147 154 true).run Tryz.prog w=.ok (.tuple #[zE,.bool false]) w:=kCX
theorem ta155_155 (v:Value) (w:World):(Instr.typeAssert (.iface 155 v) 147 155 true).run Tryz.prog w=.ok (.tuple #[v,.bool true]) w:=kCX
theorem ta156_150 (v:Value) (w:World):(Instr.typeAssert (.iface 156 v) 147 150 true).run Tryz.prog w=.ok (.tuple #[zE,.bool false]) w:=kCX
theorem ta156_152 (v:Value) (w:World):(Instr.typeAssert (.iface 156 v) 147 152 true).run Tryz.prog w=.ok (.tuple #[zE,.bool false]) w:=kCX
theorem ta156_154 (v:Value) (w:World):(Instr.typeAssert (.iface 156 v) 147 154 true).run Tryz.prog w=.ok (.tuple #[zE,.bool false]) w:=kCX
theorem ta156_155 (v:Value) (w:World):(Instr.typeAssert (.iface 156 v) 147 155 true).run Tryz.prog w=.ok (.tuple #[zE,.bool false]) w:=kCX
theorem ta156_156 (v:Value) (w:World):(Instr.typeAssert (.iface 156 v) 147 156 true).run Tryz.prog w=.ok (.tuple #[v,.bool true]) w:=kCX
open Go.Lib in
theorem tab_below {w w':World} {name:String} {k:IntKind} {zs:List Int} (h:TabIs Tryz.prog w name k zs) (hb:Below w.heap.size w w'):TabIs Tryz.prog w' name k zs:=by
 unfold TabIs World.var? at *
 cases hg:Tryz.prog.globalNamed name with
 | none=>simp[hg] at h
 | some g =>
  simp only[hg,Option.bind_some] at h⊢;have hlt:g<w.heap.size:=by
   rcases kBL g w.heap.size with h' | h'
   ·exact h'
   ·rw[kCf h'] at h;simp at h
  rw[hb.block g hlt];exact h
theorem below_growN (w:World) (k:Nat) (os:Array Obj):Below w.heap.size w (Go.Sort.grow (w.drewN k) os):=by
 have h1:Below w.heap.size w (w.drewN k):=zA3 (kA3 _ w) k;have h2:Below w.heap.size (w.drewN k) (Go.Sort.grow (w.drewN k) os):=⟨rfl,rfl,rfl,by rw[Go.Sort.size_grow];omega,fun j hj=>Go.Sort.heap_grow_old _ _ (by have:=h1.size;omega)⟩;exact h1.trans h2
def Tab (w : World) : Prop := Lib.TabIs Tryz.prog w "internal/strconv.uint64pow10" .u64 Lib.pow10Tab
theorem Tab.below {w w':World} (h:Tab w) (hb:Below w.heap.size w w'):Tab w':=tab_below h hb
theorem itoa_calls (n:Int) (h0:-9223372036854775808≤n) (h1:n≤9223372036854775807) (w:World) (h:Tab w) :
  Calls Tryz.prog 100 #[.int .i64 n] w fun e w'=>e=.returned (.string ⟨(Lib.itoa n).toArray⟩)∧Below w.heap.size w w' :=
 (Tryz.strconv_Itoa n h0 h1 w h).mono fun _ _ ⟨he,k,os,hw⟩=>⟨he,by subst hw;exact below_growN _ _ _⟩
def levelX (x:S31):Int :=
 if x.f0=13∨x.f0=12∨x.f0=10∨x.f0=11 then 0 else if x.f0=3∨x.f0=4 then 1 else if x.f0=5∨x.f0=6 then 2 else if x.f0=2 then 1 else if x.f0=7 then 3 else if x.f0=9 then 4 else 5
def zFE (t:ByteArray) (lv least:Int):ByteArray:=if lv<least then cat [⟨#[40]⟩,t,⟨#[41]⟩] else t
theorem zCR {t:ByteArray} {lv least:Int} (h:lv<least):zFE t lv least=cat [⟨#[40]⟩,t,⟨#[41]⟩]:=kAb h
theorem zDr {t:ByteArray} {lv least:Int} (h:¬lv<least):zFE t lv least=t:=kAa h
theorem zDA (xs:List ByteArray):(cat xs).size=(xs.map (·.size)).sum:=by
 show (cat xs).data.toList.length=_;rw[cat_data,List.length_flatten,List.map_map];rfl
def argT (ts:List (ByteArray×Int)) (i:Nat) (least:Int):ByteArray:=zFE (ts.getD i (⟨#[]⟩,0)).1 (ts.getD i (⟨#[]⟩,0)).2 least
def signOf (op:Int):UInt8:=if op=3 then 43 else if op=4 then 45 else if op=5 then 42 else 47
def openOf (op:Int) (num:S28) (name:ByteArray) (size:Int) (ts:List (ByteArray×Int)):ByteArray :=
 if op=2 then cat [⟨#[45]⟩,argT ts 0 2]
 else if op=3∨op=4 then cat [argT ts 0 1,⟨#[32]⟩,⟨#[signOf op]⟩,⟨#[32]⟩,argT ts 1 2]
 else if op=5∨op=6 then cat [argT ts 0 2,⟨#[32]⟩,⟨#[signOf op]⟩,⟨#[32]⟩,argT ts 1 3]
 else if op=7 then cat [argT ts 0 4,⟨#[94]⟩,⟨(Lib.itoa size).toArray⟩]
 else if op=9 then cat [argT ts 0 4,⟨#[91]⟩,argT ts 1 0,⟨#[93]⟩]
 else if op=1 then name
 else ⟨#[]⟩
mutual
def zDO:S31→ByteArray
 | ⟨op,num,name,size,l⟩=>openOf op num name size (argsX l)
def argsX:List S31→List (ByteArray×Int)
 | []=>[]
 | x :: l=>(zDO x,levelX x) :: argsX l
end
def zAC (x:S31) (least:Int):ByteArray:=zFE (zDO x) (levelX x) least
theorem m152 (v : Value) (w : World) : (method 467 152 v "metewand/read.level").run Tryz.prog w = .ok (99, v) w := by kernel_rfl
theorem m154 (v : Value) (w : World) : (method 467 154 v "metewand/read.level").run Tryz.prog w = .ok (310, v) w := by kernel_rfl
theorem m155 (v : Value) (w : World) : (method 467 155 v "metewand/read.level").run Tryz.prog w = .ok (311, v) w := by kernel_rfl
theorem m156 (v : Value) (w : World) : (method 467 156 v "metewand/read.level").run Tryz.prog w = .ok (312, v) w := by kernel_rfl
theorem lev154 (a b c d e f:Value) (w:World):Calls Tryz.prog 310 #[.agg #[a,b,c,d,e,f]] w fun en w'=>en=.returned (.int .i64 1)∧Below w.heap.size w w':=by
 go_enter Tryz.func310,Tryz.ntmps310;go_wp2;go_ret;exact⟨rfl,(kA3 _ w).alloc (kA2 _) _⟩
theorem lev156 (a b c d e f:Value) (w:World):Calls Tryz.prog 312 #[.agg #[a,b,c,d,e,f]] w fun en w'=>en=.returned (.int .i64 5)∧Below w.heap.size w w':=by
 go_enter Tryz.func312,Tryz.ntmps312;go_wp2;go_ret;exact⟨rfl,(kA3 _ w).alloc (kA2 _) _⟩
theorem lev155 (op:Int) (hop:op=7∨op=9) (b c d e f:Value) (w:World):Calls Tryz.prog 311 #[.agg #[.int .i64 op,b,c,d,e,f]] w fun en w'=>en=.returned (.int .i64 (if op=7 then 3 else 4))∧Below w.heap.size w w':=by
 rcases hop with rfl | rfl
 all_goals
  go_enter Tryz.func311,Tryz.ntmps311;go_wp2;go_ret;exact⟨rfl,(kA3 _ w).alloc (kA2 _) _⟩
theorem lev152 (op:Int) (hop:op=3∨op=4∨op=5∨op=6) (b c d e f:Value) (w:World):Calls Tryz.prog 99 #[.agg #[.int .i64 op,b,c,d,e,f]] w fun en w'=>en=.returned (.int .i64 (if op=3∨op=4 then 1 else 2))∧Below w.heap.size w w':=by
 rcases hop with rfl | rfl | rfl | rfl
 all_goals
  go_enter Tryz.func99,Tryz.ntmps99;go_wp2;go_ret;exact⟨rfl,(kA3 _ w).alloc (kA2 _) _⟩
theorem text_ahead (x y:S31) (hop:x.f0=2) (hxs:x.f4=[y]) (least:Int) (v:Value) (w:World) (hv:Vw w x v) (hsz:(zDO x).size≤1000000)
  (hrec:∀v w' ls,Vw w' y v→Below w.heap.size w w'→Calls Tryz.prog 58 #[v,.int .i64 ls] w' fun e w''=>e=.returned (.string (zAC y ls))∧Below w'.heap.size w' w'') :
  Calls Tryz.prog 58 #[v,.int .i64 least] w fun e w'=>e=.returned (.string (zAC x least))∧Below w.heap.size w w':=by
 obtain⟨A,c,rfl,hc1,hc2⟩:=hv.out;obtain⟨op,num,name,size,xs⟩:=x;simp only at hop hxs;subst hop hxs;obtain⟨r,hr⟩:∃r,r=zDO ⟨2,num,name,size,[y]⟩:=⟨_,rfl⟩;obtain⟨R,hR⟩:∃R,R=zAC ⟨2,num,name,size,[y]⟩ least:=⟨_,rfl⟩;have hR2:R=zFE r 1 least:=by rw[hR,hr];rfl
 rw[← hR];rw[← hr] at hsz;have HR2:=kA1 hR2;have hcat:r=cat [⟨#[45]⟩,zAC y 2]:=hr;have HCAT:=kA1 hcat;clear hR hR2 hr hcat;have hk:=zBo ⟨2,num,name,size,[y]⟩ A 1 c;unfold exV at *;simp only at *;have t1:=ta154_150;have t2:=ta154_152;have t3:=ta154_154;have HK:=kA1 hk;have HR:=kA1 hrec;have HC:=kA1 hc2;have HV:=kA1 hv;clear hk hrec hc2 hv;go_enter Tryz.func58,Tryz.ntmps58;go_wp2_with fail;refine (HK.out _).mono ?_;rintro e w1 ⟨rfl,hb1⟩;have hk2:zDm (S31.mk 2 num name size [y]).f0=154:=rfl;rw[hk2];have hbw:=((kA3 _ w).alloc (kA2 _) (.cells #[.int .i64 2,.string num.f0,.string num.f1,.string name,.int .i64 size,.slice A 1 c] 31)).trans (hb1.mono kCY);have hbw2:=hbw.alloc hbw.size (.cells #[.int .i64 2,.string num.f0,.string num.f1,.string name,.int .i64 size,.slice A 1 c] 154);obtain⟨ad,A5,c5,rfl,q0,q1,q2,q3,q4,q5,hvw⟩:=zAs (xs:=[y]) (Kd.C_below HC.out hbw2) 0 kCY;simp only[List.getElem_cons_zero,kB0,kAO] at q0 q1 q2 q3 q4 q5 hvw;go_wp2_with fail;refine (HR.out _ _ _ hvw hbw2).mono ?_;rintro e w2 ⟨rfl,hb2⟩;go_wp2_with fail;rw[HCAT.out] at hsz;have hj:=zAW w2.heap.size [⟨#[45]⟩,zAC y 2] 9 _ (zA4 w2 _) kCY kCW;simp only[List.length_cons,List.length_nil] at hj;refine hj.mono ?_;rintro e w3 ⟨rfl,hb3⟩;rw[← HCAT.out];have hm:=m154;have hbx:=hbw2.trans (hb2.mono hbw2.size);have hbw3:=(hbx.alloc hbx.size (.cells #[.string ⟨#[45]⟩,.string (zAC y 2)] 9)).trans (hb3.mono (by simp;have:=hbx.size;omega));have HL:=kA1 (fun a b c d e f w'=>lev154 a b c d e f w');have HB:=kA1 hbw3;clear hj hb1 hb2 hb3 HV HC HR HK t1 t2 t3 q0 q1 q2 q3 q4 q5 hvw hbw hbw2 hbx hbw3;have hrs:(cat [⟨#[40]⟩,r,⟨#[41]⟩]).size≤1000002:=by
  rw[← HCAT.out] at hsz;rw[zDA];simp;have e1:(⟨#[40]⟩:ByteArray).size=1:=rfl;have e2:(⟨#[41]⟩:ByteArray).size=1:=rfl;omega
 have HS:=kA1 hrs;clear hrs hsz
 cases hl':decide (1<least)
 ·have hl:=kA1 (kBr hl');go_wp2_with (go_at_call 310;refine (HL.out _ _ _ _ _ _ _).mono ?_;rintro e w4 ⟨rfl,hb4⟩);go_ret;exact⟨by rw[HR2.out,zDr kDa];rfl,HB.out.trans (hb4.mono HB.out.size)⟩
 ·have hl:=kA1 (kA8 hl');go_wp2_with (go_at_call 310;refine (HL.out _ _ _ _ _ _ _).mono ?_;rintro e w4 ⟨rfl,hb4⟩);have hj:=zAW w4.heap.size [⟨#[40]⟩,r,⟨#[41]⟩] 9 _ (zA4 w4 _) kCY (kAz HS.out kCW);simp only[List.length_cons,List.length_nil] at hj;refine hj.mono ?_;rintro e w5 ⟨rfl,hb5⟩;go_wp2;go_ret;have h4:=HB.out.trans (hb4.mono HB.out.size);exact⟨by rw[HR2.out,zCR kDa];rfl,(h4.alloc h4.size (.cells #[.string ⟨#[40]⟩,.string r,.string ⟨#[41]⟩] 9)).trans (hb5.mono kDh)⟩
end Go.Proofs.YtjaobihcdkjmbaaGreatDoor
end
section
namespace Go.Proofs.YtjaobihcdkjmbaaGreatDoor.PReadTokens
open Go.RowKit Go.Proofs.YtjaobihcdkjmbaaGreatDoorW.PrintWords Go.Proofs.YtjaobihcdkjmbaaGreatDoorW.PrintLast Go.Proofs.YtjaobihcdkjmbaaGreatDoorW.PrintMore
section
attribute [local go_sem] zCG zCE zDx zDw zC9 zC8 zCF zCD   -- for this text's walks alone
set_option linter.unusedVariables false
set_option linter.unusedSimpArgs false
def metewandref01_OfInt.f:Nat→Int→Option (ByteArray)
 | 0,_=>none
 | k+1,a0=>if a0<0 then ((metewandref01_OfInt.f k (wrap64 (-a0))).bind fun t359=>(if 1+t359.size≤9223372036854775807 then (some ((⟨#[45]⟩:ByteArray)++t359)) else (none))) else (if a0<10 then (some (strOfNums (([(wrap64 (48+a0)) % 256]:List Int)))) else ((metewandref01_OfInt.f k (wrap64 (Int.tdiv a0 10))).bind fun t363=>((some (([(wrap64 (48+(Int.tmod a0 10))) % 256]:List Int):List Int)).bind fun y364=>(if t363.size+(strOfNums y364).size≤9223372036854775807 then (some (t363++(strOfNums y364))) else (none)))))
theorem metewandref01_OfInt.mono_l:∀k,(∀y0,LeO (metewandref01_OfInt.f k y0) (metewandref01_OfInt.f (k+1) y0))
 | 0=>fun _ r h=>by simp[metewandref01_OfInt.f] at h
 | k+1=>by
  have ih0:=metewandref01_OfInt.mono_l k
  ·intro y0;unfold metewandref01_OfInt.f
   repeat' first
   | (with_reducible exact ih0 _)
   | (with_reducible exact LeO.refl _)
   | (with_reducible exact LeO.none _)
   | (with_reducible refine LeO.ite ?_ ?_)
   | (with_reducible refine LeO.bind ?_ (fun _=>?_))
   | exact ih0 _
   | exact LeO.none _
   | refine LeO.ite ?_ ?_
   | refine LeO.bind ?_ (fun _=>?_)
theorem metewandref01_OfInt.mono:∀a0 k,LeO (metewandref01_OfInt.f k a0) (metewandref01_OfInt.f (k+1) a0):=by
 intro a0 k;have ih0:=metewandref01_OfInt.mono_l k;exact ih0 a0
def metewandref01_OfInt.T5:Bool×List (List Nat×List Nat):=(true,[([],[]),([0],[0]),([1],[1]),([],[]),([3],[3]),([4],[4]),([5],[5]),([6],[6]),([7],[7]),([2,8],[2,8]),([9,2,0,1,2,3,4,5,6,7,8,9],[9])])
def metewandref01_OfInt.B5:List Nat:=[0,1,3,0,8,24,56,120,248,511,1023]
theorem metewandref01_OfInt.tab5:rtab .any (opsOf Tryz.f84 5)=metewandref01_OfInt.T5:=kCX
theorem metewandref01_OfInt.bits5:waitsOk metewandref01_OfInt.T5.2 metewandref01_OfInt.B5=true:=kCX
theorem metewandref01_OfInt.calls (k:Nat):∀(a0:Int) (r:ByteArray) (w:World) (h:metewandref01_OfInt.f k a0=some r),
  Calls Tryz.prog 84 #[.int .i64 a0] w fun e w'=>e=.returned (.string r)∧Below w.heap.size w w':=by
 induction k using Nat.strongRecOn with
 | _ k ih =>
 intro a0 r w h
 cases k with
 | zero=>exact absurd h (by simp[metewandref01_OfInt.f])
 | succ k =>
 simp only[metewandref01_OfInt.f] at h;have HB:=Aside0.mk (kA3 w.heap.size w);have H:(if a0<0 then ((metewandref01_OfInt.f k (wrap64 (-a0))).bind fun t359=>(if 1+t359.size≤9223372036854775807 then (some ((⟨#[45]⟩:ByteArray)++t359)) else (none))) else (if a0<10 then (some (strOfNums (([(wrap64 (48+a0)) % 256]:List Int)))) else ((metewandref01_OfInt.f k (wrap64 (Int.tdiv a0 10))).bind fun t363=>((some (([(wrap64 (48+(Int.tmod a0 10))) % 256]:List Int):List Int)).bind fun y364=>(if t363.size+(strOfNums y364).size≤9223372036854775807 then (some (t363++(strOfNums y364))) else (none))))))=some r:=h;clear h;by_cases c2:a0<0
 ·rw[kAb c2] at H;have c2b0:decide (a0<0)=true:=kA5 c2;clear c2;replace H:=Option.bind_eq_some_iff.mp H;obtain⟨t359,A30,H⟩:=H;replace H:(if 1+t359.size≤9223372036854775807 then (some ((⟨#[45]⟩:ByteArray)++t359)) else (none))=some r:=H;have A3:=Aside0.mk A30;clear A30;by_cases c4:1+t359.size≤9223372036854775807
  ·rw[kAb c4] at H;have c4b0:=kAs c4;have c4b1:decide (1+t359.size≤9223372036854775807)=true:=kA5 c4
   try have c4b2:(9223372036854775807<1+t359.size)=False:=eq_false (kCE.2 c4)
   obtain rfl:=kAc H;go_enter Tryz.func84,Tryz.ntmps84;go_wp2_with (first | ((with_reducible refine zAc (f:=84) rfl ?_);refine zAQ (some 7) rfl rfl Tryz.func84 kCX rfl #[.int .i64 (wrap64 (-a0))] rfl kD4 ?_;(with_reducible refine (ih k kCW (wrap64 (-a0)) t359 _ A3.out).mono ?_);rintro e w5 ⟨rfl,hb⟩;refine⟨_,rfl,?_⟩;have n0_:=Aside0.mk (zAG kD7 hb);clear HB;have HB:=n0_;clear n0_;(try clear hb);(try clear hb2);(try clear hk);(try clear hi)));go_ret;exact⟨by first | rfl | (simp[zAr,zAq]<;>rfl) | (simp[*,zAr,zAq]<;>rfl),kD7⟩
  ·rw[kAa c4] at H;exact absurd H kCY
 ·rw[kAa c2] at H;have c2b0:decide (a0<0)=false:=kA6 c2;clear c2;by_cases c6:a0<10
  ·rw[kAb c6] at H;have c6b0:decide (a0<10)=true:=kA5 c6;clear c6;obtain⟨y360,hy360⟩:∃y_:List Int,y_=(([(wrap64 (48+a0)) % 256]:List Int)):=⟨_,rfl⟩;replace H:(some (strOfNums y360))=some r:=by first | (rw[hy360];with_reducible exact H) | (have H2_:=(Option.bind_some _ _).symm.trans H;rw[hy360];with_reducible exact H2_) | (have H2_:=(Option.bind_some _ _).symm.trans H;with_reducible exact H2_) | with_reducible exact H | (rw[hy360];exact H) | exact H
   have Ny360:=Aside0.mk hy360;clear hy360;obtain rfl:=kAc H;go_enter Tryz.func84,Tryz.ntmps84;go_wp2_with (first | ((with_reducible refine zE0 (N:=14) rfl ?_);refine Kd.R_lit (Kd.int .u8) _ 5 ?hg (N:=14) ?hd (xs:=([(wrap64 (48+a0)) % 256]:List Int)) (inner:=[.int .u8 ((wrap64 (48+a0)) % 256)]) (ok:=fun _=>True) (okp:=fun _=>True) ?hr ?hp (fun _ hk=>hk) trivial (kA3 _ _) (kA2 _) kCY ?_;(case hd=>rfl);(case hg=>rfl);(case hr=>first | (go_simp;done) | (go_simp;rfl));(case hp=>exact (Reps.one (show Kd.M (Kd.int .u8) _ _ _ ((wrap64 (48+a0)) % 256) [.int .u8 ((wrap64 (48+a0)) % 256)] from rfl) (Reps.none _ _)));intro v361 w7 ho8 hb hg_ hnew_;clear hg_ hnew_;(first | rw[← Ny360.out] at ho8 | (simp only[Int.reduceToNat] at ho8;rw[← Ny360.out] at ho8));have n0_:=Aside0.mk (Kd.R_lower ho8 (zBd kD7));have n1_:=Aside0.mk (zAG kD7 hb);clear HB;have HO362:=n0_;have HB:=n1_;clear n0_ n1_;clear hb ho8;have hcv9:=zDj (P:=Tryz.prog) Tryz.underlying84 Tryz.underlying5 Tryz.underlying9 (Kd.own_of_R HO362.out)));go_ret;exact⟨by first | rfl | (simp[zAr,zAq]<;>rfl) | (simp[*,zAr,zAq]<;>rfl),kD7⟩
  ·rw[kAa c6] at H;have c6b0:decide (a0<10)=false:=kA6 c6;clear c6;replace H:=Option.bind_eq_some_iff.mp H;obtain⟨t363,A100,H⟩:=H;replace H:((some (([(wrap64 (48+(Int.tmod a0 10))) % 256]:List Int):List Int)).bind fun y364=>(if t363.size+(strOfNums y364).size≤9223372036854775807 then (some (t363++(strOfNums y364))) else (none)))=some r:=H;have A10:=Aside0.mk A100;clear A100;obtain⟨y364,hy364⟩:∃y_:List Int,y_=(([(wrap64 (48+(Int.tmod a0 10))) % 256]:List Int)):=⟨_,rfl⟩;replace H:(if t363.size+(strOfNums y364).size≤9223372036854775807 then (some (t363++(strOfNums y364))) else (none))=some r:=by first | (rw[hy364];with_reducible exact H) | (have H2_:=(Option.bind_some _ _).symm.trans H;rw[hy364];with_reducible exact H2_) | (have H2_:=(Option.bind_some _ _).symm.trans H;with_reducible exact H2_) | with_reducible exact H | (rw[hy364];exact H) | exact H
   have Ny364:=Aside0.mk hy364;clear hy364;by_cases c11:t363.size+(strOfNums y364).size≤9223372036854775807
   ·rw[kAb c11] at H;have c11b0:=kAs c11;have c11b1:decide (t363.size+(strOfNums y364).size≤9223372036854775807)=true:=kA5 c11
    try have c11b2:(9223372036854775807<t363.size+(strOfNums y364).size)=False:=eq_false (kCE.2 c11)
    obtain rfl:=kAc H;go_enter Tryz.func84,Tryz.ntmps84
    try go_wp2
    have n0_:=Aside0.mk (zA8 HB.out);clear HB;have HB:=n0_;clear n0_;refine zEb (n:=11) (S:=fun w'=>True) (ds:=[]) #[false,false,false,false,false,false,false,false,false,false,false] kCX rfl rfl trivial (fun hHeld=>?_);refine with_tabW metewandref01_OfInt.tab5 metewandref01_OfInt.bits5 (fun HT_ HW_=>?_);generalize w.drew=w12 at HB hHeld ⊢;refine zAu (i:=0) (N:=some 16) (v:=?_) (a':=?_) #[true,false,false,false,false,false,false,false,false,false,false] rfl rfl (zBP HT_.out kCX) (fun _ _ _ h=>h) (Or.inl ⟨kD9,?_⟩) ?_ ?_;rotate_left
    ·intro w';go_simp
     with_reducible rfl
    rotate_left
    ·simp only[Act.put,kA0,List.set_cons_zero,List.set_cons_succ,zAg,zAh];rfl
    refine zAu (i:=1) (N:=some 17) (v:=?_) (a':=?_) #[true,true,false,false,false,false,false,false,false,false,false] rfl rfl (zBP HT_.out kCX) (fun _ _ _ h=>h) (Or.inl ⟨kD9,?_⟩) ?_ ?_;rotate_left
    ·intro w';go_simp
     with_reducible rfl
    rotate_left
    ·simp only[Act.put,kA0,List.set_cons_zero,List.set_cons_succ,zAg,zAh];rfl
    refine zAu (i:=3) (N:=some 19) (v:=?_) (a':=?_) #[true,true,false,true,false,false,false,false,false,false,false] rfl rfl (zBP HT_.out kCX) (fun _ _ _ h=>h) (Or.inl ⟨kD9,?_⟩) ?_ ?_;rotate_left
    ·intro w';go_simp
     with_reducible rfl
    rotate_left
    ·simp only[Act.put,kA0,List.set_cons_zero,List.set_cons_succ,zAg,zAh];rfl
    refine zAu (i:=4) (N:=some 20) (v:=?_) (a':=?_) #[true,true,false,true,true,false,false,false,false,false,false] rfl rfl (zBP HT_.out kCX) (fun _ _ _ h=>h) (Or.inl ⟨kD9,?_⟩) ?_ ?_;rotate_left
    ·intro w';go_simp
     with_reducible rfl
    rotate_left
    ·simp only[Act.put,kA0,List.set_cons_zero,List.set_cons_succ,zAg,zAh];rfl
    refine zAu (i:=5) (N:=some 21) (v:=?_) (a':=?_) #[true,true,false,true,true,true,false,false,false,false,false] rfl rfl (zBP HT_.out kCX) (fun _ _ _ h=>h) (Or.inl ⟨kD9,?_⟩) ?_ ?_;rotate_left
    ·intro w';go_simp
     with_reducible rfl
    rotate_left
    ·simp only[Act.put,kA0,List.set_cons_zero,List.set_cons_succ,zAg,zAh];rfl
    refine zAu (i:=6) (N:=some 22) (v:=?_) (a':=?_) #[true,true,false,true,true,true,true,false,false,false,false] rfl rfl (zBP HT_.out kCX) (fun _ _ _ h=>h) (Or.inl ⟨kD9,?_⟩) ?_ ?_;rotate_left
    ·intro w';go_simp
     with_reducible rfl
    rotate_left
    ·simp only[Act.put,kA0,List.set_cons_zero,List.set_cons_succ,zAg,zAh];rfl
    refine join_ (σ:=Value) 2 #[true,true,true,true,true,true,true,true,true,false,false] (fun s_=>[(18,.string t363),(23,s_),(24,.string (strOfNums y364))]) (fun s_ w'=>(Kd.R (Kd.int .u8) 5 w' w.heap.size (fun _=>True) s_ y364)∧(Below w.heap.size w w')) ?_ ?_;rotate_left
    ·intro hCont;refine two_ (i:=2) (j:=7) (Ni:=some 18) (Nj:=some 23) #[true,true,true,true,true,true,true,false,false,false,false] #[true,true,false,true,true,true,true,true,false,false,false] rfl rfl rfl rfl (two_of HT_.out kCX) kD0 kD0 (fun K hK=>?_) (fun K hK=>?_)
     ·skip
      refine goes_ Tryz.func84 kCX rfl #[.int .i64 (wrap64 (Int.tdiv a0 10))] kD9 rfl rfl kD4 ?_
      with_reducible refine (ih k kCW (wrap64 (Int.tdiv a0 10)) t363 _ A10.out).mono ?_
      rintro e w13⟨rfl,hb⟩;refine⟨_,rfl,?_⟩;have n0_:=Aside0.mk (zAG kD7 hb);clear HB;have HB:=n0_;clear n0_
      (try clear hb)
      (try clear hb2)
      (try clear hk)
      (try clear hi)
      refine hK.out _ _ trivial (fun hHeld=>?_);clear hK K;refine zCe (a':=?_) ?_ ?_;rotate_left
      ·show Act.put _ (some 18) _=_;simp only[Act.put,kA0,List.set_cons_zero,List.set_cons_succ,zAg,zAh];rfl
      refine one_ (i:=7) (N:=some 23) #[true,true,true,true,true,true,true,true,false,false,false] rfl rfl (one_of HT_.out kCX) kD0 (fun K hK=>?_);refine Kd.R_lit_step (Kd.int .u8) _ 5 ?hg (N:=23) ?hd (xs:=([(wrap64 (48+(Int.tmod a0 10))) % 256]:List Int)) (inner:=[.int .u8 ((wrap64 (48+(Int.tmod a0 10))) % 256)]) (ok:=fun _=>True) (okp:=fun _=>True) ?hr ?hp (fun _ hk=>hk) trivial (kA3 _ _) (kA2 _) kCY ?_;(case hd=>rfl);(case hg=>rfl);(case hr=>first | (go_simp;done) | (go_simp;rfl));(case hp=>exact (Reps.one (show Kd.M (Kd.int .u8) _ _ _ ((wrap64 (48+(Int.tmod a0 10))) % 256) [.int .u8 ((wrap64 (48+(Int.tmod a0 10))) % 256)] from rfl) (Reps.none _ _)));intro v365 w14 ho15 hb hg_ hnew_;clear hg_ hnew_
      (first | rw[← Ny364.out] at ho15 | (simp only[Int.reduceToNat] at ho15;rw[← Ny364.out] at ho15))
      have n0_:=Aside0.mk (Kd.R_lower ho15 (zBd kD7));have n1_:=Aside0.mk (zAG kD7 hb);clear HB;have HO366:=n0_;have HB:=n1_;clear n0_ n1_;clear hb ho15;refine hK.out _ _ trivial (fun hHeld=>?_);clear hK K;refine zCe (a':=?_) ?_ ?_;rotate_left
      ·show Act.put _ (some 23) _=_;simp only[Act.put,kA0,List.set_cons_zero,List.set_cons_succ,zAg,zAh];rfl
      refine one_ (i:=8) (N:=some 24) #[true,true,true,true,true,true,true,true,true,false,false] rfl rfl (one_of HT_.out kCX) kD0 (fun K hK=>?_);have hcv16:=zDj (P:=Tryz.prog) Tryz.underlying84 Tryz.underlying5 Tryz.underlying9 (Kd.own_of_R HO366.out);refine zFH (w1:=?_) (v:=?_) kD9 rfl ?_ ?_;rotate_left 2
      ·go_simp;constructor
       ·rfl
       ·rfl
      clear hcv16;refine hK.out _ _ trivial (fun hHeld=>?_);clear hK K;refine zCe (a':=?_) ?_ ?_;rotate_left
      ·show Act.put _ (some 24) _=_;simp only[Act.put,kA0,List.set_cons_zero,List.set_cons_succ,zAg,zAh];rfl
      exact zCe kDH (hCont (v365) _ ⟨kDo,kD7⟩)
     ·skip
      refine Kd.R_lit_step (Kd.int .u8) _ 5 ?hg (N:=23) ?hd (xs:=([(wrap64 (48+(Int.tmod a0 10))) % 256]:List Int)) (inner:=[.int .u8 ((wrap64 (48+(Int.tmod a0 10))) % 256)]) (ok:=fun _=>True) (okp:=fun _=>True) ?hr ?hp (fun _ hk=>hk) trivial (kA3 _ _) (kA2 _) kCY ?_;(case hd=>rfl);(case hg=>rfl);(case hr=>first | (go_simp;done) | (go_simp;rfl));(case hp=>exact (Reps.one (show Kd.M (Kd.int .u8) _ _ _ ((wrap64 (48+(Int.tmod a0 10))) % 256) [.int .u8 ((wrap64 (48+(Int.tmod a0 10))) % 256)] from rfl) (Reps.none _ _)));intro v365 w13 ho14 hb hg_ hnew_;clear hg_ hnew_
      (first | rw[← Ny364.out] at ho14 | (simp only[Int.reduceToNat] at ho14;rw[← Ny364.out] at ho14))
      have n0_:=Aside0.mk (Kd.R_lower ho14 (zBd kD7));have n1_:=Aside0.mk (zAG kD7 hb);clear HB;have HO366:=n0_;have HB:=n1_;clear n0_ n1_;clear hb ho14;refine hK.out _ _ trivial (fun hHeld=>?_);clear hK K;refine zCe (a':=?_) ?_ ?_;rotate_left
      ·show Act.put _ (some 23) _=_;simp only[Act.put,kA0,List.set_cons_zero,List.set_cons_succ,zAg,zAh];rfl
      refine two_ (i:=2) (j:=8) (Ni:=some 18) (Nj:=some 24) #[true,true,true,true,true,true,true,true,false,false,false] #[true,true,false,true,true,true,true,true,true,false,false] rfl rfl rfl rfl (two_of HT_.out kCX) kD0 kD0 (fun K hK=>?_) (fun K hK=>?_)
      ·skip
       refine goes_ Tryz.func84 kCX rfl #[.int .i64 (wrap64 (Int.tdiv a0 10))] kD9 rfl rfl kD4 ?_
       with_reducible refine (ih k kCW (wrap64 (Int.tdiv a0 10)) t363 _ A10.out).mono ?_
       rintro e w15⟨rfl,hb⟩;refine⟨_,rfl,?_⟩;have n0_:=Aside0.mk (Kd.R_below kDo hb);have n1_:=Aside0.mk (zAG kD7 hb);clear HO366;clear HB;have HO366:=n0_;have HB:=n1_;clear n0_ n1_
       (try clear hb)
       (try clear hb2)
       (try clear hk)
       (try clear hi)
       refine hK.out _ _ trivial (fun hHeld=>?_);clear hK K;refine zCe (a':=?_) ?_ ?_;rotate_left
       ·show Act.put _ (some 18) _=_;simp only[Act.put,kA0,List.set_cons_zero,List.set_cons_succ,zAg,zAh];rfl
       refine one_ (i:=8) (N:=some 24) #[true,true,true,true,true,true,true,true,true,false,false] rfl rfl (one_of HT_.out kCX) kD0 (fun K hK=>?_);have hcv16:=zDj (P:=Tryz.prog) Tryz.underlying84 Tryz.underlying5 Tryz.underlying9 (Kd.own_of_R HO366.out);refine zFH (w1:=?_) (v:=?_) kD9 rfl ?_ ?_;rotate_left 2
       ·go_simp;constructor
        ·rfl
        ·rfl
       clear hcv16;refine hK.out _ _ trivial (fun hHeld=>?_);clear hK K;refine zCe (a':=?_) ?_ ?_;rotate_left
       ·show Act.put _ (some 24) _=_;simp only[Act.put,kA0,List.set_cons_zero,List.set_cons_succ,zAg,zAh];rfl
       exact zCe kDH (hCont (v365) _ ⟨kDo,kD7⟩)
      ·skip
       have hcv15:=zDj (P:=Tryz.prog) Tryz.underlying84 Tryz.underlying5 Tryz.underlying9 (Kd.own_of_R HO366.out);refine zFH (w1:=?_) (v:=?_) kD9 rfl ?_ ?_;rotate_left 2
       ·go_simp;constructor
        ·rfl
        ·rfl
       clear hcv15;refine hK.out _ _ trivial (fun hHeld=>?_);clear hK K;refine zCe (a':=?_) ?_ ?_;rotate_left
       ·show Act.put _ (some 24) _=_;simp only[Act.put,kA0,List.set_cons_zero,List.set_cons_succ,zAg,zAh];rfl
       refine one_ (i:=2) (N:=some 18) #[true,true,true,true,true,true,true,true,true,false,false] rfl rfl (one_of HT_.out kCX) kD0 (fun K hK=>?_);refine goes_ Tryz.func84 kCX rfl #[.int .i64 (wrap64 (Int.tdiv a0 10))] kD9 rfl rfl kD4 ?_
       with_reducible refine (ih k kCW (wrap64 (Int.tdiv a0 10)) t363 _ A10.out).mono ?_
       rintro e w16⟨rfl,hb⟩;refine⟨_,rfl,?_⟩;have n0_:=Aside0.mk (Kd.R_below kDo hb);have n1_:=Aside0.mk (zAG kD7 hb);clear HO366;clear HB;have HO366:=n0_;have HB:=n1_;clear n0_ n1_
       (try clear hb)
       (try clear hb2)
       (try clear hk)
       (try clear hi)
       refine hK.out _ _ trivial (fun hHeld=>?_);clear hK K;refine zCe (a':=?_) ?_ ?_;rotate_left
       ·show Act.put _ (some 18) _=_;simp only[Act.put,kA0,List.set_cons_zero,List.set_cons_succ,zAg,zAh];rfl
       exact zCe kDH (hCont (v365) _ ⟨kDo,kD7⟩)
    rintro v365 w17⟨h0_,h1_⟩;have n0_:Aside0 (Kd.R (Kd.int .u8) 5 w17 w.heap.size (fun _=>True) v365 y364):=⟨h0_⟩;have n1_:Aside0 (Below w.heap.size w w17):=⟨h1_⟩;clear HB;clear h0_ h1_;have HO366:=n0_;have HB:=n1_;clear n0_ n1_;have hHeld:=trivial;refine zCe (a':=?_) ?_ ?_;rotate_left
    ·simp only[zFQ,Act.put,kA0,List.set_cons_zero,List.set_cons_succ];rfl
    refine zAu (i:=9) (N:=some 25) (v:=?_) (a':=?_) #[true,true,true,true,true,true,true,true,true,true,false] rfl rfl (zBP HT_.out kCX) (fun _ _ _ h=>h) (Or.inl ⟨kD9,?_⟩) ?_ ?_;rotate_left
    ·intro w';go_simp
     with_reducible rfl
    rotate_left
    ·simp only[Act.put,kA0,List.set_cons_zero,List.set_cons_succ,zAg,zAh];rfl
    refine zAu (i:=10) (N:=some 2) (v:=?_) (a':=?_) #[true,true,true,true,true,true,true,true,true,true,true] rfl rfl (zBP HT_.out kCX) (fun _ _ _ h=>h) (Or.inl ⟨kD9,?_⟩) ?_ ?_;rotate_left
    ·intro w';go_simp
     with_reducible rfl
    rotate_left
    ·simp only[Act.put,kA0,List.set_cons_zero,List.set_cons_succ,zAg,zAh];rfl
    refine done_ (done_of HT_.out kCX) ?_
    try go_wp2
    go_ret;exact⟨by first | rfl | (simp[zAr,zAq]<;>rfl) | (simp[*,zAr,zAq]<;>rfl),kD7⟩
   ·rw[kAa c11] at H;exact absurd H kCY
def metewandkit_Digit.f (a0:Int):Option (ByteArray):=some (strOfNums (([(wrap64 (48+(Int.tmod a0 10))) % 256]:List Int)))
theorem metewandkit_Digit.calls (a0:Int) (r:ByteArray) (w:World) (h:metewandkit_Digit.f a0=some r) :
  Calls Tryz.prog 121 #[.int .i64 a0] w fun e w'=>e=.returned (.string r)∧Below w.heap.size w w':=by
 have HB:=Aside0.mk (kA3 w.heap.size w);have H:(some (strOfNums (([(wrap64 (48+(Int.tmod a0 10))) % 256]:List Int))))=some r:=h;clear h;obtain⟨y376,hy376⟩:∃y_:List Int,y_=(([(wrap64 (48+(Int.tmod a0 10))) % 256]:List Int)):=⟨_,rfl⟩;replace H:(some (strOfNums y376))=some r:=by first | (rw[hy376];with_reducible exact H) | (have H2_:=(Option.bind_some _ _).symm.trans H;rw[hy376];with_reducible exact H2_) | (have H2_:=(Option.bind_some _ _).symm.trans H;with_reducible exact H2_) | with_reducible exact H | (rw[hy376];exact H) | exact H
 have Ny376:=Aside0.mk hy376;clear hy376;obtain rfl:=kAc H;go_enter Tryz.func121,Tryz.ntmps121;go_wp2_with (first | ((with_reducible refine zE0 (N:=7) rfl ?_);refine Kd.R_lit (Kd.int .u8) _ 5 ?hg (N:=7) ?hd (xs:=([(wrap64 (48+(Int.tmod a0 10))) % 256]:List Int)) (inner:=[.int .u8 ((wrap64 (48+(Int.tmod a0 10))) % 256)]) (ok:=fun _=>True) (okp:=fun _=>True) ?hr ?hp (fun _ hk=>hk) trivial (kA3 _ _) (kA2 _) kCY ?_;(case hd=>rfl);(case hg=>rfl);(case hr=>first | (go_simp;done) | (go_simp;rfl));(case hp=>exact (Reps.one (show Kd.M (Kd.int .u8) _ _ _ ((wrap64 (48+(Int.tmod a0 10))) % 256) [.int .u8 ((wrap64 (48+(Int.tmod a0 10))) % 256)] from rfl) (Reps.none _ _)));intro v377 w2 ho3 hb hg_ hnew_;clear hg_ hnew_;(first | rw[← Ny376.out] at ho3 | (simp only[Int.reduceToNat] at ho3;rw[← Ny376.out] at ho3));have n0_:=Aside0.mk (Kd.R_lower ho3 (zBd kD7));have n1_:=Aside0.mk (zAG kD7 hb);clear HB;have HO378:=n0_;have HB:=n1_;clear n0_ n1_;clear hb ho3;have hcv4:=zDj (P:=Tryz.prog) Tryz.underlying84 Tryz.underlying5 Tryz.underlying9 (Kd.own_of_R HO378.out)));go_ret;exact⟨by first | rfl | (simp[zAr,zAq]<;>rfl) | (simp[*,zAr,zAq]<;>rfl),kD7⟩
def metewandkit_Decimal.f:Nat→Int→Option (ByteArray)
 | 0,_=>none
 | k+1,a0=>if a0<0 then ((metewandkit_Decimal.f k (wrap64 (-a0))).bind fun t379=>(if 1+t379.size≤9223372036854775807 then (some ((⟨#[45]⟩:ByteArray)++t379)) else (none))) else (if a0<10 then ((metewandkit_Digit.f a0).bind fun t380=>(some t380)) else ((metewandkit_Decimal.f k (wrap64 (Int.tdiv a0 10))).bind fun t381=>((metewandkit_Digit.f (Int.tmod a0 10)).bind fun t382=>(if t381.size+t382.size≤9223372036854775807 then (some (t381++t382)) else (none)))))
theorem metewandkit_Decimal.mono_l:∀k,(∀y0,LeO (metewandkit_Decimal.f k y0) (metewandkit_Decimal.f (k+1) y0))
 | 0=>fun _ r h=>by simp[metewandkit_Decimal.f] at h
 | k+1=>by
  have ih0:=metewandkit_Decimal.mono_l k
  ·intro y0;unfold metewandkit_Decimal.f
   repeat' first
   | (with_reducible exact ih0 _)
   | (with_reducible exact LeO.refl _)
   | (with_reducible exact LeO.none _)
   | (with_reducible refine LeO.ite ?_ ?_)
   | (with_reducible refine LeO.bind ?_ (fun _=>?_))
   | exact ih0 _
   | exact LeO.none _
   | refine LeO.ite ?_ ?_
   | refine LeO.bind ?_ (fun _=>?_)
theorem metewandkit_Decimal.mono:∀a0 k,LeO (metewandkit_Decimal.f k a0) (metewandkit_Decimal.f (k+1) a0):=by
 intro a0 k;have ih0:=metewandkit_Decimal.mono_l k;exact ih0 a0
theorem metewandkit_Decimal.calls (k:Nat):∀(a0:Int) (r:ByteArray) (w:World) (h:metewandkit_Decimal.f k a0=some r),
  Calls Tryz.prog 86 #[.int .i64 a0] w fun e w'=>e=.returned (.string r)∧Below w.heap.size w w':=by
 induction k using Nat.strongRecOn with
 | _ k ih =>
 intro a0 r w h
 cases k with
 | zero=>exact absurd h (by simp[metewandkit_Decimal.f])
 | succ k =>
 simp only[metewandkit_Decimal.f] at h;have HB:=Aside0.mk (kA3 w.heap.size w);have H:(if a0<0 then ((metewandkit_Decimal.f k (wrap64 (-a0))).bind fun t379=>(if 1+t379.size≤9223372036854775807 then (some ((⟨#[45]⟩:ByteArray)++t379)) else (none))) else (if a0<10 then ((metewandkit_Digit.f a0).bind fun t380=>(some t380)) else ((metewandkit_Decimal.f k (wrap64 (Int.tdiv a0 10))).bind fun t381=>((metewandkit_Digit.f (Int.tmod a0 10)).bind fun t382=>(if t381.size+t382.size≤9223372036854775807 then (some (t381++t382)) else (none))))))=some r:=h;clear h;by_cases c2:a0<0
 ·rw[kAb c2] at H;have c2b0:decide (a0<0)=true:=kA5 c2;clear c2;replace H:=Option.bind_eq_some_iff.mp H;obtain⟨t379,A30,H⟩:=H;replace H:(if 1+t379.size≤9223372036854775807 then (some ((⟨#[45]⟩:ByteArray)++t379)) else (none))=some r:=H;have A3:=Aside0.mk A30;clear A30;by_cases c4:1+t379.size≤9223372036854775807
  ·rw[kAb c4] at H;have c4b0:=kAs c4;have c4b1:decide (1+t379.size≤9223372036854775807)=true:=kA5 c4
   try have c4b2:(9223372036854775807<1+t379.size)=False:=eq_false (kCE.2 c4)
   obtain rfl:=kAc H;go_enter Tryz.func86,Tryz.ntmps86;go_wp2_with (first | ((with_reducible refine zAc (f:=86) rfl ?_);refine zAQ (some 7) rfl rfl Tryz.func86 kCX rfl #[.int .i64 (wrap64 (-a0))] rfl kD4 ?_;(with_reducible refine (ih k kCW (wrap64 (-a0)) t379 _ A3.out).mono ?_);rintro e w5 ⟨rfl,hb⟩;refine⟨_,rfl,?_⟩;have n0_:=Aside0.mk (zAG kD7 hb);clear HB;have HB:=n0_;clear n0_;(try clear hb);(try clear hb2);(try clear hk);(try clear hi)));go_ret;exact⟨by first | rfl | (simp[zAr,zAq]<;>rfl) | (simp[*,zAr,zAq]<;>rfl),kD7⟩
  ·rw[kAa c4] at H;exact absurd H kCY
 ·rw[kAa c2] at H;have c2b0:decide (a0<0)=false:=kA6 c2;clear c2;by_cases c6:a0<10
  ·rw[kAb c6] at H;have c6b0:decide (a0<10)=true:=kA5 c6;clear c6;replace H:=Option.bind_eq_some_iff.mp H;obtain⟨t380,A70,H⟩:=H;replace H:(some t380)=some r:=H;have A7:=Aside0.mk A70;clear A70;obtain rfl:=kAc H;go_enter Tryz.func86,Tryz.ntmps86;go_wp2_with (first | ((with_reducible refine zAc (f:=121) rfl ?_);refine zAQ (some 12) rfl rfl Tryz.func121 kCX rfl #[.int .i64 a0] rfl kD4 ?_;(with_reducible refine (metewandkit_Digit.calls a0 t380 _ A7.out).mono ?_);rintro e w8 ⟨rfl,hb⟩;refine⟨_,rfl,?_⟩;have n0_:=Aside0.mk (zAG kD7 hb);clear HB;have HB:=n0_;clear n0_;(try clear hb);(try clear hb2);(try clear hk);(try clear hi)));go_ret;exact⟨by first | rfl | (simp[zAr,zAq]<;>rfl) | (simp[*,zAr,zAq]<;>rfl),kD7⟩
  ·rw[kAa c6] at H;have c6b0:decide (a0<10)=false:=kA6 c6;clear c6;replace H:=Option.bind_eq_some_iff.mp H;obtain⟨t381,A90,H⟩:=H;replace H:((metewandkit_Digit.f (Int.tmod a0 10)).bind fun t382=>(if t381.size+t382.size≤9223372036854775807 then (some (t381++t382)) else (none)))=some r:=H;have A9:=Aside0.mk A90;clear A90;replace H:=Option.bind_eq_some_iff.mp H;obtain⟨t382,A100,H⟩:=H;replace H:(if t381.size+t382.size≤9223372036854775807 then (some (t381++t382)) else (none))=some r:=H;have A10:=Aside0.mk A100;clear A100;by_cases c11:t381.size+t382.size≤9223372036854775807
   ·rw[kAb c11] at H;have c11b0:=kAs c11;have c11b1:decide (t381.size+t382.size≤9223372036854775807)=true:=kA5 c11
    try have c11b2:(9223372036854775807<t381.size+t382.size)=False:=eq_false (kCE.2 c11)
    obtain rfl:=kAc H;go_enter Tryz.func86,Tryz.ntmps86;go_wp2_with (first | ((with_reducible refine zAc (f:=86) rfl ?_);refine zAQ (some 15) rfl rfl Tryz.func86 kCX rfl #[.int .i64 (wrap64 (Int.tdiv a0 10))] rfl kD4 ?_;(with_reducible refine (ih k kCW (wrap64 (Int.tdiv a0 10)) t381 _ A9.out).mono ?_);rintro e w12 ⟨rfl,hb⟩;refine⟨_,rfl,?_⟩;have n0_:=Aside0.mk (zAG kD7 hb);clear HB;have HB:=n0_;clear n0_;(try clear hb);(try clear hb2);(try clear hk);(try clear hi)) | ((with_reducible refine zAc (f:=121) rfl ?_);refine zAQ (some 18) rfl rfl Tryz.func121 kCX rfl #[.int .i64 (Int.tmod a0 10)] rfl kD4 ?_;(with_reducible refine (metewandkit_Digit.calls (Int.tmod a0 10) t382 _ A10.out).mono ?_);rintro e w13 ⟨rfl,hb⟩;refine⟨_,rfl,?_⟩;have n0_:=Aside0.mk (zAG kD7 hb);clear HB;have HB:=n0_;clear n0_;(try clear hb);(try clear hb2);(try clear hk);(try clear hi)));go_ret;exact⟨by first | rfl | (simp[zAr,zAq]<;>rfl) | (simp[*,zAr,zAq]<;>rfl),kD7⟩
   ·rw[kAa c11] at H;exact absurd H kCY
end
end Go.Proofs.YtjaobihcdkjmbaaGreatDoor.PReadTokens
end
