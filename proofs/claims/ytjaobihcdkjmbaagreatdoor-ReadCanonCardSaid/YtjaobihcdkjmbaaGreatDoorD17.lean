/- What can be read as an expression is printed as a text that reads as the same, and is printed as itself: for every argument; a part of its proof. -/
import Derived.Test.YtjaobihcdkjmbaaGreatDoorDa
import Derived.Test.YtjaobihcdkjmbaaGreatDoorDb
import Derived.Test.YtjaobihcdkjmbaaGreatDoorD0
import Derived.Test.YtjaobihcdkjmbaaGreatDoorD7
import Derived.Test.YtjaobihcdkjmbaaGreatDoorD8
import Derived.Test.YtjaobihcdkjmbaaGreatDoorD10
import Derived.Test.YtjaobihcdkjmbaaGreatDoorD11
import Derived.Test.YtjaobihcdkjmbaaGreatDoorD13
import Derived.Test.YtjaobihcdkjmbaaGreatDoorD15
import Derived.Test.YtjaobihcdkjmbaaGreatDoorD16
set_option linter.unusedVariables false
set_option linter.unusedSimpArgs false
namespace Go.Proofs.YtjaobihcdkjmbaaGreatDoor.PReadTokens
end Go.Proofs.YtjaobihcdkjmbaaGreatDoor.PReadTokens
namespace Go.Proofs.YtjaobihcdkjmbaaGreatDoorW.PrintWords
end Go.Proofs.YtjaobihcdkjmbaaGreatDoorW.PrintWords
set_option maxRecDepth 100000
set_option maxHeartbeats 8000000
section
namespace Go.Proofs.YtjaobihcdkjmbaaGreatDoor
open Go.RowKit Go.Proofs.YtjaobihcdkjmbaaGreatDoorW.PrintWords Go.Proofs.YtjaobihcdkjmbaaGreatDoor.PReadTokens
def exV (x:S31) (v5:Value):Value:=.agg #[.int .i64 x.f0,.string x.f1.f0,.string x.f1.f1,.string x.f2,.int .i64 x.f3,v5]
structure Ex (w:World) (S:Nat→Prop) (x:S31) (v:Value):Prop where
 out:∃v5,v=exV x v5∧k31.R 31 w 0 S v5 x.f4
theorem Ex.mono {w:World} {S S':Nat→Prop} {x:S31} {v:Value} (h:Ex w S x v) (hS:∀k,S k→S' k):Ex w S' x v:=by
 obtain⟨v5,h1,h2⟩:=h.out;exact⟨v5,h1,Kd.R_mono h2 hS⟩
theorem Ex.old {w:World} {S S':Nat→Prop} {x:S31} {v:Value} (h:Ex w S x v) (hS:∀k,S k→k<w.heap.size→S' k):Ex w S' x v:=by
 obtain⟨v5,h1,h2⟩:=h.out;exact⟨v5,h1,Kd.R_mono (Kd.R_bound h2) (fun k hk=>hS k hk.1 hk.2.2.1)⟩
theorem Ex.step {w w1:World} {S:Nat→Prop} {x:S31} {v:Value} (h:Ex w S x v) (hs:∀k,S k→k<w.heap.size→w1.heap[k]?=w.heap[k]?):Ex w1 S x v:=by
 obtain⟨v5,h1,h2⟩:=h.out;exact⟨v5,h1,Kd.R_step h2 hs⟩
theorem Ex.grown {w w1:World} {S:Nat→Prop} {x:S31} {v:Value} {R:Nat} (h:Ex w S x v) (hg:w.grownBy w1 (some R)) (hS:∀k,S k→k≠R):Ex w1 S x v :=
 h.step (fun k hk hlt=>hg.block k hlt (fun e=>by injection e with e;exact hS k hk e))
theorem Ex.below {w w1:World} {S:Nat→Prop} {x:S31} {v:Value} (h:Ex w S x v) (hb:Below w.heap.size w w1):Ex w1 S x v:=h.step (fun k _ hlt=>hb.block k hlt)
theorem Ex.leaf {w:World} {S:Nat→Prop} (x:S31) (hx:x.f4=[]):Ex w S x (exV x (.slice none 0 0)):=⟨_,rfl,by rw[hx];exact Kd.R_nil _ _ _ _ _⟩
theorem lit_row {W:World} {S:Nat→Prop} {xs:List S31} {inner:List Value} (hr:Reps (k31.M W 0 S) 6 xs inner) (hS:S W.heap.size) (hm:xs.length≤9223372036854775807) :
  k31.R 31 (W.alloc (.cells inner.toArray 31)) 0 S (.slice (some ⟨W.heap.size,0,none⟩) xs.length xs.length) xs:=by
 refine⟨fun k hk=>by simp[Value.ownBlock] at hk;rw[← hk];exact hS,zBO.lit W 0 (R:=k31.M (W.alloc (.cells inner.toArray 31)) 0 (fun k=>S k∧some k≠(Value.slice (some ⟨W.heap.size,0,none⟩) xs.length xs.length).ownBlock)) (size:=6) (e:=31) (hr.imp_ fun x c hx=>?_) (kAI _) hm⟩;have h1:=k31.M_bound hx;have h2:=k31.M_move (w1:=W.alloc (.cells inner.toArray 31)) (fun k hk=>kA4 _ _ _ hk.2.2.1) h1;exact k31.M_mono (fun k hk=>⟨hk.1,fun e=>by simp[Value.ownBlock] at e;have:=hk.2.2.1;omega⟩) h2
theorem Ex.cells {w:World} {S:Nat→Prop} {x:S31} {v:Value} (h:Ex w S x v) :
  ∃v5 A n c,v=exV x v5∧v5=.slice A n c∧k31.R 31 w 0 S v5 x.f4∧k31.M w 0 S x [.int .i64 x.f0,.string x.f1.f0,.string x.f1.f1,.string x.f2,.int .i64 x.f3,v5]:=by
 obtain⟨v5,h1,h2⟩:=h.out;obtain⟨A,c,h3⟩:=Kd.R_slice h2;exact⟨v5,A,_,c,h1,h3,h2,k31_mkM w 0 S x h2⟩
def set6 (X:World) (R:Nat) (v0 v1 v2 v3 v4 v5:Value):World:=(((((X.setCell ⟨R,0,none⟩ v0).setCell ⟨R,1,none⟩ v1).setCell ⟨R,2,none⟩ v2).setCell ⟨R,3,none⟩ v3).setCell ⟨R,4,none⟩ v4).setCell ⟨R,5,none⟩ v5
theorem fin6 {X:World} {R:Nat} {x0 x1 x2 x3 x4 x5:Value} {t:TypeId} (v0 v1 v2 v3 v4 v5:Value) (hR:X.heap[R]?=some (.cells #[x0,x1,x2,x3,x4,x5] t (0,0))) :
  (set6 X R v0 v1 v2 v3 v4 v5).heap[R]?=some (.cells #[v0,v1,v2,v3,v4,v5] t (0,0)):=zA8 (zA8 (zA8 (zA8 (zA8 (zA8 hR 0 v0) 1 v1) 2 v2) 3 v3) 4 v4) 5 v5
theorem below6 {B:Nat} {w X:World} {R:Nat} (h:Below B w X) (hB:B≤R) (v0 v1 v2 v3 v4 v5:Value):Below B w (set6 X R v0 v1 v2 v3 v4 v5) :=
 (((((h.setCell (p:=⟨R,0,none⟩) hB _).setCell (p:=⟨R,1,none⟩) hB _).setCell (p:=⟨R,2,none⟩) hB _).setCell (p:=⟨R,3,none⟩) hB _).setCell (p:=⟨R,4,none⟩) hB _).setCell (p:=⟨R,5,none⟩) hB _
theorem zCW {X:World} (R:Nat) (v0 v1 v2 v3 v4 v5:Value):X.grownBy (set6 X R v0 v1 v2 v3 v4 v5) (some R) :=
 kA7 (kA7 (kA7 (kA7 (kA7 (kAf _ _ _ _) (kAf _ _ _ _)) (kAf _ _ _ _)) (kAf _ _ _ _)) (kAf _ _ _ _)) (kAf _ _ _ _)
theorem Ex.set6 {X:World} {R:Nat} {S:Nat→Prop} {x:S31} {v:Value} (h:Ex X S x v) (hS:∀k,S k→k≠R) (v0 v1 v2 v3 v4 v5:Value):Ex (set6 X R v0 v1 v2 v3 v4 v5) S x v:=h.grown (zCW R v0 v1 v2 v3 v4 v5) hS
theorem two_calls (op:Int) (a b:S31) (va vb:Value) (S:Nat→Prop) (w:World) (hS:∀k,w.heap.size≤k→S k) (ha:Ex w S a va) (hb:Ex w S b vb) :
  Calls Tryz.prog 161 #[.int .i64 op,va,vb] w fun e w'=>∃v,e=.returned v∧Ex w' S ⟨op,z28,⟨#[]⟩,0,[a,b]⟩ v∧Below w.heap.size w w':=by
 obtain⟨a5,A1,n1,c1,rfl,rfl,_,ma⟩:=ha.cells;obtain⟨b5,A2,n2,c2,rfl,rfl,_,mb⟩:=hb.cells;unfold exV;have Ma:=kA1 ma;have Mb:=kA1 mb;clear ha hb ma mb;go_enter Tryz.func161,Tryz.ntmps161;go_wp2;obtain⟨W3,hW⟩:∃W3,W3=((w.alloc (Obj.cells #[Value.int IntKind.i64 a.f0,Value.string a.f1.f0,Value.string a.f1.f1,Value.string a.f2,Value.int IntKind.i64 a.f3,Value.slice A1 n1 c1] 31)).alloc (Obj.cells #[Value.int IntKind.i64 b.f0,Value.string b.f1.f0,Value.string b.f1.f1,Value.string b.f2,Value.int IntKind.i64 b.f3,Value.slice A2 n2 c2] 31)).alloc
   (Obj.cells #[Value.int IntKind.i64 op,Value.string ⟨#[]⟩,Value.string ⟨#[]⟩,Value.string ⟨#[]⟩,Value.int IntKind.i64 0,Value.slice (some ⟨w.heap.size+1+1+1,0,none⟩) 2 2] 31):=⟨_,rfl⟩
 have hz:W3.heap.size=w.heap.size+1+1+1:=by rw[hW];simp
 have hb3:Below w.heap.size w W3:=by rw[hW];exact (((kA3 _ w).alloc (kA2 _) _).alloc kD6 _).alloc kD8 _
 have hR:W3.heap[w.heap.size+1+1]?=some (Obj.cells #[Value.int IntKind.i64 op,Value.string ⟨#[]⟩,Value.string ⟨#[]⟩,Value.string ⟨#[]⟩,Value.int IntKind.i64 0,Value.slice (some ⟨w.heap.size+1+1+1,0,none⟩) 2 2] 31 (0,0)):=by
  rw[hW];exact zAD _ _ _ kD6
 rw[← hW];have reps:Reps (k31.M W3 0 S) 6 [a,b] [.int .i64 a.f0,.string a.f1.f0,.string a.f1.f1,.string a.f2,.int .i64 a.f3,.slice A1 n1 c1,.int .i64 b.f0,.string b.f1.f0,.string b.f1.f1,.string b.f2,.int .i64 b.f3,.slice A2 n2 c2] :=
  ((Reps.none _ _).snoc (Kd.M_below Ma.out hb3) rfl).snoc (Kd.M_below Mb.out hb3) rfl
 have hrow:=lit_row reps (hS _ kD4) kD6;rw[hz] at hrow;refine kAi (zAg Tryz.results161 _ _ (w.heap.size+1+1) 31 _ (0,0) _ rfl ((kA4 _ _ _ kD4).trans hR) Tryz.underlying31 rfl zB6) rfl ⟨_,rfl,⟨_,rfl,hrow⟩,hb3.alloc kD4 _⟩
abbrev From (n:Nat):Nat→Prop:=fun k=>n≤k
def zAk (w:World) (R:Nat) (ts:List S47) (en now:Nat):PR→Ending→World→Prop
 | .ok (x,n),e,w'=>now<n∧n≤ts.length∧∃v,e=.returned v∧Ex w' (From w.heap.size) x v∧Took w R ts n en w'
 | .error p,e,w'=>e=zAm p∧w.grownBy w' (some R)
def Pars (W0:World) (R B:Nat) (ts:List S47) (en:Nat) (f:FuncId) (spec:Nat→PR) (m:Nat):Prop :=
 ∀now w,m≤now→St W0 R B ts en now w→Calls Tryz.prog f #[.pointer (some ⟨R,0,none⟩)] w (zAk w R ts en now (spec now))
theorem zBP {ts:List S47} {en now:Nat} {k:Int} (h:(tokP ts en now).f0=k) (hk:k≠-1):now<ts.length:=by
 unfold tokP at h;by_cases hlt:now<ts.length
 ·exact hlt
 ·rw[dif_neg hlt] at h;exact absurd h.symm hk
theorem Took.blk {w w':World} {R:Nat} {ts:List S47} {n en:Nat} (h:Took w R ts n en w') {k:Nat} {o:Obj} (hk:w.heap[k]?=some o) (hne:k≠R):w'.heap[k]?=some o :=
 (h.grown.block _ (zA5 hk) (fun e=>by injection e with e;exact hne e)).trans hk
theorem zAj {w w':World} {R:Nat} (h:w.grownBy w' (some R)) {k:Nat} {o:Obj} (hk:w.heap[k]?=some o) (hne:k≠R):w'.heap[k]?=some o :=
 (h.block _ (zA5 hk) (fun e=>by injection e with e;exact hne e)).trans hk
theorem zA6 {w:World} {X:Nat} {v0 v1 v2 v3 v4 v5:Value} {t:TypeId} (h:w.heap[X]?=some (.cells #[v0,v1,v2,v3,v4,v5] t (0,0))) :
  (w.cell? ⟨X,0,none⟩=some v0∧w.cell? ⟨X,1,none⟩=some v1∧w.cell? ⟨X,2,none⟩=some v2∧w.cell? ⟨X,3,none⟩=some v3∧w.cell? ⟨X,4,none⟩=some v4∧w.cell? ⟨X,5,none⟩=some v5) ∧
  (w.frozen? ⟨X,0,none⟩=false∧w.frozen? ⟨X,1,none⟩=false∧w.frozen? ⟨X,2,none⟩=false∧w.frozen? ⟨X,3,none⟩=false∧w.frozen? ⟨X,4,none⟩=false∧w.frozen? ⟨X,5,none⟩=false)∧X<w.heap.size :=
 ⟨⟨zA1 h 0,zA1 h 1,zA1 h 2,zA1 h 3,zA1 h 4,zA1 h 5⟩,⟨zA2 h 0,zA2 h 1,zA2 h 2,zA2 h 3,zA2 h 4,zA2 h 5⟩,zA5 h⟩
def zO:Obj:=.cells #[.int .i64 0,.string ⟨#[]⟩,.string ⟨#[]⟩,.string ⟨#[]⟩,.int .i64 0,.slice none 0 0] 31
theorem Rdr.far {w:World} {R:Nat} {ts:List S47} {now en:Nat} (h:Rdr w R ts now en) {X:Nat} {cs:Array Value} (hX:w.heap[X]?=some (.cells cs 31 (0,0))) (hne:X≠R) (i:Nat) (v:Value):Rdr (w.setCell ⟨X,i,none⟩ v) R ts now en:=by
 obtain⟨u,base,h1,h2⟩:=h.out;exact⟨u,base,blk_far h1 kD8 _,zFQ h2 (own_ne h2 hX kD7) _⟩
theorem Took.far {w w':World} {R:Nat} {ts:List S47} {n en:Nat} (h:Took w R ts n en w') {X:Nat} {cs:Array Value} (hX:w'.heap[X]?=some (.cells cs 31 (0,0))) (hne:X≠R) (hw:w.heap.size≤X) (i:Nat) (v:Value):Took w R ts n en (w'.setCell ⟨X,i,none⟩ v) :=
 ⟨⟨h.grown.os,h.grown.tape,h.grown.output,by rw[kAN];exact h.grown.size,fun k hk hn=>(kA5 _ _ _ _ kD8).trans (h.grown.block k hk hn)⟩,h.rdr.far hX hne i v⟩
theorem Took.set6 {w w':World} {R:Nat} {ts:List S47} {n en:Nat} (h:Took w R ts n en w') {X:Nat} {x0 x1 x2 x3 x4 x5:Value} (hX:w'.heap[X]?=some (.cells #[x0,x1,x2,x3,x4,x5] 31 (0,0))) (hne:X≠R) (hw:w.heap.size≤X) (v0 v1 v2 v3 v4 v5:Value):Took w R ts n en (set6 w' X v0 v1 v2 v3 v4 v5) :=
 (((((h.far hX hne hw 0 v0).far (zA8 hX 0 v0) hne hw 1 v1).far (zA8 (zA8 hX 0 v0) 1 v1) hne hw 2 v2).far (zA8 (zA8 (zA8 hX 0 v0) 1 v1) 2 v2) hne hw 3 v3).far (zA8 (zA8 (zA8 (zA8 hX 0 v0) 1 v1) 2 v2) 3 v3) hne hw 4 v4).far (zA8 (zA8 (zA8 (zA8 (zA8 hX 0 v0) 1 v1) 2 v2) 3 v3) 4 v4) hne hw 5 v5
theorem Took.start {w w':World} {R:Nat} {ts:List S47} {n en:Nat} {o:Obj} (h:Took (w.alloc o) R ts n en w'):Took w R ts n en w':=⟨kA7 (kAE w o _) h.grown,h.rdr⟩
theorem Took.alloc {w w':World} {R:Nat} {ts:List S47} {n en:Nat} (h:Took w R ts n en w') (o:Obj):Took w R ts n en (w'.alloc o):=h.below ((kA3 _ _).alloc (kA2 _) _)
theorem lit_plain (W0:World) (R B:Nat) (ts:List S47) (en now:Nat) (w:World) (E:Env W0 R B ts) (h:St W0 R B ts en now w) (h2:(tokP ts en now).f0=2) (hbar:sk ts en (now+1) ⟨#[124]⟩=false) :
  Calls Tryz.prog 278 #[.pointer (some ⟨R,0,none⟩)] w (zAk w R ts en now (zFl ts en ⟨(tokP ts en now).f1,⟨#[49]⟩⟩ (now+1))):=by
 have hlt:=zBP h2 kD7;have few:=E.few;have hRw:=h.rdr.lt;have hk:=zCC R ts now en 2 (w.alloc zO) (h.rdr.keep ((kA3 _ _).alloc (kA2 _) _)) hlt few kDA;generalize (tokP ts en now).f1=x at *;clear h2;by_cases h3:(tokP ts en (now+1)).f0=3
 ·have hres:zFl ts en ⟨x,⟨#[49]⟩⟩ (now+1)=.ok (⟨0,⟨x,⟨#[49]⟩⟩,(tokP ts en (now+1)).f1,0,[]⟩,now+1+1):=by unfold zFl;rw[kAa h3]
  rw[hres];have hlt1:=zBP h3 kD7;have hpk:=fun w' (hr:Rdr w' R ts (now+1) en)=>zB7 R ts (now+1) en w' hr kD4
  have hsk:=fun w' (hr:Rdr w' R ts (now+1) en)=>zAT R ts (now+1) en ⟨#[124]⟩ w' hr kD4 hbar
  have hkd:=fun w' (hr:Rdr w' R ts (now+1) en)=>zCC R ts (now+1) en 3 w' hr hlt1 few (by rw[kAA];exact h3)
  have hne:((tokP ts en (now+1)).f0==3)=true:=by rw[kAA];exact h3
  unfold tokV at hpk;generalize tokP ts en (now+1)=t at *;have H:=kA1 h;have Hsk:=kA1 hsk;have Hpk:=kA1 hpk;have Hkd:=kA1 hkd;have hfd:=zBR t.f0 t.f2 t.f1;clear hsk hpk hkd h hres h3 E;have hne0:=kAs hRw;go_enter Tryz.func278,Tryz.ntmps278;go_wp2_with fail;refine hk.mono ?_;rintro e w1 ⟨rfl,hk1⟩;have r1:=hk1.blk (zA4 w zO) hne0;have hne1:=kAs hk1.rdr.lt;go_wp2_with fail;refine (Hsk.out _ (hk1.rdr.keep ((kA3 _ _).alloc (kA2 _) _))).mono ?_;rintro e w2 ⟨rfl,hk2⟩;have x2:=hk2.blk (zA4 w1 _) hne1;have r2:=hk2.blk ((kA4 _ _ _ (zA5 r1)).trans r1) hne0;go_wp2_with fail;refine (Hpk.out _ hk2.rdr).mono ?_;rintro e w3 ⟨rfl,hb3⟩;go_wp2_with fail;refine (Hkd.out _ (hk2.rdr.keep hb3)).mono ?_;rintro e w4 ⟨rfl,hk4⟩;have x4:=hk4.blk (zAa hb3 x2) hne1;have r4:=hk4.blk (zAa hb3 r2) hne0;have hlt4:w.heap.size<w1.heap.size:=zA5 r1;have hd1:=kAs hlt4;have hd2:=kB8 hlt4;obtain⟨⟨c0,c1,c2,c3,c4,c5⟩,⟨y0,y1,y2,y3,y4,y5⟩,xl⟩:=zA6 x4;obtain⟨⟨b0,b1,b2,b3,b4,b5⟩,⟨f0,f1,f2,f3,f4,f5⟩,rl⟩:=zA6 r4;go_wp2;have hgr:=(((hk1.start.alloc _).trans hk2).below hb3).trans hk4;have r5:=(kA5 w4 ⟨w1.heap.size,3,none⟩ (.string t.f1) w.heap.size kD8).trans r4;refine kAi (zAg Tryz.results278 _ _ w.heap.size 31 _ (0,0) _ rfl (fin6 _ _ _ _ _ _ r5) Tryz.underlying31 rfl zB6) rfl ⟨kD4,kD4,_,rfl,?_,?_⟩
  ·exact Ex.leaf ⟨0,⟨x,⟨#[49]⟩⟩,t.f1,0,[]⟩ rfl
  ·exact (hgr.far x4 hne1 (kAP hlt4) 3 _).set6 r5 hne0 (kA2 _) _ _ _ _ _ _
 ·have hres:zFl ts en ⟨x,⟨#[49]⟩⟩ (now+1)=.ok (⟨0,⟨x,⟨#[49]⟩⟩,⟨#[]⟩,0,[]⟩,now+1):=by unfold zFl;rw[kA9 h3]
  rw[hres];have hpk:=fun w' (hr:Rdr w' R ts (now+1) en)=>zB7 R ts (now+1) en w' hr kD4
  have hsk:=fun w' (hr:Rdr w' R ts (now+1) en)=>zAT R ts (now+1) en ⟨#[124]⟩ w' hr kD4 hbar
  have hne:((tokP ts en (now+1)).f0==3)=false:=by rw[kAd];exact h3
  unfold tokV at hpk;generalize tokP ts en (now+1)=t at *;have H:=kA1 h;have Hsk:=kA1 hsk;have Hpk:=kA1 hpk;have hfd:=zBR t.f0 t.f2 t.f1;clear hsk hpk h hres h3 E;have hne0:=kAs hRw;go_enter Tryz.func278,Tryz.ntmps278;go_wp2_with fail;refine hk.mono ?_;rintro e w1 ⟨rfl,hk1⟩;have r1:=hk1.blk (zA4 w zO) hne0;have hne1:=kAs hk1.rdr.lt;go_wp2_with fail;refine (Hsk.out _ (hk1.rdr.keep ((kA3 _ _).alloc (kA2 _) _))).mono ?_;rintro e w2 ⟨rfl,hk2⟩;have x2:=hk2.blk (zA4 w1 _) hne1;have r2:=hk2.blk ((kA4 _ _ _ (zA5 r1)).trans r1) hne0;go_wp2_with fail;refine (Hpk.out _ hk2.rdr).mono ?_;rintro e w3 ⟨rfl,hb3⟩;have x3:=zAa hb3 x2;have r3:=zAa hb3 r2;obtain⟨⟨x0,x1,x2',x3',x4,x5⟩,⟨y0,y1,y2,y3,y4,y5⟩,xl⟩:=zA6 x3;obtain⟨⟨r0,r1',r2',r3',r4,r5⟩,⟨f0,f1,f2,f3,f4,f5⟩,rl⟩:=zA6 r3;go_wp2;have hgr:=((hk1.start.alloc _).trans hk2).below hb3;refine kAi (zAg Tryz.results278 _ _ w.heap.size 31 _ (0,0) _ rfl (fin6 _ _ _ _ _ _ r3) Tryz.underlying31 rfl zB6) rfl ⟨kD4,kD4,_,rfl,?_,?_⟩
  ·exact Ex.leaf ⟨0,⟨x,⟨#[49]⟩⟩,⟨#[]⟩,0,[]⟩ rfl
  ·exact hgr.set6 r3 hne0 (kA2 _) _ _ _ _ _ _
theorem as137_134 (v:Value) (w:World):(Instr.typeAssert (.iface 137 v) 20 134 true).run Tryz.prog w=.ok (.tuple #[.iface 137 v,.bool true]) w:=kCv Tryz.underlying134 kD5 v 20 w
theorem zEQ (w:World):(Instr.typeAssert .nilIface 20 134 true).run Tryz.prog w=.ok (.tuple #[.nilIface,.bool false]) w:=kD5
theorem catch_idle (p:Addr) (w:World) :
  CallsD Tryz.prog 90 #[.pointer (some p)] .returning w fun e u' w'=>e=.returned (.tuple #[])∧u'=.returning∧w'=w:=by
 have hta:=zEQ;refine kC5 Tryz.func90 rfl fun c₀ cs hu=>?_
 apply wpS_seq;apply kCH;simp[wpOpsS,go_sem,recoverD,hu,Tryz.ntmps90,Exit.thenS,hta];refine wpS_of_wp ?_;simp only[kB2,Array.replicate_zero,kBk,kAR,List.nil_append,List.cons_append,kA0,List.set_cons_zero,List.set_cons_succ];go_wp2
 cases c₀
 simp_all [bodyPostS,results,Tryz.results90,Exit.thenS]
theorem zDO (p:Nat) (n:Int) (old:Value) (older:List PanicEntry) (w:World) (hp:w.heap[p]?=some (.cells #[old] 3 (0,0))) (hg:w.cell? ⟨0,0,none⟩=some (.iface 209 (.agg #[.pointer (some ⟨7,134,none⟩)]))) :
  CallsD Tryz.prog 90 #[.pointer (some ⟨p,0,none⟩)] (.panicking ({ v:=.iface 137 (.agg #[.int .i64 n]),recovered:=false } :: older)) w fun e u' w' =>
   e=.returned (.tuple #[])∧u'=.panicking ({ v:=.iface 137 (.agg #[.int .i64 n]),recovered:=true } :: older)∧w'.heap[p]?=some (.cells #[.int .i64 n] 3 (0,0))∧w.grownBy w' (some p):=by
 have hta:=as137_134;refine kC5 Tryz.func90 rfl fun c₀ cs hu=>?_
 apply wpS_seq;apply kCH;simp[wpOpsS,go_sem,recoverD,hu,Tryz.ntmps90,Exit.thenS,hta];refine wpS_of_wp ?_;simp only[kB2,Array.replicate_zero,kBk,kAR,List.nil_append,List.cons_append,kA0,List.set_cons_zero,List.set_cons_succ];have hpl:=zA5 hp;have hh:=as_hitG as_ok137 n w.heap.size (.int .i64 0) (w.alloc (.cells #[.int .i64 0] 137)) ((kBC _ _ ⟨0,0,none⟩ kDr).trans hg) (zA4 _ _);go_wp2_with fail;refine hh.mono ?_;rintro e w2 ⟨rfl,W,hb,rfl⟩;have hs2:=zAa hb (zA4 w (.cells #[.int .i64 0] 137));have hs3:=zA8 hs2 0 (.int .i64 n);have hp2:=(kA5 W ⟨w.heap.size,0,none⟩ (.int .i64 n) p kDr).trans (zAa hb ((kA4 _ _ _ hpl).trans hp));have c1:=zA1 hs3 0;have c2:=zA1 hp2 0;have f2:=zA2 hp2 0;have hfin:=zA8 hp2 0 (.int .i64 n);have hgr:w.grownBy (((W.setCell ⟨w.heap.size,0,none⟩ (.int .i64 n))).setCell ⟨p,0,none⟩ (.int .i64 n)) (some p) :=
  kA7 (kAk (kAS _ _) ((((kA3 _ w).alloc (kA2 _) (.cells #[.int .i64 0] 137)).trans (hb.mono kD6)).setCell (p:=⟨w.heap.size,0,none⟩) (kA2 _) _)) (kAf _ _ _ _)
 go_wp2;have hfin':((W.setCell ⟨w.heap.size,0,none⟩ (.int .i64 n)).setCell ⟨p,0,none⟩ (.int .i64 n)).heap[p]?=some (.cells #[.int .i64 n] 3 (0,0)):=hfin;generalize (W.setCell ⟨w.heap.size,0,none⟩ (.int .i64 n)).setCell ⟨p,0,none⟩ (.int .i64 n)=WW at *;simp[bodyPostS,results,Tryz.results90,hfin',hgr]
theorem zFW (s:ByteArray) (hs:s.size≤2000) (w:World):Calls Tryz.prog 92 #[.string s] w fun e w' =>
  ∃R,e=.returned (.pointer (some ⟨R,0,none⟩))∧w.heap.size≤R∧Rdr w' R (zA9 s) 0 s.size∧Below w.heap.size w w':=by
 have hq:=newQueue_calls s hs w;have hmf:∀(fn:Fn) (first cap:Array Value) (w:World),(Instr.makeFunc fn first cap).run Tryz.prog w=.ok (.func fn first cap) w:=fun _ _ _ _=>rfl
 go_enter Tryz.func92,Tryz.ntmps92;go_wp2_with fail;refine hq.mono ?_;rintro e w1 ⟨v,rfl,ho,hb⟩;obtain⟨A,c,rfl⟩:=zC7 ho;have hn:=zA4 w1 (.cells #[.slice A (zA9 s).length c,.int .i64 0,.int .i64 s.size,.func (.func 134) #[] #[],.nilFunc] 97);have cc:(w1.alloc (.cells #[.slice A (zA9 s).length c,.int .i64 0,.int .i64 s.size,.func (.func 134) #[] #[],.nilFunc] 97)).cell? ⟨w1.heap.size,4,none⟩=some .nilFunc:=zA1 hn 4;have ff:=zA2 hn 4;have hst:(store ⟨w1.heap.size,4,none⟩ (.func (.func 135) #[.pointer (some ⟨w1.heap.size,0,none⟩)] #[])).run Tryz.prog (w1.alloc (.cells #[.slice A (zA9 s).length c,.int .i64 0,.int .i64 s.size,.func (.func 134) #[] #[],.nilFunc] 97))=.ok () ((w1.alloc (.cells #[.slice A (zA9 s).length c,.int .i64 0,.int .i64 s.size,.func (.func 134) #[] #[],.nilFunc] 97)).setCell ⟨w1.heap.size,4,none⟩ (.func (.func 135) #[.pointer (some ⟨w1.heap.size,0,none⟩)] #[])):=by
  rw[run_store Tryz.prog _ _ _ _ kD9];rw[cc,ff];rfl
 go_wp2;go_ret;exact⟨_,rfl,hb.size,⟨.slice A (zA9 s).length c,w.heap.size,zA4 w1 _,zC2 ho ((kA3 _ w1).alloc (kA2 _) _)⟩,hb.alloc hb.size _⟩
theorem list0_calls (R:Nat) (ts:List S47) (now en:Nat) (w:World) (h:Rdr w R ts now en) :
  ∃A c,Calls Tryz.prog 94 #[.pointer (some ⟨R,0,none⟩)] w fun e w'=>e=.returned (.slice A ts.length c)∧w'=w:=by
 obtain⟨v,base,h1,h2⟩:=h.out;obtain⟨A,c,rfl⟩:=zC7 h2;have d0:w.cell? ⟨R,0,none⟩=some (.slice A ts.length c):=zA1 h1 0;have hRl:=zA5 h1;clear h h1 h2;refine⟨A,c,?_⟩;go_enter Tryz.func94,Tryz.ntmps94;go_wp2;go_ret;exact⟨rfl,rfl⟩
def zCS (chk:S28→Int) (s:ByteArray):PR:=zF9 (zA9 s) s.size chk ((zA9 s).length+1) 0
def zCx (chk:S28→Int) (s:ByteArray):Int :=
 match zCS chk s with
 | .error p=>p
 | .ok (_,n)=>if n=(zA9 s).length then -1 else (tokP (zA9 s) s.size n).f2
def exC (x:S31) (v5:Value):Array Value:=#[.int .i64 x.f0,.string x.f1.f0,.string x.f1.f1,.string x.f2,.int .i64 x.f3,v5]
def Post56 (w:World) (R X:Nat) (ts:List S47) (en:Nat):PR→Ending→World→Prop
 | .ok (x,n),e,w'=>n≤ts.length∧e=.returned (.tuple #[])∧∃v5 w5,Took w R ts n en w5∧Ex w5 (From w.heap.size) x (exV x v5) ∧
   w'=set6 w5 X (.int .i64 x.f0) (.string x.f1.f0) (.string x.f1.f1) (.string x.f2) (.int .i64 x.f3) v5
 | .error p,e,w'=>e=zAm p∧w.grownBy w' (some R)
theorem do56 (R X:Nat) (ts:List S47) (now en:Nat) (w:World) (h:Rdr w R ts now en) (r:PR) {x0 x1 x2 x3 x4 x5:Value} (hX:w.heap[X]?=some (.cells #[x0,x1,x2,x3,x4,x5] 31 (0,0))) (hne:X≠R)
  (hc:Calls Tryz.prog 134 #[.pointer (some ⟨R,0,none⟩)] w (zAk w R ts en now r)) :
  Calls Tryz.prog 56 #[.pointer (some ⟨R,0,none⟩),.pointer (some ⟨X,0,none⟩)] w (Post56 w R X ts en r):=by
 obtain⟨v,base,h1,h2⟩:=h.out;have d3:w.cell? ⟨R,3,none⟩=some (.func (.func 134) #[] #[]):=zA1 h1 3;have hRl:=zA5 h1;clear h h1 h2
 cases r with
 | error p =>
  unfold zAk zAm at hc;go_enter Tryz.func56,Tryz.ntmps56;go_wp2_with (go_at_call 134;refine hc.mono ?_;rintro e w1 ⟨rfl,hg⟩);exact⟨rfl,rfl,hg⟩
 | ok r =>
  obtain⟨x,n⟩:=r;unfold zAk at hc;go_enter Tryz.func56,Tryz.ntmps56;go_wp2_with fail;refine hc.mono ?_;rintro e w5 ⟨hn1,hn2,v,rfl,hx,hk⟩;obtain⟨v5,A5,n5,c5,rfl,rfl,_,_⟩:=hx.cells;have hX5:=hk.blk hX hne;obtain⟨⟨q0,q1,q2,q3,q4,q5⟩,⟨f0,f1,f2,f3,f4,f5⟩,xl⟩:=zA6 hX5;have Hx:=kA1 hx;unfold exV;clear hx;go_wp2;refine kBf (kB4 rfl _ _ _) rfl ⟨hn2,rfl,_,w5,hk,Hx.out,rfl⟩
structure Start (W:World):Prop where
 laid:Laid W
 err:W.cell? ⟨0,0,none⟩=some (.iface 209 (.agg #[.pointer (some ⟨7,134,none⟩)]))
theorem Start.below {W w:World} (h:Start W) (hb:Below W.heap.size W w):Start w:=⟨h.laid.below hb,zA0 hb h.err⟩
theorem zG2 {w w':World} {R:Nat} (k:Option Nat) (h:w.grownBy w' (some R)) (hR:w.heap.size≤R):w.grownBy w' k :=
 ⟨h.os,h.tape,h.output,h.size,fun j hj _=>h.block j hj (fun e=>by injection e with e;omega)⟩
theorem grown_set {w w':World} {k:Option Nat} (h:w.grownBy w' k) (p:Addr) (hp:w.heap.size≤p.block) (v:Value):w.grownBy (w'.setCell p v) k :=
 ⟨h.os,h.tape,h.output,by rw[kAN];exact h.size,fun j hj hn=>(kA5 _ _ _ _ kD4).trans (h.block j hj hn)⟩
theorem cell_grown {w w':World} {R:Nat} (h:w.grownBy w' (some R)) {a:Addr} {v:Value} (hc:w.cell? a=some v) (hne:a.block≠R):w'.cell? a=some v :=
 by
 have:=h.block a.block (kAJ w a hc) (fun e=>by injection e with e;exact hne e);simpa[World.cell?,this] using hc
theorem Rdr.set6 {w:World} {R:Nat} {ts:List S47} {now en:Nat} (h:Rdr w R ts now en) {X:Nat} {x0 x1 x2 x3 x4 x5:Value} (hX:w.heap[X]?=some (.cells #[x0,x1,x2,x3,x4,x5] 31 (0,0))) (hne:X≠R) (v0 v1 v2 v3 v4 v5:Value):Rdr (set6 w X v0 v1 v2 v3 v4 v5) R ts now en :=
 (((((h.far hX hne 0 v0).far (zA8 hX 0 v0) hne 1 v1).far (zA8 (zA8 hX 0 v0) 1 v1) hne 2 v2).far (zA8 (zA8 (zA8 hX 0 v0) 1 v1) 2 v2) hne 3 v3).far (zA8 (zA8 (zA8 (zA8 hX 0 v0) 1 v1) 2 v2) 3 v3) hne 4 v4).far (zA8 (zA8 (zA8 (zA8 (zA8 hX 0 v0) 1 v1) 2 v2) 3 v3) 4 v4) hne 5 v5
def zDP (chk:S28→Int) (s:ByteArray) (X:Nat) (w:World) (e:Ending) (w':World):Prop :=
 e=.returned (.int .i64 (zCx chk s))∧w.grownBy w' (some X) ∧
  ∀x,zCS chk s=.ok (x,(zA9 s).length)→∃v5,w'.heap[X]?=some (.cells (exC x v5) 31 (0,0))∧Ex w' (From w.heap.size) x (exV x v5)
theorem abs3_calls (s t:Int) (hs:s=0∨s=1∨s=-1) (ht':s*s=t) (A:Option Addr) (n c:Nat) (w:World):Calls Tryz.prog 230 #[.agg #[.int .i64 s,.slice A n c]] w fun e w'=>e=.returned (.agg #[.int .i64 t,.slice A n c])∧Below w.heap.size w w':=by
 have ht:=zFg s s hs hs;rw[ht'] at ht;clear ht' hs;go_enter Tryz.func230,Tryz.ntmps230;go_wp2_with fail;have h0:((w.alloc (.cells #[.int .i64 s,.slice A n c] 234)).alloc (.cells #[.int .i64 0,.slice none 0 0] 234)).heap[w.heap.size]?=_:=(kA4 _ _ _ kD6).trans (zA4 w (.cells #[.int .i64 s,.slice A n c] 234));have h1:((w.alloc (.cells #[.int .i64 s,.slice A n c] 234)).alloc (.cells #[.int .i64 0,.slice none 0 0] 234)).heap[w.heap.size+1]?=some (.cells #[.int .i64 0,.slice none 0 0] 234 (0,0)):=zAD _ _ _ kD6;have hb:Below w.heap.size w ((w.alloc (.cells #[.int .i64 s,.slice A n c] 234)).alloc (.cells #[.int .i64 0,.slice none 0 0] 234)):=((kA3 _ w).alloc (kA2 _) _).alloc kD6 _;generalize (w.alloc (.cells #[.int .i64 s,.slice A n c] 234)).alloc (.cells #[.int .i64 0,.slice none 0 0] 234)=X at *;have c0:=zA1 h0 0;have c1:=zA1 h0 1;have d0:=zA1 h1 0;have d1:=zA1 h1 1;have f0:=zA2 h1 0;have f1:=zA2 h1 1;go_still_tail 8,kD5;still_call (ht _)
 repeat still_step
 try refine wpStill_nil ?_
 change wpList _ _ _ _ _ X.drew;go_wp2;exact kAi (zAg Tryz.results230 _ _ (w.heap.size+1) 234 _ (0,0) _ rfl (zAa (kA3 _ _).drew (zBX _ _ h1)) Tryz.underlying234 rfl zC1) rfl ⟨rfl,((hb.setCell (p:=⟨w.heap.size+1,0,none⟩) kD6 _).setCell (p:=⟨w.heap.size+1,1,none⟩) kD6 _).drew⟩
theorem sign_sq (a:Int):Int.sign a*Int.sign a=Int.sign (a.natAbs:Int):=by
 rcases kBb a 0 with h | h | h
 ·rw[kAy h,kAu kD4];rfl
 ·subst h;rfl
 ·rw[kAu h,kAu kD4];rfl
theorem abs_LN (a:Int) (va:Value) (w:World) (ha:LN w a va) :
  ∃s A n c,va=.agg #[.int .i64 s,.slice A n c]∧(∀W:World,Below w.heap.size w W→LN W (a.natAbs:Int) (.agg #[.int .i64 (Int.sign (a.natAbs:Int)),.slice A n c])) ∧
   ∀W:World,Calls Tryz.prog 230 #[va] W fun e w'=>e=.returned (.agg #[.int .i64 (Int.sign (a.natAbs:Int)),.slice A n c])∧Below W.heap.size W w':=by
 obtain⟨l,A,c,rfl,h1,h2,h3,h4,h5,h6⟩:=ha.out;exact⟨_,A,l.length,c,rfl,fun W hW=>⟨l,A,c,rfl,h1,h2,Kd.C_below h3 hW,h4,h5,by rw[h6];simp⟩,fun W=>abs3_calls _ _ (zCJ a) (sign_sq a) A l.length c W⟩
theorem gcd_step (a b:Int) (hb:b≠0) (ha0:0≤a) (hb0:0≤b):0≤a.tmod b∧a.tmod b<b∧Int.gcd b (a.tmod b)=Int.gcd a b:=by
 have e:a.tmod b=a % b:=kBX ha0;rw[e];refine⟨kBM _ hb,kBD _ kD4,?_⟩;obtain⟨m,rfl⟩:=kBS ha0;obtain⟨n,rfl⟩:=kBS hb0;rw[show ((m:Int) % (n:Int))=((m % n:Nat):Int) from by omega];show Nat.gcd n (m % n)=Nat.gcd m n;rw[Nat.gcd_comm n,← Nat.gcd_rec,Nat.gcd_comm]
theorem common_calls (a b:Int) (va vb:Value) (w:World) (ha:LN w a va) (hb:LN w b vb) :
  Calls Tryz.prog 190 #[va,vb] w fun e w'=>∃v,e=.returned v∧LN w' (Int.gcd a b:Int) v∧Below w.heap.size w w':=by
 obtain⟨s,A,n,c,rfl,hLA,hCA⟩:=abs_LN a va w ha;obtain⟨t,B,m,d,rfl,hLB,hCB⟩:=abs_LN b vb w hb;obtain⟨X,hX⟩:∃X,X=((w.alloc (.cells #[.int .i64 s,.slice A n c] 234)).alloc (.cells #[.int .i64 t,.slice B m d] 234)).alloc (.cells #[.int .i64 0,.slice none 0 0] 234):=⟨_,rfl⟩;have hb0:Below w.heap.size w X:=by rw[hX];exact (((kA3 _ w).alloc (kA2 _) _).alloc kD6 _).alloc kD8 _
 have h0:X.heap[w.heap.size]?=some (.cells #[.int .i64 s,.slice A n c] 234 (0,0)):=by rw[hX];exact (kA4 _ _ _ kDd).trans ((kA4 _ _ _ kDd).trans (zA4 w _))
 have h1:X.heap[w.heap.size+1]?=some (.cells #[.int .i64 t,.slice B m d] 234 (0,0)):=by rw[hX];exact (kA4 _ _ _ kDd).trans (zAD _ _ _ kD6)
 have h2:X.heap[w.heap.size+1+1]?=some (.cells #[.int .i64 0,.slice none 0 0] 234 (0,0)):=by rw[hX];exact zAD _ _ _ kD6
 obtain⟨x,hx⟩:∃x,x=Int.sign (a.natAbs:Int):=⟨_,rfl⟩;obtain⟨y,hy⟩:∃x,x=Int.sign (b.natAbs:Int):=⟨_,rfl⟩;rw[← hx] at hLA hCA;rw[← hy] at hLB hCB;replace hLA:=kA1 hLA;replace hCA:=kA1 hCA;replace hLB:=kA1 hLB;replace hCB:=kA1 hCB;replace hx:=kA1 hx;replace hy:=kA1 hy;clear ha hb;go_enter Tryz.func190,Tryz.ntmps190;go_wp2_with fail;rw[← hX];clear hX;have c0:=zA1 h0 0;have c1:=zA1 h0 1;have d0:=zA1 h1 0;have d1:=zA1 h1 1;have f0:=zA2 h0 0;have f1:=zA2 h0 1;have g0:=zA2 h1 0;have g1:=zA2 h1 1;go_upto_region 1 with (fail);go_cut [] (fun wc=>Hid (wc.heap[w.heap.size]?=some (.cells #[.int .i64 x,.slice A n c] 234 (0,0)))∧Hid (wc.heap[w.heap.size+1]?=some (.cells #[.int .i64 y,.slice B m d] 234 (0,0)))∧Hid (wc.heap[w.heap.size+1+1]?=some (.cells #[.int .i64 0,.slice none 0 0] 234 (0,0)))∧Below w.heap.size w wc)
 case first =>
  replace h0:X.drew.heap[w.heap.size]?=_:=h0;replace h1:X.drew.heap[w.heap.size+1]?=_:=h1;replace h2:X.drew.heap[w.heap.size+1+1]?=_:=h2;have BW:=hb0.drew;clear hb0
  go_region_with (first
   | (go_at_call 230;refine (hCA.out _).mono ?_;rintro e wp ⟨rfl,hp⟩;clear hCA;have h0:=zAa hp h0;have h1:=zAa hp h1;have h2:=zAa hp h2;have c0:=zA1 h0 0;have c1:=zA1 h0 1;have d0:=zA1 h1 0;have d1:=zA1 h1 1;have f0:=zA2 h0 0;have f1:=zA2 h0 1;have g0:=zA2 h1 0;have g1:=zA2 h1 1;have BW:=BW.trans (hp.mono BW.size))
   | (go_at_call 230;refine (hCB.out _).mono ?_;rintro e wq ⟨rfl,hq⟩;clear hCB;have h0:=zAa hq h0;have h1:=zAa hq h1;have h2:=zAa hq h2;have c0:=zA1 h0 0;have c1:=zA1 h0 1;have d0:=zA1 h1 0;have d1:=zA1 h1 1;have f0:=zA2 h0 0;have f1:=zA2 h0 1;have g0:=zA2 h1 0;have g1:=zA2 h1 1;have BW:=BW.trans (hq.mono BW.size)))
  all_goals
   go_wp2_with fail
   go_meet
   obtain⟨q2,q3⟩:=zEM (.int .i64 x) (.slice A n c) (.int .i64 y) (.slice B m d) kD4 h0 h1;exact⟨kA1 q2,kA1 q3,kA1 ((kA5 _ _ _ _ kD6).trans ((kA5 _ _ _ _ kD6).trans ((kA5 _ _ _ _ kDd).trans ((kA5 _ _ _ _ kDd).trans h2)))),(((BW.setCell (p:=⟨w.heap.size,0,none⟩) (kA2 _) _).setCell (p:=⟨w.heap.size,1,none⟩) (kA2 _) _).setCell (p:=⟨w.heap.size+1,0,none⟩) kD6 _).setCell (p:=⟨w.heap.size+1,1,none⟩) kD6 _⟩
 case rest =>
  obtain⟨k0,k1,k2,hBW⟩:=hcut;have L0:=hLA.out wc hBW;have L1:=hLB.out wc hBW;clear h0 h1 h2 hb0 c0 c1 d0 d1 f0 f1 g0 g1 hLA hLB hCA hCB;go_wp2_with fail;go_loopg [] (b.natAbs+1) (fun gk wr=>∃(p q sp sq:Int) (Ap Aq:Option Addr) (np cp nq cq:Nat),0≤p∧0≤q∧q.toNat+1≤gk∧Hid (Int.gcd p q=Int.gcd a b)∧Hid (sq=Int.sign q)∧LN wr p (.agg #[.int .i64 sp,.slice Ap np cp])∧LN wr q (.agg #[.int .i64 sq,.slice Aq nq cq])∧Hid (wr.heap[w.heap.size]?=some (.cells #[.int .i64 sp,.slice Ap np cp] 234 (0,0)))∧Hid (wr.heap[w.heap.size+1]?=some (.cells #[.int .i64 sq,.slice Aq nq cq] 234 (0,0)))∧Hid (wr.heap[w.heap.size+1+1]?=some (.cells #[.int .i64 0,.slice none 0 0] 234 (0,0)))∧Below w.heap.size w wr)
  case atStart=>exact⟨(a.natAbs:Int),(b.natAbs:Int),x,y,A,B,n,c,m,d,kD4,kD4,kD4,kA1 (by simp[Int.gcd]),hy,L0,L1,k0,k1,k2,hBW⟩
  case round =>
   obtain⟨p,q,sp,sq,Ap,Aq,np,cp,nq,cq,hp0,hq0,hgk,hgcd,hsq,Lp,Lq,k0,k1,k2,hBr⟩:=hrel;have c0:=zA1 k0.out 0;have c1:=zA1 k0.out 1;have d0:=zA1 k1.out 0;have d1:=zA1 k1.out 1;have e0:=zA1 k2.out 0;have e1:=zA1 k2.out 1;have f0:=zA2 k2.out 0;have f1:=zA2 k2.out 1;by_cases hz:q=0
   ·have hs0:sq=0:=by rw[hsq.out,hz];rfl
    have hg:(Int.gcd a b:Int)=p:=by
     rw[← hgcd.out,hz];simp[Int.gcd];omega
    subst hs0;replace hz:=kA1 hz;replace hg:=kA1 hg;have hzc:=zero_calls 0;go_wp2_with (go_at_call 231;refine (hzc _).mono ?_;rintro e wr2 ⟨rfl,hr⟩;subst wr2);exact kAi (zAg Tryz.results190 _ _ (w.heap.size+1+1) 234 _ (0,0) _ rfl (zBX _ _ k2.out) Tryz.underlying234 rfl zC1) rfl ⟨_,rfl,by rw[hg.out];exact zD1 Lp k2.out _ _,(hBr.setCell (p:=⟨w.heap.size+1+1,0,none⟩) kD8 _).setCell (p:=⟨w.heap.size+1+1,1,none⟩) kD8 _⟩
   ·have hs1:sq=1:=by rw[hsq.out];exact kAu kD4
    obtain⟨g1,g2,g3⟩:=gcd_step p q hz hp0 hq0;have hqc:=quo_calls p q hz _ _ wr Lp Lq;subst hs1;have hzc:=zero_calls 1;replace hz:=kA1 hz;replace hqc:=kA1 hqc;replace g3:=kA1 g3;go_wp2_with (go_at_call 231;refine (hzc _).mono ?_;rintro e wr2 ⟨rfl,hr⟩;subst wr2);refine hqc.out.mono ?_;clear hqc hzc;rintro e w2 ⟨vq,vr,rfl,L1,L2,hb2⟩;obtain⟨l1,A1,c1',rfl,_⟩:=L1.out;obtain⟨l2,A2,c2',rfl,_⟩:=L2.out;obtain⟨s2,hs2⟩:∃s,s=Int.sign (p.tmod q):=⟨_,rfl⟩;obtain⟨s1,hs1⟩:∃s,s=Int.sign (p.tdiv q):=⟨_,rfl⟩;rw[← hs2] at L2⊢;rw[← hs1] at L1⊢;replace hs1:=kA1 hs1;replace hs2:=kA1 hs2;have k0:=zAa hb2 k0.out;have k1:=zAa hb2 k1.out;have k2:=zAa hb2 k2.out;have hb3:=hBr.trans (hb2.mono hBr.size);clear c0 c1 d0 d1 e0 e1 f0 f1 hBr L1;go_wp2_with fail;obtain⟨Z,hZ⟩:∃Z,Z=(w2.alloc (.cells #[.int .i64 s1,.slice A1 l1.length c1'] 234)).alloc (.cells #[.int .i64 s2,.slice A2 l2.length c2'] 234):=⟨_,rfl⟩;have z0:Z.heap[w.heap.size]?=some (.cells #[.int .i64 sp,.slice Ap np cp] 234 (0,0)):=by rw[hZ];exact (kA4 _ _ _ (by have:=zA5 k0;simp;omega)).trans ((kA4 _ _ _ (zA5 k0)).trans k0)
    have z1:Z.heap[w.heap.size+1]?=some (.cells #[.int .i64 1,.slice Aq nq cq] 234 (0,0)):=by rw[hZ];exact (kA4 _ _ _ (by have:=zA5 k1;simp;omega)).trans ((kA4 _ _ _ (zA5 k1)).trans k1)
    have z2:Z.heap[w.heap.size+1+1]?=some (.cells #[.int .i64 0,.slice none 0 0] 234 (0,0)):=by rw[hZ];exact (kA4 _ _ _ (by have:=zA5 k2;simp;omega)).trans ((kA4 _ _ _ (zA5 k2)).trans k2)
    have z3:Z.heap[w2.heap.size+1]?=some (.cells #[.int .i64 s2,.slice A2 l2.length c2'] 234 (0,0)):=by rw[hZ];exact zAD _ _ _ kD6
    have hbZ2:Below w2.heap.size w2 Z:=by rw[hZ];exact ((kA3 _ w2).alloc (kA2 _) _).alloc kD6 _
    have hbZ:=hb3.trans (hbZ2.mono hb3.size);have hw2l:=zA5 k2;have LqZ:=(Lq.below hb2).below hbZ2;have LrZ:=L2.below hbZ2;rw[← hZ];clear hZ k0 k1 k2 hb2 hb3 L2 Lp Lq hbZ2;have c0:=zA1 z0 0;have c1:=zA1 z0 1;have d0:=zA1 z1 0;have d1:=zA1 z1 1;have e0:=zA1 z3 0;have e1:=zA1 z3 1;have f0:=zA2 z0 0;have f1:=zA2 z0 1;have f2:=zA2 z1 0;have f3:=zA2 z1 1
    go_region
    all_goals go_wp2
    all_goals
     obtain⟨q2,q3⟩:=zEM (.int .i64 1) (.slice Aq nq cq) (.int .i64 s2) (.slice A2 l2.length c2') kD4 z0 z1;have j1:((Z.setCell ⟨w.heap.size,0,none⟩ (.int .i64 1)).setCell ⟨w.heap.size,1,none⟩ (.slice Aq nq cq)).heap[w.heap.size+1]?=some (.cells #[.int .i64 1,.slice Aq nq cq] 234 (0,0)):=(kA5 _ _ _ _ kD6).trans ((kA5 _ _ _ _ kD6).trans z1);have M1:=zD1 (zD1 LqZ z0 (.int .i64 1) (.slice Aq nq cq)) j1 (.int .i64 s2) (.slice A2 l2.length c2');have M2:=zD1 (zD1 LrZ z0 (.int .i64 1) (.slice Aq nq cq)) j1 (.int .i64 s2) (.slice A2 l2.length c2');go_roundg (gk-1)
     case measure=>omega
     case rel=>exact⟨q,p.tmod q,1,s2,Aq,A2,nq,cq,l2.length,c2',hq0,g1,kD4,kA1 (by rw[g3.out,hgcd.out]),hs2,M1.below (kA3 _ _).drew,M2.below (kA3 _ _).drew,kA1 q2,kA1 q3,kA1 ((kA5 _ _ _ _ kD6).trans ((kA5 _ _ _ _ kD6).trans ((kA5 _ _ _ _ kDd).trans ((kA5 _ _ _ _ kDd).trans z2)))),((((hbZ.setCell (p:=⟨w.heap.size,0,none⟩) (kA2 _) _).setCell (p:=⟨w.heap.size,1,none⟩) (kA2 _) _).setCell (p:=⟨w.heap.size+1,0,none⟩) kD6 _).setCell (p:=⟨w.heap.size+1,1,none⟩) kD6 _).drew⟩
section
attribute [local go_sem] Oper.semAt_some
def numV (s:ByteArray):Int:=(if negB s then -1 else 1)*(decV (zBr s).data.toList:Int)
theorem zDV {W W':World} {base n sz:Nat} {e:TypeId} {v:Value} {xs:List Value} (h:W.ownsRow base e sz v n xs) {k:Nat} (hk:k<base) (hg:W.grownBy W' (some k)):W'.ownsRow base e sz v n xs:=by
  refine World.ownsRow.kept h hg ?_
  cases hv:v.ownBlock with
  | none=>exact .inl rfl
  | some b=>refine .inr (fun e=>?_);injection e with e;have:=(kBy h b hv).1;omega
theorem zEF {W W':World} {base n sz:Nat} {e:TypeId} {v:Value} {xs:List Value} (h:W.ownsRow base e sz v n xs) (hg:W.grownBy W' none):W'.ownsRow base e sz v n xs:=by
  refine World.ownsRow.kept h hg ?_
  cases hv:v.ownBlock with
  | none=>exact .inl rfl
  | some b=>exact .inr (fun e=>by cases e)
theorem reps_u32 (w:World) (xs:List Int):Reps (U32.K w) 1 xs (xs.map (Value.int .u32)):=by
  have key:∀(ts pre:List Int),Reps (U32.K w) 1 pre (pre.map (Value.int .u32))→Reps (U32.K w) 1 (pre++ts) ((pre++ts).map (Value.int .u32)):=by
    intro ts
    induction ts with
    | nil=>intro pre h;simpa using h
    | cons t ts ih =>
      intro pre h;have:=ih (pre++[t]) (by rw[kD0];exact Reps.snoc h rfl rfl);simpa using this
  exact key xs [] (Reps.none _ _)
theorem own_u32 {w:World} {base:Nat} {v:Value} {xs:List Int} (h:w.ownsRow base 270 1 v xs.length (xs.map (Value.int .u32))):∃A c,v=.slice A xs.length c∧xs.length≤c∧U32.C w A xs.length xs :=
  zBO.reads ⟨_,h,reps_u32 w xs⟩
theorem zCA (cs:List ByteArray):(zBB cs).length=cs.length:=by simp[zBB]
theorem zFR (cs:List ByteArray) (c:ByteArray):(zBB (cs++[c])).map (Value.int .u32)=(zBB cs).map (Value.int .u32)++[.int .u32 (decV c.data.toList)]:=by simp[zBB]
theorem LN_put {W:World} {z:Int} {v:Value} {R:Nat} {d:Option (List Deferred)} (h:LN W z v) (hR:W.heap[R]?=some (.deferred d)):LN (W.putObj R (.deferred none)) z v:=by
  obtain⟨l,A,c',h1,h2,h3,h4,h5⟩:=h.out;refine⟨l,A,c',h1,h2,h3,?_,h5⟩;by_cases hn:l=[]
  · subst hn
    exact⟨h4.1,kD6,fun h=>by simp at h⟩
  · obtain⟨ad,rfl,hc⟩:=C_cells h4 hn
    refine zEo kD4 (fun i hi=>?_);have h6:=hc i hi;have hne:(ad.add i).block≠R:=by
      intro e;simp only[World.cell?,e,hR] at h6
      cases h6
    have hh:=kAq (w:=W) (o:=.deferred none) (r:=R) (k:=(ad.add i).block) hne;simpa[World.cell?,hh] using h6
theorem read_LN (n:Nat) (s:ByteArray) (hd:Digs (zBr s).data.toList) (h0:0<(zBr s).size) (h4:(zBr s).size≤900) (w:World) :
    CallsIn Fence.wide n Tryz.prog 189 #[.string s] w fun e w'=>∃v,e=.returned v∧LN w' (numV s) v∧Below w.heap.size w w':=by
  have hD:Fence.wide.depth.isSome=false:=rfl;have hF227:Fence.wide.fn 227:=trivial;have hF228:Fence.wide.fn 228:=trivial;have hF229:Fence.wide.fn 229:=trivial;have hpre:=fun w=>(kBp (n:=n-1)).2 ((strings_HasPrefix.calls s ⟨#[45]⟩ (negB s) w (by unfold strings_HasPrefix.f;rw[prefix_neg];rfl)).mono fun _ _ ⟨a,b⟩=>(⟨a,b.out⟩:_∧∃n,_))
  obtain⟨z,hz⟩:∃z,z=numV s:=⟨_,rfl⟩;rw[← hz];unfold numV at hz;obtain⟨t,ht⟩:∃t,t=zBr s:=⟨_,rfl⟩;have hchk:=chunksOf_val hd;rw[← ht] at hd h0 h4 hchk hz;unfold zBr at ht;rw[← hchk.1] at hz;have hcne:=chunksOf_ne h0;have hclen:=chunkF_length (t.size+1) t;replace hclen:(zBg t).length≤t.size+1:=hclen;have HV:=kA1 hchk;have HNE:=kA1 hcne;have HD:=kA1 hd;clear hchk hcne hd;refine kCt Tryz.func189 rfl trivial ?_ rfl;simp only[Tryz.ntmps189,kAb,List.length_cons,List.length_nil,Nat.reduceAdd,Nat.reduceSub,kB2,Array.replicate_zero,kBk,kAR,List.nil_append,List.cons_append]
  cases hneg:negB s
  · rw[hneg] at hpre hz ht
    obtain rfl:t=s:=ht;replace hz:z=1*val (zBB (zBg t)):=hz;clear hneg;replace hz:=kA1 hz
    gi_wp2_with (gi_at_call 227;refine (hpre _).mono ?_;rintro e w2 ⟨rfl,hk⟩;have hb2:Below w.heap.size w w2:=(by obtain⟨k,rfl⟩:=hk;exact zA3 ((kA3 _ w).alloc (kA2 _) _) k);have hR2:w2.heap[w.heap.size]?=some (.cells #[.int .i64 0,.slice none 0 0] 234 (0,0)):=(by obtain⟨k,rfl⟩:=hk;exact zAZ (zA4 w _) k);clear hk)
    obtain⟨w3,hw3⟩:∃w3,w3=w2:=⟨_,rfl⟩;subst hw3;have hb3:=hb2;have hR3:=hR2;clear hb2 hR2
    gi_wp2_with (gi_at_call 228;refine (zGe (n-1) t _).mono ?_;rintro e w' ⟨rfl,rfl⟩)
    obtain⟨W,hW⟩:∃W,W=((w3.alloc (.cells #[.slice none 0 0] 232)).alloc (.cells #[.string t] 9)):=⟨_,rfl⟩;have hz3:W.heap.size=w3.heap.size+2:=by rw[hW];simp
    have hl3:w.heap.size<w3.heap.size:=zA5 hR3;have hbW:Below w.heap.size w W:=by rw[hW];exact (hb3.alloc hb3.size _).alloc kD8 _
    have hR:W.heap[w.heap.size]?=some (.cells #[.int .i64 0,.slice none 0 0] 234 (0,0)):=by
      rw[hW];exact (kA4 _ _ _ kD8).trans ((kA4 _ _ _ hl3).trans hR3)
    have hQ:W.heap[w3.heap.size]?=some (.cells #[.slice none 0 0] 232 (0,0)):=by
      rw[hW];exact (kA4 _ _ _ kD6).trans (zA4 w3 _)
    have hB:W.heap[w3.heap.size+1]?=some (.cells #[.string t] 9 (0,0)):=by
      rw[hW];exact zAD _ _ _ kD6
    rw[← hW];clear hW hb3 hR3 hpre;refine zDa (bb:=w3.heap.size+1) (s:=t)
      (fun c=>#[.string t,undef,.pointer (some ⟨w.heap.size,0,none⟩),.int .i64 1,.pointer (some ⟨w3.heap.size,0,none⟩),.string c,undef,undef,.string t,.bool false,undef,undef,.string t,
        .func (.func 257) #[] #[.pointer (some ⟨w3.heap.size+1,0,none⟩)],.string c,undef,undef,undef,undef,undef,undef,undef,undef,undef,undef,undef,undef,undef])
      rfl kD4 hB
      (fun pre X=>∃v,X.ownsRow (W.heap.size+2) 270 1 v pre.length ((zBB pre).map (Value.int .u32))∧X.heap[w3.heap.size]?=some (.cells #[v] 232 (0,0))∧X.heap[w.heap.size]?=some (.cells #[.int .i64 0,.slice none 0 0] 234 (0,0))∧Below w.heap.size w X)
      ?hI ⟨_,kCl _ _ _ _,hQ,hR,hbW⟩ ?hI1 ?assign ?body ?done
    case hI =>
      rintro pre A B k⟨v,ho,hq,hr,hb⟩ hk hg;exact⟨v,zDV ho kD4 hg,(hg.block _ (zA5 hq) kDa).trans hq,(hg.block _ (zA5 hr) kDa).trans hr,hb.grown hg hb.size (fun j e=>by injection e with e;omega)⟩
    case hI1 =>
      rintro A B⟨v,ho,hq,hr,hb⟩ hg;exact⟨v,zEF ho hg,(hg.block _ (zA5 hq) kD6).trans hq,(hg.block _ (zA5 hr) kD6).trans hr,hb.grown hg hb.size (fun j e=>by cases e)⟩
    case assign =>
      intro l c A K hK
      gi_wp2
      exact hK
    case body =>
      rintro pre c A W0⟨v,ho,hq,hr,hb⟩ hrest hlt hg hz0;have hcc:=HV.out.2.2 c (by obtain⟨rest,hrest⟩:=hrest;rw[hrest];simp);have hplen:pre.length≤1000:=by
        obtain⟨rest,hrest⟩:=hrest;rw[hrest,kAt] at hclen;omega
      have hq0:W0.heap[w3.heap.size]?=some (.cells #[v] 232 (0,0)):=(hg.block _ (zA5 hq) kDa).trans hq;have hr0:W0.heap[w.heap.size]?=some (.cells #[.int .i64 0,.slice none 0 0] 234 (0,0)):=(hg.block _ (zA5 hr) kDa).trans hr;have ho0:=zDV ho (k:=w.heap.size+1+(W.heap.size-w.heap.size)) (W':=W0) kD4 (by rw[show w.heap.size+1+(W.heap.size-w.heap.size)=W.heap.size+1 by omega];exact hg);have hbw:Below w.heap.size w W0:=hb.grown hg hb.size (fun k e=>by injection e with e;omega);have hat:=fun wx=>(kBp (n:=n-1-1-1)).2 (zGp c (by have:=hcc.2.2;have e:c.size=c.data.toList.length:=rfl;omega) (decV c.data.toList) (atoi_dec hcc.1 hcc.2.1 hcc.2.2) wx)
      obtain⟨m,hm⟩:∃m:Int,m=(decV c.data.toList:Int):=⟨_,rfl⟩;rw[← hm] at hat;have hmlo:0≤m:=kD4
      have hmhi:m<1000000000:=by
        have h1:=zG9 hcc.1;have h2:10 ^ c.data.toList.length≤10 ^ 9:=kCp kD4 hcc.2.2;omega
      replace hm:=kA1 hm;have hat2:∀l wx,CallsIn (Fence.wide.inRound l) (n-1-1-1) Tryz.prog 216 #[.string c] wx fun e w''=>e=.returned (.tuple #[.int .i64 m,.nilIface])∧Below wx.heap.size wx w'':=fun _=>hat
      have hF216:(Fence.wide.inRound (W.heap.size+1)).fn 216:=trivial;have hwm:m % 4294967296=m:=kD4
      clear hat hcc hrest;have HQ0:=kA1 hq0;clear hq
      gi_wp2
      refine⟨trivial,(hat2 _ _).mono ?_⟩;rintro e w1 ⟨rfl,hb1⟩;have hq1:=zAa hb1 hq0;have q0:=zA1 hq1 0;have q1:=zA2 hq1 0;have hbx:=hbw.trans (hb1.mono hbw.size);have hrx:=zAa hb1 hr0;have hs1:=hb1.size;have HB1:=kA1 hb1;have ho1:=zC2 ho0 hb1;have hge:W.heap.size+2≤w1.heap.size:=kD4
      have hqlt:=zA5 hq1;clear hq0 hr0 hat2 ho ho0 hbw;obtain⟨i0,hi,iz0,iz1,iz2⟩:=info_parts info270;have HO:=zC2 ho1 ((kA3 _ w1).alloc (kA2 _) (.cells #[.int .u32 m] 270));have HC:∀j u,([Value.int .u32 m]:List Value)[j]?=some u→(w1.alloc (.cells #[.int .u32 m] 270)).cell? ((⟨w1.heap.size,0,none⟩:Addr).add j)=some u:=by simpa using kBL (zA4 w1 (.cells #[.int .u32 m] 270))
      have hqne:some w3.heap.size≠v.ownBlock:=fun e=>by have:=(kBy HO _ e.symm).1;omega
      have H1:=kA1 HO;have H2:=kA1 HC;have hnb:=fun j (hj:some j=v.ownBlock)=>(kBy H1.out _ hj.symm).1
      have HNB:=kA1 hnb;have hbb1:pre.length+1≤maxLen:=kDn
      have hbb2:(pre.length+1)*4≤140737488355328:=kD4
      have hbb3:W.heap.size+2≤(w1.alloc (.cells #[.int .u32 m] 270)).heap.size:=kD8
      clear HO HC ho1 hnb
      gi_wp2_with (gi_at_builtin;go_loud (refine kC4 _ rfl _ _ 232 rfl (W.heap.size+2) 270 i0 (.int .u32 0) 1 4 Tryz.underlying232 hi iz0 iz1 iz2 rfl (kCq 0) v pre.length ((zBB pre).map (Value.int .u32)) rfl H1.out ⟨w1.heap.size,0,none⟩ 1 1 [.int .u32 m] rfl rfl H2.out kDx hbb1 hbb2 hbb3 ?_);intro v' w4 hown' hgrow _;obtain⟨Av,cv,rfl⟩:=zC7 hown';have hq2:=(hgrow.block (w3.heap.size) kD8 hqne).trans ((kA4 _ _ _ hqlt).trans hq1);have c1:=zA1 hq2 0;have c2:=zA2 hq2 0;have HQ2:=kA1 hq2;have HO2:=kA1 hown';clear hown' hq2)
      have hgB:∀j,j<W.heap.size+2→∀o,w1.heap[j]?=some o→w4.heap[j]?=some o:=fun j hj o ho=>(hgrow.block j (by have:=zA5 ho;simp;omega) (fun e=>by have:=HNB.out j e;omega)).trans ((kA4 _ _ _ (zA5 ho)).trans ho)
      have hbx4:Below w.heap.size w w4:=(hbx.alloc hbx.size (.cells #[.int .u32 m] 270)).grown hgrow kD8 (fun k e=>by have:=HNB.out k e.symm;omega);refine⟨?_,⟨.slice Av (pre.length+1) cv,?_,zA8 HQ2.out 0 _,?_,?_⟩,?_⟩
      · exact ((KeepsOthers.mk HB1.out.size (fun k o hk _=>zAa HB1.out hk)).trans ((kCE w1 (.cells #[.int .u32 m] 270)).trans (kCc hgrow (fun j o hj ho=>by
          obtain⟨cells,hc⟩:=zDf H1.out j hj;rw[hc] at ho;cases ho;rfl)))).trans (kBH _ _ _)
      · rw[kAt,zFR,← hm.out]
        exact zDV (k:=w3.heap.size) HO2.out kD4 (kAf _ _ _ _)
      · exact (kA5 _ _ _ _ kD8).trans (hgB _ kD4 _ hrx)
      · exact hbx4.setCell (p:=⟨w3.heap.size,0,none⟩) kD8 _
      · have hbl:=zA5 hB
        have hbA:w3.heap.size+1<W0.heap.size:=kD4
        have hB0:W0.heap[w3.heap.size+1]?=w1.heap[w3.heap.size+1]?:=(HB1.out.block _ hbA).symm;refine (kA5 _ _ _ _ kD6).trans ?_;rw[hB0];exact (hgrow.block _ kD8 (fun e=>by have:=HNB.out _ e;omega)).trans (kA4 _ _ _ kD4)
    case done =>
      rintro X⟨v,ho,h1,h4',h5⟩ hdef;rw[hz3] at hdef;rw[← zCA] at ho;obtain⟨A,c,rfl,hc,hC⟩:=own_u32 ho;have q0:=zA1 h1 0;have hmf:=zF3 1 A (zBB (zBg t)) c X kD6 HNE.out hc (.inl (by rw[zCA];omega)) hC HV.out.2.1;have hmi:=(kBp (n:=n-1)).2 hmf;rw[← hz.out] at hmi;have HMI:=kA1 hmi;clear hmi hmf hC ho;generalize (zBB (zBg t)).length=NL at *
      gi_wp2_with (gi_at_call 229;refine HMI.out.mono ?_;rintro e w1 ⟨v,rfl,hv,hb1⟩;obtain⟨lv,gv,cv,rfl,hrest⟩:=hv.out;have hr1:=zAa hb1 h4';have d0:=zA1 hr1 0;have d1:=zA1 hr1 1;have f0:=zA2 hr1 0;have f1:=zA2 hr1 1;have HR1:=kA1 hr1;have HV1:=kA1 hv;clear hr1 hv hrest)
      have hdl:=zA5 hdef;have hd1:=zAa hb1 hdef;have hYd:((w1.setCell ⟨w.heap.size,0,none⟩ (.int .i64 (Int.sign z))).setCell ⟨w.heap.size,1,none⟩ (.slice gv lv.length cv)).heap[(w3.heap.size+2)]?=some (.deferred (some [])):=(kA5 _ _ _ _ kDd).trans ((kA5 _ _ _ _ kDd).trans hd1);have hY:=zBX (.int .i64 (Int.sign z)) (.slice gv lv.length cv) HR1.out;have hYv:=zD1 HV1.out HR1.out (.int .i64 (Int.sign z)) (.slice gv lv.length cv);have hYb:=((h5.trans (hb1.mono h5.size)).setCell (p:=⟨w.heap.size,0,none⟩) (kA2 _) (.int .i64 (Int.sign z))).setCell (p:=⟨w.heap.size,1,none⟩) (kA2 _) (.slice gv lv.length cv);generalize (w1.setCell ⟨w.heap.size,0,none⟩ (.int .i64 (Int.sign z))).setCell ⟨w.heap.size,1,none⟩ (.slice gv lv.length cv)=Y at *;refine⟨kD6,.inl ⟨_,_,rfl,kC9 hYd,?_⟩⟩;have j0:=(kAq (w:=Y) (o:=.deferred none) (r:=(w3.heap.size+2)) kD4).trans hY;refine⟨_,zAg Tryz.results189 _ _ w.heap.size 234 _ (0,0) _ rfl j0 Tryz.underlying234 rfl zC1,_,rfl,LN_put hYv hYd,hYb.grown (zAz _ _ _) hYb.size (fun k e=>by injection e with e;omega)⟩
  · rw[hneg] at hpre hz ht
    have ht':s.extract 1 s.size=t:=by rw[ht];rfl
    have hs1:1≤s.size:=by have e:t.size=s.size-1:=by rw[← ht'];simp
                          omega
    have hsb:s.size≤1000:=by have e:t.size=s.size-1:=by rw[← ht'];simp
                             omega
    replace hz:z=-1*val (zBB (zBg t)):=hz;clear ht hneg;replace ht':=kA1 ht';replace hz:=kA1 hz
    gi_wp2_with (gi_at_call 227;refine (hpre _).mono ?_;rintro e w2 ⟨rfl,hk⟩;have hb2:Below w.heap.size w w2:=(by obtain⟨k,rfl⟩:=hk;exact zA3 ((kA3 _ w).alloc (kA2 _) _) k);have hR2:w2.heap[w.heap.size]?=some (.cells #[.int .i64 0,.slice none 0 0] 234 (0,0)):=(by obtain⟨k,rfl⟩:=hk;exact zAZ (zA4 w _) k);clear hk)
    gi_region
    all_goals
      try rw[ht'.out]
    have hb3:Below w.heap.size w w2.drew:=hb2.drew;have hR3:w2.drew.heap[w.heap.size]?=some (.cells #[.int .i64 0,.slice none 0 0] 234 (0,0)):=hR2;clear hb2 hR2;generalize w2.drew=w3 at *
    gi_wp2_with (gi_at_call 228;refine (zGe (n-1) t _).mono ?_;rintro e w' ⟨rfl,rfl⟩)
    obtain⟨W,hW⟩:∃W,W=((w3.alloc (.cells #[.slice none 0 0] 232)).alloc (.cells #[.string t] 9)):=⟨_,rfl⟩;have hz3:W.heap.size=w3.heap.size+2:=by rw[hW];simp
    have hl3:w.heap.size<w3.heap.size:=zA5 hR3;have hbW:Below w.heap.size w W:=by rw[hW];exact (hb3.alloc hb3.size _).alloc kD8 _
    have hR:W.heap[w.heap.size]?=some (.cells #[.int .i64 0,.slice none 0 0] 234 (0,0)):=by
      rw[hW];exact (kA4 _ _ _ kD8).trans ((kA4 _ _ _ hl3).trans hR3)
    have hQ:W.heap[w3.heap.size]?=some (.cells #[.slice none 0 0] 232 (0,0)):=by
      rw[hW];exact (kA4 _ _ _ kD6).trans (zA4 w3 _)
    have hB:W.heap[w3.heap.size+1]?=some (.cells #[.string t] 9 (0,0)):=by
      rw[hW];exact zAD _ _ _ kD6
    rw[← hW];clear hW hb3 hR3 hpre;refine zDa (bb:=w3.heap.size+1) (s:=t)
      (fun c=>#[.string t,undef,.pointer (some ⟨w.heap.size,0,none⟩),.int .i64 (-1),.pointer (some ⟨w3.heap.size,0,none⟩),.string c,undef,undef,.string s,.bool true,.string s,.string t,.string t,
        .func (.func 257) #[] #[.pointer (some ⟨w3.heap.size+1,0,none⟩)],.string c,undef,undef,undef,undef,undef,undef,undef,undef,undef,undef,undef,undef,undef])
      rfl kD4 hB
      (fun pre X=>∃v,X.ownsRow (W.heap.size+2) 270 1 v pre.length ((zBB pre).map (Value.int .u32))∧X.heap[w3.heap.size]?=some (.cells #[v] 232 (0,0))∧X.heap[w.heap.size]?=some (.cells #[.int .i64 0,.slice none 0 0] 234 (0,0))∧Below w.heap.size w X)
      ?hI ⟨_,kCl _ _ _ _,hQ,hR,hbW⟩ ?hI1 ?assign ?body ?done
    case hI =>
      rintro pre A B k⟨v,ho,hq,hr,hb⟩ hk hg;exact⟨v,zDV ho kD4 hg,(hg.block _ (zA5 hq) kDa).trans hq,(hg.block _ (zA5 hr) kDa).trans hr,hb.grown hg hb.size (fun j e=>by injection e with e;omega)⟩
    case hI1 =>
      rintro A B⟨v,ho,hq,hr,hb⟩ hg;exact⟨v,zEF ho hg,(hg.block _ (zA5 hq) kD6).trans hq,(hg.block _ (zA5 hr) kD6).trans hr,hb.grown hg hb.size (fun j e=>by cases e)⟩
    case assign =>
      intro l c A K hK
      gi_wp2
      exact hK
    case body =>
      rintro pre c A W0⟨v,ho,hq,hr,hb⟩ hrest hlt hg hz0;have hcc:=HV.out.2.2 c (by obtain⟨rest,hrest⟩:=hrest;rw[hrest];simp);have hplen:pre.length≤1000:=by
        obtain⟨rest,hrest⟩:=hrest;rw[hrest,kAt] at hclen;omega
      have hq0:W0.heap[w3.heap.size]?=some (.cells #[v] 232 (0,0)):=(hg.block _ (zA5 hq) kDa).trans hq;have hr0:W0.heap[w.heap.size]?=some (.cells #[.int .i64 0,.slice none 0 0] 234 (0,0)):=(hg.block _ (zA5 hr) kDa).trans hr;have ho0:=zDV ho (k:=w.heap.size+1+(W.heap.size-w.heap.size)) (W':=W0) kD4 (by rw[show w.heap.size+1+(W.heap.size-w.heap.size)=W.heap.size+1 by omega];exact hg);have hbw:Below w.heap.size w W0:=hb.grown hg hb.size (fun k e=>by injection e with e;omega);have hat:=fun wx=>(kBp (n:=n-1-1-1)).2 (zGp c (by have:=hcc.2.2;have e:c.size=c.data.toList.length:=rfl;omega) (decV c.data.toList) (atoi_dec hcc.1 hcc.2.1 hcc.2.2) wx)
      obtain⟨m,hm⟩:∃m:Int,m=(decV c.data.toList:Int):=⟨_,rfl⟩;rw[← hm] at hat;have hmlo:0≤m:=kD4
      have hmhi:m<1000000000:=by
        have h1:=zG9 hcc.1;have h2:10 ^ c.data.toList.length≤10 ^ 9:=kCp kD4 hcc.2.2;omega
      replace hm:=kA1 hm;have hat2:∀l wx,CallsIn (Fence.wide.inRound l) (n-1-1-1) Tryz.prog 216 #[.string c] wx fun e w''=>e=.returned (.tuple #[.int .i64 m,.nilIface])∧Below wx.heap.size wx w'':=fun _=>hat
      have hF216:(Fence.wide.inRound (W.heap.size+1)).fn 216:=trivial;have hwm:m % 4294967296=m:=kD4
      clear hat hcc hrest;have HQ0:=kA1 hq0;clear hq
      gi_wp2
      refine⟨trivial,(hat2 _ _).mono ?_⟩;rintro e w1 ⟨rfl,hb1⟩;have hq1:=zAa hb1 hq0;have q0:=zA1 hq1 0;have q1:=zA2 hq1 0;have hbx:=hbw.trans (hb1.mono hbw.size);have hrx:=zAa hb1 hr0;have hs1:=hb1.size;have HB1:=kA1 hb1;have ho1:=zC2 ho0 hb1;have hge:W.heap.size+2≤w1.heap.size:=kD4
      have hqlt:=zA5 hq1;clear hq0 hr0 hat2 ho ho0 hbw;obtain⟨i0,hi,iz0,iz1,iz2⟩:=info_parts info270;have HO:=zC2 ho1 ((kA3 _ w1).alloc (kA2 _) (.cells #[.int .u32 m] 270));have HC:∀j u,([Value.int .u32 m]:List Value)[j]?=some u→(w1.alloc (.cells #[.int .u32 m] 270)).cell? ((⟨w1.heap.size,0,none⟩:Addr).add j)=some u:=by simpa using kBL (zA4 w1 (.cells #[.int .u32 m] 270))
      have hqne:some w3.heap.size≠v.ownBlock:=fun e=>by have:=(kBy HO _ e.symm).1;omega
      have H1:=kA1 HO;have H2:=kA1 HC;have hnb:=fun j (hj:some j=v.ownBlock)=>(kBy H1.out _ hj.symm).1
      have HNB:=kA1 hnb;have hbb1:pre.length+1≤maxLen:=kDn
      have hbb2:(pre.length+1)*4≤140737488355328:=kD4
      have hbb3:W.heap.size+2≤(w1.alloc (.cells #[.int .u32 m] 270)).heap.size:=kD8
      clear HO HC ho1 hnb
      gi_wp2_with (gi_at_builtin;go_loud (refine kC4 _ rfl _ _ 232 rfl (W.heap.size+2) 270 i0 (.int .u32 0) 1 4 Tryz.underlying232 hi iz0 iz1 iz2 rfl (kCq 0) v pre.length ((zBB pre).map (Value.int .u32)) rfl H1.out ⟨w1.heap.size,0,none⟩ 1 1 [.int .u32 m] rfl rfl H2.out kDx hbb1 hbb2 hbb3 ?_);intro v' w4 hown' hgrow _;obtain⟨Av,cv,rfl⟩:=zC7 hown';have hq2:=(hgrow.block (w3.heap.size) kD8 hqne).trans ((kA4 _ _ _ hqlt).trans hq1);have c1:=zA1 hq2 0;have c2:=zA2 hq2 0;have HQ2:=kA1 hq2;have HO2:=kA1 hown';clear hown' hq2)
      have hgB:∀j,j<W.heap.size+2→∀o,w1.heap[j]?=some o→w4.heap[j]?=some o:=fun j hj o ho=>(hgrow.block j (by have:=zA5 ho;simp;omega) (fun e=>by have:=HNB.out j e;omega)).trans ((kA4 _ _ _ (zA5 ho)).trans ho)
      have hbx4:Below w.heap.size w w4:=(hbx.alloc hbx.size (.cells #[.int .u32 m] 270)).grown hgrow kD8 (fun k e=>by have:=HNB.out k e.symm;omega);refine⟨?_,⟨.slice Av (pre.length+1) cv,?_,zA8 HQ2.out 0 _,?_,?_⟩,?_⟩
      · exact ((KeepsOthers.mk HB1.out.size (fun k o hk _=>zAa HB1.out hk)).trans ((kCE w1 (.cells #[.int .u32 m] 270)).trans (kCc hgrow (fun j o hj ho=>by
          obtain⟨cells,hc⟩:=zDf H1.out j hj;rw[hc] at ho;cases ho;rfl)))).trans (kBH _ _ _)
      · rw[kAt,zFR,← hm.out]
        exact zDV (k:=w3.heap.size) HO2.out kD4 (kAf _ _ _ _)
      · exact (kA5 _ _ _ _ kD8).trans (hgB _ kD4 _ hrx)
      · exact hbx4.setCell (p:=⟨w3.heap.size,0,none⟩) kD8 _
      · have hbl:=zA5 hB
        have hbA:w3.heap.size+1<W0.heap.size:=kD4
        have hB0:W0.heap[w3.heap.size+1]?=w1.heap[w3.heap.size+1]?:=(HB1.out.block _ hbA).symm;refine (kA5 _ _ _ _ kD6).trans ?_;rw[hB0];exact (hgrow.block _ kD8 (fun e=>by have:=HNB.out _ e;omega)).trans (kA4 _ _ _ kD4)
    case done =>
      rintro X⟨v,ho,h1,h4',h5⟩ hdef;rw[hz3] at hdef;rw[← zCA] at ho;obtain⟨A,c,rfl,hc,hC⟩:=own_u32 ho;have q0:=zA1 h1 0;have hmf:=zF3 (-1) A (zBB (zBg t)) c X kD6 HNE.out hc (.inl (by rw[zCA];omega)) hC HV.out.2.1;have hmi:=(kBp (n:=n-1)).2 hmf;rw[← hz.out] at hmi;have HMI:=kA1 hmi;clear hmi hmf hC ho;generalize (zBB (zBg t)).length=NL at *
      gi_wp2_with (gi_at_call 229;refine HMI.out.mono ?_;rintro e w1 ⟨v,rfl,hv,hb1⟩;obtain⟨lv,gv,cv,rfl,hrest⟩:=hv.out;have hr1:=zAa hb1 h4';have d0:=zA1 hr1 0;have d1:=zA1 hr1 1;have f0:=zA2 hr1 0;have f1:=zA2 hr1 1;have HR1:=kA1 hr1;have HV1:=kA1 hv;clear hr1 hv hrest)
      have hdl:=zA5 hdef;have hd1:=zAa hb1 hdef;have hYd:((w1.setCell ⟨w.heap.size,0,none⟩ (.int .i64 (Int.sign z))).setCell ⟨w.heap.size,1,none⟩ (.slice gv lv.length cv)).heap[(w3.heap.size+2)]?=some (.deferred (some [])):=(kA5 _ _ _ _ kDd).trans ((kA5 _ _ _ _ kDd).trans hd1);have hY:=zBX (.int .i64 (Int.sign z)) (.slice gv lv.length cv) HR1.out;have hYv:=zD1 HV1.out HR1.out (.int .i64 (Int.sign z)) (.slice gv lv.length cv);have hYb:=((h5.trans (hb1.mono h5.size)).setCell (p:=⟨w.heap.size,0,none⟩) (kA2 _) (.int .i64 (Int.sign z))).setCell (p:=⟨w.heap.size,1,none⟩) (kA2 _) (.slice gv lv.length cv);generalize (w1.setCell ⟨w.heap.size,0,none⟩ (.int .i64 (Int.sign z))).setCell ⟨w.heap.size,1,none⟩ (.slice gv lv.length cv)=Y at *;refine⟨kD6,.inl ⟨_,_,rfl,kC9 hYd,?_⟩⟩;have j0:=(kAq (w:=Y) (o:=.deferred none) (r:=(w3.heap.size+2)) kD4).trans hY;refine⟨_,zAg Tryz.results189 _ _ w.heap.size 234 _ (0,0) _ rfl j0 Tryz.underlying234 rfl zC1,_,rfl,LN_put hYv hYd,hYb.grown (zAz _ _ _) hYb.size (fun k e=>by injection e with e;omega)⟩
end
theorem fail255_no (e:Int) (w:World):Calls Tryz.prog 255 #[.bool false,.int .i64 e] w fun en w'=>en=.returned (.tuple #[])∧w'=w:=by
 go_enter Tryz.func255,Tryz.ntmps255;go_wp2;exact kBf (kB4 rfl _ _ _) rfl ⟨rfl,rfl⟩
theorem zF8 (e:Int) (w:World):Calls Tryz.prog 188 #[.bool false,.int .i64 e] w fun en w'=>en=.returned (.tuple #[])∧w'=w:=by
 go_enter Tryz.func188,Tryz.ntmps188;go_wp2;exact kBf (kB4 rfl _ _ _) rfl ⟨rfl,rfl⟩
theorem caught225_nil (w:World):Calls Tryz.prog 225 #[.nilIface] w fun e w'=>e=.returned (.int .i64 0)∧w'=w:=by
 have hta:=zEQ;go_enter Tryz.func225,Tryz.ntmps225;go_wp2;go_ret;exact⟨rfl,rfl⟩
theorem catch224_idle (p:Nat) (old:Value) (w:World) (hp:w.heap[p]?=some (.cells #[old] 36 (0,0))) :
  CallsD Tryz.prog 224 #[.pointer (some ⟨p,0,none⟩)] .returning w fun e u' w'=>e=.returned (.tuple #[])∧u'=.returning∧w'=w.setCell ⟨p,0,none⟩ (.int .i64 0):=by
 have hta:=caught225_nil w;have f0:=zA2 hp 0;have c0:=zA1 hp 0;refine kC5 Tryz.func224 rfl fun c₀ cs hu=>?_
 apply kCH;simp[wpOpsS,go_sem,recoverD,hu,Tryz.ntmps224,Exit.thenS];refine hta.mono ?_;rintro e w' ⟨rfl,hw⟩;subst w';simp[go_sem,c0,f0,Oper.upon,Result.andThen]
 cases c₀
 simp_all [bodyPostS,results,Tryz.results224]
theorem caught167_nil (w:World):Calls Tryz.prog 167 #[.nilIface] w fun e w'=>e=.returned (.int .i64 0)∧w'=w:=by
 have hta:=zEQ;go_enter Tryz.func167,Tryz.ntmps167;go_wp2;go_ret;exact⟨rfl,rfl⟩
theorem catch166_idle (p:Nat) (old:Value) (w:World) (hp:w.heap[p]?=some (.cells #[old] 36 (0,0))) :
  CallsD Tryz.prog 166 #[.pointer (some ⟨p,0,none⟩)] .returning w fun e u' w'=>e=.returned (.tuple #[])∧u'=.returning∧w'=w.setCell ⟨p,0,none⟩ (.int .i64 0):=by
 have hta:=caught167_nil w;have f0:=zA2 hp 0;have c0:=zA1 hp 0;refine kC5 Tryz.func166 rfl fun c₀ cs hu=>?_
 apply kCH;simp[wpOpsS,go_sem,recoverD,hu,Tryz.ntmps166,Exit.thenS];refine hta.mono ?_;rintro e w' ⟨rfl,hw⟩;subst w';simp[go_sem,c0,f0,Oper.upon,Result.andThen]
 cases c₀
 simp_all [bodyPostS,results,Tryz.results166]
def zBv (T:TypeId) (e:Int):Ending:=.panicked [{ v:=.iface T (.agg #[.int .i64 e]),recovered:=false }]
theorem as159_134 (v:Value) (w:World):(Instr.typeAssert (.iface 159 v) 20 134 true).run Tryz.prog w=.ok (.tuple #[.iface 159 v,.bool true]) w:=kCv Tryz.underlying134 kD5 v 20 w
theorem caught63_hit (n:Int) (w:World) (hg:w.cell? ⟨0,0,none⟩=some (.iface 209 (.agg #[.pointer (some ⟨7,134,none⟩)]))) :
  Calls Tryz.prog 63 #[.iface 159 (.agg #[.int .i64 n])] w fun e w'=>e=.returned (.int .i64 n)∧Below w.heap.size w w':=by
 have hta:=as159_134;have hpl:=kAJ w _ hg;have hh:=as_hitG as_ok159 n w.heap.size (.int .i64 0) (w.alloc (.cells #[.int .i64 0] 159)) ((kBC _ _ ⟨0,0,none⟩ hpl).trans hg) (zA4 _ _);go_enter Tryz.func63,Tryz.ntmps63;go_wp2_with fail;refine hh.mono ?_;rintro e w2 ⟨rfl,W,hb,rfl⟩;have hs2:=zAa hb (zA4 w (.cells #[.int .i64 0] 159));have hs3:=zA8 hs2 0 (.int .i64 n);have c1:=zA1 hs3 0;have hfin:=(((kA3 _ w).alloc (kA2 _) (.cells #[.int .i64 0] 159)).trans (hb.mono kD6)).setCell (p:=⟨w.heap.size,0,none⟩) (kA2 _) (.int .i64 n);go_wp2;go_ret;exact⟨rfl,hfin⟩
theorem catch62_hit (p:Nat) (n:Int) (old:Value) (older:List PanicEntry) (w:World) (hp:w.heap[p]?=some (.cells #[old] 36 (0,0))) (hg:w.cell? ⟨0,0,none⟩=some (.iface 209 (.agg #[.pointer (some ⟨7,134,none⟩)]))) :
  CallsD Tryz.prog 62 #[.pointer (some ⟨p,0,none⟩)] (.panicking ({ v:=.iface 159 (.agg #[.int .i64 n]),recovered:=false } :: older)) w fun e u' w' =>
   e=.returned (.tuple #[])∧u'=.panicking ({ v:=.iface 159 (.agg #[.int .i64 n]),recovered:=true } :: older)∧w'.heap[p]?=some (.cells #[.int .i64 n] 36 (0,0))∧w.grownBy w' (some p):=by
 have hta:=caught63_hit n w hg;refine kC5 Tryz.func62 rfl fun c₀ cs hu=>?_
 apply kCH;simp[wpOpsS,go_sem,recoverD,hu,Tryz.ntmps62,Exit.thenS];refine hta.mono ?_;rintro e w' ⟨rfl,hb⟩;have hp2:=zAa hb hp;have c0:=zA1 hp2 0;have f0:=zA2 hp2 0;have hfin:=zA8 hp2 0 (.int .i64 n);have hgr:w.grownBy (w'.setCell ⟨p,0,none⟩ (.int .i64 n)) (some p):=kA7 (kAk (kAS _ _) hb) (kAf _ _ _ _);simp[go_sem,c0,f0,Oper.upon,Result.andThen]
 cases c₀
 simp_all [bodyPostS,results,Tryz.results62]
theorem as253_134 (v:Value) (w:World):(Instr.typeAssert (.iface 253 v) 20 134 true).run Tryz.prog w=.ok (.tuple #[.iface 253 v,.bool true]) w:=kCv Tryz.underlying134 kD5 v 20 w
theorem caught167_hit (n:Int) (w:World) (hg:w.cell? ⟨0,0,none⟩=some (.iface 209 (.agg #[.pointer (some ⟨7,134,none⟩)]))) :
  Calls Tryz.prog 167 #[.iface 253 (.agg #[.int .i64 n])] w fun e w'=>e=.returned (.int .i64 n)∧Below w.heap.size w w':=by
 have hta:=as253_134;have hpl:=kAJ w _ hg;have hh:=as_hitG as_ok253 n w.heap.size (.int .i64 0) (w.alloc (.cells #[.int .i64 0] 253)) ((kBC _ _ ⟨0,0,none⟩ hpl).trans hg) (zA4 _ _);go_enter Tryz.func167,Tryz.ntmps167;go_wp2_with fail;refine hh.mono ?_;rintro e w2 ⟨rfl,W,hb,rfl⟩;have hs2:=zAa hb (zA4 w (.cells #[.int .i64 0] 253));have hs3:=zA8 hs2 0 (.int .i64 n);have c1:=zA1 hs3 0;have hfin:=(((kA3 _ w).alloc (kA2 _) (.cells #[.int .i64 0] 253)).trans (hb.mono kD6)).setCell (p:=⟨w.heap.size,0,none⟩) (kA2 _) (.int .i64 n);go_wp2;go_ret;exact⟨rfl,hfin⟩
theorem catch166_hit (p:Nat) (n:Int) (old:Value) (older:List PanicEntry) (w:World) (hp:w.heap[p]?=some (.cells #[old] 36 (0,0))) (hg:w.cell? ⟨0,0,none⟩=some (.iface 209 (.agg #[.pointer (some ⟨7,134,none⟩)]))) :
  CallsD Tryz.prog 166 #[.pointer (some ⟨p,0,none⟩)] (.panicking ({ v:=.iface 253 (.agg #[.int .i64 n]),recovered:=false } :: older)) w fun e u' w' =>
   e=.returned (.tuple #[])∧u'=.panicking ({ v:=.iface 253 (.agg #[.int .i64 n]),recovered:=true } :: older)∧w'.heap[p]?=some (.cells #[.int .i64 n] 36 (0,0))∧w.grownBy w' (some p):=by
 have hta:=caught167_hit n w hg;refine kC5 Tryz.func166 rfl fun c₀ cs hu=>?_
 apply kCH;simp[wpOpsS,go_sem,recoverD,hu,Tryz.ntmps166,Exit.thenS];refine hta.mono ?_;rintro e w' ⟨rfl,hb⟩;have hp2:=zAa hb hp;have c0:=zA1 hp2 0;have f0:=zA2 hp2 0;have hfin:=zA8 hp2 0 (.int .i64 n);have hgr:w.grownBy (w'.setCell ⟨p,0,none⟩ (.int .i64 n)) (some p):=kA7 (kAk (kAS _ _) hb) (kAf _ _ _ _);simp[go_sem,c0,f0,Oper.upon,Result.andThen]
 cases c₀
 simp_all [bodyPostS,results,Tryz.results166]
theorem zG6 (e:Int) (w:World):Calls Tryz.prog 188 #[.bool true,.int .i64 e] w fun en w'=>en=zBv 253 e∧w'=w:=by
 unfold zBv;go_enter Tryz.func188,Tryz.ntmps188;go_wp2;exact⟨rfl,rfl,rfl⟩
theorem as300_134 (v:Value) (w:World):(Instr.typeAssert (.iface 300 v) 20 134 true).run Tryz.prog w=.ok (.tuple #[.iface 300 v,.bool true]) w:=kCv Tryz.underlying134 kD5 v 20 w
theorem caught225_hit (n:Int) (w:World) (hg:w.cell? ⟨0,0,none⟩=some (.iface 209 (.agg #[.pointer (some ⟨7,134,none⟩)]))) :
  Calls Tryz.prog 225 #[.iface 300 (.agg #[.int .i64 n])] w fun e w'=>e=.returned (.int .i64 n)∧Below w.heap.size w w':=by
 have hta:=as300_134;have hpl:=kAJ w _ hg;have hh:=as_hitG as_ok300 n w.heap.size (.int .i64 0) (w.alloc (.cells #[.int .i64 0] 300)) ((kBC _ _ ⟨0,0,none⟩ hpl).trans hg) (zA4 _ _);go_enter Tryz.func225,Tryz.ntmps225;go_wp2_with fail;refine hh.mono ?_;rintro e w2 ⟨rfl,W,hb,rfl⟩;have hs2:=zAa hb (zA4 w (.cells #[.int .i64 0] 300));have hs3:=zA8 hs2 0 (.int .i64 n);have c1:=zA1 hs3 0;have hfin:=(((kA3 _ w).alloc (kA2 _) (.cells #[.int .i64 0] 300)).trans (hb.mono kD6)).setCell (p:=⟨w.heap.size,0,none⟩) (kA2 _) (.int .i64 n);go_wp2;go_ret;exact⟨rfl,hfin⟩
theorem catch224_hit (p:Nat) (n:Int) (old:Value) (older:List PanicEntry) (w:World) (hp:w.heap[p]?=some (.cells #[old] 36 (0,0))) (hg:w.cell? ⟨0,0,none⟩=some (.iface 209 (.agg #[.pointer (some ⟨7,134,none⟩)]))) :
  CallsD Tryz.prog 224 #[.pointer (some ⟨p,0,none⟩)] (.panicking ({ v:=.iface 300 (.agg #[.int .i64 n]),recovered:=false } :: older)) w fun e u' w' =>
   e=.returned (.tuple #[])∧u'=.panicking ({ v:=.iface 300 (.agg #[.int .i64 n]),recovered:=true } :: older)∧w'.heap[p]?=some (.cells #[.int .i64 n] 36 (0,0))∧w.grownBy w' (some p):=by
 have hta:=caught225_hit n w hg;refine kC5 Tryz.func224 rfl fun c₀ cs hu=>?_
 apply kCH;simp[wpOpsS,go_sem,recoverD,hu,Tryz.ntmps224,Exit.thenS];refine hta.mono ?_;rintro e w' ⟨rfl,hb⟩;have hp2:=zAa hb hp;have c0:=zA1 hp2 0;have f0:=zA2 hp2 0;have hfin:=zA8 hp2 0 (.int .i64 n);have hgr:w.grownBy (w'.setCell ⟨p,0,none⟩ (.int .i64 n)) (some p):=kA7 (kAk (kAS _ _) hb) (kAf _ _ _ _);simp[go_sem,c0,f0,Oper.upon,Result.andThen]
 cases c₀
 simp_all [bodyPostS,results,Tryz.results224]
theorem zG5 (e:Int) (w:World):Calls Tryz.prog 255 #[.bool true,.int .i64 e] w fun en w'=>en=zBv 300 e∧w'=w:=by
 unfold zBv;go_enter Tryz.func255,Tryz.ntmps255;go_wp2;exact⟨rfl,rfl,rfl⟩
theorem zDk {s:ByteArray} (h:zCp s=true):Digs (zBr s).data.toList∧0<(zBr s).size:=by
 unfold zCp at h;simp only[kAo,kAU] at h;refine⟨fun c hc=>?_,h.1.1⟩;have:=kBo.1 h.2 c hc;unfold digC at this;simpa[kAo] using this
def zC0 (s:ByteArray):Int:=if zCp s=false then 1 else if 400<(zBr s).size then 13 else 0
theorem wtaken_form (s:ByteArray) (hs:s.size≤9223372036854775807) (h:zCp s=false) (w:World):Calls Tryz.prog 226 #[.string s] w fun e w'=>e=zBv 300 1∧Below w.heap.size w w':=by
 have hf:=kA1 (fun w=>zF7 s hs w);rw[h] at hf;unfold zBv;clear h;go_enter Tryz.func226,Tryz.ntmps226;go_wp2_with (go_at_call 256;refine (hf.out _).mono ?_;rintro e w1 ⟨rfl,hb1⟩);have hw1:=((kA3 _ w).alloc (kA2 _) (.cells #[.int .i64 0,.slice none 0 0] 234)).trans (hb1.mono kD6);have hy:=zG5 1;unfold zBv at hy;go_wp2_with (go_at_call 255;refine (hy _).mono ?_;rintro e wq ⟨rfl,hq⟩;subst wq);exact⟨rfl,rfl,hw1⟩
theorem wtaken_large (s:ByteArray) (hs:s.size≤9223372036854775807) (h:zCp s=true) (hl:400<(zBr s).size) (w:World):Calls Tryz.prog 226 #[.string s] w fun e w'=>e=zBv 300 13∧Below w.heap.size w w':=by
 have hf:=kA1 (fun w=>zF7 s hs w);rw[h] at hf;have htp:=kA1 (fun w=>zEU s w);have hdl:decide (400<((zBr s).size:Int))=true:=kA8 kD4;have htz:=zDz s;generalize zBr s=t at *;unfold zBv;clear h hl;have hb0:=(kA3 _ w).alloc (kA2 _) (.cells #[.int .i64 0,.slice none 0 0] 234);go_enter Tryz.func226,Tryz.ntmps226;go_wp2_with (go_at_call 256;refine (hf.out _).mono ?_;rintro e w1 ⟨rfl,hb1⟩);have hw1:=hb0.trans (hb1.mono kD6);have hn:=fail255_no 1;have hy:=zG5 13;unfold zBv at hy;go_wp2_with (first
  | (go_at_call 255;refine (hn _).mono ?_;rintro e wq ⟨rfl,hq⟩;subst wq;clear hn)
  | (go_at_call 124;refine (htp.out _).mono ?_;rintro e wq ⟨rfl,k,rfl⟩)
  | (go_at_call 255;refine (hy _).mono ?_;rintro e wq ⟨rfl,hq⟩;subst wq))
 exact⟨rfl,rfl,zA3 hw1 k⟩
theorem wtaken_ok (s:ByteArray) (hs:s.size≤9223372036854775807) (h:zCp s=true) (hl:(zBr s).size≤400) (w:World):Calls Tryz.prog 226 #[.string s] w fun e w'=>(∃v,e=.returned v)∧Below w.heap.size w w':=by
 have hf:=kA1 (fun w=>zF7 s hs w);rw[h] at hf;have htp:=kA1 (fun w=>zEU s w);obtain⟨d1,d2⟩:=zDk h;have hr:=kA1 (fun w=>kBp.1 (read_LN 9 s d1 d2 kD4 w));have hdl:decide (400<((zBr s).size:Int))=false:=kAc kD4;have htz:=zDz s;clear d1 d2;generalize numV s=z at *;generalize zBr s=t at *;clear h hl;have hh0:=zA4 w (.cells #[.int .i64 0,.slice none 0 0] 234);have hb0:=(kA3 _ w).alloc (kA2 _) (.cells #[.int .i64 0,.slice none 0 0] 234);go_enter Tryz.func226,Tryz.ntmps226;go_wp2_with (go_at_call 256;refine (hf.out _).mono ?_;rintro e w1 ⟨rfl,hb1⟩);have hw1:=hb0.trans (hb1.mono kD6);have hh1:=zAa hb1 hh0;go_wp2_with (first
  | (go_at_call 255;refine (fail255_no _ _).mono ?_;rintro e wq ⟨rfl,hq⟩;subst wq)
  | (go_at_call 124;refine (htp.out _).mono ?_;rintro e wq ⟨rfl,k,rfl⟩))
 have hw2:Below w.heap.size w (w1.drewN k):=zA3 hw1 k;have hh2:(w1.drewN k).heap[w.heap.size]?=some (.cells #[.int .i64 0,.slice none 0 0] 234 (0,0)):=zAZ hh1 k;generalize w1.drewN k=w2 at *;refine (hr.out _).mono ?_;rintro e w3 ⟨v,rfl,hv,hb3⟩;obtain⟨l,A,c,rfl,_⟩:=hv.out;have hh3:=zAa hb3 hh2;have d0:=zA1 hh3 0;have d1:=zA1 hh3 1;have f0:=zA2 hh3 0;have f1:=zA2 hh3 1;have hw3:=hw2.trans (hb3.mono hw2.size);clear hv;go_wp2;exact kAi (zAg Tryz.results226 _ _ w.heap.size 234 _ (0,0) _ rfl (zBX _ _ hh3) Tryz.underlying234 rfl zC1) rfl ⟨⟨_,rfl⟩,(hw3.setCell (p:=⟨w.heap.size,0,none⟩) (kA2 _) _).setCell (p:=⟨w.heap.size,1,none⟩) (kA2 _) _⟩
theorem zFe (s:ByteArray) (n:Int) (hn:∀w,Calls Tryz.prog 226 #[.string s] w fun e w'=>e=zBv 300 n∧Below w.heap.size w w') (w:World) (hS:Start w):Calls Tryz.prog 187 #[.string s] w fun e w'=>e=.returned (.int .i64 n)∧Below w.heap.size w w':=by
 have hmf:∀(fn:Fn) (first cap:Array Value) (w:World),(Instr.makeFunc fn first cap).run Tryz.prog w=.ok (.func fn first cap) w:=fun _ _ _ _=>rfl
 have hh0:=zA4 w (.cells #[.int .i64 0] 36);have hb0:=(kA3 _ w).alloc (kA2 _) (.cells #[.int .i64 0] 36);have hge:=(hS.below hb0).err;unfold zBv at hn;have HN:=kA1 hn;clear hn hS;go_enter_defers Tryz.func187,Tryz.ntmps187;go_wp2_with fail;refine (HN.out _).mono ?_;rintro e w1 ⟨rfl,hb1⟩;have hr1:=zAa hb1 hh0;have hbw:=hb0.trans (hb1.mono kD6);have hg1:=zA0 hb1 hge;go_wp2;refine kCk (f:=224) (args:=#[.pointer (some ⟨w.heap.size,0,none⟩)]) kD6 kDk ?_;refine (catch224_hit w.heap.size n (.int .i64 0) [] w1 hr1 hg1).mono ?_;rintro e u w3 ⟨rfl,rfl,hs3,hg3⟩;have c4:w3.cell? ⟨w.heap.size,0,none⟩=some (.int .i64 n):=zA1 hs3 0;have hfin:Below w.heap.size w w3:=hbw.grown hg3 hbw.size (fun j e=>by injection e with e;omega);simp[Leaves,settle,results,Tryz.results187,go_sem,c4,hfin]
theorem wcheck_passes (s:ByteArray) (ht:∀w,Calls Tryz.prog 226 #[.string s] w fun e w'=>(∃v,e=.returned v)∧Below w.heap.size w w') (w:World):Calls Tryz.prog 187 #[.string s] w fun e w'=>e=.returned (.int .i64 0)∧Below w.heap.size w w':=by
 have hmf:∀(fn:Fn) (first cap:Array Value) (w:World),(Instr.makeFunc fn first cap).run Tryz.prog w=.ok (.func fn first cap) w:=fun _ _ _ _=>rfl
 have hh0:=zA4 w (.cells #[.int .i64 0] 36);have hb0:=(kA3 _ w).alloc (kA2 _) (.cells #[.int .i64 0] 36);have HT:=kA1 ht;clear ht;go_enter_defers Tryz.func187,Tryz.ntmps187;go_wp2_with fail;refine (HT.out _).mono ?_;rintro e w1 ⟨⟨v,rfl⟩,hb1⟩;have hr1:=zAa hb1 hh0;have hbw:=hb0.trans (hb1.mono kD6);have c1:=zA1 hr1 0;have f1':=zA2 hr1 0;go_wp2;have hr2:=zA8 hr1 0 (.int .i64 0);have hbw2:=hbw.setCell (p:=⟨w.heap.size,0,none⟩) (kA2 _) (.int .i64 0);generalize w1.setCell ⟨w.heap.size,0,none⟩ (.int .i64 0)=w2 at *;refine kCk (f:=224) (args:=#[.pointer (some ⟨w.heap.size,0,none⟩)]) kD6 kDk ?_;refine (catch224_idle w.heap.size (.int .i64 0) w2 hr2).mono ?_;rintro e u w3 ⟨rfl,rfl,hw3⟩;have c4:w3.cell? ⟨w.heap.size,0,none⟩=some (.int .i64 0):=by rw[hw3];exact zA1 (zA8 hr2 0 (.int .i64 0)) 0
 have hfin:Below w.heap.size w w3:=by rw[hw3];exact hbw2.setCell (p:=⟨w.heap.size,0,none⟩) (kA2 _) _
 simp[Leaves,settle,results,Tryz.results187,go_sem,c4,hfin]
theorem zFf (s:ByteArray) (hs:s.size≤9223372036854775807) (w:World) (hS:Start w):Calls Tryz.prog 187 #[.string s] w fun e w'=>e=.returned (.int .i64 (zC0 s))∧Below w.heap.size w w':=by
 unfold zC0;by_cases h:zCp s=false
 ·rw[kAa h];exact zFe s 1 (fun w=>wtaken_form s hs h w) w hS
 ·have h':zCp s=true:=kDS
  rw[kA9 h];by_cases hl:400<(zBr s).size
  ·rw[kAa hl];exact zFe s 13 (fun w=>wtaken_large s hs h' hl w) w hS
  ·rw[kA9 hl];exact wcheck_passes s (fun w=>wtaken_ok s hs h' kD4 w) w
end Go.Proofs.YtjaobihcdkjmbaaGreatDoor
end
