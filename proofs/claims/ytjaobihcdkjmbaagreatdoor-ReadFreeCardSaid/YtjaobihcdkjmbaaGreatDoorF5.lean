/- The law ReadFree answers true for every argument; a part of its proof. -/
import Derived.RangeFuncKeeps
import Derived.RangeFuncLeaves
import Derived.OwnWalkIn
import Derived.TacticsInMore
import Derived.LoopNIn
import Derived.LoopIn
import Derived.Sort.LoopGhostIn
import Derived.Shelf.Abstract
import Derived.Test.YtjaobihcdkjmbaaGreatDoorF4
set_option linter.unusedVariables false
set_option linter.unusedSimpArgs false
section
namespace Go.Proofs.YtjaobihcdkjmbaaGreatDoor
open Go.RowKit Go.Proofs.YtjaobihcdkjmbaaGreatDoorW.PrintWords Go.Proofs.YtjaobihcdkjmbaaGreatDoor.PReadTokens
def tokV (t:S47):Value:=.agg #[.int .i64 t.f0,.string t.f1,.int .i64 t.f2]
def bytesAt (s:ByteArray) (a:Nat):List UInt8:=s.data.toList.drop a
def skipB (s:ByteArray) (a:Nat):Nat:=a+runLen [1] (bytesAt s a)
def endName (s:ByteArray) (b:Nat):Nat:=b+runLen [2,3,4] (bytesAt s b)
def endNum (s:ByteArray) (b:Nat):Nat:=b+runLen [4] (bytesAt s b)
theorem runLen_le (ks:List Int) (l:List UInt8):runLen ks l≤l.length:=(List.takeWhile_sublist _).length_le
theorem run_le (ks:List Int) (s:ByteArray) (a:Nat) (ha:a≤s.size):a+runLen ks (bytesAt s a)≤s.size:=by
 have:=runLen_le ks (bytesAt s a)
 unfold bytesAt at this ⊢
 rw [List.length_drop] at this
 have e:s.data.toList.length=s.size:=rfl
 omega
def Scan (w:World) (S:Nat) (s:ByteArray) (a:Nat):Prop:=w.heap[S]?=some (.cells #[.string s,.int .i64 a] 129 (0,0))
theorem Scan.cells {w:World} {S:Nat} {s:ByteArray} {a:Nat} (h:Scan w S s a) :
  w.cell? ⟨S,0,none⟩=some (.string s)∧w.cell? ⟨S,1,none⟩=some (.int .i64 a)∧w.frozen? ⟨S,1,none⟩=false∧S < w.heap.size :=
 ⟨blk_cell h 0,blk_cell h 1,blk_frozen h 1,blk_lt h⟩
theorem beq_comm_int (a b:Int):(a == b)=(b == a):=by rw [Bool.eq_iff_iff,beq_iff_eq,beq_iff_eq];exact eq_comm
theorem run_one (S g:Nat) (s:ByteArray) (a:Nat) (k:Int) (hk:(k == 0)=false) (t:TypeId) (w:World) (ha:a≤s.size) (hs:s.size≤9223372036854775807) (hS:Scan w S s a)
  (hg:w.heap[g]?=some (.cells #[.int .i64 k] t (0,0))) (hgS:g≠S) :
  Calls Tryz.prog 122 #[.pointer (some ⟨S,0,none⟩),.slice (some ⟨g,0,none⟩) 1 1] w fun e w' =>
   e=.returned (.string (s.extract a (a+runLen [k] (bytesAt s a))))∧w.grownBy w' (some S)∧Scan w' S s (a+runLen [k] (bytesAt s a)) :=
 run_any S g s a ha [k] t w hs (by rw [List.contains_cons,beq_comm_int,hk];rfl) (Nat.lt_of_le_of_lt (Nat.le_refl 1) (by omega)) hS hg hgS
theorem skip_call (S:Nat) (s:ByteArray) (a b:Nat) (w:World) (o:Obj) (ha:a≤s.size) (hs:s.size≤2147483648) (hS:Scan w S s a) (hb:skipB s a=b) :
  Calls Tryz.prog 122 #[.pointer (some ⟨S,0,none⟩),.slice (some ⟨w.heap.size+1,0,none⟩) 1 1] ((w.alloc o).alloc (.cells #[.int .i64 1] 162)) fun e w' =>
   e=.returned (.string (s.extract a b))∧((w.alloc o).alloc (.cells #[.int .i64 1] 162)).grownBy w' (some S)∧Scan w' S s b:=by
 subst hb
 have hlt:S < w.heap.size:=blk_lt hS
 refine run_one S (w.heap.size+1) s a 1 rfl 162 _ ha (by omega) ?_ ?_ (by omega)
 ·exact (Below.heap_alloc _ _ _ (by simp;omega)).trans ((Below.heap_alloc _ _ _ hlt).trans hS)
 ·have:=blk_new (w.alloc o) (.cells #[.int .i64 1] 162)
  rwa [World.size_alloc] at this
theorem results88 {tmps:Array Value} {W:World} {R:Nat} {cs:Array Value} (h2:tmps.getD 2 undef=.pointer (some ⟨R,0,none⟩)) (hs:cs.size=3) (hR:W.heap[R]?=some (.cells cs 47 (0,0))) :
  (results Tryz.f88 tmps).run Tryz.prog W=.ok (.tuple #[.agg cs,tmps.getD 3 undef]) W :=
 results_ct (fn:=Tryz.f88) Tryz.results88 tmps W R 47 cs (0,0) _ h2 hR Tryz.underlying47 rfl (by rw [hs];kernel_rfl)
theorem next_fin {w X:World} {S R n:Nat} {s:ByteArray} {x0 x1 x2:Value} (v0 v1 v2:Value) (hg:w.grownBy X (some S)) (hsc:Scan X S s n) (hR:X.heap[R]?=some (.cells #[x0,x1,x2] 47 (0,0))) (hRw:w.heap.size≤R) (hS:S < w.heap.size) :
  (((X.setCell ⟨R,0,none⟩ v0).setCell ⟨R,1,none⟩ v1).setCell ⟨R,2,none⟩ v2).heap[R]?=some (.cells #[v0,v1,v2] 47 (0,0)) ∧
   w.grownBy (((X.setCell ⟨R,0,none⟩ v0).setCell ⟨R,1,none⟩ v1).setCell ⟨R,2,none⟩ v2) (some S)∧Scan (((X.setCell ⟨R,0,none⟩ v0).setCell ⟨R,1,none⟩ v1).setCell ⟨R,2,none⟩ v2) S s n:=by
 have far:∀ (Y:World) (i:Nat) (v:Value),w.grownBy Y (some S)→w.grownBy (Y.setCell ⟨R,i,none⟩ v) (some S):=fun Y i v h =>
  ⟨h.os,h.tape,h.output,by rw [World.size_setCell];exact h.size,fun k hk hne=>(Below.heap_setCell _ _ _ _ (by simp;omega)).trans (h.block k hk hne)⟩
 have far2:∀ (Y:World) (i:Nat) (v:Value),Scan Y S s n→Scan (Y.setCell ⟨R,i,none⟩ v) S s n:=fun Y i v h=>(Below.heap_setCell _ _ _ _ (by simp;omega)).trans h
 exact ⟨blk_set (blk_set (blk_set hR 0 v0) 1 v1) 2 v2,far _ _ _ (far _ _ _ (far _ _ _ hg)),far2 _ _ _ (far2 _ _ _ (far2 _ _ _ hsc))⟩
set_option maxHeartbeats 1000000 in
theorem next_end (S:Nat) (s:ByteArray) (a:Nat) (w:World) (ha:a≤s.size) (hs:s.size≤2147483648) (hS:Scan w S s a) (hb:skipB s a=s.size) :
  Calls Tryz.prog 88 #[.pointer (some ⟨S,0,none⟩)] w fun e w'=>e=.returned (.tuple #[tokV ⟨-1,⟨#[]⟩,s.size⟩,.bool false])∧w.grownBy w' (some S)∧Scan w' S s s.size:=by
 have hSw:=hS.cells.2.2.2
 have hcall:=fun o=>skip_call S s a s.size w o ha hs hS hb
 clear hb
 go_enter Tryz.func88,Tryz.ntmps88
 go_wp2_with (go_at_call 122;refine (hcall _).mono ?_;rintro e w1 ⟨rfl,hg,hsc⟩;obtain ⟨c0,c1,f1,lt⟩:=hsc.cells;have hR:=(hg.block w.heap.size (by simp;omega) (fun e=>by injection e with e;omega)).trans ((Below.heap_alloc _ _ _ (by simp)).trans (blk_new w _)))
 have cR0:=blk_cell hR 0
 have cR1:=blk_cell hR 1
 have cR2:=blk_cell hR 2
 have fR0:=blk_frozen hR 0
 have fR1:=blk_frozen hR 1
 have fR2:=blk_frozen hR 2
 have hRl:=blk_lt hR
 have HR:=Lib.hid hR
 clear hR
 go_quiet (fail)
 go_wp2
 have hgX:=grown_drew_n (Lib.grownBy_allocR (Lib.grownBy_trans (Lib.grownBy_allocR (World.grownBy_alloc w _ (some S)) _) hg) (.cells #[.int .i64 (-1),.string ⟨#[]⟩,.int .i64 s.size] 47)) nq
 obtain ⟨h1,h2,h3⟩:=next_fin (.int .i64 (-1)) (.string ⟨#[]⟩) (.int .i64 s.size) hgX (blk_drewN ((Below.heap_alloc _ _ _ lt).trans hsc) nq) (blk_drewN ((Below.heap_alloc _ _ _ hRl).trans HR.out) nq) (Nat.le_refl _) hSw
 exact bodyPost_ret (results88 rfl rfl h1) rfl ⟨rfl,h2,h3⟩
theorem word_is (x:ByteArray) (r:Bool) (h:wordB x=r) (w:World):Calls Tryz.prog 106 #[.string x] w fun e w'=>e=.returned (.bool r)∧Below w.heap.size w w':=by rw [← h];exact word_any x w
theorem name_is (x:ByteArray) (r:Bool) (hs:x.size≤9223372036854775807) (h:nameB x=r) (w:World):Calls Tryz.prog 71 #[.string x] w fun e w'=>e=.returned (.bool r)∧Below w.heap.size w w':=by rw [← h];exact name_any x w hs
theorem run_three (S g:Nat) (s:ByteArray) (a:Nat) (w:World) (ha:a≤s.size) (hs:s.size≤9223372036854775807) (hS:Scan w S s a)
  (hg:w.heap[g]?=some (.cells #[.int .i64 2,.int .i64 3,.int .i64 4] 162 (0,0))) (hgS:g≠S) :
  Calls Tryz.prog 122 #[.pointer (some ⟨S,0,none⟩),.slice (some ⟨g,0,none⟩) 3 3] w fun e w' =>
   e=.returned (.string (s.extract a (endName s a)))∧w.grownBy w' (some S)∧Scan w' S s (endName s a) :=
 run_any S g s a ha [2,3,4] 162 w hs (by decide) (by decide) hS hg hgS
structure NextAt (w:World) (S T:Nat) (s:ByteArray) (n:Nat) (t:S47) (W:World):Prop where
 grown:w.grownBy W (some S)
 scan:Scan W S s n
 res:W.heap[w.heap.size]?=some (.cells #[.int .i64 0,.string ⟨#[]⟩,.int .i64 0] 47 (0,0))
 tok:W.heap[T]?=some (.cells #[.int .i64 t.f0,.string t.f1,.int .i64 t.f2] 47 (0,0))
 hT:w.heap.size < T
theorem NextAt.below {w:World} {S T:Nat} {s:ByteArray} {n:Nat} {t:S47} {W W':World} (h:NextAt w S T s n t W) (hb:Below W.heap.size W W'):NextAt w S T s n t W' :=
 ⟨Lib.grownBy_below h.grown hb,bcell hb h.scan,bcell hb h.res,bcell hb h.tok,h.hT⟩
theorem NextAt.alloc {w:World} {S T:Nat} {s:ByteArray} {n:Nat} {t:S47} {W:World} (h:NextAt w S T s n t W) (o:Obj):NextAt w S T s n t (W.alloc o) :=
 h.below ((Below.refl _ _).alloc (Nat.le_refl _) o)
theorem NextAt.drew {w:World} {S T:Nat} {s:ByteArray} {n:Nat} {t:S47} {W:World} (h:NextAt w S T s n t W) (m:Nat):NextAt w S T s n t (W.drewN m) :=
 h.below (pw_below_drewN (Below.refl _ _) m)
theorem NextAt.step {w:World} {S T:Nat} {s:ByteArray} {n n':Nat} {t:S47} {W W':World} (h:NextAt w S T s n t W) (hSw:S < w.heap.size) (hg:W.grownBy W' (some S)) (hs:Scan W' S s n'):NextAt w S T s n' t W' :=
 ⟨Lib.grownBy_trans h.grown hg,hs,(hg.block _ (blk_lt h.res) (fun e=>by injection e with e;omega)).trans h.res,(hg.block _ (blk_lt h.tok) (fun e=>by injection e with e;have:=h.hT;omega)).trans h.tok,h.hT⟩
theorem NextAt.far {w:World} {S T:Nat} {s:ByteArray} {n:Nat} {t:S47} {W:World} (h:NextAt w S T s n t W) (hSw:S < w.heap.size) (i:Nat) (v:Value) (t':S47)
  (ht:(#[.int .i64 t.f0,.string t.f1,.int .i64 t.f2]:Array Value).setIfInBounds i v=#[.int .i64 t'.f0,.string t'.f1,.int .i64 t'.f2]):NextAt w S T s n t' (W.setCell ⟨T,i,none⟩ v):=by
 have hT:=h.hT
 refine ⟨⟨h.grown.os,h.grown.tape,h.grown.output,by rw [World.size_setCell];exact h.grown.size,fun k hk hne=>(Below.heap_setCell _ _ _ _ (by simp;omega)).trans (h.grown.block k hk hne)⟩,(Below.heap_setCell _ _ _ _ (by simp;omega)).trans h.scan,(Below.heap_setCell _ _ _ _ (by simp;omega)).trans h.res,?_,hT⟩
 rw [← ht]
 exact blk_set h.tok i v
theorem NextAt.kind {w:World} {S T:Nat} {s:ByteArray} {n:Nat} {t:S47} {W:World} (h:NextAt w S T s n t W) (hSw:S < w.heap.size) (k:Int):NextAt w S T s n ⟨k,t.f1,t.f2⟩ (W.setCell ⟨T,0,none⟩ (.int .i64 k)):=h.far hSw 0 _ _ rfl
theorem NextAt.text {w:World} {S T:Nat} {s:ByteArray} {n:Nat} {t:S47} {W:World} (h:NextAt w S T s n t W) (hSw:S < w.heap.size) (x:ByteArray):NextAt w S T s n ⟨t.f0,x,t.f2⟩ (W.setCell ⟨T,1,none⟩ (.string x)):=h.far hSw 1 _ _ rfl
theorem NextAt.cells {w:World} {S T:Nat} {s:ByteArray} {n:Nat} {t:S47} {W:World} (h:NextAt w S T s n t W) :
  (W.cell? ⟨T,0,none⟩=some (.int .i64 t.f0)∧W.cell? ⟨T,1,none⟩=some (.string t.f1)∧W.cell? ⟨T,2,none⟩=some (.int .i64 t.f2)) ∧
  (W.frozen? ⟨T,0,none⟩=false∧W.frozen? ⟨T,1,none⟩=false∧W.frozen? ⟨T,2,none⟩=false) ∧
  (W.cell? ⟨w.heap.size,0,none⟩=some (.int .i64 0)∧W.cell? ⟨w.heap.size,1,none⟩=some (.string ⟨#[]⟩)∧W.cell? ⟨w.heap.size,2,none⟩=some (.int .i64 0)) ∧
  (W.frozen? ⟨w.heap.size,0,none⟩=false∧W.frozen? ⟨w.heap.size,1,none⟩=false∧W.frozen? ⟨w.heap.size,2,none⟩=false) ∧
  w.heap.size < W.heap.size∧T < W.heap.size :=
 ⟨⟨blk_cell h.tok 0,blk_cell h.tok 1,blk_cell h.tok 2⟩,⟨blk_frozen h.tok 0,blk_frozen h.tok 1,blk_frozen h.tok 2⟩,⟨blk_cell h.res 0,blk_cell h.res 1,blk_cell h.res 2⟩,⟨blk_frozen h.res 0,blk_frozen h.res 1,blk_frozen h.res 2⟩,blk_lt h.res,blk_lt h.tok⟩
theorem NextAt.fin {w:World} {S T:Nat} {s:ByteArray} {n:Nat} {t:S47} {W:World} (h:NextAt w S T s n t W) (hSw:S < w.heap.size) (v0 v1 v2:Value) :
  (((W.setCell ⟨w.heap.size,0,none⟩ v0).setCell ⟨w.heap.size,1,none⟩ v1).setCell ⟨w.heap.size,2,none⟩ v2).heap[w.heap.size]?=some (.cells #[v0,v1,v2] 47 (0,0)) ∧
   w.grownBy (((W.setCell ⟨w.heap.size,0,none⟩ v0).setCell ⟨w.heap.size,1,none⟩ v1).setCell ⟨w.heap.size,2,none⟩ v2) (some S)∧Scan (((W.setCell ⟨w.heap.size,0,none⟩ v0).setCell ⟨w.heap.size,1,none⟩ v1).setCell ⟨w.heap.size,2,none⟩ v2) S s n :=
 next_fin v0 v1 v2 h.grown h.scan h.res (Nat.le_refl _) hSw
theorem NextAt.start {w:World} {S:Nat} {s:ByteArray} {b:Nat} {w1:World} {o:Obj} (hg:((w.alloc (.cells #[.int .i64 0,.string ⟨#[]⟩,.int .i64 0] 47)).alloc o).grownBy w1 (some S)) (hsc:Scan w1 S s b) (hSw:S < w.heap.size) :
  NextAt w S w1.heap.size s b ⟨-1,⟨#[]⟩,b⟩ (w1.alloc (.cells #[.int .i64 (-1),.string ⟨#[]⟩,.int .i64 b] 47)):=by
 have hR:=(hg.block w.heap.size (by simp;omega) (fun e=>by injection e with e;omega)).trans ((Below.heap_alloc _ _ _ (by simp)).trans (blk_new w _))
 have hlt:=blk_lt hR
 exact ⟨Lib.grownBy_allocR (Lib.grownBy_trans (Lib.grownBy_allocR (World.grownBy_alloc w _ (some S)) _) hg) _,(Below.heap_alloc _ _ _ (blk_lt hsc)).trans hsc,(Below.heap_alloc _ _ _ hlt).trans hR,blk_new _ _,hlt⟩
theorem run_three_x (S g:Nat) (s:ByteArray) (a n:Nat) (x:ByteArray) (w:World) (ha:a≤s.size) (hs:s.size≤9223372036854775807) (hS:Scan w S s a)
  (hg:w.heap[g]?=some (.cells #[.int .i64 2,.int .i64 3,.int .i64 4] 162 (0,0))) (hgS:g≠S) (hn:Hid (endName s a=n)) (hx:Hid (s.extract a n=x)) :
  Calls Tryz.prog 122 #[.pointer (some ⟨S,0,none⟩),.slice (some ⟨g,0,none⟩) 3 3] w fun e w' =>
   e=.returned (.string x)∧w.grownBy w' (some S)∧Scan w' S s n:=by
 have:=run_three S g s a w ha hs hS hg hgS
 rw [hn.out,hx.out] at this
 exact this
set_option maxHeartbeats 2000000 in
theorem next_small (S:Nat) (s:ByteArray) (a b n:Nat) (x:ByteArray) (k:Int) (w:World) (ha:a≤s.size) (hs:s.size≤2147483648) (hS:Scan w S s a) (hb:skipB s a=b) (hbl:b < s.size) (hk:srt (s[b]'hbl).toNat=2)
  (Hn:Hid (endName s b=n)) (Hx:Hid (s.extract b n=x)) (hc:(wordB x=true∧k=1)∨(wordB x=false∧nameB x=true∧k=0)∨(wordB x=false∧nameB x=false∧k=-1)) :
  Calls Tryz.prog 88 #[.pointer (some ⟨S,0,none⟩)] w fun e w'=>e=.returned (.tuple #[tokV ⟨k,x,b⟩,.bool true])∧w.grownBy w' (some S)∧Scan w' S s n:=by
 have hSw:=hS.cells.2.2.2
 have hcall:=fun o=>skip_call S s a b w o ha hs hS hb
 have hsort:∀ w,Calls Tryz.prog 107 #[.int .i32 (s[b]'hbl).toNat] w fun e w'=>e=.returned (.int .i64 2)∧Below w.heap.size w w':=fun w=>by
  have:=sortOf_any (s[b]'hbl).toNat w;rwa [hk] at this
 have hw32:wrap32 ((s[b]'hbl).toNat:Int)=(s[b]'hbl).toNat:=by have:=(s[b]'hbl).toNat_lt;unfold wrap32;omega
 have hne:((b:Int) == (s.size:Int))=false:=by rw [beq_eq_false_iff_ne];omega
 have Hle:x.size≤s.size:=by rw [← Hx.out,ByteArray.size_extract];omega
 clear hb hk
 rcases hc with ⟨hw,rfl⟩ | ⟨hw,hm,rfl⟩ | ⟨hw,hm,rfl⟩
 all_goals
  have hword:=word_is x _ hw
  try have hname:=name_is x _ (by omega) hm
  try clear hm
  clear hw
  go_enter Tryz.func88,Tryz.ntmps88
  go_wp2_with (go_at_call 122;refine (hcall _).mono ?_;rintro e w1 ⟨rfl,hg,hsc⟩;obtain ⟨c0,c1,f1,lt⟩:=hsc.cells;have hN:=NextAt.start hg hsc hSw;have hd1:=Nat.ne_of_gt hN.hT;have hd2:=Nat.ne_of_lt hN.hT)
  go_quiet (fail)
  generalize nq=n0 at *
  go_wp2
  go_quiet (fail)
  generalize nq=n1 at *
  have hN1:=hN.drew (n0+n1)
  go_wp2_with (go_at_call 107;refine (hsort _).mono ?_;rintro e w2 ⟨rfl,hb2⟩;have hN2:=hN1.below hb2)
  refine (run_three_x S _ s b n x _ (by omega) (by omega) (hN2.alloc _).scan (blk_new _ _) (by have:=blk_lt hN2.scan;omega) Hn Hx).mono ?_
  rintro e w3 ⟨rfl,hg3,hs3⟩
  have hN3:=(hN2.alloc _).step hSw hg3 hs3
  obtain ⟨⟨t0,t1,t2⟩,⟨ft0,ft1,ft2⟩,⟨r0,r1,r2⟩,⟨fr0,fr1,fr2⟩,lr,lt3⟩:=hN3.cells
  clear hsort hcall c0 c1 f1 hN hN1 hN2 hg hsc
  go_wp2_with (first
    | (go_at_call 106;refine (hword _).mono ?_;rintro e w4 ⟨rfl,hb4⟩;have hN4:=((hN3.text hSw x).kind hSw 0).below hb4;obtain ⟨⟨t0,t1,t2⟩,⟨ft0,ft1,ft2⟩,⟨r0,r1,r2⟩,⟨fr0,fr1,fr2⟩,lr,lt4⟩:=hN4.cells)
    | (go_at_call 71;refine (hname _).mono ?_;rintro e w5 ⟨rfl,hb5⟩;have hN5:=hN4.below hb5;obtain ⟨⟨t0,t1,t2⟩,⟨ft0,ft1,ft2⟩,⟨r0,r1,r2⟩,⟨fr0,fr1,fr2⟩,lr,lt5⟩:=hN5.cells))
 ·obtain ⟨h1,h2,h3⟩:=(hN4.kind hSw 1).fin hSw (.int .i64 1) (.string x) (.int .i64 b)
  exact bodyPost_ret (results88 rfl rfl h1) rfl ⟨rfl,h2,h3⟩
 ·obtain ⟨h1,h2,h3⟩:=hN5.fin hSw (.int .i64 0) (.string x) (.int .i64 b)
  exact bodyPost_ret (results88 rfl rfl h1) rfl ⟨rfl,h2,h3⟩
 ·obtain ⟨h1,h2,h3⟩:=(hN5.kind hSw (-1)).fin hSw (.int .i64 (-1)) (.string x) (.int .i64 b)
  exact bodyPost_ret (results88 rfl rfl h1) rfl ⟨rfl,h2,h3⟩
end Go.Proofs.YtjaobihcdkjmbaaGreatDoor
end
section
namespace Go.Proofs.YtjaobihcdkjmbaaGreatDoor
open Go.RowKit Go.Proofs.YtjaobihcdkjmbaaGreatDoorW.PrintWords Go.Proofs.YtjaobihcdkjmbaaGreatDoor.PReadTokens
theorem run_one_x (S g:Nat) (s:ByteArray) (a n:Nat) (x:ByteArray) (w:World) (ha:a≤s.size) (hs:s.size≤9223372036854775807) (hS:Scan w S s a)
  (hg:w.heap[g]?=some (.cells #[.int .i64 4] 162 (0,0))) (hgS:g≠S) (hn:Hid (endNum s a=n)) (hx:Hid (s.extract a n=x)) :
  Calls Tryz.prog 122 #[.pointer (some ⟨S,0,none⟩),.slice (some ⟨g,0,none⟩) 1 1] w fun e w' =>
   e=.returned (.string x)∧w.grownBy w' (some S)∧Scan w' S s n:=by
 have:=run_one S g s a 4 rfl 162 w ha hs hS hg hgS
 have e:=hn.out
 unfold endNum at e
 rw [e,hx.out] at this
 exact this
set_option maxHeartbeats 2000000 in
theorem next_digit (S:Nat) (s:ByteArray) (a b n:Nat) (x:ByteArray) (k:Int) (w:World) (ha:a≤s.size) (hs:s.size≤2147483648) (hS:Scan w S s a) (hb:skipB s a=b) (hbl:b < s.size) (hk:srt (s[b]'hbl).toNat=4)
  (Hn:Hid (endNum s b=n)) (Hx:Hid (s.extract b n=x)) (hc:((s[b]'hbl).toNat≠48∧x.size≤400∧k=2)∨((s[b]'hbl).toNat=48∧x.size=1∧k=2)∨((s[b]'hbl).toNat≠48∧400 < x.size∧k=-1)∨((s[b]'hbl).toNat=48∧x.size≠1∧k=-1)) :
  Calls Tryz.prog 88 #[.pointer (some ⟨S,0,none⟩)] w fun e w'=>e=.returned (.tuple #[tokV ⟨k,x,b⟩,.bool true])∧w.grownBy w' (some S)∧Scan w' S s n:=by
 have hSw:=hS.cells.2.2.2
 have hcall:=fun o=>skip_call S s a b w o ha hs hS hb
 have hsort:∀ w,Calls Tryz.prog 107 #[.int .i32 (s[b]'hbl).toNat] w fun e w'=>e=.returned (.int .i64 4)∧Below w.heap.size w w':=fun w=>by
  have:=sortOf_any (s[b]'hbl).toNat w;rwa [hk] at this
 have hw32:wrap32 ((s[b]'hbl).toNat:Int)=(s[b]'hbl).toNat:=by have:=(s[b]'hbl).toNat_lt;unfold wrap32;omega
 have hne:((b:Int) == (s.size:Int))=false:=by rw [beq_eq_false_iff_ne];omega
 have Hle:x.size≤s.size:=by rw [← Hx.out,ByteArray.size_extract];omega
 clear hb hk
 have h48:((s[b]'hbl).toNat≠48→(((s[b]'hbl).toNat:Int) != 48)=true)∧((s[b]'hbl).toNat=48→(((s[b]'hbl).toNat:Int) != 48)=false):=by
  constructor
  ·intro h;rw [bne_iff_ne];omega
  ·intro h;rw [bne_eq_false_iff_eq];omega
 have h1:(x.size=1→((x.size:Int) == 1)=true)∧(x.size≠1→((x.size:Int) == 1)=false):=by
  constructor
  ·intro h;rw [beq_iff_eq];omega
  ·intro h;rw [beq_eq_false_iff_ne];omega
 have hle:(x.size≤400→decide ((x.size:Int)≤400)=true)∧(400 < x.size→decide ((x.size:Int)≤400)=false):=by
  constructor
  ·intro h;rw [decide_eq_true_eq];omega
  ·intro h;rw [decide_eq_false_iff_not];omega
 rcases hc with ⟨hc,hz,rfl⟩ | ⟨hc,hz,rfl⟩ | ⟨hc,hz,rfl⟩ | ⟨hc,hz,rfl⟩
 ·have q1:=h48.1 hc
  have q2:=hle.1 hz
  clear hc hz h48 hle h1
  go_enter Tryz.func88,Tryz.ntmps88
  go_wp2_with (go_at_call 122;refine (hcall _).mono ?_;rintro e w1 ⟨rfl,hg,hsc⟩;obtain ⟨c0,c1,f1,lt⟩:=hsc.cells;have hN:=NextAt.start hg hsc hSw;have hd1:=Nat.ne_of_gt hN.hT;have hd2:=Nat.ne_of_lt hN.hT)
  go_quiet (fail)
  generalize nq=n0 at *
  go_wp2
  go_quiet (fail)
  generalize nq=n1 at *
  have hN1:=hN.drew (n0+n1)
  go_wp2_with (go_at_call 107;refine (hsort _).mono ?_;rintro e w2 ⟨rfl,hb2⟩;have hN2:=hN1.below hb2)
  refine (run_one_x S _ s b n x _ (by omega) (by omega) (hN2.alloc _).scan (blk_new _ _) (by have:=blk_lt hN2.scan;omega) Hn Hx).mono ?_
  rintro e w3 ⟨rfl,hg3,hs3⟩
  have hN3:=(hN2.alloc _).step hSw hg3 hs3
  obtain ⟨⟨t0,t1,t2⟩,⟨ft0,ft1,ft2⟩,⟨r0,r1,r2⟩,⟨fr0,fr1,fr2⟩,lr,lt3⟩:=hN3.cells
  clear hsort hcall c0 c1 f1 hN hN1 hN2 hg hsc
  go_wp2
  obtain ⟨h1,h2,h3⟩:=((hN3.text hSw x).kind hSw 2).fin hSw (.int .i64 2) (.string x) (.int .i64 b)
  exact bodyPost_ret (results88 rfl rfl h1) rfl ⟨rfl,h2,h3⟩
 ·have q1:=h48.2 hc
  have q3:=h1.1 hz
  have q2:=hle.1 (by omega)
  clear hc hz h48 hle h1
  go_enter Tryz.func88,Tryz.ntmps88
  go_wp2_with (go_at_call 122;refine (hcall _).mono ?_;rintro e w1 ⟨rfl,hg,hsc⟩;obtain ⟨c0,c1,f1,lt⟩:=hsc.cells;have hN:=NextAt.start hg hsc hSw;have hd1:=Nat.ne_of_gt hN.hT;have hd2:=Nat.ne_of_lt hN.hT)
  go_quiet (fail)
  generalize nq=n0 at *
  go_wp2
  go_quiet (fail)
  generalize nq=n1 at *
  have hN1:=hN.drew (n0+n1)
  go_wp2_with (go_at_call 107;refine (hsort _).mono ?_;rintro e w2 ⟨rfl,hb2⟩;have hN2:=hN1.below hb2)
  refine (run_one_x S _ s b n x _ (by omega) (by omega) (hN2.alloc _).scan (blk_new _ _) (by have:=blk_lt hN2.scan;omega) Hn Hx).mono ?_
  rintro e w3 ⟨rfl,hg3,hs3⟩
  have hN3:=(hN2.alloc _).step hSw hg3 hs3
  obtain ⟨⟨t0,t1,t2⟩,⟨ft0,ft1,ft2⟩,⟨r0,r1,r2⟩,⟨fr0,fr1,fr2⟩,lr,lt3⟩:=hN3.cells
  clear hsort hcall c0 c1 f1 hN hN1 hN2 hg hsc
  go_wp2
  obtain ⟨h1,h2,h3⟩:=((hN3.text hSw x).kind hSw 2).fin hSw (.int .i64 2) (.string x) (.int .i64 b)
  exact bodyPost_ret (results88 rfl rfl h1) rfl ⟨rfl,h2,h3⟩
 ·have q1:=h48.1 hc
  have q2:=hle.2 hz
  clear hc hz h48 hle h1
  go_enter Tryz.func88,Tryz.ntmps88
  go_wp2_with (go_at_call 122;refine (hcall _).mono ?_;rintro e w1 ⟨rfl,hg,hsc⟩;obtain ⟨c0,c1,f1,lt⟩:=hsc.cells;have hN:=NextAt.start hg hsc hSw;have hd1:=Nat.ne_of_gt hN.hT;have hd2:=Nat.ne_of_lt hN.hT)
  go_quiet (fail)
  generalize nq=n0 at *
  go_wp2
  go_quiet (fail)
  generalize nq=n1 at *
  have hN1:=hN.drew (n0+n1)
  go_wp2_with (go_at_call 107;refine (hsort _).mono ?_;rintro e w2 ⟨rfl,hb2⟩;have hN2:=hN1.below hb2)
  refine (run_one_x S _ s b n x _ (by omega) (by omega) (hN2.alloc _).scan (blk_new _ _) (by have:=blk_lt hN2.scan;omega) Hn Hx).mono ?_
  rintro e w3 ⟨rfl,hg3,hs3⟩
  have hN3:=(hN2.alloc _).step hSw hg3 hs3
  obtain ⟨⟨t0,t1,t2⟩,⟨ft0,ft1,ft2⟩,⟨r0,r1,r2⟩,⟨fr0,fr1,fr2⟩,lr,lt3⟩:=hN3.cells
  clear hsort hcall c0 c1 f1 hN hN1 hN2 hg hsc
  go_wp2
  obtain ⟨h1,h2,h3⟩:=(hN3.text hSw x).fin hSw (.int .i64 (-1)) (.string x) (.int .i64 b)
  exact bodyPost_ret (results88 rfl rfl h1) rfl ⟨rfl,h2,h3⟩
 ·have q1:=h48.2 hc
  have q3:=h1.2 hz
  clear hc hz h48 hle h1
  go_enter Tryz.func88,Tryz.ntmps88
  go_wp2_with (go_at_call 122;refine (hcall _).mono ?_;rintro e w1 ⟨rfl,hg,hsc⟩;obtain ⟨c0,c1,f1,lt⟩:=hsc.cells;have hN:=NextAt.start hg hsc hSw;have hd1:=Nat.ne_of_gt hN.hT;have hd2:=Nat.ne_of_lt hN.hT)
  go_quiet (fail)
  generalize nq=n0 at *
  go_wp2
  go_quiet (fail)
  generalize nq=n1 at *
  have hN1:=hN.drew (n0+n1)
  go_wp2_with (go_at_call 107;refine (hsort _).mono ?_;rintro e w2 ⟨rfl,hb2⟩;have hN2:=hN1.below hb2)
  refine (run_one_x S _ s b n x _ (by omega) (by omega) (hN2.alloc _).scan (blk_new _ _) (by have:=blk_lt hN2.scan;omega) Hn Hx).mono ?_
  rintro e w3 ⟨rfl,hg3,hs3⟩
  have hN3:=(hN2.alloc _).step hSw hg3 hs3
  obtain ⟨⟨t0,t1,t2⟩,⟨ft0,ft1,ft2⟩,⟨r0,r1,r2⟩,⟨fr0,fr1,fr2⟩,lr,lt3⟩:=hN3.cells
  clear hsort hcall c0 c1 f1 hN hN1 hN2 hg hsc
  go_wp2
  obtain ⟨h1,h2,h3⟩:=(hN3.text hSw x).fin hSw (.int .i64 (-1)) (.string x) (.int .i64 b)
  exact bodyPost_ret (results88 rfl rfl h1) rfl ⟨rfl,h2,h3⟩
theorem NextAt.at_ {w:World} {S T:Nat} {s:ByteArray} {n:Nat} {t:S47} {W:World} (h:NextAt w S T s n t W) (hSw:S < w.heap.size) (n':Nat):NextAt w S T s n' t (W.setCell ⟨S,1,none⟩ (.int .i64 n')) :=
 h.step hSw (Lib.grownBy_setCell _ _ _ _) (blk_set h.scan 1 _)
theorem encode_ascii (c:UInt8) (h:c.toNat < 128):Utf8.encode (c.toNat:Int)=⟨#[c]⟩:=by
 have hv:Utf8.valid (c.toNat:Int)=true:=by
  unfold Utf8.valid
  simp
  omega
 simp only [Utf8.encode,hv,if_true,Int.toNat_natCast,if_pos h,UInt8.ofNat_toNat]
theorem mark_small {c:Nat} (h:srt c=5):c < 128:=by
 rcases Nat.lt_or_ge c 128 with h1 | h1
 ·exact h1
 ·rw [srt_high _ (by omega)] at h;cases h
set_option maxHeartbeats 2000000 in
theorem next_mark (S:Nat) (s:ByteArray) (a b:Nat) (w:World) (ha:a≤s.size) (hs:s.size≤2147483648) (hS:Scan w S s a) (hb:skipB s a=b) (hbl:b < s.size) (hk:srt (s[b]'hbl).toNat=5) :
  Calls Tryz.prog 88 #[.pointer (some ⟨S,0,none⟩)] w fun e w'=>e=.returned (.tuple #[tokV ⟨4,⟨#[s[b]'hbl]⟩,b⟩,.bool true])∧w.grownBy w' (some S)∧Scan w' S s (b+1):=by
 have hSw:=hS.cells.2.2.2
 have hcall:=fun o=>skip_call S s a b w o ha hs hS hb
 have hsort:∀ w,Calls Tryz.prog 107 #[.int .i32 (s[b]'hbl).toNat] w fun e w'=>e=.returned (.int .i64 5)∧Below w.heap.size w w':=fun w=>by
  have:=sortOf_any (s[b]'hbl).toNat w;rwa [hk] at this
 have hw32:wrap32 ((s[b]'hbl).toNat:Int)=(s[b]'hbl).toNat:=by have:=(s[b]'hbl).toNat_lt;unfold wrap32;omega
 have hne:((b:Int) == (s.size:Int))=false:=by rw [beq_eq_false_iff_ne];omega
 have Henc:=Lib.hid (encode_ascii (s[b]'hbl) (mark_small hk))
 clear hb hk
 go_enter Tryz.func88,Tryz.ntmps88
 go_wp2_with (go_at_call 122;refine (hcall _).mono ?_;rintro e w1 ⟨rfl,hg,hsc⟩;obtain ⟨c0,c1,f1,lt⟩:=hsc.cells;have hN:=NextAt.start hg hsc hSw;have hd1:=Nat.ne_of_gt hN.hT;have hd2:=Nat.ne_of_lt hN.hT)
 go_quiet (fail)
 generalize nq=n0 at *
 go_wp2
 go_quiet (fail)
 generalize nq=n1 at *
 have hN1:=hN.drew (n0+n1)
 go_wp2_with (go_at_call 107;refine (hsort _).mono ?_;rintro e w2 ⟨rfl,hb2⟩;have hN2:=hN1.below hb2;obtain ⟨⟨t0,t1,t2⟩,⟨ft0,ft1,ft2⟩,⟨r0,r1,r2⟩,⟨fr0,fr1,fr2⟩,lr,lt3⟩:=hN2.cells;obtain ⟨c0,c1,f1,lt⟩:=hN2.scan.cells)
 have hN3:=(((hN2.kind hSw 4).text hSw (Utf8.encode ((s[b]'hbl).toNat:Int))).at_ hSw (b+1))
 rw [show (((b+1:Nat)):Int)=(b:Int)+1 by omega] at hN3
 obtain ⟨h1,h2,h3⟩:=hN3.fin hSw (.int .i64 4) (.string (Utf8.encode ((s[b]'hbl).toNat:Int))) (.int .i64 b)
 exact bodyPost_ret (results88 rfl rfl h1) rfl ⟨by rw [Henc.out];rfl,h2,h3⟩
theorem trim_q (x r:ByteArray) (h:strings_TrimPrefix.f x ⟨#[123]⟩=some r) (w:World):Calls Tryz.prog 124 #[.string x,.string ⟨#[123]⟩] w fun e w'=>e=.returned (.string r)∧∃ n,w'=w.drewN n :=
 (strings_TrimPrefix.calls x _ r w h).mono fun _ _ ⟨h1,h2⟩=>⟨h1,h2.out⟩
theorem unit_is (x:ByteArray) (r:Bool) (hs:x.size < 9223372036854775807) (h:unitB x=r) (w:World):Calls Tryz.prog 125 #[.string x] w fun e w'=>e=.returned (.bool r)∧Below w.heap.size w w':=by rw [← h];exact unit_any x hs w
set_option maxHeartbeats 2000000 in
theorem next_other (S:Nat) (s:ByteArray) (a b:Nat) (r i o:ByteArray) (f:Bool) (w:World) (ha:a≤s.size) (hs:s.size≤2147483648) (hS:Scan w S s a) (hb:skipB s a=b) (hbl:b < s.size) (k:Int) (hk:srt (s[b]'hbl).toNat=k) (hk2:(k == 2)=false) (hk4:(k == 4)=false) (hk5:(k == 5)=false)
  (ht:strings_TrimPrefix.f (s.extract b s.size) ⟨#[123]⟩=some r) (hi:i.size≤s.size)
  (hcut:∀ w,Calls Tryz.prog 123 #[.string r,.string ⟨#[125]⟩] w fun e w'=>e=.returned (.tuple #[.string i,.string o,.bool f])∧∃ n,w'=w.drewN n) (t:S47) (n:Nat)
  (hc:((s[b]'hbl).toNat≠123∧t=⟨-1,⟨#[]⟩,b⟩∧n=b)∨((s[b]'hbl).toNat=123∧f=false∧t=⟨-1,⟨#[]⟩,b⟩∧n=b)∨((s[b]'hbl).toNat=123∧f=true∧unitB i=false∧t=⟨-1,⟨#[]⟩,b⟩∧n=b) ∨
   ((s[b]'hbl).toNat=123∧f=true∧unitB i=true∧t=⟨3,i,b⟩∧n=b+(i.size+2))) :
  Calls Tryz.prog 88 #[.pointer (some ⟨S,0,none⟩)] w fun e w'=>e=.returned (.tuple #[tokV t,.bool true])∧w.grownBy w' (some S)∧Scan w' S s n:=by
 have hSw:=hS.cells.2.2.2
 have hcall:=fun o=>skip_call S s a b w o ha hs hS hb
 have hsort:∀ w,Calls Tryz.prog 107 #[.int .i32 (s[b]'hbl).toNat] w fun e w'=>e=.returned (.int .i64 k)∧Below w.heap.size w w':=fun w=>by
  have:=sortOf_any (s[b]'hbl).toNat w;rwa [hk] at this
 have htrim:=trim_q _ _ ht
 have hw32:wrap32 ((s[b]'hbl).toNat:Int)=(s[b]'hbl).toNat:=by have:=(s[b]'hbl).toNat_lt;unfold wrap32;omega
 have hne:((b:Int) == (s.size:Int))=false:=by rw [beq_eq_false_iff_ne];omega
 have h123:((s[b]'hbl).toNat≠123→(((s[b]'hbl).toNat:Int) == 123)=false)∧((s[b]'hbl).toNat=123→(((s[b]'hbl).toNat:Int) == 123)=true):=by
  constructor
  ·intro h;rw [beq_eq_false_iff_ne];omega
  ·intro h;rw [beq_iff_eq];omega
 clear hb hk ht
 rcases hc with ⟨hc,rfl,rfl⟩ | ⟨hc,rfl,rfl,rfl⟩ | ⟨hc,rfl,hu,rfl,rfl⟩ | ⟨hc,rfl,hu,rfl,rfl⟩
 all_goals
  first
   | have q1:=h123.1 hc
   | have q1:=h123.2 hc
  try have hunit:=unit_is i _ (by omega) hu
  try clear hu
  clear hc h123
  go_enter Tryz.func88,Tryz.ntmps88
  go_wp2_with (go_at_call 122;refine (hcall _).mono ?_;rintro e w1 ⟨rfl,hg,hsc⟩;obtain ⟨c0,c1,f1,lt⟩:=hsc.cells;have hN:=NextAt.start hg hsc hSw;have hd1:=Nat.ne_of_gt hN.hT;have hd2:=Nat.ne_of_lt hN.hT)
  go_quiet (fail)
  generalize nq=n0 at *
  go_wp2
  go_quiet (fail)
  generalize nq=n1 at *
  have hN1:=hN.drew (n0+n1)
  go_wp2_with (go_at_call 107;refine (hsort _).mono ?_;rintro e w2 ⟨rfl,hb2⟩;have hN2:=hN1.below hb2;obtain ⟨⟨t0,t1,t2⟩,⟨ft0,ft1,ft2⟩,⟨r0,r1,r2⟩,⟨fr0,fr1,fr2⟩,lr,lt3⟩:=hN2.cells;obtain ⟨c0,c1,f1,lt⟩:=hN2.scan.cells)
  go_quiet ((first | (go_at_call 124;exact Calls.quiet_of (htrim _)) | (go_at_call 123;exact Calls.quiet_of (hcut _))))
  generalize nq=n2 at *
  have hN3:=hN2.drew n2
  clear hsort hcall hN hN1 hN2 hg hsc htrim hcut
 ·go_wp2
  obtain ⟨h1,h2,h3⟩:=hN3.fin hSw (.int .i64 (-1)) (.string ⟨#[]⟩) (.int .i64 n)
  exact bodyPost_ret (results88 rfl rfl h1) rfl ⟨rfl,h2,h3⟩
 ·go_wp2
  obtain ⟨h1,h2,h3⟩:=hN3.fin hSw (.int .i64 (-1)) (.string ⟨#[]⟩) (.int .i64 n)
  exact bodyPost_ret (results88 rfl rfl h1) rfl ⟨rfl,h2,h3⟩
 ·go_wp2_with (go_at_call 125;refine (hunit _).mono ?_;rintro e w4 ⟨rfl,hb4⟩;have hN4:=hN3.below hb4;obtain ⟨⟨t0,t1,t2⟩,⟨ft0,ft1,ft2⟩,⟨r0,r1,r2⟩,⟨fr0,fr1,fr2⟩,lr,lt4⟩:=hN4.cells)
  obtain ⟨h1,h2,h3⟩:=hN4.fin hSw (.int .i64 (-1)) (.string ⟨#[]⟩) (.int .i64 n)
  exact bodyPost_ret (results88 rfl rfl h1) rfl ⟨rfl,h2,h3⟩
 ·go_wp2_with (go_at_call 125;refine (hunit _).mono ?_;rintro e w4 ⟨rfl,hb4⟩;have hN4:=hN3.below hb4;obtain ⟨⟨t0,t1,t2⟩,⟨ft0,ft1,ft2⟩,⟨r0,r1,r2⟩,⟨fr0,fr1,fr2⟩,lr,lt4⟩:=hN4.cells;obtain ⟨c0,c1,f1,lt⟩:=hN4.scan.cells)
  have hN5:=((hN4.kind hSw 3).text hSw i).at_ hSw (b+(i.size+2))
  rw [show (((b+(i.size+2):Nat)):Int)=(b:Int)+((i.size:Int)+2) by omega] at hN5
  obtain ⟨h1,h2,h3⟩:=hN5.fin hSw (.int .i64 3) (.string i) (.int .i64 b)
  exact bodyPost_ret (results88 rfl rfl h1) rfl ⟨rfl,h2,h3⟩
end Go.Proofs.YtjaobihcdkjmbaaGreatDoor
end
section
namespace Go.Proofs.YtjaobihcdkjmbaaGreatDoor
open Go.RowKit Go.Proofs.YtjaobihcdkjmbaaGreatDoorW.PrintWords Go.Proofs.YtjaobihcdkjmbaaGreatDoor.PReadTokens
def brk (l:List UInt8):Nat:=(l.takeWhile (fun c=>c != 125)).length
def closeAt (s:ByteArray) (b:Nat):Nat:=b+1+brk (bytesAt s (b+1))
def nameKind (x:ByteArray):Int:=if wordB x then 1 else if nameB x then 0 else -1
def numKind (c:Nat) (x:ByteArray):Int:=if (c≠48∨x.size=1)∧x.size≤400 then 2 else -1
def tokAt (s:ByteArray) (b:Nat):S47 × Nat :=
 if h:b < s.size then
  if srt (s[b]'h).toNat=2 then (⟨nameKind (s.extract b (endName s b)),s.extract b (endName s b),b⟩,endName s b)
  else if srt (s[b]'h).toNat=4 then (⟨numKind (s[b]'h).toNat (s.extract b (endNum s b)),s.extract b (endNum s b),b⟩,endNum s b)
  else if srt (s[b]'h).toNat=5 then (⟨4,⟨#[s[b]'h]⟩,b⟩,b+1)
  else if (s[b]'h).toNat=123∧closeAt s b < s.size∧unitB (s.extract (b+1) (closeAt s b))=true then (⟨3,s.extract (b+1) (closeAt s b),b⟩,closeAt s b+1)
  else (⟨-1,⟨#[]⟩,b⟩,b)
 else (⟨-1,⟨#[]⟩,b⟩,b)
theorem indexByte_brk (l:List UInt8):Lib.indexByte l 125=if brk l < l.length then (brk l:Int) else -1:=by
 induction l with
 | nil=>rfl
 | cons c l ih =>
  unfold brk at ih ⊢
  unfold Lib.indexByte
  rw [ih]
  by_cases h:c=125
  ·subst h;simp
  ·have hc:(c == 125)=false:=by simpa using h
   have hc':(c != 125)=true:=by simpa using h
   rw [hc,List.takeWhile_cons,hc']
   simp only [Bool.false_eq_true,if_false,if_true,List.length_cons]
   generalize (l.takeWhile (fun c=>c != 125)).length=T
   by_cases hl:T < l.length
   ·rw [if_pos hl,if_pos (show T+1 < l.length+1 by omega),if_neg (show ¬ (((T:Int) == -1)=true) by rw [beq_iff_eq];omega)];omega
   ·rw [if_neg hl,if_neg (show ¬ T+1 < l.length+1 by omega)];rfl
theorem extract_bytes (s:ByteArray) (a:Nat):(s.extract a s.size).data.toList=bytesAt s a:=by
 rw [Lib.extract_data];exact List.take_of_length_le (by simp)
theorem trim_brace (s:ByteArray) (b:Nat) (h:b < s.size):strings_TrimPrefix.f (s.extract b s.size) ⟨#[123]⟩=some (if (s[b]'h).toNat=123 then s.extract (b+1) s.size else s.extract b s.size):=by
 have hsz:(s.extract b s.size).size=s.size - b:=by simp
 have h1:((⟨#[123]⟩:ByteArray).size:Int)=1:=rfl
 have hx:((s.extract b s.size).extract 0 1).toList=[s[b]'h]:=by
  rw [ByteArray.toList_eq,Lib.extract_data,extract_bytes,List.drop_zero]
  unfold bytesAt
  rw [List.drop_eq_getElem_cons (show b < s.data.toList.length from h)]
  rfl
 unfold strings_TrimPrefix.f stringslite_TrimPrefix.f stringslite_HasPrefix.f
 rw [h1,hsz,if_pos (by omega),if_pos (by omega),if_pos (by omega)]
 rw [show ((1:Int):Int).toNat=1 from rfl,hx]
 simp only [Option.bind_some]
 have e2:(⟨#[123]⟩:ByteArray).toList=[123]:=by rw [ByteArray.toList_eq]
 rw [e2]
 by_cases hc:(s[b]'h).toNat=123
 ·have hc':s[b]'h=123:=UInt8.toNat_inj.1 hc
  rw [if_pos hc,hc',if_pos (by rfl),if_pos (by omega),if_pos (by omega),Option.bind_some]
  congr 1
  apply ByteArray.ext
  apply Array.toList_inj.1
  have hs1:(s.extract b s.size).size - 1=s.size - b - 1:=by rw [hsz]
  rw [Lib.extract_data,extract_bytes,← hsz]
  rw [show (s.extract (b+1) s.size).data.toList=bytesAt s (b+1) from extract_bytes s (b+1)]
  unfold bytesAt
  rw [List.drop_drop,List.take_of_length_le (by rw [List.length_drop,hs1];have:s.data.toList.length=s.size:=rfl;omega)]
 ·rw [if_neg hc,if_neg (by intro h2;apply hc;rw [beq_iff_eq,List.cons.injEq] at h2;rw [h2.1];rfl)]
  rfl
theorem next_unit (S:Nat) (s:ByteArray) (a b:Nat) (w:World) (ha:a≤s.size) (hs:s.size≤2147483648) (hS:Scan w S s a) (hb:skipB s a=b) (hbl:b < s.size)
  (k:Int) (hk:srt (s[b]'hbl).toNat=k) (hk2:(k == 2)=false) (hk4:(k == 4)=false) (hk5:(k == 5)=false) :
  Calls Tryz.prog 88 #[.pointer (some ⟨S,0,none⟩)] w fun e w'=>e=.returned (.tuple #[tokV (tokAt s b).1,.bool true])∧w.grownBy w' (some S)∧Scan w' S s (tokAt s b).2:=by
 have ht:=trim_brace s b hbl
 have n2:¬ srt (s[b]'hbl).toNat=2:=by rw [hk];exact beq_eq_false_iff_ne.1 hk2
 have n4:¬ srt (s[b]'hbl).toNat=4:=by rw [hk];exact beq_eq_false_iff_ne.1 hk4
 have n5:¬ srt (s[b]'hbl).toNat=5:=by rw [hk];exact beq_eq_false_iff_ne.1 hk5
 have hT:tokAt s b=if (s[b]'hbl).toNat=123∧closeAt s b < s.size∧unitB (s.extract (b+1) (closeAt s b))=true then (⟨3,s.extract (b+1) (closeAt s b),b⟩,closeAt s b+1) else (⟨-1,⟨#[]⟩,b⟩,b):=by
  unfold tokAt
  rw [dif_pos hbl,if_neg n2,if_neg n4,if_neg n5]
 have cutv:∀ r:ByteArray,r.size≤s.size→∃ (i o:ByteArray) (f:Bool),i.size≤s.size∧(∀ w,Calls Tryz.prog 123 #[.string r,.string ⟨#[125]⟩] w fun e w'=>e=.returned (.tuple #[.string i,.string o,.bool f])∧∃ n,w'=w.drewN n) ∧
   f=decide (brk r.data.toList < r.size)∧(f=true→i=r.extract 0 (brk r.data.toList)):=by
  intro r hr
  have hx:=indexByte_brk r.data.toList
  by_cases hl:brk r.data.toList < r.size
  ·rw [if_pos (show brk r.data.toList < r.data.toList.length from hl)] at hx
   exact ⟨_,_,true,by rw [ByteArray.size_extract];omega,fun w=>cut_some r 125 _ w (by omega) hx hl,by simp [hl],fun _=>rfl⟩
  ·rw [if_neg (show ¬ brk r.data.toList < r.data.toList.length from hl)] at hx
   exact ⟨_,_,false,hr,fun w=>cut_none r 125 w hx,by simp [hl],fun h=>by cases h⟩
 by_cases hc:(s[b]'hbl).toNat=123
 ·rw [if_pos hc] at ht
  obtain ⟨i,o,f,hi,hcut,hf,hfi⟩:=cutv (s.extract (b+1) s.size) (by rw [ByteArray.size_extract];omega)
  rw [extract_bytes] at hf hfi
  have hsz:(s.extract (b+1) s.size).size=s.size - (b+1):=by simp
  rw [hsz] at hf
  by_cases hl:closeAt s b < s.size
  ·have hf':f=true:=by rw [hf];unfold closeAt at hl;simp;omega
   have hie:i=s.extract (b+1) (closeAt s b):=by
    rw [hfi hf',ByteArray.extract_extract]
    unfold closeAt
    congr 1
    unfold closeAt at hl
    omega
   cases hu:unitB i
   ·rw [hT,if_neg (by rw [← hie,hu];simp)]
    exact next_other S s a b _ i o f w ha hs hS hb hbl k hk hk2 hk4 hk5 ht hi hcut _ _ (.inr (.inr (.inl ⟨hc,hf',hu,rfl,rfl⟩)))
   ·rw [hT,if_pos ⟨hc,hl,by rw [← hie];exact hu⟩,← hie]
    refine next_other S s a b _ i o f w ha hs hS hb hbl k hk hk2 hk4 hk5 ht hi hcut _ _ (.inr (.inr (.inr ⟨hc,hf',hu,rfl,?_⟩)))
    have:i.size=closeAt s b - (b+1):=by rw [hie,ByteArray.size_extract];omega
    unfold closeAt at this ⊢
    omega
  ·have hf':f=false:=by rw [hf];unfold closeAt at hl;simp;omega
   rw [hT,if_neg (by simp [hl])]
   exact next_other S s a b _ i o f w ha hs hS hb hbl k hk hk2 hk4 hk5 ht hi hcut _ _ (.inr (.inl ⟨hc,hf',rfl,rfl⟩))
 ·rw [if_neg hc] at ht
  obtain ⟨i,o,f,hi,hcut,_,_⟩:=cutv (s.extract b s.size) (by rw [ByteArray.size_extract];omega)
  rw [hT,if_neg (by simp [hc])]
  exact next_other S s a b _ i o f w ha hs hS hb hbl k hk hk2 hk4 hk5 ht hi hcut _ _ (.inl ⟨hc,rfl,rfl⟩)
theorem next_any (S:Nat) (s:ByteArray) (a:Nat) (w:World) (ha:a≤s.size) (hs:s.size≤2147483648) (hS:Scan w S s a) :
  Calls Tryz.prog 88 #[.pointer (some ⟨S,0,none⟩)] w fun e w'=>e=.returned (.tuple #[tokV (tokAt s (skipB s a)).1,.bool (decide (skipB s a < s.size))])∧w.grownBy w' (some S)∧Scan w' S s (tokAt s (skipB s a)).2:=by
 have hle:skipB s a≤s.size:=run_le [1] s a ha
 by_cases hbl:skipB s a < s.size
 ·rw [decide_eq_true hbl]
  by_cases h2:srt (s[skipB s a]'hbl).toNat=2
  ·have hT:tokAt s (skipB s a)=(⟨nameKind (s.extract (skipB s a) (endName s (skipB s a))),s.extract (skipB s a) (endName s (skipB s a)),skipB s a⟩,endName s (skipB s a)):=by
    unfold tokAt;rw [dif_pos hbl,if_pos h2]
   rw [hT]
   refine next_small S s a _ _ _ _ w ha hs hS rfl hbl h2 rfl rfl ?_
   unfold nameKind
   cases wordB (s.extract (skipB s a) (endName s (skipB s a))) <;> cases nameB (s.extract (skipB s a) (endName s (skipB s a))) <;> simp
  ·by_cases h4:srt (s[skipB s a]'hbl).toNat=4
   ·have hT:tokAt s (skipB s a)=(⟨numKind (s[skipB s a]'hbl).toNat (s.extract (skipB s a) (endNum s (skipB s a))),s.extract (skipB s a) (endNum s (skipB s a)),skipB s a⟩,endNum s (skipB s a)):=by
     unfold tokAt;rw [dif_pos hbl,if_neg h2,if_pos h4]
    rw [hT]
    refine next_digit S s a _ _ _ _ w ha hs hS rfl hbl h4 rfl rfl ?_
    generalize s.extract (skipB s a) (endNum s (skipB s a))=x
    generalize (s[skipB s a]'hbl).toNat=c
    unfold numKind
    by_cases hc:c=48
    ·by_cases hx:x.size=1
     ·exact .inr (.inl ⟨hc,hx,by rw [if_pos (by omega)]⟩)
     ·exact .inr (.inr (.inr ⟨hc,hx,by rw [if_neg (by omega)]⟩))
    ·by_cases hx:x.size≤400
     ·exact .inl ⟨hc,hx,by rw [if_pos (by omega)]⟩
     ·exact .inr (.inr (.inl ⟨hc,by omega,by rw [if_neg (by omega)]⟩))
   ·by_cases h5:srt (s[skipB s a]'hbl).toNat=5
    ·have hT:tokAt s (skipB s a)=(⟨4,⟨#[s[skipB s a]'hbl]⟩,skipB s a⟩,skipB s a+1):=by
      unfold tokAt;rw [dif_pos hbl,if_neg h2,if_neg h4,if_pos h5]
     rw [hT]
     exact next_mark S s a _ w ha hs hS rfl hbl h5
    ·exact next_unit S s a _ w ha hs hS rfl hbl _ rfl (beq_eq_false_iff_ne.2 h2) (beq_eq_false_iff_ne.2 h4) (beq_eq_false_iff_ne.2 h5)
 ·have he:skipB s a=s.size:=by omega
  have hT:tokAt s (skipB s a)=(⟨-1,⟨#[]⟩,skipB s a⟩,skipB s a):=by unfold tokAt;rw [dif_neg hbl]
  rw [decide_eq_false hbl,hT,he]
  exact next_end S s a w ha hs hS he
end Go.Proofs.YtjaobihcdkjmbaaGreatDoor
end
section
namespace Go.Proofs.YtjaobihcdkjmbaaGreatDoor
open Go.RowKit Go.Proofs.YtjaobihcdkjmbaaGreatDoorW.PrintWords Go.Proofs.YtjaobihcdkjmbaaGreatDoor.PReadTokens
def toksF:Nat→ByteArray→Nat→List S47
 | 0,_,_=>[]
 | n+1,s,a=>if skipB s a < s.size then (if (tokAt s (skipB s a)).1.f0=-1 then [(tokAt s (skipB s a)).1] else (tokAt s (skipB s a)).1 :: toksF n s (tokAt s (skipB s a)).2) else []
theorem runLen_pos {ks:List Int} {s:ByteArray} {b:Nat} (h:b < s.size) (hk:ks.contains (srt (s[b]'h).toNat)=true):1≤runLen ks (bytesAt s b):=by
 unfold bytesAt runLen
 rw [List.drop_eq_getElem_cons (show b < s.data.toList.length from h),List.takeWhile_cons]
 have:okC ks (s.data.toList[b]'(show b < s.data.toList.length from h))=true:=hk
 rw [if_pos this,List.length_cons]
 omega
theorem tokAt_more (s:ByteArray) (b:Nat) (h:b < s.size) (hk:(tokAt s b).1.f0≠-1):b < (tokAt s b).2∧(tokAt s b).2≤s.size:=by
 unfold tokAt at hk ⊢
 rw [dif_pos h] at hk ⊢
 split
 ·rename_i h2
  have h1:=runLen_pos (ks:=[2,3,4]) h (by rw [h2];rfl)
  have h3:=run_le [2,3,4] s b (by omega)
  unfold endName
  exact ⟨by omega,h3⟩
 ·split
  ·rename_i h4
   have h1:=runLen_pos (ks:=[4]) h (by rw [h4];rfl)
   have h3:=run_le [4] s b (by omega)
   unfold endNum
   exact ⟨by omega,h3⟩
  ·split
   ·exact ⟨by simp only;omega,h⟩
   ·split
    ·rename_i h6
     unfold closeAt at h6 ⊢
     exact ⟨by simp only;omega,by simp only;omega⟩
    ·rename_i h2 h4 h5 h6
     rw [if_neg h2,if_neg h4,if_neg h5,if_neg h6] at hk
     exact absurd rfl hk
theorem wide_depth {p:Prop} (h:Fence.wide.depth.isSome=true):p:=by simp [Fence.wide] at h
set_option maxRecDepth 100000 in
set_option maxHeartbeats 2000000 in
theorem tokens1_in (n l:Nat) (box:Addr) (s:ByteArray) (hs:s.size≤2147483648) (J Jx:List S47→World→Prop) (W:World) (hbox:W.cell? box=some (.string s))
  (hJ:∀ pre A B,J pre A→A.grownBy B (some W.heap.size)→J pre B) (hJx:∀ pre A B,Jx pre A→A.grownBy B (some W.heap.size)→Jx pre B)
  (hY:∀ pre t A,J pre A→(∃ rest,toksF (s.size+1) s 0=pre++t :: rest)→W.heap.size < A.heap.size →
   YieldAt Fence.wide (n - 1) Tryz.prog l #[tokV t] (A.alloc (.cells #[.int .i64 t.f0,.string t.f1,.int .i64 t.f2] 47)) fun e B =>
    (e=.returned (.bool true)∧J (pre++[t]) B∧B.heap[W.heap.size]?=A.heap[W.heap.size]?∧B.heap[A.heap.size]?=some (.cells #[.int .i64 t.f0,.string t.f1,.int .i64 t.f2] 47 (0,0))) ∨
    (e=.returned (.bool false)∧Jx (pre++[t]) B))
  (h0:J [] W) :
  CallsIn Fence.wide n Tryz.prog 87 #[.func (.yield l) #[] #[],.pointer (some box)] W fun e W'=>e=.returned (.tuple #[])∧(J (toksF (s.size+1) s 0) W'∨∃ pre rest,toksF (s.size+1) s 0=pre++rest∧Jx pre W'):=by
 have H0:=Lib.hid h0
 clear h0
 have hD:Fence.wide.depth.isSome=false:=rfl
 have hF88:Fence.wide.fn 88:=trivial
 unfold tokV at hY
 have HJJ:=Lib.hid hJ
 have HJX:=Lib.hid hJx
 have HY:=Lib.hid hY
 clear hJ hJx hY
 refine callsIn_of_wp Tryz.func87 rfl trivial ?_ rfl
 simp only [Tryz.ntmps87,List.size_toArray,List.length_cons,List.length_nil,Nat.reduceAdd,Nat.reduceSub,Array.replicate_succ,Array.replicate_zero,List.push_toArray,List.append_toArray,List.nil_append,List.cons_append]
 gi_wp2
 have hS0:Scan (W.alloc (.cells #[.string s,.int .i64 0] 129)) W.heap.size s 0:=blk_new W _
 have HS0:=Lib.hid hS0
 clear hS0
 gi_loopg [] (s.size+1) (fun k wr=>∃ pre a,s.size - a+1≤k∧a≤s.size∧Scan wr W.heap.size s a∧Hid (J pre wr)∧Hid (toksF (s.size+1) s 0=pre++toksF k s a))
 case atStart=>exact ⟨[],0,by omega,by omega,HS0.out,HJJ.out _ _ _ H0.out (World.grownBy_alloc _ _ _),rfl⟩
 case round =>
  obtain ⟨pre,a,hka,ha,hsc,HJ,Hf⟩:=hrel
  have hnext:=(callsIn_wide (n:=n - 1)).2 (next_any W.heap.size s a wr ha hs hsc)
  cases gk with
  | zero=>omega
  | succ m =>
   by_cases hb:skipB s a < s.size
   ·obtain ⟨t,ht⟩:∃ t,t=(tokAt s (skipB s a)).1:=⟨_,rfl⟩
    obtain ⟨a',ha'⟩:∃ a',a'=(tokAt s (skipB s a)).2:=⟨_,rfl⟩
    have Hun:Hid (toksF (m+1) s a=if t.f0=-1 then [t] else t :: toksF m s a'):=by
     show toksF (m+1) s a=_
     rw [toksF,if_pos hb,← ht,← ha']
    have hmore:=tokAt_more s (skipB s a) hb
    rw [← ht,← ha'] at hmore
    rw [← ht,← ha',decide_eq_true hb] at hnext
    have Hmore:=Lib.hid hmore
    have hba:a≤skipB s a:=by unfold skipB;omega
    have Hba:=Lib.hid hba
    clear ht ha' hmore hba
    unfold tokV at hnext
    gi_wp2_with (gi_at_call 88;refine hnext.mono ?_;rintro e w1 ⟨rfl,hg,hsc1⟩)
    have HJ1:=Lib.hid (HJJ.out pre wr w1 HJ.out hg)
    have hlt1:W.heap.size < w1.heap.size:=blk_lt hsc1
    have Hfull:Hid (∃ rest,toksF (s.size+1) s 0=pre++t :: rest):=by
     have h1:=Hf.out
     rw [Hun.out] at h1
     by_cases ht:t.f0=-1
     ·rw [if_pos ht] at h1;exact ⟨_,h1⟩
     ·rw [if_neg ht] at h1;exact ⟨_,h1⟩
    have hsplit:(t.f0=-1∧(t.f0 == -1)=true)∨(t.f0≠-1∧(t.f0 == -1)=false):=by
     by_cases ht:t.f0=-1
     ·exact .inl ⟨ht,by rw [beq_iff_eq];exact ht⟩
     ·exact .inr ⟨ht,by rw [beq_eq_false_iff_ne];exact ht⟩
    obtain ⟨fn,tmps,assign,body,hy,hR⟩:=HY.out pre t w1 HJ1.out Hfull.out hlt1
    have hsc2:=Lib.hid hsc1
    clear hsc hsc1
    rw [hy]
    gi_wp2
    refine hR.mono ?_
    rintro e W3 (⟨rfl,hJ3,hkS,hkT⟩ | ⟨rfl,hJx3⟩)
    ·have HJ3:=Lib.hid hJ3
     have hsc3:Scan W3 W.heap.size s a':=by
      show W3.heap[W.heap.size]?=_
      rw [hkS];exact hsc2.out
     have hT0:=blk_cell hkT 0
     have HT:=Lib.hid hkT
     clear hy hR hJ3 hkS hkT
     rcases hsplit with ⟨hb1,hb2⟩ | ⟨hb1,hb2⟩
     ·have Hres:Hid (toksF (s.size+1) s 0=pre++[t]):=by
       show _=_
       rw [Hf.out,Hun.out,if_pos hb1]
      clear hb1
      gi_wp2
      refine bodyPost_ret (results_none rfl _ _ _) rfl ⟨rfl,.inl ?_⟩
      rw [Hres.out]
      exact HJ3.out
     ·have Hres:Hid (toksF (s.size+1) s 0=(pre++[t])++toksF m s a'):=by
       show _=_
       rw [Hf.out,Hun.out,if_neg hb1,List.append_assoc];rfl
      have hm:=Hmore.out hb1
      clear hb1
      gi_wp2
      gi_roundg m
      case measure=>omega
      case rel=>exact ⟨pre++[t],a',by have:=Hba.out;omega,by omega,hsc3,HJ3,Hres⟩
    ·have HJ3:=Lib.hid hJx3
     clear hy hR hJx3
     gi_wp2
     obtain ⟨rest,hrest⟩:=Hfull.out
     refine bodyPost_ret (results_none rfl _ _ _) rfl ⟨rfl,.inr ⟨pre++[t],rest,?_,HJ3.out⟩⟩
     rw [hrest,List.append_assoc];rfl
   ·have Hres:Hid (toksF (s.size+1) s 0=pre):=by
     show _=_
     rw [Hf.out,toksF,if_neg hb,List.append_nil]
    rw [decide_eq_false hb] at hnext
    unfold tokV at hnext
    gi_wp2_with (gi_at_call 88;refine hnext.mono ?_;rintro e w1 ⟨rfl,hg,hsc1⟩)
    refine ⟨fun f hf=>(by cases hf),?_⟩
    gi_wp2
    refine bodyPost_ret (results_none rfl _ _ _) rfl ⟨rfl,.inl ?_⟩
    rw [Hres.out]
    exact HJJ.out _ _ _ (HJJ.out pre wr w1 HJ.out hg) (World.grownBy_alloc _ _ _)
end Go.Proofs.YtjaobihcdkjmbaaGreatDoor
end
