/- What can be read as an expression is printed as a text that reads as the same, and is printed as itself: for every argument; a part of its proof. -/
import Derived.Test.YtjaobihcdkjmbaaGreatDoorDa
import Derived.Test.YtjaobihcdkjmbaaGreatDoorDb
import Derived.Test.YtjaobihcdkjmbaaGreatDoorD0
import Derived.Test.YtjaobihcdkjmbaaGreatDoorD7
set_option linter.unusedVariables false
set_option linter.unusedSimpArgs false
namespace Go.Proofs.YtjaobihcdkjmbaaGreatDoor.PReadTokens
end Go.Proofs.YtjaobihcdkjmbaaGreatDoor.PReadTokens
namespace Go.Proofs.YtjaobihcdkjmbaaGreatDoorW.PrintWords
end Go.Proofs.YtjaobihcdkjmbaaGreatDoorW.PrintWords
set_option maxRecDepth 100000
set_option maxHeartbeats 4000000
section
namespace Go.Proofs.YtjaobihcdkjmbaaGreatDoor
open Go.RowKit Go.Proofs.YtjaobihcdkjmbaaGreatDoorW.PrintWords Go.Proofs.YtjaobihcdkjmbaaGreatDoor.PReadTokens
def uchk (b:UInt8):Bool:=decide (32≤b.toNat)&&decide (b.toNat≤126)&&decide (b.toNat≠123)&&decide (b.toNat≠125)
def zCe (s:ByteArray):Bool:=decide (1≤s.size)&&decide (s.size≤20)&&s.data.toList.all uchk
theorem wrap_nat (n:Nat) (h:n<9223372036854775807):wrap64 ((n:Int)+1)=((n+1:Nat):Int):=by unfold wrap64;omega
theorem bt_nat (s:ByteArray) (n:Nat) (h:n<s.size):bt s (n:Int)=((s[n]'h).toNat:Int):=by
 simp[bt,h]
theorem unit_loop (s:ByteArray) (hs:s.size<9223372036854775807) (d:Nat):∀(k pos:Nat),pos+d=s.size→d<k→read_unit.l0 k s (s.size:Int) (pos:Int)=some ((s.data.toList.drop pos).all uchk):=by
 induction d with
 | zero =>
  intro k pos hp hk;obtain⟨k,rfl⟩:∃m,k=m+1:=⟨k-1,kD4⟩;simp only[read_unit.l0];rw[kA9 kD4,kBq (show s.data.toList.length≤pos by have:s.data.toList.length=s.size:=rfl;omega)];rfl
 | succ d ih =>
  intro k pos hp hk;obtain⟨k,rfl⟩:∃m,k=m+1:=⟨k-1,kD4⟩;have hlt:pos<s.size:=kD4
  have hl:pos<s.data.toList.length:=hlt;simp only[read_unit.l0];rw[kAa kD4,kAa kD4,kAa kD4,bt_nat s pos hlt,wrap_nat pos kD4,ih k (pos+1) kD4 kD4,kAp hl,List.all_cons];have e:s.data.toList[pos]=s[pos]:=rfl;rw[e];unfold uchk;generalize (s[pos]).toNat=c;split
  ·rw[kAc (by omega:¬32≤c)];rfl
  ·split
   ·rw[kAc (by omega:¬c≤126)];simp
   ·split
    ·rw[kAc (by omega:¬c≠123)];simp
    ·split
     ·rw[kAc (by omega:¬c≠125)];simp
     ·rw[kA8 (by omega:32≤c),kA8 (by omega:c≤126),kA8 (by omega:c≠123),kA8 (by omega:c≠125)];rfl
theorem unit_f (s:ByteArray) (hs:s.size<9223372036854775807):read_unit.f (s.size+1) s=some (zCe s):=by
 unfold read_unit.f zD6.f zCe;by_cases h1:1≤s.size
 ·rw[kAa kD4,Option.bind_some];by_cases h2:s.size≤20
  ·rw[kAa kD8];have:=unit_loop s hs s.size (s.size+1) 0 kD4 kD4;rw[show ((0:Nat):Int)=0 from rfl,kBZ] at this;rw[this,kA8 h1,kA8 h2];rfl
  ·rw[kA9 kD8,kAc h2];simp
 ·rw[kA9 kD4,Option.bind_some,kA9 kD6,kAc h1];rfl
theorem unit_any (s:ByteArray) (hs:s.size<9223372036854775807) (w:World):Calls Tryz.prog 125 #[.string s] w fun e w'=>e=.returned (.bool (zCe s))∧Below w.heap.size w w' :=
 (read_unit.calls _ s (zCe s) w (unit_f s hs)).mono fun _ _ ⟨h1,h2⟩=>⟨h1,h2.below⟩
theorem slcut_some (s:ByteArray) (c:UInt8) (i:Nat) (w:World) (hs:s.size<4611686018427387904) (hi:Lib.indexByte s.data.toList c=(i:Int)) (hl:i<s.size) :
  Calls Tryz.prog 151 #[.string s,.string ⟨#[c]⟩] w fun e w'=>e=.returned (.tuple #[.string (s.extract 0 i),.string (s.extract (i+1) s.size),.bool true])∧∃n,w'=w.drewN n:=by
 have hx:∀w,Calls Tryz.prog 176 #[.string s,.string ⟨#[c]⟩] w fun e w'=>e=.returned (.int .i64 i)∧w'=w:=fun w=>by
  have:=Tryz.stringslite_Index_one s c w;rwa [hi] at this
 clear hi;have h0:(0:Int)≤(i:Int):=kD4
 go_enter Tryz.func151,Tryz.ntmps151;go_wp2_with (go_at_call 176;refine (hx _).mono ?_;rintro e w' ⟨rfl,rfl⟩)
 go_quiet (fail)
 go_wp2
 go_ret3
 exact⟨rfl,_,rfl⟩
theorem slcut_none (s:ByteArray) (c:UInt8) (w:World) (hi:Lib.indexByte s.data.toList c=-1) :
  Calls Tryz.prog 151 #[.string s,.string ⟨#[c]⟩] w fun e w'=>e=.returned (.tuple #[.string s,.string ⟨#[]⟩,.bool false])∧∃n,w'=w.drewN n:=by
 have hx:∀w,Calls Tryz.prog 176 #[.string s,.string ⟨#[c]⟩] w fun e w'=>e=.returned (.int .i64 (-1))∧w'=w:=fun w=>by
  have:=Tryz.stringslite_Index_one s c w;rwa [hi] at this
 clear hi;go_enter Tryz.func151,Tryz.ntmps151;go_wp2_with (go_at_call 176;refine (hx _).mono ?_;rintro e w' ⟨rfl,rfl⟩)
 go_ret3
 exact⟨rfl,0,rfl⟩
theorem cut_some (s:ByteArray) (c:UInt8) (i:Nat) (w:World) (hs:s.size<4611686018427387904) (hi:Lib.indexByte s.data.toList c=(i:Int)) (hl:i<s.size) :
  Calls Tryz.prog 123 #[.string s,.string ⟨#[c]⟩] w fun e w'=>e=.returned (.tuple #[.string (s.extract 0 i),.string (s.extract (i+1) s.size),.bool true])∧∃n,w'=w.drewN n:=by
 have hx:=slcut_some s c i w hs hi hl;clear hi;go_enter Tryz.func123,Tryz.ntmps123;go_wp2_with (go_at_call 151;refine hx.mono ?_;rintro e w' ⟨rfl,n,rfl⟩)
 go_ret3
 exact⟨rfl,_,rfl⟩
theorem cut_none (s:ByteArray) (c:UInt8) (w:World) (hi:Lib.indexByte s.data.toList c=-1) :
  Calls Tryz.prog 123 #[.string s,.string ⟨#[c]⟩] w fun e w'=>e=.returned (.tuple #[.string s,.string ⟨#[]⟩,.bool false])∧∃n,w'=w.drewN n:=by
 have hx:=slcut_none s c w hi;clear hi;go_enter Tryz.func123,Tryz.ntmps123;go_wp2_with (go_at_call 151;refine hx.mono ?_;rintro e w' ⟨rfl,n,rfl⟩)
 go_ret3
 exact⟨rfl,_,rfl⟩
def tokV (t:S47):Value:=.agg #[.int .i64 t.f0,.string t.f1,.int .i64 t.f2]
def zAu (s:ByteArray) (a:Nat):List UInt8:=s.data.toList.drop a
def zAt (s:ByteArray) (a:Nat):Nat:=a+zBc [1] (zAu s a)
def zBt (s:ByteArray) (b:Nat):Nat:=b+zBc [2,3,4] (zAu s b)
def zBm (s:ByteArray) (b:Nat):Nat:=b+zBc [4] (zAu s b)
theorem runLen_le (ks:List Int) (l:List UInt8):zBc ks l≤l.length:=(List.takeWhile_sublist _).length_le
theorem run_le (ks:List Int) (s:ByteArray) (a:Nat) (ha:a≤s.size):a+zBc ks (zAu s a)≤s.size:=by
 have:=runLen_le ks (zAu s a);unfold zAu at this⊢;rw[kAm] at this;have e:s.data.toList.length=s.size:=rfl;omega
def Scan (w:World) (S:Nat) (s:ByteArray) (a:Nat):Prop:=w.heap[S]?=some (.cells #[.string s,.int .i64 a] 129 (0,0))
theorem Scan.cells {w:World} {S:Nat} {s:ByteArray} {a:Nat} (h:Scan w S s a) :
  w.cell? ⟨S,0,none⟩=some (.string s)∧w.cell? ⟨S,1,none⟩=some (.int .i64 a)∧w.frozen? ⟨S,1,none⟩=false∧S<w.heap.size :=
 ⟨zA1 h 0,zA1 h 1,zA2 h 1,zA5 h⟩
theorem beq_comm_int (a b:Int):(a==b)=(b==a):=by rw[kCA,kAA,kAA];exact eq_comm
theorem run_one (S g:Nat) (s:ByteArray) (a:Nat) (k:Int) (hk:(k==0)=false) (t:TypeId) (w:World) (ha:a≤s.size) (hs:s.size≤9223372036854775807) (hS:Scan w S s a)
  (hg:w.heap[g]?=some (.cells #[.int .i64 k] t (0,0))) (hgS:g≠S) :
  Calls Tryz.prog 122 #[.pointer (some ⟨S,0,none⟩),.slice (some ⟨g,0,none⟩) 1 1] w fun e w' =>
   e=.returned (.string (s.extract a (a+zBc [k] (zAu s a))))∧w.grownBy w' (some S)∧Scan w' S s (a+zBc [k] (zAu s a)) :=
 run_any S g s a ha [k] t w hs (by rw[List.contains_cons,beq_comm_int,hk];rfl) (Nat.lt_of_le_of_lt (kA2 1) kD4) hS hg hgS
theorem zDF (S:Nat) (s:ByteArray) (a b:Nat) (w:World) (o:Obj) (ha:a≤s.size) (hs:s.size≤2147483648) (hS:Scan w S s a) (hb:zAt s a=b) :
  Calls Tryz.prog 122 #[.pointer (some ⟨S,0,none⟩),.slice (some ⟨w.heap.size+1,0,none⟩) 1 1] ((w.alloc o).alloc (.cells #[.int .i64 1] 162)) fun e w' =>
   e=.returned (.string (s.extract a b))∧((w.alloc o).alloc (.cells #[.int .i64 1] 162)).grownBy w' (some S)∧Scan w' S s b:=by
 subst hb;have hlt:S<w.heap.size:=zA5 hS;refine run_one S (w.heap.size+1) s a 1 rfl 162 _ ha kD4 ?_ ?_ kD4
 ·exact (kA4 _ _ _ kD8).trans ((kA4 _ _ _ hlt).trans hS)
 ·have:=zA4 (w.alloc o) (.cells #[.int .i64 1] 162)
  rwa [kAw] at this
theorem results88 {tmps:Array Value} {W:World} {R:Nat} {cs:Array Value} (h2:tmps.getD 2 undef=.pointer (some ⟨R,0,none⟩)) (hs:cs.size=3) (hR:W.heap[R]?=some (.cells cs 47 (0,0))) :
  (results Tryz.f88 tmps).run Tryz.prog W=.ok (.tuple #[.agg cs,tmps.getD 3 undef]) W :=
 results_ct (fn:=Tryz.f88) Tryz.results88 tmps W R 47 cs (0,0) _ h2 hR Tryz.underlying47 rfl (by rw[hs];kernel_rfl)
theorem next_fin {w X:World} {S R n:Nat} {s:ByteArray} {x0 x1 x2:Value} (v0 v1 v2:Value) (hg:w.grownBy X (some S)) (hsc:Scan X S s n) (hR:X.heap[R]?=some (.cells #[x0,x1,x2] 47 (0,0))) (hRw:w.heap.size≤R) (hS:S<w.heap.size) :
  (((X.setCell ⟨R,0,none⟩ v0).setCell ⟨R,1,none⟩ v1).setCell ⟨R,2,none⟩ v2).heap[R]?=some (.cells #[v0,v1,v2] 47 (0,0)) ∧
   w.grownBy (((X.setCell ⟨R,0,none⟩ v0).setCell ⟨R,1,none⟩ v1).setCell ⟨R,2,none⟩ v2) (some S)∧Scan (((X.setCell ⟨R,0,none⟩ v0).setCell ⟨R,1,none⟩ v1).setCell ⟨R,2,none⟩ v2) S s n:=by
 have far:∀(Y:World) (i:Nat) (v:Value),w.grownBy Y (some S)→w.grownBy (Y.setCell ⟨R,i,none⟩ v) (some S):=fun Y i v h =>
  ⟨h.os,h.tape,h.output,by rw[kAN];exact h.size,fun k hk hne=>(kA5 _ _ _ _ kD8).trans (h.block k hk hne)⟩
 have far2:∀(Y:World) (i:Nat) (v:Value),Scan Y S s n→Scan (Y.setCell ⟨R,i,none⟩ v) S s n:=fun Y i v h=>(kA5 _ _ _ _ kD8).trans h
 exact⟨zA8 (zA8 (zA8 hR 0 v0) 1 v1) 2 v2,far _ _ _ (far _ _ _ (far _ _ _ hg)),far2 _ _ _ (far2 _ _ _ (far2 _ _ _ hsc))⟩
theorem next_end (S:Nat) (s:ByteArray) (a:Nat) (w:World) (ha:a≤s.size) (hs:s.size≤2147483648) (hS:Scan w S s a) (hb:zAt s a=s.size) :
  Calls Tryz.prog 88 #[.pointer (some ⟨S,0,none⟩)] w fun e w'=>e=.returned (.tuple #[tokV ⟨-1,⟨#[]⟩,s.size⟩,.bool false])∧w.grownBy w' (some S)∧Scan w' S s s.size:=by
 have hSw:=hS.cells.2.2.2;have hcall:=fun o=>zDF S s a s.size w o ha hs hS hb
 clear hb;go_enter Tryz.func88,Tryz.ntmps88;go_wp2_with (go_at_call 122;refine (hcall _).mono ?_;rintro e w1 ⟨rfl,hg,hsc⟩;obtain⟨c0,c1,f1,lt⟩:=hsc.cells;have hR:=(hg.block w.heap.size kD8 (fun e=>by injection e with e;omega)).trans ((kA4 _ _ _ kD6).trans (zA4 w _)));have cR0:=zA1 hR 0;have cR1:=zA1 hR 1;have cR2:=zA1 hR 2;have fR0:=zA2 hR 0;have fR1:=zA2 hR 1;have fR2:=zA2 hR 2;have hRl:=zA5 hR;have HR:=kA1 hR;clear hR
 go_quiet (fail)
 go_wp2;have hgX:=zBu (kCd (kA7 (kCd (kAE w _ (some S)) _) hg) (.cells #[.int .i64 (-1),.string ⟨#[]⟩,.int .i64 s.size] 47)) nq;obtain⟨h1,h2,h3⟩:=next_fin (.int .i64 (-1)) (.string ⟨#[]⟩) (.int .i64 s.size) hgX (zAZ ((kA4 _ _ _ lt).trans hsc) nq) (zAZ ((kA4 _ _ _ hRl).trans HR.out) nq) (kA2 _) hSw;exact kAi (results88 rfl rfl h1) rfl ⟨rfl,h2,h3⟩
theorem word_is (x:ByteArray) (r:Bool) (h:zE4 x=r) (w:World):Calls Tryz.prog 106 #[.string x] w fun e w'=>e=.returned (.bool r)∧Below w.heap.size w w':=by rw[← h];exact word_any x w
theorem name_is (x:ByteArray) (r:Bool) (hs:x.size≤9223372036854775807) (h:zBQ x=r) (w:World):Calls Tryz.prog 71 #[.string x] w fun e w'=>e=.returned (.bool r)∧Below w.heap.size w w':=by rw[← h];exact name_any x w hs
theorem run_three (S g:Nat) (s:ByteArray) (a:Nat) (w:World) (ha:a≤s.size) (hs:s.size≤9223372036854775807) (hS:Scan w S s a)
  (hg:w.heap[g]?=some (.cells #[.int .i64 2,.int .i64 3,.int .i64 4] 162 (0,0))) (hgS:g≠S) :
  Calls Tryz.prog 122 #[.pointer (some ⟨S,0,none⟩),.slice (some ⟨g,0,none⟩) 3 3] w fun e w' =>
   e=.returned (.string (s.extract a (zBt s a)))∧w.grownBy w' (some S)∧Scan w' S s (zBt s a) :=
 run_any S g s a ha [2,3,4] 162 w hs kD7 kD7 hS hg hgS
structure NextAt (w:World) (S T:Nat) (s:ByteArray) (n:Nat) (t:S47) (W:World):Prop where
 grown:w.grownBy W (some S)
 scan:Scan W S s n
 res:W.heap[w.heap.size]?=some (.cells #[.int .i64 0,.string ⟨#[]⟩,.int .i64 0] 47 (0,0))
 tok:W.heap[T]?=some (.cells #[.int .i64 t.f0,.string t.f1,.int .i64 t.f2] 47 (0,0))
 hT:w.heap.size<T
theorem NextAt.below {w:World} {S T:Nat} {s:ByteArray} {n:Nat} {t:S47} {W W':World} (h:NextAt w S T s n t W) (hb:Below W.heap.size W W'):NextAt w S T s n t W' :=
 ⟨kAk h.grown hb,zAa hb h.scan,zAa hb h.res,zAa hb h.tok,h.hT⟩
theorem NextAt.alloc {w:World} {S T:Nat} {s:ByteArray} {n:Nat} {t:S47} {W:World} (h:NextAt w S T s n t W) (o:Obj):NextAt w S T s n t (W.alloc o) :=
 h.below ((kA3 _ _).alloc (kA2 _) o)
theorem NextAt.drew {w:World} {S T:Nat} {s:ByteArray} {n:Nat} {t:S47} {W:World} (h:NextAt w S T s n t W) (m:Nat):NextAt w S T s n t (W.drewN m) :=
 h.below (zA3 (kA3 _ _) m)
theorem NextAt.step {w:World} {S T:Nat} {s:ByteArray} {n n':Nat} {t:S47} {W W':World} (h:NextAt w S T s n t W) (hSw:S<w.heap.size) (hg:W.grownBy W' (some S)) (hs:Scan W' S s n'):NextAt w S T s n' t W' :=
 ⟨kA7 h.grown hg,hs,(hg.block _ (zA5 h.res) (fun e=>by injection e with e;omega)).trans h.res,(hg.block _ (zA5 h.tok) (fun e=>by injection e with e;have:=h.hT;omega)).trans h.tok,h.hT⟩
theorem NextAt.far {w:World} {S T:Nat} {s:ByteArray} {n:Nat} {t:S47} {W:World} (h:NextAt w S T s n t W) (hSw:S<w.heap.size) (i:Nat) (v:Value) (t':S47)
  (ht:(#[.int .i64 t.f0,.string t.f1,.int .i64 t.f2]:Array Value).setIfInBounds i v=#[.int .i64 t'.f0,.string t'.f1,.int .i64 t'.f2]):NextAt w S T s n t' (W.setCell ⟨T,i,none⟩ v):=by
 have hT:=h.hT;refine⟨⟨h.grown.os,h.grown.tape,h.grown.output,by rw[kAN];exact h.grown.size,fun k hk hne=>(kA5 _ _ _ _ kD8).trans (h.grown.block k hk hne)⟩,(kA5 _ _ _ _ kD8).trans h.scan,(kA5 _ _ _ _ kD8).trans h.res,?_,hT⟩;rw[← ht];exact zA8 h.tok i v
theorem NextAt.kind {w:World} {S T:Nat} {s:ByteArray} {n:Nat} {t:S47} {W:World} (h:NextAt w S T s n t W) (hSw:S<w.heap.size) (k:Int):NextAt w S T s n ⟨k,t.f1,t.f2⟩ (W.setCell ⟨T,0,none⟩ (.int .i64 k)):=h.far hSw 0 _ _ rfl
theorem NextAt.text {w:World} {S T:Nat} {s:ByteArray} {n:Nat} {t:S47} {W:World} (h:NextAt w S T s n t W) (hSw:S<w.heap.size) (x:ByteArray):NextAt w S T s n ⟨t.f0,x,t.f2⟩ (W.setCell ⟨T,1,none⟩ (.string x)):=h.far hSw 1 _ _ rfl
theorem NextAt.cells {w:World} {S T:Nat} {s:ByteArray} {n:Nat} {t:S47} {W:World} (h:NextAt w S T s n t W) :
  (W.cell? ⟨T,0,none⟩=some (.int .i64 t.f0)∧W.cell? ⟨T,1,none⟩=some (.string t.f1)∧W.cell? ⟨T,2,none⟩=some (.int .i64 t.f2)) ∧
  (W.frozen? ⟨T,0,none⟩=false∧W.frozen? ⟨T,1,none⟩=false∧W.frozen? ⟨T,2,none⟩=false) ∧
  (W.cell? ⟨w.heap.size,0,none⟩=some (.int .i64 0)∧W.cell? ⟨w.heap.size,1,none⟩=some (.string ⟨#[]⟩)∧W.cell? ⟨w.heap.size,2,none⟩=some (.int .i64 0)) ∧
  (W.frozen? ⟨w.heap.size,0,none⟩=false∧W.frozen? ⟨w.heap.size,1,none⟩=false∧W.frozen? ⟨w.heap.size,2,none⟩=false) ∧
  w.heap.size<W.heap.size∧T<W.heap.size :=
 ⟨⟨zA1 h.tok 0,zA1 h.tok 1,zA1 h.tok 2⟩,⟨zA2 h.tok 0,zA2 h.tok 1,zA2 h.tok 2⟩,⟨zA1 h.res 0,zA1 h.res 1,zA1 h.res 2⟩,⟨zA2 h.res 0,zA2 h.res 1,zA2 h.res 2⟩,zA5 h.res,zA5 h.tok⟩
theorem NextAt.fin {w:World} {S T:Nat} {s:ByteArray} {n:Nat} {t:S47} {W:World} (h:NextAt w S T s n t W) (hSw:S<w.heap.size) (v0 v1 v2:Value) :
  (((W.setCell ⟨w.heap.size,0,none⟩ v0).setCell ⟨w.heap.size,1,none⟩ v1).setCell ⟨w.heap.size,2,none⟩ v2).heap[w.heap.size]?=some (.cells #[v0,v1,v2] 47 (0,0)) ∧
   w.grownBy (((W.setCell ⟨w.heap.size,0,none⟩ v0).setCell ⟨w.heap.size,1,none⟩ v1).setCell ⟨w.heap.size,2,none⟩ v2) (some S)∧Scan (((W.setCell ⟨w.heap.size,0,none⟩ v0).setCell ⟨w.heap.size,1,none⟩ v1).setCell ⟨w.heap.size,2,none⟩ v2) S s n :=
 next_fin v0 v1 v2 h.grown h.scan h.res (kA2 _) hSw
theorem NextAt.start {w:World} {S:Nat} {s:ByteArray} {b:Nat} {w1:World} {o:Obj} (hg:((w.alloc (.cells #[.int .i64 0,.string ⟨#[]⟩,.int .i64 0] 47)).alloc o).grownBy w1 (some S)) (hsc:Scan w1 S s b) (hSw:S<w.heap.size) :
  NextAt w S w1.heap.size s b ⟨-1,⟨#[]⟩,b⟩ (w1.alloc (.cells #[.int .i64 (-1),.string ⟨#[]⟩,.int .i64 b] 47)):=by
 have hR:=(hg.block w.heap.size kD8 (fun e=>by injection e with e;omega)).trans ((kA4 _ _ _ kD6).trans (zA4 w _));have hlt:=zA5 hR;exact⟨kCd (kA7 (kCd (kAE w _ (some S)) _) hg) _,(kA4 _ _ _ (zA5 hsc)).trans hsc,(kA4 _ _ _ hlt).trans hR,zA4 _ _,hlt⟩
theorem run_three_x (S g:Nat) (s:ByteArray) (a n:Nat) (x:ByteArray) (w:World) (ha:a≤s.size) (hs:s.size≤9223372036854775807) (hS:Scan w S s a)
  (hg:w.heap[g]?=some (.cells #[.int .i64 2,.int .i64 3,.int .i64 4] 162 (0,0))) (hgS:g≠S) (hn:Hid (zBt s a=n)) (hx:Hid (s.extract a n=x)) :
  Calls Tryz.prog 122 #[.pointer (some ⟨S,0,none⟩),.slice (some ⟨g,0,none⟩) 3 3] w fun e w' =>
   e=.returned (.string x)∧w.grownBy w' (some S)∧Scan w' S s n:=by
 have:=run_three S g s a w ha hs hS hg hgS;rw[hn.out,hx.out] at this;exact this
theorem next_small (S:Nat) (s:ByteArray) (a b n:Nat) (x:ByteArray) (k:Int) (w:World) (ha:a≤s.size) (hs:s.size≤2147483648) (hS:Scan w S s a) (hb:zAt s a=b) (hbl:b<s.size) (hk:srt (s[b]'hbl).toNat=2)
  (Hn:Hid (zBt s b=n)) (Hx:Hid (s.extract b n=x)) (hc:(zE4 x=true∧k=1)∨(zE4 x=false∧zBQ x=true∧k=0)∨(zE4 x=false∧zBQ x=false∧k=-1)) :
  Calls Tryz.prog 88 #[.pointer (some ⟨S,0,none⟩)] w fun e w'=>e=.returned (.tuple #[tokV ⟨k,x,b⟩,.bool true])∧w.grownBy w' (some S)∧Scan w' S s n:=by
 have hSw:=hS.cells.2.2.2;have hcall:=fun o=>zDF S s a b w o ha hs hS hb
 have hsort:∀w,Calls Tryz.prog 107 #[.int .i32 (s[b]'hbl).toNat] w fun e w'=>e=.returned (.int .i64 2)∧Below w.heap.size w w':=fun w=>by
  have:=zCI (s[b]'hbl).toNat w;rwa [hk] at this
 have hw32:wrap32 ((s[b]'hbl).toNat:Int)=(s[b]'hbl).toNat:=by have:=(s[b]'hbl).toNat_lt;unfold wrap32;omega
 have hne:((b:Int)==(s.size:Int))=false:=by rw[kAd];omega
 have Hle:x.size≤s.size:=by rw[← Hx.out,kBr];omega
 clear hb hk;rcases hc with⟨hw,rfl⟩ | ⟨hw,hm,rfl⟩ | ⟨hw,hm,rfl⟩
 all_goals
  have hword:=word_is x _ hw
  try have hname:=name_is x _ kD4 hm
  try clear hm
  clear hw;go_enter Tryz.func88,Tryz.ntmps88;go_wp2_with (go_at_call 122;refine (hcall _).mono ?_;rintro e w1 ⟨rfl,hg,hsc⟩;obtain⟨c0,c1,f1,lt⟩:=hsc.cells;have hN:=NextAt.start hg hsc hSw;have hd1:=kAs hN.hT;have hd2:=kB8 hN.hT)
  go_quiet (fail)
  generalize nq=n0 at *;go_wp2
  go_quiet (fail)
  generalize nq=n1 at *;have hN1:=hN.drew (n0+n1);go_wp2_with (go_at_call 107;refine (hsort _).mono ?_;rintro e w2 ⟨rfl,hb2⟩;have hN2:=hN1.below hb2);refine (run_three_x S _ s b n x _ kD4 kD4 (hN2.alloc _).scan (zA4 _ _) kDv Hn Hx).mono ?_;rintro e w3 ⟨rfl,hg3,hs3⟩;have hN3:=(hN2.alloc _).step hSw hg3 hs3;obtain⟨⟨t0,t1,t2⟩,⟨ft0,ft1,ft2⟩,⟨r0,r1,r2⟩,⟨fr0,fr1,fr2⟩,lr,lt3⟩:=hN3.cells;clear hsort hcall c0 c1 f1 hN hN1 hN2 hg hsc;go_wp2_with (first
    | (go_at_call 106;refine (hword _).mono ?_;rintro e w4 ⟨rfl,hb4⟩;have hN4:=((hN3.text hSw x).kind hSw 0).below hb4;obtain⟨⟨t0,t1,t2⟩,⟨ft0,ft1,ft2⟩,⟨r0,r1,r2⟩,⟨fr0,fr1,fr2⟩,lr,lt4⟩:=hN4.cells)
    | (go_at_call 71;refine (hname _).mono ?_;rintro e w5 ⟨rfl,hb5⟩;have hN5:=hN4.below hb5;obtain⟨⟨t0,t1,t2⟩,⟨ft0,ft1,ft2⟩,⟨r0,r1,r2⟩,⟨fr0,fr1,fr2⟩,lr,lt5⟩:=hN5.cells))
 ·obtain⟨h1,h2,h3⟩:=(hN4.kind hSw 1).fin hSw (.int .i64 1) (.string x) (.int .i64 b);exact kAi (results88 rfl rfl h1) rfl ⟨rfl,h2,h3⟩
 ·obtain⟨h1,h2,h3⟩:=hN5.fin hSw (.int .i64 0) (.string x) (.int .i64 b);exact kAi (results88 rfl rfl h1) rfl ⟨rfl,h2,h3⟩
 ·obtain⟨h1,h2,h3⟩:=(hN5.kind hSw (-1)).fin hSw (.int .i64 (-1)) (.string x) (.int .i64 b);exact kAi (results88 rfl rfl h1) rfl ⟨rfl,h2,h3⟩
theorem zEB (S g:Nat) (s:ByteArray) (a n:Nat) (x:ByteArray) (w:World) (ha:a≤s.size) (hs:s.size≤9223372036854775807) (hS:Scan w S s a)
  (hg:w.heap[g]?=some (.cells #[.int .i64 4] 162 (0,0))) (hgS:g≠S) (hn:Hid (zBm s a=n)) (hx:Hid (s.extract a n=x)) :
  Calls Tryz.prog 122 #[.pointer (some ⟨S,0,none⟩),.slice (some ⟨g,0,none⟩) 1 1] w fun e w' =>
   e=.returned (.string x)∧w.grownBy w' (some S)∧Scan w' S s n:=by
 have:=run_one S g s a 4 rfl 162 w ha hs hS hg hgS;have e:=hn.out;unfold zBm at e;rw[e,hx.out] at this;exact this
theorem next_digit (S:Nat) (s:ByteArray) (a b n:Nat) (x:ByteArray) (k:Int) (w:World) (ha:a≤s.size) (hs:s.size≤2147483648) (hS:Scan w S s a) (hb:zAt s a=b) (hbl:b<s.size) (hk:srt (s[b]'hbl).toNat=4)
  (Hn:Hid (zBm s b=n)) (Hx:Hid (s.extract b n=x)) (hc:((s[b]'hbl).toNat≠48∧x.size≤400∧k=2)∨((s[b]'hbl).toNat=48∧x.size=1∧k=2)∨((s[b]'hbl).toNat≠48∧400<x.size∧k=-1)∨((s[b]'hbl).toNat=48∧x.size≠1∧k=-1)) :
  Calls Tryz.prog 88 #[.pointer (some ⟨S,0,none⟩)] w fun e w'=>e=.returned (.tuple #[tokV ⟨k,x,b⟩,.bool true])∧w.grownBy w' (some S)∧Scan w' S s n:=by
 have hSw:=hS.cells.2.2.2;have hcall:=fun o=>zDF S s a b w o ha hs hS hb
 have hsort:∀w,Calls Tryz.prog 107 #[.int .i32 (s[b]'hbl).toNat] w fun e w'=>e=.returned (.int .i64 4)∧Below w.heap.size w w':=fun w=>by
  have:=zCI (s[b]'hbl).toNat w;rwa [hk] at this
 have hw32:wrap32 ((s[b]'hbl).toNat:Int)=(s[b]'hbl).toNat:=by have:=(s[b]'hbl).toNat_lt;unfold wrap32;omega
 have hne:((b:Int)==(s.size:Int))=false:=by rw[kAd];omega
 have Hle:x.size≤s.size:=by rw[← Hx.out,kBr];omega
 clear hb hk;have h48:((s[b]'hbl).toNat≠48→(((s[b]'hbl).toNat:Int) != 48)=true)∧((s[b]'hbl).toNat=48→(((s[b]'hbl).toNat:Int) != 48)=false):=by
  constructor
  ·intro h;rw[kCV];omega
  ·intro h;rw[bne_eq_false_iff_eq];omega
 have h1:(x.size=1→((x.size:Int)==1)=true)∧(x.size≠1→((x.size:Int)==1)=false):=by
  constructor
  ·intro h;rw[kAA];omega
  ·intro h;rw[kAd];omega
 have hle:(x.size≤400→decide ((x.size:Int)≤400)=true)∧(400<x.size→decide ((x.size:Int)≤400)=false):=by
  constructor
  ·intro h;rw[kAU];omega
  ·intro h;rw[kBT];omega
 rcases hc with⟨hc,hz,rfl⟩ | ⟨hc,hz,rfl⟩ | ⟨hc,hz,rfl⟩ | ⟨hc,hz,rfl⟩
 ·have q1:=h48.1 hc;have q2:=hle.1 hz;clear hc hz h48 hle h1;go_enter Tryz.func88,Tryz.ntmps88;go_wp2_with (go_at_call 122;refine (hcall _).mono ?_;rintro e w1 ⟨rfl,hg,hsc⟩;obtain⟨c0,c1,f1,lt⟩:=hsc.cells;have hN:=NextAt.start hg hsc hSw;have hd1:=kAs hN.hT;have hd2:=kB8 hN.hT)
  go_quiet (fail)
  generalize nq=n0 at *;go_wp2
  go_quiet (fail)
  generalize nq=n1 at *;have hN1:=hN.drew (n0+n1);go_wp2_with (go_at_call 107;refine (hsort _).mono ?_;rintro e w2 ⟨rfl,hb2⟩;have hN2:=hN1.below hb2);refine (zEB S _ s b n x _ kD4 kD4 (hN2.alloc _).scan (zA4 _ _) kDv Hn Hx).mono ?_;rintro e w3 ⟨rfl,hg3,hs3⟩;have hN3:=(hN2.alloc _).step hSw hg3 hs3;obtain⟨⟨t0,t1,t2⟩,⟨ft0,ft1,ft2⟩,⟨r0,r1,r2⟩,⟨fr0,fr1,fr2⟩,lr,lt3⟩:=hN3.cells;clear hsort hcall c0 c1 f1 hN hN1 hN2 hg hsc;go_wp2;obtain⟨h1,h2,h3⟩:=((hN3.text hSw x).kind hSw 2).fin hSw (.int .i64 2) (.string x) (.int .i64 b);exact kAi (results88 rfl rfl h1) rfl ⟨rfl,h2,h3⟩
 ·have q1:=h48.2 hc;have q3:=h1.1 hz;have q2:=hle.1 kD4;clear hc hz h48 hle h1;go_enter Tryz.func88,Tryz.ntmps88;go_wp2_with (go_at_call 122;refine (hcall _).mono ?_;rintro e w1 ⟨rfl,hg,hsc⟩;obtain⟨c0,c1,f1,lt⟩:=hsc.cells;have hN:=NextAt.start hg hsc hSw;have hd1:=kAs hN.hT;have hd2:=kB8 hN.hT)
  go_quiet (fail)
  generalize nq=n0 at *;go_wp2
  go_quiet (fail)
  generalize nq=n1 at *;have hN1:=hN.drew (n0+n1);go_wp2_with (go_at_call 107;refine (hsort _).mono ?_;rintro e w2 ⟨rfl,hb2⟩;have hN2:=hN1.below hb2);refine (zEB S _ s b n x _ kD4 kD4 (hN2.alloc _).scan (zA4 _ _) kDv Hn Hx).mono ?_;rintro e w3 ⟨rfl,hg3,hs3⟩;have hN3:=(hN2.alloc _).step hSw hg3 hs3;obtain⟨⟨t0,t1,t2⟩,⟨ft0,ft1,ft2⟩,⟨r0,r1,r2⟩,⟨fr0,fr1,fr2⟩,lr,lt3⟩:=hN3.cells;clear hsort hcall c0 c1 f1 hN hN1 hN2 hg hsc;go_wp2;obtain⟨h1,h2,h3⟩:=((hN3.text hSw x).kind hSw 2).fin hSw (.int .i64 2) (.string x) (.int .i64 b);exact kAi (results88 rfl rfl h1) rfl ⟨rfl,h2,h3⟩
 ·have q1:=h48.1 hc;have q2:=hle.2 hz;clear hc hz h48 hle h1;go_enter Tryz.func88,Tryz.ntmps88;go_wp2_with (go_at_call 122;refine (hcall _).mono ?_;rintro e w1 ⟨rfl,hg,hsc⟩;obtain⟨c0,c1,f1,lt⟩:=hsc.cells;have hN:=NextAt.start hg hsc hSw;have hd1:=kAs hN.hT;have hd2:=kB8 hN.hT)
  go_quiet (fail)
  generalize nq=n0 at *;go_wp2
  go_quiet (fail)
  generalize nq=n1 at *;have hN1:=hN.drew (n0+n1);go_wp2_with (go_at_call 107;refine (hsort _).mono ?_;rintro e w2 ⟨rfl,hb2⟩;have hN2:=hN1.below hb2);refine (zEB S _ s b n x _ kD4 kD4 (hN2.alloc _).scan (zA4 _ _) kDv Hn Hx).mono ?_;rintro e w3 ⟨rfl,hg3,hs3⟩;have hN3:=(hN2.alloc _).step hSw hg3 hs3;obtain⟨⟨t0,t1,t2⟩,⟨ft0,ft1,ft2⟩,⟨r0,r1,r2⟩,⟨fr0,fr1,fr2⟩,lr,lt3⟩:=hN3.cells;clear hsort hcall c0 c1 f1 hN hN1 hN2 hg hsc;go_wp2;obtain⟨h1,h2,h3⟩:=(hN3.text hSw x).fin hSw (.int .i64 (-1)) (.string x) (.int .i64 b);exact kAi (results88 rfl rfl h1) rfl ⟨rfl,h2,h3⟩
 ·have q1:=h48.2 hc;have q3:=h1.2 hz;clear hc hz h48 hle h1;go_enter Tryz.func88,Tryz.ntmps88;go_wp2_with (go_at_call 122;refine (hcall _).mono ?_;rintro e w1 ⟨rfl,hg,hsc⟩;obtain⟨c0,c1,f1,lt⟩:=hsc.cells;have hN:=NextAt.start hg hsc hSw;have hd1:=kAs hN.hT;have hd2:=kB8 hN.hT)
  go_quiet (fail)
  generalize nq=n0 at *;go_wp2
  go_quiet (fail)
  generalize nq=n1 at *;have hN1:=hN.drew (n0+n1);go_wp2_with (go_at_call 107;refine (hsort _).mono ?_;rintro e w2 ⟨rfl,hb2⟩;have hN2:=hN1.below hb2);refine (zEB S _ s b n x _ kD4 kD4 (hN2.alloc _).scan (zA4 _ _) kDv Hn Hx).mono ?_;rintro e w3 ⟨rfl,hg3,hs3⟩;have hN3:=(hN2.alloc _).step hSw hg3 hs3;obtain⟨⟨t0,t1,t2⟩,⟨ft0,ft1,ft2⟩,⟨r0,r1,r2⟩,⟨fr0,fr1,fr2⟩,lr,lt3⟩:=hN3.cells;clear hsort hcall c0 c1 f1 hN hN1 hN2 hg hsc;go_wp2;obtain⟨h1,h2,h3⟩:=(hN3.text hSw x).fin hSw (.int .i64 (-1)) (.string x) (.int .i64 b);exact kAi (results88 rfl rfl h1) rfl ⟨rfl,h2,h3⟩
theorem NextAt.at_ {w:World} {S T:Nat} {s:ByteArray} {n:Nat} {t:S47} {W:World} (h:NextAt w S T s n t W) (hSw:S<w.heap.size) (n':Nat):NextAt w S T s n' t (W.setCell ⟨S,1,none⟩ (.int .i64 n')) :=
 h.step hSw (kAf _ _ _ _) (zA8 h.scan 1 _)
theorem encode_ascii (c:UInt8) (h:c.toNat<128):Utf8.encode (c.toNat:Int)=⟨#[c]⟩:=by
 have hv:Utf8.valid (c.toNat:Int)=true:=by
  unfold Utf8.valid;simp;omega
 simp only[Utf8.encode,hv,kCO,Int.toNat_natCast,kAa h,UInt8.ofNat_toNat]
theorem mark_small {c:Nat} (h:srt c=5):c<128:=by
 rcases kBU c 128 with h1 | h1
 ·exact h1
 ·rw[zEz _ kD4] at h;cases h
theorem next_mark (S:Nat) (s:ByteArray) (a b:Nat) (w:World) (ha:a≤s.size) (hs:s.size≤2147483648) (hS:Scan w S s a) (hb:zAt s a=b) (hbl:b<s.size) (hk:srt (s[b]'hbl).toNat=5) :
  Calls Tryz.prog 88 #[.pointer (some ⟨S,0,none⟩)] w fun e w'=>e=.returned (.tuple #[tokV ⟨4,⟨#[s[b]'hbl]⟩,b⟩,.bool true])∧w.grownBy w' (some S)∧Scan w' S s (b+1):=by
 have hSw:=hS.cells.2.2.2;have hcall:=fun o=>zDF S s a b w o ha hs hS hb
 have hsort:∀w,Calls Tryz.prog 107 #[.int .i32 (s[b]'hbl).toNat] w fun e w'=>e=.returned (.int .i64 5)∧Below w.heap.size w w':=fun w=>by
  have:=zCI (s[b]'hbl).toNat w;rwa [hk] at this
 have hw32:wrap32 ((s[b]'hbl).toNat:Int)=(s[b]'hbl).toNat:=by have:=(s[b]'hbl).toNat_lt;unfold wrap32;omega
 have hne:((b:Int)==(s.size:Int))=false:=by rw[kAd];omega
 have Henc:=kA1 (encode_ascii (s[b]'hbl) (mark_small hk));clear hb hk;go_enter Tryz.func88,Tryz.ntmps88;go_wp2_with (go_at_call 122;refine (hcall _).mono ?_;rintro e w1 ⟨rfl,hg,hsc⟩;obtain⟨c0,c1,f1,lt⟩:=hsc.cells;have hN:=NextAt.start hg hsc hSw;have hd1:=kAs hN.hT;have hd2:=kB8 hN.hT)
 go_quiet (fail)
 generalize nq=n0 at *;go_wp2
 go_quiet (fail)
 generalize nq=n1 at *;have hN1:=hN.drew (n0+n1);go_wp2_with (go_at_call 107;refine (hsort _).mono ?_;rintro e w2 ⟨rfl,hb2⟩;have hN2:=hN1.below hb2;obtain⟨⟨t0,t1,t2⟩,⟨ft0,ft1,ft2⟩,⟨r0,r1,r2⟩,⟨fr0,fr1,fr2⟩,lr,lt3⟩:=hN2.cells;obtain⟨c0,c1,f1,lt⟩:=hN2.scan.cells);have hN3:=(((hN2.kind hSw 4).text hSw (Utf8.encode ((s[b]'hbl).toNat:Int))).at_ hSw (b+1));rw[show (((b+1:Nat)):Int)=(b:Int)+1 by omega] at hN3;obtain⟨h1,h2,h3⟩:=hN3.fin hSw (.int .i64 4) (.string (Utf8.encode ((s[b]'hbl).toNat:Int))) (.int .i64 b);exact kAi (results88 rfl rfl h1) rfl ⟨by rw[Henc.out];rfl,h2,h3⟩
theorem trim_q (x r:ByteArray) (h:strings_TrimPrefix.f x ⟨#[123]⟩=some r) (w:World):Calls Tryz.prog 124 #[.string x,.string ⟨#[123]⟩] w fun e w'=>e=.returned (.string r)∧∃n,w'=w.drewN n :=
 (strings_TrimPrefix.calls x _ r w h).mono fun _ _ ⟨h1,h2⟩=>⟨h1,h2.out⟩
theorem unit_is (x:ByteArray) (r:Bool) (hs:x.size<9223372036854775807) (h:zCe x=r) (w:World):Calls Tryz.prog 125 #[.string x] w fun e w'=>e=.returned (.bool r)∧Below w.heap.size w w':=by rw[← h];exact unit_any x hs w
theorem zDW (S:Nat) (s:ByteArray) (a b:Nat) (r i o:ByteArray) (f:Bool) (w:World) (ha:a≤s.size) (hs:s.size≤2147483648) (hS:Scan w S s a) (hb:zAt s a=b) (hbl:b<s.size) (k:Int) (hk:srt (s[b]'hbl).toNat=k) (hk2:(k==2)=false) (hk4:(k==4)=false) (hk5:(k==5)=false)
  (ht:strings_TrimPrefix.f (s.extract b s.size) ⟨#[123]⟩=some r) (hi:i.size≤s.size)
  (hcut:∀w,Calls Tryz.prog 123 #[.string r,.string ⟨#[125]⟩] w fun e w'=>e=.returned (.tuple #[.string i,.string o,.bool f])∧∃n,w'=w.drewN n) (t:S47) (n:Nat)
  (hc:((s[b]'hbl).toNat≠123∧t=⟨-1,⟨#[]⟩,b⟩∧n=b)∨((s[b]'hbl).toNat=123∧f=false∧t=⟨-1,⟨#[]⟩,b⟩∧n=b)∨((s[b]'hbl).toNat=123∧f=true∧zCe i=false∧t=⟨-1,⟨#[]⟩,b⟩∧n=b) ∨
   ((s[b]'hbl).toNat=123∧f=true∧zCe i=true∧t=⟨3,i,b⟩∧n=b+(i.size+2))) :
  Calls Tryz.prog 88 #[.pointer (some ⟨S,0,none⟩)] w fun e w'=>e=.returned (.tuple #[tokV t,.bool true])∧w.grownBy w' (some S)∧Scan w' S s n:=by
 have hSw:=hS.cells.2.2.2;have hcall:=fun o=>zDF S s a b w o ha hs hS hb
 have hsort:∀w,Calls Tryz.prog 107 #[.int .i32 (s[b]'hbl).toNat] w fun e w'=>e=.returned (.int .i64 k)∧Below w.heap.size w w':=fun w=>by
  have:=zCI (s[b]'hbl).toNat w;rwa [hk] at this
 have htrim:=trim_q _ _ ht;have hw32:wrap32 ((s[b]'hbl).toNat:Int)=(s[b]'hbl).toNat:=by have:=(s[b]'hbl).toNat_lt;unfold wrap32;omega
 have hne:((b:Int)==(s.size:Int))=false:=by rw[kAd];omega
 have h123:((s[b]'hbl).toNat≠123→(((s[b]'hbl).toNat:Int)==123)=false)∧((s[b]'hbl).toNat=123→(((s[b]'hbl).toNat:Int)==123)=true):=by
  constructor
  ·intro h;rw[kAd];omega
  ·intro h;rw[kAA];omega
 clear hb hk ht;rcases hc with⟨hc,rfl,rfl⟩ | ⟨hc,rfl,rfl,rfl⟩ | ⟨hc,rfl,hu,rfl,rfl⟩ | ⟨hc,rfl,hu,rfl,rfl⟩
 all_goals
  first
   | have q1:=h123.1 hc
   | have q1:=h123.2 hc
  try have hunit:=unit_is i _ kD4 hu
  try clear hu
  clear hc h123;go_enter Tryz.func88,Tryz.ntmps88;go_wp2_with (go_at_call 122;refine (hcall _).mono ?_;rintro e w1 ⟨rfl,hg,hsc⟩;obtain⟨c0,c1,f1,lt⟩:=hsc.cells;have hN:=NextAt.start hg hsc hSw;have hd1:=kAs hN.hT;have hd2:=kB8 hN.hT)
  go_quiet (fail)
  generalize nq=n0 at *;go_wp2
  go_quiet (fail)
  generalize nq=n1 at *;have hN1:=hN.drew (n0+n1);go_wp2_with (go_at_call 107;refine (hsort _).mono ?_;rintro e w2 ⟨rfl,hb2⟩;have hN2:=hN1.below hb2;obtain⟨⟨t0,t1,t2⟩,⟨ft0,ft1,ft2⟩,⟨r0,r1,r2⟩,⟨fr0,fr1,fr2⟩,lr,lt3⟩:=hN2.cells;obtain⟨c0,c1,f1,lt⟩:=hN2.scan.cells)
  go_quiet ((first | (go_at_call 124;exact kCK (htrim _)) | (go_at_call 123;exact kCK (hcut _))))
  generalize nq=n2 at *;have hN3:=hN2.drew n2;clear hsort hcall hN hN1 hN2 hg hsc htrim hcut
 ·go_wp2;obtain⟨h1,h2,h3⟩:=hN3.fin hSw (.int .i64 (-1)) (.string ⟨#[]⟩) (.int .i64 n);exact kAi (results88 rfl rfl h1) rfl ⟨rfl,h2,h3⟩
 ·go_wp2;obtain⟨h1,h2,h3⟩:=hN3.fin hSw (.int .i64 (-1)) (.string ⟨#[]⟩) (.int .i64 n);exact kAi (results88 rfl rfl h1) rfl ⟨rfl,h2,h3⟩
 ·go_wp2_with (go_at_call 125;refine (hunit _).mono ?_;rintro e w4 ⟨rfl,hb4⟩;have hN4:=hN3.below hb4;obtain⟨⟨t0,t1,t2⟩,⟨ft0,ft1,ft2⟩,⟨r0,r1,r2⟩,⟨fr0,fr1,fr2⟩,lr,lt4⟩:=hN4.cells);obtain⟨h1,h2,h3⟩:=hN4.fin hSw (.int .i64 (-1)) (.string ⟨#[]⟩) (.int .i64 n);exact kAi (results88 rfl rfl h1) rfl ⟨rfl,h2,h3⟩
 ·go_wp2_with (go_at_call 125;refine (hunit _).mono ?_;rintro e w4 ⟨rfl,hb4⟩;have hN4:=hN3.below hb4;obtain⟨⟨t0,t1,t2⟩,⟨ft0,ft1,ft2⟩,⟨r0,r1,r2⟩,⟨fr0,fr1,fr2⟩,lr,lt4⟩:=hN4.cells;obtain⟨c0,c1,f1,lt⟩:=hN4.scan.cells);have hN5:=((hN4.kind hSw 3).text hSw i).at_ hSw (b+(i.size+2));rw[show (((b+(i.size+2):Nat)):Int)=(b:Int)+((i.size:Int)+2) by omega] at hN5;obtain⟨h1,h2,h3⟩:=hN5.fin hSw (.int .i64 3) (.string i) (.int .i64 b);exact kAi (results88 rfl rfl h1) rfl ⟨rfl,h2,h3⟩
def brk (l:List UInt8):Nat:=(l.takeWhile (fun c=>c != 125)).length
def zAR (s:ByteArray) (b:Nat):Nat:=b+1+brk (zAu s (b+1))
def zC8 (x:ByteArray):Int:=if zE4 x then 1 else if zBQ x then 0 else -1
def zF0 (c:Nat) (x:ByteArray):Int:=if (c≠48∨x.size=1)∧x.size≤400 then 2 else -1
def zAO (s:ByteArray) (b:Nat):S47×Nat :=
 if h:b<s.size then
  if srt (s[b]'h).toNat=2 then (⟨zC8 (s.extract b (zBt s b)),s.extract b (zBt s b),b⟩,zBt s b)
  else if srt (s[b]'h).toNat=4 then (⟨zF0 (s[b]'h).toNat (s.extract b (zBm s b)),s.extract b (zBm s b),b⟩,zBm s b)
  else if srt (s[b]'h).toNat=5 then (⟨4,⟨#[s[b]'h]⟩,b⟩,b+1)
  else if (s[b]'h).toNat=123∧zAR s b<s.size∧zCe (s.extract (b+1) (zAR s b))=true then (⟨3,s.extract (b+1) (zAR s b),b⟩,zAR s b+1)
  else (⟨-1,⟨#[]⟩,b⟩,b)
 else (⟨-1,⟨#[]⟩,b⟩,b)
theorem indexByte_brk (l:List UInt8):Lib.indexByte l 125=if brk l<l.length then (brk l:Int) else -1:=by
 induction l with
 | nil=>rfl
 | cons c l ih =>
  unfold brk at ih⊢;unfold Lib.indexByte;rw[ih];by_cases h:c=125
  ·subst h;simp
  ·have hc:(c==125)=false:=kDS
   have hc':(c != 125)=true:=kDS
   rw[hc,kB0,hc'];simp only[kBu,kCL,kCO,List.length_cons];generalize (l.takeWhile (fun c=>c != 125)).length=T;by_cases hl:T<l.length
   ·rw[kAa hl,kAa (show T+1<l.length+1 by omega),kA9 (show ¬(((T:Int) == -1)=true) by rw[kAA];omega)];omega
   ·rw[kA9 hl,kA9 (show ¬T+1<l.length+1 by omega)];rfl
theorem bytesAt_length (s:ByteArray) (a:Nat):(zAu s a).length=s.size-a:=by
 unfold zAu;rw[kAm];rfl
theorem zCE (s:ByteArray) (a:Nat):(s.extract a s.size).data.toList=zAu s a:=by
 rw[kBj];exact kBE kD6
theorem trim_brace (s:ByteArray) (b:Nat) (h:b<s.size):strings_TrimPrefix.f (s.extract b s.size) ⟨#[123]⟩=some (if (s[b]'h).toNat=123 then s.extract (b+1) s.size else s.extract b s.size):=by
 have hsz:(s.extract b s.size).size=s.size-b:=kD6
 have h1:((⟨#[123]⟩:ByteArray).size:Int)=1:=rfl;have hx:((s.extract b s.size).extract 0 1).toList=[s[b]'h]:=by
  rw[kAV,kBj,zCE,kBZ];unfold zAu;rw[kAp (show b<s.data.toList.length from h)];rfl
 unfold strings_TrimPrefix.f stringslite_TrimPrefix.f stringslite_HasPrefix.f;rw[h1,hsz,kAa kD4,kAa kD4,kAa kD4];rw[show ((1:Int):Int).toNat=1 from rfl,hx];simp only[Option.bind_some];have e2:(⟨#[123]⟩:ByteArray).toList=[123]:=by rw[kAV]
 rw[e2];by_cases hc:(s[b]'h).toNat=123
 ·have hc':s[b]'h=123:=kCY.1 hc;rw[kAa hc,hc',kAa kD9,kAa kD4,kAa kD4,Option.bind_some];congr 1;apply kBG;apply kBx.1;have hs1:(s.extract b s.size).size-1=s.size-b-1:=by rw[hsz]
  rw[kBj,zCE,← hsz];rw[show (s.extract (b+1) s.size).data.toList=zAu s (b+1) from zCE s (b+1)];unfold zAu;rw[kC0,kBE (by rw[kAm,hs1];have:s.data.toList.length=s.size:=rfl;omega)]
 ·rw[kA9 hc,kA9 (by intro h2;apply hc;rw[kAA,List.cons.injEq] at h2;rw[h2.1];rfl)];rfl
theorem next_unit (S:Nat) (s:ByteArray) (a b:Nat) (w:World) (ha:a≤s.size) (hs:s.size≤2147483648) (hS:Scan w S s a) (hb:zAt s a=b) (hbl:b<s.size)
  (k:Int) (hk:srt (s[b]'hbl).toNat=k) (hk2:(k==2)=false) (hk4:(k==4)=false) (hk5:(k==5)=false) :
  Calls Tryz.prog 88 #[.pointer (some ⟨S,0,none⟩)] w fun e w'=>e=.returned (.tuple #[tokV (zAO s b).1,.bool true])∧w.grownBy w' (some S)∧Scan w' S s (zAO s b).2:=by
 have ht:=trim_brace s b hbl;have n2:¬srt (s[b]'hbl).toNat=2:=by rw[hk];exact kAd.1 hk2
 have n4:¬srt (s[b]'hbl).toNat=4:=by rw[hk];exact kAd.1 hk4
 have n5:¬srt (s[b]'hbl).toNat=5:=by rw[hk];exact kAd.1 hk5
 have hT:zAO s b=if (s[b]'hbl).toNat=123∧zAR s b<s.size∧zCe (s.extract (b+1) (zAR s b))=true then (⟨3,s.extract (b+1) (zAR s b),b⟩,zAR s b+1) else (⟨-1,⟨#[]⟩,b⟩,b):=by
  unfold zAO;rw[kCs hbl,kA9 n2,kA9 n4,kA9 n5]
 have cutv:∀r:ByteArray,r.size≤s.size→∃(i o:ByteArray) (f:Bool),i.size≤s.size∧(∀w,Calls Tryz.prog 123 #[.string r,.string ⟨#[125]⟩] w fun e w'=>e=.returned (.tuple #[.string i,.string o,.bool f])∧∃n,w'=w.drewN n) ∧
   f=decide (brk r.data.toList<r.size)∧(f=true→i=r.extract 0 (brk r.data.toList)):=by
  intro r hr;have hx:=indexByte_brk r.data.toList;by_cases hl:brk r.data.toList<r.size
  ·rw[kAa (show brk r.data.toList<r.data.toList.length from hl)] at hx;exact⟨_,_,true,by rw[kBr];omega,fun w=>cut_some r 125 _ w kD4 hx hl,by simp[hl],fun _=>rfl⟩
  ·rw[kA9 (show ¬brk r.data.toList<r.data.toList.length from hl)] at hx;exact⟨_,_,false,hr,fun w=>cut_none r 125 w hx,by simp[hl],fun h=>by cases h⟩
 by_cases hc:(s[b]'hbl).toNat=123
 ·rw[kAa hc] at ht;obtain⟨i,o,f,hi,hcut,hf,hfi⟩:=cutv (s.extract (b+1) s.size) (by rw[kBr];omega);rw[zCE] at hf hfi;have hsz:(s.extract (b+1) s.size).size=s.size-(b+1):=kD6
  rw[hsz] at hf;by_cases hl:zAR s b<s.size
  ·have hf':f=true:=by rw[hf];unfold zAR at hl;simp;omega
   have hie:i=s.extract (b+1) (zAR s b):=by
    rw[hfi hf',ByteArray.extract_extract];unfold zAR;congr 1;unfold zAR at hl;omega
   cases hu:zCe i
   ·rw[hT,kA9 (by rw[← hie,hu];simp)];exact zDW S s a b _ i o f w ha hs hS hb hbl k hk hk2 hk4 hk5 ht hi hcut _ _ (.inr (.inr (.inl ⟨hc,hf',hu,rfl,rfl⟩)))
   ·rw[hT,kAa ⟨hc,hl,by rw[← hie];exact hu⟩,← hie];refine zDW S s a b _ i o f w ha hs hS hb hbl k hk hk2 hk4 hk5 ht hi hcut _ _ (.inr (.inr (.inr ⟨hc,hf',hu,rfl,?_⟩)));have:i.size=zAR s b-(b+1):=by rw[hie,kBr];omega
    unfold zAR at this⊢;omega
  ·have hf':f=false:=by rw[hf];unfold zAR at hl;simp;omega
   rw[hT,kA9 (by simp[hl])];exact zDW S s a b _ i o f w ha hs hS hb hbl k hk hk2 hk4 hk5 ht hi hcut _ _ (.inr (.inl ⟨hc,hf',rfl,rfl⟩))
 ·rw[kA9 hc] at ht;obtain⟨i,o,f,hi,hcut,_,_⟩:=cutv (s.extract b s.size) (by rw[kBr];omega);rw[hT,kA9 (by simp[hc])];exact zDW S s a b _ i o f w ha hs hS hb hbl k hk hk2 hk4 hk5 ht hi hcut _ _ (.inl ⟨hc,rfl,rfl⟩)
theorem next_any (S:Nat) (s:ByteArray) (a:Nat) (w:World) (ha:a≤s.size) (hs:s.size≤2147483648) (hS:Scan w S s a) :
  Calls Tryz.prog 88 #[.pointer (some ⟨S,0,none⟩)] w fun e w'=>e=.returned (.tuple #[tokV (zAO s (zAt s a)).1,.bool (decide (zAt s a<s.size))])∧w.grownBy w' (some S)∧Scan w' S s (zAO s (zAt s a)).2:=by
 have hle:zAt s a≤s.size:=run_le [1] s a ha;by_cases hbl:zAt s a<s.size
 ·rw[kA8 hbl];by_cases h2:srt (s[zAt s a]'hbl).toNat=2
  ·have hT:zAO s (zAt s a)=(⟨zC8 (s.extract (zAt s a) (zBt s (zAt s a))),s.extract (zAt s a) (zBt s (zAt s a)),zAt s a⟩,zBt s (zAt s a)):=by
    unfold zAO;rw[kCs hbl,kAa h2]
   rw[hT];refine next_small S s a _ _ _ _ w ha hs hS rfl hbl h2 rfl rfl ?_;unfold zC8
   cases zE4 (s.extract (zAt s a) (zBt s (zAt s a)))<;>cases zBQ (s.extract (zAt s a) (zBt s (zAt s a)))<;>simp
  ·by_cases h4:srt (s[zAt s a]'hbl).toNat=4
   ·have hT:zAO s (zAt s a)=(⟨zF0 (s[zAt s a]'hbl).toNat (s.extract (zAt s a) (zBm s (zAt s a))),s.extract (zAt s a) (zBm s (zAt s a)),zAt s a⟩,zBm s (zAt s a)):=by
     unfold zAO;rw[kCs hbl,kA9 h2,kAa h4]
    rw[hT];refine next_digit S s a _ _ _ _ w ha hs hS rfl hbl h4 rfl rfl ?_;generalize s.extract (zAt s a) (zBm s (zAt s a))=x;generalize (s[zAt s a]'hbl).toNat=c;unfold zF0;by_cases hc:c=48
    ·by_cases hx:x.size=1
     ·exact .inr (.inl ⟨hc,hx,by rw[kAa kD4]⟩)
     ·exact .inr (.inr (.inr ⟨hc,hx,by rw[kA9 kD4]⟩))
    ·by_cases hx:x.size≤400
     ·exact .inl ⟨hc,hx,by rw[kAa kD4]⟩
     ·exact .inr (.inr (.inl ⟨hc,kD4,by rw[kA9 kD4]⟩))
   ·by_cases h5:srt (s[zAt s a]'hbl).toNat=5
    ·have hT:zAO s (zAt s a)=(⟨4,⟨#[s[zAt s a]'hbl]⟩,zAt s a⟩,zAt s a+1):=by
      unfold zAO;rw[kCs hbl,kA9 h2,kA9 h4,kAa h5]
     rw[hT];exact next_mark S s a _ w ha hs hS rfl hbl h5
    ·exact next_unit S s a _ w ha hs hS rfl hbl _ rfl (kAd.2 h2) (kAd.2 h4) (kAd.2 h5)
 ·have he:zAt s a=s.size:=kD4
  have hT:zAO s (zAt s a)=(⟨-1,⟨#[]⟩,zAt s a⟩,zAt s a):=by unfold zAO;rw[dif_neg hbl]
  rw[kAc hbl,hT,he];exact next_end S s a w ha hs hS he
def zCf:Nat→ByteArray→Nat→List S47
 | 0,_,_=>[]
 | n+1,s,a=>if zAt s a<s.size then (if (zAO s (zAt s a)).1.f0=-1 then [(zAO s (zAt s a)).1] else (zAO s (zAt s a)).1 :: zCf n s (zAO s (zAt s a)).2) else []
theorem runLen_pos {ks:List Int} {s:ByteArray} {b:Nat} (h:b<s.size) (hk:ks.contains (srt (s[b]'h).toNat)=true):1≤zBc ks (zAu s b):=by
 unfold zAu zBc;rw[kAp (show b<s.data.toList.length from h),kB0];have:okC ks (s.data.toList[b]'(show b<s.data.toList.length from h))=true:=hk;rw[kAa this,List.length_cons];omega
theorem zDQ (s:ByteArray) (b:Nat) (h:b<s.size) (hk:(zAO s b).1.f0≠-1):b<(zAO s b).2∧(zAO s b).2≤s.size:=by
 unfold zAO at hk⊢;rw[kCs h] at hk⊢;split
 ·rename_i h2;have h1:=runLen_pos (ks:=[2,3,4]) h (by rw[h2];rfl);have h3:=run_le [2,3,4] s b kD4;unfold zBt;exact⟨kD4,h3⟩
 ·split
  ·rename_i h4;have h1:=runLen_pos (ks:=[4]) h (by rw[h4];rfl);have h3:=run_le [4] s b kD4;unfold zBm;exact⟨kD4,h3⟩
  ·split
   ·exact⟨kDr,h⟩
   ·split
    ·rename_i h6;unfold zAR at h6⊢;exact⟨kDr,kDr⟩
    ·rename_i h2 h4 h5 h6;rw[kA9 h2,kA9 h4,kA9 h5,kA9 h6] at hk;exact absurd rfl hk
theorem zER {p:Prop} (h:Fence.wide.depth.isSome=true):p:=by simp[Fence.wide] at h
theorem tokens1_in (n l:Nat) (box:Addr) (s:ByteArray) (hs:s.size≤2147483648) (J Jx:List S47→World→Prop) (W:World) (hbox:W.cell? box=some (.string s))
  (hJ:∀pre A B,J pre A→A.grownBy B (some W.heap.size)→J pre B) (hJx:∀pre A B,Jx pre A→A.grownBy B (some W.heap.size)→Jx pre B)
  (hY:∀pre t A,J pre A→(∃rest,zCf (s.size+1) s 0=pre++t :: rest)→W.heap.size<A.heap.size →
   YieldAt Fence.wide (n-1) Tryz.prog l #[tokV t] (A.alloc (.cells #[.int .i64 t.f0,.string t.f1,.int .i64 t.f2] 47)) fun e B =>
    (e=.returned (.bool true)∧J (pre++[t]) B∧B.heap[W.heap.size]?=A.heap[W.heap.size]?∧B.heap[A.heap.size]?=some (.cells #[.int .i64 t.f0,.string t.f1,.int .i64 t.f2] 47 (0,0))) ∨
    (e=.returned (.bool false)∧Jx (pre++[t]) B))
  (h0:J [] W) :
  CallsIn Fence.wide n Tryz.prog 87 #[.func (.yield l) #[] #[],.pointer (some box)] W fun e W'=>e=.returned (.tuple #[])∧(J (zCf (s.size+1) s 0) W'∨∃pre rest,zCf (s.size+1) s 0=pre++rest∧Jx pre W'):=by
 have H0:=kA1 h0;clear h0;have hD:Fence.wide.depth.isSome=false:=rfl;have hF88:Fence.wide.fn 88:=trivial;unfold tokV at hY;have HJJ:=kA1 hJ;have HJX:=kA1 hJx;have HY:=kA1 hY;clear hJ hJx hY;refine kCB Tryz.func87 rfl trivial ?_ rfl;simp only[Tryz.ntmps87,kAb,List.length_cons,List.length_nil,Nat.reduceAdd,Nat.reduceSub,kB2,Array.replicate_zero,kBk,kAR,List.nil_append,List.cons_append]
 gi_wp2
 have hS0:Scan (W.alloc (.cells #[.string s,.int .i64 0] 129)) W.heap.size s 0:=zA4 W _;have HS0:=kA1 hS0;clear hS0
 gi_loopg [] (s.size+1) (fun k wr=>∃pre a,s.size-a+1≤k∧a≤s.size∧Scan wr W.heap.size s a∧Hid (J pre wr)∧Hid (zCf (s.size+1) s 0=pre++zCf k s a))
 case atStart=>exact⟨[],0,kD4,kD4,HS0.out,HJJ.out _ _ _ H0.out (kAE _ _ _),rfl⟩
 case round =>
  obtain⟨pre,a,hka,ha,hsc,HJ,Hf⟩:=hrel;have hnext:=(kBp (n:=n-1)).2 (next_any W.heap.size s a wr ha hs hsc)
  cases gk with
  | zero=>omega
  | succ m =>
   by_cases hb:zAt s a<s.size
   ·obtain⟨t,ht⟩:∃t,t=(zAO s (zAt s a)).1:=⟨_,rfl⟩;obtain⟨a',ha'⟩:∃a',a'=(zAO s (zAt s a)).2:=⟨_,rfl⟩;have Hun:Hid (zCf (m+1) s a=if t.f0=-1 then [t] else t :: zCf m s a'):=by
     show zCf (m+1) s a=_;rw[zCf,kAa hb,← ht,← ha']
    have hmore:=zDQ s (zAt s a) hb;rw[← ht,← ha'] at hmore;rw[← ht,← ha',kA8 hb] at hnext;have Hmore:=kA1 hmore;have hba:a≤zAt s a:=by unfold zAt;omega
    have Hba:=kA1 hba;clear ht ha' hmore hba;unfold tokV at hnext
    gi_wp2_with (gi_at_call 88;refine hnext.mono ?_;rintro e w1 ⟨rfl,hg,hsc1⟩)
    have HJ1:=kA1 (HJJ.out pre wr w1 HJ.out hg);have hlt1:W.heap.size<w1.heap.size:=zA5 hsc1;have Hfull:Hid (∃rest,zCf (s.size+1) s 0=pre++t :: rest):=by
     have h1:=Hf.out;rw[Hun.out] at h1;by_cases ht:t.f0=-1
     ·rw[kAa ht] at h1;exact⟨_,h1⟩
     ·rw[kA9 ht] at h1;exact⟨_,h1⟩
    have hsplit:(t.f0=-1∧(t.f0 == -1)=true)∨(t.f0≠-1∧(t.f0 == -1)=false):=by
     by_cases ht:t.f0=-1
     ·exact .inl ⟨ht,by rw[kAA];exact ht⟩
     ·exact .inr ⟨ht,by rw[kAd];exact ht⟩
    obtain⟨fn,tmps,assign,body,hy,hR⟩:=HY.out pre t w1 HJ1.out Hfull.out hlt1;have hsc2:=kA1 hsc1;clear hsc hsc1;rw[hy]
    gi_wp2
    refine hR.mono ?_;rintro e W3 (⟨rfl,hJ3,hkS,hkT⟩ | ⟨rfl,hJx3⟩)
    ·have HJ3:=kA1 hJ3;have hsc3:Scan W3 W.heap.size s a':=by
      show W3.heap[W.heap.size]?=_;rw[hkS];exact hsc2.out
     have hT0:=zA1 hkT 0;have HT:=kA1 hkT;clear hy hR hJ3 hkS hkT;rcases hsplit with⟨hb1,hb2⟩ | ⟨hb1,hb2⟩
     ·have Hres:Hid (zCf (s.size+1) s 0=pre++[t]):=by
       show _=_;rw[Hf.out,Hun.out,kAa hb1]
      clear hb1
      gi_wp2
      refine kAi (kB4 rfl _ _ _) rfl ⟨rfl,.inl ?_⟩;rw[Hres.out];exact HJ3.out
     ·have Hres:Hid (zCf (s.size+1) s 0=(pre++[t])++zCf m s a'):=by
       show _=_;rw[Hf.out,Hun.out,kA9 hb1,kBl];rfl
      have hm:=Hmore.out hb1;clear hb1
      gi_wp2
      gi_roundg m
      case measure=>omega
      case rel=>exact⟨pre++[t],a',by have:=Hba.out;omega,kD4,hsc3,HJ3,Hres⟩
    ·have HJ3:=kA1 hJx3;clear hy hR hJx3
     gi_wp2
     obtain⟨rest,hrest⟩:=Hfull.out;refine kAi (kB4 rfl _ _ _) rfl ⟨rfl,.inr ⟨pre++[t],rest,?_,HJ3.out⟩⟩;rw[hrest,kBl];rfl
   ·have Hres:Hid (zCf (s.size+1) s 0=pre):=by
     show _=_;rw[Hf.out,zCf,kA9 hb,kCi]
    rw[kAc hb] at hnext;unfold tokV at hnext
    gi_wp2_with (gi_at_call 88;refine hnext.mono ?_;rintro e w1 ⟨rfl,hg,hsc1⟩)
    refine⟨fun f hf=>(by cases hf),?_⟩
    gi_wp2
    refine kAi (kB4 rfl _ _ _) rfl ⟨rfl,.inl ?_⟩;rw[Hres.out];exact HJJ.out _ _ _ (HJJ.out pre wr w1 HJ.out hg) (kAE _ _ _)
def tokO (t:S47):Obj:=.cells #[.int .i64 t.f0,.string t.f1,.int .i64 t.f2] 47
def zA9 (s:ByteArray):List S47:=zCf (s.size+1) s 0
def tokPost (S T:Nat) (I Ix:List S47→World→Prop) (xs:List S47) (W:World):Exit→Act→World→Prop
 | .normal,_,W'=>KeepsOthers W W'∧I xs W'∧W'.heap[S]?=W.heap[S]?∧W'.heap[T]?=W.heap[T]?
 | .ret,_,W'=>KeepsOthers W W'∧Ix xs W'
 | _,_,_=>False
theorem zAz (W:World) (l:Nat) (o:Obj):W.grownBy (W.putObj l o) (some l) :=
 ⟨rfl,rfl,rfl,kD6,fun k _ hk=>kAq (fun e=>hk (by rw[e]))⟩
theorem zCo (w:World) (o o':Obj) (row:Option Nat):w.grownBy ((w.alloc o).alloc o') row:=kCd (kAE w o row) o'
theorem zDy {n:Nat} {g:Operand} {p:Tmp} {assign body:Code} {Q:Exit→Act→World→Prop} {a:Act} {w:World} {box:Addr} {s:ByteArray} (tm:S47→Nat→Array Value)
  (hg:a.eval g=.func (.func 87) #[] #[.pointer (some box)]) (hs:s.size≤2147483648) (hbox:w.cell? box=some (.string s))
  (I Ix:List S47→World→Prop)
  (hI:∀pre A B k,I pre A→(k=w.heap.size+1∨k=w.heap.size+2)→A.grownBy B (some k)→I pre B)
  (hIx:∀pre A B k,Ix pre A→(k=w.heap.size+1∨k=w.heap.size+2)→A.grownBy B (some k)→Ix pre B) (h0:I [] w)
  (hassign:∀(l:Nat) (t:S47) (A:World) (K:Act→World→Prop),K { tmps:=tm t A.heap.size,defers:=[] } (A.alloc (tokO t)) →
   assign.wpIn (Fence.wide.inRound l) (n-1-1) Tryz.prog (Exit.then K (fun _ _ _=>False)) { tmps:=a.tmps.setIfInBounds p (tokV t),defers:=[] } A)
  (hbody:∀(pre:List S47) (t:S47) (A W0:World),I pre A→(∃rest,zA9 s=pre++t :: rest)→w.heap.size+2<A.heap.size →
   ((A.alloc (tokO t)).alloc (tokO t)).grownBy W0 (some (w.heap.size+1))→W0.heap.size=A.heap.size+2 →
   body.wpIn (Fence.wide.inRound (w.heap.size+1)) (n-1-1) Tryz.prog (tokPost (w.heap.size+2) A.heap.size I Ix (pre++[t]) W0) { tmps:=tm t (A.heap.size+1),defers:=[] } W0)
  (hdone:∀(W:World),I (zA9 s) W→W.heap[w.heap.size]?=some (.deferred (some []))→Q .normal { a with defers:={ target:=.collected w.heap.size,args:=#[] } :: a.defers } W)
  (hstop:∀(pre rest:List S47) (W:World),zA9 s=pre++rest→Ix pre W→W.heap[w.heap.size]?=some (.deferred (some [])) →
   Code.ret.wpIn Fence.wide n Tryz.prog Q { a with defers:={ target:=.collected w.heap.size,args:=#[] } :: a.defers } W) :
  (Code.rangeFunc g #[p] assign body).wpIn Fence.wide n Tryz.prog Q a w:=by
 refine wpIn_rangeFunc ?_;intro fn _;obtain⟨rec,hrec⟩:∃rec:LoopState→Option Code→Loop,rec=fun st pe=>{ state:=st,pending:=pe,fn,tmps:=a.tmps,params:=#[p],assign,body,defers:=w.heap.size }:=⟨_,rfl⟩
 obtain⟨W1,hW1⟩:∃W1,(w.alloc (.deferred (some []))).alloc (.loop (rec .ready none))=W1:=⟨_,rfl⟩;have hsz1:W1.heap.size=w.heap.size+2:=by rw[← hW1];simp
 have hL1:W1.heap[w.heap.size+1]?=some (.loop (rec .ready none)):=by
  rw[← hW1];have:=kBQ (w.alloc (.deferred (some []))) (.loop (rec .ready none));rwa [kAw] at this
 have hK1:W1.heap[w.heap.size]?=some (.deferred (some [])):=by
  rw[← hW1];exact (kA4 _ _ _ kD6).trans (kBQ w _)
 have hI1:I [] W1:=by rw[← hW1];exact hI _ _ _ _ h0 (.inl rfl) (zCo _ _ _ _)
 have hbx:box.block<w.heap.size:=kAJ w box hbox;have hb1:W1.cell? box=some (.string s):=by
  rw[← hW1];have hb:Below w.heap.size w ((w.alloc (.deferred (some []))).alloc (.loop (rec .ready none))):=((kA3 _ w).alloc (kA2 _) _).alloc kD6 _;exact (hb.cell hbx).trans hbox
 refine⟨w.heap.size+1,[{ target:=.collected w.heap.size,args:=#[] }],W1,{ target:=.fn (.func 87) #[.pointer (some box)],args:=#[.func (.yield (w.heap.size+1)) #[] #[]] },W1,87,
  #[.func (.yield (w.heap.size+1)) #[] #[],.pointer (some box)],W1,?_,?_,?_,?_,zER,?_⟩
 ·rw[← hW1,hrec];exact run_enterLoop_outer _ _ _ _ _
 ·simp only[resolve,hg];simp[go_sem]
 ·intro f' _;trivial
 ·simp only[invoke];simp[go_sem]
 ·have hS:∀B:World,w.heap.size+2<B.heap.size→w.heap.size+2<B.heap.size:=fun _ h=>h
  refine (tokens1_in (n-1) (w.heap.size+1) box s hs
   (fun pre W=>I pre W∧W.heap[w.heap.size+1]?=some (.loop (rec .ready none))∧W.heap[w.heap.size]?=some (.deferred (some [])))
   (fun pre W=>Ix pre W∧W.heap[w.heap.size+1]?=some (.loop (rec .done (some .ret)))∧W.heap[w.heap.size]?=some (.deferred (some [])))
   W1 hb1 ?_ ?_ ?_ ⟨hI1,hL1,hK1⟩).mono ?_
  ·rintro pre A B⟨hi,hl,hk⟩ hgr;rw[hsz1] at hgr;have hlA:=zA5 hl;exact⟨hI _ _ _ _ hi (.inr rfl) hgr,(hgr.block _ hlA kDa).trans hl,(hgr.block _ kD4 kDa).trans hk⟩
  ·rintro pre A B⟨hi,hl,hk⟩ hgr;rw[hsz1] at hgr;have hlA:=zA5 hl;exact⟨hIx _ _ _ _ hi (.inr rfl) hgr,(hgr.block _ hlA kDa).trans hl,(hgr.block _ kD4 kDa).trans hk⟩
  ·-- one round
   rintro pre t A⟨hi,hl,hk⟩ hrest hAS;rw[hsz1] at hAS⊢;have hlA:=zA5 hl;have hl0:(A.alloc (tokO t)).heap[w.heap.size+1]?=some (.loop (rec .ready none)):=(kA4 _ _ _ hlA).trans hl;have hy:=run_yield (P:=Tryz.prog) (args:=#[tokV t]) hl0 (by rw[hrec];rfl);rw[hrec] at hy;refine⟨fn,_,assign,body,hy,roundIn_of_wpIn trivial ?_⟩;have hzip:(#[p].zip #[tokV t]).foldl (fun tmps (x:Tmp×Value)=>tmps.setIfInBounds x.1 x.2) a.tmps=a.tmps.setIfInBounds p (tokV t):=kD6
   show assign.wpIn _ _ _ _ { tmps:=(#[p].zip #[tokV t]).foldl (fun tmps (x:Tmp×Value)=>tmps.setIfInBounds x.1 x.2) a.tmps,defers:=[] } _;rw[hzip];refine hassign _ t _ _ ?_;have hl1:((A.alloc (tokO t)).alloc (tokO t)).heap[w.heap.size+1]?=some (.loop (rec .ready none)):=(kA4 _ _ _ kD8).trans hl0;refine⟨_,run_beginRound hl1 (by rw[hrec]),?_⟩;obtain⟨W0,hW0⟩:∃W0,W0=((A.alloc (tokO t)).alloc (tokO t)).putObj (w.heap.size+1) (.loop { rec .ready none with state:=.busy }):=⟨_,rfl⟩;show Code.wpIn _ _ _ body _ _ (((A.alloc (tokO t)).alloc (tokO t)).putObj (w.heap.size+1) (.loop { rec .ready none with state:=.busy }));rw[← hW0];have hgr0:((A.alloc (tokO t)).alloc (tokO t)).grownBy W0 (some (w.heap.size+1)):=by rw[hW0];exact zAz _ _ _
   have hz0:W0.heap.size=A.heap.size+2:=by rw[hW0];simp
   have hl2:W0.heap[w.heap.size+1]?=some (.loop { rec .ready none with state:=.busy }):=by rw[hW0];exact kBe kD8
   have hk2:W0.heap[w.heap.size]?=some (.deferred (some [])):=(hgr0.block _ kD8 kDa).trans ((kA4 _ _ _ kD8).trans ((kA4 _ _ _ kD4).trans hk));have hT2:W0.heap[A.heap.size]?=some (tokO t):=(hgr0.block _ kD8 kDa).trans ((kA4 _ _ _ kD6).trans (zA4 A _));have hS2:W0.heap[w.heap.size+2]?=A.heap[w.heap.size+2]?:=(hgr0.block _ kD8 kDa).trans ((kA4 _ _ _ kD8).trans (kA4 _ _ _ kD4));have hz:(A.alloc (tokO t)).heap.size=A.heap.size+1:=kD6
   show Code.wpIn _ _ _ body _ { tmps:=tm t (A.alloc (tokO t)).heap.size,defers:=[] } _;rw[hz];refine wpIn_mono (hbody pre t A W0 hi hrest hAS hgr0 hz0) ?_;rintro e a3 W3 hp
   cases e with
   | normal =>
    obtain⟨hk3,hi3,hS3,hT3⟩:=hp;have hl3:=hk3.same _ _ hl2 rfl;have hd3:=hk3.same _ _ hk2 rfl;have hr:=run_endRound (P:=Tryz.prog) none hl3;rw[hrec] at hr hl3;refine⟨_,_,hr,.inl ⟨rfl,⟨hI _ _ _ _ hi3 (.inl rfl) (zAz _ _ _),?_,(kAq kD4).trans hd3⟩,(kAq kD4).trans (hS3.trans hS2),(kAq kD4).trans (hT3.trans hT2)⟩⟩;rw[hrec];exact kBe (zA5 hl3)
   | ret =>
    obtain⟨hk3,hi3⟩:=hp;have hl3:=hk3.same _ _ hl2 rfl;have hd3:=hk3.same _ _ hk2 rfl;have hr:=run_endRound (P:=Tryz.prog) (some .ret) hl3;rw[hrec] at hr hl3;refine⟨_,_,hr,.inr ⟨rfl,hIx _ _ _ _ hi3 (.inl rfl) (zAz _ _ _),?_,(kAq kD4).trans hd3⟩⟩;rw[hrec];exact kBe (zA5 hl3)
   | exit id=>exact hp.elim
   | goto t=>exact hp.elim
   | panic ch=>exact hp.elim
   | outgrown=>exact hp.elim
  ·rintro e W2⟨rfl,(⟨hi,hl,hk⟩ |⟨pre,rest,hpr,hi,hl,hk⟩)⟩
   ·have he:=run_endLoop (P:=Tryz.prog) hl kDH;rw[hrec] at he;exact⟨none,_,he,hdone _ (hI _ _ _ _ hi (.inl rfl) (zAz _ _ _)) ((kAq kD4).trans hk)⟩
   ·have he:=run_endLoop (P:=Tryz.prog) hl kDH;rw[hrec] at he;exact⟨some .ret,_,he,hstop pre rest _ hpr (hIx _ _ _ _ hi (.inl rfl) (zAz _ _ _)) ((kAq kD4).trans hk)⟩
theorem tokens_in (n:Nat) (s:ByteArray) (w:World):CallsIn Fence.wide n Tryz.prog 53 #[.string s] w fun e w'=>e=.returned (.func (.func 87) #[] #[.pointer (some ⟨w.heap.size,0,none⟩)])∧w'=w.alloc (.cells #[.string s] 9):=by
 refine kCB Tryz.func53 rfl trivial ?_ rfl;simp only[Tryz.ntmps53,kAb,List.length_cons,List.length_nil,Nat.reduceAdd,Nat.reduceSub,kB2,Array.replicate_zero,kBk,kAR,List.nil_append,List.cons_append]
 gi_wp2
 go_ret;exact⟨rfl,rfl⟩
section
attribute [local go_sem] Oper.semAt_some
def tokC (t:S47):List Value:=[.int .i64 t.f0,.string t.f1,.int .i64 t.f2]
def flat (ts:List S47):List Value:=ts.flatMap tokC
theorem zG4 (ts:List S47) (t:S47):flat (ts++[t])=flat ts++tokC t:=by simp[flat]
theorem zCl (n:Nat) (s:ByteArray):∀a,(zCf n s a).length≤n:=by
 induction n with
 | zero=>intro a;exact kA2 _
 | succ n ih =>
  intro a;rw[zCf];split
  ·split
   ·simp
   ·rw[List.length_cons];have:=ih (zAO s (zAt s a)).2;omega
  ·simp
def zAP (W:World) (base:Nat) (v:Value) (ts:List S47):Prop:=W.ownsRow base 47 3 v ts.length (flat ts)
theorem zAP.kept {W W':World} {base:Nat} {v:Value} {ts:List S47} (h:zAP W base v ts) {k:Nat} (hk:k<base) (hg:W.grownBy W' (some k)):zAP W' base v ts:=by
 refine World.ownsRow.kept h hg ?_
 cases hv:v.ownBlock with
 | none=>exact .inl rfl
 | some b=>refine .inr (fun e=>?_);injection e with e;have:=(kBy h b hv).1;omega
theorem results133 {tmps:Array Value} {W:World} {R:Nat} {cs:Array Value} (h2:tmps.getD 2 undef=.pointer (some ⟨R,0,none⟩)) (hs:cs.size=3) (hR:W.heap[R]?=some (.cells cs 93 (0,0))) :
  (results Tryz.f133 tmps).run Tryz.prog W=.ok (.agg cs) W:=by
 have hp':tmps[2]?.getD undef=.pointer (some ⟨R,0,none⟩):=by simpa using h2
 have hi:(Tryz.prog.info? 93).map (·.size)=some cs.size:=by rw[hs];kernel_rfl
 simp[results,Tryz.results133,hp',asAddr,kC1 W R 93 93 cs (0,0) _ hR Tryz.underlying93 rfl hi]
theorem newQueue_in (n:Nat) (s:ByteArray) (hs:s.size≤2000) (w:World):CallsIn Fence.wide n Tryz.prog 133 #[.string s] w fun e w' =>
  ∃v,e=.returned (.agg #[v,.int .i64 0,.int .i64 s.size])∧zAP w' w.heap.size v (zA9 s)∧Below w.heap.size w w':=by
 have hD:Fence.wide.depth.isSome=false:=rfl;have hF53:Fence.wide.fn 53:=trivial;refine kCt Tryz.func133 rfl trivial ?_ rfl;simp only[Tryz.ntmps133,kAb,List.length_cons,List.length_nil,Nat.reduceAdd,Nat.reduceSub,kB2,Array.replicate_zero,kBk,kAR,List.nil_append,List.cons_append]
 gi_wp2_with (gi_at_call 53;refine (tokens_in (n-1) s _).mono ?_;rintro e w' ⟨rfl,rfl⟩)
 obtain⟨W,hW⟩:∃W,W=(((w.alloc (Obj.cells #[Value.slice none 0 0,Value.int IntKind.i64 0,Value.int IntKind.i64 0] 93)).alloc (Obj.cells #[Value.slice none 0 0,Value.int IntKind.i64 0,Value.int IntKind.i64 s.size] 93)).alloc (Obj.cells #[Value.string s] 9)):=⟨_,rfl⟩;have hz:W.heap.size=w.heap.size+3:=by rw[hW];simp
 have hbW:Below w.heap.size w W:=by rw[hW];exact (((kA3 _ w).alloc (kA2 _) _).alloc kD6 _).alloc kD8 _
 have hR:W.heap[w.heap.size]?=some (.cells #[.slice none 0 0,.int .i64 0,.int .i64 0] 93 (0,0)):=by
  rw[hW];exact (kA4 _ _ _ kD8).trans ((kA4 _ _ _ kD6).trans (zA4 w _))
 have hQ:W.heap[w.heap.size+1]?=some (.cells #[.slice none 0 0,.int .i64 0,.int .i64 s.size] 93 (0,0)):=by
  rw[hW];have:=zA4 (w.alloc (Obj.cells #[Value.slice none 0 0,Value.int IntKind.i64 0,Value.int IntKind.i64 0] 93)) (Obj.cells #[Value.slice none 0 0,Value.int IntKind.i64 0,Value.int IntKind.i64 s.size] 93);rw[kAw] at this;exact (kA4 _ _ _ kD6).trans this
 have hB:W.heap[w.heap.size+2]?=some (.cells #[.string s] 9 (0,0)):=by
  rw[hW];have:=zA4 ((w.alloc (Obj.cells #[Value.slice none 0 0,Value.int IntKind.i64 0,Value.int IntKind.i64 0] 93)).alloc (Obj.cells #[Value.slice none 0 0,Value.int IntKind.i64 0,Value.int IntKind.i64 s.size] 93)) (Obj.cells #[Value.string s] 9);rw[kAw,kAw] at this;exact this
 rw[← hW];clear hW;refine zDy (box:=⟨w.heap.size+2,0,none⟩) (s:=s)
  (fun t U=>#[Value.string s,undef,Value.pointer (some ⟨w.heap.size,0,none⟩),Value.pointer (some ⟨w.heap.size+1,0,none⟩),Value.pointer (some ⟨U,0,none⟩),Value.string s,Value.int IntKind.i64 s.size,
     Value.agg #[Value.slice none 0 0,Value.int IntKind.i64 0,Value.int IntKind.i64 s.size],Value.string s,Value.func (Fn.func 87) #[] #[Value.pointer (some ⟨w.heap.size+1+1,0,none⟩)],tokV t,undef,undef,undef,undef,undef,undef,undef])
  rfl kD4 (zA1 hB 0)
  (fun pre X=>∃v,zAP X (W.heap.size+3) v pre∧X.heap[w.heap.size+1]?=some (.cells #[v,.int .i64 0,.int .i64 s.size] 93 (0,0))∧X.heap[w.heap.size]?=some (.cells #[.slice none 0 0,.int .i64 0,.int .i64 0] 93 (0,0))∧Below w.heap.size w X)
  (fun _ _=>False) ?hI (fun _ _ _ _ h _ _=>h) ⟨_,kCl _ _ _ _,hQ,hR,hbW⟩ ?assign ?body ?done (fun _ _ _ _ h _=>h.elim)
 case hI =>
  rintro pre A B k⟨v,ho,hq,hr,hb⟩ hk hg;exact⟨v,ho.kept kD4 hg,(hg.block _ (zA5 hq) kDa).trans hq,(hg.block _ (zA5 hr) kDa).trans hr,hb.grown hg hb.size (fun j e=>by injection e with e;omega)⟩
 case assign =>
  intro l t A K hK;unfold tokV at hK⊢;unfold tokO at hK
  gi_wp2
  exact hK
 case body =>
  rintro pre t A W0⟨v,ho,hq,hr,hb⟩ hrest hlt hg hz0;unfold tokV;have hq0:W0.heap[w.heap.size+1]?=some (.cells #[v,.int .i64 0,.int .i64 s.size] 93 (0,0)) :=
   (hg.block _ (by simp;have:=zA5 hq;omega) kDa).trans ((kA4 _ _ _ (by simp;have:=zA5 hq;omega)).trans ((kA4 _ _ _ (zA5 hq)).trans hq))
  have hU:W0.heap[A.heap.size+1]?=some (tokO t):=by
   have:=zA4 (A.alloc (tokO t)) (tokO t);rw[kAw] at this;exact (hg.block _ kD6 kDa).trans this
  have q0:=zA1 hq0 0;have q1:=zA2 hq0 0;have u0:=zA1 hU 0;have u1:=zA1 hU 1;have u2:=zA1 hU 2;obtain⟨i0,hi,iz0,iz1,iz2⟩:=info_parts info47;have HO:(W0.alloc (tokO t)).ownsRow (W.heap.size+3) 47 3 v pre.length (flat pre) :=
   zAP.kept (k:=W.heap.size+1) (zAP.kept (k:=W.heap.size+1) ho kD4 (kA7 (zCo A (tokO t) (tokO t) _) hg)) kD4 (kAE _ _ _)
  have HN:(W0.alloc (tokO t)).heap[A.heap.size+2]?=some (.cells (tokC t).toArray 47 (0,0)):=by
   have:=zA4 W0 (tokO t);rw[hz0] at this;exact this
  have HC:∀j u,(tokC t)[j]?=some u→(W0.alloc (tokO t)).cell? ((⟨A.heap.size+2,0,none⟩:Addr).add j)=some u:=by simpa using kBL HN
  have hlen:pre.length≤s.size:=by
   obtain⟨rest,hrest⟩:=hrest;have h1:=zCl (s.size+1) s 0;unfold zA9 at hrest;rw[hrest,kAt,List.length_cons] at h1;omega
  have hzc:(Value.agg #[.int .i64 0,.string ⟨#[]⟩,.int .i64 0]).cells.size=3:=rfl;have hone:∀u∈tokC t,u.oneCell'=true:=by simp[tokC,Value.oneCell']
  have hb1:pre.length+1≤maxLen:=kDn
  have hb2:(pre.length+1)*32≤140737488355328:=kD4
  have hb3:W.heap.size+3≤(W0.alloc (tokO t)).heap.size:=kDw
  have hqlt:w.heap.size+1<(W0.alloc (tokO t)).heap.size:=kDw
  have hqa:(W0.alloc (tokO t)).heap[w.heap.size+1]?=some (.cells #[v,.int .i64 0,.int .i64 s.size] 93 (0,0)):=(kA4 _ _ _ kD4).trans hq0;have hqne:some (w.heap.size+1)≠v.ownBlock:=fun e=>by have:=(kBy HO _ e.symm).1;omega
  have hne:∀k,(k<W.heap.size+3∨A.heap.size≤k)→some k≠v.ownBlock:=fun k hk e=>by have:=kBy ho _ e.symm;omega
  have H1:=kA1 HO;have H2:=kA1 HC;have HQ:=kA1 hq;have HQ0:=kA1 hq0;have HU:=kA1 hU;clear hq hq0 hU HO HC HN hrest
  gi_wp2_with (gi_at_builtin;go_loud (refine kC4 _ rfl _ _ 35 rfl (W.heap.size+3) 47 i0 (.agg #[.int .i64 0,.string ⟨#[]⟩,.int .i64 0]) 3 32 Tryz.underlying35 hi iz0 iz1 iz2 hzc (kCq 2) v pre.length (flat pre) rfl H1.out ⟨A.heap.size+2,0,none⟩ 1 1 (tokC t) rfl rfl H2.out hone hb1 hb2 hb3 ?_);intro v' w1 hown' hgrow _;obtain⟨Av,cv,rfl⟩:=zC7 hown';have hq1:=(hgrow.block (w.heap.size+1) hqlt hqne).trans hqa;have c1:=zA1 hq1 0;have c2:=zA2 hq1 0;have HW:=kA1 hown';clear hown')
  have hQne:w.heap.size+1<W.heap.size+3:=kD4
  refine⟨?_,⟨.slice Av (pre.length+1) cv,?_,?_,?_,?_⟩,?_,?_⟩
  ·exact ((kCE W0 (tokO t)).trans (kCc hgrow (fun j o hj ho=>by
    obtain⟨cells,hc⟩:=zDf H1.out j hj;rw[hc] at ho;cases ho;rfl))).trans (kBH _ _ _)
  ·exact zAP.kept (ts:=pre++[t]) (k:=w.heap.size+1) (by unfold zAP;rw[kAt,zG4];exact HW.out) hQne (kAf _ _ _ _)
  ·exact zA8 hq1 0 _
  ·exact (kA5 _ _ _ _ kD6).trans ((hgrow.block _ kDw (hne _ (.inl kD4))).trans ((kA4 _ _ _ kD4).trans ((hg.block _ kD8 kDa).trans ((kA4 _ _ _ kD8).trans ((kA4 _ _ _ kD4).trans hr)))))
  ·have h1:=((hb.alloc kD4 (tokO t)).alloc kD8 (tokO t)).grown hg kD8 (fun k e=>by injection e with e;omega);exact ((h1.alloc kD4 (tokO t)).grown hgrow kD8 (fun k e=>by have:=(kBy H1.out k e).1;omega)).setCell (p:=⟨w.heap.size+1,0,none⟩) kD6 _
  ·exact (kA5 _ _ _ _ kD8).trans ((hgrow.block _ kDw (hne _ (.inl kD4))).trans (kA4 _ _ _ kD4))
  ·exact (kA5 _ _ _ _ kD8).trans ((hgrow.block _ kDw (hne _ (.inr (kA2 _)))).trans (kA4 _ _ _ kD4))
 case done =>
  rintro X⟨v,ho,hq,hr,hb⟩ hdef;obtain⟨Av,cv,rfl⟩:=zC7 ho;have q0:=zA1 hq 0;have q1:=zA1 hq 1;have q2:=zA1 hq 2;have r0:=zA1 hr 0;have r1:=zA1 hr 1;have r2:=zA1 hr 2;have f0:=zA2 hr 0;have f1:=zA2 hr 1;have f2:=zA2 hr 2;have HQ:=kA1 hq;have HR:=kA1 hr;clear hq hr
  gi_wp2
  have hX:((((X.setCell ⟨w.heap.size,0,none⟩ (.slice Av (zA9 s).length cv)).setCell ⟨w.heap.size,1,none⟩ (.int .i64 0)).setCell ⟨w.heap.size,2,none⟩ (.int .i64 s.size))).heap[w.heap.size]?=some (.cells #[.slice Av (zA9 s).length cv,.int .i64 0,.int .i64 s.size] 93 (0,0)):=zA8 (zA8 (zA8 HR.out 0 _) 1 _) 2 _;have hd:((((X.setCell ⟨w.heap.size,0,none⟩ (.slice Av (zA9 s).length cv)).setCell ⟨w.heap.size,1,none⟩ (.int .i64 0)).setCell ⟨w.heap.size,2,none⟩ (.int .i64 s.size))).heap[W.heap.size]?=some (.deferred (some [])) :=
   (kA5 _ _ _ _ kD8).trans ((kA5 _ _ _ _ kD8).trans ((kA5 _ _ _ _ kD8).trans hdef))
  have hbb:Below w.heap.size w ((((X.setCell ⟨w.heap.size,0,none⟩ (.slice Av (zA9 s).length cv)).setCell ⟨w.heap.size,1,none⟩ (.int .i64 0)).setCell ⟨w.heap.size,2,none⟩ (.int .i64 s.size))) :=
   ((hb.setCell (p:=⟨w.heap.size,0,none⟩) (kA2 _) _).setCell (p:=⟨w.heap.size,1,none⟩) (kA2 _) _).setCell (p:=⟨w.heap.size,2,none⟩) (kA2 _) _
  have hoo:zAP ((((X.setCell ⟨w.heap.size,0,none⟩ (.slice Av (zA9 s).length cv)).setCell ⟨w.heap.size,1,none⟩ (.int .i64 0)).setCell ⟨w.heap.size,2,none⟩ (.int .i64 s.size))) (W.heap.size+3) (.slice Av (zA9 s).length cv) (zA9 s) :=
   zAP.kept (k:=w.heap.size) (zAP.kept (k:=w.heap.size) (zAP.kept (k:=w.heap.size) ho kD4 (kAf _ _ _ _)) kD4 (kAf _ _ _ _)) kD4 (kAf _ _ _ _)
  generalize ((((X.setCell ⟨w.heap.size,0,none⟩ (.slice Av (zA9 s).length cv)).setCell ⟨w.heap.size,1,none⟩ (.int .i64 0)).setCell ⟨w.heap.size,2,none⟩ (.int .i64 s.size)))=X' at *;refine⟨kD6,.inl ⟨_,_,rfl,kC9 hd,?_⟩⟩;refine⟨_,results133 rfl rfl ((kAq kD4).trans hX),_,rfl,?_,?_⟩
  ·exact zDU (zAP.kept (k:=W.heap.size) hoo kD4 (zAz _ _ _)) kD4
  ·exact hbb.grown (zAz _ _ _) (by have:=hbb.size;exact this) (fun k e=>by injection e with e;omega)
end
end Go.Proofs.YtjaobihcdkjmbaaGreatDoor
end
