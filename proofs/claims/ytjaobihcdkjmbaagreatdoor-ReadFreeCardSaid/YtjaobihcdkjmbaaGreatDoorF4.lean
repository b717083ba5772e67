/- The law ReadFree answers true for every argument; a part of its proof. -/
import Derived.Deep.LoopGhost
import Derived.RangeFuncRecord
import Derived.Below
import Derived.Lib.BufferOwn
import Derived.Shelf.Strings.Builder1
import Derived.Shelf.Strings.Builder2
import Derived.Shelf.Strings.OnBuilder
import Derived.Shelf.Small.Bits
import Derived.Shelf.Small.Wraps
import Derived.Shelf.Strings.BuilderF
import Derived.Shelf.Strings.BuilderK
import Derived.Shelf.Strings.Builder2Cap
import Derived.Shelf.Strconv.Atoi
import Derived.Shelf.Strconv.Itoa0
import Derived.Shelf.Strconv.Itoa1
import Derived.Shelf.LaysM
import Derived.Shelf.Strconv.Itoa2
import Derived.Shelf.Strconv.Itoa3
import Derived.Shelf.Strconv.AtoiErrFast
import Derived.Shelf.Strconv.ParseIntEmpty
import Derived.Shelf.Strconv.AtoiFail
import Derived.Shelf.Strconv.Clone
import Derived.Shelf.Strconv.SyntaxError
import Derived.Shelf.LaysC
import Derived.Shelf.Strconv.ToError
import Derived.Shelf.Strconv.AtoiErr
import Derived.Shelf.Strconv.ErrVar
import Derived.Shelf.Strconv.Lower
import Derived.Shelf.Strconv.ParseUint10
import Derived.Shelf.Strconv.ParseUint10Empty
import Derived.Shelf.Strconv.ParseUint10Any
import Derived.Shelf.Strconv.ParseInt10
import Derived.Shelf.Strconv.AtoiLong
import Derived.Shelf.Strconv.AtoiInnerAll
import Derived.Shelf.Strconv.RangeError
import Derived.Shelf.Strconv.ToErrorRange
import Derived.Shelf.Strconv.AtoiAll
import Derived.Shelf.Strconv.ErrVarAll
import Derived.Shelf.Strings.Search1
import Derived.Shelf.Strings.Search2
import Derived.Shelf.Strings.Cut
import Derived.Shelf.Strings.Shaped
import Derived.Shelf.Sort.Plain
import Derived.Shelf.Strings.Prefix
import Derived.Shelf.Strings.BuilderCap
import Derived.Ground.Names2Prog
import Derived.Shelf.Slices.SearchI
import Derived.Test.YtjaobihcdkjmbaaGreatDoorProg
import Derived.Deep.QuietTactic
import Derived.BigQuiet
import Derived.Test.YtjaobihcdkjmbaaGreatDoorF0
import Derived.Test.YtjaobihcdkjmbaaGreatDoorF3
set_option linter.unusedVariables false
set_option linter.unusedSimpArgs false
section
namespace Go.Proofs.YtjaobihcdkjmbaaGreatDoor
open Go.RowKit Go.Proofs.YtjaobihcdkjmbaaGreatDoorW.PrintWords
theorem run_next_gen {P:Program} (w:World) (b:Nat) (s:ByteArray) (pos:Nat) (ty:TypeId) (hb:w.heap[b]?=some (.stringIter s pos)) (h:pos < s.size) :
  (Instr.next (.pointer (some ⟨b,0,none⟩)) true ty).run P w=.ok (.tuple #[.bool true,.int .i64 pos,.int .i32 (Utf8.decode s pos).1]) (w.putObj b (.stringIter s (pos+(Utf8.decode s pos).2))):=by
 simp [Instr.next,getObj,setObj,Sem.run_bind,Sem.run,hb,Result.andThen,h,World.putObj,goInt]
theorem run_next_stop {P:Program} (w:World) (b:Nat) (s:ByteArray) (pos:Nat) (ty:TypeId) (hb:w.heap[b]?=some (.stringIter s pos)) (h:¬ pos < s.size) :
  (Instr.next (.pointer (some ⟨b,0,none⟩)) true ty).run P w=.ok (.tuple #[.bool false]) w:=by
 simp [Instr.next,getObj,Sem.run,hb,h]
def okC (ks:List Int) (b:UInt8):Bool:=ks.contains (srt b.toNat)
def runLen (ks:List Int) (l:List UInt8):Nat:=(l.takeWhile (okC ks)).length
theorem markFrom_high (c:Int) (h:128≤c):markFrom c ms.data.toList=false:=by
 have hd:∀ l:List UInt8,(∀ m ∈ l,m.toNat < 128)→markFrom c l=false:=by
  intro l
  induction l with
  | nil=>intro _;rfl
  | cons m l ih =>
   intro hl
   have h1:=hl m List.mem_cons_self
   simp only [markFrom,ih (fun x hx=>hl x (List.mem_cons_of_mem _ hx)),Bool.or_false]
   rw [beq_eq_false_iff_ne]
   omega
 exact hd _ (by decide)
theorem srt_high (c:Int) (h:128≤c):srt c=0:=by
 unfold srt
 rw [if_neg (by omega),if_neg (by omega),if_neg (by omega),if_neg (by omega),markFrom_high c h]
 rfl
theorem rune_ok (ks:List Int) (h0:ks.contains 0=false) (s:ByteArray) (pos:Nat) (h:pos < s.size) :
  ks.contains (srt ((Utf8.decode s pos).1:Nat))=okC ks (s[pos]'h)∧(okC ks (s[pos]'h)=true→(Utf8.decode s pos).2=1):=by
 by_cases ha:(s[pos]'h).toNat < 128
 ·rw [decode_ascii s pos h ha]
  exact ⟨rfl,fun _=>rfl⟩
 ·have hh:=(decode_high s pos h (by omega)).1
  have e:okC ks (s[pos]'h)=false:=by
   unfold okC
   rw [srt_high _ (by omega)]
   exact h0
  rw [srt_high _ (by omega),e]
  exact ⟨h0,fun h=>by cases h⟩
def Ran (ks:List Int) (sub:ByteArray) (pos:Nat):Prop:=runLen ks sub.data.toList=pos+runLen ks (sub.data.toList.drop pos)
theorem Ran.zero (ks:List Int) (sub:ByteArray):Ran ks sub 0:=by simp [Ran]
theorem Ran.more {ks:List Int} {sub:ByteArray} {pos:Nat} (h:Ran ks sub pos) (hp:pos < sub.size) (hk:okC ks (sub[pos]'hp)=true):Ran ks sub (pos+1):=by
 unfold Ran at h ⊢
 rw [h,List.drop_eq_getElem_cons (show pos < sub.data.toList.length from hp)]
 have hk':okC ks (sub.data.toList[pos]'(show pos < sub.data.toList.length from hp))=true:=hk
 have:runLen ks (sub.data.toList[pos]'(show pos < sub.data.toList.length from hp) :: sub.data.toList.drop (pos+1))=1+runLen ks (sub.data.toList.drop (pos+1)):=by
  unfold runLen
  rw [List.takeWhile_cons,if_pos hk',List.length_cons]
  omega
 omega
theorem Ran.stop {ks:List Int} {sub:ByteArray} {pos:Nat} (h:Ran ks sub pos) (hp:pos < sub.size) (hk:okC ks (sub[pos]'hp)=false):runLen ks sub.data.toList=pos:=by
 unfold Ran at h
 rw [h,List.drop_eq_getElem_cons (show pos < sub.data.toList.length from hp)]
 have hk':¬ okC ks (sub.data.toList[pos]'(show pos < sub.data.toList.length from hp))=true:=Bool.eq_false_iff.1 hk
 unfold runLen
 rw [List.takeWhile_cons,if_neg hk']
 rfl
theorem Ran.end_ {ks:List Int} {sub:ByteArray} {pos:Nat} (h:Ran ks sub pos) (hp:¬ pos < sub.size):runLen ks sub.data.toList=pos:=by
 unfold Ran at h
 rw [h,List.drop_eq_nil_of_le (show sub.data.toList.length≤pos from Nat.not_lt.1 hp)]
 rfl
theorem bcell {W w1:World} (hb:Below W.heap.size W w1) {b:Nat} {o:Obj} (h:W.heap[b]?=some o):w1.heap[b]?=some o:=(hb.block b (blk_lt h)).trans h
structure RunAt (w:World) (S:Nat) (s sub:ByteArray) (b pos:Nat) (wr:World):Prop where
 grown:w.grownBy wr (some S)
 scan:wr.heap[S]?=some (.cells #[.string s,.int .i64 b] 129 (0,0))
 iter:wr.heap[w.heap.size]?=some (.stringIter sub pos)
theorem RunAt.next {w:World} {S:Nat} {s sub:ByteArray} {b pos:Nat} {wr:World} (h:RunAt w S s sub b pos wr) (hS:S < w.heap.size) (pos':Nat) :
  RunAt w S s sub b pos' (wr.putObj w.heap.size (.stringIter sub pos')):=by
 refine ⟨⟨h.grown.os,h.grown.tape,h.grown.output,by rw [World.putObj_size];exact h.grown.size,fun k hk hne=>(World.putObj_heap_other (by omega)).trans (h.grown.block k hk hne)⟩,?_,?_⟩
 ·exact (World.putObj_heap_other (by omega)).trans h.scan
 ·exact World.putObj_heap_same (blk_lt h.iter)
theorem RunAt.below {w:World} {S:Nat} {s sub:ByteArray} {b pos:Nat} {wr w1:World} (h:RunAt w S s sub b pos wr) (hb:Below wr.heap.size wr w1):RunAt w S s sub b pos w1 :=
 ⟨Lib.grownBy_below h.grown hb,bcell hb h.scan,bcell hb h.iter⟩
theorem RunAt.set {w:World} {S:Nat} {s sub:ByteArray} {b pos:Nat} {wr:World} (h:RunAt w S s sub b pos wr) (hS:S < w.heap.size) (b':Nat):RunAt w S s sub b' pos (wr.setCell ⟨S,1,none⟩ (.int .i64 b')):=by
 refine ⟨Lib.grownBy_trans h.grown (Lib.grownBy_setCell _ _ _ _),?_,(Below.heap_setCell _ _ _ _ (by simp;omega)).trans h.iter⟩
 exact blk_set h.scan 1 _
theorem grown_drew_n {w w':World} {row:Option Nat} (h:w.grownBy w' row) (n:Nat):w.grownBy (w'.drewN n) row:=⟨h.os,h.tape,h.output,h.size,h.block⟩
theorem contains_snoc (ks:List Int) (j:Nat) (x:Int) (h:j < ks.length):(ks.take (j+1)).contains x=((ks.take j).contains x || x == ks[j]):=by
 have e:ks.take (j+1)=ks.take j++[ks[j]]:=List.take_succ_eq_append_getElem h
 rw [Bool.eq_iff_iff]
 simp only [e,List.contains_eq_mem,List.mem_append,List.mem_singleton,Bool.or_eq_true,decide_eq_true_eq,beq_iff_eq]
set_option maxHeartbeats 1000000 in
theorem run_any (S g:Nat) (s:ByteArray) (a:Nat) (ha:a≤s.size) (ks:List Int) (t:TypeId) (w:World) (hs:s.size≤9223372036854775807)
  (hk0:ks.contains 0=false) (hkn:ks.length < 100)
  (hS:w.heap[S]?=some (.cells #[.string s,.int .i64 a] 129 (0,0))) (hg:w.heap[g]?=some (.cells (ks.map (Value.int .i64)).toArray t (0,0))) (hgS:g≠S) :
  Calls Tryz.prog 122 #[.pointer (some ⟨S,0,none⟩),.slice (some ⟨g,0,none⟩) ks.length ks.length] w fun e w' =>
   e=.returned (.string (s.extract a (a+runLen ks (s.data.toList.drop a))))∧w.grownBy w' (some S) ∧
   w'.heap[S]?=some (.cells #[.string s,.int .i64 (a+runLen ks (s.data.toList.drop a):Nat)] 129 (0,0)):=by
 have hs0:=blk_cell hS 0
 have hs1:=blk_cell hS 1
 have HS:=Lib.hid hS
 have HG:=Lib.hid hg
 have HK:=Lib.hid hk0
 clear hS hg hk0
 have hSw:S < w.heap.size:=blk_lt HS.out
 have hgw:g < w.heap.size:=blk_lt HG.out
 go_enter Tryz.func122,Tryz.ntmps122
 go_wp2
 go_step3
 go_wp2
 go_step3
 go_wp2
 clear hs0 hs1
 have hsz:(s.extract a s.size).size=s.size - a:=by simp
 have hdata:(s.extract a s.size).data.toList=s.data.toList.drop a:=by
  rw [Lib.extract_data];exact List.take_of_length_le (by simp)
 have HD:=Lib.hid hdata
 have hit:RunAt w S s (s.extract a s.size) a 0 (w.iter (s.extract a s.size) 0) :=
  ⟨World.grownBy_alloc _ _ _,(Below.heap_alloc _ _ _ hSw).trans HS.out,World.iter_heap _ _ _⟩
 clear hdata
 generalize s.extract a s.size=sub at *
 have Hsz:=Lib.hid hsz
 clear hsz
 go_loopg [] sub.size (fun k wr=>∃ pos b,pos+k=sub.size∧Hid (b=a+pos)∧RunAt w S s sub b pos wr∧Ran ks sub pos)
 case atStart=>exact ⟨0,a,by omega,rfl,hit,Ran.zero _ _⟩
 case round =>
  clear hit
  obtain ⟨pos,b,hpos,Hb,hat,hran⟩:=hrel
  have hcs:=blk_cell hat.scan 0
  have hcs1:=blk_cell hat.scan 1
  have hfz:=blk_frozen hat.scan 1
  have hab:a≤b:=by have:=Hb.out;omega
  have hbs:b≤s.size:=by have:=Hsz.out;have:=Hb.out;omega
  by_cases hp:pos < sub.size
  ·have hnx:=fun ty=>run_next_gen (P:=Tryz.prog) wr w.heap.size sub pos ty hat.iter hp
   have hin:=hat.next hSw (pos+(Utf8.decode sub pos).2)
   have HR:=Lib.hid (rune_ok ks HK.out sub pos hp)
   have hbl:b < s.size:=by have:=Hsz.out;have:=Hb.out;omega
   go_wp2
   clear hnx hat hcs hcs1 hfz
   generalize wr.putObj w.heap.size (.stringIter sub (pos+(Utf8.decode sub pos).2))=W1 at *
   generalize gk=G at *
   go_loopg [26] ks.length (fun m i wi=>∃ j:Nat,j+m=ks.length∧i=.int .i64 j∧Below W1.heap.size W1 wi∧Hid ((ks.take j).contains (srt (Utf8.decode sub pos).1)=false))
   case atStart=>exact ⟨0,by omega,rfl,Below.refl _ _,rfl⟩
   case round =>
    obtain ⟨j,hj,rfl,hb,Hnone⟩:=hrel
    have hin2:=hin.below hb
    have hgc:=bcell hb ((hin.grown.block g hgw (fun e=>hgS (by injection e))).trans HG.out)
    by_cases hjl:j < ks.length
    ·have hcs:=blk_cell hgc j
     have hcv:(ks.map (Value.int .i64)).toArray[j]?=some (.int .i64 ks[j]):=by simp [hjl]
     rw [hcv] at hcs
     have Hsn:=Lib.hid (contains_snoc ks j (srt (Utf8.decode sub pos).1) hjl)
     have Hgc:=Lib.hid hgc
     clear hcv hgc
     generalize ks[j]=kj at *
     go_wp2_with (go_at_call 107;refine (sortOf_any _ _).mono ?_;rintro e w1 ⟨rfl,hb1⟩;have hin3:=hin2.below hb1;have c31:=blk_cell hin3.scan 1;have f31:=blk_frozen hin3.scan 1)
     ·have ht:(srt ↑(Utf8.decode sub pos).1 == kj)=true:=by assumption
      have hin3:RunAt w S s sub b (pos+(Utf8.decode sub pos).2) w1:=hin2.below (by assumption)
      go_roundg (G - 1)
      case measure=>omega
      case rel =>
       have hct:ks.contains (srt (Utf8.decode sub pos).1)=true:=by
        have h1:=Hsn.out
        rw [ht,Bool.or_true,List.contains_eq_mem,decide_eq_true_eq] at h1
        rw [List.contains_eq_mem,decide_eq_true_eq]
        exact List.mem_of_mem_take h1
       rw [HR.out.1] at hct
       have h:=hin3.set hSw (b+1)
       rw [HR.out.2 hct,show (((b+1:Nat)):Int)=(b:Int)+1 by omega] at h
       exact ⟨pos+1,b+1,by omega,(by show b+1=a+(pos+1);have:=Hb.out;omega),h,hran.more hp hct⟩
     ·have ht:(srt ↑(Utf8.decode sub pos).1 == kj)=false:=by assumption
      go_roundg (gk - 1)
      case measure=>omega
      case rel =>
       refine ⟨j+1,by omega,by go_num,?_,?_⟩
       ·exact hb.trans (hb1.mono hb.size)
       ·show _=_
        rw [Hsn.out,Hnone.out,ht];rfl
    ·clear hgc
     have Hok:Hid (okC ks sub[pos]=false):=by
      have h1:=Hnone.out
      rw [List.take_of_length_le (by omega),HR.out.1] at h1
      exact h1
     have hlen:=Lib.hid (hran.stop hp Hok.out)
     have hcs:=blk_cell hin2.scan 0
     have hcs1:=blk_cell hin2.scan 1
     have hgrown:=hin2.grown
     have hscan:=Lib.hid hin2.scan
     clear hran hin hin2
     go_wp2
     go_quiet (fail)
     go_wp2
     rw [Exit.noGoto_ret]
     go_ret
     rw [← HD.out,hlen.out,← Hb.out]
     exact ⟨rfl,grown_drew_n hgrown _,hscan.out⟩
  ·have hnx:=fun ty=>run_next_stop (P:=Tryz.prog) wr w.heap.size sub pos ty hat.iter hp
   have hlen:=Lib.hid (hran.end_ hp)
   have hgrown:=hat.grown
   have hscan:=Lib.hid hat.scan
   clear hat hran
   go_wp2
   go_quiet (fail)
   go_wp2
   rw [Exit.noGoto_ret]
   go_ret
   rw [← HD.out,hlen.out,← Hb.out]
   exact ⟨rfl,grown_drew_n hgrown _,hscan.out⟩
end Go.Proofs.YtjaobihcdkjmbaaGreatDoor
end
section
namespace Go.Proofs.YtjaobihcdkjmbaaGreatDoor
open Go.RowKit Go.Proofs.YtjaobihcdkjmbaaGreatDoorW.PrintWords Go.Proofs.YtjaobihcdkjmbaaGreatDoor.PReadTokens
def wordB (s:ByteArray):Bool:=(read_word.f s).getD false
theorem word_f (s:ByteArray):read_word.f s=some (wordB s):=by
 unfold wordB read_word.f
 repeat' split
 all_goals rfl
theorem word_any (s:ByteArray) (w:World):Calls Tryz.prog 106 #[.string s] w fun e w'=>e=.returned (.bool (wordB s))∧Below w.heap.size w w' :=
 (read_word.calls s (wordB s) w (word_f s)).mono fun _ _ ⟨h1,h2⟩=>⟨h1,h2.below⟩
def nchk (pos:Nat) (b:UInt8):Bool:=srt b.toNat == 2 || (srt b.toNat == 4 && decide (0 < pos))
def nameFrom:Nat→List UInt8→Bool
 | _,[]=>true
 | pos,b :: l=>nchk pos b && nameFrom (pos+1) l
def nameB (s:ByteArray):Bool:=decide (0 < s.size) && decide (s.size≤12) && !wordB s && nameFrom 0 s.data.toList
theorem nameFrom_drop (s:ByteArray) (pos:Nat) (h:pos < s.size):nameFrom pos (s.data.toList.drop pos)=(nchk pos (s[pos]'h) && nameFrom (pos+1) (s.data.toList.drop (pos+1))):=by
 rw [List.drop_eq_getElem_cons (show pos < s.data.toList.length from h)]
 rfl
theorem rune_nchk (s:ByteArray) (pos:Nat) (h:pos < s.size) :
  nchk pos (s[pos]'h)=(srt ((Utf8.decode s pos).1:Nat) == 2 || (srt ((Utf8.decode s pos).1:Nat) == 4 && decide (0 < pos)))∧(nchk pos (s[pos]'h)=true→(Utf8.decode s pos).2=1):=by
 by_cases ha:(s[pos]'h).toNat < 128
 ·rw [decode_ascii s pos h ha]
  exact ⟨rfl,fun _=>rfl⟩
 ·have hh:=(decode_high s pos h (by omega)).1
  have e:nchk pos (s[pos]'h)=false:=by
   unfold nchk
   rw [srt_high _ (by omega)]
   rfl
  rw [srt_high _ (by omega),e]
  exact ⟨rfl,fun h=>by cases h⟩
theorem str_empty {s:ByteArray} (h:s.size=0):s.toList=[]:=by
 rw [ByteArray.toList_eq];exact List.eq_nil_of_length_eq_zero h
theorem str_some {s:ByteArray} (h:0 < s.size):s.toList.isEmpty=false:=by
 rw [ByteArray.toList_eq]
 cases hl:s.data.toList with
 | nil=>have:s.data.toList.length=s.size:=rfl;rw [hl] at this;simp at this;omega
 | cons _ _=>rfl
structure IterAt (w1:World) (s:ByteArray) (pos:Nat) (wr:World):Prop where
 below_:Below w1.heap.size w1 wr
 iter:wr.heap[w1.heap.size]?=some (.stringIter s pos)
theorem IterAt.next {w1:World} {s:ByteArray} {pos:Nat} {wr:World} (h:IterAt w1 s pos wr) (pos':Nat):IterAt w1 s pos' (wr.putObj w1.heap.size (.stringIter s pos')) :=
 ⟨⟨h.below_.os,h.below_.tape,h.below_.output,by rw [World.putObj_size];exact h.below_.size,fun k hk=>(World.putObj_heap_other (by omega)).trans (h.below_.block k hk)⟩,World.putObj_heap_same (blk_lt h.iter)⟩
theorem IterAt.below {w1:World} {s:ByteArray} {pos:Nat} {wr w2:World} (h:IterAt w1 s pos wr) (hb:Below wr.heap.size wr w2):IterAt w1 s pos w2 :=
 ⟨h.below_.trans (hb.mono h.below_.size),bcell hb h.iter⟩
set_option maxHeartbeats 1000000 in
theorem name_any (s:ByteArray) (w:World) (hs:s.size≤9223372036854775807) :
  Calls Tryz.prog 71 #[.string s] w fun e w'=>e=.returned (.bool (nameB s))∧Below w.heap.size w w':=by
 by_cases h1:s.size=0
 ·have hres:nameB s=false:=by unfold nameB;rw [h1];rfl
  rw [hres]
  have h2:=str_empty h1
  clear h1 hres
  go_enter Tryz.func71,Tryz.ntmps71
  go_wp2
  go_ret
  exact ⟨rfl,Below.refl _ _⟩
 ·have h2:=str_some (s:=s) (by omega)
  by_cases h3:s.size≤12
  ·cases hw:wordB s
   ·have hres:nameB s=nameFrom 0 s.data.toList:=by unfold nameB;rw [hw];simp [h3];omega
    rw [hres]
    have hwd:=word_any s w
    rw [hw] at hwd
    clear hw hres
    go_enter Tryz.func71,Tryz.ntmps71
    go_wp2_with (go_at_call 106;refine hwd.mono ?_;rintro e w1 ⟨rfl,hb⟩)
    have hit:IterAt w1 s 0 (w1.iter s 0):=⟨(Below.refl _ _).alloc (Nat.le_refl _) _,World.iter_heap _ _ _⟩
    go_loopg [] s.size (fun k wr=>∃ pos,pos+k=s.size∧IterAt w1 s pos wr∧Hid (nameFrom 0 s.data.toList=nameFrom pos (s.data.toList.drop pos)))
    case atStart=>exact ⟨0,by omega,hit,by show _=_;simp⟩
    case round =>
     clear hit
     obtain ⟨pos,hpos,hat,Hn⟩:=hrel
     by_cases hp:pos < s.size
     ·have hnx:=fun ty=>run_next_gen (P:=Tryz.prog) wr w1.heap.size s pos ty hat.iter hp
      have hin:=hat.next (pos+(Utf8.decode s pos).2)
      have HR:=Lib.hid (rune_nchk s pos hp)
      have HD:=Lib.hid (nameFrom_drop s pos hp)
      go_wp2_with fail
      clear hnx hat
      generalize wr.putObj w1.heap.size (.stringIter s (pos+(Utf8.decode s pos).2))=W1 at *
      refine (sortOf_any _ _).mono ?_
      rintro e w2 ⟨rfl,hb2⟩
      have hin2:=hin.below hb2
      have hbw:=hin2.below_
      cases hok:nchk pos s[pos]
      ·have Hres:Hid (nameFrom 0 s.data.toList=false):=by
        show _=_
        rw [Hn.out,HD.out,hok];rfl
       have hr1:=HR.out.1
       rw [hok] at hr1
       have n2:(srt (Utf8.decode s pos).1 != 2)=true:=by
        cases h:(srt (Utf8.decode s pos).1 == 2) with
        | true=>rw [h] at hr1;cases hr1
        | false=>exact bne_iff_ne.2 (beq_eq_false_iff_ne.1 h)
       have n2':=beq_eq_false_iff_ne.2 (bne_iff_ne.1 n2)
       rw [n2',Bool.false_or] at hr1
       have Hr1:=Lib.hid hr1
       clear hr1 hok n2' hin hin2
       cases h4:(srt (Utf8.decode s pos).1 == 4) with
       | true =>
        have n4:(srt (Utf8.decode s pos).1 != 4)=false:=by simpa using h4
        have hz:((pos:Int) == 0)=true:=by
         have h1:=Hr1.out
         rw [h4,Bool.true_and] at h1
         have:=of_decide_eq_false h1.symm
         rw [beq_iff_eq];omega
        clear h4
        go_wp2
        go_ret
        rw [Hres.out]
        exact ⟨rfl,hb.trans (hbw.mono hb.size)⟩
       | false =>
        have n4:(srt (Utf8.decode s pos).1 != 4)=true:=by simpa using h4
        clear h4
        go_wp2
        go_ret
        rw [Hres.out]
        exact ⟨rfl,hb.trans (hbw.mono hb.size)⟩
      ·have Hn':Hid (nameFrom 0 s.data.toList=nameFrom (pos+1) (s.data.toList.drop (pos+1))):=by
        show _=_
        rw [Hn.out,HD.out,hok,Bool.true_and]
       have hr1:=HR.out.1
       have hwd:=HR.out.2 hok
       rw [hwd] at hin2
       rw [hok] at hr1
       have Hr1:=Lib.hid hr1
       clear hr1 hok hin hwd
       cases h2:(srt (Utf8.decode s pos).1 == 2) with
       | true =>
        have n2:(srt (Utf8.decode s pos).1 != 2)=false:=by simpa using h2
        clear h2
        go_wp2
        go_roundg (gk - 1)
        case measure=>omega
        case rel=>exact ⟨pos+1,by omega,hin2,Hn'⟩
       | false =>
        have n2:(srt (Utf8.decode s pos).1 != 2)=true:=by simpa using h2
        have h1:=Hr1.out
        rw [h2,Bool.false_or,eq_comm,Bool.and_eq_true] at h1
        obtain ⟨h4,hz⟩:=h1
        have n4:(srt (Utf8.decode s pos).1 != 4)=false:=by simpa using h4
        have hz:=of_decide_eq_true hz
        have n0:((pos:Int) == 0)=false:=by rw [beq_eq_false_iff_ne];omega
        clear h2 h4
        go_wp2
        go_roundg (gk - 1)
        case measure=>omega
        case rel=>exact ⟨pos+1,by omega,hin2,Hn'⟩
     ·have hnx:=fun ty=>run_next_stop (P:=Tryz.prog) wr w1.heap.size s pos ty hat.iter hp
      have hres:=Hn.out
      rw [List.drop_eq_nil_of_le (show s.data.toList.length≤pos from Nat.not_lt.1 hp)] at hres
      have Hres:=Lib.hid hres
      have hbw:=hat.below_
      clear hat hres
      go_wp2
      go_ret
      rw [Hres.out]
      exact ⟨rfl,hb.trans (hbw.mono hb.size)⟩
   ·have hres:nameB s=false:=by unfold nameB;rw [hw];simp
    rw [hres]
    have hwd:=word_any s w
    rw [hw] at hwd
    clear hw hres
    go_enter Tryz.func71,Tryz.ntmps71
    go_wp2_with (go_at_call 106;refine hwd.mono ?_;rintro e w1 ⟨rfl,hb⟩)
    go_ret
    exact ⟨rfl,hb⟩
  ·have hres:nameB s=false:=by unfold nameB;simp [h3]
   rw [hres]
   clear hres
   go_enter Tryz.func71,Tryz.ntmps71
   go_wp2
   go_ret
   exact ⟨rfl,Below.refl _ _⟩
end Go.Proofs.YtjaobihcdkjmbaaGreatDoor
end
section
namespace Go.Proofs
open Go.Shelf
def Tryz.lays156_ren:Go.Shelf.Ren:=⟨fun | 156=>137 | 165=>162 | 166=>163 | 169=>164 | 240=>181 | 241=>182 | 276=>218 | 277=>219 | n=>n,fun | 31=>34 | 9=>9 | 3=>3 | 4=>4 | 0=>0 | 20=>20 | 72=>227 | 76=>228 | 70=>225 | 37=>84 | 75=>134 | 127=>246 | 164=>180 | 5=>5 | 80=>151 | n=>n,fun | n=>n⟩
theorem Tryz.lays156:Go.Proofs.Lays.n156 Tryz.prog Tryz.lays156_ren:={
 mixed:=by kernel_rfl
 f156:=Tryz.func137.trans (congrArg some (by kernel_rfl))
 f165:=Tryz.func162.trans (congrArg some (by kernel_rfl))
 f166:=Tryz.func163.trans (congrArg some (by kernel_rfl))
 f169:=Tryz.func164.trans (congrArg some (by kernel_rfl))
 f240:=Tryz.func181.trans (congrArg some (by kernel_rfl))
 f241:=Tryz.func182.trans (congrArg some (by kernel_rfl))
 f276:=Tryz.func218.trans (congrArg some (by kernel_rfl))
 f277:=Tryz.func219.trans (congrArg some (by kernel_rfl))
 t0:=Tryz.underlying0
 a0:=Tryz.isAgg0
 z0:=Tryz.sizeOf0
 v0:=Tryz.zeroValue0
 t3:=Tryz.underlying3
 a3:=Tryz.isAgg3
 z3:=Tryz.sizeOf3
 v3:=Tryz.zeroValue3
 t4:=Tryz.underlying4
 a4:=Tryz.isAgg4
 z4:=Tryz.sizeOf4
 v4:=Tryz.zeroValue4
 t9:=Tryz.underlying9
 a9:=Tryz.isAgg9
 z9:=Tryz.sizeOf9
 v9:=Tryz.zeroValue9
 t20:=Tryz.underlying20
 a20:=Tryz.isAgg20
 z20:=Tryz.sizeOf20
 v20:=Tryz.zeroValue20
 t31:=Tryz.underlying34
 a31:=Tryz.isAgg34
 z31:=Tryz.sizeOf34
 v31:=Tryz.zeroValue34
 t37:=Tryz.underlying84
 a37:=Tryz.isAgg84
 z37:=Tryz.sizeOf84
 v37:=Tryz.zeroValue84
 t70:=Tryz.underlying225
 a70:=Tryz.isAgg225
 z70:=Tryz.sizeOf225
 v70:=Tryz.zeroValue225
 t72:=Tryz.underlying227
 a72:=Tryz.isAgg227
 z72:=Tryz.sizeOf227
 v72:=Tryz.zeroValue227
 t75:=Tryz.underlying134
 a75:=Tryz.isAgg134
 z75:=Tryz.sizeOf134
 v75:=Tryz.zeroValue134
 t76:=Tryz.underlying228
 a76:=Tryz.isAgg228
 z76:=Tryz.sizeOf228
 v76:=Tryz.zeroValue228
 t127:=Tryz.underlying246
 a127:=Tryz.isAgg246
 z127:=Tryz.sizeOf246
 v127:=Tryz.zeroValue246
 t164:=Tryz.underlying180
 a164:=Tryz.isAgg180
 z164:=Tryz.sizeOf180
 v164:=Tryz.zeroValue180 }
theorem Tryz.Builder_Extra_156:Builder.Extra Tryz.prog Tryz.lays156_ren:={
 sizeBuilder:=by kernel_rfl
 liesBuilder:=by kernel_rfl
 t5:=Tryz.underlying5
 a5:=Tryz.isAgg5
 z5:=Tryz.sizeOf5
 v5:=Tryz.zeroValue5
 infoByte:=by kernel_rfl
 cellsByte:=by kernel_rfl
 sizeByte:=by kernel_rfl
 neB5:=by decide }
open Go.RowKit in
theorem Tryz.strings_Join (bk o c:Nat) (xs:List ByteArray) (sep:ByteArray) (w:World) (hcells:∀ (j:Nat) x,xs[j]?=some x→w.cell? ⟨bk,o+j,none⟩=some (.string x)) (hbk:bk < w.heap.size) (hN:xs.length≤140737488355328) (hcap:xs.length≤c) (hlen:(Lib.join (xs.map (·.data.toList)) sep.data.toList).length≤140737488355328) :
  Calls Tryz.prog 137 #[.slice (some ⟨bk,o,none⟩) xs.length c,.string sep] w fun e w'=>e=.returned (.string ⟨(Lib.join (xs.map (·.data.toList)) sep.data.toList).toArray⟩)∧Below w.heap.size w w':=Any.strings_Join Tryz.lays156 Tryz.Builder_Extra_156 bk o c xs sep w hcells hbk hN hcap hlen
def Tryz.laysM171_ren:Go.Shelf.Ren:=⟨fun | 171=>100 | 243=>138 | 246=>165 | 283=>183 | 284=>184 | 285=>185 | 286=>186 | 129=>211 | 317=>220 | 318=>221 | 319=>222 | 320=>223 | 337=>253 | 338=>254 | n=>n,fun | 3=>3 | 9=>9 | 2=>2 | 4=>4 | 171=>247 | 0=>0 | 53=>75 | 37=>84 | 5=>5 | 173=>250 | 212=>275 | 51=>270 | 20=>20 | 213=>276 | 46=>157 | 232=>325 | 233=>326 | n=>n,fun | 17=>2 | 18=>3 | 19=>4 | n=>n⟩
theorem Tryz.laysM171:Go.Proofs.LaysM.n171 Tryz.prog Tryz.laysM171_ren:={
 mixed:=by kernel_rfl
 f129:=Tryz.func211.trans (congrArg some (by kernel_rfl))
 f171:=Tryz.func100.trans (congrArg some (by kernel_rfl))
 f243:=Tryz.func138.trans (congrArg some (by kernel_rfl))
 f246:=Tryz.func165.trans (congrArg some (by kernel_rfl))
 f283:=Tryz.func183.trans (congrArg some (by kernel_rfl))
 f284:=Tryz.func184.trans (congrArg some (by kernel_rfl))
 f285:=Tryz.func185.trans (congrArg some (by kernel_rfl))
 f286:=Tryz.func186.trans (congrArg some (by kernel_rfl))
 f317:=Tryz.func220.trans (congrArg some (by kernel_rfl))
 f318:=Tryz.func221.trans (congrArg some (by kernel_rfl))
 f319:=Tryz.func222.trans (congrArg some (by kernel_rfl))
 f320:=Tryz.func223.trans (congrArg some (by kernel_rfl))
 f337:=Tryz.func253.trans (congrArg some (by kernel_rfl))
 f338:=Tryz.func254.trans (congrArg some (by kernel_rfl))
 t0:=Tryz.underlying0
 a0:=Tryz.isAgg0
 z0:=Tryz.sizeOf0
 v0:=Tryz.zeroValue0
 t2:=Tryz.underlying2
 a2:=Tryz.isAgg2
 z2:=Tryz.sizeOf2
 v2:=Tryz.zeroValue2
 t3:=Tryz.underlying3
 a3:=Tryz.isAgg3
 z3:=Tryz.sizeOf3
 v3:=Tryz.zeroValue3
 t4:=Tryz.underlying4
 a4:=Tryz.isAgg4
 z4:=Tryz.sizeOf4
 v4:=Tryz.zeroValue4
 t5:=Tryz.underlying5
 a5:=Tryz.isAgg5
 z5:=Tryz.sizeOf5
 v5:=Tryz.zeroValue5
 t9:=Tryz.underlying9
 a9:=Tryz.isAgg9
 z9:=Tryz.sizeOf9
 v9:=Tryz.zeroValue9
 t20:=Tryz.underlying20
 a20:=Tryz.isAgg20
 z20:=Tryz.sizeOf20
 v20:=Tryz.zeroValue20
 t37:=Tryz.underlying84
 a37:=Tryz.isAgg84
 z37:=Tryz.sizeOf84
 v37:=Tryz.zeroValue84
 t46:=Tryz.underlying157
 a46:=Tryz.isAgg157
 z46:=Tryz.sizeOf157
 v46:=Tryz.zeroValue157
 t51:=Tryz.underlying270
 a51:=Tryz.isAgg270
 z51:=Tryz.sizeOf270
 v51:=Tryz.zeroValue270
 t53:=Tryz.underlying75
 a53:=Tryz.isAgg75
 z53:=Tryz.sizeOf75
 v53:=Tryz.zeroValue75
 t171:=Tryz.underlying247
 a171:=Tryz.isAgg247
 z171:=Tryz.sizeOf247
 v171:=Tryz.zeroValue247
 t173:=Tryz.underlying250
 a173:=Tryz.isAgg250
 z173:=Tryz.sizeOf250
 v173:=Tryz.zeroValue250
 t212:=Tryz.underlying275
 a212:=Tryz.isAgg275
 z212:=Tryz.sizeOf275
 v212:=Tryz.zeroValue275
 t213:=Tryz.underlying276
 a213:=Tryz.isAgg276
 z213:=Tryz.sizeOf276
 t232:=Tryz.underlying325
 a232:=Tryz.isAgg325
 z232:=Tryz.sizeOf325
 v232:=Tryz.zeroValue325
 t233:=Tryz.underlying326
 a233:=Tryz.isAgg326
 z233:=Tryz.sizeOf326
 v233:=Tryz.zeroValue326
 g17:=by kernel_rfl
 g18:=by kernel_rfl
 g19:=by kernel_rfl
 i0:=by kernel_rfl
 i2:=by kernel_rfl
 i3:=by kernel_rfl
 i4:=by kernel_rfl
 i5:=by kernel_rfl
 i9:=by kernel_rfl
 i20:=by kernel_rfl
 i37:=by kernel_rfl
 i46:=by kernel_rfl
 i51:=by kernel_rfl
 i53:=by kernel_rfl
 i171:=by kernel_rfl
 i173:=by kernel_rfl
 i212:=by kernel_rfl
 i232:=by kernel_rfl
 i233:=by kernel_rfl
 m17:=by kernel_rfl
 m18:=by kernel_rfl
 m19:=by kernel_rfl }
open Go.RowKit Go.Sort Go.Lib in
theorem Tryz.strconv_Itoa (n : Int) (h0 : -9223372036854775808 ≤ n) (h1 : n ≤ 9223372036854775807) (w : World) (htab : Lib.TabIs Tryz.prog w "internal/strconv.uint64pow10" .u64 Lib.pow10Tab) :
  Calls Tryz.prog 100 #[.int .i64 n] w fun e w'=>e=.returned (.string ⟨(Lib.itoa n).toArray⟩)∧∃ k os,w'=grow (w.drewN k) os:=Any.strconv_Itoa Tryz.laysM171 n h0 h1 w htab
def Tryz.laysC172_ren:Go.Shelf.Ren:=⟨fun | 172=>216 | 244=>250 | 245=>251 | 247=>273 | 279=>274 | 280=>275 | 281=>276 | 282=>277 | 287=>285 | 316=>286 | 171=>100 | 205=>287 | 321=>288 | 322=>289 | 243=>138 | 246=>165 | 283=>183 | 284=>184 | 285=>185 | 286=>186 | 129=>211 | 317=>220 | 318=>221 | 319=>222 | 320=>223 | 337=>253 | 338=>254 | n=>n,fun | 9=>9 | 3=>3 | 75=>134 | 76=>228 | 4=>4 | 5=>5 | 167=>318 | 37=>84 | 0=>0 | 85=>319 | 2=>2 | 168=>321 | 53=>75 | 175=>331 | 46=>157 | 210=>334 | 127=>246 | 145=>339 | 143=>337 | 21=>21 | 171=>247 | 173=>250 | 212=>275 | 51=>270 | 20=>20 | 213=>276 | 232=>325 | 233=>326 | 80=>151 | n=>n,fun | 15=>5 | 16=>6 | 17=>2 | 18=>3 | 19=>4 | n=>n⟩
theorem Tryz.laysC172:Go.Proofs.LaysC.n172 Tryz.prog Tryz.laysC172_ren:={
 mixed:=by kernel_rfl
 f129:=Tryz.func211.trans (congrArg some (by kernel_rfl))
 f171:=Tryz.func100.trans (congrArg some (by kernel_rfl))
 f172:=Tryz.func216.trans (congrArg some (by kernel_rfl))
 f205:=Tryz.func287.trans (congrArg some (by kernel_rfl))
 f243:=Tryz.func138.trans (congrArg some (by kernel_rfl))
 f244:=Tryz.func250.trans (congrArg some (by kernel_rfl))
 f245:=Tryz.func251.trans (congrArg some (by kernel_rfl))
 f246:=Tryz.func165.trans (congrArg some (by kernel_rfl))
 f247:=Tryz.func273.trans (congrArg some (by kernel_rfl))
 f279:=Tryz.func274.trans (congrArg some (by kernel_rfl))
 f280:=Tryz.func275.trans (congrArg some (by kernel_rfl))
 f281:=Tryz.func276.trans (congrArg some (by kernel_rfl))
 f282:=Tryz.func277.trans (congrArg some (by kernel_rfl))
 f283:=Tryz.func183.trans (congrArg some (by kernel_rfl))
 f284:=Tryz.func184.trans (congrArg some (by kernel_rfl))
 f285:=Tryz.func185.trans (congrArg some (by kernel_rfl))
 f286:=Tryz.func186.trans (congrArg some (by kernel_rfl))
 f287:=Tryz.func285.trans (congrArg some (by kernel_rfl))
 f316:=Tryz.func286.trans (congrArg some (by kernel_rfl))
 f317:=Tryz.func220.trans (congrArg some (by kernel_rfl))
 f318:=Tryz.func221.trans (congrArg some (by kernel_rfl))
 f319:=Tryz.func222.trans (congrArg some (by kernel_rfl))
 f320:=Tryz.func223.trans (congrArg some (by kernel_rfl))
 f321:=Tryz.func288.trans (congrArg some (by kernel_rfl))
 f322:=Tryz.func289.trans (congrArg some (by kernel_rfl))
 f337:=Tryz.func253.trans (congrArg some (by kernel_rfl))
 f338:=Tryz.func254.trans (congrArg some (by kernel_rfl))
 t0:=Tryz.underlying0
 a0:=Tryz.isAgg0
 z0:=Tryz.sizeOf0
 v0:=Tryz.zeroValue0
 t2:=Tryz.underlying2
 a2:=Tryz.isAgg2
 z2:=Tryz.sizeOf2
 v2:=Tryz.zeroValue2
 t3:=Tryz.underlying3
 a3:=Tryz.isAgg3
 z3:=Tryz.sizeOf3
 v3:=Tryz.zeroValue3
 t4:=Tryz.underlying4
 a4:=Tryz.isAgg4
 z4:=Tryz.sizeOf4
 v4:=Tryz.zeroValue4
 t5:=Tryz.underlying5
 a5:=Tryz.isAgg5
 z5:=Tryz.sizeOf5
 v5:=Tryz.zeroValue5
 t9:=Tryz.underlying9
 a9:=Tryz.isAgg9
 z9:=Tryz.sizeOf9
 v9:=Tryz.zeroValue9
 t20:=Tryz.underlying20
 a20:=Tryz.isAgg20
 z20:=Tryz.sizeOf20
 v20:=Tryz.zeroValue20
 t21:=Tryz.underlying21
 a21:=Tryz.isAgg21
 z21:=Tryz.sizeOf21
 v21:=Tryz.zeroValue21
 t37:=Tryz.underlying84
 a37:=Tryz.isAgg84
 z37:=Tryz.sizeOf84
 v37:=Tryz.zeroValue84
 t46:=Tryz.underlying157
 a46:=Tryz.isAgg157
 z46:=Tryz.sizeOf157
 v46:=Tryz.zeroValue157
 t51:=Tryz.underlying270
 a51:=Tryz.isAgg270
 z51:=Tryz.sizeOf270
 v51:=Tryz.zeroValue270
 t53:=Tryz.underlying75
 a53:=Tryz.isAgg75
 z53:=Tryz.sizeOf75
 v53:=Tryz.zeroValue75
 t75:=Tryz.underlying134
 a75:=Tryz.isAgg134
 z75:=Tryz.sizeOf134
 v75:=Tryz.zeroValue134
 t76:=Tryz.underlying228
 a76:=Tryz.isAgg228
 z76:=Tryz.sizeOf228
 v76:=Tryz.zeroValue228
 t85:=Tryz.underlying319
 a85:=Tryz.isAgg319
 z85:=Tryz.sizeOf319
 v85:=Tryz.zeroValue319
 t127:=Tryz.underlying246
 a127:=Tryz.isAgg246
 z127:=Tryz.sizeOf246
 v127:=Tryz.zeroValue246
 t143:=Tryz.underlying337
 a143:=Tryz.isAgg337
 z143:=Tryz.sizeOf337
 v143:=Tryz.zeroValue337
 t145:=Tryz.underlying339
 a145:=Tryz.isAgg339
 z145:=Tryz.sizeOf339
 v145:=Tryz.zeroValue339
 t167:=Tryz.underlying318
 a167:=Tryz.isAgg318
 z167:=Tryz.sizeOf318
 v167:=Tryz.zeroValue318
 t168:=Tryz.underlying321
 a168:=Tryz.isAgg321
 z168:=Tryz.sizeOf321
 v168:=Tryz.zeroValue321
 t171:=Tryz.underlying247
 a171:=Tryz.isAgg247
 z171:=Tryz.sizeOf247
 v171:=Tryz.zeroValue247
 t173:=Tryz.underlying250
 a173:=Tryz.isAgg250
 z173:=Tryz.sizeOf250
 v173:=Tryz.zeroValue250
 t175:=Tryz.underlying331
 a175:=Tryz.isAgg331
 z175:=Tryz.sizeOf331
 v175:=Tryz.zeroValue331
 t210:=Tryz.underlying334
 a210:=Tryz.isAgg334
 z210:=Tryz.sizeOf334
 v210:=Tryz.zeroValue334
 t212:=Tryz.underlying275
 a212:=Tryz.isAgg275
 z212:=Tryz.sizeOf275
 v212:=Tryz.zeroValue275
 t213:=Tryz.underlying276
 a213:=Tryz.isAgg276
 z213:=Tryz.sizeOf276
 t232:=Tryz.underlying325
 a232:=Tryz.isAgg325
 z232:=Tryz.sizeOf325
 v232:=Tryz.zeroValue325
 t233:=Tryz.underlying326
 a233:=Tryz.isAgg326
 z233:=Tryz.sizeOf326
 v233:=Tryz.zeroValue326
 g15:=by kernel_rfl
 g16:=by kernel_rfl
 g17:=by kernel_rfl
 g18:=by kernel_rfl
 g19:=by kernel_rfl
 t80:=Tryz.underlying151
 a80:=Tryz.isAgg151
 z80:=Tryz.sizeOf151
 v80:=Tryz.zeroValue151
 i0:=by kernel_rfl
 i2:=by kernel_rfl
 i3:=by kernel_rfl
 i4:=by kernel_rfl
 i5:=by kernel_rfl
 i9:=by kernel_rfl
 i20:=by kernel_rfl
 i21:=by kernel_rfl
 i37:=by kernel_rfl
 i46:=by kernel_rfl
 i51:=by kernel_rfl
 i53:=by kernel_rfl
 i75:=by kernel_rfl
 i76:=by kernel_rfl
 i80:=by kernel_rfl
 i85:=by kernel_rfl
 i127:=by kernel_rfl
 i143:=by kernel_rfl
 i145:=by kernel_rfl
 i167:=by kernel_rfl
 i168:=by kernel_rfl
 i171:=by kernel_rfl
 i173:=by kernel_rfl
 i175:=by kernel_rfl
 i210:=by kernel_rfl
 i212:=by kernel_rfl
 i232:=by kernel_rfl
 i233:=by kernel_rfl
 m15:=by kernel_rfl
 m16:=by kernel_rfl
 m17:=by kernel_rfl
 m18:=by kernel_rfl
 m19:=by kernel_rfl
 c0:=by kernel_rfl
 c2:=by kernel_rfl
 c3:=by kernel_rfl
 c4:=by kernel_rfl
 c5:=by kernel_rfl
 c9:=by kernel_rfl
 c20:=by kernel_rfl
 c21:=by kernel_rfl
 c37:=by kernel_rfl
 c46:=by kernel_rfl
 c51:=by kernel_rfl
 c53:=by kernel_rfl
 c75:=by kernel_rfl
 c76:=by kernel_rfl
 c80:=by kernel_rfl
 c85:=by kernel_rfl
 c127:=by kernel_rfl
 c143:=by kernel_rfl
 c145:=by kernel_rfl
 c167:=by kernel_rfl
 c168:=by kernel_rfl
 c171:=by kernel_rfl
 c173:=by kernel_rfl
 c175:=by kernel_rfl
 c210:=by kernel_rfl
 c212:=by kernel_rfl
 c213:=by kernel_rfl
 c232:=by kernel_rfl
 c233:=by kernel_rfl }
open Go.RowKit in
theorem Tryz.strconv_Atoi_ok (s:ByteArray) (hmax:s.size≤9223372036854775806) (v:Int) (h:Lib.atoiAll s.data.toList=.ok v) (w:World) :
  Calls Tryz.prog 216 #[.string s] w fun e w'=>e=.returned (.tuple #[.int .i64 v,.nilIface])∧(w'=w∨∃ t,w'=Lib.bytesWorld w 5 t):=Any.strconv_Atoi_ok Tryz.laysC172 s hmax v h w
def Tryz.lays219_ren:Go.Shelf.Ren:=⟨fun | 219=>176 | 217=>212 | 225=>213 | 224=>214 | 267=>215 | 266=>248 | 314=>249 | n=>n,fun | 9=>9 | 3=>3 | 4=>4 | 5=>5 | 46=>157 | 146=>296 | 51=>270 | n=>n,fun | 1=>1 | n=>n⟩
theorem Tryz.lays219:Go.Proofs.Lays.n219 Tryz.prog Tryz.lays219_ren:={
 mixed:=by kernel_rfl
 f217:=Tryz.func212.trans (congrArg some (by kernel_rfl))
 f219:=Tryz.func176.trans (congrArg some (by kernel_rfl))
 f224:=Tryz.func214.trans (congrArg some (by kernel_rfl))
 f225:=Tryz.func213.trans (congrArg some (by kernel_rfl))
 f266:=Tryz.func248.trans (congrArg some (by kernel_rfl))
 f267:=Tryz.func215.trans (congrArg some (by kernel_rfl))
 f314:=Tryz.func249.trans (congrArg some (by kernel_rfl))
 t3:=Tryz.underlying3
 a3:=Tryz.isAgg3
 z3:=Tryz.sizeOf3
 v3:=Tryz.zeroValue3
 t4:=Tryz.underlying4
 a4:=Tryz.isAgg4
 z4:=Tryz.sizeOf4
 v4:=Tryz.zeroValue4
 t5:=Tryz.underlying5
 a5:=Tryz.isAgg5
 z5:=Tryz.sizeOf5
 v5:=Tryz.zeroValue5
 t9:=Tryz.underlying9
 a9:=Tryz.isAgg9
 z9:=Tryz.sizeOf9
 v9:=Tryz.zeroValue9
 t46:=Tryz.underlying157
 a46:=Tryz.isAgg157
 z46:=Tryz.sizeOf157
 v46:=Tryz.zeroValue157
 t51:=Tryz.underlying270
 a51:=Tryz.isAgg270
 z51:=Tryz.sizeOf270
 v51:=Tryz.zeroValue270
 t146:=Tryz.underlying296
 a146:=Tryz.isAgg296
 z146:=Tryz.sizeOf296
 v146:=Tryz.zeroValue296
 g1:=by kernel_rfl }
open Go.RowKit Go.Lib in
theorem Tryz.stringslite_Index_one (s:ByteArray) (c:UInt8) (w:World) :
  Calls Tryz.prog 176 #[.string s,.string ⟨#[c]⟩] w fun e w'=>e=.returned (.int .i64 (Lib.indexByte s.data.toList c))∧w'=w:=Any.stringslite_Index_one Tryz.lays219 s c w
end Go.Proofs
end
section
namespace Go.Proofs.YtjaobihcdkjmbaaGreatDoor
open Go.RowKit Go.Proofs.YtjaobihcdkjmbaaGreatDoorW.PrintWords Go.Proofs.YtjaobihcdkjmbaaGreatDoor.PReadTokens
def uchk (b:UInt8):Bool:=decide (32≤b.toNat) && decide (b.toNat≤126) && decide (b.toNat≠123) && decide (b.toNat≠125)
def unitB (s:ByteArray):Bool:=decide (1≤s.size) && decide (s.size≤20) && s.data.toList.all uchk
theorem wrap_nat (n:Nat) (h:n < 9223372036854775807):wrap64 ((n:Int)+1)=((n+1:Nat):Int):=by unfold wrap64;omega
theorem bt_nat (s:ByteArray) (n:Nat) (h:n < s.size):bt s (n:Int)=((s[n]'h).toNat:Int):=by
 simp [bt,h]
theorem unit_loop (s:ByteArray) (hs:s.size < 9223372036854775807) (d:Nat):∀ (k pos:Nat),pos+d=s.size→d < k→read_unit.l0 k s (s.size:Int) (pos:Int)=some ((s.data.toList.drop pos).all uchk):=by
 induction d with
 | zero =>
  intro k pos hp hk
  obtain ⟨k,rfl⟩:∃ m,k=m+1:=⟨k - 1,by omega⟩
  simp only [read_unit.l0]
  rw [if_neg (by omega),List.drop_eq_nil_of_le (show s.data.toList.length≤pos by have:s.data.toList.length=s.size:=rfl;omega)]
  rfl
 | succ d ih =>
  intro k pos hp hk
  obtain ⟨k,rfl⟩:∃ m,k=m+1:=⟨k - 1,by omega⟩
  have hlt:pos < s.size:=by omega
  have hl:pos < s.data.toList.length:=hlt
  simp only [read_unit.l0]
  rw [if_pos (by omega),if_pos (by omega),if_pos (by omega),bt_nat s pos hlt,wrap_nat pos (by omega),ih k (pos+1) (by omega) (by omega),List.drop_eq_getElem_cons hl,List.all_cons]
  have e:s.data.toList[pos]=s[pos]:=rfl
  rw [e]
  unfold uchk
  generalize (s[pos]).toNat=c
  split
  ·rw [decide_eq_false (by omega:¬ 32≤c)];rfl
  ·split
   ·rw [decide_eq_false (by omega:¬ c≤126)];simp
   ·split
    ·rw [decide_eq_false (by omega:¬ c≠123)];simp
    ·split
     ·rw [decide_eq_false (by omega:¬ c≠125)];simp
     ·rw [decide_eq_true (by omega:32≤c),decide_eq_true (by omega:c≤126),decide_eq_true (by omega:c≠123),decide_eq_true (by omega:c≠125)];rfl
theorem unit_f (s:ByteArray) (hs:s.size < 9223372036854775807):read_unit.f (s.size+1) s=some (unitB s):=by
 unfold read_unit.f read_in.f unitB
 by_cases h1:1≤s.size
 ·rw [if_pos (by omega),Option.bind_some]
  by_cases h2:s.size≤20
  ·rw [if_pos (by simp;omega)]
   have:=unit_loop s hs s.size (s.size+1) 0 (by omega) (by omega)
   rw [show ((0:Nat):Int)=0 from rfl,List.drop_zero] at this
   rw [this,decide_eq_true h1,decide_eq_true h2];rfl
  ·rw [if_neg (by simp;omega),decide_eq_false h2];simp
 ·rw [if_neg (by omega),Option.bind_some,if_neg (by simp),decide_eq_false h1];rfl
theorem unit_any (s:ByteArray) (hs:s.size < 9223372036854775807) (w:World):Calls Tryz.prog 125 #[.string s] w fun e w'=>e=.returned (.bool (unitB s))∧Below w.heap.size w w' :=
 (read_unit.calls _ s (unitB s) w (unit_f s hs)).mono fun _ _ ⟨h1,h2⟩=>⟨h1,h2.below⟩
set_option maxHeartbeats 400000 in
theorem slcut_some (s:ByteArray) (c:UInt8) (i:Nat) (w:World) (hs:s.size < 4611686018427387904) (hi:Lib.indexByte s.data.toList c=(i:Int)) (hl:i < s.size) :
  Calls Tryz.prog 151 #[.string s,.string ⟨#[c]⟩] w fun e w'=>e=.returned (.tuple #[.string (s.extract 0 i),.string (s.extract (i+1) s.size),.bool true])∧∃ n,w'=w.drewN n:=by
 have hx:∀ w,Calls Tryz.prog 176 #[.string s,.string ⟨#[c]⟩] w fun e w'=>e=.returned (.int .i64 i)∧w'=w:=fun w=>by
  have:=Tryz.stringslite_Index_one s c w;rwa [hi] at this
 clear hi
 have h0:(0:Int)≤(i:Int):=by omega
 go_enter Tryz.func151,Tryz.ntmps151
 go_wp2_with (go_at_call 176;refine (hx _).mono ?_;rintro e w' ⟨rfl,rfl⟩)
 go_quiet (fail)
 go_wp2
 go_ret3
 exact ⟨rfl,_,rfl⟩
set_option maxHeartbeats 400000 in
theorem slcut_none (s:ByteArray) (c:UInt8) (w:World) (hi:Lib.indexByte s.data.toList c=-1) :
  Calls Tryz.prog 151 #[.string s,.string ⟨#[c]⟩] w fun e w'=>e=.returned (.tuple #[.string s,.string ⟨#[]⟩,.bool false])∧∃ n,w'=w.drewN n:=by
 have hx:∀ w,Calls Tryz.prog 176 #[.string s,.string ⟨#[c]⟩] w fun e w'=>e=.returned (.int .i64 (-1))∧w'=w:=fun w=>by
  have:=Tryz.stringslite_Index_one s c w;rwa [hi] at this
 clear hi
 go_enter Tryz.func151,Tryz.ntmps151
 go_wp2_with (go_at_call 176;refine (hx _).mono ?_;rintro e w' ⟨rfl,rfl⟩)
 go_ret3
 exact ⟨rfl,0,rfl⟩
set_option maxHeartbeats 400000 in
theorem cut_some (s:ByteArray) (c:UInt8) (i:Nat) (w:World) (hs:s.size < 4611686018427387904) (hi:Lib.indexByte s.data.toList c=(i:Int)) (hl:i < s.size) :
  Calls Tryz.prog 123 #[.string s,.string ⟨#[c]⟩] w fun e w'=>e=.returned (.tuple #[.string (s.extract 0 i),.string (s.extract (i+1) s.size),.bool true])∧∃ n,w'=w.drewN n:=by
 have hx:=slcut_some s c i w hs hi hl
 clear hi
 go_enter Tryz.func123,Tryz.ntmps123
 go_wp2_with (go_at_call 151;refine hx.mono ?_;rintro e w' ⟨rfl,n,rfl⟩)
 go_ret3
 exact ⟨rfl,_,rfl⟩
set_option maxHeartbeats 400000 in
theorem cut_none (s:ByteArray) (c:UInt8) (w:World) (hi:Lib.indexByte s.data.toList c=-1) :
  Calls Tryz.prog 123 #[.string s,.string ⟨#[c]⟩] w fun e w'=>e=.returned (.tuple #[.string s,.string ⟨#[]⟩,.bool false])∧∃ n,w'=w.drewN n:=by
 have hx:=slcut_none s c w hi
 clear hi
 go_enter Tryz.func123,Tryz.ntmps123
 go_wp2_with (go_at_call 151;refine hx.mono ?_;rintro e w' ⟨rfl,n,rfl⟩)
 go_ret3
 exact ⟨rfl,_,rfl⟩
end Go.Proofs.YtjaobihcdkjmbaaGreatDoor
end
