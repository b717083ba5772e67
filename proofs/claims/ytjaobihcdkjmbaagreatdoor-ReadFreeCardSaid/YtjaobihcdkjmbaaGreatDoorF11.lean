/- The law ReadFree answers true for every argument; a part of its proof. -/
import Derived.Test.YtjaobihcdkjmbaaGreatDoorF10
set_option linter.unusedVariables false
set_option linter.unusedSimpArgs false
section
namespace Go.Proofs.YtjaobihcdkjmbaaGreatDoor
open Go.RowKit Go.Proofs.YtjaobihcdkjmbaaGreatDoorW.PrintWords Go.Proofs.YtjaobihcdkjmbaaGreatDoor.PReadTokens
def plainTok (t:S47):Bool:=!isTok t ⟨#[124]⟩ && !isTok t ⟨#[108,101,116]⟩ && !isTok t ⟨#[105,102]⟩ && !isTok t ⟨#[116,97,98]⟩ && !isTok t ⟨#[115,117,109]⟩
theorem plain_of {ts:List S47} (en:Nat) (h:ts.all plainTok=true):Plain ts en:=by
 have key:∀ i,plainTok (tokP ts en i)=true:=by
  intro i
  unfold tokP
  split
  ·rename_i hi;exact List.all_eq_true.1 h _ (List.getElem_mem _)
  ·rfl
 have k2:∀ i,isTok (tokP ts en i) ⟨#[124]⟩=false∧isTok (tokP ts en i) ⟨#[108,101,116]⟩=false∧isTok (tokP ts en i) ⟨#[105,102]⟩=false∧isTok (tokP ts en i) ⟨#[116,97,98]⟩=false∧isTok (tokP ts en i) ⟨#[115,117,109]⟩=false:=by
  intro i
  have:=key i
  unfold plainTok at this
  simpa [Bool.and_eq_true,and_assoc] using this
 exact ⟨fun i=>(k2 i).1,fun i=>(k2 i).2.1,fun i=>(k2 i).2.2.1,fun i=>(k2 i).2.2.2.1,fun i=>(k2 i).2.2.2.2⟩
def plainText (s:ByteArray):Bool:=decide (s.size≤2000) && decide ((allToks s).length≤100000) && (allToks s).all (fun t=>decide (t.f1.size≤2000)) && (allToks s).all plainTok
theorem readable_plain (chk:S28→Int) (s:ByteArray) (h:plainText s=true):Readable chk s:=by
 unfold plainText at h
 simp only [Bool.and_eq_true,decide_eq_true_eq] at h
 obtain ⟨⟨⟨h1,h2⟩,h3⟩,h4⟩:=h
 refine ⟨h1,h2,fun t ht=>of_decide_eq_true (List.all_eq_true.1 h3 t ht),fun W0 R B E=>?_⟩
 exact pars_plain W0 R B (allToks s) s.size chk E (plain_of _ h4) _ 0 (by omega)
abbrev tA:ByteArray:=⟨#[49,32,43,32,120,32,42,32,50]⟩
abbrev tB:ByteArray:=⟨#[102,40,97,41,91,105,93]⟩
abbrev tC:ByteArray:=⟨#[45,97,42,98,94,45,50]⟩
abbrev tD:ByteArray:=⟨#[97,45,40,98,45,99,41]⟩
abbrev tE:ByteArray:=⟨#[49,32,50]⟩
def lit1:S31:=⟨0,⟨⟨#[49]⟩,⟨#[49]⟩⟩,⟨#[]⟩,0,[]⟩
def lit2:S31:=⟨0,⟨⟨#[50]⟩,⟨#[49]⟩⟩,⟨#[]⟩,0,[]⟩
def refX (n:ByteArray):S31:=⟨1,z28,n,0,[]⟩
def xA:S31:=twoX 3 lit1 (twoX 5 (refX ⟨#[120]⟩) lit2)
def xB:S31:=twoX 9 ⟨14,z28,⟨#[102]⟩,0,[refX ⟨#[97]⟩]⟩ (refX ⟨#[105]⟩)
def xC:S31:=⟨2,z28,⟨#[]⟩,0,[twoX 5 (refX ⟨#[97]⟩) ⟨7,z28,⟨#[]⟩,-2,[refX ⟨#[98]⟩]⟩]⟩
def xD:S31:=twoX 4 (refX ⟨#[97]⟩) (twoX 4 (refX ⟨#[98]⟩) (refX ⟨#[99]⟩))
theorem plainA:plainText tA=true:=by kernel_rfl
theorem plainB:plainText tB=true:=by kernel_rfl
theorem plainC:plainText tC=true:=by kernel_rfl
theorem plainD:plainText tD=true:=by kernel_rfl
theorem plainE:plainText tE=true:=by kernel_rfl
theorem parseA (chk:S28→Int):parseS chk tA=.ok (xA,5):=by kernel_rfl
theorem parseB (chk:S28→Int):parseS chk tB=.ok (xB,7):=by kernel_rfl
theorem parseC (chk:S28→Int):parseS chk tC=.ok (xC,7):=by kernel_rfl
theorem parseD (chk:S28→Int):parseS chk tD=.ok (xD,7):=by kernel_rfl
end Go.Proofs.YtjaobihcdkjmbaaGreatDoor
end
section
namespace Go.Proofs.YtjaobihcdkjmbaaGreatDoor
open Go.RowKit Go.Proofs.YtjaobihcdkjmbaaGreatDoorW.PrintWords Go.Proofs.YtjaobihcdkjmbaaGreatDoor.PReadTokens
def wrongOf (e:Int):Ending:=.panicked [{ v:=.iface 159 (.agg #[.int .i64 e]),recovered:=false }]
set_option maxHeartbeats 1000000 in
theorem fail_no (e:Int) (w:World):Calls Tryz.prog 67 #[.bool false,.int .i64 e] w fun en w'=>en=.returned (.tuple #[])∧w'=w:=by
 go_enter Tryz.func67,Tryz.ntmps67
 go_wp2
 exact bodyPost_end (results_none rfl _ _ _) rfl ⟨rfl,rfl⟩
set_option maxHeartbeats 1000000 in
theorem fail_yes (e:Int) (w:World):Calls Tryz.prog 67 #[.bool true,.int .i64 e] w fun en w'=>en=wrongOf e∧w'=w:=by
 unfold wrongOf
 go_enter Tryz.func67,Tryz.ntmps67
 go_wp2
 exact ⟨rfl,rfl,rfl⟩
def argLo (op:Int):Int:=if op=0∨op=1 then 0 else if op=2∨op=7∨op=10∨op=11 then 1 else if op=12 then 4 else if op=8 then 1 else if op=14 then 0 else 2
def argHi (op:Int):Int:=if op=0∨op=1 then 0 else if op=2∨op=7∨op=10∨op=11 then 1 else if op=12 then 4 else if op=8∨op=14 then 8 else 2
def sizeLo (op:Int):Int:=if op=7 then -9 else if op=10∨op=11 then 1 else 0
def sizeHi (op:Int):Int:=if op=7 then 9 else if op=10∨op=11 then 99 else 0
theorem size198:(Tryz.prog.info? 198).map (·.size)=some 2:=by kernel_rfl
theorem beq_no {a b:Int} (h:a≠b):(a == b)=false:=beq_eq_false_iff_ne.2 h
set_option maxRecDepth 100000 in
set_option maxHeartbeats 4000000 in
theorem sizes_calls (op:Int) (w:World):Calls Tryz.prog 142 #[.int .i64 op] w fun e w'=>e=.returned (.agg #[.int .i64 (sizeLo op),.int .i64 (sizeHi op)])∧Below w.heap.size w w':=by
 by_cases h7:op=7
 ·subst h7
  go_enter Tryz.func142,Tryz.ntmps142
  go_wp2
  exact bodyPost_ret (results_c Tryz.results142 _ _ w.heap.size 198 _ (0,0) _ rfl (blk_new w _) Tryz.underlying198 rfl size198) rfl ⟨rfl,(Below.refl _ w).alloc (Nat.le_refl _) _⟩
 by_cases h10:op=10
 ·subst h10
  go_enter Tryz.func142,Tryz.ntmps142
  go_wp2
  exact bodyPost_ret (results_c Tryz.results142 _ _ w.heap.size 198 _ (0,0) _ rfl (blk_new w _) Tryz.underlying198 rfl size198) rfl ⟨rfl,(Below.refl _ w).alloc (Nat.le_refl _) _⟩
 by_cases h11:op=11
 ·subst h11
  go_enter Tryz.func142,Tryz.ntmps142
  go_wp2
  exact bodyPost_ret (results_c Tryz.results142 _ _ w.heap.size 198 _ (0,0) _ rfl (blk_new w _) Tryz.underlying198 rfl size198) rfl ⟨rfl,(Below.refl _ w).alloc (Nat.le_refl _) _⟩
 have e:sizeLo op=0∧sizeHi op=0:=by unfold sizeLo sizeHi;simp [h7,h10,h11]
 rw [e.1,e.2]
 have h7':=beq_no h7
 have h10':=beq_no h10
 have h11':=beq_no h11
 clear e h7 h10 h11
 go_enter Tryz.func142,Tryz.ntmps142
 go_wp2
 exact bodyPost_ret (results_c Tryz.results142 _ _ w.heap.size 198 _ (0,0) _ rfl (blk_new w _) Tryz.underlying198 rfl size198) rfl ⟨rfl,(Below.refl _ w).alloc (Nat.le_refl _) _⟩
set_option maxRecDepth 100000 in
set_option maxHeartbeats 4000000 in
theorem arguments_calls (op:Int) (w:World):Calls Tryz.prog 140 #[.int .i64 op] w fun e w'=>e=.returned (.agg #[.int .i64 (argLo op),.int .i64 (argHi op)])∧Below w.heap.size w w':=by
 by_cases h:op=0∨op=1∨op=2∨op=7∨op=8∨op=10∨op=11∨op=12∨op=14
 ·rcases h with rfl | rfl | rfl | rfl | rfl | rfl | rfl | rfl | rfl
  all_goals
   go_enter Tryz.func140,Tryz.ntmps140
   go_wp2
   exact bodyPost_ret (results_c Tryz.results140 _ _ w.heap.size 198 _ (0,0) _ rfl ((Below.heap_alloc _ _ _ (by simp)).trans (blk_new w _)) Tryz.underlying198 rfl size198) rfl ⟨rfl,((Below.refl _ w).alloc (Nat.le_refl _) _).alloc (by simp) _⟩
 ·have e:argLo op=2∧argHi op=2:=by unfold argLo argHi;constructor <;> (repeat' split) <;> omega
  rw [e.1,e.2]
  have h0:=beq_no (a:=op) (b:=0) (by omega)
  have h1:=beq_no (a:=op) (b:=1) (by omega)
  have h2:=beq_no (a:=op) (b:=2) (by omega)
  have h7:=beq_no (a:=op) (b:=7) (by omega)
  have h8:=beq_no (a:=op) (b:=8) (by omega)
  have h10:=beq_no (a:=op) (b:=10) (by omega)
  have h11:=beq_no (a:=op) (b:=11) (by omega)
  have h12:=beq_no (a:=op) (b:=12) (by omega)
  have h14:=beq_no (a:=op) (b:=14) (by omega)
  clear e h
  go_enter Tryz.func140,Tryz.ntmps140
  go_wp2
  exact bodyPost_ret (results_c Tryz.results140 _ _ w.heap.size 198 _ (0,0) _ rfl ((Below.heap_alloc _ _ _ (by simp)).trans (blk_new w _)) Tryz.underlying198 rfl size198) rfl ⟨rfl,((Below.refl _ w).alloc (Nat.le_refl _) _).alloc (by simp) _⟩
end Go.Proofs.YtjaobihcdkjmbaaGreatDoor
end
section
namespace Go.Proofs.YtjaobihcdkjmbaaGreatDoor
open Go.RowKit Go.Proofs.YtjaobihcdkjmbaaGreatDoorW.PrintWords Go.Proofs.YtjaobihcdkjmbaaGreatDoor.PReadTokens
theorem eq198_0 (w:World):(Op.equalIn 10000 198 (.agg #[.int .i64 0,.int .i64 0]) (.agg #[.int .i64 0,.int .i64 0])).run Tryz.prog w=.ok true w:=by kernel_rfl
theorem eq198_9 (w:World):(Op.equalIn 10000 198 (.agg #[.int .i64 (-9),.int .i64 9]) (.agg #[.int .i64 0,.int .i64 0])).run Tryz.prog w=.ok false w:=by kernel_rfl
theorem eq198_99 (w:World):(Op.equalIn 10000 198 (.agg #[.int .i64 1,.int .i64 99]) (.agg #[.int .i64 0,.int .i64 0])).run Tryz.prog w=.ok false w:=by kernel_rfl
theorem sizes3 (op:Int):(sizeLo op=0∧sizeHi op=0)∨(sizeLo op=-9∧sizeHi op=9)∨(sizeLo op=1∧sizeHi op=99):=by
 unfold sizeLo sizeHi
 by_cases h7:op=7
 ·simp [h7]
 ·by_cases h10:op=10∨op=11
  ·simp [h7,h10]
  ·simp [h7,h10]
end Go.Proofs.YtjaobihcdkjmbaaGreatDoor
end
section
namespace Go.Proofs.YtjaobihcdkjmbaaGreatDoor
open Go.RowKit Go.Proofs.YtjaobihcdkjmbaaGreatDoorW.PrintWords Go.Proofs.YtjaobihcdkjmbaaGreatDoor.PReadTokens
set_option maxHeartbeats 1000000 in
theorem caught_nil (w:World):Calls Tryz.prog 63 #[.nilIface] w fun e w'=>e=.returned (.int .i64 0)∧w'=w:=by
 have hta:=asNil_134
 go_enter Tryz.func63,Tryz.ntmps63
 go_wp2
 go_ret
 exact ⟨rfl,rfl⟩
set_option maxHeartbeats 1000000 in
theorem catch62_idle (p:Nat) (old:Value) (w:World) (hp:w.heap[p]?=some (.cells #[old] 36 (0,0))) :
  CallsD Tryz.prog 62 #[.pointer (some ⟨p,0,none⟩)] .returning w fun e u' w'=>e=.returned (.tuple #[])∧u'=.returning∧w'=w.setCell ⟨p,0,none⟩ (.int .i64 0):=by
 have hta:=caught_nil w
 have f0:=blk_frozen hp 0
 have c0:=blk_cell hp 0
 refine callsD_of_wpS Tryz.func62 rfl fun c₀ cs hu=>?_
 apply wpS_region
 simp [wpOpsS,go_sem,recoverD,hu,Tryz.ntmps62,Exit.thenS]
 refine hta.mono ?_
 rintro e w' ⟨rfl,hw⟩
 subst w'
 simp [go_sem,c0,f0,Oper.upon,Result.andThen]
 cases c₀
 simp_all [bodyPostS,results,Tryz.results62]
end Go.Proofs.YtjaobihcdkjmbaaGreatDoor
end
section
namespace Go.Proofs.YtjaobihcdkjmbaaGreatDoor
open Go.RowKit Go.Proofs.YtjaobihcdkjmbaaGreatDoorW.PrintWords Go.Proofs.YtjaobihcdkjmbaaGreatDoor.PReadTokens
def kindT (op:Int):TypeId:=if op=13∨op=12∨op=10∨op=11 then 150 else if op=3∨op=4∨op=5∨op=6 then 152 else if op=2 then 154 else if op=7∨op=9 then 155 else 156
set_option maxRecDepth 100000 in
set_option maxHeartbeats 4000000 in
theorem kindOf_calls (x:S31) (A:Option Addr) (n c:Nat) (w:World):Calls Tryz.prog 96 #[exV x (.slice A n c)] w fun e w'=>e=.returned (.iface (kindT x.f0) (exV x (.slice A n c)))∧Below w.heap.size w w':=by
 obtain ⟨op,num,name,size,xs⟩:=x
 unfold exV
 simp only
 by_cases h:op=13∨op=12∨op=10∨op=11∨op=3∨op=4∨op=5∨op=6∨op=2∨op=7∨op=9
 ·rcases h with rfl | rfl | rfl | rfl | rfl | rfl | rfl | rfl | rfl | rfl | rfl
  all_goals
   go_enter Tryz.func96,Tryz.ntmps96
   go_wp2
   go_ret
   exact ⟨rfl,(Below.refl _ w).alloc (Nat.le_refl _) _⟩
 ·have e:kindT op=156:=by unfold kindT;rw [if_neg (by omega),if_neg (by omega),if_neg (by omega),if_neg (by omega)]
  rw [e]
  have h2:=beq_no (a:=op) (b:=2) (by omega)
  have h3:=beq_no (a:=op) (b:=3) (by omega)
  have h4:=beq_no (a:=op) (b:=4) (by omega)
  have h5:=beq_no (a:=op) (b:=5) (by omega)
  have h6:=beq_no (a:=op) (b:=6) (by omega)
  have h7:=beq_no (a:=op) (b:=7) (by omega)
  have h9:=beq_no (a:=op) (b:=9) (by omega)
  have h10:=beq_no (a:=op) (b:=10) (by omega)
  have h11:=beq_no (a:=op) (b:=11) (by omega)
  have h12:=beq_no (a:=op) (b:=12) (by omega)
  have h13:=beq_no (a:=op) (b:=13) (by omega)
  clear e h
  go_enter Tryz.func96,Tryz.ntmps96
  go_wp2
  go_ret
  exact ⟨rfl,(Below.refl _ w).alloc (Nat.le_refl _) _⟩
end Go.Proofs.YtjaobihcdkjmbaaGreatDoor
end
section
namespace Go.Proofs.YtjaobihcdkjmbaaGreatDoor
open Go.RowKit Go.Proofs.YtjaobihcdkjmbaaGreatDoorW.PrintWords Go.Proofs.YtjaobihcdkjmbaaGreatDoor.PReadTokens
def cat (xs:List ByteArray):ByteArray:=⟨(Lib.join (xs.map (·.data.toList)) []).toArray⟩
theorem cat_data (xs:List ByteArray):(cat xs).data.toList=(xs.map (·.data.toList)).flatten:=by
 show (Lib.join (xs.map (·.data.toList)) [])=_
 unfold Lib.join
 generalize xs.map (·.data.toList)=l
 induction l with
 | nil=>rfl
 | cons a l ih =>
  cases l with
  | nil=>simp [List.intercalate]
  | cons b l=>rw [List.intercalate_cons_cons];simp [ih]
set_option maxHeartbeats 1000000 in
theorem joined_calls (bk:Nat) (xs:List ByteArray) (t:TypeId) (w:World) (hb:w.heap[bk]?=some (.cells (xs.map Value.string).toArray t (0,0))) (hN:xs.length≤140737488355328) (hlen:(cat xs).size≤140737488355328) :
  Calls Tryz.prog 98 #[.slice (some ⟨bk,0,none⟩) xs.length xs.length] w fun e w'=>e=.returned (.string (cat xs))∧Below w.heap.size w w':=by
 have hj:=Tryz.strings_Join bk 0 xs.length xs ⟨#[]⟩ w (fun j x hx=>by
  have h1:=blk_cell hb j
  rw [Nat.zero_add]
  refine h1.trans ?_
  simp [hx]) (blk_lt hb) hN (Nat.le_refl _) hlen
 go_enter Tryz.func98,Tryz.ntmps98
 go_wp2_with (go_at_call 137;refine hj.mono ?_;rintro e w1 ⟨rfl,hb1⟩)
 go_ret
 exact ⟨rfl,hb1⟩
abbrev zE:Value:=.agg #[.int .i64 0,.string ⟨#[]⟩,.string ⟨#[]⟩,.string ⟨#[]⟩,.int .i64 0,.slice none 0 0]
theorem ta150_150 (v:Value) (w:World):(Instr.typeAssert (.iface 150 v) 147 150 true).run Tryz.prog w=.ok (.tuple #[v,.bool true]) w:=by kernel_rfl
theorem ta152_150 (v:Value) (w:World):(Instr.typeAssert (.iface 152 v) 147 150 true).run Tryz.prog w=.ok (.tuple #[zE,.bool false]) w:=by kernel_rfl
theorem ta152_152 (v:Value) (w:World):(Instr.typeAssert (.iface 152 v) 147 152 true).run Tryz.prog w=.ok (.tuple #[v,.bool true]) w:=by kernel_rfl
theorem ta154_150 (v:Value) (w:World):(Instr.typeAssert (.iface 154 v) 147 150 true).run Tryz.prog w=.ok (.tuple #[zE,.bool false]) w:=by kernel_rfl
theorem ta154_152 (v:Value) (w:World):(Instr.typeAssert (.iface 154 v) 147 152 true).run Tryz.prog w=.ok (.tuple #[zE,.bool false]) w:=by kernel_rfl
theorem ta154_154 (v:Value) (w:World):(Instr.typeAssert (.iface 154 v) 147 154 true).run Tryz.prog w=.ok (.tuple #[v,.bool true]) w:=by kernel_rfl
theorem ta155_150 (v:Value) (w:World):(Instr.typeAssert (.iface 155 v) 147 150 true).run Tryz.prog w=.ok (.tuple #[zE,.bool false]) w:=by kernel_rfl
theorem ta155_152 (v:Value) (w:World):(Instr.typeAssert (.iface 155 v) 147 152 true).run Tryz.prog w=.ok (.tuple #[zE,.bool false]) w:=by kernel_rfl
theorem ta155_154 (v:Value) (w:World):(Instr.typeAssert (.iface 155 v) 147 154 true).run Tryz.prog w=.ok (.tuple #[zE,.bool false]) w:=by kernel_rfl
theorem ta155_155 (v:Value) (w:World):(Instr.typeAssert (.iface 155 v) 147 155 true).run Tryz.prog w=.ok (.tuple #[v,.bool true]) w:=by kernel_rfl
theorem ta156_150 (v:Value) (w:World):(Instr.typeAssert (.iface 156 v) 147 150 true).run Tryz.prog w=.ok (.tuple #[zE,.bool false]) w:=by kernel_rfl
theorem ta156_152 (v:Value) (w:World):(Instr.typeAssert (.iface 156 v) 147 152 true).run Tryz.prog w=.ok (.tuple #[zE,.bool false]) w:=by kernel_rfl
theorem ta156_154 (v:Value) (w:World):(Instr.typeAssert (.iface 156 v) 147 154 true).run Tryz.prog w=.ok (.tuple #[zE,.bool false]) w:=by kernel_rfl
theorem ta156_155 (v:Value) (w:World):(Instr.typeAssert (.iface 156 v) 147 155 true).run Tryz.prog w=.ok (.tuple #[zE,.bool false]) w:=by kernel_rfl
theorem ta156_156 (v:Value) (w:World):(Instr.typeAssert (.iface 156 v) 147 156 true).run Tryz.prog w=.ok (.tuple #[v,.bool true]) w:=by kernel_rfl
open Go.Lib in
theorem tab_below {w w':World} {name:String} {k:IntKind} {zs:List Int} (h:TabIs Tryz.prog w name k zs) (hb:Below w.heap.size w w'):TabIs Tryz.prog w' name k zs:=by
 unfold TabIs World.var? at *
 cases hg:Tryz.prog.globalNamed name with
 | none=>simp [hg] at h
 | some g =>
  simp only [hg,Option.bind_some] at h ⊢
  have hlt:g < w.heap.size:=by
   rcases Nat.lt_or_ge g w.heap.size with h' | h'
   ·exact h'
   ·rw [Array.getElem?_eq_none h'] at h;simp at h
  rw [hb.block g hlt]
  exact h
theorem below_growN (w:World) (k:Nat) (os:Array Obj):Below w.heap.size w (Go.Sort.grow (w.drewN k) os):=by
 have h1:Below w.heap.size w (w.drewN k):=pw_below_drewN (Below.refl _ w) k
 have h2:Below w.heap.size (w.drewN k) (Go.Sort.grow (w.drewN k) os):=⟨rfl,rfl,rfl,by rw [Go.Sort.size_grow];omega,fun j hj=>Go.Sort.heap_grow_old _ _ (by have:=h1.size;omega)⟩
 exact h1.trans h2
def Tab (w : World) : Prop := Lib.TabIs Tryz.prog w "internal/strconv.uint64pow10" .u64 Lib.pow10Tab
theorem Tab.below {w w':World} (h:Tab w) (hb:Below w.heap.size w w'):Tab w':=tab_below h hb
theorem itoa_calls (n:Int) (h0:-9223372036854775808≤n) (h1:n≤9223372036854775807) (w:World) (h:Tab w) :
  Calls Tryz.prog 100 #[.int .i64 n] w fun e w'=>e=.returned (.string ⟨(Lib.itoa n).toArray⟩)∧Below w.heap.size w w' :=
 (Tryz.strconv_Itoa n h0 h1 w h).mono fun _ _ ⟨he,k,os,hw⟩=>⟨he,by subst hw;exact below_growN _ _ _⟩
def levelX (x:S31):Int :=
 if x.f0=13∨x.f0=12∨x.f0=10∨x.f0=11 then 0 else if x.f0=3∨x.f0=4 then 1 else if x.f0=5∨x.f0=6 then 2 else if x.f0=2 then 1 else if x.f0=7 then 3 else if x.f0=9 then 4 else 5
def wrapB (t:ByteArray) (lv least:Int):ByteArray:=if lv < least then cat [⟨#[40]⟩,t,⟨#[41]⟩] else t
theorem wrapB_yes {t:ByteArray} {lv least:Int} (h:lv < least):wrapB t lv least=cat [⟨#[40]⟩,t,⟨#[41]⟩]:=if_pos h
theorem wrapB_no {t:ByteArray} {lv least:Int} (h:¬ lv < least):wrapB t lv least=t:=if_neg h
theorem cat_size (xs:List ByteArray):(cat xs).size=(xs.map (·.size)).sum:=by
 show (cat xs).data.toList.length=_
 rw [cat_data,List.length_flatten,List.map_map]
 rfl
def argT (ts:List (ByteArray × Int)) (i:Nat) (least:Int):ByteArray:=wrapB (ts.getD i (⟨#[]⟩,0)).1 (ts.getD i (⟨#[]⟩,0)).2 least
def signOf (op:Int):UInt8:=if op=3 then 43 else if op=4 then 45 else if op=5 then 42 else 47
def openOf (op:Int) (num:S28) (name:ByteArray) (size:Int) (ts:List (ByteArray × Int)):ByteArray :=
 if op=2 then cat [⟨#[45]⟩,argT ts 0 2]
 else if op=3∨op=4 then cat [argT ts 0 1,⟨#[32]⟩,⟨#[signOf op]⟩,⟨#[32]⟩,argT ts 1 2]
 else if op=5∨op=6 then cat [argT ts 0 2,⟨#[32]⟩,⟨#[signOf op]⟩,⟨#[32]⟩,argT ts 1 3]
 else if op=7 then cat [argT ts 0 4,⟨#[94]⟩,⟨(Lib.itoa size).toArray⟩]
 else if op=9 then cat [argT ts 0 4,⟨#[91]⟩,argT ts 1 0,⟨#[93]⟩]
 else if op=1 then name
 else ⟨#[]⟩
mutual
def openX:S31→ByteArray
 | ⟨op,num,name,size,l⟩=>openOf op num name size (argsX l)
def argsX:List S31→List (ByteArray × Int)
 | []=>[]
 | x :: l=>(openX x,levelX x) :: argsX l
end
def textX (x:S31) (least:Int):ByteArray:=wrapB (openX x) (levelX x) least
theorem m152 (v : Value) (w : World) : (method 467 152 v "metewand/read.level").run Tryz.prog w = .ok (99, v) w := by kernel_rfl
theorem m154 (v : Value) (w : World) : (method 467 154 v "metewand/read.level").run Tryz.prog w = .ok (310, v) w := by kernel_rfl
theorem m155 (v : Value) (w : World) : (method 467 155 v "metewand/read.level").run Tryz.prog w = .ok (311, v) w := by kernel_rfl
theorem m156 (v : Value) (w : World) : (method 467 156 v "metewand/read.level").run Tryz.prog w = .ok (312, v) w := by kernel_rfl
set_option maxHeartbeats 1000000 in
theorem lev154 (a b c d e f:Value) (w:World):Calls Tryz.prog 310 #[.agg #[a,b,c,d,e,f]] w fun en w'=>en=.returned (.int .i64 1)∧Below w.heap.size w w':=by
 go_enter Tryz.func310,Tryz.ntmps310
 go_wp2
 go_ret
 exact ⟨rfl,(Below.refl _ w).alloc (Nat.le_refl _) _⟩
set_option maxHeartbeats 1000000 in
theorem lev156 (a b c d e f:Value) (w:World):Calls Tryz.prog 312 #[.agg #[a,b,c,d,e,f]] w fun en w'=>en=.returned (.int .i64 5)∧Below w.heap.size w w':=by
 go_enter Tryz.func312,Tryz.ntmps312
 go_wp2
 go_ret
 exact ⟨rfl,(Below.refl _ w).alloc (Nat.le_refl _) _⟩
set_option maxHeartbeats 1000000 in
theorem lev155 (op:Int) (hop:op=7∨op=9) (b c d e f:Value) (w:World):Calls Tryz.prog 311 #[.agg #[.int .i64 op,b,c,d,e,f]] w fun en w'=>en=.returned (.int .i64 (if op=7 then 3 else 4))∧Below w.heap.size w w':=by
 rcases hop with rfl | rfl
 all_goals
  go_enter Tryz.func311,Tryz.ntmps311
  go_wp2
  go_ret
  exact ⟨rfl,(Below.refl _ w).alloc (Nat.le_refl _) _⟩
set_option maxHeartbeats 1000000 in
theorem lev152 (op:Int) (hop:op=3∨op=4∨op=5∨op=6) (b c d e f:Value) (w:World):Calls Tryz.prog 99 #[.agg #[.int .i64 op,b,c,d,e,f]] w fun en w'=>en=.returned (.int .i64 (if op=3∨op=4 then 1 else 2))∧Below w.heap.size w w':=by
 rcases hop with rfl | rfl | rfl | rfl
 all_goals
  go_enter Tryz.func99,Tryz.ntmps99
  go_wp2
  go_ret
  exact ⟨rfl,(Below.refl _ w).alloc (Nat.le_refl _) _⟩
set_option maxRecDepth 100000 in
set_option maxHeartbeats 4000000 in
theorem text_ahead (x y:S31) (hop:x.f0=2) (hxs:x.f4=[y]) (least:Int) (v:Value) (w:World) (hv:Vw w x v) (hsz:(openX x).size≤1000000)
  (hrec:∀ v w' ls,Vw w' y v→Below w.heap.size w w'→Calls Tryz.prog 58 #[v,.int .i64 ls] w' fun e w''=>e=.returned (.string (textX y ls))∧Below w'.heap.size w' w'') :
  Calls Tryz.prog 58 #[v,.int .i64 least] w fun e w'=>e=.returned (.string (textX x least))∧Below w.heap.size w w':=by
 obtain ⟨A,c,rfl,hc1,hc2⟩:=hv.out
 obtain ⟨op,num,name,size,xs⟩:=x
 simp only at hop hxs
 subst hop hxs
 obtain ⟨r,hr⟩:∃ r,r=openX ⟨2,num,name,size,[y]⟩:=⟨_,rfl⟩
 obtain ⟨R,hR⟩:∃ R,R=textX ⟨2,num,name,size,[y]⟩ least:=⟨_,rfl⟩
 have hR2:R=wrapB r 1 least:=by rw [hR,hr];rfl
 rw [← hR]
 rw [← hr] at hsz
 have HR2:=Lib.hid hR2
 have hcat:r=cat [⟨#[45]⟩,textX y 2]:=hr
 have HCAT:=Lib.hid hcat
 clear hR hR2 hr hcat
 have hk:=kindOf_calls ⟨2,num,name,size,[y]⟩ A 1 c
 unfold exV at *
 simp only at *
 have t1:=ta154_150
 have t2:=ta154_152
 have t3:=ta154_154
 have HK:=Lib.hid hk
 have HR:=Lib.hid hrec
 have HC:=Lib.hid hc2
 have HV:=Lib.hid hv
 clear hk hrec hc2 hv
 go_enter Tryz.func58,Tryz.ntmps58
 go_wp2_with fail
 refine (HK.out _).mono ?_
 rintro e w1 ⟨rfl,hb1⟩
 have hk2:kindT (S31.mk 2 num name size [y]).f0=154:=rfl
 rw [hk2]
 have hbw:=((Below.refl _ w).alloc (Nat.le_refl _) (.cells #[.int .i64 2,.string num.f0,.string num.f1,.string name,.int .i64 size,.slice A 1 c] 31)).trans (hb1.mono (by simp))
 have hbw2:=hbw.alloc hbw.size (.cells #[.int .i64 2,.string num.f0,.string num.f1,.string name,.int .i64 size,.slice A 1 c] 154)
 obtain ⟨ad,A5,c5,rfl,q0,q1,q2,q3,q4,q5,hvw⟩:=arg_cells (xs:=[y]) (Kd.C_below HC.out hbw2) 0 (by simp)
 simp only [List.getElem_cons_zero,Nat.zero_mul,Addr.add_zero'] at q0 q1 q2 q3 q4 q5 hvw
 go_wp2_with fail
 refine (HR.out _ _ _ hvw hbw2).mono ?_
 rintro e w2 ⟨rfl,hb2⟩
 go_wp2_with fail
 rw [HCAT.out] at hsz
 have hj:=joined_calls w2.heap.size [⟨#[45]⟩,textX y 2] 9 _ (blk_new w2 _) (by simp) (by omega)
 simp only [List.length_cons,List.length_nil] at hj
 refine hj.mono ?_
 rintro e w3 ⟨rfl,hb3⟩
 rw [← HCAT.out]
 have hm:=m154
 have hbx:=hbw2.trans (hb2.mono hbw2.size)
 have hbw3:=(hbx.alloc hbx.size (.cells #[.string ⟨#[45]⟩,.string (textX y 2)] 9)).trans (hb3.mono (by simp;have:=hbx.size;omega))
 have HL:=Lib.hid (fun a b c d e f w'=>lev154 a b c d e f w')
 have HB:=Lib.hid hbw3
 clear hj hb1 hb2 hb3 HV HC HR HK t1 t2 t3 q0 q1 q2 q3 q4 q5 hvw hbw hbw2 hbx hbw3
 have hrs:(cat [⟨#[40]⟩,r,⟨#[41]⟩]).size≤1000002:=by
  rw [← HCAT.out] at hsz
  rw [cat_size]
  simp
  have e1:(⟨#[40]⟩:ByteArray).size=1:=rfl
  have e2:(⟨#[41]⟩:ByteArray).size=1:=rfl
  omega
 have HS:=Lib.hid hrs
 clear hrs hsz
 cases hl':decide (1 < least)
 ·have hl:=Lib.hid (of_decide_eq_false hl')
  go_wp2_with (go_at_call 310;refine (HL.out _ _ _ _ _ _ _).mono ?_;rintro e w4 ⟨rfl,hb4⟩)
  go_ret
  exact ⟨by rw [HR2.out,wrapB_no (by have:=hl.out;omega)];rfl,HB.out.trans (hb4.mono HB.out.size)⟩
 ·have hl:=Lib.hid (of_decide_eq_true hl')
  go_wp2_with (go_at_call 310;refine (HL.out _ _ _ _ _ _ _).mono ?_;rintro e w4 ⟨rfl,hb4⟩)
  have hj:=joined_calls w4.heap.size [⟨#[40]⟩,r,⟨#[41]⟩] 9 _ (blk_new w4 _) (by simp) (Nat.le_trans HS.out (by omega))
  simp only [List.length_cons,List.length_nil] at hj
  refine hj.mono ?_
  rintro e w5 ⟨rfl,hb5⟩
  go_wp2
  go_ret
  have h4:=HB.out.trans (hb4.mono HB.out.size)
  exact ⟨by rw [HR2.out,wrapB_yes (by have:=hl.out;omega)];rfl,(h4.alloc h4.size (.cells #[.string ⟨#[40]⟩,.string r,.string ⟨#[41]⟩] 9)).trans (hb5.mono (by simp;have:=h4.size;omega))⟩
end Go.Proofs.YtjaobihcdkjmbaaGreatDoor
end
section
namespace Go.Proofs.YtjaobihcdkjmbaaGreatDoor
open Go.RowKit Go.Proofs.YtjaobihcdkjmbaaGreatDoorW.PrintWords Go.Proofs.YtjaobihcdkjmbaaGreatDoor.PReadTokens
set_option maxRecDepth 100000 in
set_option maxHeartbeats 1000000 in
theorem single_ref (b d name:ByteArray) (f:Int) (g:Value) (w:World) :
  Calls Tryz.prog 101 #[.agg #[.int .i64 1,.string b,.string d,.string name,.int .i64 f,g]] w fun e w'=>e=.returned (.string name)∧Below w.heap.size w w':=by
 go_enter Tryz.func101,Tryz.ntmps101
 go_wp2
 go_ret
 exact ⟨rfl,(Below.refl _ w).alloc (Nat.le_refl _) _⟩
set_option maxRecDepth 100000 in
set_option maxHeartbeats 4000000 in
theorem text_ref (x:S31) (hop:x.f0=1) (hxs:x.f4=[]) (least:Int) (v:Value) (w:World) (hv:Vw w x v) (hsz:(openX x).size≤1000000) :
  Calls Tryz.prog 58 #[v,.int .i64 least] w fun e w'=>e=.returned (.string (textX x least))∧Below w.heap.size w w':=by
 obtain ⟨A,c,rfl,hc1,hc2⟩:=hv.out
 obtain ⟨op,num,name,size,xs⟩:=x
 simp only at *
 subst hop hxs
 obtain ⟨r,hr⟩:∃ r,r=openX ⟨1,num,name,size,[]⟩:=⟨_,rfl⟩
 obtain ⟨R,hR⟩:∃ R,R=textX ⟨1,num,name,size,[]⟩ least:=⟨_,rfl⟩
 have hR2:R=wrapB r 5 least:=by rw [hR,hr];rfl
 rw [← hR]
 rw [← hr] at hsz
 have HR2:=Lib.hid hR2
 have hcat:r=name:=hr
 have HCAT:=Lib.hid hcat
 have HSZ:=Lib.hid hsz
 clear hR hR2 hr hcat hsz
 have hk:=kindOf_calls ⟨1,num,name,size,[]⟩ A 0 c
 unfold exV at *
 simp only [List.length_cons,List.length_nil,Nat.zero_add,Nat.reduceAdd] at *
 have t0:=ta156_150
 have t1:=ta156_152
 have t2:=ta156_154
 have t3:=ta156_155
 have t4:=ta156_156
 have HK:=Lib.hid hk
 have HC:=Lib.hid hc2
 have HV:=Lib.hid hv
 clear hk hc2 hv
 go_enter Tryz.func58,Tryz.ntmps58
 go_wp2_with fail
 refine (HK.out _).mono ?_
 rintro e w1 ⟨rfl,hb1⟩
 have hk2:kindT (S31.mk 1 num name size []).f0=156:=rfl
 rw [hk2]
 have hbw:=((Below.refl _ w).alloc (Nat.le_refl _) (.cells #[.int .i64 1,.string num.f0,.string num.f1,.string name,.int .i64 size,.slice A 0 c] 31)).trans (hb1.mono (by simp))
 have hbw2:=hbw.alloc hbw.size (.cells #[.int .i64 1,.string num.f0,.string num.f1,.string name,.int .i64 size,.slice A 0 c] 156)
 obtain rfl:r=name:=HCAT.out
 have HT:=Lib.hid (fun b d f g w'=>single_ref b d r f g w')
 clear HV HC HK
 go_wp2_with (go_at_call 101;refine (HT.out _ _ _ _ _).mono ?_;rintro e w3 ⟨rfl,hb3⟩)
 have hbw3:=hbw2.trans (hb3.mono hbw2.size)
 have HL:=Lib.hid (fun a b c d e f w'=>lev156 a b c d e f w')
 clear hb1 hb3 hbw hbw2 HCAT HT t0 t1 t2 t3 t4
 have hm:=m156
 have HB:=Lib.hid hbw3
 have hrs:(cat [⟨#[40]⟩,r,⟨#[41]⟩]).size≤1000002:=by
  have hsz:=HSZ.out
  rw [cat_size]
  simp
  have e1:(⟨#[40]⟩:ByteArray).size=1:=rfl
  have e2:(⟨#[41]⟩:ByteArray).size=1:=rfl
  omega
 have HS:=Lib.hid hrs
 clear hrs
 cases hl':decide (5 < least)
 ·have hl:=Lib.hid (of_decide_eq_false hl')
  go_wp2_with (go_at_call 312;refine (HL.out _ _ _ _ _ _ _).mono ?_;rintro e w4 ⟨rfl,hb4⟩)
  go_ret
  exact ⟨by rw [HR2.out,wrapB_no (by have:=hl.out;omega)];rfl,HB.out.trans (hb4.mono HB.out.size)⟩
 ·have hl:=Lib.hid (of_decide_eq_true hl')
  go_wp2_with fail
  refine (HL.out _ _ _ _ _ _ _).mono ?_
  rintro e w4 ⟨rfl,hb4⟩
  go_wp2_with fail
  have hj:=joined_calls w4.heap.size [⟨#[40]⟩,r,⟨#[41]⟩] 9 _ (blk_new w4 _) (by simp) (Nat.le_trans HS.out (by omega))
  simp only [List.length_cons,List.length_nil] at hj
  refine hj.mono ?_
  rintro e w5 ⟨rfl,hb5⟩
  go_wp2
  go_ret
  have h4:=HB.out.trans (hb4.mono HB.out.size)
  exact ⟨by rw [HR2.out,wrapB_yes (by have:=hl.out;omega)];rfl,(h4.alloc h4.size (.cells #[.string ⟨#[40]⟩,.string r,.string ⟨#[41]⟩] 9)).trans (hb5.mono (by simp;have:=h4.size;omega))⟩
set_option maxRecDepth 100000 in
set_option maxHeartbeats 4000000 in
theorem text_pow (x y:S31) (hop:x.f0=7) (hxs:x.f4=[y]) (hs0:-9223372036854775808≤x.f3) (hs1:x.f3≤9223372036854775807) (least:Int) (v:Value) (w:World) (hv:Vw w x v) (hsz:(openX x).size≤1000000) (htab:Tab w)
  (hrec:∀ v w' ls,Vw w' y v→Below w.heap.size w w'→Calls Tryz.prog 58 #[v,.int .i64 ls] w' fun e w''=>e=.returned (.string (textX y ls))∧Below w'.heap.size w' w'') :
  Calls Tryz.prog 58 #[v,.int .i64 least] w fun e w'=>e=.returned (.string (textX x least))∧Below w.heap.size w w':=by
 obtain ⟨A,c,rfl,hc1,hc2⟩:=hv.out
 obtain ⟨op,num,name,size,xs⟩:=x
 simp only at *
 subst hop hxs
 obtain ⟨r,hr⟩:∃ r,r=openX ⟨7,num,name,size,[y]⟩:=⟨_,rfl⟩
 obtain ⟨R,hR⟩:∃ R,R=textX ⟨7,num,name,size,[y]⟩ least:=⟨_,rfl⟩
 have hR2:R=wrapB r 3 least:=by rw [hR,hr];rfl
 rw [← hR]
 rw [← hr] at hsz
 have HR2:=Lib.hid hR2
 have hcat:r=cat [textX y 4,⟨#[94]⟩,⟨(Lib.itoa size).toArray⟩]:=hr
 have HCAT:=Lib.hid hcat
 have HSZ:=Lib.hid hsz
 clear hR hR2 hr hcat hsz
 have hk:=kindOf_calls ⟨7,num,name,size,[y]⟩ A 1 c
 unfold exV at *
 simp only [List.length_cons,List.length_nil,Nat.zero_add,Nat.reduceAdd] at *
 have t0:=ta155_150
 have t1:=ta155_152
 have t2:=ta155_154
 have t3:=ta155_155
 have HK:=Lib.hid hk
 have HC:=Lib.hid hc2
 have HV:=Lib.hid hv
 clear hk hc2 hv
 have HR:=Lib.hid hrec
 have HI:=Lib.hid (fun w' (h:Tab w')=>itoa_calls size hs0 hs1 w' h)
 have HT:=Lib.hid htab
 clear hrec hs0 hs1 htab
 go_enter Tryz.func58,Tryz.ntmps58
 go_wp2_with fail
 refine (HK.out _).mono ?_
 rintro e w1 ⟨rfl,hb1⟩
 have hk2:kindT (S31.mk 7 num name size [y]).f0=155:=rfl
 rw [hk2]
 have hbw:=((Below.refl _ w).alloc (Nat.le_refl _) (.cells #[.int .i64 7,.string num.f0,.string num.f1,.string name,.int .i64 size,.slice A 1 c] 31)).trans (hb1.mono (by simp))
 have hbw2:=hbw.alloc hbw.size (.cells #[.int .i64 7,.string num.f0,.string num.f1,.string name,.int .i64 size,.slice A 1 c] 155)
 obtain ⟨ad,A5,c5,rfl,q0,q1,q2,q3,q4,q5,hvw⟩:=arg_cells (xs:=[y]) (Kd.C_below HC.out hbw2) 0 (by simp)
 simp only [List.getElem_cons_zero,Nat.zero_mul,Addr.add_zero'] at q0 q1 q2 q3 q4 q5 hvw
 have hbl:=blk_new w1 (.cells #[.int .i64 7,.string num.f0,.string num.f1,.string name,.int .i64 size,.slice (some ad) 1 c] 155)
 go_wp2_with fail
 refine (HR.out _ _ _ hvw hbw2).mono ?_
 rintro e w2 ⟨rfl,hb2⟩
 have hx2:=bcell hb2 hbl
 obtain ⟨⟨p0,p1,p2,p3,p4,p5⟩,_,xl2⟩:=cells6 hx2
 have hbx:=hbw2.trans (hb2.mono hbw2.size)
 go_wp2_with fail
 refine (HI.out _ (HT.out.below hbx)).mono ?_
 rintro e w6 ⟨rfl,hb6⟩
 have hby:=hbx.trans (hb6.mono hbx.size)
 go_wp2_with fail
 have hj:=joined_calls w6.heap.size [textX y 4,⟨#[94]⟩,⟨(Lib.itoa size).toArray⟩] 9 _ (blk_new w6 _) (by simp) (by rw [← HCAT.out];have:=HSZ.out;omega)
 simp only [List.length_cons,List.length_nil] at hj
 refine hj.mono ?_
 rintro e w3 ⟨rfl,hb3⟩
 rw [← HCAT.out]
 have hbw3:=(hby.alloc hby.size (.cells #[.string (textX y 4),.string ⟨#[94]⟩,.string ⟨(Lib.itoa size).toArray⟩] 9)).trans (hb3.mono (by simp;have:=hby.size;omega))
 have HL:=Lib.hid (fun b c d e f w'=>lev155 7 (.inl rfl) b c d e f w')
 clear hj hb1 hb2 hb3 hb6 HV HC HR HK q0 q1 q2 q3 q4 q5 hvw hbw hbw2 hbx hby hbl hx2 p0 p1 p2 p3 p4 p5 xl2 HI HT
 have hm:=m155
 have HB:=Lib.hid hbw3
 have hrs:(cat [⟨#[40]⟩,r,⟨#[41]⟩]).size≤1000002:=by
  have hsz:=HSZ.out
  rw [cat_size]
  simp
  have e1:(⟨#[40]⟩:ByteArray).size=1:=rfl
  have e2:(⟨#[41]⟩:ByteArray).size=1:=rfl
  omega
 have HS:=Lib.hid hrs
 clear hrs
 cases hl':decide (3 < least)
 ·have hl:=Lib.hid (of_decide_eq_false hl')
  go_wp2_with (go_at_call 311;refine (HL.out _ _ _ _ _ _).mono ?_;rintro e w4 ⟨rfl,hb4⟩)
  go_ret
  exact ⟨by rw [HR2.out,wrapB_no (by have:=hl.out;omega)];rfl,HB.out.trans (hb4.mono HB.out.size)⟩
 ·have hl:=Lib.hid (of_decide_eq_true hl')
  go_wp2_with fail
  refine (HL.out _ _ _ _ _ _).mono ?_
  rintro e w4 ⟨rfl,hb4⟩
  go_wp2_with fail
  have hj:=joined_calls w4.heap.size [⟨#[40]⟩,r,⟨#[41]⟩] 9 _ (blk_new w4 _) (by simp) (Nat.le_trans HS.out (by omega))
  simp only [List.length_cons,List.length_nil] at hj
  refine hj.mono ?_
  rintro e w5 ⟨rfl,hb5⟩
  go_wp2
  go_ret
  have h4:=HB.out.trans (hb4.mono HB.out.size)
  exact ⟨by rw [HR2.out,wrapB_yes (by have:=hl.out;omega)];rfl,(h4.alloc h4.size (.cells #[.string ⟨#[40]⟩,.string r,.string ⟨#[41]⟩] 9)).trans (hb5.mono (by simp;have:=h4.size;omega))⟩
end Go.Proofs.YtjaobihcdkjmbaaGreatDoor
end
