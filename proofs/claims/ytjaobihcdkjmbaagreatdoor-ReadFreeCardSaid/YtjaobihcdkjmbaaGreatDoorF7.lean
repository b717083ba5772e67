/- The law ReadFree answers true for every argument; a part of its proof. -/
import Derived.RegionTactic
import Derived.StillTailTactics
import Derived.WalkLawsBesides
import Derived.Laws.PanicsMore
import Derived.Deep.RegionHeld3
import Derived.Outline
import Derived.Test.YtjaobihcdkjmbaaGreatDoorF6
set_option linter.unusedVariables false
set_option linter.unusedSimpArgs false
section
namespace Go.Proofs.YtjaobihcdkjmbaaGreatDoor
open Go.RowKit Go.Proofs.YtjaobihcdkjmbaaGreatDoorW.PrintWords Go.Proofs.YtjaobihcdkjmbaaGreatDoor.PReadTokens
def rdCells (v:Value) (now en R:Nat):Array Value:=#[v,.int .i64 now,.int .i64 en,.func (.func 134) #[] #[],.func (.func 135) #[.pointer (some ⟨R,0,none⟩)] #[]]
structure Rdr (w:World) (R:Nat) (ts:List S47) (now en:Nat):Prop where
 out:∃ v base,w.heap[R]?=some (.cells (rdCells v now en R) 97 (0,0))∧OwnToks w base v ts
def tokP (ts:List S47) (en now:Nat):S47:=if h:now < ts.length then ts[now] else ⟨-1,⟨#[]⟩,en⟩
theorem Rdr.keep {w w':World} {R:Nat} {ts:List S47} {now en:Nat} (h:Rdr w R ts now en) (hb:Below w.heap.size w w'):Rdr w' R ts now en:=by
 obtain ⟨v,base,h1,h2⟩:=h.out
 exact ⟨v,base,bcell hb h1,pw_own_below h2 hb⟩
theorem Rdr.lt {w:World} {R:Nat} {ts:List S47} {now en:Nat} (h:Rdr w R ts now en):R < w.heap.size:=by
 obtain ⟨v,base,h1,h2⟩:=h.out
 exact blk_lt h1
theorem Rdr.set {w:World} {R:Nat} {ts:List S47} {now en:Nat} (h:Rdr w R ts now en) (now':Nat):Rdr (w.setCell ⟨R,1,none⟩ (.int .i64 now')) R ts now' en:=by
 obtain ⟨v,base,h1,h2⟩:=h.out
 exact ⟨v,base,blk_set h1 1 _,own_setCell h2 (own_ne h2 h1 (by decide)) _⟩
theorem OwnToks.cells {w:World} {base:Nat} {v:Value} {ts:List S47} (h:OwnToks w base v ts) {i:Nat} (hi:i < ts.length) :
  ∃ g c,v=.slice (some ⟨g,0,none⟩) ts.length c∧w.cell? ⟨g,i * 3,none⟩=some (.int .i64 ts[i].f0)∧w.cell? ⟨g,i * 3+1,none⟩=some (.string ts[i].f1)∧w.cell? ⟨g,i * 3+2,none⟩=some (.int .i64 ts[i].f2):=by
 have hfl:∀ (l:List S47) (i:Nat) (hi:i < l.length),(flat l)[i * 3]?=some (.int .i64 l[i].f0)∧(flat l)[i * 3+1]?=some (.string l[i].f1)∧(flat l)[i * 3+2]?=some (.int .i64 l[i].f2):=by
  intro l
  induction l with
  | nil=>intro i hi;simp at hi
  | cons t l ih =>
   intro i hi
   cases i with
   | zero=>exact ⟨rfl,rfl,rfl⟩
   | succ i =>
    have:=ih i (by simpa using hi)
    have e:flat (t :: l)=tokC t++flat l:=by simp [flat]
    have hl:(tokC t).length=3:=rfl
    rw [e]
    refine ⟨?_,?_,?_⟩
    ·rw [List.getElem?_append_right (by omega),hl,show (i+1) * 3 - 3=i * 3 by omega];exact this.1
    ·rw [List.getElem?_append_right (by omega),hl,show (i+1) * 3+1 - 3=i * 3+1 by omega];exact this.2.1
    ·rw [List.getElem?_append_right (by omega),hl,show (i+1) * 3+2 - 3=i * 3+2 by omega];exact this.2.2
 rcases h.2 with ⟨_,h0⟩ | ⟨g,cap,cur,rfl,hb,hg,_,_,_,ht⟩
 ·omega
 ·obtain ⟨f0,f1,f2⟩:=hfl ts i hi
  have hc:=World.ownsRow.cells h (g:=g) rfl
  have c0:=hc _ _ f0
  have c1:=hc _ _ f1
  have c2:=hc _ _ f2
  rw [add_plain] at c0 c1 c2
  exact ⟨g,cap,rfl,c0,c1,c2⟩
theorem results_c {P:Program} {fn:Func} {p:Tmp} {ty:TypeId} (h:fn.results=#[.cell p ty]) (tmps:Array Value) (w:World) (g:Nat) (t:TypeId) (cs:Array Value) (fr:Nat × Nat) (d:TypeDesc)
  (hp:tmps.getD p undef=.pointer (some ⟨g,0,none⟩)) (hg:w.heap[g]?=some (.cells cs t fr))
  (hu:P.underlying ty=some d) (hd:(match d with | .struct _ | .array _ _=>true | _=>false)=true) (hi:(P.info? ty).map (·.size)=some cs.size) :
  (results fn tmps).run P w=.ok (.agg cs) w:=by
 have hp':tmps[p]?.getD undef=.pointer (some ⟨g,0,none⟩):=by simpa using hp
 simp [results,h,hp',asAddr,run_loadVar_row w g t ty cs fr d hg hu hd hi]
theorem size47:(Tryz.prog.info? 47).map (·.size)=some 3:=by kernel_rfl
theorem size31:(Tryz.prog.info? 31).map (·.size)=some 6:=by kernel_rfl
theorem fin3 {X:World} {R:Nat} {x0 x1 x2:Value} {t:TypeId} (v0 v1 v2:Value) (hR:X.heap[R]?=some (.cells #[x0,x1,x2] t (0,0))) :
  (((X.setCell ⟨R,0,none⟩ v0).setCell ⟨R,1,none⟩ v1).setCell ⟨R,2,none⟩ v2).heap[R]?=some (.cells #[v0,v1,v2] t (0,0)):=blk_set (blk_set (blk_set hR 0 v0) 1 v1) 2 v2
theorem below3 {B:Nat} {w X:World} {R:Nat} (h:Below B w X) (hB:B≤R) (v0 v1 v2:Value):Below B w (((X.setCell ⟨R,0,none⟩ v0).setCell ⟨R,1,none⟩ v1).setCell ⟨R,2,none⟩ v2) :=
 ((h.setCell (p:=⟨R,0,none⟩) hB _).setCell (p:=⟨R,1,none⟩) hB _).setCell (p:=⟨R,2,none⟩) hB _
set_option maxHeartbeats 1000000 in
theorem peek_some (R:Nat) (ts:List S47) (now en:Nat) (w:World) (h:Rdr w R ts now en) (hn:now < ts.length) :
  Calls Tryz.prog 136 #[.pointer (some ⟨R,0,none⟩)] w fun e w'=>e=.returned (tokV ts[now])∧Below w.heap.size w w':=by
 obtain ⟨v,base,h1,h2⟩:=h.out
 obtain ⟨g,c,rfl,c0,c1,c2⟩:=h2.cells hn
 have d0:w.cell? ⟨R,0,none⟩=some (.slice (some ⟨g,0,none⟩) ts.length c):=blk_cell h1 0
 have d1:w.cell? ⟨R,1,none⟩=some (.int .i64 now):=blk_cell h1 1
 have hRl:=blk_lt h1
 have hgl:=World.block_lt_of_cell? w _ c0
 simp only at hgl
 clear h h1 h2
 have hne:((now:Int) == (ts.length:Int))=false:=by rw [beq_eq_false_iff_ne];omega
 have hlt:(now:Int) < (ts.length:Int):=by omega
 unfold tokV
 generalize ts[now]=t at *
 go_enter Tryz.func136,Tryz.ntmps136
 go_wp2
 go_quiet (fail)
 generalize nq=n0 at *
 go_wp2
 go_region
 all_goals
  go_wp2
  refine bodyPost_ret (results_c Tryz.results136 _ _ w.heap.size 47 #[.int .i64 t.f0,.string t.f1,.int .i64 t.f2] (0,0) _ rfl (fin3 (.int .i64 t.f0) (.string t.f1) (.int .i64 t.f2) (blk_drewN (blk_new w _) _)) Tryz.underlying47 rfl size47) rfl ⟨rfl,?_⟩
  exact below3 (pw_below_drewN ((Below.refl _ w).alloc (Nat.le_refl _) _) _) (Nat.le_refl _) _ _ _
set_option maxHeartbeats 1000000 in
theorem peek_none (R:Nat) (ts:List S47) (en:Nat) (w:World) (h:Rdr w R ts ts.length en) :
  Calls Tryz.prog 136 #[.pointer (some ⟨R,0,none⟩)] w fun e w'=>e=.returned (tokV ⟨-1,⟨#[]⟩,en⟩)∧Below w.heap.size w w':=by
 obtain ⟨v,base,h1,h2⟩:=h.out
 obtain ⟨A,c,rfl⟩:=own_slice h2
 have d0:w.cell? ⟨R,0,none⟩=some (.slice A ts.length c):=blk_cell h1 0
 have d1:w.cell? ⟨R,1,none⟩=some (.int .i64 ts.length):=blk_cell h1 1
 have d2:w.cell? ⟨R,2,none⟩=some (.int .i64 en):=blk_cell h1 2
 have hRl:=blk_lt h1
 clear h h1 h2
 go_enter Tryz.func136,Tryz.ntmps136
 go_wp2
 go_quiet (fail)
 generalize nq=n0 at *
 go_wp2
 refine bodyPost_ret (results_c Tryz.results136 _ _ w.heap.size 47 #[.int .i64 (-1),.string ⟨#[]⟩,.int .i64 en] (0,0) _ rfl (fin3 (.int .i64 (-1)) (.string ⟨#[]⟩) (.int .i64 en) (blk_drewN (blk_new w _) _)) Tryz.underlying47 rfl size47) rfl ⟨rfl,?_⟩
 exact below3 (pw_below_drewN ((Below.refl _ w).alloc (Nat.le_refl _) _) _) (Nat.le_refl _) _ _ _
theorem peek_any (R:Nat) (ts:List S47) (now en:Nat) (w:World) (h:Rdr w R ts now en) (hn:now≤ts.length) :
  Calls Tryz.prog 136 #[.pointer (some ⟨R,0,none⟩)] w fun e w'=>e=.returned (tokV (tokP ts en now))∧Below w.heap.size w w':=by
 unfold tokP
 by_cases hlt:now < ts.length
 ·rw [dif_pos hlt];exact peek_some R ts now en w h hlt
 ·rw [dif_neg hlt]
  obtain rfl:now=ts.length:=by omega
  exact peek_none R ts en w h
def isTok (t:S47) (x:ByteArray):Bool:=(t.f0 == 4 || t.f0 == 1) && t.f1.toList == x.toList
set_option maxHeartbeats 1000000 in
theorem is_any (R:Nat) (ts:List S47) (now en:Nat) (x:ByteArray) (w:World) (h:Rdr w R ts now en) (hn:now≤ts.length) :
  Calls Tryz.prog 178 #[.pointer (some ⟨R,0,none⟩),.string x] w fun e w'=>e=.returned (.bool (isTok (tokP ts en now) x))∧Below w.heap.size w w':=by
 have hp:=peek_any R ts now en w h hn
 unfold tokV at hp
 generalize tokP ts en now=t at *
 obtain ⟨r,hr⟩:∃ r,r=isTok t x:=⟨_,rfl⟩
 rw [← hr]
 have Hr:=Lib.hid hr
 clear h hr
 go_enter Tryz.func178,Tryz.ntmps178
 go_wp2_with (go_at_call 136;refine hp.mono ?_;rintro e w1 ⟨rfl,hb1⟩)
 all_goals
  go_ret
  refine ⟨?_,(hb1.alloc hb1.size _)⟩
  rw [Hr.out]
  simp_all [isTok]
theorem field47_2 (a c:Int) (b:ByteArray) (w:World):(Instr.field 47 (.agg #[.int .i64 a,.string b,.int .i64 c]) 2).run Tryz.prog w=.ok (.int .i64 c) w:=by kernel_rfl
theorem field47_0 (a c:Int) (b:ByteArray) (w:World):(Instr.field 47 (.agg #[.int .i64 a,.string b,.int .i64 c]) 0).run Tryz.prog w=.ok (.int .i64 a) w:=by kernel_rfl
def stuckAt (n:Int):Ending:=.panicked [{ v:=.iface 137 (.agg #[.int .i64 n]),recovered:=false }]
set_option maxHeartbeats 1000000 in
theorem must_true (R:Nat) (w:World):Calls Tryz.prog 93 #[.pointer (some ⟨R,0,none⟩),.bool true] w fun e w'=>e=.returned (.tuple #[])∧w'=w:=by
 go_enter Tryz.func93,Tryz.ntmps93
 go_wp2
 exact bodyPost_end (results_none rfl _ _ _) rfl ⟨rfl,rfl⟩
set_option maxRecDepth 100000 in
set_option maxHeartbeats 1000000 in
theorem must_false (R:Nat) (ts:List S47) (now en:Nat) (w:World) (h:Rdr w R ts now en) (hn:now≤ts.length) :
  Calls Tryz.prog 93 #[.pointer (some ⟨R,0,none⟩),.bool false] w fun e w'=>e=stuckAt (tokP ts en now).f2∧Below w.heap.size w w':=by
 have hp:=peek_any R ts now en w h hn
 unfold tokV at hp
 generalize tokP ts en now=t at *
 clear h
 have hfd:=field47_2 t.f0 t.f2 t.f1
 go_enter Tryz.func93,Tryz.ntmps93
 go_wp2_with (go_at_call 136;refine hp.mono ?_;rintro e w1 ⟨rfl,hb1⟩)
 exact ⟨rfl,rfl,hb1⟩
theorem isTok_lt {ts:List S47} {en now:Nat} {x:ByteArray} (h:isTok (tokP ts en now) x=true):now < ts.length:=by
 unfold tokP at h
 by_cases hlt:now < ts.length
 ·exact hlt
 ·rw [dif_neg hlt] at h;simp [isTok] at h
structure Took (w:World) (R:Nat) (ts:List S47) (now' en:Nat) (w':World):Prop where
 grown:w.grownBy w' (some R)
 rdr:Rdr w' R ts now' en
theorem Took.refl {w:World} {R:Nat} {ts:List S47} {now en:Nat} (h:Rdr w R ts now en):Took w R ts now en w:=⟨World.grownBy.refl _ _,h⟩
theorem Took.trans {w w1 w2:World} {R:Nat} {ts:List S47} {n1 n2 en:Nat} (h:Took w R ts n1 en w1) (k:Took w1 R ts n2 en w2):Took w R ts n2 en w2:=⟨Lib.grownBy_trans h.grown k.grown,k.rdr⟩
theorem Took.below {w w1 w2:World} {R:Nat} {ts:List S47} {n1 en:Nat} (h:Took w R ts n1 en w1) (hb:Below w1.heap.size w1 w2):Took w R ts n1 en w2:=⟨Lib.grownBy_below h.grown hb,h.rdr.keep hb⟩
theorem Took.next {w w1:World} {R:Nat} {ts:List S47} {now en:Nat} (h:Rdr w R ts now en) (hb:Below w.heap.size w w1):Took w R ts (now+1) en (w1.setCell ⟨R,1,none⟩ (.int .i64 ((now:Int)+1))):=by
 have:=(h.keep hb).set (now+1)
 rw [show (((now+1:Nat)):Int)=(now:Int)+1 by omega] at this
 exact ⟨Lib.grownBy_trans (Lib.grownBy_below (World.grownBy.refl _ _) hb) (Lib.grownBy_setCell _ _ _ _),this⟩
theorem Rdr.cells {w:World} {R:Nat} {ts:List S47} {now en:Nat} (h:Rdr w R ts now en) :
  w.cell? ⟨R,1,none⟩=some (.int .i64 now)∧w.frozen? ⟨R,1,none⟩=false∧w.cell? ⟨R,3,none⟩=some (.func (.func 134) #[] #[])∧w.cell? ⟨R,4,none⟩=some (.func (.func 135) #[.pointer (some ⟨R,0,none⟩)] #[])∧R < w.heap.size:=by
 obtain ⟨v,base,h1,h2⟩:=h.out
 exact ⟨blk_cell h1 1,blk_frozen h1 1,blk_cell h1 3,blk_cell h1 4,blk_lt h1⟩
theorem is_val (R:Nat) (ts:List S47) (now en:Nat) (x:ByteArray) (r:Bool) (w:World) (h:Rdr w R ts now en) (hn:now≤ts.length) (hr:isTok (tokP ts en now) x=r) :
  Calls Tryz.prog 178 #[.pointer (some ⟨R,0,none⟩),.string x] w fun e w'=>e=.returned (.bool r)∧Below w.heap.size w w':=by
 rw [← hr];exact is_any R ts now en x w h hn
set_option maxHeartbeats 1000000 in
theorem take_yes (R:Nat) (ts:List S47) (now en:Nat) (x:ByteArray) (w:World) (h:Rdr w R ts now en) (hl:ts.length≤100000) (hr:isTok (tokP ts en now) x=true) :
  Calls Tryz.prog 158 #[.pointer (some ⟨R,0,none⟩),.string x] w fun e w'=>e=.returned (.tuple #[])∧Took w R ts (now+1) en w':=by
 have hlt:=isTok_lt hr
 have hp:=is_val R ts now en x true w h (by omega) hr
 have Hr:=Lib.hid hr
 have H:=Lib.hid h
 clear hr h
 go_enter Tryz.func158,Tryz.ntmps158
 go_wp2_with (first
  | (go_at_call 178;refine hp.mono ?_;rintro e w1 ⟨rfl,hb1⟩)
  | (go_at_call 93;refine (must_true R _).mono ?_;rintro e w2 ⟨rfl,rfl⟩;obtain ⟨c1,f1,c3,c4,lt⟩:=(H.out.keep hb1).cells))
 exact bodyPost_end (results_none rfl _ _ _) rfl ⟨rfl,Took.next H.out hb1⟩
set_option maxHeartbeats 1000000 in
theorem take_no (R:Nat) (ts:List S47) (now en:Nat) (x:ByteArray) (w:World) (h:Rdr w R ts now en) (hn:now≤ts.length) (hr:isTok (tokP ts en now) x=false) :
  Calls Tryz.prog 158 #[.pointer (some ⟨R,0,none⟩),.string x] w fun e w'=>e=stuckAt (tokP ts en now).f2∧Below w.heap.size w w':=by
 have hp:=is_val R ts now en x false w h hn hr
 have H:=Lib.hid h
 clear hr h
 generalize hat:(tokP ts en now).f2=at_
 have Hat:=Lib.hid hat
 clear hat
 go_enter Tryz.func158,Tryz.ntmps158
 go_wp2_with (first
  | (go_at_call 178;refine hp.mono ?_;rintro e w1 ⟨rfl,hb1⟩)
  | (go_at_call 93;refine (must_false R ts now en _ (H.out.keep hb1) hn).mono ?_;rintro e w2 ⟨rfl,hb2⟩;rw [Hat.out];unfold stuckAt))
 exact ⟨rfl,rfl,hb1.trans (hb2.mono hb1.size)⟩
set_option maxHeartbeats 1000000 in
theorem skip_yes (R:Nat) (ts:List S47) (now en:Nat) (x:ByteArray) (w:World) (h:Rdr w R ts now en) (hl:ts.length≤100000) (hr:isTok (tokP ts en now) x=true) :
  Calls Tryz.prog 156 #[.pointer (some ⟨R,0,none⟩),.string x] w fun e w'=>e=.returned (.bool true)∧Took w R ts (now+1) en w':=by
 have hlt:=isTok_lt hr
 have hp:=is_val R ts now en x true w h (by omega) hr
 have H:=Lib.hid h
 clear hr h
 go_enter Tryz.func156,Tryz.ntmps156
 go_wp2_with (go_at_call 178;refine hp.mono ?_;rintro e w1 ⟨rfl,hb1⟩;obtain ⟨c1,f1,c3,c4,lt⟩:=(H.out.keep hb1).cells)
 go_ret
 exact ⟨rfl,Took.next H.out hb1⟩
set_option maxHeartbeats 1000000 in
theorem skip_no (R:Nat) (ts:List S47) (now en:Nat) (x:ByteArray) (w:World) (h:Rdr w R ts now en) (hn:now≤ts.length) (hr:isTok (tokP ts en now) x=false) :
  Calls Tryz.prog 156 #[.pointer (some ⟨R,0,none⟩),.string x] w fun e w'=>e=.returned (.bool false)∧Took w R ts now en w':=by
 have hp:=is_val R ts now en x false w h hn hr
 have H:=Lib.hid h
 clear hr h
 go_enter Tryz.func156,Tryz.ntmps156
 go_wp2_with (go_at_call 178;refine hp.mono ?_;rintro e w1 ⟨rfl,hb1⟩)
 go_ret
 exact ⟨rfl,(Took.refl H.out).below hb1⟩
set_option maxHeartbeats 1000000 in
theorem kind_yes (R:Nat) (ts:List S47) (now en:Nat) (k:Int) (w:World) (h:Rdr w R ts now en) (hlt:now < ts.length) (hl:ts.length≤100000) (hr:((tokP ts en now).f0 == k)=true) :
  Calls Tryz.prog 157 #[.pointer (some ⟨R,0,none⟩),.int .i64 k] w fun e w'=>e=.returned (.string (tokP ts en now).f1)∧Took w R ts (now+1) en w':=by
 have hp:=peek_any R ts now en w h (by omega)
 unfold tokV at hp
 generalize tokP ts en now=t at *
 have H:=Lib.hid h
 clear h
 go_enter Tryz.func157,Tryz.ntmps157
 go_wp2_with (first
  | (go_at_call 136;refine hp.mono ?_;rintro e w1 ⟨rfl,hb1⟩;have hn1:=blk_new w1 (tokO t);have hb2:=hb1.alloc hb1.size (tokO t))
  | (go_at_call 93;refine (must_true R _).mono ?_;rintro e w2 ⟨rfl,rfl⟩;obtain ⟨c1,f1,c3,c4,lt⟩:=(H.out.keep hb1).cells))
 go_ret
 exact ⟨rfl,(Took.next H.out hb1).below ((Below.refl _ _).alloc (Nat.le_refl _) _)⟩
end Go.Proofs.YtjaobihcdkjmbaaGreatDoor
end
section
namespace Go.Proofs.YtjaobihcdkjmbaaGreatDoor
open Go.RowKit Go.Proofs.YtjaobihcdkjmbaaGreatDoorW.PrintWords Go.Proofs.YtjaobihcdkjmbaaGreatDoor.PReadTokens
def exV (x:S31) (v5:Value):Value:=.agg #[.int .i64 x.f0,.string x.f1.f0,.string x.f1.f1,.string x.f2,.int .i64 x.f3,v5]
structure Ex (w:World) (S:Nat→Prop) (x:S31) (v:Value):Prop where
 out:∃ v5,v=exV x v5∧k31.R 31 w 0 S v5 x.f4
theorem Ex.mono {w:World} {S S':Nat→Prop} {x:S31} {v:Value} (h:Ex w S x v) (hS:∀ k,S k→S' k):Ex w S' x v:=by
 obtain ⟨v5,h1,h2⟩:=h.out
 exact ⟨v5,h1,Kd.R_mono h2 hS⟩
theorem Ex.old {w:World} {S S':Nat→Prop} {x:S31} {v:Value} (h:Ex w S x v) (hS:∀ k,S k→k < w.heap.size→S' k):Ex w S' x v:=by
 obtain ⟨v5,h1,h2⟩:=h.out
 exact ⟨v5,h1,Kd.R_mono (Kd.R_bound h2) (fun k hk=>hS k hk.1 hk.2.2.1)⟩
theorem Ex.step {w w1:World} {S:Nat→Prop} {x:S31} {v:Value} (h:Ex w S x v) (hs:∀ k,S k→k < w.heap.size→w1.heap[k]?=w.heap[k]?):Ex w1 S x v:=by
 obtain ⟨v5,h1,h2⟩:=h.out
 exact ⟨v5,h1,Kd.R_step h2 hs⟩
theorem Ex.grown {w w1:World} {S:Nat→Prop} {x:S31} {v:Value} {R:Nat} (h:Ex w S x v) (hg:w.grownBy w1 (some R)) (hS:∀ k,S k→k≠R):Ex w1 S x v :=
 h.step (fun k hk hlt=>hg.block k hlt (fun e=>by injection e with e;exact hS k hk e))
theorem Ex.below {w w1:World} {S:Nat→Prop} {x:S31} {v:Value} (h:Ex w S x v) (hb:Below w.heap.size w w1):Ex w1 S x v:=h.step (fun k _ hlt=>hb.block k hlt)
theorem Ex.leaf {w:World} {S:Nat→Prop} (x:S31) (hx:x.f4=[]):Ex w S x (exV x (.slice none 0 0)):=⟨_,rfl,by rw [hx];exact Kd.R_nil _ _ _ _ _⟩
theorem lit_row {W:World} {S:Nat→Prop} {xs:List S31} {inner:List Value} (hr:Reps (k31.M W 0 S) 6 xs inner) (hS:S W.heap.size) (hm:xs.length≤9223372036854775807) :
  k31.R 31 (W.alloc (.cells inner.toArray 31)) 0 S (.slice (some ⟨W.heap.size,0,none⟩) xs.length xs.length) xs:=by
 refine ⟨fun k hk=>by simp [Value.ownBlock] at hk;rw [← hk];exact hS,OwnRow.lit W 0 (R:=k31.M (W.alloc (.cells inner.toArray 31)) 0 (fun k=>S k∧some k≠(Value.slice (some ⟨W.heap.size,0,none⟩) xs.length xs.length).ownBlock)) (size:=6) (e:=31) (hr.imp_ fun x c hx=>?_) (Nat.zero_le _) hm⟩
 have h1:=k31.M_bound hx
 have h2:=k31.M_move (w1:=W.alloc (.cells inner.toArray 31)) (fun k hk=>Below.heap_alloc _ _ _ hk.2.2.1) h1
 exact k31.M_mono (fun k hk=>⟨hk.1,fun e=>by simp [Value.ownBlock] at e;have:=hk.2.2.1;omega⟩) h2
theorem Ex.cells {w:World} {S:Nat→Prop} {x:S31} {v:Value} (h:Ex w S x v) :
  ∃ v5 A n c,v=exV x v5∧v5=.slice A n c∧k31.R 31 w 0 S v5 x.f4∧k31.M w 0 S x [.int .i64 x.f0,.string x.f1.f0,.string x.f1.f1,.string x.f2,.int .i64 x.f3,v5]:=by
 obtain ⟨v5,h1,h2⟩:=h.out
 obtain ⟨A,c,h3⟩:=Kd.R_slice h2
 exact ⟨v5,A,_,c,h1,h3,h2,k31_mkM w 0 S x h2⟩
def set6 (X:World) (R:Nat) (v0 v1 v2 v3 v4 v5:Value):World:=(((((X.setCell ⟨R,0,none⟩ v0).setCell ⟨R,1,none⟩ v1).setCell ⟨R,2,none⟩ v2).setCell ⟨R,3,none⟩ v3).setCell ⟨R,4,none⟩ v4).setCell ⟨R,5,none⟩ v5
theorem fin6 {X:World} {R:Nat} {x0 x1 x2 x3 x4 x5:Value} {t:TypeId} (v0 v1 v2 v3 v4 v5:Value) (hR:X.heap[R]?=some (.cells #[x0,x1,x2,x3,x4,x5] t (0,0))) :
  (set6 X R v0 v1 v2 v3 v4 v5).heap[R]?=some (.cells #[v0,v1,v2,v3,v4,v5] t (0,0)):=blk_set (blk_set (blk_set (blk_set (blk_set (blk_set hR 0 v0) 1 v1) 2 v2) 3 v3) 4 v4) 5 v5
theorem below6 {B:Nat} {w X:World} {R:Nat} (h:Below B w X) (hB:B≤R) (v0 v1 v2 v3 v4 v5:Value):Below B w (set6 X R v0 v1 v2 v3 v4 v5) :=
 (((((h.setCell (p:=⟨R,0,none⟩) hB _).setCell (p:=⟨R,1,none⟩) hB _).setCell (p:=⟨R,2,none⟩) hB _).setCell (p:=⟨R,3,none⟩) hB _).setCell (p:=⟨R,4,none⟩) hB _).setCell (p:=⟨R,5,none⟩) hB _
theorem grown6 {X:World} (R:Nat) (v0 v1 v2 v3 v4 v5:Value):X.grownBy (set6 X R v0 v1 v2 v3 v4 v5) (some R) :=
 Lib.grownBy_trans (Lib.grownBy_trans (Lib.grownBy_trans (Lib.grownBy_trans (Lib.grownBy_trans (Lib.grownBy_setCell _ _ _ _) (Lib.grownBy_setCell _ _ _ _)) (Lib.grownBy_setCell _ _ _ _)) (Lib.grownBy_setCell _ _ _ _)) (Lib.grownBy_setCell _ _ _ _)) (Lib.grownBy_setCell _ _ _ _)
theorem Ex.set6 {X:World} {R:Nat} {S:Nat→Prop} {x:S31} {v:Value} (h:Ex X S x v) (hS:∀ k,S k→k≠R) (v0 v1 v2 v3 v4 v5:Value):Ex (set6 X R v0 v1 v2 v3 v4 v5) S x v:=h.grown (grown6 R v0 v1 v2 v3 v4 v5) hS
set_option maxHeartbeats 1000000 in
theorem two_calls (op:Int) (a b:S31) (va vb:Value) (S:Nat→Prop) (w:World) (hS:∀ k,w.heap.size≤k→S k) (ha:Ex w S a va) (hb:Ex w S b vb) :
  Calls Tryz.prog 161 #[.int .i64 op,va,vb] w fun e w'=>∃ v,e=.returned v∧Ex w' S ⟨op,z28,⟨#[]⟩,0,[a,b]⟩ v∧Below w.heap.size w w':=by
 obtain ⟨a5,A1,n1,c1,rfl,rfl,_,ma⟩:=ha.cells
 obtain ⟨b5,A2,n2,c2,rfl,rfl,_,mb⟩:=hb.cells
 unfold exV
 have Ma:=Lib.hid ma
 have Mb:=Lib.hid mb
 clear ha hb ma mb
 go_enter Tryz.func161,Tryz.ntmps161
 go_wp2
 obtain ⟨W3,hW⟩:∃ W3,W3=((w.alloc (Obj.cells #[Value.int IntKind.i64 a.f0,Value.string a.f1.f0,Value.string a.f1.f1,Value.string a.f2,Value.int IntKind.i64 a.f3,Value.slice A1 n1 c1] 31)).alloc (Obj.cells #[Value.int IntKind.i64 b.f0,Value.string b.f1.f0,Value.string b.f1.f1,Value.string b.f2,Value.int IntKind.i64 b.f3,Value.slice A2 n2 c2] 31)).alloc
   (Obj.cells #[Value.int IntKind.i64 op,Value.string ⟨#[]⟩,Value.string ⟨#[]⟩,Value.string ⟨#[]⟩,Value.int IntKind.i64 0,Value.slice (some ⟨w.heap.size+1+1+1,0,none⟩) 2 2] 31):=⟨_,rfl⟩
 have hz:W3.heap.size=w.heap.size+1+1+1:=by rw [hW];simp
 have hb3:Below w.heap.size w W3:=by rw [hW];exact (((Below.refl _ w).alloc (Nat.le_refl _) _).alloc (by simp) _).alloc (by simp;omega) _
 have hR:W3.heap[w.heap.size+1+1]?=some (Obj.cells #[Value.int IntKind.i64 op,Value.string ⟨#[]⟩,Value.string ⟨#[]⟩,Value.string ⟨#[]⟩,Value.int IntKind.i64 0,Value.slice (some ⟨w.heap.size+1+1+1,0,none⟩) 2 2] 31 (0,0)):=by
  rw [hW];exact alloc_at _ _ _ (by simp)
 rw [← hW]
 have reps:Reps (k31.M W3 0 S) 6 [a,b] [.int .i64 a.f0,.string a.f1.f0,.string a.f1.f1,.string a.f2,.int .i64 a.f3,.slice A1 n1 c1,.int .i64 b.f0,.string b.f1.f0,.string b.f1.f1,.string b.f2,.int .i64 b.f3,.slice A2 n2 c2] :=
  ((Reps.none _ _).snoc (Kd.M_below Ma.out hb3) rfl).snoc (Kd.M_below Mb.out hb3) rfl
 have hrow:=lit_row reps (hS _ (by omega)) (by simp)
 rw [hz] at hrow
 refine bodyPost_ret (results_c Tryz.results161 _ _ (w.heap.size+1+1) 31 _ (0,0) _ rfl ((Below.heap_alloc _ _ _ (by omega)).trans hR) Tryz.underlying31 rfl size31) rfl ⟨_,rfl,⟨_,rfl,hrow⟩,hb3.alloc (by omega) _⟩
end Go.Proofs.YtjaobihcdkjmbaaGreatDoor
end
section
namespace Go.Proofs.YtjaobihcdkjmbaaGreatDoor
open Go.RowKit Go.Proofs.YtjaobihcdkjmbaaGreatDoorW.PrintWords Go.Proofs.YtjaobihcdkjmbaaGreatDoor.PReadTokens
structure Laid (W:World):Prop where
 syn:∃ te pe,W.cell? ⟨5,0,none⟩=some (.iface te pe)
 rng:∃ te pe,W.cell? ⟨6,0,none⟩=some (.iface te pe)
theorem Laid.below {W w:World} (h:Laid W) (hb:Below W.heap.size W w):Laid w:=by
 obtain ⟨a,b,h1⟩:=h.syn
 obtain ⟨c,d,h2⟩:=h.rng
 exact ⟨⟨a,b,pw_cell_below hb h1⟩,⟨c,d,pw_cell_below hb h2⟩⟩
theorem Atoi_fails (s:ByteArray) (hs:s.size≤100000) (h:∀ v,Lib.atoiAll s.data.toList≠.ok v) (w:World) (hl:Laid w) :
  Calls Tryz.prog 216 #[.string s] w fun e w'=>∃ n N,e=.returned (.tuple #[.int .i64 n,.iface 321 (.pointer (some ⟨N,0,none⟩))])∧Below w.heap.size w w':=by
 obtain ⟨te,pe,h1⟩:=hl.syn
 obtain ⟨te2,pe2,h2⟩:=hl.rng
 cases hc:Lib.atoiAll s.data.toList with
 | ok v=>exact absurd hc (h v)
 | range=>exact (Go.Proofs.Any.strconv_Atoi_range Tryz.laysC172 s (by omega) hc _ w h2 (.inr ⟨_,_,rfl⟩)).mono fun e w' ⟨N,he,_,_,hb⟩=>⟨_,N,he,hb⟩
 | _=>exact (Go.Proofs.Any.strconv_Atoi_syntax Tryz.laysC172 s (by omega) hc _ w h1 (.inr ⟨_,_,rfl⟩)).mono fun e w' ⟨N,he,_,_,hb⟩=>⟨_,N,he,hb⟩
theorem Atoi_is (s:ByteArray) (hs:s.size≤100000) (v:Int) (h:Lib.atoiAll s.data.toList=.ok v) (w:World) :
  Calls Tryz.prog 216 #[.string s] w fun e w'=>e=.returned (.tuple #[.int .i64 v,.nilIface])∧Below w.heap.size w w':=by
 refine (Tryz.strconv_Atoi_ok s (by omega) v h w).mono ?_
 rintro e w' ⟨he,rfl | ⟨t,rfl⟩⟩
 ·exact ⟨he,Below.refl _ _⟩
 ·exact ⟨he,bytes_below (Below.refl _ _) (Nat.le_refl _) _ _⟩
structure St (W0:World) (R B:Nat) (ts:List S47) (en now:Nat) (w:World):Prop where
 rdr:Rdr w R ts now en
 low:Below W0.heap.size W0 w
 base:B≤w.heap.size
 pos:now≤ts.length
structure Env (W0:World) (R B:Nat) (ts:List S47):Prop where
 laid:Laid W0
 own:W0.heap.size≤R
 made:R < B
 few:ts.length≤100000
 small:∀ t ∈ ts,t.f1.size≤2000
theorem St.took {W0:World} {R B:Nat} {ts:List S47} {en now n:Nat} {w w':World} (E:Env W0 R B ts) (h:St W0 R B ts en now w) (k:Took w R ts n en w') (hn:n≤ts.length):St W0 R B ts en n w' :=
 ⟨k.rdr,h.low.grown k.grown h.low.size (fun j e=>by injection e with e;have:=E.own;omega),Nat.le_trans h.base k.grown.size,hn⟩
theorem St.below {W0:World} {R B:Nat} {ts:List S47} {en now:Nat} {w w':World} (h:St W0 R B ts en now w) (hb:Below w.heap.size w w'):St W0 R B ts en now w' :=
 ⟨h.rdr.keep hb,h.low.trans (hb.mono h.low.size),Nat.le_trans h.base hb.size,h.pos⟩
theorem St.laid {W0:World} {R B:Nat} {ts:List S47} {en now:Nat} {w:World} (E:Env W0 R B ts) (h:St W0 R B ts en now w):Laid w:=E.laid.below h.low
theorem tokP_small {ts:List S47} {en now:Nat} (hs:∀ t ∈ ts,t.f1.size≤2000):(tokP ts en now).f1.size≤2000:=by
 unfold tokP
 split
 ·exact hs _ (List.getElem_mem _)
 ·exact Nat.zero_le _
def numS (ts:List S47) (en:Nat) (lo hi:Int) (now:Nat):Except Int (Int × Nat) :=
 match Lib.atoiAll (tokP ts en now).f1.data.toList with
 | .ok v=>if (tokP ts en now).f0=2∧lo≤v∧v≤hi then .ok (v,now+1) else .error (tokP ts en now).f2
 | _=>.error (tokP ts en now).f2
def NumPost (w:World) (R:Nat) (ts:List S47) (en:Nat):Except Int (Int × Nat)→Ending→World→Prop
 | .ok (v,n),e,w'=>e=.returned (.int .i64 v)∧Took w R ts n en w'
 | .error p,e,w'=>e=stuckAt p∧w.grownBy w' (some R)
set_option maxRecDepth 100000 in
set_option maxHeartbeats 2000000 in
theorem number_ok (W0:World) (R B:Nat) (ts:List S47) (en now:Nat) (lo hi v:Int) (w:World) (E:Env W0 R B ts) (h:St W0 R B ts en now w) (hlt:now < ts.length)
  (h2:((tokP ts en now).f0 == 2)=true) (hv:Lib.atoiAll (tokP ts en now).f1.data.toList=.ok v) (hlo:lo≤v) (hhi:v≤hi) :
  Calls Tryz.prog 179 #[.pointer (some ⟨R,0,none⟩),.int .i64 lo,.int .i64 hi] w fun e w'=>e=.returned (.int .i64 v)∧Took w R ts (now+1) en w':=by
 have hp:=peek_any R ts now en w h.rdr h.pos
 have hat:=Atoi_is _ (Nat.le_trans (tokP_small (en:=en) (now:=now) E.small) (by omega)) v hv
 have hin:∀ w,Calls Tryz.prog 104 #[.int .i64 v,.int .i64 lo,.int .i64 hi] w fun e w'=>e=.returned (.bool true)∧∃ n,w'=w.drewN n:=fun w =>
  (read_in.calls v lo hi true w (by unfold read_in.f;rw [if_pos hlo,decide_eq_true hhi])).mono fun _ _ ⟨a,b⟩=>⟨a,b.out⟩
 unfold tokV at hp
 generalize tokP ts en now=t at *
 have H:=Lib.hid h
 have Hin:=Lib.hid hin
 have few:=E.few
 clear h hv hin hlo hhi E
 go_enter Tryz.func179,Tryz.ntmps179
 go_wp2_with (first
  | (go_at_call 136;refine hp.mono ?_;rintro e w1 ⟨rfl,hb1⟩;have hn1:=blk_new w1 (tokO t);have hb2:=hb1.alloc hb1.size (tokO t))
  | (go_at_call 216;refine (hat _).mono ?_;rintro e w2 ⟨rfl,hb3⟩;have hT:=bcell hb3 hn1;have t0:=blk_cell hT 0;have hb4:=hb2.trans (hb3.mono hb2.size);obtain ⟨c1,f1,c3,c4,lt⟩:=(H.out.rdr.keep hb4).cells))
 go_quiet ((first | (go_at_call 104;exact Calls.quiet_of (Hin.out _)) | (go_at_call 93;exact Calls.quiet_of_same (must_true R _))))
 go_wp2
 go_ret
 exact ⟨rfl,Took.next H.out.rdr (pw_below_drewN hb4 nq)⟩
set_option maxHeartbeats 1000000 in
theorem in_any (n lo hi:Int) (w:World):Calls Tryz.prog 104 #[.int .i64 n,.int .i64 lo,.int .i64 hi] w fun e w'=>e=.returned (.bool (decide (lo≤n) && decide (n≤hi)))∧w'=w:=by
 go_enter Tryz.func104,Tryz.ntmps104
 go_wp2
 all_goals
  go_ret
  refine ⟨?_,rfl⟩
  first | (simp_all;done) | (simp_all;omega)
set_option maxRecDepth 100000 in
set_option maxHeartbeats 2000000 in
theorem number_no (W0:World) (R B:Nat) (ts:List S47) (en now:Nat) (lo hi:Int) (w:World) (E:Env W0 R B ts) (h:St W0 R B ts en now w)
  (hno:∀ v,Lib.atoiAll (tokP ts en now).f1.data.toList=.ok v→¬ ((tokP ts en now).f0=2∧lo≤v∧v≤hi)) :
  Calls Tryz.prog 179 #[.pointer (some ⟨R,0,none⟩),.int .i64 lo,.int .i64 hi] w fun e w'=>e=stuckAt (tokP ts en now).f2∧w.grownBy w' (some R):=by
 have hp:=peek_any R ts now en w h.rdr h.pos
 have hm:=fun w' (hb:Below w.heap.size w w')=>must_false R ts now en w' (h.rdr.keep hb) h.pos
 have hsz:=Nat.le_trans (tokP_small (en:=en) (now:=now) E.small) (show 2000≤100000 by omega)
 have hat:(∃ v,Lib.atoiAll (tokP ts en now).f1.data.toList=.ok v)∨(∀ v,Lib.atoiAll (tokP ts en now).f1.data.toList≠.ok v):=by
  cases hc:Lib.atoiAll (tokP ts en now).f1.data.toList with
  | ok v=>exact .inl ⟨v,rfl⟩
  | range=>exact .inr (fun v h=>by cases h)
  | _=>exact .inr (fun v h=>by cases h)
 unfold tokV at hp
 unfold stuckAt at hm ⊢
 generalize tokP ts en now=t at *
 have Hm:=Lib.hid hm
 have Hlaid:=Lib.hid (fun w' (hb:Below w.heap.size w w')=>(h.laid E).below hb)
 have H:=Lib.hid h
 have Hat:(∃ v,Lib.atoiAll t.f1.data.toList=.ok v∧∀ w',Calls Tryz.prog 216 #[.string t.f1] w' fun e w''=>e=.returned (.tuple #[.int .i64 v,.nilIface])∧Below w'.heap.size w' w'') ∨
   (∀ w',Laid w'→Calls Tryz.prog 216 #[.string t.f1] w' fun e w''=>∃ n N,e=.returned (.tuple #[.int .i64 n,.iface 321 (.pointer (some ⟨N,0,none⟩))])∧Below w'.heap.size w' w''):=by
  rcases hat with ⟨v,hv⟩ | hv
  ·exact .inl ⟨v,hv,fun w'=>Atoi_is _ hsz v hv w'⟩
  ·exact .inr fun w' hl=>Atoi_fails _ hsz hv w' hl
 have few:=E.few
 clear h hm hat E
 rcases Hat with ⟨v,hv,hat⟩ | hat
 ·have hno':=hno v hv
  clear hno hv
  cases h2:(t.f0 == 2)
  ·go_enter Tryz.func179,Tryz.ntmps179
   go_wp2_with (first
    | (go_at_call 136;refine hp.mono ?_;rintro e w1 ⟨rfl,hb1⟩;have hn1:=blk_new w1 (tokO t);have hb2:=hb1.alloc hb1.size (tokO t))
    | (go_at_call 216;refine (hat _).mono ?_;rintro e w2 ⟨rfl,hb3⟩;have hT:=bcell hb3 hn1;have t0:=blk_cell hT 0;have hb4:=hb2.trans (hb3.mono hb2.size)))
   have hb5:=hb4.drew
   go_still_tail 16,(by kernel_rfl)
   change wpList _ _ _ _ _ w2.drew
   go_wp2_with (go_at_call 93;refine (Hm.out _ hb5).mono ?_;rintro e w6 ⟨rfl,hb6⟩)
   exact ⟨rfl,rfl,Lib.grownBy_below (World.grownBy.refl _ _) (hb5.trans (hb6.mono hb5.size))⟩
  ·have hin:∀ w',Calls Tryz.prog 104 #[.int .i64 v,.int .i64 lo,.int .i64 hi] w' fun e w''=>e=.returned (.bool false)∧w''=w':=fun w'=>by
    have h1:=in_any v lo hi w'
    rw [beq_iff_eq] at h2
    have e:(decide (lo≤v) && decide (v≤hi))=false:=by
     rw [Bool.and_eq_false_iff,decide_eq_false_iff_not,decide_eq_false_iff_not]
     by_cases hlo:lo≤v
     ·exact .inr (fun hhi=>hno' ⟨h2,hlo,hhi⟩)
     ·exact .inl hlo
    rwa [e] at h1
   have Hin:=Lib.hid hin
   clear hin hno'
   go_enter Tryz.func179,Tryz.ntmps179
   go_wp2_with (first
    | (go_at_call 136;refine hp.mono ?_;rintro e w1 ⟨rfl,hb1⟩;have hn1:=blk_new w1 (tokO t);have hb2:=hb1.alloc hb1.size (tokO t))
    | (go_at_call 216;refine (hat _).mono ?_;rintro e w2 ⟨rfl,hb3⟩;have hT:=bcell hb3 hn1;have t0:=blk_cell hT 0;have hb4:=hb2.trans (hb3.mono hb2.size)))
   have hb5:=hb4.drew
   go_still_tail 16,(by kernel_rfl)
   still_call (Hin.out _)
   repeat still_step
   try refine wpStill_nil ?_
   change wpList _ _ _ _ _ w2.drew
   go_wp2_with (go_at_call 93;refine (Hm.out _ hb5).mono ?_;rintro e w6 ⟨rfl,hb6⟩)
   exact ⟨rfl,rfl,Lib.grownBy_below (World.grownBy.refl _ _) (hb5.trans (hb6.mono hb5.size))⟩
 ·cases h2:(t.f0 == 2)
  ·go_enter Tryz.func179,Tryz.ntmps179
   go_wp2_with (first
    | (go_at_call 136;refine hp.mono ?_;rintro e w1 ⟨rfl,hb1⟩;have hn1:=blk_new w1 (tokO t);have hb2:=hb1.alloc hb1.size (tokO t);have hl1:=Lib.hid (Hlaid.out _ hb2))
    | (go_at_call 216;refine (hat _ hl1.out).mono ?_;rintro e w2 ⟨n,N,rfl,hb3⟩;have hT:=bcell hb3 hn1;have t0:=blk_cell hT 0;have hb4:=hb2.trans (hb3.mono hb2.size)))
   have hb5:=hb4.drew
   go_still_tail 16,(by kernel_rfl)
   change wpList _ _ _ _ _ w2.drew
   go_wp2_with (go_at_call 93;refine (Hm.out _ hb5).mono ?_;rintro e w6 ⟨rfl,hb6⟩)
   exact ⟨rfl,rfl,Lib.grownBy_below (World.grownBy.refl _ _) (hb5.trans (hb6.mono hb5.size))⟩
  ·go_enter Tryz.func179,Tryz.ntmps179
   go_wp2_with (first
    | (go_at_call 136;refine hp.mono ?_;rintro e w1 ⟨rfl,hb1⟩;have hn1:=blk_new w1 (tokO t);have hb2:=hb1.alloc hb1.size (tokO t);have hl1:=Lib.hid (Hlaid.out _ hb2))
    | (go_at_call 216;refine (hat _ hl1.out).mono ?_;rintro e w2 ⟨n,N,rfl,hb3⟩;have hT:=bcell hb3 hn1;have t0:=blk_cell hT 0;have hb4:=hb2.trans (hb3.mono hb2.size)))
   have hb5:=hb4.drew
   go_still_tail 16,(by kernel_rfl)
   change wpList _ _ _ _ _ w2.drew
   go_wp2_with (go_at_call 93;refine (Hm.out _ hb5).mono ?_;rintro e w6 ⟨rfl,hb6⟩)
   exact ⟨rfl,rfl,Lib.grownBy_below (World.grownBy.refl _ _) (hb5.trans (hb6.mono hb5.size))⟩
end Go.Proofs.YtjaobihcdkjmbaaGreatDoor
end
section
namespace Go.Proofs.YtjaobihcdkjmbaaGreatDoor
open Go.RowKit Go.Proofs.YtjaobihcdkjmbaaGreatDoorW.PrintWords Go.Proofs.YtjaobihcdkjmbaaGreatDoor.PReadTokens
abbrev PR:=Except Int (S31 × Nat)
def bs (l:List UInt8):ByteArray:=⟨l.toArray⟩
section
variable (ts:List S47) (en:Nat) (chk:S28→Int)
def sk (now:Nat) (x:ByteArray):Bool:=isTok (tokP ts en now) x
def atP (now:Nat):Int:=(tokP ts en now).f2
def unitS (r:S28) (now:Nat):PR:=if (tokP ts en now).f0=3 then .ok (⟨0,r,(tokP ts en now).f1,0,[]⟩,now+1) else .ok (⟨0,r,⟨#[]⟩,0,[]⟩,now)
def litS (now:Nat):PR :=
 if sk ts en (now+1) ⟨#[124]⟩=true then
  if (tokP ts en (now+2)).f0=2∧(tokP ts en (now+2)).f1.toList≠[49]∧chk ⟨(tokP ts en now).f1,(tokP ts en (now+2)).f1⟩=0 then unitS ts en ⟨(tokP ts en now).f1,(tokP ts en (now+2)).f1⟩ (now+3)
  else .error (atP ts en (now+2))
 else unitS ts en ⟨(tokP ts en now).f1,⟨#[49]⟩⟩ (now+1)
def listS (ex:Nat→PR) (close:ByteArray):Nat→List S31→Nat→Except Int (List S31 × Nat)
 | 0,_,now=>.error (atP ts en now)
 | k+1,acc,now =>
  match ex now with
  | .error p=>.error p
  | .ok (x,n) =>
   if (acc++[x]).length < 8∧sk ts en n ⟨#[44]⟩=true then listS ex close k (acc++[x]) (n+1)
   else if sk ts en n close=true then .ok (acc++[x],n+1) else .error (atP ts en n)
def atomS (ex:Nat→PR) (now:Nat):PR :=
 if (tokP ts en now).f0=2 then litS ts en chk now
 else if (tokP ts en now).f0=0 then
  if sk ts en (now+1) ⟨#[40]⟩=true then
   if sk ts en (now+2) ⟨#[41]⟩=true then .ok (⟨14,z28,(tokP ts en now).f1,0,[]⟩,now+3)
   else match listS ts en ex ⟨#[41]⟩ 8 [] (now+2) with
    | .error p=>.error p
    | .ok (xs,n)=>.ok (⟨14,z28,(tokP ts en now).f1,0,xs⟩,n)
  else .ok (⟨1,z28,(tokP ts en now).f1,0,[]⟩,now+1)
 else if sk ts en now ⟨#[40]⟩=true then
  match ex (now+1) with
  | .error p=>.error p
  | .ok (x,n)=>if sk ts en n ⟨#[41]⟩=true then .ok (x,n+1) else .error (atP ts en n)
 else if sk ts en now ⟨#[91]⟩=true then
  match listS ts en ex ⟨#[93]⟩ 8 [] (now+1) with
  | .error p=>.error p
  | .ok (xs,n)=>.ok (⟨8,z28,⟨#[]⟩,0,xs⟩,n)
 else .error (atP ts en now)
def twoX (op:Int) (a b:S31):S31:=⟨op,z28,⟨#[]⟩,0,[a,b]⟩
def elemLoop (ex:Nat→PR):Nat→S31→Nat→PR
 | 0,x,n=>.ok (x,n)
 | k+1,x,n =>
  if sk ts en n ⟨#[91]⟩=true then
   match ex (n+1) with
   | .error p=>.error p
   | .ok (y,m)=>if sk ts en m ⟨#[93]⟩=true then elemLoop ex k (twoX 9 x y) (m+1) else .error (atP ts en m)
  else .ok (x,n)
def elementS (ex:Nat→PR) (now:Nat):PR :=
 match atomS ts en chk ex now with
 | .error p=>.error p
 | .ok (x,n)=>elemLoop ts en ex (ts.length+1) x n
def powerS (ex:Nat→PR) (now:Nat):PR :=
 match elementS ts en chk ex now with
 | .error p=>.error p
 | .ok (x,n) =>
  if sk ts en n ⟨#[94]⟩=true then
   if sk ts en (n+1) ⟨#[45]⟩=true then
    match numS ts en 1 9 (n+2) with
    | .error p=>.error p
    | .ok (v,m)=>.ok (⟨7,z28,⟨#[]⟩,-v,[x]⟩,m)
   else
    match numS ts en 0 9 (n+1) with
    | .error p=>.error p
    | .ok (v,m)=>.ok (⟨7,z28,⟨#[]⟩,v,[x]⟩,m)
  else .ok (x,n)
def prodLoop (ex:Nat→PR):Nat→S31→Nat→PR
 | 0,x,n=>.ok (x,n)
 | k+1,x,n =>
  if sk ts en n ⟨#[42]⟩=true then
   match powerS ts en chk ex (n+1) with
   | .error p=>.error p
   | .ok (y,m)=>prodLoop ex k (twoX 5 x y) m
  else if sk ts en n ⟨#[47]⟩=true then
   match powerS ts en chk ex (n+1) with
   | .error p=>.error p
   | .ok (y,m)=>prodLoop ex k (twoX 6 x y) m
  else .ok (x,n)
def productS (ex:Nat→PR) (now:Nat):PR :=
 match powerS ts en chk ex now with
 | .error p=>.error p
 | .ok (x,n)=>prodLoop ts en chk ex (ts.length+1) x n
def sumLoop (ex:Nat→PR):Nat→S31→Nat→PR
 | 0,x,n=>.ok (x,n)
 | k+1,x,n =>
  if sk ts en n ⟨#[43]⟩=true then
   match productS ts en chk ex (n+1) with
   | .error p=>.error p
   | .ok (y,m)=>sumLoop ex k (twoX 3 x y) m
  else if sk ts en n ⟨#[45]⟩=true then
   match productS ts en chk ex (n+1) with
   | .error p=>.error p
   | .ok (y,m)=>sumLoop ex k (twoX 4 x y) m
  else .ok (x,n)
def sumsS (ex:Nat→PR) (now:Nat):PR :=
 if sk ts en now ⟨#[45]⟩=true then
  match productS ts en chk ex (now+1) with
  | .error p=>.error p
  | .ok (x,n)=>sumLoop ts en chk ex (ts.length+1) ⟨2,z28,⟨#[]⟩,0,[x]⟩ n
 else
  match productS ts en chk ex now with
  | .error p=>.error p
  | .ok (x,n)=>sumLoop ts en chk ex (ts.length+1) x n
def loopS (ex:Nat→PR) (op:Int) (now:Nat):PR :=
 if (tokP ts en now).f0=0 then
  if sk ts en (now+1) ⟨#[60]⟩=true then
   match numS ts en 1 99 (now+2) with
   | .error p=>.error p
   | .ok (v,m) =>
    if sk ts en m ⟨#[46]⟩=true then
     match ex (m+1) with
     | .error p=>.error p
     | .ok (x,n)=>.ok (⟨op,z28,(tokP ts en now).f1,v,[x]⟩,n)
    else .error (atP ts en m)
  else .error (atP ts en (now+1))
 else .error (atP ts en now)
def letS (ex:Nat→PR) (now:Nat):PR :=
 if (tokP ts en now).f0=0 then
  if sk ts en (now+1) ⟨#[61]⟩=true then
   match ex (now+2) with
   | .error p=>.error p
   | .ok (a,n) =>
    if sk ts en n ⟨#[105,110]⟩=true then
     match ex (n+1) with
     | .error p=>.error p
     | .ok (b,m)=>.ok (⟨13,z28,(tokP ts en now).f1,0,[a,b]⟩,m)
    else .error (atP ts en n)
  else .error (atP ts en (now+1))
 else .error (atP ts en now)
def ifS (ex:Nat→PR) (now:Nat):PR :=
 match sumsS ts en chk ex now with
 | .error p=>.error p
 | .ok (a,n1) =>
  if sk ts en n1 ⟨#[60]⟩=true then
   match sumsS ts en chk ex (n1+1) with
   | .error p=>.error p
   | .ok (b,n2) =>
    if sk ts en n2 ⟨#[116,104,101,110]⟩=true then
     match ex (n2+1) with
     | .error p=>.error p
     | .ok (c,n3) =>
      if sk ts en n3 ⟨#[101,108,115,101]⟩=true then
       match ex (n3+1) with
       | .error p=>.error p
       | .ok (d,n4)=>.ok (⟨12,z28,⟨#[]⟩,0,[a,b,c,d]⟩,n4)
      else .error (atP ts en n3)
    else .error (atP ts en n2)
  else .error (atP ts en n1)
def exprB (ex:Nat→PR) (now:Nat):PR :=
 if sk ts en now ⟨#[108,101,116]⟩=true then letS ts en ex (now+1)
 else if sk ts en now ⟨#[105,102]⟩=true then ifS ts en chk ex (now+1)
 else if sk ts en now ⟨#[116,97,98]⟩=true then loopS ts en ex 10 (now+1)
 else if sk ts en now ⟨#[115,117,109]⟩=true then loopS ts en ex 11 (now+1)
 else sumsS ts en chk ex now
def exprS:Nat→Nat→PR
 | 0,now=>.error (atP ts en now)
 | k+1,now=>exprB ts en chk (exprS k) now
end
end Go.Proofs.YtjaobihcdkjmbaaGreatDoor
end
section
namespace Go.Proofs.YtjaobihcdkjmbaaGreatDoor
open Go.RowKit Go.Proofs.YtjaobihcdkjmbaaGreatDoorW.PrintWords Go.Proofs.YtjaobihcdkjmbaaGreatDoor.PReadTokens
abbrev From (n:Nat):Nat→Prop:=fun k=>n≤k
def ExPost (w:World) (R:Nat) (ts:List S47) (en now:Nat):PR→Ending→World→Prop
 | .ok (x,n),e,w'=>now < n∧n≤ts.length∧∃ v,e=.returned v∧Ex w' (From w.heap.size) x v∧Took w R ts n en w'
 | .error p,e,w'=>e=stuckAt p∧w.grownBy w' (some R)
def Pars (W0:World) (R B:Nat) (ts:List S47) (en:Nat) (f:FuncId) (spec:Nat→PR) (m:Nat):Prop :=
 ∀ now w,m≤now→St W0 R B ts en now w→Calls Tryz.prog f #[.pointer (some ⟨R,0,none⟩)] w (ExPost w R ts en now (spec now))
theorem tokP_lt {ts:List S47} {en now:Nat} {k:Int} (h:(tokP ts en now).f0=k) (hk:k≠-1):now < ts.length:=by
 unfold tokP at h
 by_cases hlt:now < ts.length
 ·exact hlt
 ·rw [dif_neg hlt] at h;exact absurd h.symm hk
theorem Took.blk {w w':World} {R:Nat} {ts:List S47} {n en:Nat} (h:Took w R ts n en w') {k:Nat} {o:Obj} (hk:w.heap[k]?=some o) (hne:k≠R):w'.heap[k]?=some o :=
 (h.grown.block _ (blk_lt hk) (fun e=>by injection e with e;exact hne e)).trans hk
theorem grown_blk {w w':World} {R:Nat} (h:w.grownBy w' (some R)) {k:Nat} {o:Obj} (hk:w.heap[k]?=some o) (hne:k≠R):w'.heap[k]?=some o :=
 (h.block _ (blk_lt hk) (fun e=>by injection e with e;exact hne e)).trans hk
theorem cells6 {w:World} {X:Nat} {v0 v1 v2 v3 v4 v5:Value} {t:TypeId} (h:w.heap[X]?=some (.cells #[v0,v1,v2,v3,v4,v5] t (0,0))) :
  (w.cell? ⟨X,0,none⟩=some v0∧w.cell? ⟨X,1,none⟩=some v1∧w.cell? ⟨X,2,none⟩=some v2∧w.cell? ⟨X,3,none⟩=some v3∧w.cell? ⟨X,4,none⟩=some v4∧w.cell? ⟨X,5,none⟩=some v5) ∧
  (w.frozen? ⟨X,0,none⟩=false∧w.frozen? ⟨X,1,none⟩=false∧w.frozen? ⟨X,2,none⟩=false∧w.frozen? ⟨X,3,none⟩=false∧w.frozen? ⟨X,4,none⟩=false∧w.frozen? ⟨X,5,none⟩=false)∧X < w.heap.size :=
 ⟨⟨blk_cell h 0,blk_cell h 1,blk_cell h 2,blk_cell h 3,blk_cell h 4,blk_cell h 5⟩,⟨blk_frozen h 0,blk_frozen h 1,blk_frozen h 2,blk_frozen h 3,blk_frozen h 4,blk_frozen h 5⟩,blk_lt h⟩
def zO:Obj:=.cells #[.int .i64 0,.string ⟨#[]⟩,.string ⟨#[]⟩,.string ⟨#[]⟩,.int .i64 0,.slice none 0 0] 31
theorem Rdr.far {w:World} {R:Nat} {ts:List S47} {now en:Nat} (h:Rdr w R ts now en) {X:Nat} {cs:Array Value} (hX:w.heap[X]?=some (.cells cs 31 (0,0))) (hne:X≠R) (i:Nat) (v:Value):Rdr (w.setCell ⟨X,i,none⟩ v) R ts now en:=by
 obtain ⟨u,base,h1,h2⟩:=h.out
 exact ⟨u,base,blk_far h1 (by simp;omega) _,own_setCell h2 (own_ne h2 hX (by decide)) _⟩
theorem Took.far {w w':World} {R:Nat} {ts:List S47} {n en:Nat} (h:Took w R ts n en w') {X:Nat} {cs:Array Value} (hX:w'.heap[X]?=some (.cells cs 31 (0,0))) (hne:X≠R) (hw:w.heap.size≤X) (i:Nat) (v:Value):Took w R ts n en (w'.setCell ⟨X,i,none⟩ v) :=
 ⟨⟨h.grown.os,h.grown.tape,h.grown.output,by rw [World.size_setCell];exact h.grown.size,fun k hk hn=>(Below.heap_setCell _ _ _ _ (by simp;omega)).trans (h.grown.block k hk hn)⟩,h.rdr.far hX hne i v⟩
theorem Took.set6 {w w':World} {R:Nat} {ts:List S47} {n en:Nat} (h:Took w R ts n en w') {X:Nat} {x0 x1 x2 x3 x4 x5:Value} (hX:w'.heap[X]?=some (.cells #[x0,x1,x2,x3,x4,x5] 31 (0,0))) (hne:X≠R) (hw:w.heap.size≤X) (v0 v1 v2 v3 v4 v5:Value):Took w R ts n en (set6 w' X v0 v1 v2 v3 v4 v5) :=
 (((((h.far hX hne hw 0 v0).far (blk_set hX 0 v0) hne hw 1 v1).far (blk_set (blk_set hX 0 v0) 1 v1) hne hw 2 v2).far (blk_set (blk_set (blk_set hX 0 v0) 1 v1) 2 v2) hne hw 3 v3).far (blk_set (blk_set (blk_set (blk_set hX 0 v0) 1 v1) 2 v2) 3 v3) hne hw 4 v4).far (blk_set (blk_set (blk_set (blk_set (blk_set hX 0 v0) 1 v1) 2 v2) 3 v3) 4 v4) hne hw 5 v5
theorem Took.start {w w':World} {R:Nat} {ts:List S47} {n en:Nat} {o:Obj} (h:Took (w.alloc o) R ts n en w'):Took w R ts n en w':=⟨Lib.grownBy_trans (World.grownBy_alloc w o _) h.grown,h.rdr⟩
theorem Took.alloc {w w':World} {R:Nat} {ts:List S47} {n en:Nat} (h:Took w R ts n en w') (o:Obj):Took w R ts n en (w'.alloc o):=h.below ((Below.refl _ _).alloc (Nat.le_refl _) _)
set_option maxRecDepth 100000 in
set_option maxHeartbeats 2000000 in
theorem lit_plain (W0:World) (R B:Nat) (ts:List S47) (en now:Nat) (w:World) (E:Env W0 R B ts) (h:St W0 R B ts en now w) (h2:(tokP ts en now).f0=2) (hbar:sk ts en (now+1) ⟨#[124]⟩=false) :
  Calls Tryz.prog 278 #[.pointer (some ⟨R,0,none⟩)] w (ExPost w R ts en now (unitS ts en ⟨(tokP ts en now).f1,⟨#[49]⟩⟩ (now+1))):=by
 have hlt:=tokP_lt h2 (by decide)
 have few:=E.few
 have hRw:=h.rdr.lt
 have hk:=kind_yes R ts now en 2 (w.alloc zO) (h.rdr.keep ((Below.refl _ _).alloc (Nat.le_refl _) _)) hlt few (by rw [beq_iff_eq];exact h2)
 generalize (tokP ts en now).f1=x at *
 clear h2
 by_cases h3:(tokP ts en (now+1)).f0=3
 ·have hres:unitS ts en ⟨x,⟨#[49]⟩⟩ (now+1)=.ok (⟨0,⟨x,⟨#[49]⟩⟩,(tokP ts en (now+1)).f1,0,[]⟩,now+1+1):=by unfold unitS;rw [if_pos h3]
  rw [hres]
  have hlt1:=tokP_lt h3 (by decide)
  have hpk:=fun w' (hr:Rdr w' R ts (now+1) en)=>peek_any R ts (now+1) en w' hr (by omega)
  have hsk:=fun w' (hr:Rdr w' R ts (now+1) en)=>skip_no R ts (now+1) en ⟨#[124]⟩ w' hr (by omega) hbar
  have hkd:=fun w' (hr:Rdr w' R ts (now+1) en)=>kind_yes R ts (now+1) en 3 w' hr hlt1 few (by rw [beq_iff_eq];exact h3)
  have hne:((tokP ts en (now+1)).f0 == 3)=true:=by rw [beq_iff_eq];exact h3
  unfold tokV at hpk
  generalize tokP ts en (now+1)=t at *
  have H:=Lib.hid h
  have Hsk:=Lib.hid hsk
  have Hpk:=Lib.hid hpk
  have Hkd:=Lib.hid hkd
  have hfd:=field47_0 t.f0 t.f2 t.f1
  clear hsk hpk hkd h hres h3 E
  have hne0:=Nat.ne_of_gt hRw
  go_enter Tryz.func278,Tryz.ntmps278
  go_wp2_with fail
  refine hk.mono ?_
  rintro e w1 ⟨rfl,hk1⟩
  have r1:=hk1.blk (blk_new w zO) hne0
  have hne1:=Nat.ne_of_gt hk1.rdr.lt
  go_wp2_with fail
  refine (Hsk.out _ (hk1.rdr.keep ((Below.refl _ _).alloc (Nat.le_refl _) _))).mono ?_
  rintro e w2 ⟨rfl,hk2⟩
  have x2:=hk2.blk (blk_new w1 _) hne1
  have r2:=hk2.blk ((Below.heap_alloc _ _ _ (blk_lt r1)).trans r1) hne0
  go_wp2_with fail
  refine (Hpk.out _ hk2.rdr).mono ?_
  rintro e w3 ⟨rfl,hb3⟩
  go_wp2_with fail
  refine (Hkd.out _ (hk2.rdr.keep hb3)).mono ?_
  rintro e w4 ⟨rfl,hk4⟩
  have x4:=hk4.blk (bcell hb3 x2) hne1
  have r4:=hk4.blk (bcell hb3 r2) hne0
  have hlt4:w.heap.size < w1.heap.size:=blk_lt r1
  have hd1:=Nat.ne_of_gt hlt4
  have hd2:=Nat.ne_of_lt hlt4
  obtain ⟨⟨c0,c1,c2,c3,c4,c5⟩,⟨y0,y1,y2,y3,y4,y5⟩,xl⟩:=cells6 x4
  obtain ⟨⟨b0,b1,b2,b3,b4,b5⟩,⟨f0,f1,f2,f3,f4,f5⟩,rl⟩:=cells6 r4
  go_wp2
  have hgr:=(((hk1.start.alloc _).trans hk2).below hb3).trans hk4
  have r5:=(Below.heap_setCell w4 ⟨w1.heap.size,3,none⟩ (.string t.f1) w.heap.size (by simp;omega)).trans r4
  refine bodyPost_ret (results_c Tryz.results278 _ _ w.heap.size 31 _ (0,0) _ rfl (fin6 _ _ _ _ _ _ r5) Tryz.underlying31 rfl size31) rfl ⟨by omega,by omega,_,rfl,?_,?_⟩
  ·exact Ex.leaf ⟨0,⟨x,⟨#[49]⟩⟩,t.f1,0,[]⟩ rfl
  ·exact (hgr.far x4 hne1 (Nat.le_of_lt hlt4) 3 _).set6 r5 hne0 (Nat.le_refl _) _ _ _ _ _ _
 ·have hres:unitS ts en ⟨x,⟨#[49]⟩⟩ (now+1)=.ok (⟨0,⟨x,⟨#[49]⟩⟩,⟨#[]⟩,0,[]⟩,now+1):=by unfold unitS;rw [if_neg h3]
  rw [hres]
  have hpk:=fun w' (hr:Rdr w' R ts (now+1) en)=>peek_any R ts (now+1) en w' hr (by omega)
  have hsk:=fun w' (hr:Rdr w' R ts (now+1) en)=>skip_no R ts (now+1) en ⟨#[124]⟩ w' hr (by omega) hbar
  have hne:((tokP ts en (now+1)).f0 == 3)=false:=by rw [beq_eq_false_iff_ne];exact h3
  unfold tokV at hpk
  generalize tokP ts en (now+1)=t at *
  have H:=Lib.hid h
  have Hsk:=Lib.hid hsk
  have Hpk:=Lib.hid hpk
  have hfd:=field47_0 t.f0 t.f2 t.f1
  clear hsk hpk h hres h3 E
  have hne0:=Nat.ne_of_gt hRw
  go_enter Tryz.func278,Tryz.ntmps278
  go_wp2_with fail
  refine hk.mono ?_
  rintro e w1 ⟨rfl,hk1⟩
  have r1:=hk1.blk (blk_new w zO) hne0
  have hne1:=Nat.ne_of_gt hk1.rdr.lt
  go_wp2_with fail
  refine (Hsk.out _ (hk1.rdr.keep ((Below.refl _ _).alloc (Nat.le_refl _) _))).mono ?_
  rintro e w2 ⟨rfl,hk2⟩
  have x2:=hk2.blk (blk_new w1 _) hne1
  have r2:=hk2.blk ((Below.heap_alloc _ _ _ (blk_lt r1)).trans r1) hne0
  go_wp2_with fail
  refine (Hpk.out _ hk2.rdr).mono ?_
  rintro e w3 ⟨rfl,hb3⟩
  have x3:=bcell hb3 x2
  have r3:=bcell hb3 r2
  obtain ⟨⟨x0,x1,x2',x3',x4,x5⟩,⟨y0,y1,y2,y3,y4,y5⟩,xl⟩:=cells6 x3
  obtain ⟨⟨r0,r1',r2',r3',r4,r5⟩,⟨f0,f1,f2,f3,f4,f5⟩,rl⟩:=cells6 r3
  go_wp2
  have hgr:=((hk1.start.alloc _).trans hk2).below hb3
  refine bodyPost_ret (results_c Tryz.results278 _ _ w.heap.size 31 _ (0,0) _ rfl (fin6 _ _ _ _ _ _ r3) Tryz.underlying31 rfl size31) rfl ⟨by omega,by omega,_,rfl,?_,?_⟩
  ·exact Ex.leaf ⟨0,⟨x,⟨#[49]⟩⟩,⟨#[]⟩,0,[]⟩ rfl
  ·exact hgr.set6 r3 hne0 (Nat.le_refl _) _ _ _ _ _ _
end Go.Proofs.YtjaobihcdkjmbaaGreatDoor
end
