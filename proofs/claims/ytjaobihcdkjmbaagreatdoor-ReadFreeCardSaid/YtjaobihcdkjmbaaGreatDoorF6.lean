/- The law ReadFree answers true for every argument; a part of its proof. -/
import Derived.RegionIn
import Derived.BigRegionIn
import Derived.Test.YtjaobihcdkjmbaaGreatDoorF5
set_option linter.unusedVariables false
set_option linter.unusedSimpArgs false
section
namespace Go.Proofs.YtjaobihcdkjmbaaGreatDoor
open Go.RowKit Go.Proofs.YtjaobihcdkjmbaaGreatDoorW.PrintWords Go.Proofs.YtjaobihcdkjmbaaGreatDoor.PReadTokens
def tokO (t:S47):Obj:=.cells #[.int .i64 t.f0,.string t.f1,.int .i64 t.f2] 47
def allToks (s:ByteArray):List S47:=toksF (s.size+1) s 0
def tokPost (S T:Nat) (I Ix:List S47→World→Prop) (xs:List S47) (W:World):Exit→Act→World→Prop
 | .normal,_,W'=>KeepsOthers W W'∧I xs W'∧W'.heap[S]?=W.heap[S]?∧W'.heap[T]?=W.heap[T]?
 | .ret,_,W'=>KeepsOthers W W'∧Ix xs W'
 | _,_,_=>False
theorem grown_putObj (W:World) (l:Nat) (o:Obj):W.grownBy (W.putObj l o) (some l) :=
 ⟨rfl,rfl,rfl,by simp,fun k _ hk=>World.putObj_heap_other (fun e=>hk (by rw [e]))⟩
theorem grown_alloc2 (w:World) (o o':Obj) (row:Option Nat):w.grownBy ((w.alloc o).alloc o') row:=Lib.grownBy_allocR (World.grownBy_alloc w o row) o'
theorem wpIn_range_toks {n:Nat} {g:Operand} {p:Tmp} {assign body:Code} {Q:Exit→Act→World→Prop} {a:Act} {w:World} {box:Addr} {s:ByteArray} (tm:S47→Nat→Array Value)
  (hg:a.eval g=.func (.func 87) #[] #[.pointer (some box)]) (hs:s.size≤2147483648) (hbox:w.cell? box=some (.string s))
  (I Ix:List S47→World→Prop)
  (hI:∀ pre A B k,I pre A→(k=w.heap.size+1∨k=w.heap.size+2)→A.grownBy B (some k)→I pre B)
  (hIx:∀ pre A B k,Ix pre A→(k=w.heap.size+1∨k=w.heap.size+2)→A.grownBy B (some k)→Ix pre B) (h0:I [] w)
  (hassign:∀ (l:Nat) (t:S47) (A:World) (K:Act→World→Prop),K { tmps:=tm t A.heap.size,defers:=[] } (A.alloc (tokO t)) →
   assign.wpIn (Fence.wide.inRound l) (n - 1 - 1) Tryz.prog (Exit.then K (fun _ _ _=>False)) { tmps:=a.tmps.setIfInBounds p (tokV t),defers:=[] } A)
  (hbody:∀ (pre:List S47) (t:S47) (A W0:World),I pre A→(∃ rest,allToks s=pre++t :: rest)→w.heap.size+2 < A.heap.size →
   ((A.alloc (tokO t)).alloc (tokO t)).grownBy W0 (some (w.heap.size+1))→W0.heap.size=A.heap.size+2 →
   body.wpIn (Fence.wide.inRound (w.heap.size+1)) (n - 1 - 1) Tryz.prog (tokPost (w.heap.size+2) A.heap.size I Ix (pre++[t]) W0) { tmps:=tm t (A.heap.size+1),defers:=[] } W0)
  (hdone:∀ (W:World),I (allToks s) W→W.heap[w.heap.size]?=some (.deferred (some []))→Q .normal { a with defers:={ target:=.collected w.heap.size,args:=#[] } :: a.defers } W)
  (hstop:∀ (pre rest:List S47) (W:World),allToks s=pre++rest→Ix pre W→W.heap[w.heap.size]?=some (.deferred (some [])) →
   Code.ret.wpIn Fence.wide n Tryz.prog Q { a with defers:={ target:=.collected w.heap.size,args:=#[] } :: a.defers } W) :
  (Code.rangeFunc g #[p] assign body).wpIn Fence.wide n Tryz.prog Q a w:=by
 refine wpIn_rangeFunc ?_
 intro fn _
 obtain ⟨rec,hrec⟩:∃ rec:LoopState→Option Code→Loop,rec=fun st pe=>{ state:=st,pending:=pe,fn,tmps:=a.tmps,params:=#[p],assign,body,defers:=w.heap.size }:=⟨_,rfl⟩
 obtain ⟨W1,hW1⟩:∃ W1,(w.alloc (.deferred (some []))).alloc (.loop (rec .ready none))=W1:=⟨_,rfl⟩
 have hsz1:W1.heap.size=w.heap.size+2:=by rw [← hW1];simp
 have hL1:W1.heap[w.heap.size+1]?=some (.loop (rec .ready none)):=by
  rw [← hW1];have:=World.alloc_heap_new (w.alloc (.deferred (some []))) (.loop (rec .ready none));rwa [World.size_alloc] at this
 have hK1:W1.heap[w.heap.size]?=some (.deferred (some [])):=by
  rw [← hW1];exact (Below.heap_alloc _ _ _ (by simp)).trans (World.alloc_heap_new w _)
 have hI1:I [] W1:=by rw [← hW1];exact hI _ _ _ _ h0 (.inl rfl) (grown_alloc2 _ _ _ _)
 have hbx:box.block < w.heap.size:=World.block_lt_of_cell? w box hbox
 have hb1:W1.cell? box=some (.string s):=by
  rw [← hW1]
  have hb:Below w.heap.size w ((w.alloc (.deferred (some []))).alloc (.loop (rec .ready none))):=((Below.refl _ w).alloc (Nat.le_refl _) _).alloc (by simp) _
  exact (hb.cell hbx).trans hbox
 refine ⟨w.heap.size+1,[{ target:=.collected w.heap.size,args:=#[] }],W1,{ target:=.fn (.func 87) #[.pointer (some box)],args:=#[.func (.yield (w.heap.size+1)) #[] #[]] },W1,87,
  #[.func (.yield (w.heap.size+1)) #[] #[],.pointer (some box)],W1,?_,?_,?_,?_,wide_depth,?_⟩
 ·rw [← hW1,hrec];exact run_enterLoop_outer _ _ _ _ _
 ·simp only [resolve,hg]
  simp [go_sem]
 ·intro f' _;trivial
 ·simp only [invoke]
  simp [go_sem]
 ·have hS:∀ B:World,w.heap.size+2 < B.heap.size→w.heap.size+2 < B.heap.size:=fun _ h=>h
  refine (tokens1_in (n - 1) (w.heap.size+1) box s hs
   (fun pre W=>I pre W∧W.heap[w.heap.size+1]?=some (.loop (rec .ready none))∧W.heap[w.heap.size]?=some (.deferred (some [])))
   (fun pre W=>Ix pre W∧W.heap[w.heap.size+1]?=some (.loop (rec .done (some .ret)))∧W.heap[w.heap.size]?=some (.deferred (some [])))
   W1 hb1 ?_ ?_ ?_ ⟨hI1,hL1,hK1⟩).mono ?_
  ·rintro pre A B ⟨hi,hl,hk⟩ hgr
   rw [hsz1] at hgr
   have hlA:=blk_lt hl
   exact ⟨hI _ _ _ _ hi (.inr rfl) hgr,(hgr.block _ hlA (by intro e;injection e with e;omega)).trans hl,(hgr.block _ (by omega) (by intro e;injection e with e;omega)).trans hk⟩
  ·rintro pre A B ⟨hi,hl,hk⟩ hgr
   rw [hsz1] at hgr
   have hlA:=blk_lt hl
   exact ⟨hIx _ _ _ _ hi (.inr rfl) hgr,(hgr.block _ hlA (by intro e;injection e with e;omega)).trans hl,(hgr.block _ (by omega) (by intro e;injection e with e;omega)).trans hk⟩
  ·-- one round
   rintro pre t A ⟨hi,hl,hk⟩ hrest hAS
   rw [hsz1] at hAS ⊢
   have hlA:=blk_lt hl
   have hl0:(A.alloc (tokO t)).heap[w.heap.size+1]?=some (.loop (rec .ready none)):=(Below.heap_alloc _ _ _ hlA).trans hl
   have hy:=run_yield (P:=Tryz.prog) (args:=#[tokV t]) hl0 (by rw [hrec];rfl)
   rw [hrec] at hy
   refine ⟨fn,_,assign,body,hy,roundIn_of_wpIn trivial ?_⟩
   have hzip:(#[p].zip #[tokV t]).foldl (fun tmps (x:Tmp × Value)=>tmps.setIfInBounds x.1 x.2) a.tmps=a.tmps.setIfInBounds p (tokV t):=by simp
   show assign.wpIn _ _ _ _ { tmps:=(#[p].zip #[tokV t]).foldl (fun tmps (x:Tmp × Value)=>tmps.setIfInBounds x.1 x.2) a.tmps,defers:=[] } _
   rw [hzip]
   refine hassign _ t _ _ ?_
   have hl1:((A.alloc (tokO t)).alloc (tokO t)).heap[w.heap.size+1]?=some (.loop (rec .ready none)):=(Below.heap_alloc _ _ _ (by simp;omega)).trans hl0
   refine ⟨_,run_beginRound hl1 (by rw [hrec]),?_⟩
   obtain ⟨W0,hW0⟩:∃ W0,W0=((A.alloc (tokO t)).alloc (tokO t)).putObj (w.heap.size+1) (.loop { rec .ready none with state:=.busy }):=⟨_,rfl⟩
   show Code.wpIn _ _ _ body _ _ (((A.alloc (tokO t)).alloc (tokO t)).putObj (w.heap.size+1) (.loop { rec .ready none with state:=.busy }))
   rw [← hW0]
   have hgr0:((A.alloc (tokO t)).alloc (tokO t)).grownBy W0 (some (w.heap.size+1)):=by rw [hW0];exact grown_putObj _ _ _
   have hz0:W0.heap.size=A.heap.size+2:=by rw [hW0];simp
   have hl2:W0.heap[w.heap.size+1]?=some (.loop { rec .ready none with state:=.busy }):=by rw [hW0];exact World.putObj_heap_same (by simp;omega)
   have hk2:W0.heap[w.heap.size]?=some (.deferred (some [])):=(hgr0.block _ (by simp;omega) (by intro e;injection e with e;omega)).trans ((Below.heap_alloc _ _ _ (by simp;omega)).trans ((Below.heap_alloc _ _ _ (by omega)).trans hk))
   have hT2:W0.heap[A.heap.size]?=some (tokO t):=(hgr0.block _ (by simp;omega) (by intro e;injection e with e;omega)).trans ((Below.heap_alloc _ _ _ (by simp)).trans (blk_new A _))
   have hS2:W0.heap[w.heap.size+2]?=A.heap[w.heap.size+2]?:=(hgr0.block _ (by simp;omega) (by intro e;injection e with e;omega)).trans ((Below.heap_alloc _ _ _ (by simp;omega)).trans (Below.heap_alloc _ _ _ (by omega)))
   have hz:(A.alloc (tokO t)).heap.size=A.heap.size+1:=by simp
   show Code.wpIn _ _ _ body _ { tmps:=tm t (A.alloc (tokO t)).heap.size,defers:=[] } _
   rw [hz]
   refine wpIn_mono (hbody pre t A W0 hi hrest hAS hgr0 hz0) ?_
   rintro e a3 W3 hp
   cases e with
   | normal =>
    obtain ⟨hk3,hi3,hS3,hT3⟩:=hp
    have hl3:=hk3.same _ _ hl2 rfl
    have hd3:=hk3.same _ _ hk2 rfl
    have hr:=run_endRound (P:=Tryz.prog) none hl3
    rw [hrec] at hr hl3
    refine ⟨_,_,hr,.inl ⟨rfl,⟨hI _ _ _ _ hi3 (.inl rfl) (grown_putObj _ _ _),?_,(World.putObj_heap_other (by omega)).trans hd3⟩,(World.putObj_heap_other (by omega)).trans (hS3.trans hS2),(World.putObj_heap_other (by omega)).trans (hT3.trans hT2)⟩⟩
    rw [hrec];exact World.putObj_heap_same (blk_lt hl3)
   | ret =>
    obtain ⟨hk3,hi3⟩:=hp
    have hl3:=hk3.same _ _ hl2 rfl
    have hd3:=hk3.same _ _ hk2 rfl
    have hr:=run_endRound (P:=Tryz.prog) (some .ret) hl3
    rw [hrec] at hr hl3
    refine ⟨_,_,hr,.inr ⟨rfl,hIx _ _ _ _ hi3 (.inl rfl) (grown_putObj _ _ _),?_,(World.putObj_heap_other (by omega)).trans hd3⟩⟩
    rw [hrec];exact World.putObj_heap_same (blk_lt hl3)
   | exit id=>exact hp.elim
   | goto t=>exact hp.elim
   | panic ch=>exact hp.elim
   | outgrown=>exact hp.elim
  ·rintro e W2 ⟨rfl,(⟨hi,hl,hk⟩ | ⟨pre,rest,hpr,hi,hl,hk⟩)⟩
   ·have he:=run_endLoop (P:=Tryz.prog) hl (by rw [hrec];simp)
    rw [hrec] at he
    exact ⟨none,_,he,hdone _ (hI _ _ _ _ hi (.inl rfl) (grown_putObj _ _ _)) ((World.putObj_heap_other (by omega)).trans hk)⟩
   ·have he:=run_endLoop (P:=Tryz.prog) hl (by rw [hrec];simp)
    rw [hrec] at he
    exact ⟨some .ret,_,he,hstop pre rest _ hpr (hIx _ _ _ _ hi (.inl rfl) (grown_putObj _ _ _)) ((World.putObj_heap_other (by omega)).trans hk)⟩
theorem tokens_in (n:Nat) (s:ByteArray) (w:World):CallsIn Fence.wide n Tryz.prog 53 #[.string s] w fun e w'=>e=.returned (.func (.func 87) #[] #[.pointer (some ⟨w.heap.size,0,none⟩)])∧w'=w.alloc (.cells #[.string s] 9):=by
 refine callsIn_of_wp Tryz.func53 rfl trivial ?_ rfl
 simp only [Tryz.ntmps53,List.size_toArray,List.length_cons,List.length_nil,Nat.reduceAdd,Nat.reduceSub,Array.replicate_succ,Array.replicate_zero,List.push_toArray,List.append_toArray,List.nil_append,List.cons_append]
 gi_wp2
 go_ret
 exact ⟨rfl,rfl⟩
end Go.Proofs.YtjaobihcdkjmbaaGreatDoor
end
section
namespace Go.Proofs.YtjaobihcdkjmbaaGreatDoor
open Go.RowKit Go.Proofs.YtjaobihcdkjmbaaGreatDoorW.PrintWords Go.Proofs.YtjaobihcdkjmbaaGreatDoor.PReadTokens
attribute [local go_sem] Oper.semAt_some
def tokC (t:S47):List Value:=[.int .i64 t.f0,.string t.f1,.int .i64 t.f2]
def flat (ts:List S47):List Value:=ts.flatMap tokC
theorem flat_snoc (ts:List S47) (t:S47):flat (ts++[t])=flat ts++tokC t:=by simp [flat]
theorem toksF_length (n:Nat) (s:ByteArray):∀ a,(toksF n s a).length≤n:=by
 induction n with
 | zero=>intro a;exact Nat.le_refl _
 | succ n ih =>
  intro a
  rw [toksF]
  split
  ·split
   ·simp
   ·rw [List.length_cons];have:=ih (tokAt s (skipB s a)).2;omega
  ·simp
def OwnToks (W:World) (base:Nat) (v:Value) (ts:List S47):Prop:=W.ownsRow base 47 3 v ts.length (flat ts)
theorem OwnToks.kept {W W':World} {base:Nat} {v:Value} {ts:List S47} (h:OwnToks W base v ts) {k:Nat} (hk:k < base) (hg:W.grownBy W' (some k)):OwnToks W' base v ts:=by
 refine World.ownsRow.kept h hg ?_
 cases hv:v.ownBlock with
 | none=>exact .inl rfl
 | some b=>refine .inr (fun e=>?_);injection e with e;have:=(World.ownsRow.lt h b hv).1;omega
theorem results133 {tmps:Array Value} {W:World} {R:Nat} {cs:Array Value} (h2:tmps.getD 2 undef=.pointer (some ⟨R,0,none⟩)) (hs:cs.size=3) (hR:W.heap[R]?=some (.cells cs 93 (0,0))) :
  (results Tryz.f133 tmps).run Tryz.prog W=.ok (.agg cs) W:=by
 have hp':tmps[2]?.getD undef=.pointer (some ⟨R,0,none⟩):=by simpa using h2
 have hi:(Tryz.prog.info? 93).map (·.size)=some cs.size:=by rw [hs];kernel_rfl
 simp [results,Tryz.results133,hp',asAddr,run_loadVar_row W R 93 93 cs (0,0) _ hR Tryz.underlying93 rfl hi]
set_option maxRecDepth 100000 in
set_option maxHeartbeats 4000000 in
theorem newQueue_in (n:Nat) (s:ByteArray) (hs:s.size≤2000) (w:World):CallsIn Fence.wide n Tryz.prog 133 #[.string s] w fun e w' =>
  ∃ v,e=.returned (.agg #[v,.int .i64 0,.int .i64 s.size])∧OwnToks w' w.heap.size v (allToks s)∧Below w.heap.size w w':=by
 have hD:Fence.wide.depth.isSome=false:=rfl
 have hF53:Fence.wide.fn 53:=trivial
 refine callsIn_of_wp_marks Tryz.func133 rfl trivial ?_ rfl
 simp only [Tryz.ntmps133,List.size_toArray,List.length_cons,List.length_nil,Nat.reduceAdd,Nat.reduceSub,Array.replicate_succ,Array.replicate_zero,List.push_toArray,List.append_toArray,List.nil_append,List.cons_append]
 gi_wp2_with (gi_at_call 53;refine (tokens_in (n - 1) s _).mono ?_;rintro e w' ⟨rfl,rfl⟩)
 obtain ⟨W,hW⟩:∃ W,W=(((w.alloc (Obj.cells #[Value.slice none 0 0,Value.int IntKind.i64 0,Value.int IntKind.i64 0] 93)).alloc (Obj.cells #[Value.slice none 0 0,Value.int IntKind.i64 0,Value.int IntKind.i64 s.size] 93)).alloc (Obj.cells #[Value.string s] 9)):=⟨_,rfl⟩
 have hz:W.heap.size=w.heap.size+3:=by rw [hW];simp
 have hbW:Below w.heap.size w W:=by rw [hW];exact (((Below.refl _ w).alloc (Nat.le_refl _) _).alloc (by simp) _).alloc (by simp;omega) _
 have hR:W.heap[w.heap.size]?=some (.cells #[.slice none 0 0,.int .i64 0,.int .i64 0] 93 (0,0)):=by
  rw [hW];exact (Below.heap_alloc _ _ _ (by simp;omega)).trans ((Below.heap_alloc _ _ _ (by simp)).trans (blk_new w _))
 have hQ:W.heap[w.heap.size+1]?=some (.cells #[.slice none 0 0,.int .i64 0,.int .i64 s.size] 93 (0,0)):=by
  rw [hW]
  have:=blk_new (w.alloc (Obj.cells #[Value.slice none 0 0,Value.int IntKind.i64 0,Value.int IntKind.i64 0] 93)) (Obj.cells #[Value.slice none 0 0,Value.int IntKind.i64 0,Value.int IntKind.i64 s.size] 93)
  rw [World.size_alloc] at this
  exact (Below.heap_alloc _ _ _ (by simp)).trans this
 have hB:W.heap[w.heap.size+2]?=some (.cells #[.string s] 9 (0,0)):=by
  rw [hW]
  have:=blk_new ((w.alloc (Obj.cells #[Value.slice none 0 0,Value.int IntKind.i64 0,Value.int IntKind.i64 0] 93)).alloc (Obj.cells #[Value.slice none 0 0,Value.int IntKind.i64 0,Value.int IntKind.i64 s.size] 93)) (Obj.cells #[Value.string s] 9)
  rw [World.size_alloc,World.size_alloc] at this
  exact this
 rw [← hW]
 clear hW
 refine wpIn_range_toks (box:=⟨w.heap.size+2,0,none⟩) (s:=s)
  (fun t U=>#[Value.string s,undef,Value.pointer (some ⟨w.heap.size,0,none⟩),Value.pointer (some ⟨w.heap.size+1,0,none⟩),Value.pointer (some ⟨U,0,none⟩),Value.string s,Value.int IntKind.i64 s.size,
     Value.agg #[Value.slice none 0 0,Value.int IntKind.i64 0,Value.int IntKind.i64 s.size],Value.string s,Value.func (Fn.func 87) #[] #[Value.pointer (some ⟨w.heap.size+1+1,0,none⟩)],tokV t,undef,undef,undef,undef,undef,undef,undef])
  rfl (by omega) (blk_cell hB 0)
  (fun pre X=>∃ v,OwnToks X (W.heap.size+3) v pre∧X.heap[w.heap.size+1]?=some (.cells #[v,.int .i64 0,.int .i64 s.size] 93 (0,0))∧X.heap[w.heap.size]?=some (.cells #[.slice none 0 0,.int .i64 0,.int .i64 0] 93 (0,0))∧Below w.heap.size w X)
  (fun _ _=>False) ?hI (fun _ _ _ _ h _ _=>h) ⟨_,World.ownsRow_nil _ _ _ _,hQ,hR,hbW⟩ ?assign ?body ?done (fun _ _ _ _ h _=>h.elim)
 case hI =>
  rintro pre A B k ⟨v,ho,hq,hr,hb⟩ hk hg
  exact ⟨v,ho.kept (by omega) hg,(hg.block _ (blk_lt hq) (by intro e;injection e with e;omega)).trans hq,(hg.block _ (blk_lt hr) (by intro e;injection e with e;omega)).trans hr,hb.grown hg hb.size (fun j e=>by injection e with e;omega)⟩
 case assign =>
  intro l t A K hK
  unfold tokV at hK ⊢
  unfold tokO at hK
  gi_wp2
  exact hK
 case body =>
  rintro pre t A W0 ⟨v,ho,hq,hr,hb⟩ hrest hlt hg hz0
  unfold tokV
  have hq0:W0.heap[w.heap.size+1]?=some (.cells #[v,.int .i64 0,.int .i64 s.size] 93 (0,0)) :=
   (hg.block _ (by simp;have:=blk_lt hq;omega) (by intro e;injection e with e;omega)).trans ((Below.heap_alloc _ _ _ (by simp;have:=blk_lt hq;omega)).trans ((Below.heap_alloc _ _ _ (blk_lt hq)).trans hq))
  have hU:W0.heap[A.heap.size+1]?=some (tokO t):=by
   have:=blk_new (A.alloc (tokO t)) (tokO t)
   rw [World.size_alloc] at this
   exact (hg.block _ (by simp) (by intro e;injection e with e;omega)).trans this
  have q0:=blk_cell hq0 0
  have q1:=blk_frozen hq0 0
  have u0:=blk_cell hU 0
  have u1:=blk_cell hU 1
  have u2:=blk_cell hU 2
  obtain ⟨i0,hi,iz0,iz1,iz2⟩:=info_parts info47
  have HO:(W0.alloc (tokO t)).ownsRow (W.heap.size+3) 47 3 v pre.length (flat pre) :=
   OwnToks.kept (k:=W.heap.size+1) (OwnToks.kept (k:=W.heap.size+1) ho (by omega) (Lib.grownBy_trans (grown_alloc2 A (tokO t) (tokO t) _) hg)) (by omega) (World.grownBy_alloc _ _ _)
  have HN:(W0.alloc (tokO t)).heap[A.heap.size+2]?=some (.cells (tokC t).toArray 47 (0,0)):=by
   have:=blk_new W0 (tokO t)
   rw [hz0] at this
   exact this
  have HC:∀ j u,(tokC t)[j]?=some u→(W0.alloc (tokO t)).cell? ((⟨A.heap.size+2,0,none⟩:Addr).add j)=some u:=by simpa using World.news_of_block HN
  have hlen:pre.length≤s.size:=by
   obtain ⟨rest,hrest⟩:=hrest
   have h1:=toksF_length (s.size+1) s 0
   unfold allToks at hrest
   rw [hrest,List.length_append,List.length_cons] at h1
   omega
  have hzc:(Value.agg #[.int .i64 0,.string ⟨#[]⟩,.int .i64 0]).cells.size=3:=rfl
  have hone:∀ u ∈ tokC t,u.oneCell'=true:=by simp [tokC,Value.oneCell']
  have hb1:pre.length+1≤maxLen:=by unfold maxLen;omega
  have hb2:(pre.length+1) * 32≤140737488355328:=by omega
  have hb3:W.heap.size+3≤(W0.alloc (tokO t)).heap.size:=by rw [World.size_alloc,hz0];omega
  have hqlt:w.heap.size+1 < (W0.alloc (tokO t)).heap.size:=by rw [World.size_alloc,hz0];omega
  have hqa:(W0.alloc (tokO t)).heap[w.heap.size+1]?=some (.cells #[v,.int .i64 0,.int .i64 s.size] 93 (0,0)):=(Below.heap_alloc _ _ _ (by omega)).trans hq0
  have hqne:some (w.heap.size+1)≠v.ownBlock:=fun e=>by have:=(World.ownsRow.lt HO _ e.symm).1;omega
  have hne:∀ k,(k < W.heap.size+3∨A.heap.size≤k)→some k≠v.ownBlock:=fun k hk e=>by have:=World.ownsRow.lt ho _ e.symm;omega
  have H1:=Lib.hid HO
  have H2:=Lib.hid HC
  have HQ:=Lib.hid hq
  have HQ0:=Lib.hid hq0
  have HU:=Lib.hid hU
  clear hq hq0 hU HO HC HN hrest
  gi_wp2_with (gi_at_builtin;go_loud (refine wpListIn_append_own _ rfl _ _ 35 rfl (W.heap.size+3) 47 i0 (.agg #[.int .i64 0,.string ⟨#[]⟩,.int .i64 0]) 3 32 Tryz.underlying35 hi iz0 iz1 iz2 hzc (Nat.zero_lt_succ 2) v pre.length (flat pre) rfl H1.out ⟨A.heap.size+2,0,none⟩ 1 1 (tokC t) rfl rfl H2.out hone hb1 hb2 hb3 ?_);intro v' w1 hown' hgrow _;obtain ⟨Av,cv,rfl⟩:=own_slice hown';have hq1:=(hgrow.block (w.heap.size+1) hqlt hqne).trans hqa;have c1:=blk_cell hq1 0;have c2:=blk_frozen hq1 0;have HW:=Lib.hid hown';clear hown')
  have hQne:w.heap.size+1 < W.heap.size+3:=by omega
  refine ⟨?_,⟨.slice Av (pre.length+1) cv,?_,?_,?_,?_⟩,?_,?_⟩
  ·exact ((KeepsOthers.alloc W0 (tokO t)).trans (KeepsOthers.of_grownBy hgrow (fun j o hj ho=>by
    obtain ⟨cells,hc⟩:=own_typed H1.out j hj
    rw [hc] at ho;cases ho;rfl))).trans (KeepsOthers.setCell _ _ _)
  ·exact OwnToks.kept (ts:=pre++[t]) (k:=w.heap.size+1) (by unfold OwnToks;rw [List.length_append,flat_snoc];exact HW.out) hQne (Lib.grownBy_setCell _ _ _ _)
  ·exact blk_set hq1 0 _
  ·exact (Below.heap_setCell _ _ _ _ (by simp)).trans ((hgrow.block _ (by rw [World.size_alloc,hz0];omega) (hne _ (.inl (by omega)))).trans ((Below.heap_alloc _ _ _ (by omega)).trans ((hg.block _ (by simp;omega) (by intro e;injection e with e;omega)).trans ((Below.heap_alloc _ _ _ (by simp;omega)).trans ((Below.heap_alloc _ _ _ (by omega)).trans hr)))))
  ·have h1:=((hb.alloc (by omega) (tokO t)).alloc (by simp;omega) (tokO t)).grown hg (by simp;omega) (fun k e=>by injection e with e;omega)
   exact ((h1.alloc (by omega) (tokO t)).grown hgrow (by simp;omega) (fun k e=>by have:=(World.ownsRow.lt H1.out k e).1;omega)).setCell (p:=⟨w.heap.size+1,0,none⟩) (by simp) _
  ·exact (Below.heap_setCell _ _ _ _ (by simp;omega)).trans ((hgrow.block _ (by rw [World.size_alloc,hz0];omega) (hne _ (.inl (by omega)))).trans (Below.heap_alloc _ _ _ (by omega)))
  ·exact (Below.heap_setCell _ _ _ _ (by simp;omega)).trans ((hgrow.block _ (by rw [World.size_alloc,hz0];omega) (hne _ (.inr (Nat.le_refl _)))).trans (Below.heap_alloc _ _ _ (by omega)))
 case done =>
  rintro X ⟨v,ho,hq,hr,hb⟩ hdef
  obtain ⟨Av,cv,rfl⟩:=own_slice ho
  have q0:=blk_cell hq 0
  have q1:=blk_cell hq 1
  have q2:=blk_cell hq 2
  have r0:=blk_cell hr 0
  have r1:=blk_cell hr 1
  have r2:=blk_cell hr 2
  have f0:=blk_frozen hr 0
  have f1:=blk_frozen hr 1
  have f2:=blk_frozen hr 2
  have HQ:=Lib.hid hq
  have HR:=Lib.hid hr
  clear hq hr
  gi_wp2
  have hX:((((X.setCell ⟨w.heap.size,0,none⟩ (.slice Av (allToks s).length cv)).setCell ⟨w.heap.size,1,none⟩ (.int .i64 0)).setCell ⟨w.heap.size,2,none⟩ (.int .i64 s.size))).heap[w.heap.size]?=some (.cells #[.slice Av (allToks s).length cv,.int .i64 0,.int .i64 s.size] 93 (0,0)):=blk_set (blk_set (blk_set HR.out 0 _) 1 _) 2 _
  have hd:((((X.setCell ⟨w.heap.size,0,none⟩ (.slice Av (allToks s).length cv)).setCell ⟨w.heap.size,1,none⟩ (.int .i64 0)).setCell ⟨w.heap.size,2,none⟩ (.int .i64 s.size))).heap[W.heap.size]?=some (.deferred (some [])) :=
   (Below.heap_setCell _ _ _ _ (by simp;omega)).trans ((Below.heap_setCell _ _ _ _ (by simp;omega)).trans ((Below.heap_setCell _ _ _ _ (by simp;omega)).trans hdef))
  have hbb:Below w.heap.size w ((((X.setCell ⟨w.heap.size,0,none⟩ (.slice Av (allToks s).length cv)).setCell ⟨w.heap.size,1,none⟩ (.int .i64 0)).setCell ⟨w.heap.size,2,none⟩ (.int .i64 s.size))) :=
   ((hb.setCell (p:=⟨w.heap.size,0,none⟩) (Nat.le_refl _) _).setCell (p:=⟨w.heap.size,1,none⟩) (Nat.le_refl _) _).setCell (p:=⟨w.heap.size,2,none⟩) (Nat.le_refl _) _
  have hoo:OwnToks ((((X.setCell ⟨w.heap.size,0,none⟩ (.slice Av (allToks s).length cv)).setCell ⟨w.heap.size,1,none⟩ (.int .i64 0)).setCell ⟨w.heap.size,2,none⟩ (.int .i64 s.size))) (W.heap.size+3) (.slice Av (allToks s).length cv) (allToks s) :=
   OwnToks.kept (k:=w.heap.size) (OwnToks.kept (k:=w.heap.size) (OwnToks.kept (k:=w.heap.size) ho (by omega) (Lib.grownBy_setCell _ _ _ _)) (by omega) (Lib.grownBy_setCell _ _ _ _)) (by omega) (Lib.grownBy_setCell _ _ _ _)
  generalize ((((X.setCell ⟨w.heap.size,0,none⟩ (.slice Av (allToks s).length cv)).setCell ⟨w.heap.size,1,none⟩ (.int .i64 0)).setCell ⟨w.heap.size,2,none⟩ (.int .i64 s.size)))=X' at *
  refine ⟨by simp,.inl ⟨_,_,rfl,run_takeDeferred hd,?_⟩⟩
  refine ⟨_,results133 rfl rfl ((World.putObj_heap_other (by omega)).trans hX),_,rfl,?_,?_⟩
  ·exact own_weaken (OwnToks.kept (k:=W.heap.size) hoo (by omega) (grown_putObj _ _ _)) (by omega)
  ·exact hbb.grown (grown_putObj _ _ _) (by have:=hbb.size;exact this) (fun k e=>by injection e with e;omega)
end Go.Proofs.YtjaobihcdkjmbaaGreatDoor
end
section
namespace Go.Proofs.YtjaobihcdkjmbaaGreatDoor
open Go.RowKit Go.Proofs.YtjaobihcdkjmbaaGreatDoorW.PrintWords Go.Proofs.YtjaobihcdkjmbaaGreatDoor.PReadTokens
attribute [local go_sem] Oper.semAt_some
theorem alloc_at (w:World) (o:Obj) (k:Nat) (h:k=w.heap.size):(w.alloc o).heap[k]?=some o:=by rw [h];exact blk_new w o
def badOf (ts:List S47):Option S47:=ts.find? (fun t=>t.f0 == -1)
theorem badOf_none {ts:List S47} (h:∀ t ∈ ts,(t.f0 == -1)=false):badOf ts=none:=by
 unfold badOf;rw [List.find?_eq_none];intro t ht;rw [h t ht];simp
theorem badOf_some {init rest:List S47} {t:S47} (h:∀ t ∈ init,(t.f0 == -1)=false) (ht:(t.f0 == -1)=true):badOf (init++t :: rest)=some t:=by
 unfold badOf
 rw [List.find?_append,show init.find? (fun t=>t.f0 == -1)=none from badOf_none h,List.find?_cons,ht]
 rfl
def TokPost (s:ByteArray) (w:World) (e:Ending) (w':World):Prop :=
 match badOf (allToks s) with
 | none=>∃ v,e=.returned (.tuple #[v,.int .i64 0,.int .i64 0])∧OwnToks w' w.heap.size v (allToks s)∧Below w.heap.size w w'
 | some t=>e=.returned (.tuple #[.slice none 0 0,.int .i64 t.f2,.int .i64 1])∧Below w.heap.size w w'
theorem results15 {tmps:Array Value} {W:World} {a b c:Addr} {u v x:Value} (h2:tmps.getD 2 undef=.pointer (some a)) (h3:tmps.getD 3 undef=.pointer (some b)) (h4:tmps.getD 4 undef=.pointer (some c))
  (ha:W.cell? a=some u) (hb:W.cell? b=some v) (hc:W.cell? c=some x):(results Tryz.f15 tmps).run Tryz.prog W=.ok (.tuple #[u,v,x]) W:=by
 have e2:tmps[2]?.getD undef=.pointer (some a):=by simpa using h2
 have e3:tmps[3]?.getD undef=.pointer (some b):=by simpa using h3
 have e4:tmps[4]?.getD undef=.pointer (some c):=by simpa using h4
 simp [results,Tryz.results15,e2,e3,e4,asAddr,go_sem,ha,hb,hc]
set_option maxRecDepth 100000 in
set_option maxHeartbeats 4000000 in
theorem Tokens_in (n:Nat) (s:ByteArray) (hs:s.size≤2000) (w:World):CallsIn Fence.wide n Tryz.prog 15 #[.string s] w (TokPost s w):=by
 have hD:Fence.wide.depth.isSome=false:=rfl
 have hF53:Fence.wide.fn 53:=trivial
 have hbig:decide (2000 < (s.size:Int))=false:=by rw [decide_eq_false_iff_not];omega
 refine callsIn_of_wp_marks Tryz.func15 rfl trivial ?_ rfl
 simp only [Tryz.ntmps15,List.size_toArray,List.length_cons,List.length_nil,Nat.reduceAdd,Nat.reduceSub,Array.replicate_succ,Array.replicate_zero,List.push_toArray,List.append_toArray,List.nil_append,List.cons_append]
 gi_wp2_with (gi_at_call 53;refine (tokens_in (n - 1) s _).mono ?_;rintro e w' ⟨rfl,rfl⟩)
 clear hbig
 obtain ⟨W,hW⟩:∃ W,W=(((((w.alloc (.cells #[.slice none 0 0] 35)).alloc (.cells #[.int .i64 0] 3)).alloc (.cells #[.int .i64 0] 36)).alloc (.cells #[.slice none 0 0] 35)).alloc (.cells #[.string s] 9)):=⟨_,rfl⟩
 have hz:W.heap.size=w.heap.size+5:=by rw [hW];simp
 have hbW:Below w.heap.size w W:=by rw [hW];exact (((((Below.refl _ w).alloc (Nat.le_refl _) _).alloc (by simp) _).alloc (by simp;omega) _).alloc (by simp;omega) _).alloc (by simp;omega) _
 have hR0:W.heap[w.heap.size]?=some (.cells #[.slice none 0 0] 35 (0,0)):=by
  rw [hW]
  refine (Below.heap_alloc _ _ _ (by simp;try omega)).trans ?_
  refine (Below.heap_alloc _ _ _ (by simp;try omega)).trans ?_
  refine (Below.heap_alloc _ _ _ (by simp;try omega)).trans ?_
  refine (Below.heap_alloc _ _ _ (by simp;try omega)).trans ?_
  exact alloc_at _ _ _ (by simp)
 have hR1:W.heap[w.heap.size+1]?=some (.cells #[.int .i64 0] 3 (0,0)):=by
  rw [hW]
  refine (Below.heap_alloc _ _ _ (by simp;try omega)).trans ?_
  refine (Below.heap_alloc _ _ _ (by simp;try omega)).trans ?_
  refine (Below.heap_alloc _ _ _ (by simp;try omega)).trans ?_
  exact alloc_at _ _ _ (by simp)
 have hR2:W.heap[w.heap.size+2]?=some (.cells #[.int .i64 0] 36 (0,0)):=by
  rw [hW]
  refine (Below.heap_alloc _ _ _ (by simp;try omega)).trans ?_
  refine (Below.heap_alloc _ _ _ (by simp;try omega)).trans ?_
  exact alloc_at _ _ _ (by simp)
 have hO:W.heap[w.heap.size+3]?=some (.cells #[.slice none 0 0] 35 (0,0)):=by
  rw [hW]
  refine (Below.heap_alloc _ _ _ (by simp;try omega)).trans ?_
  exact alloc_at _ _ _ (by simp)
 have hB:W.heap[w.heap.size+4]?=some (.cells #[.string s] 9 (0,0)):=by
  rw [hW]
  exact alloc_at _ _ _ (by simp)
 rw [← hW]
 clear hW
 refine wpIn_range_toks (box:=⟨w.heap.size+4,0,none⟩) (s:=s)
  (fun t U=>#[Value.string s,undef,Value.pointer (some ⟨w.heap.size,0,none⟩),Value.pointer (some ⟨w.heap.size+1,0,none⟩),Value.pointer (some ⟨w.heap.size+1+1,0,none⟩),Value.pointer (some ⟨w.heap.size+1+1+1,0,none⟩),Value.pointer (some ⟨U,0,none⟩),Value.string s,
     Value.int IntKind.i64 s.size,Value.bool false,Value.string s,
     Value.func (Fn.func 87) #[] #[Value.pointer (some ⟨w.heap.size+1+1+1+1,0,none⟩)],tokV t,undef,undef,undef,undef,undef,undef,undef,undef,undef,undef])
  rfl (by omega) (blk_cell hB 0)
  (fun pre X=>∃ v,OwnToks X (W.heap.size+3) v pre∧(∀ t ∈ pre,(t.f0 == -1)=false)∧X.heap[w.heap.size+3]?=some (.cells #[v] 35 (0,0))∧X.heap[w.heap.size]?=some (.cells #[.slice none 0 0] 35 (0,0)) ∧
   X.heap[w.heap.size+1]?=some (.cells #[.int .i64 0] 3 (0,0))∧X.heap[w.heap.size+2]?=some (.cells #[.int .i64 0] 36 (0,0))∧Below w.heap.size w X)
  (fun pre X=>∃ init t,pre=init++[t]∧(∀ t ∈ init,(t.f0 == -1)=false)∧(t.f0 == -1)=true∧X.heap[w.heap.size]?=some (.cells #[.slice none 0 0] 35 (0,0)) ∧
   X.heap[w.heap.size+1]?=some (.cells #[.int .i64 t.f2] 3 (0,0))∧X.heap[w.heap.size+2]?=some (.cells #[.int .i64 1] 36 (0,0))∧Below w.heap.size w X)
  ?hI ?hIx ⟨_,World.ownsRow_nil _ _ _ _,fun t ht=>(by simp at ht),hO,hR0,hR1,hR2,hbW⟩ ?assign ?body ?done ?stop
 case hI =>
  rintro pre A B k ⟨v,ho,hn,hq,h0,h1,h2,hb⟩ hk hg
  exact ⟨v,ho.kept (by omega) hg,hn,(hg.block _ (blk_lt hq) (by intro e;injection e with e;omega)).trans hq,(hg.block _ (blk_lt h0) (by intro e;injection e with e;omega)).trans h0,(hg.block _ (blk_lt h1) (by intro e;injection e with e;omega)).trans h1,(hg.block _ (blk_lt h2) (by intro e;injection e with e;omega)).trans h2,hb.grown hg hb.size (fun j e=>by injection e with e;omega)⟩
 case hIx =>
  rintro pre A B k ⟨init,t,hp,hn,ht,h0,h1,h2,hb⟩ hk hg
  exact ⟨init,t,hp,hn,ht,(hg.block _ (blk_lt h0) (by intro e;injection e with e;omega)).trans h0,(hg.block _ (blk_lt h1) (by intro e;injection e with e;omega)).trans h1,(hg.block _ (blk_lt h2) (by intro e;injection e with e;omega)).trans h2,hb.grown hg hb.size (fun j e=>by injection e with e;omega)⟩
 case assign =>
  intro l t A K hK
  unfold tokV at hK ⊢
  unfold tokO at hK
  gi_wp2
  exact hK
 case body =>
  rintro pre t A W0 ⟨v,ho,hn,hq,h0,h1,h2,hb⟩ hrest hlt hg hz0
  unfold tokV
  have carry:∀ {k:Nat} {o:Obj},A.heap[k]?=some o→k < w.heap.size+5→W0.heap[k]?=some o:=fun {k o} hk hlt5 =>
   (hg.block _ (by simp;have:=blk_lt hk;omega) (by intro e;injection e with e;omega)).trans ((Below.heap_alloc _ _ _ (by simp;have:=blk_lt hk;omega)).trans ((Below.heap_alloc _ _ _ (blk_lt hk)).trans hk))
  have hq0:=carry hq (by omega)
  have h00:=carry h0 (by omega)
  have h10:=carry h1 (by omega)
  have h20:=carry h2 (by omega)
  have hU:W0.heap[A.heap.size+1]?=some (tokO t):=by
   have:=blk_new (A.alloc (tokO t)) (tokO t)
   rw [World.size_alloc] at this
   exact (hg.block _ (by simp) (by intro e;injection e with e;omega)).trans this
  have hbelow0:=((hb.alloc (by omega) (tokO t)).alloc (by simp;omega) (tokO t)).grown hg (by simp;omega) (fun k e=>by injection e with e;omega)
  have u0:=blk_cell hU 0
  have u1:=blk_cell hU 1
  have u2:=blk_cell hU 2
  have HU:=Lib.hid hU
  have Hn:=Lib.hid hn
  have Hrest:=Lib.hid hrest
  clear hU carry hn hrest
  cases ht:(t.f0 == -1)
  ·obtain ⟨i0,hi,iz0,iz1,iz2⟩:=info_parts info47
   have HO:(W0.alloc (tokO t)).ownsRow (W.heap.size+3) 47 3 v pre.length (flat pre) :=
    OwnToks.kept (k:=W.heap.size+1) (OwnToks.kept (k:=W.heap.size+1) ho (by omega) (Lib.grownBy_trans (grown_alloc2 A (tokO t) (tokO t) _) hg)) (by omega) (World.grownBy_alloc _ _ _)
   have HN:(W0.alloc (tokO t)).heap[A.heap.size+2]?=some (.cells (tokC t).toArray 47 (0,0)):=by
    have:=blk_new W0 (tokO t)
    rw [hz0] at this
    exact this
   have HC:∀ j u,(tokC t)[j]?=some u→(W0.alloc (tokO t)).cell? ((⟨A.heap.size+2,0,none⟩:Addr).add j)=some u:=by simpa using World.news_of_block HN
   have hlen:pre.length≤s.size:=by
    obtain ⟨rest,hrest⟩:=Hrest.out
    have h1:=toksF_length (s.size+1) s 0
    unfold allToks at hrest
    rw [hrest,List.length_append,List.length_cons] at h1
    omega
   have hzc:(Value.agg #[.int .i64 0,.string ⟨#[]⟩,.int .i64 0]).cells.size=3:=rfl
   have hone:∀ u ∈ tokC t,u.oneCell'=true:=by simp [tokC,Value.oneCell']
   have hb1:pre.length+1≤maxLen:=by unfold maxLen;omega
   have hb2:(pre.length+1) * 32≤140737488355328:=by omega
   have hb3:W.heap.size+3≤(W0.alloc (tokO t)).heap.size:=by rw [World.size_alloc,hz0];omega
   have hqlt:∀ k,k < w.heap.size+5→k < (W0.alloc (tokO t)).heap.size:=fun k hk=>by rw [World.size_alloc,hz0];omega
   have hne:∀ k,(k < W.heap.size+3∨A.heap.size≤k)→some k≠v.ownBlock:=fun k hk e=>by have:=World.ownsRow.lt ho _ e.symm;omega
   have carry1:∀ {k:Nat} {o:Obj},W0.heap[k]?=some o→(W0.alloc (tokO t)).heap[k]?=some o:=fun {k o} hk=>(Below.heap_alloc _ _ _ (blk_lt hk)).trans hk
   have q0:W0.cell? ⟨w.heap.size+1+1+1,0,none⟩=some v:=blk_cell hq0 0
   have q1:W0.frozen? ⟨w.heap.size+1+1+1,0,none⟩=false:=blk_frozen hq0 0
   have H1:=Lib.hid HO
   have H2:=Lib.hid HC
   have HL:=Lib.hid hqlt
   have HNE:=Lib.hid hne
   have K0:=Lib.hid (carry1 h00)
   have K1:=Lib.hid (carry1 h10)
   have K2:=Lib.hid (carry1 h20)
   have KQ:=Lib.hid (carry1 hq0)
   clear HO HC HN hqlt hne carry1 h00 h10 h20 h0 h1 h2 hq hq0
   gi_wp2_with (gi_at_builtin;refine wpListIn_append_own _ rfl _ _ 35 rfl (W.heap.size+3) 47 i0 (.agg #[.int .i64 0,.string ⟨#[]⟩,.int .i64 0]) 3 32 Tryz.underlying35 hi iz0 iz1 iz2 hzc (Nat.zero_lt_succ 2) v pre.length (flat pre) rfl H1.out ⟨A.heap.size+2,0,none⟩ 1 1 (tokC t) rfl rfl H2.out hone hb1 hb2 hb3 ?_;intro v' w1 hown' hgrow _;obtain ⟨Av,cv,rfl⟩:=own_slice hown';have hq1:=(hgrow.block (w.heap.size+3) (HL.out _ (by omega)) (HNE.out _ (.inl (by omega)))).trans KQ.out;have c1:w1.cell? ⟨w.heap.size+1+1+1,0,none⟩=some v:=blk_cell hq1 0;have c2:w1.frozen? ⟨w.heap.size+1+1+1,0,none⟩=false:=blk_frozen hq1 0;have HW:=Lib.hid hown';have KQ1:=Lib.hid hq1;clear hown' hq1)
   have far:∀ {k:Nat} {o:Obj} {x:Value},(W0.alloc (tokO t)).heap[k]?=some o→k < w.heap.size+3→(w1.setCell ⟨w.heap.size+1+1+1,0,none⟩ x).heap[k]?=some o:=fun {k o x} hk hlt3 =>
    (Below.heap_setCell _ _ _ _ (by simp;omega)).trans ((hgrow.block _ (HL.out _ (by omega)) (HNE.out _ (.inl (by omega)))).trans hk)
   refine ⟨?_,⟨.slice Av (pre.length+1) cv,?_,?_,?_,far K0.out (by omega),far K1.out (by omega),far K2.out (by omega),?_⟩,?_,?_⟩
   ·exact ((KeepsOthers.alloc W0 (tokO t)).trans (KeepsOthers.of_grownBy hgrow (fun j o hj ho=>by
     obtain ⟨cells,hc⟩:=own_typed H1.out j hj
     rw [hc] at ho;cases ho;rfl))).trans (KeepsOthers.setCell _ _ _)
   ·exact OwnToks.kept (ts:=pre++[t]) (k:=w.heap.size+1+1+1) (by unfold OwnToks;rw [List.length_append,flat_snoc];exact HW.out) (by omega) (Lib.grownBy_setCell _ _ _ _)
   ·intro x hx
    rcases List.mem_append.1 hx with hx | hx
    ·exact Hn.out x hx
    ·rw [List.mem_singleton.1 hx];exact ht
   ·exact blk_set KQ1.out 0 _
   ·exact ((hbelow0.alloc (by omega) (tokO t)).grown hgrow (by simp;omega) (fun k e=>by have:=(World.ownsRow.lt H1.out k e).1;omega)).setCell (p:=⟨w.heap.size+1+1+1,0,none⟩) (by simp;omega) _
   ·exact (Below.heap_setCell _ _ _ _ (by simp;omega)).trans ((hgrow.block _ (by rw [World.size_alloc,hz0];omega) (HNE.out _ (.inl (by omega)))).trans (Below.heap_alloc _ _ _ (by omega)))
   ·exact (Below.heap_setCell _ _ _ _ (by simp;omega)).trans ((hgrow.block _ (by rw [World.size_alloc,hz0];omega) (HNE.out _ (.inr (Nat.le_refl _)))).trans (Below.heap_alloc _ _ _ (by omega)))
  ·have a0:=blk_cell h00 0
   have a1:=blk_cell h10 0
   have a2:W0.cell? ⟨w.heap.size+1+1,0,none⟩=some (.int .i64 0):=blk_cell h20 0
   have b0:=blk_frozen h00 0
   have b1:=blk_frozen h10 0
   have b2:W0.frozen? ⟨w.heap.size+1+1,0,none⟩=false:=blk_frozen h20 0
   have K0:=Lib.hid h00
   have K1:=Lib.hid h10
   have K2:=Lib.hid h20
   clear h00 h10 h20 h0 h1 h2 hq hq0
   gi_wp2
   gi_region
   all_goals gi_wp2
   all_goals
    refine ⟨?_,pre,t,rfl,Hn.out,ht,?_,?_,?_,?_⟩
    ·exact ⟨by simp,fun k o hk ho=>(((KeepsOthers.setCell W0 _ _).trans (KeepsOthers.setCell _ _ _)).trans (KeepsOthers.setCell _ _ _)).same k o hk ho⟩
    ·exact (Below.heap_setCell _ _ _ _ (by simp <;> omega)).trans ((Below.heap_setCell _ _ _ _ (by simp <;> omega)).trans (blk_set K0.out 0 _))
    ·exact (Below.heap_setCell _ _ _ _ (by simp <;> omega)).trans (blk_set ((Below.heap_setCell _ _ _ _ (by simp <;> omega)).trans K1.out) 0 _)
    ·exact blk_set ((Below.heap_setCell _ _ _ _ (by simp <;> omega)).trans ((Below.heap_setCell _ _ _ _ (by simp <;> omega)).trans K2.out)) 0 _
    ·exact ((((hbelow0.setCell (p:=⟨w.heap.size,0,none⟩) (Nat.le_refl _) _).setCell (p:=⟨w.heap.size+1,0,none⟩) (by simp) _).setCell (p:=⟨w.heap.size+1+1,0,none⟩) (by simp;omega) _)).drew
 case done =>
  rintro X ⟨v,ho,hn,hq,h0,h1,h2,hb⟩ hdef
  obtain ⟨Av,cv,rfl⟩:=own_slice ho
  have q0:X.cell? ⟨w.heap.size+1+1+1,0,none⟩=some (.slice Av (allToks s).length cv):=blk_cell hq 0
  have a0:=blk_cell h0 0
  have a1:=blk_cell h1 0
  have a2:X.cell? ⟨w.heap.size+1+1,0,none⟩=some (.int .i64 0):=blk_cell h2 0
  have b0:=blk_frozen h0 0
  have b1:=blk_frozen h1 0
  have b2:X.frozen? ⟨w.heap.size+1+1,0,none⟩=false:=blk_frozen h2 0
  have K0:=Lib.hid h0
  have K1:=Lib.hid h1
  have K2:=Lib.hid h2
  have Hn:=Lib.hid hn
  clear h0 h1 h2 hq hn
  gi_wp2
  have hd:(((X.setCell ⟨w.heap.size,0,none⟩ (.slice Av (allToks s).length cv)).setCell ⟨w.heap.size+1,0,none⟩ (.int .i64 0)).setCell ⟨w.heap.size+1+1,0,none⟩ (.int .i64 0)).heap[W.heap.size]?=some (.deferred (some [])) :=
   (Below.heap_setCell _ _ _ _ (by simp;omega)).trans ((Below.heap_setCell _ _ _ _ (by simp;omega)).trans ((Below.heap_setCell _ _ _ _ (by simp;omega)).trans hdef))
  have hbb:=((hb.setCell (p:=⟨w.heap.size,0,none⟩) (Nat.le_refl _) (.slice Av (allToks s).length cv)).setCell (p:=⟨w.heap.size+1,0,none⟩) (by simp) (.int .i64 0)).setCell (p:=⟨w.heap.size+1+1,0,none⟩) (by simp;omega) (.int .i64 0)
  have hoo:OwnToks (((X.setCell ⟨w.heap.size,0,none⟩ (.slice Av (allToks s).length cv)).setCell ⟨w.heap.size+1,0,none⟩ (.int .i64 0)).setCell ⟨w.heap.size+1+1,0,none⟩ (.int .i64 0)) (W.heap.size+3) (.slice Av (allToks s).length cv) (allToks s) :=
   OwnToks.kept (k:=w.heap.size+1+1) (OwnToks.kept (k:=w.heap.size+1) (OwnToks.kept (k:=w.heap.size) ho (by omega) (Lib.grownBy_setCell _ _ _ _)) (by omega) (Lib.grownBy_setCell _ _ _ _)) (by omega) (Lib.grownBy_setCell _ _ _ _)
  have g0:=(Below.heap_setCell ((X.setCell ⟨w.heap.size,0,none⟩ (.slice Av (allToks s).length cv)).setCell ⟨w.heap.size+1,0,none⟩ (.int .i64 0)) ⟨w.heap.size+1+1,0,none⟩ (.int .i64 0) w.heap.size (by simp <;> omega)).trans ((Below.heap_setCell _ _ _ _ (by simp <;> omega)).trans (blk_set K0.out 0 _))
  have g1:=(Below.heap_setCell ((X.setCell ⟨w.heap.size,0,none⟩ (.slice Av (allToks s).length cv)).setCell ⟨w.heap.size+1,0,none⟩ (.int .i64 0)) ⟨w.heap.size+1+1,0,none⟩ (.int .i64 0) (w.heap.size+1) (by simp <;> omega)).trans (blk_set ((Below.heap_setCell _ _ _ _ (by simp <;> omega)).trans K1.out) 0 _)
  have g2:(((X.setCell ⟨w.heap.size,0,none⟩ (.slice Av (allToks s).length cv)).setCell ⟨w.heap.size+1,0,none⟩ (.int .i64 0)).setCell ⟨w.heap.size+1+1,0,none⟩ (.int .i64 0)).heap[w.heap.size+2]?=_:=blk_set ((Below.heap_setCell _ _ _ _ (by simp <;> omega)).trans ((Below.heap_setCell _ _ _ _ (by simp <;> omega)).trans K2.out)) 0 _
  generalize (((X.setCell ⟨w.heap.size,0,none⟩ (.slice Av (allToks s).length cv)).setCell ⟨w.heap.size+1,0,none⟩ (.int .i64 0)).setCell ⟨w.heap.size+1+1,0,none⟩ (.int .i64 0))=X' at *
  refine ⟨by simp,.inl ⟨_,_,rfl,run_takeDeferred hd,?_⟩⟩
  have j0:=blk_cell ((World.putObj_heap_other (w:=X') (o:=.deferred none) (r:=W.heap.size) (by omega)).trans g0) 0
  have j1:=blk_cell ((World.putObj_heap_other (w:=X') (o:=.deferred none) (r:=W.heap.size) (by omega)).trans g1) 0
  have j2:=blk_cell ((World.putObj_heap_other (w:=X') (o:=.deferred none) (r:=W.heap.size) (by omega)).trans g2) 0
  refine ⟨_,results15 rfl rfl rfl j0 j1 j2,?_⟩
  unfold TokPost
  rw [badOf_none Hn.out]
  refine ⟨_,rfl,?_,?_⟩
  ·exact own_weaken (OwnToks.kept (k:=W.heap.size) hoo (by omega) (grown_putObj _ _ _)) (by omega)
  ·exact hbb.grown (grown_putObj _ _ _) (by have:=hbb.size;exact this) (fun k e=>by injection e with e;omega)
 case stop =>
  rintro pre rest X hpr ⟨init,t,hp,hn,ht,h0,h1,h2,hb⟩ hdef
  have Hpr:=Lib.hid hpr
  have Hp:=Lib.hid hp
  have Hn:=Lib.hid hn
  have Ht:=Lib.hid ht
  have K0:=Lib.hid h0
  have K1:=Lib.hid h1
  have K2:=Lib.hid h2
  clear hpr hp hn ht h0 h1 h2
  gi_wp2
  refine ⟨by simp,.inl ⟨_,_,rfl,run_takeDeferred hdef,?_⟩⟩
  have j0:=blk_cell ((World.putObj_heap_other (w:=X) (o:=.deferred none) (r:=W.heap.size) (by omega)).trans K0.out) 0
  have j1:=blk_cell ((World.putObj_heap_other (w:=X) (o:=.deferred none) (r:=W.heap.size) (by omega)).trans K1.out) 0
  have j2:=blk_cell ((World.putObj_heap_other (w:=X) (o:=.deferred none) (r:=W.heap.size) (by omega)).trans K2.out) 0
  refine ⟨_,results15 rfl rfl rfl j0 j1 j2,?_⟩
  unfold TokPost
  rw [Hpr.out,Hp.out,List.append_assoc,List.singleton_append,badOf_some Hn.out Ht.out]
  exact ⟨rfl,hb.grown (grown_putObj _ _ _) hb.size (fun k e=>by injection e with e;omega)⟩
theorem Tokens_calls (s:ByteArray) (hs:s.size≤2000) (w:World):Calls Tryz.prog 15 #[.string s] w (TokPost s w):=callsIn_wide.1 (Tokens_in 9 s hs w)
theorem newQueue_calls (s:ByteArray) (hs:s.size≤2000) (w:World):Calls Tryz.prog 133 #[.string s] w fun e w' =>
  ∃ v,e=.returned (.agg #[v,.int .i64 0,.int .i64 s.size])∧OwnToks w' w.heap.size v (allToks s)∧Below w.heap.size w w':=callsIn_wide.1 (newQueue_in 9 s hs w)
end Go.Proofs.YtjaobihcdkjmbaaGreatDoor
end
