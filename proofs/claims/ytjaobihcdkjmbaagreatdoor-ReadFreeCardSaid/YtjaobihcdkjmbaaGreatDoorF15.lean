/- The law ReadFree answers true for every argument; a part of its proof. -/
import Derived.Deep.RegionHeld3
import Derived.Test.YtjaobihcdkjmbaaGreatDoorF13
import Derived.Test.YtjaobihcdkjmbaaGreatDoorF14
set_option linter.unusedVariables false
set_option linter.unusedSimpArgs false
section
namespace Go.Proofs.YtjaobihcdkjmbaaGreatDoor
open Go.RowKit Go.Proofs.YtjaobihcdkjmbaaGreatDoorW.PrintWords Go.Proofs.YtjaobihcdkjmbaaGreatDoor.PReadTokens
theorem results_cc2 {P:Program} {fn:Func} {p q:Tmp} {ty:TypeId} (h:fn.results=#[.cell p ty,.cell q ty]) (tmps:Array Value) (w:World) (g g2:Nat) (t:TypeId) (cs cs2:Array Value) (fr fr2:Nat × Nat) (d:TypeDesc)
  (hp:tmps.getD p undef=.pointer (some ⟨g,0,none⟩)) (hq:tmps.getD q undef=.pointer (some ⟨g2,0,none⟩)) (hg:w.heap[g]?=some (.cells cs t fr)) (hg2:w.heap[g2]?=some (.cells cs2 t fr2))
  (hu:P.underlying ty=some d) (hd:(match d with | .struct _ | .array _ _=>true | _=>false)=true) (hi:(P.info? ty).map (·.size)=some cs.size) (hi2:(P.info? ty).map (·.size)=some cs2.size) :
  (results fn tmps).run P w=.ok (.tuple #[.agg cs,.agg cs2]) w:=by
 have hp':tmps[p]?.getD undef=.pointer (some ⟨g,0,none⟩):=by simpa using hp
 have hq':tmps[q]?.getD undef=.pointer (some ⟨g2,0,none⟩):=by simpa using hq
 simp [results,h,hp',hq',asAddr,run_loadVar_row w g t ty cs fr d hg hu hd hi,run_loadVar_row w g2 t ty cs2 fr2 d hg2 hu hd hi2]
end Go.Proofs.YtjaobihcdkjmbaaGreatDoor
end
section
namespace Go.Proofs.YtjaobihcdkjmbaaGreatDoor
open Go.RowKit Go.Proofs.YtjaobihcdkjmbaaGreatDoorW.PrintWords Go.Proofs.YtjaobihcdkjmbaaGreatDoor.PReadTokens
attribute [local go_sem] Oper.semAt_some
theorem chunks_in (n:Nat) (s:ByteArray) (w:World):CallsIn Fence.wide n Tryz.prog 228 #[.string s] w fun e w'=>e=.returned (.func (.func 257) #[] #[.pointer (some ⟨w.heap.size,0,none⟩)])∧w'=w.alloc (.cells #[.string s] 9):=by
 refine callsIn_of_wp Tryz.func228 rfl trivial ?_ rfl
 simp only [Tryz.ntmps228,List.size_toArray,List.length_cons,List.length_nil,Nat.reduceAdd,Nat.reduceSub,Array.replicate_succ,Array.replicate_zero,List.push_toArray,List.append_toArray,List.nil_append,List.cons_append]
 gi_wp2
 go_ret
 exact ⟨rfl,rfl⟩
theorem info270:(Tryz.prog.info? 270).map (fun i=>(i.zero,i.size,i.bytes))=some (some (.int .u32 0),1,4):=by kernel_rfl
theorem own_one {w:World} {base:Nat} {v x:Value} {e:TypeId} (h:w.ownsRow base e 1 v 1 [x]):∃ g c,v=.slice (some ⟨g,0,none⟩) 1 c∧base≤g∧1≤c∧w.cell? ⟨g,0,none⟩=some x:=by
 rcases h.2 with ⟨_,h0⟩ | ⟨g,cap,cur,rfl,hb,hg,hc,_⟩
 ·omega
 ·have:=World.ownsRow.cells h (g:=g) rfl 0 x rfl
  rw [add_plain] at this
  exact ⟨g,cap,rfl,hb,hc,this⟩
structure Short (s:ByteArray) (n:Int):Prop where
 pos:0 < s.size
 len:s.size≤9
 num:Lib.atoiAll s.data.toList=.ok n
 lo:1≤n
 hi:n≤9
 sign:strings_HasPrefix.f s ⟨#[45]⟩=some false
set_option maxRecDepth 100000 in
set_option maxHeartbeats 4000000 in
theorem read_in (n:Nat) (s:ByteArray) (m:Int) (hs:Short s m) (w:World):CallsIn Fence.wide n Tryz.prog 189 #[.string s] w fun e w'=>∃ v,e=.returned v∧One w' m v∧Below w.heap.size w w':=by
 have hD:Fence.wide.depth.isSome=false:=rfl
 have hF227:Fence.wide.fn 227:=trivial
 have hF228:Fence.wide.fn 228:=trivial
 have hF229:Fence.wide.fn 229:=trivial
 have hpre:=fun w=>(callsIn_wide (n:=n - 1)).2 ((strings_HasPrefix.calls s ⟨#[45]⟩ false w hs.sign).mono fun _ _ ⟨a,b⟩=>(⟨a,b.out⟩:_∧∃ n,_))
 have HS:=Lib.hid hs
 clear hs
 refine callsIn_of_wp_marks Tryz.func189 rfl trivial ?_ rfl
 simp only [Tryz.ntmps189,List.size_toArray,List.length_cons,List.length_nil,Nat.reduceAdd,Nat.reduceSub,Array.replicate_succ,Array.replicate_zero,List.push_toArray,List.append_toArray,List.nil_append,List.cons_append]
 gi_wp2_with (first
  | (gi_at_call 227;refine (hpre _).mono ?_;rintro e w' ⟨rfl,k,rfl⟩)
  | (gi_at_call 228;refine (chunks_in (n - 1) s _).mono ?_;rintro e w' ⟨rfl,rfl⟩))
 obtain ⟨W,hW⟩:∃ W,W=((((w.alloc (.cells #[.int .i64 0,.slice none 0 0] 234)).drewN k).alloc (.cells #[.slice none 0 0] 232)).alloc (.cells #[.string s] 9)):=⟨_,rfl⟩
 have hz:W.heap.size=w.heap.size+3:=by rw [hW];simp
 have hbW:Below w.heap.size w W:=by rw [hW];exact ((pw_below_drewN ((Below.refl _ w).alloc (Nat.le_refl _) _) k).alloc (by simp) _).alloc (by simp;omega) _
 have hR:W.heap[w.heap.size]?=some (.cells #[.int .i64 0,.slice none 0 0] 234 (0,0)):=by
  rw [hW];exact (Below.heap_alloc _ _ _ (by simp;omega)).trans ((Below.heap_alloc _ _ _ (by simp)).trans (blk_drewN (blk_new w _) k))
 have hQ:W.heap[w.heap.size+1]?=some (.cells #[.slice none 0 0] 232 (0,0)):=by
  rw [hW];exact (Below.heap_alloc _ _ _ (by simp)).trans (alloc_at _ _ _ (by simp))
 have hB:W.heap[w.heap.size+1+1]?=some (.cells #[.string s] 9 (0,0)):=by
  rw [hW];exact alloc_at _ _ _ (by simp)
 rw [← hW]
 clear hW
 refine wpIn_range_chunk (bb:=w.heap.size+1+1) (s:=s)
  #[.string s,undef,.pointer (some ⟨w.heap.size,0,none⟩),.int .i64 1,.pointer (some ⟨w.heap.size+1,0,none⟩),.string s,undef,undef,.string s,.bool false,undef,undef,.string s,
   .func (.func 257) #[] #[.pointer (some ⟨w.heap.size+1+1,0,none⟩)],.string s,undef,undef,undef,undef,undef,undef,undef,undef,undef,undef,undef,undef,undef]
  rfl HS.out.pos HS.out.len hB
  (fun X=>∃ g c,1≤c∧X.heap[w.heap.size+1]?=some (.cells #[.slice (some g) 1 c] 232 (0,0))∧X.cell? g=some (.int .u32 m)∧W.heap.size+2≤g.block∧X.heap[w.heap.size]?=some (.cells #[.int .i64 0,.slice none 0 0] 234 (0,0))∧Below w.heap.size w X)
  ?hI ?assign ?body ?done
 case hI =>
  rintro A B k ⟨g,c,hc,h1,h2,h3,h4,h5⟩ hk hg
  have hlt:=World.block_lt_of_cell? _ _ h2
  have hcell:B.cell? g=some (.int .u32 m):=by
   have:=hg.block g.block hlt (by intro e;injection e with e;omega)
   simpa [World.cell?,this] using h2
  exact ⟨g,c,hc,(hg.block _ (blk_lt h1) (by intro e;injection e with e;omega)).trans h1,hcell,h3,(hg.block _ (blk_lt h4) (by intro e;injection e with e;omega)).trans h4,h5.grown hg h5.size (fun j e=>by injection e with e;omega)⟩
 case assign =>
  intro l A K hK
  gi_wp2
  exact hK
 case body =>
  rintro W0 hgw hz0
  have hq0:W0.heap[w.heap.size+1]?=some (.cells #[.slice none 0 0] 232 (0,0)):=(hgw.block _ (blk_lt hQ) (by simp)).trans hQ
  have hr0:W0.heap[w.heap.size]?=some (.cells #[.int .i64 0,.slice none 0 0] 234 (0,0)):=(hgw.block _ (blk_lt hR) (by simp)).trans hR
  have hb0:W0.heap[w.heap.size+1+1]?=some (.cells #[.string s] 9 (0,0)):=(hgw.block _ (blk_lt hB) (by simp)).trans hB
  have hbw:Below w.heap.size w W0:=hbW.grown hgw hbW.size (fun k e=>by cases e)
  have hF216:(Fence.wide.inRound (W.heap.size+1)).fn 216:=trivial
  have hat:=fun wx=>(callsIn_wide (n:=n - 1 - 1 - 1)).2 (Atoi_is s (by have:=HS.out.len;omega) m HS.out.num wx)
  have hat2:∀ l wx,CallsIn (Fence.wide.inRound l) (n - 1 - 1 - 1) Tryz.prog 216 #[.string s] wx fun e w''=>e=.returned (.tuple #[.int .i64 m,.nilIface])∧Below wx.heap.size wx w'':=fun _=>hat
  have hwm:m % 4294967296=m:=by have:=HS.out.lo;have:=HS.out.hi;omega
  clear hat
  gi_wp2
  refine ⟨trivial,(hat2 _ _).mono ?_⟩
  rintro e w1 ⟨rfl,hb1⟩
  have hq1:=bcell hb1 hq0
  have q0:=blk_cell hq1 0
  have q1:=blk_frozen hq1 0
  have hbx:=hbw.trans (hb1.mono hbw.size)
  have hrx:=bcell hb1 hr0
  have hb9:=bcell hb1 hb0
  have hlt:=blk_lt hb9
  have hs1:=hb1.size
  have HB0:=Lib.hid hb0
  have HB1:=Lib.hid hb1
  clear hq0 hr0 hb0 hat2
  obtain ⟨i0,hi,iz0,iz1,iz2⟩:=info_parts info270
  have HO:(w1.alloc (.cells #[.int .u32 m] 270)).ownsRow (W.heap.size+2) 270 1 (.slice none 0 0) 0 []:=World.ownsRow_nil _ _ _ _
  have HC:∀ j u,([Value.int .u32 m]:List Value)[j]?=some u→(w1.alloc (.cells #[.int .u32 m] 270)).cell? ((⟨w1.heap.size,0,none⟩:Addr).add j)=some u:=by simpa using World.news_of_block (blk_new w1 (.cells #[.int .u32 m] 270))
  have H1:=Lib.hid HO
  have H2:=Lib.hid HC
  clear HO HC
  gi_wp2_with (gi_at_builtin;go_loud (refine wpListIn_append_own _ rfl _ _ 232 rfl (W.heap.size+2) 270 i0 (.int .u32 0) 1 4 Tryz.underlying232 hi iz0 iz1 iz2 rfl (Nat.zero_lt_succ 0) (.slice none 0 0) 0 [] rfl H1.out ⟨w1.heap.size,0,none⟩ 1 1 [.int .u32 m] rfl rfl H2.out (by simp [Value.oneCell']) (by unfold maxLen;omega) (by omega) (by simp;omega) ?_);intro v' w2 hown' hgrow _;obtain ⟨gv,cv,rfl,hge,hcv,hgc⟩:=own_one hown';have hq2:=(hgrow.block (w.heap.size+1) (by simp;omega) (by simp [Value.ownBlock])).trans ((Below.heap_alloc _ _ _ (by omega)).trans hq1);have c1:=blk_cell hq2 0;have c2:=blk_frozen hq2 0;have HQ2:=Lib.hid hq2;clear hown' hq2)
  have hne:gv≠w.heap.size+1:=by omega
  have hgB:∀ j o,w1.heap[j]?=some o→w2.heap[j]?=some o:=fun j o hj=>(hgrow.block j (by have:=blk_lt hj;simp;omega) (by simp [Value.ownBlock])).trans ((Below.heap_alloc _ _ _ (blk_lt hj)).trans hj)
  refine ⟨?_,⟨⟨gv,0,none⟩,cv,hcv,blk_set HQ2.out 0 _,?_,by show _≤gv;omega,?_,?_⟩,?_⟩
  ·exact ((KeepsOthers.mk HB1.out.size (fun k o hk _=>bcell HB1.out hk)).trans (KeepsOthers.mk (by have:=hgrow.size;simp at this;omega) (fun k o hk _=>hgB k o hk))).trans (KeepsOthers.setCell _ _ _)
  ·rw [World.cell?_setCell_far _ _ _ _ (by simp;omega)];exact hgc
  ·exact (Below.heap_setCell _ _ _ _ (by simp)).trans (hgB _ _ hrx)
  ·exact ((hbx.alloc hbx.size (.cells #[.int .u32 m] 270)).grown hgrow (by simp;omega) (fun k e=>by simp [Value.ownBlock] at e)).setCell (p:=⟨w.heap.size+1,0,none⟩) (by simp) _
  ·exact (Below.heap_setCell _ _ _ _ (by simp)).trans ((hgB _ _ hb9).trans HB0.out.symm)
 case done =>
  rintro X ⟨g,c,hc,h1,h2,h3,h4,h5⟩ hdef
  rw [hz] at hdef
  have q0:=blk_cell h1 0
  have hmf:=fun wx (hcell:wx.cell? g=some (.int .u32 m))=>made_first g m [] c wx (by have:=HS.out.lo;omega) (by simp) (by simpa using hc) (by simp) (fun i h=>by
   obtain rfl:i=0:=by simp at h;omega
   rw [Addr.add_zero'];exact hcell)
  have hmi:=(callsIn_wide (n:=n - 1)).2 (hmf X h2)
  simp only [List.length_cons,List.length_nil,Nat.zero_add] at hmi
  gi_wp2_with (gi_at_call 229;refine hmi.mono ?_;rintro e w1 ⟨v,rfl,hv,hb1⟩;obtain ⟨gv,cv,hcv,rfl,hgv⟩:=hv.out;have hr1:=bcell hb1 h4;have d0:=blk_cell hr1 0;have d1:=blk_cell hr1 1;have f0:=blk_frozen hr1 0;have f1:=blk_frozen hr1 1;have HR1:=Lib.hid hr1;clear hr1)
  have hdl:=blk_lt hdef
  have hd1:=bcell hb1 hdef
  have hd:((w1.setCell ⟨w.heap.size,0,none⟩ (.int .i64 1)).setCell ⟨w.heap.size,1,none⟩ (.slice (some gv) 1 cv)).heap[(w.heap.size+3)]?=some (.deferred (some [])):=(Below.heap_setCell _ _ _ _ (by simp <;> omega)).trans ((Below.heap_setCell _ _ _ _ (by simp <;> omega)).trans hd1)
  have hm:=num_ne hgv HR1.out
  have hY:=set2_fin (.int .i64 1) (.slice (some gv) 1 cv) HR1.out
  have hYg:((w1.setCell ⟨w.heap.size,0,none⟩ (.int .i64 1)).setCell ⟨w.heap.size,1,none⟩ (.slice (some gv) 1 cv)).cell? gv=some (.int .u32 m):=by
   rw [World.cell?_setCell_far _ _ _ _ (Ne.symm hm),World.cell?_setCell_far _ _ _ _ (Ne.symm hm)];exact hgv
  have hYb:=((h5.trans (hb1.mono h5.size)).setCell (p:=⟨w.heap.size,0,none⟩) (Nat.le_refl _) (.int .i64 1)).setCell (p:=⟨w.heap.size,1,none⟩) (Nat.le_refl _) (.slice (some gv) 1 cv)
  generalize (w1.setCell ⟨w.heap.size,0,none⟩ (.int .i64 1)).setCell ⟨w.heap.size,1,none⟩ (.slice (some gv) 1 cv)=Y at *
  refine ⟨by simp,.inl ⟨_,_,rfl,run_takeDeferred hd,?_⟩⟩
  have j0:=(World.putObj_heap_other (w:=Y) (o:=.deferred none) (r:=(w.heap.size+3)) (by omega)).trans hY
  have hgb:gv.block≠(w.heap.size+3):=by
   intro e
   have:=hYg
   simp only [World.cell?,e,hd] at this
   cases this
  have j1:(Y.putObj (w.heap.size+3) (.deferred none)).cell? gv=some (.int .u32 m):=by
   have hh:=World.putObj_heap_other (w:=Y) (o:=.deferred none) (r:=(w.heap.size+3)) (k:=gv.block) hgb
   simpa [World.cell?,hh] using hYg
  refine ⟨_,results_c Tryz.results189 _ _ w.heap.size 234 _ (0,0) _ rfl j0 Tryz.underlying234 rfl size234,_,rfl,⟨gv,cv,hcv,rfl,j1⟩,hYb.grown (grown_putObj _ _ _) hYb.size (fun k e=>by injection e with e;omega)⟩
end Go.Proofs.YtjaobihcdkjmbaaGreatDoor
end
section
namespace Go.Proofs.YtjaobihcdkjmbaaGreatDoor
open Go.RowKit Go.Proofs.YtjaobihcdkjmbaaGreatDoorW.PrintWords Go.Proofs.YtjaobihcdkjmbaaGreatDoor.PReadTokens
abbrev U32:Kd Int:=Kd.int .u32
structure LNum (w:World) (s:Int) (l:List Int) (v:Value):Prop where
 out:∃ A c,v=.agg #[.int .i64 s,.slice A l.length c]∧l.length≤c∧U32.C w A l.length l
theorem LNum.below {w w1:World} {s:Int} {l:List Int} {v:Value} (h:LNum w s l v) (hb:Below w.heap.size w w1):LNum w1 s l v:=by
 obtain ⟨A,c,h1,h2,h3⟩:=h.out
 exact ⟨A,c,h1,h2,Kd.C_below h3 hb⟩
theorem u32_at {w:World} {A:Option Addr} {l:List Int} (h:U32.C w A l.length l) (i:Nat) (hi:i < l.length):∃ ad,A=some ad∧w.cell? (ad.add i)=some (.int .u32 l[i]):=by
 obtain ⟨ad,h1,h2⟩:=Kd.at_int h i (by omega) (by omega)
 refine ⟨ad,h1,?_⟩
 have e:rd l (i:Int)=l[i]:=by unfold rd;simp [hi]
 rw [e] at h2
 exact h2
theorem few_copy (l:List Int) (A:Option Addr) (c:Nat) (X:World) (B:Nat) (hB:X.heap[B]?=some (.cells #[.int .u32 0,.int .u32 0] 309 (0,0))) (hC:U32.C X A l.length l) :
  ∃ Y n,(Builtin.copy_ #[232,232] 3 #[.slice (some ⟨B,0,none⟩) 2 2,.slice A l.length c]).run Tryz.prog X=.ok (.int .i64 n) Y∧Y.heap[B]?=some (.cells #[.int .u32 (l.getD 0 0),.int .u32 (l.getD 1 0)] 309 (0,0))∧X.grownBy Y (some B):=by
 have hi:(Tryz.prog.info? 270).map (·.size)=some 1:=by kernel_rfl
 have b0:=blk_cell hB 0
 have b1:=blk_cell hB 1
 have f0:=blk_frozen hB 0
 have f1:=blk_frozen hB 1
 match l,hC with
 | [],hC =>
  exact ⟨X,0,run_copy_none X 232 232 3 270 _ A 2 2 0 c Tryz.underlying232 hi rfl,hB,World.grownBy.refl _ _⟩
 | [a],hC =>
  obtain ⟨ad,rfl,h0⟩:=u32_at hC 0 (by simp)
  refine ⟨X.setCells B 0 [.int .u32 a],1,run_copy_cells X 232 232 3 270 B 0 2 2 ad 1 c [.int .u32 a] Tryz.underlying232 hi rfl (fun j v hv=>?_) (fun j hj=>?_) (fun j hj=>?_) (by simp [Value.oneCell']),blk_set hB 0 _,Lib.grownBy_setCell _ _ _ _⟩
  ·match j,hv with
   | 0,hv=>simp at hv;rw [← hv];exact h0
  ·match j,hj with
   | 0,_=>rw [b0];rfl
  ·match j,hj with
   | 0,_=>exact f0
 | a :: b :: r,hC =>
  obtain ⟨ad,rfl,h0⟩:=u32_at hC 0 (by simp)
  obtain ⟨ad2,h2,h1⟩:=u32_at hC 1 (by simp)
  obtain rfl:ad=ad2:=by injection h2
  refine ⟨X.setCells B 0 [.int .u32 a,.int .u32 b],2,run_copy_cells X 232 232 3 270 B 0 2 2 ad _ c [.int .u32 a,.int .u32 b] Tryz.underlying232 hi (by simp [Nat.min_def]) (fun j v hv=>?_) (fun j hj=>?_) (fun j hj=>?_) (by simp [Value.oneCell']),blk_set (blk_set hB 0 _) 1 _,Lib.grownBy_trans (Lib.grownBy_setCell _ _ _ _) (Lib.grownBy_setCell _ _ _ _)⟩
  ·match j,hv with
   | 0,hv=>simp at hv;rw [← hv];exact h0
   | 1,hv=>simp at hv;rw [← hv];exact h1
  ·match j,hj with
   | 0,_=>rw [b0];rfl
   | 1,_=>rw [b1];rfl
  ·match j,hj with
   | 0,_=>exact f0
   | 1,_=>exact f1
set_option maxRecDepth 100000 in
set_option maxHeartbeats 2000000 in
theorem few_calls (s:Int) (l:List Int) (A:Option Addr) (c:Nat) (w:World) (hC:U32.C w A l.length l) (hl:l.length≤1000000) :
  Calls Tryz.prog 262 #[.agg #[.int .i64 s,.slice A l.length c]] w fun e w'=>e=.returned (.tuple #[.agg #[.int .u32 (l.getD 0 0),.int .u32 (l.getD 1 0)],.bool (decide (l.length≤2))])∧Below w.heap.size w w':=by
 go_enter Tryz.func262,Tryz.ntmps262
 go_wp2_with fail
 obtain ⟨X,hX⟩:∃ X,X=((w.alloc (.cells #[.int .i64 s,.slice A l.length c] 234)).alloc (.cells #[.int .u32 0,.int .u32 0] 309)).alloc (.cells #[.int .u32 0,.int .u32 0] 309):=⟨_,rfl⟩
 have h0:X.heap[w.heap.size]?=some (.cells #[.int .i64 s,.slice A l.length c] 234 (0,0)):=by rw [hX];exact (Below.heap_alloc _ _ _ (by simp;omega)).trans ((Below.heap_alloc _ _ _ (by simp)).trans (blk_new w _))
 have h1:X.heap[w.heap.size+1]?=some (.cells #[.int .u32 0,.int .u32 0] 309 (0,0)):=by rw [hX];exact (Below.heap_alloc _ _ _ (by simp)).trans (alloc_at _ _ _ (by simp))
 have h2:X.heap[w.heap.size+1+1]?=some (.cells #[.int .u32 0,.int .u32 0] 309 (0,0)):=by rw [hX];exact alloc_at _ _ _ (by simp)
 have hb:Below w.heap.size w X:=by rw [hX];exact (((Below.refl _ w).alloc (Nat.le_refl _) _).alloc (by simp) _).alloc (by simp;omega) _
 rw [← hX]
 clear hX
 obtain ⟨Y,n,hcp,hy,hg⟩:=few_copy l A c X.drew _ h2 (Kd.C_below hC hb.drew)
 have c0:=blk_cell h0 0
 have c1:=blk_cell h0 1
 have k0:=(hg.block w.heap.size (blk_lt h0) (by intro e;injection e with e;omega)).trans h0
 have k1:=(hg.block (w.heap.size+1) (blk_lt h1) (by intro e;injection e with e;omega)).trans h1
 have hb2:Below w.heap.size w Y:=hb.drew.grown hg hb.size (fun k e=>by injection e with e;omega)
 obtain ⟨x0,hx0⟩:∃ x,x=l.getD 0 0:=⟨_,rfl⟩
 obtain ⟨x1,hx1⟩:∃ x,x=l.getD 1 0:=⟨_,rfl⟩
 rw [← hx0,← hx1] at hy
 replace hx0:=Lib.hid hx0
 replace hx1:=Lib.hid hx1
 have hdec:decide ((l.length:Int)≤2)=decide (l.length≤2):=by simp;omega
 replace hdec:=Lib.hid hdec
 go_still_tail 3,(by kernel_rfl)
 repeat still_step
 try refine wpStill_nil ?_
 change wpList _ _ _ _ _ X.drew
 go_wp2
 have d1:=blk_cell k0 1
 have e0:=blk_cell hy 0
 have e1:=blk_cell hy 1
 have a0:=blk_cell k1 0
 have a1:=blk_cell k1 1
 have f0:=blk_frozen k1 0
 have f1:=blk_frozen k1 1
 clear hcp h0 h1 h2 hb hg c0 c1
 go_region
 all_goals go_wp2
 all_goals
  exact bodyPost_ret (results_ct Tryz.results262 _ _ (w.heap.size+1) 309 _ (0,0) _ rfl (bcell (Below.refl _ _).drew (set2_fin _ _ k1)) Tryz.underlying309 rfl size309) rfl ⟨by rw [show x0=_ from hx0,show x1=_ from hx1,← show decide ((l.length:Int)≤2)=decide (l.length≤2) from hdec];rfl,((hb2.setCell (p:=⟨w.heap.size+1,0,none⟩) (by simp) _).setCell (p:=⟨w.heap.size+1,1,none⟩) (by simp) _).drew⟩
end Go.Proofs.YtjaobihcdkjmbaaGreatDoor
end
section
namespace Go.Proofs.YtjaobihcdkjmbaaGreatDoor
open Go.RowKit Go.Proofs.YtjaobihcdkjmbaaGreatDoorW.PrintWords Go.Proofs.YtjaobihcdkjmbaaGreatDoor.PReadTokens
def val:List Int→Int
 | []=>0
 | x :: r=>x+1000000000 * val r
def Limb (l:List Int):Prop:=∀ x ∈ l,0≤x∧x < 1000000000
theorem val_app (a b:List Int):val (a++b)=val a+1000000000 ^ a.length * val b:=by
 induction a with
 | nil=>simp [val]
 | cons x r ih=>simp only [List.cons_append,val,ih,List.length_cons,Int.pow_succ];rw [Int.mul_add,Int.add_assoc,← Int.mul_assoc,Int.mul_comm (1000000000 ^ r.length)]
theorem pow9_pos (n:Nat):(0:Int) < 1000000000 ^ n:=Int.pow_pos (by omega)
theorem pow9_le {i j:Nat} (h:i≤j):(1000000000:Int) ^ i≤1000000000 ^ j:=by
 obtain ⟨k,rfl⟩:∃ k,j=i+k:=⟨j - i,by omega⟩
 induction k with
 | zero=>simp
 | succ k ih =>
  have:=ih (by omega)
  have h0:(0:Int) < 1000000000 ^ (i+k):=Int.pow_pos (by omega)
  rw [← Nat.add_assoc,Int.pow_succ]
  omega
theorem Limb.tail {x:Int} {r:List Int} (h:Limb (x :: r)):Limb r:=fun y hy=>h y (List.mem_cons_of_mem _ hy)
theorem Limb.head {x:Int} {r:List Int} (h:Limb (x :: r)):0≤x∧x < 1000000000:=h x (List.mem_cons_self ..)
theorem val_nonneg {l:List Int} (h:Limb l):0≤val l:=by
 induction l with
 | nil=>simp [val]
 | cons x r ih=>have:=ih h.tail;have:=h.head;simp only [val];omega
theorem val_lt {l:List Int} (h:Limb l):val l < 1000000000 ^ l.length:=by
 induction l with
 | nil=>simp [val]
 | cons x r ih=>have:=ih h.tail;have:=h.head;simp only [val,List.length_cons,Int.pow_succ];omega
theorem Limb.drop {l:List Int} (h:Limb l) (n:Nat):Limb (l.drop n):=fun x hx=>h x (List.mem_of_mem_drop hx)
theorem Limb.take {l:List Int} (h:Limb l) (n:Nat):Limb (l.take n):=fun x hx=>h x (List.mem_of_mem_take hx)
theorem Limb.app {a b:List Int} (h:Limb a) (h2:Limb b):Limb (a++b):=fun x hx=>by
 rcases List.mem_append.1 hx with h' | h'
 ·exact h x h'
 ·exact h2 x h'
def Last (l:List Int):Prop:=∀ i (h:i < l.length),l.length=i+1→l[i]≠0
theorem val_ge {l:List Int} (h:Limb l) (hl:Last l) (hn:l≠[]):1000000000 ^ (l.length - 1)≤val l:=by
 have hp:0 < l.length:=List.length_pos_iff.2 hn
 have e:l=l.take (l.length - 1)++[l[l.length - 1]]:=by
  have:=List.take_append_drop (l.length - 1) l
  rw [List.drop_eq_getElem_cons (by omega)] at this
  rw [show l.length - 1+1=l.length from by omega,List.drop_length] at this
  exact this.symm
 have h1:=hl (l.length - 1) (by omega) (by omega)
 have h2:=h _ (List.getElem_mem (show l.length - 1 < l.length by omega))
 generalize l[l.length - 1]=x at *
 have h3:=val_nonneg (h.take (l.length - 1))
 have e2:=congrArg val e
 rw [val_app] at e2
 rw [e2,List.length_take,Nat.min_eq_left (by omega)]
 have h4:(1:Int)≤x:=by omega
 have h5:=Int.mul_le_mul_of_nonneg_left h4 (Int.le_of_lt (pow9_pos (l.length - 1)))
 simp only [val] at h5 ⊢
 rw [Int.mul_zero,Int.add_zero]
 omega
theorem val_lt_len {a b:List Int} (ha:Limb a) (hb:Limb b) (hl:Last b) (h:a.length < b.length):val a < val b:=by
 have h1:=val_lt ha
 have h2:=val_ge hb hl (by intro e;subst e;simp at h)
 have h3:(1000000000:Int) ^ a.length≤1000000000 ^ (b.length - 1):=pow9_le (by omega)
 omega
theorem val_lt_top {a b:List Int} (ha:Limb a) (hb:Limb b) (i:Nat) (h1:i < a.length) (h2:i < b.length) (hd:a.drop (i+1)=b.drop (i+1)) (hlt:a[i] < b[i]):val a < val b:=by
 have ea:=congrArg val (List.take_append_drop i a)
 have eb:=congrArg val (List.take_append_drop i b)
 rw [val_app,List.drop_eq_getElem_cons h1,val,List.length_take,Nat.min_eq_left (by omega)] at ea
 rw [val_app,List.drop_eq_getElem_cons h2,val,List.length_take,Nat.min_eq_left (by omega)] at eb
 rw [← ea,← eb,hd]
 have h3:=val_lt (ha.take i)
 have h4:=val_nonneg (hb.take i)
 rw [List.length_take,Nat.min_eq_left (by omega)] at h3
 generalize val (List.drop (i+1) b)=t at *
 have h5:a[i]+1000000000 * t+1≤b[i]+1000000000 * t:=by omega
 have h6:=Int.mul_le_mul_of_nonneg_left h5 (Int.le_of_lt (pow9_pos i))
 rw [Int.mul_add _ _ 1,Int.mul_one] at h6
 omega
theorem val_two {l:List Int} (h:l.length≤2):val l=l.getD 0 0+1000000000 * l.getD 1 0:=by
 match l,h with
 | [],_=>simp [val]
 | [a],_=>simp [val]
 | [a,b],_=>simp [val]
theorem cmp64 (a b:Int) (w:World):Calls Tryz.prog 263 #[.int .i64 a,.int .i64 b] w fun e w'=>e=.returned (.int .i64 (cmpI a b))∧∃ n,w'=w.drewN n :=
 (cmp_Compare_int.calls a b (cmpI a b) w (by
  have h1:cmp_isNaN_int.f a=some false:=by unfold cmp_isNaN_int.f;simp
  have h2:cmp_isNaN_int.f b=some false:=by unfold cmp_isNaN_int.f;simp
  unfold cmp_Compare_int.f cmpI
  rw [h1,h2]
  by_cases hlt:a < b
  ·simp [hlt]
  ·by_cases hgt:a > b
   ·simp [hlt,hgt]
   ·simp [hlt,hgt])).mono fun _ _ ⟨h1,h2⟩=>⟨h1,h2.out⟩
theorem cmpI_lt {a b:Int} (h:a < b):cmpI a b=-1:=by unfold cmpI;simp [h]
theorem cmpI_gt {a b:Int} (h:b < a):cmpI a b=1:=by unfold cmpI;rw [if_neg (by omega),if_pos h]
theorem cmpI_self (a:Int):cmpI a a=0:=by unfold cmpI;simp
theorem cmpI_zero {a b:Int} (h:cmpI a b=0):a=b:=by
 unfold cmpI at h
 split at h
 ·omega
 ·split at h <;> omega
theorem val_cmp {a b:List Int} (ha:Limb a) (hb:Limb b) (i:Nat) (h1:i < a.length) (h2:i < b.length) (hd:a.drop (i+1)=b.drop (i+1)) (hne:cmpI a[i] b[i]≠0):cmpI (val a) (val b)=cmpI a[i] b[i]:=by
 rcases Int.lt_trichotomy a[i] b[i] with h | h | h
 ·rw [cmpI_lt h,cmpI_lt (val_lt_top ha hb i h1 h2 hd h)]
 ·rw [h,cmpI_self] at hne;exact absurd rfl hne
 ·rw [cmpI_gt h,cmpI_gt (val_lt_top hb ha i h2 h1 hd.symm h)]
theorem val_cmp_len {a b:List Int} (ha:Limb a) (hb:Limb b) (la:Last a) (lb:Last b) (h:a.length≠b.length):cmpI (a.length:Int) (b.length:Int)=cmpI (val a) (val b):=by
 rcases Nat.lt_or_gt_of_ne h with h | h
 ·rw [cmpI_lt (by omega),cmpI_lt (val_lt_len ha hb lb h)]
 ·rw [cmpI_gt (by omega),cmpI_gt (val_lt_len hb ha la h)]
set_option maxRecDepth 100000 in
set_option maxHeartbeats 4000000 in
theorem size_list (s t:Int) (l m:List Int) (A B:Option Addr) (c d:Nat) (w:World) (hl:l.length≤1000) (hm:m.length≤1000) (hL:U32.C w A l.length l) (hM:U32.C w B m.length m)
  (ll:Limb l) (lm:Limb m) (al:Last l) (am:Last m) :
  Calls Tryz.prog 234 #[.agg #[.int .i64 s,.slice A l.length c],.agg #[.int .i64 t,.slice B m.length d]] w fun e w'=>e=.returned (.int .i64 (cmpI (val l) (val m)))∧Below w.heap.size w w':=by
 have hb0:Below w.heap.size w ((w.alloc (.cells #[.int .i64 s,.slice A l.length c] 234)).alloc (.cells #[.int .i64 t,.slice B m.length d] 234)):=((Below.refl _ w).alloc (Nat.le_refl _) _).alloc (by simp) _
 have h0:((w.alloc (.cells #[.int .i64 s,.slice A l.length c] 234)).alloc (.cells #[.int .i64 t,.slice B m.length d] 234)).heap[w.heap.size]?=some (.cells #[.int .i64 s,.slice A l.length c] 234 (0,0)):=(Below.heap_alloc _ _ _ (by simp)).trans (blk_new w _)
 have h1:((w.alloc (.cells #[.int .i64 s,.slice A l.length c] 234)).alloc (.cells #[.int .i64 t,.slice B m.length d] 234)).heap[w.heap.size+1]?=some (.cells #[.int .i64 t,.slice B m.length d] 234 (0,0)):=alloc_at _ _ _ (by simp)
 obtain ⟨r,hr⟩:∃ r,r=cmpI (val l) (val m):=⟨_,rfl⟩
 rw [← hr]
 replace hr:=Lib.hid hr
 replace ll:=Lib.hid ll
 replace lm:=Lib.hid lm
 replace al:=Lib.hid al
 replace am:=Lib.hid am
 replace hL:=Lib.hid hL
 replace hM:=Lib.hid hM
 have hf:=few_calls s l A c _ (Kd.C_below hL.out hb0) (by omega)
 obtain ⟨x0,hx0⟩:∃ x,x=l.getD 0 0:=⟨_,rfl⟩
 obtain ⟨x1,hx1⟩:∃ x,x=l.getD 1 0:=⟨_,rfl⟩
 obtain ⟨y0,hy0⟩:∃ x,x=m.getD 0 0:=⟨_,rfl⟩
 obtain ⟨y1,hy1⟩:∃ x,x=m.getD 1 0:=⟨_,rfl⟩
 obtain ⟨b1,hb1'⟩:∃ b,b=decide (l.length≤2):=⟨_,rfl⟩
 obtain ⟨b2,hb2'⟩:∃ b,b=decide (m.length≤2):=⟨_,rfl⟩
 rw [← hx0,← hx1,← hb1'] at hf
 have hf2:=fun W h=>few_calls t m B d W h (by omega)
 rw [← hy0,← hy1,← hb2'] at hf2
 replace hb1':=Lib.hid hb1'
 replace hb2':=Lib.hid hb2'
 replace hx0:=Lib.hid hx0
 replace hx1:=Lib.hid hx1
 replace hy0:=Lib.hid hy0
 replace hy1:=Lib.hid hy1
 replace hf2:=Lib.hid hf2
 go_enter Tryz.func234,Tryz.ntmps234
 go_upto_if 17 with (fail)
 refine hf.mono ?_
 rintro e w1 ⟨rfl,hb1⟩
 have hb01:=hb0.trans (hb1.mono (by simp;omega))
 have k0:=bcell hb1 h0
 have k1:=bcell hb1 h1
 clear hf h0 h1 hb0 hb1
 go_upto_if 17 with (fail)
 have hba:=hb01.alloc hb01.size (.cells #[.int .u32 x0,.int .u32 x1] 309)
 have j0:=(Below.heap_alloc w1 (.cells #[.int .u32 x0,.int .u32 x1] 309) _ (blk_lt k0)).trans k0
 have j1:=(Below.heap_alloc w1 (.cells #[.int .u32 x0,.int .u32 x1] 309) _ (blk_lt k1)).trans k1
 have jn:=blk_new w1 (.cells #[.int .u32 x0,.int .u32 x1] 309)
 have hsz:=hb01.size
 clear hb01 k0 k1
 generalize hW:w1.alloc (.cells #[.int .u32 x0,.int .u32 x1] 309)=W at *
 generalize hS:w1.heap.size=S at *
 clear hW hS
 go_cut [] (fun wc=>(Below w.heap.size w wc)∧Hid (wc.heap[w.heap.size]?=some (.cells #[.int .i64 s,.slice A l.length c] 234 (0,0)))∧Hid (wc.heap[w.heap.size+1]?=some (.cells #[.int .i64 t,.slice B m.length d] 234 (0,0))))
 case first =>
  cases b1 with
  | false =>
   go_wp2
   go_meet
   exact ⟨hba,Lib.hid j0,Lib.hid j1⟩
  | true =>
   have e0:=blk_cell j1 0
   have e1:=blk_cell j1 1
   have hf3:=hf2.out W (Kd.C_below hM.out hba)
   go_wp2_with fail
   refine hf3.mono ?_
   rintro e w2 ⟨rfl,hb2⟩
   have g0:=bcell hb2 j0
   have g1:=bcell hb2 j1
   have gn:=bcell hb2 jn
   have hbb:=hba.trans (hb2.mono (by exact hba.size))
   have hbc:=hbb.alloc hbb.size (.cells #[.int .u32 y0,.int .u32 y1] 309)
   have f0:=(Below.heap_alloc w2 (.cells #[.int .u32 y0,.int .u32 y1] 309) _ (blk_lt g0)).trans g0
   have f1:=(Below.heap_alloc w2 (.cells #[.int .u32 y0,.int .u32 y1] 309) _ (blk_lt g1)).trans g1
   clear hf3 hb2 g0 j0 j1 jn hba e0 e1
   cases b2 with
   | false =>
    go_wp2
    go_meet
    exact ⟨hbc,Lib.hid f0,Lib.hid f1⟩
   | true =>
    have heq:=eq309 x0 x1 y0 y1
    have gn2:=(Below.heap_alloc w2 (.cells #[.int .u32 y0,.int .u32 y1] 309) _ (blk_lt gn)).trans gn
    have gm:=blk_new w2 (.cells #[.int .u32 y0,.int .u32 y1] 309)
    have a0:=blk_cell gn 0
    have a1:=blk_cell gn 1
    have b0:=blk_cell gm 0
    have b1:=blk_cell gm 1
    have ln:=blk_lt gn
    clear gn gn2 gm
    by_cases hxy:x0=y0∧x1=y1
    ·have hE:(x0 == y0 && x1 == y1)=true:=by rw [hxy.1,hxy.2];simp
     have hR:Hid (r=0):=Lib.hid (by
      have p1:=hb1'.out
      have p2:=hb2'.out
      rw [hr.out,val_two (of_decide_eq_true p1.symm),val_two (of_decide_eq_true p2.symm),← hx0.out,← hx1.out,← hy0.out,← hy1.out,hxy.1,hxy.2,cmpI_self])
     rw [hE] at heq
     clear hxy hE
     go_wp2
     go_ret
     exact ⟨by rw [hR.out];rfl,hbc⟩
    ·have hE:(x0 == y0 && x1 == y1)=false:=by
      rw [← Bool.not_eq_true];intro h;simp at h;exact hxy h
     rw [hE] at heq
     clear hxy hE
     go_wp2
     go_meet
     exact ⟨hbc,Lib.hid f0,Lib.hid f1⟩
 case rest =>
  obtain ⟨hBB,k0,k1⟩:=hcut
  have c0:=blk_cell k0.out 1
  have c1:=blk_cell k1.out 1
  clear hf2 jn j0 j1 hba
  by_cases hne:l.length=m.length
  ·have hlm:((l.length:Int) != (m.length:Int))=false:=by simp [hne]
   replace hne:=Lib.hid hne
   go_wp2_with fail
   clear c0 c1
   go_loopg [46] l.length (fun gk i wr=>gk≤l.length∧i=.int .i64 ((l.length:Int) - (gk:Int))∧Below w.heap.size w wr∧Hid (wr.heap[w.heap.size]?=some (.cells #[.int .i64 s,.slice A l.length c] 234 (0,0)))∧Hid (wr.heap[w.heap.size+1]?=some (.cells #[.int .i64 t,.slice B m.length d] 234 (0,0)))∧Hid (l.drop gk=m.drop gk))
   case atStart=>exact ⟨Nat.le_refl _,by simp,hBB,k0,k1,Lib.hid (by rw [List.drop_length,hne.out,List.drop_length])⟩
   case round =>
    obtain ⟨hkl,rfl,hBr,q0,q1,HD⟩:=hrel
    have c0:=blk_cell q0.out 1
    have c1:=blk_cell q1.out 1
    cases gk with
    | zero =>
     have hR:Hid (r=0):=Lib.hid (by
      have:=HD.out
      rw [List.drop_zero,List.drop_zero] at this
      rw [hr.out,this,cmpI_self])
     go_wp2
     go_ret
     exact ⟨by rw [hR.out];rfl,hBr⟩
    | succ k =>
     have hk1:k < l.length:=by omega
     have hk2:k < m.length:=by have:=hne.out;omega
     obtain ⟨ad,rfl,hc1⟩:=u32_at (Kd.C_below hL.out hBr) k hk1
     obtain ⟨bd,rfl,hc2⟩:=u32_at (Kd.C_below hM.out hBr) k hk2
     obtain ⟨q,hq⟩:∃ q,q=cmpI l[k] m[k]:=⟨_,rfl⟩
     have hcm:=cmp32 l[k] m[k]
     rw [← hq] at hcm
     have hix:(l.length:Int) - 1 - ((l.length:Int) - ((k:Int)+1))=(k:Int):=by omega
     replace hix:=Lib.hid hix
     by_cases hq0:q=0
     ·subst hq0
      have HD2:Hid (l.drop k=m.drop k):=Lib.hid (by rw [List.drop_eq_getElem_cons hk1,List.drop_eq_getElem_cons hk2,HD.out,cmpI_zero hq.symm])
      clear hq
      generalize l[k]=xk at *
      generalize m[k]=yk at *
      go_wp2
      simp only [hix.out]
      go_quiet ((go_at_call 264;exact Calls.quiet_of (hcm _)))
      go_wp2
      go_roundg k
      case measure=>omega
      case rel=>exact ⟨by omega,by go_num,pw_below_drewN hBr _,q0,q1,HD2⟩
     ·have hqb:(q != 0)=true:=by simp [hq0]
      have hR:Hid (r=q):=Lib.hid (by rw [hr.out,hq];exact val_cmp ll.out lm.out k hk1 hk2 HD.out (by rw [← hq];exact hq0))
      clear hq0 hq
      generalize l[k]=xk at *
      generalize m[k]=yk at *
      go_wp2
      simp only [hix.out]
      go_quiet ((go_at_call 264;exact Calls.quiet_of (hcm _)))
      go_wp2
      go_ret
      exact ⟨by rw [hR.out];rfl,pw_below_drewN hBr _⟩
  ·have hlm:((l.length:Int) != (m.length:Int))=true:=by simp;omega
   have hcm:=cmp64 l.length m.length
   rw [val_cmp_len ll.out lm.out al.out am.out hne,← hr.out] at hcm
   replace hne:=Lib.hid hne
   go_wp2_with fail
   refine (hcm _).mono ?_
   rintro e w3 ⟨rfl,n,rfl⟩
   go_wp2
   go_ret
   exact ⟨rfl,pw_below_drewN hBB _⟩
end Go.Proofs.YtjaobihcdkjmbaaGreatDoor
end
section
namespace Go.Proofs.YtjaobihcdkjmbaaGreatDoor
open Go.RowKit Go.Proofs.YtjaobihcdkjmbaaGreatDoorW.PrintWords Go.Proofs.YtjaobihcdkjmbaaGreatDoor.PReadTokens
theorem u64_at {x:Int} (h0:0≤x) (h1:x < 18446744073709551616):IntKind.u64.wrap x=x:=by rw [IntKind.wrap_u64];omega
theorem w64_at {x:Int} (h0:-9223372036854775808≤x) (h1:x≤9223372036854775807):wrap64 x=x:=by unfold wrap64;omega
theorem rd_at (l:List Int) (i:Nat) (h:i < l.length):rd l (i:Int)=l[i]:=by unfold rd;simp [h]
theorem val_set {l:List Int} (n:Nat) (h:n < l.length) (q:Int):val ((l.set n q).take (n+1))=val (l.take n)+1000000000 ^ n * q:=by
 rw [List.take_succ_eq_append_getElem (by simp;omega),val_app,List.take_set_of_le (Nat.le_refl _)]
 simp [val,Nat.min_eq_left (Nat.le_of_lt h)]
theorem val_take_succ {l:List Int} (n:Nat) (h:n < l.length):val (l.take (n+1))=val (l.take n)+1000000000 ^ n * l[n]:=by
 rw [List.take_succ_eq_append_getElem h,val_app]
 simp [val,Nat.min_eq_left (Nat.le_of_lt h)]
theorem Limb.at {l:List Int} (h:Limb l) (i:Nat) (hi:i < l.length):0≤l[i]∧l[i] < 1000000000:=h _ (List.getElem_mem hi)
theorem limb_take_succ {l:List Int} (n:Nat) (h:n < l.length) (h1:Limb (l.take n)) (h2:0≤l[n]∧l[n] < 1000000000):Limb (l.take (n+1)):=by
 rw [List.take_succ_eq_append_getElem h]
 exact h1.app (fun x hx=>by simp at hx;subst hx;exact h2)
theorem shortly_loop (l:List Int) (m:Int) (hl:Limb l) (hm:0 < m) (hm2:m < 1000000000) (hsm:l.length≤1000000) :
  ∀ (n:Nat) (k:Nat) (out:List Int) (rest:Int),n≤l.length→out.length=l.length→0≤rest→rest < m→n < k →
   ∃ out' rest',limbs_shortly.l0 k l m out rest (l.length:Int) ((l.length:Int) - (n:Int))=some (out',rest')∧out'.length=l.length∧out'.drop n=out.drop n∧Limb (out'.take n)∧0≤rest'∧rest' < m∧rest * 1000000000 ^ n+val (l.take n)=val (out'.take n) * m+rest':=by
 intro n
 induction n with
 | zero =>
  intro k out rest _ ho h0 h1 hk
  obtain ⟨k,rfl⟩:∃ j,k=j+1:=⟨k - 1,by omega⟩
  refine ⟨out,rest,?_,ho,rfl,by intro x hx;simp at hx,h0,h1,by simp [val]⟩
  unfold limbs_shortly.l0
  rw [if_neg (by omega),Int.emod_eq_of_lt h0 (by omega)]
 | succ n ih =>
  intro k out rest hn ho h0 h1 hk
  obtain ⟨k,rfl⟩:∃ j,k=j+1:=⟨k - 1,by omega⟩
  have hx:=hl.at n (by omega)
  have hi:wrap64 (wrap64 ((l.length:Int) - 1) - ((l.length:Int) - ((n+1:Nat):Int)))=(n:Int):=by
   rw [w64_at (x:=(l.length:Int) - 1) (by omega) (by omega),w64_at (by omega) (by omega)];omega
  have hj:wrap64 ((l.length:Int) - ((n+1:Nat):Int)+1)=(l.length:Int) - (n:Int):=by
   rw [w64_at (by omega) (by omega)];omega
  have hc0:0≤rest * 1000000000+l[n]:=by omega
  have hc1:rest * 1000000000+l[n] < m * 1000000000:=by omega
  have hcur:IntKind.u64.wrap (IntKind.u64.wrap (rest * 1000000000)+IntKind.u64.wrap (rd l (n:Int)))=rest * 1000000000+l[n]:=by
   rw [rd_at l n (by omega),u64_at (x:=l[n]) (by omega) (by omega),u64_at (x:=rest * 1000000000) (by omega) (by omega),u64_at (by omega) (by omega)]
  have hmw:IntKind.u64.wrap m=m:=u64_at (by omega) (by omega)
  have hq0:0≤(rest * 1000000000+l[n]) / m:=Int.ediv_nonneg hc0 (by omega)
  have hq1:(rest * 1000000000+l[n]) / m < 1000000000:=Int.ediv_lt_of_lt_mul hm (by rw [Int.mul_comm];omega)
  have hr0:=Int.emod_nonneg (rest * 1000000000+l[n]) (show m≠0 by omega)
  have hr1:=Int.emod_lt_of_pos (rest * 1000000000+l[n]) hm
  have hdm:=Int.mul_ediv_add_emod (rest * 1000000000+l[n]) m
  obtain ⟨out',rest',e1,e2,e3,e4,e5,e6,e7⟩:=ih k (out.set n ((rest * 1000000000+l[n]) / m)) ((rest * 1000000000+l[n]) % m) (by omega) (by simp [ho]) hr0 hr1 (by omega)
  have hn':n < out'.length:=by omega
  have hon:out'[n]=(rest * 1000000000+l[n]) / m:=by
   have:=congrArg (fun t=>t[0]?) e3
   simp only [List.getElem?_drop,Nat.add_zero] at this
   rw [List.getElem?_eq_getElem hn',List.getElem?_set_self (by omega)] at this
   simpa using this
  refine ⟨out',rest',?_,e2,?_,?_,e5,e6,?_⟩
  ·unfold limbs_shortly.l0
   rw [if_pos (by omega),hi,if_pos (by omega),if_pos (by omega),hmw,if_neg (by omega),if_pos (by omega),hj,hcur,Int.tdiv_eq_ediv_of_nonneg hc0,Int.tmod_eq_emod_of_nonneg hc0]
   rw [u64_at hq0 (by omega),Int.emod_eq_of_lt hq0 (by omega)]
   exact e1
  ·have h3:=congrArg (List.drop 1) e3
   rw [List.drop_drop,List.drop_drop,List.drop_set_of_lt (by omega)] at h3
   exact h3
  ·exact limb_take_succ n hn' e4 (by rw [hon];exact ⟨hq0,hq1⟩)
  ·rw [val_take_succ n (by omega),val_take_succ n hn',hon]
   rw [Int.pow_succ]
   generalize (rest * 1000000000+l[n]) / m=q at *
   generalize (rest * 1000000000+l[n]) % m=r at *
   have h8:(1000000000:Int) ^ n * (m * q+r)=1000000000 ^ n * (rest * 1000000000+l[n]):=by rw [hdm]
   generalize (1000000000:Int) ^ n=B at *
   grind
theorem shortly_val (l:List Int) (m:Int) (hl:Limb l) (hm:0 < m) (hm2:m < 1000000000) (hsm:l.length≤1000000) :
  ∃ q r,limbs_shortly.f (l.length+1) l m=some (q,r)∧q.length=l.length∧Limb q∧0≤r∧r < m∧val l=val q * m+r:=by
 obtain ⟨q,r,e1,e2,e3,e4,e5,e6,e7⟩:=shortly_loop l m hl hm hm2 hsm l.length (l.length+1) (List.replicate l.length 0) 0 (Nat.le_refl _) (by simp) (Int.le_refl _) hm (by omega)
 rw [← e2,List.take_length] at e4 e7
 rw [e2,List.take_length] at e7
 refine ⟨q,r,?_,e2,e4,e5,e6,by simpa using e7⟩
 unfold limbs_shortly.f
 rw [if_pos (by omega),if_pos (by omega)]
 simp only [Int.toNat_natCast]
 rw [show (l.length:Int) - (l.length:Int)=0 from by omega] at e1
 exact e1
end Go.Proofs.YtjaobihcdkjmbaaGreatDoor
end
section
namespace Go.Proofs.YtjaobihcdkjmbaaGreatDoor
open Go.RowKit Go.Proofs.YtjaobihcdkjmbaaGreatDoorW.PrintWords Go.Proofs.YtjaobihcdkjmbaaGreatDoor.PReadTokens
def limbsV (l:List Int):Array Value:=(l.map (Value.int .u32)).toArray
theorem limbs_cell {w:World} {b:Nat} {l:List Int} {t:TypeId} (h:w.heap[b]?=some (.cells (limbsV l) t (0,0))) (i:Nat) (hi:i < l.length):w.cell? ⟨b,i,none⟩=some (.int .u32 l[i]):=by
 have:=blk_cell h i
 rw [this]
 simp [limbsV,hi]
theorem limbs_set {w:World} {b:Nat} {l:List Int} {t:TypeId} (h:w.heap[b]?=some (.cells (limbsV l) t (0,0))) (i:Nat) (x:Int):(w.setCell ⟨b,i,none⟩ (.int .u32 x)).heap[b]?=some (.cells (limbsV (l.set i x)) t (0,0)):=by
 have:=blk_set h i (.int .u32 x)
 rw [this]
 simp [limbsV,List.map_set]
theorem limbs_made (n:Nat):madeCells #[.int .u32 0] n=limbsV (List.replicate n 0):=by
 apply Array.ext'
 rw [toList_madeCells_one]
 simp [limbsV]
theorem limbs_make (n:Nat) (h:n≤100000) (W:World):(Instr.makeSlice 232 (.int .i64 (n:Int)) (.int .i64 (n:Int))).run Tryz.prog W=.ok (.slice (some ⟨W.heap.size,0,none⟩) n n) (W.alloc (.cells (limbsV (List.replicate n 0)) 270)):=by
 rw [run_make_row' 232 270 (.int .u32 0) 4 Tryz.underlying232 info270 rfl .i64 .i64 n (by omega) (by omega) W,limbs_made]
set_option maxRecDepth 100000 in
set_option maxHeartbeats 4000000 in
theorem scaled_calls (l:List Int) (m:Int) (A:Option Addr) (c:Nat) (w:World) (hC:U32.C w A l.length l) (hl:Limb l) (hm:0≤m) (hm2:m < 1000000000) (hsm:l.length≤1000) :
  Calls Tryz.prog 280 #[.slice A l.length c,.int .u32 m] w fun e w'=>∃ r:List Int,r.length=l.length+1∧Limb r∧val r=val l * m∧e=.returned (.slice (some ⟨w.heap.size,0,none⟩) (l.length+1) (l.length+1))∧w'.heap[w.heap.size]?=some (.cells (limbsV r) 270 (0,0))∧Below w.heap.size w w':=by
 replace hC:=Lib.hid hC
 replace hl:=Lib.hid hl
 have hmk:=limbs_make (l.length+1) (by omega) w
 rw [show ((l.length+1:Nat):Int)=(l.length:Int)+1 from by omega] at hmk
 obtain ⟨Y,hY⟩:∃ Y,Y=w.alloc (.cells (limbsV (List.replicate (l.length+1) 0)) 270):=⟨_,rfl⟩
 rw [← hY] at hmk
 have hB:Below w.heap.size w Y:=by rw [hY];exact (Below.refl _ w).alloc (Nat.le_refl _) _
 have hH:Hid (Y.heap[w.heap.size]?=some (.cells (limbsV (List.replicate (l.length+1) 0)) 270 (0,0))):=Lib.hid (by rw [hY];exact blk_new w _)
 clear hY
 go_enter Tryz.func280,Tryz.ntmps280
 go_wp2_with fail
 clear hmk
 go_loopg [6,15] l.length (fun gk v6 v15 wr=>∃ (i:Nat) (out:List Int) (carry:Int),i+gk=l.length∧v6=.int .u64 carry∧v15=.int .i64 (i:Int)∧out.length=l.length+1∧0≤carry∧carry < 1000000000∧Hid (Limb (out.take i))∧Hid (val (out.take i)+1000000000 ^ i * carry=val (l.take i) * m)∧Hid (wr.heap[w.heap.size]?=some (.cells (limbsV out) 270 (0,0)))∧Below w.heap.size w wr)
 case atStart=>exact ⟨0,List.replicate (l.length+1) 0,0,by omega,rfl,rfl,by simp,by omega,by omega,Lib.hid (fun x hx=>by simp at hx),Lib.hid (by simp [val]),hH,hB⟩
 case round =>
  obtain ⟨i,out,carry,hi,rfl,rfl,ho,h0,h1,HL,HV,HH,hBr⟩:=hrel
  replace ho:=Lib.hid ho
  cases gk with
  | zero =>
   obtain rfl:i=l.length:=by omega
   have hlt2:l.length < out.length:=by have:=ho.out;omega
   have hx:=limbs_cell HH.out l.length hlt2
   have hfz:=blk_frozen HH.out l.length
   generalize out[l.length]=y at *
   go_wp2
   go_ret
   refine ⟨out.set l.length carry,by simp [ho.out],?_,?_,rfl,limbs_set HH.out _ _,hBr.setCell (p:=⟨w.heap.size,l.length,none⟩) (Nat.le_refl _) _⟩
   ·rw [← List.take_length (l:=out.set l.length carry),List.length_set,ho.out]
    refine limb_take_succ l.length (by simp;omega) ?_ (by simp;omega)
    rw [List.take_set_of_le (Nat.le_refl _)]
    exact HL.out
   ·have e:=val_set (l:=out) l.length hlt2 carry
    have e2:=HV.out
    rw [List.take_length] at e2
    rw [List.take_of_length_le (by simp [ho.out])] at e
    rw [e,e2]
  | succ k =>
   have hlt:i < l.length:=by omega
   have hlt2:i < out.length:=by have:=ho.out;omega
   obtain ⟨ad,rfl,hc1⟩:=u32_at (Kd.C_below hC.out hBr) i hlt
   obtain ⟨hx0,hx1⟩:=hl.out.at i hlt
   have hx:=limbs_cell HH.out i hlt2
   have hfz:=blk_frozen HH.out i
   obtain ⟨x,hxx⟩:∃ x,x=l[i]:=⟨_,rfl⟩
   rw [← hxx] at hc1 hx0 hx1
   replace hxx:=Lib.hid hxx
   generalize out[i]=y at *
   have p0:0≤x * m:=Int.mul_nonneg hx0 hm
   have p1:x * m≤999999999 * 999999999:=Int.mul_le_mul (by omega) (by omega) hm (by omega)
   obtain ⟨p,hp⟩:∃ p,p=x * m:=⟨_,rfl⟩
   rw [← hp] at p0 p1
   have hw1:IntKind.u64.wrap (x * m)=p:=by rw [← hp];exact u64_at p0 (by omega)
   have hw2:IntKind.u64.wrap (carry+p)=carry+p:=u64_at (by omega) (by omega)
   replace hp:=Lib.hid hp
   have hd:=Int.mul_ediv_add_emod (carry+p) 1000000000
   have hr0:=Int.emod_nonneg (carry+p) (show (1000000000:Int)≠0 by omega)
   have hr1:=Int.emod_lt_of_pos (carry+p) (show (0:Int) < 1000000000 by omega)
   replace hd:=Lib.hid hd
   go_wp2
   go_roundg k
   case measure=>omega
   case rel =>
    refine ⟨i+1,out.set i ((carry+p) % 1000000000),(carry+p) / 1000000000,by omega,rfl,by go_num,by simp [ho.out],by omega,by omega,Lib.hid ?_,Lib.hid ?_,Lib.hid (limbs_set HH.out _ _),hBr.setCell (p:=⟨w.heap.size,i,none⟩) (Nat.le_refl _) _⟩
    ·refine limb_take_succ i (by simp;omega) ?_ (by simp;omega)
     rw [List.take_set_of_le (Nat.le_refl _)]
     exact HL.out
    ·have e2:=HV.out
     have e3:=hd.out
     have e4:=hp.out
     rw [val_set i hlt2,val_take_succ i hlt,← hxx.out,Int.pow_succ]
     generalize (carry+p) / 1000000000=q at *
     generalize (carry+p) % 1000000000=r at *
     generalize (1000000000:Int) ^ i=B at *
     generalize val (List.take i out)=V at *
     generalize val (List.take i l)=U at *
     have e5:B * (1000000000 * q+r)=B * (carry+p):=by rw [e3]
     have e6:B * p=B * x * m:=by rw [e4,Int.mul_assoc]
     rw [Int.mul_add,Int.mul_add] at e5
     rw [Int.mul_assoc,Int.add_mul]
     omega
end Go.Proofs.YtjaobihcdkjmbaaGreatDoor
end
section
namespace Go.Proofs.YtjaobihcdkjmbaaGreatDoor
open Go.RowKit Go.Proofs.YtjaobihcdkjmbaaGreatDoorW.PrintWords Go.Proofs.YtjaobihcdkjmbaaGreatDoor.PReadTokens
theorem limb_set {l:List Int} (h:Limb l) (i:Nat) (x:Int) (hx:0≤x∧x < 1000000000):Limb (l.set i x):=fun y hy=>by
 rcases List.mem_or_eq_of_mem_set hy with h1 | rfl
 ·exact h y h1
 ·exact hx
theorem pull_step {P C V T A B y times c d have_ q r d2:Int} (h:P+C * (times * V)=A+B * (c+d)) (hB:B=C * T) (he:q * 1000000000+r=c+y * times) :
  P+B * (have_ - (r+d)+1000000000 * d2)+C * (times * (V+T * y))=A+B * have_+B * 1000000000 * (q+d2):=by
 subst hB
 have h2:C * T * (c+y * times)=C * T * (q * 1000000000+r):=by rw [he]
 grind
theorem take_min {bb:List Int} {n i:Nat} {y:Int} (hn:n≤bb.length) (hi:i≤n) (hy:(∃ h:i < n,y=bb[i]'(by omega))∨(i=n∧y=0)):val (bb.take (min (i+1) n))=val (bb.take (min i n))+1000000000 ^ i * y:=by
 rcases hy with ⟨h,rfl⟩ | ⟨rfl,rfl⟩
 ·rw [Nat.min_eq_left (by omega),Nat.min_eq_left (by omega),val_take_succ i (by omega)]
 ·rw [Nat.min_eq_right (by omega),Nat.min_self];omega
theorem drop_next {a r:List Int} {m:Nat} {x:Int} (hl:r.length=a.length) (h:r.drop m=a.drop m):(r.set m x).drop (m+1)=a.drop (m+1):=by
 rw [List.drop_set_of_lt (by omega)]
 have h3:=congrArg (List.drop 1) h
 rw [List.drop_drop,List.drop_drop] at h3
 exact h3
theorem drop_same {a r:List Int} {m:Nat} (h1:m < r.length) (h2:m < a.length) (h:r.drop m=a.drop m):r[m]=a[m]:=by
 rw [List.drop_eq_getElem_cons h1,List.drop_eq_getElem_cons h2] at h
 injection h
theorem pull_round {a r bb:List Int} {n i at_:Nat} {times c d y d2:Int} (hn:n≤bb.length) (hi:i≤n) (hy:(∃ h:i < n,y=bb[i]'(by omega))∨(i=n∧y=0)) (hl:r.length=a.length) (hat:at_+i < r.length) (hd:r.drop (at_+i)=a.drop (at_+i))
  (hV:val (r.take (at_+i))+1000000000 ^ at_ * (times * val (bb.take (min i n)))=val (a.take (at_+i))+1000000000 ^ (at_+i) * (c+d)) :
  val ((r.set (at_+i) (r[at_+i] - ((c+y * times) % 1000000000+d)+1000000000 * d2)).take (at_+(i+1)))+1000000000 ^ at_ * (times * val (bb.take (min (i+1) n)))=val (a.take (at_+(i+1)))+1000000000 ^ (at_+(i+1)) * ((c+y * times) / 1000000000+d2):=by
 rw [show at_+(i+1)=(at_+i)+1 from by omega,val_set _ hat,val_take_succ (l:=a) _ (by omega),← drop_same hat (by omega) hd,take_min hn hi hy]
 have e:=Int.mul_ediv_add_emod (c+y * times) 1000000000
 rw [Int.mul_comm] at e
 have h:=pull_step (have_:=r[at_+i]) (d2:=d2) (T:=1000000000 ^ i) (y:=y) hV (Int.pow_add _ _ _) e
 rw [Int.pow_succ]
 exact h
def PullPost (a bb:List Int) (n at_:Nat) (times:Int) (Ba L:Nat) (w:World) (e:Ending) (w':World):Prop :=
 ∃ (r:List Int) (d:Int),(d=0∨d=1)∧e=.returned (.bool (d != 0))∧r.length=L∧Limb r∧r.drop (at_+n+1)=a.drop (at_+n+1) ∧
   val (r.take (at_+n+1))+1000000000 ^ at_ * (times * val (bb.take n))=val (a.take (at_+n+1))+1000000000 ^ (at_+n+1) * d∧w'.heap[Ba]?=some (.cells (limbsV r) 270 (0,0))∧w.grownBy w' (some Ba)
set_option maxRecDepth 100000 in
set_option maxHeartbeats 8000000 in
theorem pull_calls (a bb:List Int) (n at_:Nat) (times:Int) (Ba Bb ca cb:Nat) (w:World) (hA:w.heap[Ba]?=some (.cells (limbsV a) 270 (0,0))) (hBb:w.heap[Bb]?=some (.cells (limbsV bb) 270 (0,0))) (hab:Ba≠Bb)
  (la:Limb a) (lb:Limb bb) (hn:n≤bb.length) (hat:at_+n+1≤a.length) (ht0:0≤times) (ht1:times≤1000000000) (hs:a.length≤1002) :
  Calls Tryz.prog 281 #[.slice (some ⟨Ba,0,none⟩) a.length ca,.slice (some ⟨Bb,0,none⟩) n cb,.int .i64 (at_:Int),.int .u64 times] w (PullPost a bb n at_ times Ba a.length w):=by
 replace la:=Lib.hid la
 replace lb:=Lib.hid lb
 obtain ⟨L,hL⟩:∃ L,L=a.length:=⟨_,rfl⟩
 rw [← hL] at hat hs ⊢
 replace hL:=Lib.hid hL
 replace hA:=Lib.hid hA
 replace hBb:=Lib.hid hBb
 go_enter Tryz.func281,Tryz.ntmps281
 go_wp2_with fail
 go_loopg [9,10,18] (n+1) (fun gk v9 v10 v18 wr=>∃ (i:Nat) (r:List Int) (c d:Int),i+gk=n+1∧v9=.int .u64 c∧v10=.int .u64 d∧v18=.int .i64 (i:Int)∧0≤c∧c < 1000000000∧Hid (n < i→c=0)∧0≤d∧d≤1∧Hid (r.length=L)∧Hid (Limb r)∧Hid (r.drop (at_+i)=a.drop (at_+i))∧Hid (val (r.take (at_+i))+1000000000 ^ at_ * (times * val (bb.take (min i n)))=val (a.take (at_+i))+1000000000 ^ (at_+i) * (c+d))∧Hid (wr.heap[Ba]?=some (.cells (limbsV r) 270 (0,0)))∧w.grownBy wr (some Ba))
 case atStart=>exact ⟨0,a,0,0,by omega,rfl,rfl,rfl,by omega,by omega,Lib.hid (by omega),by omega,by omega,Lib.hid hL.out.symm,la,Lib.hid rfl,Lib.hid (by simp [val]),hA,World.grownBy.refl _ _⟩
 case round =>
  obtain ⟨i,r,c,d,hi,rfl,rfl,rfl,hc0,hc1,hcn,hd0,hd1,hrl,hrL,hrd,hV,hH,hG⟩:=hrel
  cases gk with
  | zero =>
   obtain rfl:i=n+1:=by omega
   have hR:Hid (∃ (r:List Int) (d':Int),(d'=0∨d'=1)∧(d != 0)=(d' != 0)∧r.length=L∧Limb r∧r.drop (at_+n+1)=a.drop (at_+n+1)∧val (r.take (at_+n+1))+1000000000 ^ at_ * (times * val (bb.take n))=val (a.take (at_+n+1))+1000000000 ^ (at_+n+1) * d'∧wr.heap[Ba]?=some (.cells (limbsV r) 270 (0,0))):=Lib.hid (by
    refine ⟨r,d,by omega,rfl,hrl.out,hrL.out,hrd.out,?_,hH.out⟩
    have:=hV.out
    rw [hcn.out (by omega),Int.zero_add,Nat.min_eq_right (by omega)] at this
    exact this)
   clear hcn hrl hrL hrd hV hH
   go_wp2
   go_ret
   obtain ⟨r,d',h1,h2,h3,h4,h5,h6,h7⟩:=hR.out
   exact ⟨r,d',h1,by rw [← h2];rfl,h3,h4,h5,h6,h7,hG⟩
  | succ k =>
   have hin:i≤n:=by omega
   have hlt:at_+i < r.length:=by have:=hrl.out;omega
   have hltL:at_+i < L:=by omega
   have hlti:(at_:Int)+(i:Int) < (L:Int):=by omega
   have hx:=limbs_cell hH.out (at_+i) hlt
   have hfz:=blk_frozen hH.out (at_+i)
   obtain ⟨hx0,hx1⟩:=hrL.out.at (at_+i) hlt
   obtain ⟨x,hxx⟩:∃ x,x=r[at_+i]:=⟨_,rfl⟩
   rw [← hxx] at hx hx0 hx1
   have hb:=(hG.block Bb (blk_lt hBb.out) (by intro e;injection e with e;omega)).trans hBb.out
   obtain ⟨y,hy,hyv⟩:∃ y,((∃ h:i < n,y=bb[i]'(by omega))∨(i=n∧y=0))∧(i < n→wr.cell? ⟨Bb,i,none⟩=some (.int .u32 y)):=by
    by_cases h:i < n
    ·exact ⟨bb[i]'(by omega),.inl ⟨h,rfl⟩,fun _=>limbs_cell hb i (by omega)⟩
    ·exact ⟨0,.inr ⟨by omega,rfl⟩,fun h'=>absurd h' h⟩
   have hy0:0≤y∧y < 1000000000∧(i=n→y=0):=by
    rcases hy with ⟨h,rfl⟩ | ⟨h,rfl⟩
    ·have:=lb.out.at i (by omega);exact ⟨this.1,this.2,fun h'=>by omega⟩
    ·exact ⟨by omega,by omega,fun _=>rfl⟩
   obtain ⟨hy1,hy2,hy3⟩:=hy0
   have hfin:=fun d2=>pull_round (c:=c) (d:=d) (times:=times) (d2:=d2) (by omega:n≤bb.length) hin hy (by rw [hrl.out,hL.out]) hlt hrd.out hV.out
   rw [← hxx] at hfin
   have p0:0≤y * times:=Int.mul_nonneg hy1 ht0
   have p1:y * times≤999999999 * 1000000000:=Int.mul_le_mul (by omega) (by omega) ht0 (by omega)
   have p2:i=n→y * times=0:=fun h=>by rw [hy3 h];omega
   obtain ⟨p,hp⟩:∃ p,p=y * times:=⟨_,rfl⟩
   rw [← hp] at p0 p1 p2 hfin
   have hw1:IntKind.u64.wrap (y * times)=p:=by rw [← hp];exact u64_at p0 (by omega)
   have hr0:=Int.emod_nonneg (c+p) (show (1000000000:Int)≠0 by omega)
   have hr1:=Int.emod_lt_of_pos (c+p) (show (0:Int) < 1000000000 by omega)
   have hq0:0≤(c+p) / 1000000000:=by omega
   have hq1:(c+p) / 1000000000 < 1000000000:=by omega
   have hq2:n < i+1→(c+p) / 1000000000=0:=fun h=>by rw [p2 (by omega)];omega
   have hd3:Hid (∀ v:Int,(r.set (at_+i) v).drop (at_+(i+1))=a.drop (at_+(i+1))):=Lib.hid (fun v=>drop_next (by rw [hrl.out,hL.out]) hrd.out)
   replace hfin:=Lib.hid hfin
   replace hq2:=Lib.hid hq2
   replace p2:=Lib.hid p2
   replace hy3:=Lib.hid hy3
   replace hp:=Lib.hid hp
   replace hxx:=Lib.hid hxx
   clear hV hy hb
   by_cases hii:i < n
   ·have hyc:=hyv hii
    have hdi:(i:Int) < (n:Int):=by omega
    clear hyv
    by_cases hcmp:x < (c+p) % 1000000000+d
    ·have hcb:decide (x < (c+p) % 1000000000+d)=true:=decide_eq_true hcmp
     go_wp2
     go_roundg k
     case measure=>omega
     case rel =>
      refine ⟨i+1,r.set (at_+i) (x+1000000000 - ((c+p) % 1000000000+d)),(c+p) / 1000000000,1,by omega,rfl,rfl,by go_num,hq0,hq1,Lib.hid (fun h=>hq2.out (by omega)),by omega,by omega,Lib.hid (by simp [hrl.out]),Lib.hid (limb_set hrL.out _ _ (by omega)),Lib.hid (hd3.out _),Lib.hid ?_,Lib.hid (limbs_set hH.out _ _),Lib.grownBy_trans hG (Lib.grownBy_setCell _ _ _ _)⟩
      have e:=hfin.out 1
      rw [show x - ((c+p) % 1000000000+d)+1000000000 * 1=x+1000000000 - ((c+p) % 1000000000+d) from by omega] at e
      exact e
    ·have hcb:decide (x < (c+p) % 1000000000+d)=false:=decide_eq_false hcmp
     go_wp2
     go_roundg k
     case measure=>omega
     case rel =>
      refine ⟨i+1,r.set (at_+i) (x - ((c+p) % 1000000000+d)),(c+p) / 1000000000,0,by omega,rfl,rfl,by go_num,hq0,hq1,Lib.hid (fun h=>hq2.out (by omega)),by omega,by omega,Lib.hid (by simp [hrl.out]),Lib.hid (limb_set hrL.out _ _ (by omega)),Lib.hid (hd3.out _),Lib.hid ?_,Lib.hid (limbs_set hH.out _ _),Lib.grownBy_trans hG (Lib.grownBy_setCell _ _ _ _)⟩
      have e:=hfin.out 0
      rw [show x - ((c+p) % 1000000000+d)+1000000000 * 0=x - ((c+p) % 1000000000+d) from by omega] at e
      exact e
   ·obtain rfl:i=n:=by omega
    obtain rfl:y=0:=hy3.out rfl
    have hp0:=p2.out rfl
    subst hp0
    clear hyv
    simp only [Int.add_zero] at hr0 hr1 hq0 hq1 hfin hq2
    by_cases hcmp:x < c % 1000000000+d
    ·have hcb:decide (x < c % 1000000000+d)=true:=decide_eq_true hcmp
     go_wp2
     go_roundg k
     case measure=>omega
     case rel =>
      refine ⟨i+1,r.set (at_+i) (x+1000000000 - (c % 1000000000+d)),c / 1000000000,1,by omega,rfl,rfl,by go_num,hq0,hq1,Lib.hid (fun h=>hq2.out (by omega)),by omega,by omega,Lib.hid (by simp [hrl.out]),Lib.hid (limb_set hrL.out _ _ (by omega)),Lib.hid (hd3.out _),Lib.hid ?_,Lib.hid (limbs_set hH.out _ _),Lib.grownBy_trans hG (Lib.grownBy_setCell _ _ _ _)⟩
      have e:=hfin.out 1
      rw [show x - (c % 1000000000+d)+1000000000 * 1=x+1000000000 - (c % 1000000000+d) from by omega] at e
      exact e
    ·have hcb:decide (x < c % 1000000000+d)=false:=decide_eq_false hcmp
     go_wp2
     go_roundg k
     case measure=>omega
     case rel =>
      refine ⟨i+1,r.set (at_+i) (x - (c % 1000000000+d)),c / 1000000000,0,by omega,rfl,rfl,by go_num,hq0,hq1,Lib.hid (fun h=>hq2.out (by omega)),by omega,by omega,Lib.hid (by simp [hrl.out]),Lib.hid (limb_set hrL.out _ _ (by omega)),Lib.hid (hd3.out _),Lib.hid ?_,Lib.hid (limbs_set hH.out _ _),Lib.grownBy_trans hG (Lib.grownBy_setCell _ _ _ _)⟩
      have e:=hfin.out 0
      rw [show x - (c % 1000000000+d)+1000000000 * 0=x - (c % 1000000000+d) from by omega] at e
      exact e
end Go.Proofs.YtjaobihcdkjmbaaGreatDoor
end
