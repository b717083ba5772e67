/- The law ReadFree answers true for every argument; a part of its proof. -/
import Derived.Deep.RegionHeldLaw
import Derived.Test.YtjaobihcdkjmbaaGreatDoorF7
import Derived.Test.YtjaobihcdkjmbaaGreatDoorF21
import Derived.Test.YtjaobihcdkjmbaaGreatDoorF22
import Derived.Test.YtjaobihcdkjmbaaGreatDoorF25
import Derived.Test.YtjaobihcdkjmbaaGreatDoorF26
import Derived.Test.YtjaobihcdkjmbaaGreatDoorF27
set_option linter.unusedVariables false
set_option linter.unusedSimpArgs false
section
namespace Go.Proofs.YtjaobihcdkjmbaaGreatDoor
open Go.RowKit Go.Maps Go.Proofs.YtjaobihcdkjmbaaGreatDoorW.PrintWords Go.Proofs.YtjaobihcdkjmbaaGreatDoor.PReadTokens
theorem results32 {tmps:Array Value} {W:World} {p q:Nat} {v0 v1 v2 v3 v4 v5 u:Value} (h6:tmps.getD 6 undef=.pointer (some ⟨p,0,none⟩)) (h7:tmps.getD 7 undef=.pointer (some ⟨q,0,none⟩)) (hp:W.heap[p]?=some (.cells #[v0,v1,v2,v3,v4,v5] 31 (0,0))) (hq:W.heap[q]?=some (.cells #[u] 36 (0,0))):(results Tryz.f32 tmps).run Tryz.prog W=.ok (.tuple #[.agg #[v0,v1,v2,v3,v4,v5],u]) W:=by
 have e6:tmps[6]?.getD undef=.pointer (some ⟨p,0,none⟩):=by simpa using h6
 have e7:tmps[7]?.getD undef=.pointer (some ⟨q,0,none⟩):=by simpa using h7
 obtain ⟨⟨t0,t1,t2,t3,t4,t5⟩,_,_⟩:=cells6 hp
 have c0:=blk_cell hq 0
 simp at c0
 simp [results,Tryz.results32,e6,e7,asAddr,go_sem,t0,t1,t2,t3,t4,t5,c0]
theorem leaves_same {P:Program} {fn:Func} {tmps tmps':Array Value} {R:Ending→World→Prop} (h:∀ w,(results fn tmps).run P w=(results fn tmps').run P w):∀ (ds:List Deferred) (u:FrameMode) (w:World),Leaves P fn tmps R ds u w→Leaves P fn tmps' R ds u w
 | [],.returning,w,hl=>by
  obtain ⟨v,h1,h2⟩:=hl
  exact ⟨v,(h w).symm.trans h1,h2⟩
 | [],.panicking _,_,hl=>hl
 | [],.run,_,hl=>hl
 | d :: ds,u,w,⟨h1,fv,cap,f,args,h2,h3,h4⟩=>by
  refine ⟨h1,fv,cap,f,args,h2,h3,h4.mono ?_⟩
  intro e u' w' he
  cases e with
  | returned v=>exact leaves_same h ds _ w' he
  | panicked chain=>exact leaves_same h ds _ w' he
  | outgrown=>exact he
theorem put32 {K:Act→World→Prop} {R:Ending→World→Prop} (d:Nat) (h6:d≠6) (h7:d≠7) (c:List PanicEntry) (a:Act) (v:Value) (w:World) (h:Exit.then K (bodyPostD Tryz.prog Tryz.f32 R) (.panic c) (a.put (some d) v) w):Exit.then K (bodyPostD Tryz.prog Tryz.f32 R) (.panic c) a w:=by
 refine leaves_same (tmps:=(a.put (some d) v).tmps) (fun w=>?_) a.defers (.panicking c) w h
 have e6:(a.tmps.setIfInBounds d v)[6]?=a.tmps[6]?:=by simp [Array.getElem?_setIfInBounds,h6]
 have e7:(a.tmps.setIfInBounds d v)[7]?=a.tmps[7]?:=by simp [Array.getElem?_setIfInBounds,h7]
 simp [results,Tryz.results32,Act.put,e6,e7]
theorem ne_p3 {w:World} {o:Obj} {n k:Nat} (h:(w.alloc o).drew.heap.size≤n) (hk:n≤k):k≠w.heap.size:=by
 have h1:(w.alloc o).heap.size≤n:=h
 rw [World.size_alloc] at h1
 omega
theorem field100 (a b:Int) (w:World):(Instr.field 100 (.agg #[.int .i64 a,.int .i64 b]) 1).run Tryz.prog w=.ok (.int .i64 b) w:=by kernel_rfl
theorem leaves_end {tmps:Array Value} {W:World} {R:Ending→World→Prop} {p q:Nat} {v0 v1 v2 v3 v4 v5 u:Value} (h6:tmps.getD 6 undef=.pointer (some ⟨p,0,none⟩)) (h7:tmps.getD 7 undef=.pointer (some ⟨q,0,none⟩)) (hp:W.heap[p]?=some (.cells #[v0,v1,v2,v3,v4,v5] 31 (0,0))) (hq:W.heap[q]?=some (.cells #[u] 36 (0,0)))
  (hR:R (.returned (.tuple #[.agg #[v0,v1,v2,v3,v4,v5],u])) W):Leaves Tryz.prog Tryz.f32 tmps R [] (settle .returning) W :=
 ⟨_,results32 h6 h7 hp hq,hR⟩
def replR (name:ByteArray) (y x:S31):Option S31 × Int :=
 match replS name y (freeG y) x with
 | none=>(none,15)
 | some z=>if 30 < depthX z then (none,7) else (some z,0)
abbrev zA:Value:=.agg #[.int .i64 0,.string ⟨#[]⟩,.string ⟨#[]⟩,.string ⟨#[]⟩,.int .i64 0,.slice none 0 0]
def RplPost (r:Option S31 × Int) (w:World) (e:Ending) (w':World):Prop :=
 Below w.heap.size w w'∧((∃ z u,r=(some z,0)∧e=.returned (.tuple #[u,.int .i64 0])∧Ex w' (From w.heap.size) z u)∨(∃ n,n≠0∧r=(none,n)∧e=.returned (.tuple #[zA,.int .i64 n])))
theorem beg4 {w:World} (o0 o1 o2 o3:Obj):Below w.heap.size w ((((w.alloc o0).alloc o1).alloc o2).alloc o3) :=
 ((((Below.refl _ w).alloc (Nat.le_refl _) _).alloc (by simp) _).alloc (by simp;omega) _).alloc (by simp;omega) _
set_option maxRecDepth 100000 in
set_option maxHeartbeats 800000 in
theorem Replace_calls (name:ByteArray) (hname:name.size≤4611686018427387904) (hnm:nameB name=true) (x y:S31) (hcx:chkE x=0) (hcy:chkE y=0) (hnx:nodesX x≤1000000000) (hny:nodesX y≤1000000000) (hsx:szB x=true) (hsy:szB y=true) (hmx:smallB x=true) (hmy:smallB y=true)
  (hz:∀ z,replS name y (freeG y) x=some z→nodesX z≤4611686018427387904) (vx vy:Value) (w:World) (hvx:Vw w x vx) (hvy:Vw w y vy) (hS:Start w) :
  Calls Tryz.prog 32 #[vx,.string name,vy] w (RplPost (replR name y x) w):=by
 obtain ⟨A,c,rfl,hc1,hc2⟩:=hvx.out
 obtain ⟨Ay,cy,rfl,hcy1,hcy2⟩:=hvy.out
 have hmf:∀ (fn:Fn) (first cap:Array Value) (w:World),(Instr.makeFunc fn first cap).run Tryz.prog w=.ok (.func fn first cap) w:=fun _ _ _ _=>rfl
 have kx:=fun w' (hb:Below w.heap.size w w')=>chk0_calls x hcx (by omega) hsx _ w' (hvx.below hb) (hS.below hb)
 have ky:=fun w' (hb:Below w.heap.size w w')=>chk0_calls y hcy (by omega) hsy _ w' (hvy.below hb) (hS.below hb)
 have hfy:=fun w' (hb:Below w.heap.size w w')=>freeG_calls _ y (Nat.le_refl _) (by omega) hmy _ w' (hvy.below hb)
 have hset:=freeG_set _ y (Nat.le_refl _) hmy
 have hrp:=fun b n w' (hb:Below w.heap.size w w') (hm:MapAt w' b n (freeG y))=>replaced_calls name hname y hny (freeG y) hset b n _ x (Nat.le_refl _) hnx hmx _ _ w' (hvx.below hb) (hvy.below hb) hm
 have hdp:=fun z (h:replS name y (freeG y) x=some z) v w' (hv:Vw w' z v)=>deep_calls _ z (Nat.le_refl _) (hz z h) v w' hv
 have hnn:=fun w'=>name_is name true (by omega) hnm w'
 have hge:=fun w' (hb:Below w.heap.size w w')=>(hS.below hb).err
 have hrr:replR name y x=match replS name y (freeG y) x with
  | none=>(none,15)
  | some z=>if 30 < depthX z then (none,7) else (some z,0):=rfl
 generalize replR name y x=RR at *
 generalize replS name y (freeG y) x=R at *
 generalize freeG y=T at *
 generalize nodesX y=ny at *
 have HVX:=Lib.hid hvx
 have HVY:=Lib.hid hvy
 clear hvx hvy
 obtain ⟨f0,f1,f2,f3,xs⟩:=x
 obtain ⟨g0,g1,g2,g3,ys⟩:=y
 simp only at *
 unfold exV at *
 simp only at *
 have KX:=Lib.hid kx
 have KY:=Lib.hid ky
 have HF:=Lib.hid hfy
 have HP:=Lib.hid hrp
 have HD:=Lib.hid hdp
 have HN:=Lib.hid hnn
 have HG:=Lib.hid hge
 have HR:=Lib.hid hrr
 clear kx ky hfy hrp hdp hnn hge hrr hz hS hc2 hcy2 hset hcx hcy hsx hsy hmx hmy hnm
 obtain ⟨W4,hW4⟩:∃ X,X=(((w.alloc (.cells #[.int .i64 f0,.string f1.f0,.string f1.f1,.string f2,.int .i64 f3,.slice A xs.length c] 31)).alloc (.cells #[.int .i64 g0,.string g1.f0,.string g1.f1,.string g2,.int .i64 g3,.slice Ay ys.length cy] 31)).alloc (.cells #[.int .i64 0,.string ⟨#[]⟩,.string ⟨#[]⟩,.string ⟨#[]⟩,.int .i64 0,.slice none 0 0] 31)).alloc (.cells #[.int .i64 0] 36):=⟨_,rfl⟩
 have b4:Below w.heap.size w W4:=by rw [hW4];exact beg4 _ _ _ _
 have s4:W4.heap.size=w.heap.size+1+1+1+1:=by rw [hW4];simp
 have a0:W4.heap[w.heap.size]?=some (.cells #[.int .i64 f0,.string f1.f0,.string f1.f1,.string f2,.int .i64 f3,.slice A xs.length c] 31 (0,0)):=by rw [hW4];exact (Below.heap_alloc _ _ _ (by simp <;> omega)).trans ((Below.heap_alloc _ _ _ (by simp <;> omega)).trans ((Below.heap_alloc _ _ _ (by simp)).trans (blk_new w _)))
 have a1:W4.heap[w.heap.size+1]?=some (.cells #[.int .i64 g0,.string g1.f0,.string g1.f1,.string g2,.int .i64 g3,.slice Ay ys.length cy] 31 (0,0)):=by rw [hW4];exact (Below.heap_alloc _ _ _ (by simp <;> omega)).trans ((Below.heap_alloc _ _ _ (by simp)).trans (alloc_at _ _ _ (by simp)))
 have a2:W4.heap[w.heap.size+1+1]?=some (.cells #[.int .i64 0,.string ⟨#[]⟩,.string ⟨#[]⟩,.string ⟨#[]⟩,.int .i64 0,.slice none 0 0] 31 (0,0)):=by rw [hW4];exact (Below.heap_alloc _ _ _ (by simp)).trans (alloc_at _ _ _ (by simp))
 have a3:W4.heap[w.heap.size+1+1+1]?=some (.cells #[.int .i64 0] 36 (0,0)):=by rw [hW4];exact alloc_at _ _ _ (by simp)
 have a4:(W4.alloc (.cells #[.int .i64 f0,.string f1.f0,.string f1.f1,.string f2,.int .i64 f3,.slice A xs.length c,.int .i64 g0,.string g1.f0,.string g1.f1,.string g2,.int .i64 g3,.slice Ay ys.length cy] 31)).heap[w.heap.size+1+1+1+1]?=some (.cells #[.int .i64 f0,.string f1.f0,.string f1.f1,.string f2,.int .i64 f3,.slice A xs.length c,.int .i64 g0,.string g1.f0,.string g1.f1,.string g2,.int .i64 g3,.slice Ay ys.length cy] 31 (0,0)):=by rw [← s4];exact blk_new W4 _
 have b5:Below W4.heap.size W4 (W4.alloc (.cells #[.int .i64 f0,.string f1.f0,.string f1.f1,.string f2,.int .i64 f3,.slice A xs.length c,.int .i64 g0,.string g1.f0,.string g1.f1,.string g2,.int .i64 g3,.slice Ay ys.length cy] 31)):=(Below.refl _ W4).alloc (Nat.le_refl _) _
 have HW4:=Lib.hid hW4
 go_enter_defers Tryz.func32,Tryz.ntmps32
 go_upto_region 2 with (fail)
 rw [← HW4.out]
 clear hW4 HW4
 go_loopg [16] 2 (fun k i wr=>((k=2∧i=.int .i64 0)∨(k=1∧i=.int .i64 1)∨(k=0∧i=.int .i64 2))∧Hid (wr.heap[w.heap.size+1+1+1+1]?=some (.cells #[.int .i64 f0,.string f1.f0,.string f1.f1,.string f2,.int .i64 f3,.slice A xs.length c,.int .i64 g0,.string g1.f0,.string g1.f1,.string g2,.int .i64 g3,.slice Ay ys.length cy] 31 (0,0)))∧Hid (Below W4.heap.size W4 wr))
 case atStart=>exact ⟨.inl ⟨rfl,rfl⟩,Lib.hid a4,Lib.hid b5⟩
 case round =>
  obtain ⟨hk,hB,hb⟩:=hrel
  have c0:=blk_cell hB.out 0
  have c1:=blk_cell hB.out 1
  have c2:=blk_cell hB.out 2
  have c3:=blk_cell hB.out 3
  have c4:=blk_cell hB.out 4
  have c5:=blk_cell hB.out 5
  have c6:=blk_cell hB.out 6
  have c7:=blk_cell hB.out 7
  have c8:=blk_cell hB.out 8
  have c9:=blk_cell hB.out 9
  have c10:=blk_cell hB.out 10
  have c11:=blk_cell hB.out 11
  have hlb:=blk_lt hB.out
  have hbw:=b4.trans (hb.out.mono b4.size)
  have a0':=a0
  have a1':=a1
  have a2':=a2
  have a3':=a3
  clear a0 a1 a2 a3 a4 b5
  rcases hk with ⟨rfl,rfl⟩ | ⟨rfl,rfl⟩ | ⟨rfl,rfl⟩
  ·go_wp2_with fail
   refine (KX.out _ (hbw.alloc hbw.size _)).mono ?_
   rintro e w1 ⟨rfl,hb1⟩
   have hn1:=hb.out.trans ((((Below.refl wr.heap.size wr).alloc (Nat.le_refl _) (.cells #[.int .i64 f0,.string f1.f0,.string f1.f1,.string f2,.int .i64 f3,.slice A xs.length c] 31)).trans (hb1.mono (by simp))).mono hb.out.size)
   have hB1:=Lib.hid (bcell hb1 ((Below.heap_alloc _ _ _ hlb).trans hB.out))
   have HB1:=Lib.hid hn1
   clear hn1 hb1 c0 c1 c2 c3 c4 c5 c6 c7 c8 c9 c10 c11
   go_wp2_with fail
   go_roundg 1
   case measure=>omega
   case rel=>exact ⟨.inr (.inl ⟨rfl,rfl⟩),hB1,HB1⟩
  ·go_wp2_with fail
   refine (KY.out _ (hbw.alloc hbw.size _)).mono ?_
   rintro e w1 ⟨rfl,hb1⟩
   have hn1:=hb.out.trans ((((Below.refl wr.heap.size wr).alloc (Nat.le_refl _) (.cells #[.int .i64 g0,.string g1.f0,.string g1.f1,.string g2,.int .i64 g3,.slice Ay ys.length cy] 31)).trans (hb1.mono (by simp))).mono hb.out.size)
   have hB1:=Lib.hid (bcell hb1 ((Below.heap_alloc _ _ _ hlb).trans hB.out))
   have HB1:=Lib.hid hn1
   clear hn1 hb1 c0 c1 c2 c3 c4 c5 c6 c7 c8 c9 c10 c11
   go_wp2_with fail
   go_roundg 0
   case measure=>omega
   case rel=>exact ⟨.inr (.inr ⟨rfl,rfl⟩),hB1,HB1⟩
  ·clear c0 c1 c2 c3 c4 c5 c6 c7 c8 c9 c10 c11
   go_wp2_with fail
   refine (HN.out _).mono ?_
   rintro e w1 ⟨rfl,hb1⟩
   go_wp2_with (go_at_call 67;(with_reducible refine (fail_no 4 _).mono ?_);rintro e wq ⟨rfl,hq⟩;subst wq)
   have hn1:=hb.out.trans (hb1.mono hb.out.size)
   have HB1:=Lib.hid hn1
   have A0:=Lib.hid a0'
   have A1:=Lib.hid a1'
   have A2:=Lib.hid a2'
   have A3:=Lib.hid a3'
   clear hn1 hb1 hb hB hlb hbw a0' a1' a2' a3'
   cases R with
   | none =>
    refine wp_region_held_drew (S:=fun w'=>Below W4.heap.size W4 w') (by kernel_rfl) HB1.out.drew (fun hHeld=>?_)
    try dsimp only at hHeld
    refine wpAnyH_take (i:=0) (v:=.agg #[.int .i64 f0,.string f1.f0,.string f1.f1,.string f2,.int .i64 f3,.slice A xs.length c]) rfl (by kernel_rfl) (by kernel_rfl) (by kernel_rfl) (fun c a w=>put32 32 (by decide) (by decide) c a _ w) (Or.inl ⟨by rfl,?_⟩) (by assumption) ?_
    ·intro w' hSw
     (try dsimp only at hSw)
     obtain ⟨⟨c0,c1,c2,c3,c4,c5⟩,_,_⟩:=cells6 (bcell hSw A0.out)
     go_simp
     try (with_reducible rfl)
    try simp only [Act.put,List.setIfInBounds_toArray,List.set_cons_zero,List.set_cons_succ]
    refine wpAnyH_take (i:=1) (v:=.string name) rfl (by kernel_rfl) (by kernel_rfl) (by kernel_rfl) (fun c a w=>put32 33 (by decide) (by decide) c a _ w) (Or.inl ⟨by rfl,?_⟩) (by assumption) ?_
    ·intro w' hSw
     (try dsimp only at hSw)
     skip
     go_simp
     try (with_reducible rfl)
    try simp only [Act.put,List.setIfInBounds_toArray,List.set_cons_zero,List.set_cons_succ]
    refine wpAnyH_take (i:=2) (v:=.agg #[.int .i64 g0,.string g1.f0,.string g1.f1,.string g2,.int .i64 g3,.slice Ay ys.length cy]) rfl (by kernel_rfl) (by kernel_rfl) (by kernel_rfl) (fun c a w=>put32 34 (by decide) (by decide) c a _ w) (Or.inl ⟨by rfl,?_⟩) (by assumption) ?_
    ·intro w' hSw
     (try dsimp only at hSw)
     obtain ⟨⟨c0,c1,c2,c3,c4,c5⟩,_,_⟩:=cells6 (bcell hSw A1.out)
     go_simp
     try (with_reducible rfl)
    try simp only [Act.put,List.setIfInBounds_toArray,List.set_cons_zero,List.set_cons_succ]
    refine wpAnyH_take (i:=3) (v:=.agg #[.int .i64 g0,.string g1.f0,.string g1.f1,.string g2,.int .i64 g3,.slice Ay ys.length cy]) rfl (by kernel_rfl) (by kernel_rfl) (by kernel_rfl) (fun c a w=>put32 35 (by decide) (by decide) c a _ w) (Or.inl ⟨by rfl,?_⟩) (by assumption) ?_
    ·intro w' hSw
     (try dsimp only at hSw)
     obtain ⟨⟨c0,c1,c2,c3,c4,c5⟩,_,_⟩:=cells6 (bcell hSw A1.out)
     go_simp
     try (with_reducible rfl)
    try simp only [Act.put,List.setIfInBounds_toArray,List.set_cons_zero,List.set_cons_succ]
    refine wpAnyH_ready (rs:=[4,6]) (by kernel_rfl) (by simp) ?_
    refine AllReadyH.cons rfl (fun K hK=>?_) (AllReadyH.cons rfl (fun K hK=>?_) AllReadyH.nil)
    ·go_simp
     go_wp2_with (go_at_call 73;refine (HF.out _ (b4.trans (Below.mono hHeld b4.size))).mono ?_;rintro e wf ⟨b,rfl,hge,hm,hbf⟩)
     have hSf:=Below.trans hHeld (hbf.mono (Below.size hHeld))
     refine hK.out _ _ hSf (fun hHeldF=>?_)
     clear hK K hge
     try simp only [Act.put,List.setIfInBounds_toArray,List.set_cons_zero,List.set_cons_succ]
     refine wpAnyH_ready (rs:=[5,6]) (by kernel_rfl) (by simp) ?_
     refine AllReadyH.cons rfl (fun K hK=>?_) (AllReadyH.cons rfl (fun K hK=>?_) AllReadyH.nil)
     ·have hrr:=HP.out b _ _ (b4.trans (Below.mono hHeldF b4.size)) hm
      go_simp
      go_wp2_with (go_at_call 72;refine hrr.mono ?_;rintro e wp ⟨hbp,hres⟩;rcases hres with ⟨z,u,hz,-,-⟩ | ⟨-,he⟩;(· cases hz);unfold wrongAt at he;subst he)
      have hSp:=Below.trans hHeldF (hbp.mono (Below.size hHeldF))
      have hbwp:=b4.trans (hSp.mono b4.size)
      clear hrr hK K
      refine leaves_cons (f:=70) (args:=#[.pointer (some ⟨w.heap.size+1+1,0,none⟩),.pointer (some ⟨w.heap.size+1+1+1,0,none⟩)]) (by simp) (by simp [go_sem]) ?_
      refine (catch70_hit (w.heap.size+1+1) (w.heap.size+1+1+1) 15 (by decide) _ _ _ _ _ _ _ [] wp (bcell hSp A2.out) (bcell hSp A3.out) (by omega) (HG.out _ hbwp)).mono ?_
      rintro e u w3 ⟨rfl,rfl,hp3,hq3,hb3⟩
      obtain ⟨⟨t0,t1,t2,t3,t4,t5⟩,_,_⟩:=cells6 hp3
      have c0:=blk_cell hq3 0
      simp at c0
      have hfin:RplPost RR w (.returned (.tuple #[zA,.int .i64 15])) w3:=⟨hbwp.trans (hb3 _ (by omega) (by omega)),.inr ⟨15,by decide,HR.out,rfl⟩⟩
      simp [Leaves,settle,results,Tryz.results32,go_sem,t0,t1,t2,t3,t4,t5,c0,hfin]
     ·go_simp
      refine hK.out _ _ (Below.alloc hHeldF (Below.size hHeldF) _) (fun hHeldA=>?_)
      clear hK K
      try simp only [Act.put,List.setIfInBounds_toArray,List.set_cons_zero,List.set_cons_succ]
      refine wpAnyH_ready (rs:=[5]) (by kernel_rfl) (by simp) ?_
      refine AllReadyH.cons rfl (fun K hK=>?_) AllReadyH.nil
      have hrr:=HP.out b _ _ (b4.trans (Below.mono hHeldA b4.size)) (hm.alloc _)
      go_simp
      go_wp2_with (go_at_call 72;refine hrr.mono ?_;rintro e wp ⟨hbp,hres⟩;rcases hres with ⟨z,u,hz,-,-⟩ | ⟨-,he⟩;(· cases hz);unfold wrongAt at he;subst he)
      have hSp:=Below.trans hHeldA (hbp.mono (Below.size hHeldA))
      have hbwp:=b4.trans (hSp.mono b4.size)
      clear hrr hK K
      refine leaves_cons (f:=70) (args:=#[.pointer (some ⟨w.heap.size+1+1,0,none⟩),.pointer (some ⟨w.heap.size+1+1+1,0,none⟩)]) (by simp) (by simp [go_sem]) ?_
      refine (catch70_hit (w.heap.size+1+1) (w.heap.size+1+1+1) 15 (by decide) _ _ _ _ _ _ _ [] wp (bcell hSp A2.out) (bcell hSp A3.out) (by omega) (HG.out _ hbwp)).mono ?_
      rintro e u w3 ⟨rfl,rfl,hp3,hq3,hb3⟩
      obtain ⟨⟨t0,t1,t2,t3,t4,t5⟩,_,_⟩:=cells6 hp3
      have c0:=blk_cell hq3 0
      simp at c0
      have hfin:RplPost RR w (.returned (.tuple #[zA,.int .i64 15])) w3:=⟨hbwp.trans (hb3 _ (by omega) (by omega)),.inr ⟨15,by decide,HR.out,rfl⟩⟩
      simp [Leaves,settle,results,Tryz.results32,go_sem,t0,t1,t2,t3,t4,t5,c0,hfin]
    ·go_simp
     refine hK.out _ _ (Below.alloc hHeld (Below.size hHeld) _) (fun hHeldA=>?_)
     clear hK K
     try simp only [Act.put,List.setIfInBounds_toArray,List.set_cons_zero,List.set_cons_succ]
     refine wpAnyH_ready (rs:=[4]) (by kernel_rfl) (by simp) ?_
     refine AllReadyH.cons rfl (fun K hK=>?_) AllReadyH.nil
     go_simp
     go_wp2_with (go_at_call 73;refine (HF.out _ (b4.trans (Below.mono hHeldA b4.size))).mono ?_;rintro e wf ⟨b,rfl,hge,hm,hbf⟩)
     have hSf:=Below.trans hHeldA (hbf.mono (Below.size hHeldA))
     refine hK.out _ _ hSf (fun hHeldF=>?_)
     clear hK K hge
     try simp only [Act.put,List.setIfInBounds_toArray,List.set_cons_zero,List.set_cons_succ]
     refine wpAnyH_ready (rs:=[5]) (by kernel_rfl) (by simp) ?_
     refine AllReadyH.cons rfl (fun K hK=>?_) AllReadyH.nil
     have hrr:=HP.out b _ _ (b4.trans (Below.mono hHeldF b4.size)) hm
     go_simp
     go_wp2_with (go_at_call 72;refine hrr.mono ?_;rintro e wp ⟨hbp,hres⟩;rcases hres with ⟨z,u,hz,-,-⟩ | ⟨-,he⟩;(· cases hz);unfold wrongAt at he;subst he)
     have hSp:=Below.trans hHeldF (hbp.mono (Below.size hHeldF))
     have hbwp:=b4.trans (hSp.mono b4.size)
     clear hrr hK K
     refine leaves_cons (f:=70) (args:=#[.pointer (some ⟨w.heap.size+1+1,0,none⟩),.pointer (some ⟨w.heap.size+1+1+1,0,none⟩)]) (by simp) (by simp [go_sem]) ?_
     refine (catch70_hit (w.heap.size+1+1) (w.heap.size+1+1+1) 15 (by decide) _ _ _ _ _ _ _ [] wp (bcell hSp A2.out) (bcell hSp A3.out) (by omega) (HG.out _ hbwp)).mono ?_
     rintro e u w3 ⟨rfl,rfl,hp3,hq3,hb3⟩
     obtain ⟨⟨t0,t1,t2,t3,t4,t5⟩,_,_⟩:=cells6 hp3
     have c0:=blk_cell hq3 0
     simp at c0
     have hfin:RplPost RR w (.returned (.tuple #[zA,.int .i64 15])) w3:=⟨hbwp.trans (hb3 _ (by omega) (by omega)),.inr ⟨15,by decide,HR.out,rfl⟩⟩
     simp [Leaves,settle,results,Tryz.results32,go_sem,t0,t1,t2,t3,t4,t5,c0,hfin]
   | some z =>
    go_cut [11] from 11 to 43 (fun v11 wc=>∃ (ad:Nat) (v5:Value),v11=.pointer (some ⟨ad,0,none⟩)∧W4.heap.size≤ad∧Hid (wc.heap[ad]?=some (.cells #[.int .i64 z.f0,.string z.f1.f0,.string z.f1.f1,.string z.f2,.int .i64 z.f3,v5] 31 (0,0)))∧Hid (Ex wc (From W4.heap.size) z (exV z v5))∧Hid (Below W4.heap.size W4 wc))
    case first =>
     refine wp_region_held_drew (S:=fun w'=>Below W4.heap.size W4 w') (by kernel_rfl) HB1.out.drew (fun hHeld=>?_)
     try dsimp only at hHeld
     refine wpAnyH_take (i:=0) (v:=.agg #[.int .i64 f0,.string f1.f0,.string f1.f1,.string f2,.int .i64 f3,.slice A xs.length c]) rfl (by kernel_rfl) (by kernel_rfl) (by kernel_rfl) (fun c a w=>put32 32 (by decide) (by decide) c a _ w) (Or.inl ⟨by rfl,?_⟩) (by assumption) ?_
     ·intro w' hSw
      (try dsimp only at hSw)
      obtain ⟨⟨c0,c1,c2,c3,c4,c5⟩,_,_⟩:=cells6 (bcell hSw A0.out)
      go_simp
      try (with_reducible rfl)
     try simp only [Act.put,List.setIfInBounds_toArray,List.set_cons_zero,List.set_cons_succ]
     refine wpAnyH_take (i:=1) (v:=.string name) rfl (by kernel_rfl) (by kernel_rfl) (by kernel_rfl) (fun c a w=>put32 33 (by decide) (by decide) c a _ w) (Or.inl ⟨by rfl,?_⟩) (by assumption) ?_
     ·intro w' hSw
      (try dsimp only at hSw)
      skip
      go_simp
      try (with_reducible rfl)
     try simp only [Act.put,List.setIfInBounds_toArray,List.set_cons_zero,List.set_cons_succ]
     refine wpAnyH_take (i:=2) (v:=.agg #[.int .i64 g0,.string g1.f0,.string g1.f1,.string g2,.int .i64 g3,.slice Ay ys.length cy]) rfl (by kernel_rfl) (by kernel_rfl) (by kernel_rfl) (fun c a w=>put32 34 (by decide) (by decide) c a _ w) (Or.inl ⟨by rfl,?_⟩) (by assumption) ?_
     ·intro w' hSw
      (try dsimp only at hSw)
      obtain ⟨⟨c0,c1,c2,c3,c4,c5⟩,_,_⟩:=cells6 (bcell hSw A1.out)
      go_simp
      try (with_reducible rfl)
     try simp only [Act.put,List.setIfInBounds_toArray,List.set_cons_zero,List.set_cons_succ]
     refine wpAnyH_take (i:=3) (v:=.agg #[.int .i64 g0,.string g1.f0,.string g1.f1,.string g2,.int .i64 g3,.slice Ay ys.length cy]) rfl (by kernel_rfl) (by kernel_rfl) (by kernel_rfl) (fun c a w=>put32 35 (by decide) (by decide) c a _ w) (Or.inl ⟨by rfl,?_⟩) (by assumption) ?_
     ·intro w' hSw
      (try dsimp only at hSw)
      obtain ⟨⟨c0,c1,c2,c3,c4,c5⟩,_,_⟩:=cells6 (bcell hSw A1.out)
      go_simp
      try (with_reducible rfl)
     try simp only [Act.put,List.setIfInBounds_toArray,List.set_cons_zero,List.set_cons_succ]
     refine wpAnyH_ready (rs:=[4,6]) (by kernel_rfl) (by simp) ?_
     refine AllReadyH.cons rfl (fun K hK=>?_) (AllReadyH.cons rfl (fun K hK=>?_) AllReadyH.nil)
     ·go_simp
      go_wp2_with (go_at_call 73;refine (HF.out _ (b4.trans (Below.mono hHeld b4.size))).mono ?_;rintro e wf ⟨b,rfl,hge,hm,hbf⟩)
      have hSf:=Below.trans hHeld (hbf.mono (Below.size hHeld))
      refine hK.out _ _ hSf (fun hHeldF=>?_)
      clear hK K hge
      try simp only [Act.put,List.setIfInBounds_toArray,List.set_cons_zero,List.set_cons_succ]
      refine wpAnyH_ready (rs:=[5,6]) (by kernel_rfl) (by simp) ?_
      refine AllReadyH.cons rfl (fun K hK=>?_) (AllReadyH.cons rfl (fun K hK=>?_) AllReadyH.nil)
      ·have hrr:=HP.out b _ _ (b4.trans (Below.mono hHeldF b4.size)) hm
       go_simp
       go_wp2_with (go_at_call 72;refine hrr.mono ?_;rintro e wp ⟨hbp,hres⟩;obtain ⟨z',u,hz',rfl,hu⟩:=hres.resolve_right (by rintro ⟨h,-⟩;cases h);obtain rfl:=Option.some.inj hz';obtain ⟨v5,A6,n6,c6,rfl,rfl,_,hMu⟩:=hu.cells)
       have hSp:=Below.trans hHeldF (hbp.mono (Below.size hHeldF))
       refine hK.out _ _ hSp (fun hHeldP=>?_)
       clear hrr hK K hMu hz'
       try unfold exV
       try simp only [Act.put,List.setIfInBounds_toArray,List.set_cons_zero,List.set_cons_succ]
       refine wpAnyH_ready (rs:=[6]) (by kernel_rfl) (by simp) ?_
       refine AllReadyH.cons rfl (fun K hK=>?_) AllReadyH.nil
       go_simp
       refine hK.out _ _ (Below.alloc hHeldP (Below.size hHeldP) _) (fun hHeldA=>?_)
       clear hK K
       try simp only [Act.put,List.setIfInBounds_toArray,List.set_cons_zero,List.set_cons_succ]
       have hblk:=blk_new wp (.cells #[.int .i64 0,.string ⟨#[]⟩,.string ⟨#[]⟩,.string ⟨#[]⟩,.int .i64 0,.slice none 0 0] 31)
       have had:W4.heap.size≤wp.heap.size:=Below.size hHeldP
       obtain ⟨⟨t0,t1,t2,t3,t4,t5⟩,⟨o0,o1,o2,o3,o4,o5⟩,tl⟩:=cells6 hblk
       have hfin:=blk_new wp (.cells #[.int .i64 z.f0,.string z.f1.f0,.string z.f1.f1,.string z.f2,.int .i64 z.f3,.slice A6 n6 c6] 31)
       have hbf:=Below.alloc hHeldP (Below.size hHeldP) (.cells #[.int .i64 z.f0,.string z.f1.f0,.string z.f1.f1,.string z.f2,.int .i64 z.f3,.slice A6 n6 c6] 31)
       have hex:=hu.below ((Below.refl _ wp).alloc (Nat.le_refl _) (.cells #[.int .i64 z.f0,.string z.f1.f0,.string z.f1.f1,.string z.f2,.int .i64 z.f3,.slice A6 n6 c6] 31))
       have HFI:=Lib.hid hfin
       have HBF:=Lib.hid hbf
       have HEX:=Lib.hid hex
       have HAD:=Lib.hid had
       have HSF:=Lib.hid (Below.size hHeldF)
       clear hfin hbf hex
       refine wpAnyH_ready (rs:=[7]) (by kernel_rfl) (by simp) ?_
       refine AllReadyH.cons rfl (fun K hK=>?_) AllReadyH.nil
       go_simp
       refine hK.out _ _ HBF.out (fun hHeldZ=>?_)
       clear hK K
       refine wpAnyH_done (by kernel_rfl) ?_ _
       go_wp2_with fail
       go_meet
       exact ⟨_,_,rfl,HAD.out,HFI,Lib.hid (HEX.out.mono (fun k hk=>Nat.le_trans HSF.out hk)),HBF⟩
      ·go_simp
       refine hK.out _ _ (Below.alloc hHeldF (Below.size hHeldF) _) (fun hHeldA=>?_)
       clear hK K
       try simp only [Act.put,List.setIfInBounds_toArray,List.set_cons_zero,List.set_cons_succ]
       refine wpAnyH_ready (rs:=[5]) (by kernel_rfl) (by simp) ?_
       refine AllReadyH.cons rfl (fun K hK=>?_) AllReadyH.nil
       have hrr:=HP.out b _ _ (b4.trans (Below.mono hHeldA b4.size)) (hm.alloc _)
       go_simp
       go_wp2_with (go_at_call 72;refine hrr.mono ?_;rintro e wp ⟨hbp,hres⟩;obtain ⟨z',u,hz',rfl,hu⟩:=hres.resolve_right (by rintro ⟨h,-⟩;cases h);obtain rfl:=Option.some.inj hz';obtain ⟨v5,A6,n6,c6,rfl,rfl,_,hMu⟩:=hu.cells)
       have hSp:=Below.trans hHeldA (hbp.mono (Below.size hHeldA))
       refine hK.out _ _ hSp (fun hHeldP=>?_)
       clear hrr hK K hMu hz'
       try unfold exV
       try simp only [Act.put,List.setIfInBounds_toArray,List.set_cons_zero,List.set_cons_succ]
       have hblk:=bcell hbp (blk_new wf (.cells #[.int .i64 0,.string ⟨#[]⟩,.string ⟨#[]⟩,.string ⟨#[]⟩,.int .i64 0,.slice none 0 0] 31))
       have had:W4.heap.size≤wf.heap.size:=Below.size hHeldF
       obtain ⟨⟨t0,t1,t2,t3,t4,t5⟩,⟨o0,o1,o2,o3,o4,o5⟩,tl⟩:=cells6 hblk
       have hfin:=fin6 (.int .i64 z.f0) (.string z.f1.f0) (.string z.f1.f1) (.string z.f2) (.int .i64 z.f3) (.slice A6 n6 c6) hblk
       have hbz:=below6 hHeldP had (.int .i64 z.f0) (.string z.f1.f0) (.string z.f1.f1) (.string z.f2) (.int .i64 z.f3) (.slice A6 n6 c6)
       have hex:=(hu.old (S':=fun k=>W4.heap.size≤k∧k≠wf.heap.size) (fun k hk hlt=>⟨Nat.le_trans (Below.size hHeldA) hk,by simp only [From,World.size_alloc] at hk;omega⟩)).set6 (fun k hk=>hk.2) (.int .i64 z.f0) (.string z.f1.f0) (.string z.f1.f1) (.string z.f2) (.int .i64 z.f3) (.slice A6 n6 c6)
       have HFI:=Lib.hid hfin
       have HBF:=Lib.hid hbz
       have HEX:=Lib.hid hex
       have HAD:=Lib.hid had
       clear hfin hbz hex
       refine wpAnyH_ready (rs:=[7]) (by kernel_rfl) (by simp) ?_
       refine AllReadyH.cons rfl (fun K hK=>?_) AllReadyH.nil
       go_simp
       refine hK.out _ _ HBF.out (fun hHeldZ=>?_)
       clear hK K
       refine wpAnyH_done (by kernel_rfl) ?_ _
       go_wp2_with fail
       go_meet
       exact ⟨_,_,rfl,HAD.out,HFI,Lib.hid (HEX.out.mono (fun k hk=>hk.1)),HBF⟩
     ·go_simp
      refine hK.out _ _ (Below.alloc hHeld (Below.size hHeld) _) (fun hHeldA=>?_)
      clear hK K
      try simp only [Act.put,List.setIfInBounds_toArray,List.set_cons_zero,List.set_cons_succ]
      refine wpAnyH_ready (rs:=[4]) (by kernel_rfl) (by simp) ?_
      refine AllReadyH.cons rfl (fun K hK=>?_) AllReadyH.nil
      go_simp
      go_wp2_with (go_at_call 73;refine (HF.out _ (b4.trans (Below.mono hHeldA b4.size))).mono ?_;rintro e wf ⟨b,rfl,hge,hm,hbf⟩)
      have hSf:=Below.trans hHeldA (hbf.mono (Below.size hHeldA))
      refine hK.out _ _ hSf (fun hHeldF=>?_)
      clear hK K hge
      try simp only [Act.put,List.setIfInBounds_toArray,List.set_cons_zero,List.set_cons_succ]
      refine wpAnyH_ready (rs:=[5]) (by kernel_rfl) (by simp) ?_
      refine AllReadyH.cons rfl (fun K hK=>?_) AllReadyH.nil
      have hrr:=HP.out b _ _ (b4.trans (Below.mono hHeldF b4.size)) hm
      go_simp
      go_wp2_with (go_at_call 72;refine hrr.mono ?_;rintro e wp ⟨hbp,hres⟩;obtain ⟨z',u,hz',rfl,hu⟩:=hres.resolve_right (by rintro ⟨h,-⟩;cases h);obtain rfl:=Option.some.inj hz';obtain ⟨v5,A6,n6,c6,rfl,rfl,_,hMu⟩:=hu.cells)
      have hSp:=Below.trans hHeldF (hbp.mono (Below.size hHeldF))
      refine hK.out _ _ hSp (fun hHeldP=>?_)
      clear hrr hK K hMu hz'
      try unfold exV
      try simp only [Act.put,List.setIfInBounds_toArray,List.set_cons_zero,List.set_cons_succ]
      have hblk0:(w1.alloc (.cells #[.int .i64 0,.string ⟨#[]⟩,.string ⟨#[]⟩,.string ⟨#[]⟩,.int .i64 0,.slice none 0 0] 31)).drew.heap[w1.heap.size]?=some (.cells #[.int .i64 0,.string ⟨#[]⟩,.string ⟨#[]⟩,.string ⟨#[]⟩,.int .i64 0,.slice none 0 0] 31 (0,0)):=blk_new w1 (.cells #[.int .i64 0,.string ⟨#[]⟩,.string ⟨#[]⟩,.string ⟨#[]⟩,.int .i64 0,.slice none 0 0] 31)
      have hblk:=bcell hbp (bcell hbf hblk0)
      have had:W4.heap.size≤w1.heap.size:=HB1.out.size
      obtain ⟨⟨t0,t1,t2,t3,t4,t5⟩,⟨o0,o1,o2,o3,o4,o5⟩,tl⟩:=cells6 hblk
      have hfin:=fin6 (.int .i64 z.f0) (.string z.f1.f0) (.string z.f1.f1) (.string z.f2) (.int .i64 z.f3) (.slice A6 n6 c6) hblk
      have hbz:=below6 hHeldP had (.int .i64 z.f0) (.string z.f1.f0) (.string z.f1.f1) (.string z.f2) (.int .i64 z.f3) (.slice A6 n6 c6)
      have hex:=(hu.old (S':=fun k=>W4.heap.size≤k∧k≠w1.heap.size) (fun k hk hlt=>⟨Nat.le_trans (Below.size hHeldF) hk,ne_p3 hbf.size hk⟩)).set6 (fun k hk=>hk.2) (.int .i64 z.f0) (.string z.f1.f0) (.string z.f1.f1) (.string z.f2) (.int .i64 z.f3) (.slice A6 n6 c6)
      have HFI:=Lib.hid hfin
      have HBF:=Lib.hid hbz
      have HEX:=Lib.hid hex
      have HAD:=Lib.hid had
      clear hfin hbz hex
      refine wpAnyH_ready (rs:=[7]) (by kernel_rfl) (by simp) ?_
      refine AllReadyH.cons rfl (fun K hK=>?_) AllReadyH.nil
      go_simp
      refine hK.out _ _ HBF.out (fun hHeldZ=>?_)
      clear hK K
      refine wpAnyH_done (by kernel_rfl) ?_ _
      go_wp2_with fail
      go_meet
      exact ⟨_,_,rfl,HAD.out,HFI,Lib.hid (HEX.out.mono (fun k hk=>hk.1)),HBF⟩
    case rest =>
     obtain ⟨ad,v5,rfl,hge,hbz,hex,hbw⟩:=hcut
     obtain ⟨_,A6,n6,c6,h5,rfl,_,_⟩:=hex.out.cells
     obtain rfl:=exV_inj h5
     obtain ⟨⟨t0,t1,t2,t3,t4,t5⟩,_,tl⟩:=cells6 hbz.out
     have hdz:=HD.out z rfl
     have hd:=hdz _ wc hex.out.vw
     have hrz0:=HR.out
     simp only at hrz0
     have HRZ:=Lib.hid hrz0
     clear hrz0 HR
     generalize depthX z=dz at *
     unfold exV at hd
     have hfld:=field100 (nodesX z) dz
     clear h5 hdz HD HP HF HN KX KY
     go_wp2_with fail
     refine hd.mono ?_
     rintro e w5 ⟨rfl,hb5⟩
     have hz5:=bcell hb5 hbz.out
     clear t0 t1 t2 t3 t4 t5 hd
     obtain ⟨⟨t0,t1,t2,t3,t4,t5⟩,_,_⟩:=cells6 hz5
     have hbw5:=hbw.out.trans (hb5.mono hbw.out.size)
     have hbw0:=b4.trans (hbw5.mono b4.size)
     have r2:=bcell hbw5 A2.out
     have r3:=bcell hbw5 A3.out
     by_cases hdeep:30 < dz
     ·have hrz:=HRZ.out
      rw [if_pos hdeep] at hrz
      have hi:decide ((30:Int) < (dz:Int))=true:=decide_eq_true (by omega)
      have hy7:=Lib.hid (fail_yes' 7)
      have RZ:=Lib.hid hrz
      clear hrz HRZ
      clear hdeep
      go_wp2_with (go_at_call 67;(with_reducible refine (hy7.out _).mono ?_);rintro e wq ⟨rfl,hq⟩;subst wq)
      refine leaves_cons (f:=70) (args:=#[.pointer (some ⟨w.heap.size+1+1,0,none⟩),.pointer (some ⟨w.heap.size+1+1+1,0,none⟩)]) (by simp) (by simp [go_sem]) ?_
      refine (catch70_hit (w.heap.size+1+1) (w.heap.size+1+1+1) 7 (by decide) _ _ _ _ _ _ _ [] w5 r2 r3 (by omega) (HG.out _ hbw0)).mono ?_
      rintro e u w3 ⟨rfl,rfl,hp3,hq3,hb3⟩
      obtain ⟨⟨s0,s1,s2,s3,s4,s5⟩,_,_⟩:=cells6 hp3
      have c0:=blk_cell hq3 0
      simp at c0
      have hfin:RplPost RR w (.returned (.tuple #[zA,.int .i64 7])) w3:=⟨hbw0.trans (hb3 _ (by omega) (by omega)),.inr ⟨7,by decide,RZ.out,rfl⟩⟩
      simp [Leaves,settle,results,Tryz.results32,go_sem,s0,s1,s2,s3,s4,s5,c0,hfin]
     ·have hrz:=HRZ.out
      rw [if_neg hdeep] at hrz
      have hi:decide ((30:Int) < (dz:Int))=false:=decide_eq_false (by omega)
      clear hdeep
      obtain ⟨⟨p0,p1,p2,p3,p4,p5⟩,⟨o0,o1,o2,o3,o4,o5⟩,pl⟩:=cells6 r2
      have q0:=blk_cell r3 0
      have q1:=blk_frozen r3 0
      have hfin1:=fin6 (.int .i64 z.f0) (.string z.f1.f0) (.string z.f1.f1) (.string z.f2) (.int .i64 z.f3) (.slice A6 n6 c6) r2
      have hg6:=grown6 (X:=w5) (w.heap.size+1+1) (.int .i64 z.f0) (.string z.f1.f0) (.string z.f1.f1) (.string z.f2) (.int .i64 z.f3) (.slice A6 n6 c6)
      have hb6:=below6 hbw0 (show w.heap.size≤w.heap.size+1+1 by omega) (.int .i64 z.f0) (.string z.f1.f0) (.string z.f1.f1) (.string z.f2) (.int .i64 z.f3) (.slice A6 n6 c6)
      have hq3:=(hg6.block _ (blk_lt r3) (fun e=>by injection e with e;omega)).trans r3
      have hex6:=((hex.out.below hb5).set6 (R:=w.heap.size+1+1) (fun k hk=>by simp only [From] at hk;omega) (.int .i64 z.f0) (.string z.f1.f0) (.string z.f1.f1) (.string z.f2) (.int .i64 z.f3) (.slice A6 n6 c6)).grown (Lib.grownBy_setCell _ (w.heap.size+1+1+1) 0 (.int .i64 0)) (fun k hk=>by simp only [From] at hk;omega)
      have hp4:=(Below.heap_setCell _ ⟨w.heap.size+1+1+1,0,none⟩ (.int .i64 0) (w.heap.size+1+1) (by simp only;omega)).trans hfin1
      have hq4:=blk_set hq3 0 (.int .i64 0)
      have hb7:=hb6.setCell (p:=⟨w.heap.size+1+1+1,0,none⟩) (show w.heap.size≤w.heap.size+1+1+1 by omega) (.int .i64 0)
      have P4:=Lib.hid hp4
      have Q4:=Lib.hid hq4
      have B7:=Lib.hid hb7
      have E6:=Lib.hid (hex6.mono (S':=From w.heap.size) (fun k hk=>by simp only [From] at hk ⊢;omega))
      have RZ:=Lib.hid hrz
      clear hfin1 hg6 hb6 hq3 hex6 hp4 hq4 hb7 hrz HRZ
      go_wp2_with (go_at_call 67;(with_reducible refine (fail_no 7 _).mono ?_);rintro e wq ⟨rfl,hq⟩;subst wq)
      refine leaves_cons (f:=70) (args:=#[.pointer (some ⟨w.heap.size+1+1,0,none⟩),.pointer (some ⟨w.heap.size+1+1+1,0,none⟩)]) (by simp) (by simp [go_sem]) ?_
      refine (catch70_idle _ _ _).mono ?_
      rintro e u w3 ⟨rfl,rfl,rfl⟩
      obtain ⟨⟨s0,s1,s2,s3,s4,s5⟩,_,_⟩:=cells6 P4.out
      have c0:=blk_cell Q4.out 0
      have hfin:RplPost RR w (.returned (.tuple #[exV z (.slice A6 n6 c6),.int .i64 0])) _:=⟨B7.out,.inl ⟨z,_,RZ.out,rfl,E6.out⟩⟩
      exact leaves_end rfl rfl P4.out Q4.out hfin
end Go.Proofs.YtjaobihcdkjmbaaGreatDoor
end
section
namespace Go.Proofs.YtjaobihcdkjmbaaGreatDoor
open Go.RowKit Go.Maps Go.Proofs.YtjaobihcdkjmbaaGreatDoorW.PrintWords Go.Proofs.YtjaobihcdkjmbaaGreatDoor.PReadTokens
structure Fine (x:S31):Prop where
 chk:chkE x=0
 ok:OkX x
 nodes:nodesX x≤100000
 sz:szB x=true
 small:smallB x=true
theorem made_fine (n:Nat) (hn:n≤3) (x:S31) (h:Made n x):Fine x:=by
 have h1:=made_depth n x h
 have h2:=made_nodes n x h
 have h3:nodesM n≤100000:=by
  rcases (show n=0∨n=1∨n=2∨n=3 by omega) with rfl | rfl | rfl | rfl <;> decide
 exact ⟨(chk_iff x).2 ⟨made_ok n x h,by omega⟩,made_ok n x h,by omega,(made_small n x h).2,(made_small n x h).1⟩
theorem made_few (n:Nat) (hn:n≤3) (x:S31) (h:Made n x):nodesX x≤200:=by
 have h2:=made_nodes n x h
 have h3:nodesM n≤200:=by
  rcases (show n=0∨n=1∨n=2∨n=3 by omega) with rfl | rfl | rfl | rfl <;> decide
 omega
structure Behind (name:ByteArray) (x y z:S31):Prop where
 fine:Fine z
 count:(nodesX z:Int)=(nodesX x:Int)+(cntX name x:Int) * ((nodesX y:Int) - 1)
 few:cntX name x≤200
 free:∀ t,has (freeG z) (nmL t)=true↔((has (freeG x) (nmL t)=true∧t≠name)∨(has (freeG x) (nmL name)=true∧has (freeG y) (nmL t)=true))
theorem repl_bound {name:ByteArray} {x y z:S31} (hx:Made 3 x) (hy:Made 1 y) (h:replS name y (freeG y) x=some z):nodesX z≤40200:=by
 have h1:=repl_nodes name y (freeG y) _ x z (Nat.le_refl _) (ok_ref _ x (Nat.le_refl _) (made_ok 3 x hx)) h
 have h2:=cnt_le name _ x (Nat.le_refl _)
 have h3:=made_few 3 (by omega) x hx
 have h4:=made_few 1 (by omega) y hy
 have h5:cntX name x * nodesX y≤200 * 200:=Nat.mul_le_mul (by omega) h4
 omega
theorem behind {name:ByteArray} {x y z:S31} (hx:Made 3 x) (hy:Made 1 y) (h:replS name y (freeG y) x=some z) (hd:depthX z≤30):Behind name x y z:=by
 have fx:=made_fine 3 (by omega) x hx
 have fy:=made_fine 1 (by omega) y hy
 have hb:=repl_bound hx hy h
 have hok:=repl_ok fx.ok fy.ok h
 have hr:=ok_ref _ x (Nat.le_refl _) fx.ok
 have h1:=repl_nodes name y (freeG y) _ x z (Nat.le_refl _) hr h
 have h2:=cnt_le name _ x (Nat.le_refl _)
 have h3:=made_few 3 (by omega) x hx
 refine ⟨⟨(chk_iff z).2 ⟨hok,hd⟩,hok,by omega,repl_sz fx.sz fy.sz h,repl_small fx.small fy.small h⟩,?_,by omega,fun t=>repl_free name y fy.small t _ x z (Nat.le_refl _) fx.small hr h⟩
 have h6:((nodesX z+cntX name x:Nat):Int)=((nodesX x+cntX name x * nodesX y:Nat):Int):=by rw [h1]
 rw [Int.natCast_add,Int.natCast_add,Int.natCast_mul] at h6
 rw [Int.mul_sub,Int.mul_one]
 omega
theorem replR_cases {name:ByteArray} {x y:S31} (hx:Made 3 x) (hy:Made 1 y):(∀ z,replR name y x=(some z,0)→Behind name x y z)∧(∀ n,replR name y x=(none,n)→n=15∨n=7):=by
 unfold replR
 cases h:replS name y (freeG y) x with
 | none =>
  refine ⟨fun z hz=>?_,fun n hn=>?_⟩
  ·simp at hz
  ·simp at hn;exact .inl hn.symm
 | some z =>
  by_cases hd:30 < depthX z
  ·simp only [if_pos hd]
   refine ⟨fun z hz=>?_,fun n hn=>?_⟩
   ·simp at hz
   ·simp at hn;exact .inr hn.symm
  ·simp only [if_neg hd]
   refine ⟨fun z' hz=>?_,fun n hn=>?_⟩
   ·simp at hz
    subst hz
    exact behind hx hy h (by omega)
   ·simp at hn
theorem Replace_made (name:ByteArray) (hname:name ∈ nameL) (x y:S31) (hx:Made 3 x) (hy:Made 1 y) (vx vy:Value) (w:World) (hvx:Vw w x vx) (hvy:Vw w y vy) (hS:Start w) :
  Calls Tryz.prog 32 #[vx,.string name,vy] w fun e w'=>Below w.heap.size w w'∧((∃ z u,Behind name x y z∧e=.returned (.tuple #[u,.int .i64 0])∧Ex w' (From w.heap.size) z u)∨(∃ n,(n=15∨n=7)∧e=.returned (.tuple #[zA,.int .i64 n]))):=by
 have fx:=made_fine 3 (by omega) x hx
 have fy:=made_fine 1 (by omega) y hy
 have nx:=fx.nodes
 have ny:=fy.nodes
 have hs:=nameL_size hname
 obtain ⟨k1,k2⟩:=replR_cases (name:=name) hx hy
 refine (Replace_calls name (by omega) (names_ok hname) x y fx.chk fy.chk (by omega) (by omega) fx.sz fy.sz fx.small fy.small (fun z h=>by have:=repl_bound hx hy h;omega) vx vy w hvx hvy hS).mono ?_
 rintro e w' ⟨hb,⟨z,u,hz,he,hu⟩ | ⟨n,hn,hz,he⟩⟩
 ·exact ⟨hb,.inl ⟨z,u,k1 z hz,he,hu⟩⟩
 ·exact ⟨hb,.inr ⟨n,k2 n hz,he⟩⟩
end Go.Proofs.YtjaobihcdkjmbaaGreatDoor
end
section
namespace Go.Proofs.YtjaobihcdkjmbaaGreatDoor
open Go.RowKit Go.Maps Go.Sort Go.WideShapes Go.Proofs.YtjaobihcdkjmbaaGreatDoorW.PrintWords Go.Proofs.YtjaobihcdkjmbaaGreatDoor.PReadTokens
theorem mem_keys {D:DataW Unit} (h:SetD D) (t:ByteArray):t.data.toList ∈ strKeys D↔has D (nmL t)=true:=by
 obtain ⟨es,rfl,hs,hk⟩:=h.keys
 rw [has_eq,List.any_eq_true]
 show t.data.toList ∈ es.map (fun p=>strOf p.1)↔_
 rw [List.mem_map]
 constructor
 ·rintro ⟨p,hp,h1⟩
  refine ⟨p,hp,?_⟩
  obtain ⟨v,hv⟩:=hk p hp
  obtain ⟨y,_,hy,_⟩:=Maps.keyOf_str Tryz.underlying9 hv
  have e:p.1=nmL t:=by rw [hy] at h1 ⊢;simp only [strOf] at h1;rw [h1]
  rw [e]
  exact WideAt.sameKey_self (e ▸ law9.one.key ⟨v,hv⟩)
 ·rintro ⟨p,hp,h1⟩
  refine ⟨p,hp,?_⟩
  rw [WideAt.sameKey_eq h1]
  rfl
def asText (b:List UInt8):ByteArray:=⟨b.toArray⟩
theorem enc_text (ss:List (List UInt8)):ss.map encStr=(ss.map asText).map Value.string:=by
 rw [List.map_map]
 rfl
theorem own_len {w:World} {base n:Nat} {v:Value} {xs:List Value} (h:w.ownsRow base 9 1 v n xs):n≤9223372036854775807:=by
 rcases h with ⟨h1,h2 | ⟨B,c,cur,_,_,_,h3,h4,_⟩⟩
 ·omega
 ·unfold maxLen at h4;omega
def NamPost (D:DataW Unit) (w:World) (e:Ending) (w':World):Prop :=
 ∃ A c,∃ xs:List ByteArray,e=.returned (.tuple #[.slice A xs.length c,.int .i64 0])∧xs.length≤c∧xs.length≤9223372036854775807∧(∀ t,t ∈ xs↔has D (nmL t)=true)∧Kd.C Kd.string w' A xs.length xs∧Below w.heap.size w w'
theorem Free_names (x:S31) (hc0:chkE x=0) (hn:nodesX x≤1000000000) (hsz:szB x=true) (hsm:smallB x=true) (v:Value) (w:World) (hv:Vw w x v) (hS:Start w) :
  Calls Tryz.prog 33 #[v] w (NamPost (freeG x) w):=by
 refine (Free_calls x hc0 hn hsz hsm v w hv hS).mono ?_
 rintro e w' ⟨u,ss,base,rfl,hp,hrow,hb,hbb⟩
 have hset:=freeG_set _ x (Nat.le_refl _) hsm
 have hlen:=own_len hrow
 rw [enc_text] at hrow
 have hl2:((ss.mergeSort (fun x y=>decide (x≤y))).map asText).length=ss.length:=by rw [List.length_map,List.length_mergeSort]
 have hrow2:w'.ownsRow base 9 1 u ((ss.mergeSort (fun x y=>decide (x≤y))).map asText).length (((ss.mergeSort (fun x y=>decide (x≤y))).map asText).map Value.string):=by rw [hl2];exact hrow
 obtain ⟨A,c,rfl,h1,h2⟩:=own_texts hrow2
 refine ⟨A,c,_,rfl,h1,by rw [hl2];exact hlen,fun t=>?_,h2,hbb⟩
 rw [← mem_keys hset t,← hp.mem_iff,List.mem_map]
 constructor
 ·rintro ⟨b,hb1,rfl⟩
  have:=List.mem_mergeSort.1 hb1
  simpa [asText] using this
 ·intro h
  exact ⟨t.data.toList,List.mem_mergeSort.2 h,by simp [asText]⟩
end Go.Proofs.YtjaobihcdkjmbaaGreatDoor
end
section
namespace Go.Proofs.YtjaobihcdkjmbaaGreatDoor
open Go.RowKit Go.Proofs.YtjaobihcdkjmbaaGreatDoorW.PrintWords Go.Proofs.YtjaobihcdkjmbaaGreatDoor.PReadTokens
abbrev Tk:=Int × ByteArray
abbrev RI (α:Type):=Except Nat (α × Nat)
section
variable (st:Nat→Tk) (chk:S28→Int)
variable (L:Nat)
end
def mapE {α:Type} (ts:List S47) (en:Nat):RI α→Except Int (α × Nat)
 | .error j=>.error (atP ts en j)
 | .ok p=>.ok p
section
variable {ts:List S47} {en:Nat} {chk:S28→Int}
variable {exI:Nat→RI S31} {ex:Nat→PR} (h:∀ n,mapE ts en (exI n)=ex n)
end
end Go.Proofs.YtjaobihcdkjmbaaGreatDoor
end
section
namespace Go.Proofs.YtjaobihcdkjmbaaGreatDoor
open Go.RowKit Go.Proofs.YtjaobihcdkjmbaaGreatDoorW.PrintWords Go.Proofs.YtjaobihcdkjmbaaGreatDoor.PReadTokens
def High {α:Type} (k:Nat):RI α→Prop
 | .error j=>k≤j
 | .ok (_,n)=>k≤n
theorem High.le {α:Type} {k m:Nat} {r:RI α} (h:High k r) (hm:m≤k):High m r:=by
 cases r with
 | error j=>exact Nat.le_trans hm h
 | ok p=>exact Nat.le_trans hm h
section
variable (st:Nat→Tk) (chk:S28→Int) (L:Nat)
variable {ex:Nat→RI S31} (h:∀ n,High n (ex n))
include h
end
def Loc {α:Type} (k:Nat) (r r':RI α):Prop:=r=r'∨(High k r∧High k r')
section
variable {st st':Nat→Tk} {chk:S28→Int} {k lo L L':Nat} (hs:∀ n,n < k→st n=st' n)
include hs
variable {ex ex':Nat→RI S31} (h:∀ n,High n (ex n)) (h':∀ n,High n (ex' n)) (hx:∀ n,lo < n→Loc k (ex n) (ex' n))
include h h' hx
variable (hL:k≤lo+L) (hL':k≤lo+L')
include hL hL'
end
end Go.Proofs.YtjaobihcdkjmbaaGreatDoor
end
section
namespace Go.Proofs.YtjaobihcdkjmbaaGreatDoor
open Go.RowKit Go.Proofs.YtjaobihcdkjmbaaGreatDoorW.PrintWords Go.Proofs.YtjaobihcdkjmbaaGreatDoor.PReadTokens
def nodeG (op:Int) (num:S28) (name:ByteArray) (size:Int) (k:Nat):Prop :=
 (op=0∧chkR num=0∧negB num.f0=false∧(name=eB∨unitB name=true)∧size=0∧k=0) ∨
 (op=1∧num=z28∧nameB name=true∧size=0∧k=0)∨(op=2∧num=z28∧name=eB∧size=0∧k=1) ∨
 ((op=3∨op=4∨op=5∨op=6∨op=9)∧num=z28∧name=eB∧size=0∧k=2)∨(op=7∧num=z28∧name=eB∧(-9≤size∧size≤9)∧k=1) ∨
 (op=8∧num=z28∧name=eB∧size=0∧(1≤k∧k≤8))∨((op=10∨op=11)∧num=z28∧nameB name=true∧(1≤size∧size≤99)∧k=1) ∨
 (op=12∧num=z28∧name=eB∧size=0∧k=4)∨(op=13∧num=z28∧nameB name=true∧size=0∧k=2)∨(op=14∧num=z28∧nameB name=true∧size=0∧k≤8)
theorem look_node {op:Int} {num:S28} {name:ByteArray} {size:Int} {l:List S31} (h:nodeG op num name size l.length):lookE ⟨op,num,name,size,l⟩=0:=by
 unfold lookE midE tailE badName
 simp only
 generalize l.length=k at *
 rcases h with ⟨rfl,h1,h2,h3,rfl,rfl⟩ | ⟨rfl,rfl,hn,rfl,rfl⟩ | ⟨rfl,rfl,rfl,rfl,rfl⟩ | ⟨ho,rfl,rfl,rfl,rfl⟩ | ⟨rfl,rfl,rfl,⟨hs0,hs1⟩,rfl⟩ | ⟨rfl,rfl,rfl,rfl,hk0,hk1⟩ | ⟨ho,rfl,hn,⟨hs0,hs1⟩,rfl⟩ | ⟨rfl,rfl,rfl,rfl,rfl⟩ | ⟨rfl,rfl,hn,rfl,rfl⟩ | ⟨rfl,rfl,hn,rfl,hk⟩
 ·rw [h1,h2]
  rcases h3 with rfl | h3
  ·simp [argLo,argHi,sizeLo,sizeHi]
  ·simp [argLo,argHi,sizeLo,sizeHi,h3]
 ·simp [argLo,argHi,sizeLo,sizeHi,hn]
 ·simp [argLo,argHi,sizeLo,sizeHi]
 ·rcases ho with rfl | rfl | rfl | rfl | rfl <;> simp [argLo,argHi,sizeLo,sizeHi]
 ·simp [argLo,argHi,sizeLo,sizeHi];omega
 ·simp [argLo,argHi,sizeLo,sizeHi];omega
 ·rcases ho with rfl | rfl <;> (simp [argLo,argHi,sizeLo,sizeHi,hn];omega)
 ·simp [argLo,argHi,sizeLo,sizeHi]
 ·simp [argLo,argHi,sizeLo,sizeHi,hn]
 ·simp [argLo,argHi,sizeLo,sizeHi,hn];omega
theorem ok_of {op:Int} {num:S28} {name:ByteArray} {size:Int} {l:List S31} (h:nodeG op num name size l.length) (hl:∀ a ∈ l,OkX a):OkX ⟨op,num,name,size,l⟩:=⟨_,look_node h,hl⟩
end Go.Proofs.YtjaobihcdkjmbaaGreatDoor
end
