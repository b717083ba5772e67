/- The law ReadFree answers true for every argument; a part of its proof. -/
import Derived.Outline
import Derived.Deep.RegionHeld3
import Derived.Test.YtjaobihcdkjmbaaGreatDoorF7
set_option linter.unusedVariables false
set_option linter.unusedSimpArgs false
section
namespace Go.Proofs.YtjaobihcdkjmbaaGreatDoor
open Go.RowKit Go.Proofs.YtjaobihcdkjmbaaGreatDoorW.PrintWords Go.Proofs.YtjaobihcdkjmbaaGreatDoor.PReadTokens
structure Vw (w:World) (x:S31) (v:Value):Prop where
 out:∃ A c,v=exV x (.slice A x.f4.length c)∧x.f4.length≤c∧k31.C w A x.f4.length x.f4
theorem Vw.below {w w1:World} {x:S31} {v:Value} (h:Vw w x v) (hb:Below w.heap.size w w1):Vw w1 x v:=by
 obtain ⟨A,c,h1,h2,h3⟩:=h.out
 exact ⟨A,c,h1,h2,Kd.C_below h3 hb⟩
theorem Ex.vw {w:World} {S:Nat→Prop} {x:S31} {v:Value} (h:Ex w S x v):Vw w x v:=by
 obtain ⟨v5,h1,h2⟩:=h.out
 obtain ⟨A,c,rfl,h3,h4⟩:=Kd.R_reads h2
 exact ⟨A,c,h1,h3,h4⟩
mutual
def nodesX:S31→Nat
 | ⟨_,_,_,_,l⟩=>nodesL l+1
def nodesL:List S31→Nat
 | []=>0
 | x :: l=>nodesX x+nodesL l
end
mutual
def depthX:S31→Nat
 | ⟨_,_,_,_,l⟩=>depthL l+1
def depthL:List S31→Nat
 | []=>0
 | x :: l=>max (depthX x) (depthL l)
end
theorem nodesX_eq (x:S31):nodesX x=nodesL x.f4+1:=by cases x;rfl
theorem depthX_eq (x:S31):depthX x=depthL x.f4+1:=by cases x;rfl
theorem nodesL_append (l m:List S31):nodesL (l++m)=nodesL l+nodesL m:=by
 induction l with
 | nil=>simp [nodesL]
 | cons x l ih=>simp only [List.cons_append,nodesL,ih];omega
theorem depthL_append (l m:List S31):depthL (l++m)=max (depthL l) (depthL m):=by
 induction l with
 | nil=>simp [depthL]
 | cons x l ih=>simp only [List.cons_append,depthL,ih];omega
theorem take_snoc' {α:Type} (l:List α) (j:Nat) (h:j < l.length):l.take (j+1)=l.take j++[l[j]]:=by rw [List.take_succ_eq_append_getElem h]
theorem nodesL_take (l:List S31) (j:Nat) (h:j < l.length):nodesL (l.take (j+1))=nodesL (l.take j)+nodesX l[j]:=by
 rw [take_snoc' l j h,nodesL_append];simp [nodesL]
theorem depthL_take (l:List S31) (j:Nat) (h:j < l.length):depthL (l.take (j+1))=max (depthL (l.take j)) (depthX l[j]):=by
 rw [take_snoc' l j h,depthL_append];simp [depthL]
theorem depthX_mem {x:S31} {l:List S31} (h:x ∈ l):depthX x≤depthL l:=by
 induction l with
 | nil=>simp at h
 | cons y l ih =>
  simp only [depthL]
  rcases List.mem_cons.1 h with rfl | h
  ·omega
  ·have:=ih h;omega
theorem length_nodesL (l:List S31):l.length≤nodesL l:=by
 induction l with
 | nil=>exact Nat.zero_le _
 | cons y l ih=>simp only [nodesL,List.length_cons,nodesX_eq];omega
theorem nodesX_mem {x:S31} {l:List S31} (h:x ∈ l):nodesX x≤nodesL l:=by
 induction l with
 | nil=>simp at h
 | cons y l ih =>
  simp only [nodesL]
  rcases List.mem_cons.1 h with rfl | h
  ·omega
  ·have:=ih h;omega
theorem nodesL_take_le (l:List S31) (j:Nat):nodesL (l.take j)≤nodesL l:=by
 have:=nodesL_append (l.take j) (l.drop j)
 rw [List.take_append_drop] at this;omega
theorem depthL_take_le (l:List S31) (j:Nat):depthL (l.take j)≤depthL l:=by
 have:=depthL_append (l.take j) (l.drop j)
 rw [List.take_append_drop] at this;omega
theorem depth_nodesL:∀ n,(∀ x:S31,depthX x≤n→depthX x≤nodesX x)∧(∀ l:List S31,depthL l≤n→depthL l≤nodesL l):=by
 have base:∀ n,(∀ x:S31,depthX x≤n→depthX x≤nodesX x)→(∀ l:List S31,depthL l≤n→depthL l≤nodesL l):=by
  intro n hx l
  induction l with
  | nil=>intro _;simp [depthL]
  | cons y l ih =>
   simp only [depthL,nodesL]
   intro h
   have h1:=hx y (by omega)
   have h2:=ih (by omega)
   omega
 intro n
 induction n with
 | zero =>
  have hx:∀ x:S31,depthX x≤0→depthX x≤nodesX x:=fun x h=>by rw [depthX_eq] at h;omega
  exact ⟨hx,base 0 hx⟩
 | succ n ih =>
  have hx:∀ x:S31,depthX x≤n+1→depthX x≤nodesX x:=fun x h=>by
   rw [depthX_eq] at h ⊢;rw [nodesX_eq]
   have:=ih.2 x.f4 (by omega);omega
  exact ⟨hx,base (n+1) hx⟩
theorem arg_cells {w:World} {A:Option Addr} {xs:List S31} (h:k31.C w A xs.length xs) (j:Nat) (hj:j < xs.length) :
  ∃ ad A5 c5,A=some ad∧w.cell? (ad.add (j * 6))=some (.int .i64 (xs[j]).f0)∧w.cell? ⟨(ad.add (j * 6)).block,(ad.add (j * 6)).off+1,none⟩=some (.string (xs[j]).f1.f0) ∧
   w.cell? ⟨(ad.add (j * 6)).block,(ad.add (j * 6)).off+2,none⟩=some (.string (xs[j]).f1.f1)∧w.cell? ⟨(ad.add (j * 6)).block,(ad.add (j * 6)).off+3,none⟩=some (.string (xs[j]).f2) ∧
   w.cell? ⟨(ad.add (j * 6)).block,(ad.add (j * 6)).off+4,none⟩=some (.int .i64 (xs[j]).f3)∧w.cell? ⟨(ad.add (j * 6)).block,(ad.add (j * 6)).off+5,none⟩=some (.slice A5 (xs[j]).f4.length c5) ∧
   Vw w xs[j] (exV xs[j] (.slice A5 (xs[j]).f4.length c5)):=by
 have h1:=at_T31 h (j:Int) (by omega) (by omega)
 have e:rd_T31 xs (j:Int)=xs[j]:=by unfold rd_T31;simp [List.getD,hj]
 rw [e] at h1
 obtain ⟨ad,A5,c5,h2,h3,h4,h5,h6,h7,h8,h9,h10⟩:=h1
 exact ⟨ad,A5,c5,h2,h3,h4,h5,h6,h7,h8,⟨A5,c5,rfl,h9,h10⟩⟩
set_option maxHeartbeats 1000000 in
theorem most_add (g:Nat) (a b:Int) (w:World) (hg:w.heap[g]?=some (.cells #[.int .i64 a] 144 (0,0))) :
  Calls Tryz.prog 95 #[.pointer (some ⟨g,0,none⟩),.int .i64 b] w fun e w'=>e=.returned (.tuple #[])∧w'.heap[g]?=some (.cells #[.int .i64 (max a b)] 144 (0,0))∧w.grownBy w' (some g):=by
 have c0:=blk_cell hg 0
 have f0:=blk_frozen hg 0
 have HG:=Lib.hid hg
 clear hg
 go_enter Tryz.func95,Tryz.ntmps95
 go_wp2
 refine bodyPost_end (results_none rfl _ _ _) rfl ⟨rfl,?_,?_⟩
 ·exact blk_set HG.out 0 _
 ·exact Lib.grownBy_setCell _ _ _ _
structure DeepAt (w:World) (xs:List S31) (j:Nat) (wr:World):Prop where
 res:wr.heap[w.heap.size+1]?=some (.cells #[.int .i64 0,.int .i64 0] 100 (0,0))
 out:wr.heap[w.heap.size+1+1]?=some (.cells #[.int .i64 (1+nodesL (xs.take j):Nat),.int .i64 0] 100 (0,0))
 most:wr.heap[w.heap.size+1+1+1]?=some (.cells #[.int .i64 (depthL (xs.take j))] 144 (0,0))
 below:Below w.heap.size w wr
theorem DeepAt.go {w:World} {xs:List S31} {j:Nat} {wr w1:World} (h:DeepAt w xs j wr) (hb:Below wr.heap.size wr w1):DeepAt w xs j w1 :=
 ⟨bcell hb h.res,bcell hb h.out,bcell hb h.most,h.below.trans (hb.mono h.below.size)⟩
theorem round_next {j g n:Nat} (h:j+g=n) (hl:j < n):j+1+(g - 1)=n:=by omega
theorem size100:(Tryz.prog.info? 100).map (·.size)=some 2:=by kernel_rfl
set_option maxRecDepth 100000 in
set_option maxHeartbeats 2000000 in
theorem deep_calls:∀ (n:Nat) (x:S31),depthX x≤n→nodesX x≤4611686018427387904→∀ (v:Value) (w:World),Vw w x v →
  Calls Tryz.prog 57 #[v] w fun e w'=>e=.returned (.agg #[.int .i64 (nodesX x),.int .i64 (depthX x)])∧Below w.heap.size w w':=by
 intro n
 induction n with
 | zero=>intro x h;rw [depthX_eq] at h;omega
 | succ n ih =>
  intro x hd hn v w hv
  obtain ⟨A,c,rfl,hc1,hc2⟩:=hv.out
  rw [depthX_eq] at hd
  rw [nodesX_eq] at hn
  have hrec:∀ (j:Nat) (hj:j < x.f4.length) v w,Vw w x.f4[j] v→Calls Tryz.prog 57 #[v] w fun e w'=>e=.returned (.agg #[.int .i64 (nodesX x.f4[j]),.int .i64 (depthX x.f4[j])])∧Below w.heap.size w w':=by
   intro j hj
   have h1:=depthX_mem (List.getElem_mem hj)
   have h2:=nodesX_mem (List.getElem_mem hj)
   exact ih _ (by omega) (by omega)
  rw [nodesX_eq,depthX_eq]
  have hnt:=nodesL_take x.f4
  have hdt:=depthL_take x.f4
  have hnl:=nodesL_take_le x.f4
  have hdl:=depthL_take_le x.f4
  have hdn:depthL x.f4≤nodesL x.f4:=(depth_nodesL (depthL x.f4)).2 _ (Nat.le_refl _)
  have hlen:=length_nodesL x.f4
  have htk:x.f4.take x.f4.length=x.f4:=List.take_length
  obtain ⟨f0,f1,f2,f3,xs⟩:=x
  simp only at *
  clear ih hv
  unfold exV
  simp only
  have HR:=Lib.hid hrec
  have HN:=Lib.hid hnt
  have HD:=Lib.hid hdt
  have HNL:=Lib.hid hnl
  have HDL:=Lib.hid hdl
  have HT:=Lib.hid htk
  have HC:=Lib.hid hc2
  clear hrec hnt hdt hnl hdl htk hc2
  go_enter Tryz.func57,Tryz.ntmps57
  go_wp2
  have hat:DeepAt w xs 0 ((((w.alloc (.cells #[.int .i64 f0,.string f1.f0,.string f1.f1,.string f2,.int .i64 f3,.slice A xs.length c] 31)).alloc (.cells #[.int .i64 0,.int .i64 0] 100)).alloc (.cells #[.int .i64 1,.int .i64 0] 100)).alloc (.cells #[.int .i64 0] 144)):=by
   refine ⟨?_,?_,alloc_at _ _ _ (by simp),(((((Below.refl _ w).alloc (Nat.le_refl _) _).alloc (by simp) _).alloc (by simp;omega) _).alloc (by simp;omega) _)⟩
   ·exact (Below.heap_alloc _ _ _ (by simp;try omega)).trans ((Below.heap_alloc _ _ _ (by simp)).trans (alloc_at _ _ _ (by simp)))
   ·exact (Below.heap_alloc _ _ _ (by simp;try omega)).trans (alloc_at _ _ _ (by simp))
  generalize (((w.alloc (.cells #[.int .i64 f0,.string f1.f0,.string f1.f1,.string f2,.int .i64 f3,.slice A xs.length c] 31)).alloc (.cells #[.int .i64 0,.int .i64 0] 100)).alloc (.cells #[.int .i64 1,.int .i64 0] 100)).alloc (.cells #[.int .i64 0] 144)=W0 at *
  go_loopg [12] xs.length (fun k i wr=>∃ j:Nat,j+k=xs.length∧i=.int .i64 j∧DeepAt w xs j wr)
  case atStart=>exact ⟨0,by omega,rfl,hat⟩
  case round =>
   clear hat
   obtain ⟨j,hj,rfl,hat⟩:=hrel
   by_cases hjl:j < xs.length
   ·obtain ⟨ad,A5,c5,rfl,q0,q1,q2,q3,q4,q5,hvw⟩:=arg_cells (Kd.C_below HC.out hat.below) j hjl
    have hr:=HR.out j hjl
    have hn1:=HN.out j hjl
    have hd1:=HD.out j hjl
    have hn2:=HNL.out (j+1)
    generalize xs[j]=y at *
    have Hvw:=Lib.hid hvw
    clear hvw
    go_wp2_with fail
    refine (hr _ _ (Hvw.out.below ((Below.refl _ _).alloc (Nat.le_refl _) _))).mono ?_
    rintro e w1 ⟨rfl,hb1⟩
    have hat1:=hat.go (((Below.refl _ _).alloc (Nat.le_refl _) _).trans (hb1.mono (by simp)))
    have o0:=blk_cell hat1.out 0
    have o1:=blk_frozen hat1.out 0
    have ol:=blk_lt hat1.out
    have ml:=blk_lt hat1.most
    have hsum:((1+nodesL (xs.take j):Nat):Int)+(nodesX y:Int)≤4611686018427387904:=by omega
    have Hat:=Lib.hid hat1
    clear hat hat1 hr
    go_wp2_with fail
    have hmost:((w1.setCell ⟨w.heap.size+1+1,0,none⟩ (.int .i64 (1+↑(nodesL (List.take j xs))+↑(nodesX y)))).alloc (.cells #[.int .i64 (nodesX y),.int .i64 (depthX y)] 100)).heap[w.heap.size+1+1+1]?=some (.cells #[.int .i64 (depthL (xs.take j))] 144 (0,0)) :=
     (Below.heap_alloc _ _ _ (by simp;omega)).trans ((Below.heap_setCell _ _ _ _ (by simp)).trans Hat.out.most)
    refine (most_add _ _ _ _ hmost).mono ?_
    rintro e w2 ⟨rfl,hm2,hg2⟩
    have out2:=(hg2.block (w.heap.size+1+1) (by simp;omega) (by intro e;injection e with e;omega)).trans ((Below.heap_alloc _ _ _ (by simp;omega)).trans (blk_set Hat.out.out 0 (.int .i64 (1+↑(nodesL (List.take j xs))+↑(nodesX y)))))
    have res2:=(hg2.block (w.heap.size+1) (by simp;omega) (by intro e;injection e with e;omega)).trans ((Below.heap_alloc _ _ _ (by simp;omega)).trans ((Below.heap_setCell _ _ _ _ (by simp)).trans Hat.out.res))
    have bel2:=((Hat.out.below.setCell (p:=⟨w.heap.size+1+1,0,none⟩) (by simp;omega) (.int .i64 (1+↑(nodesL (List.take j xs))+↑(nodesX y)))).alloc (by simp;omega) (.cells #[.int .i64 (nodesX y),.int .i64 (depthX y)] 100)).grown hg2 (by simp;omega) (fun k e=>by injection e with e;omega)
    have hat2:DeepAt w xs (j+1) w2:=by
     refine ⟨res2,?_,?_,bel2⟩
     ·rw [hn1,out2]
      congr 3
      simp;omega
     ·rw [hd1,hm2]
      congr 3
      simp;omega
    clear hmost hm2 hg2 out2 res2 bel2
    go_wp2
    go_roundg (gk - 1)
    case measure=>omega
    case rel=>exact ⟨j+1,round_next hj hjl,by go_num,hat2⟩
   ·obtain rfl:j=xs.length:=by omega
    have m0:=blk_cell hat.most 0
    have o0:=blk_cell hat.out 0
    have o1:=blk_cell hat.out 1
    have e1:=blk_frozen hat.out 1
    have s0:=blk_cell hat.res 0
    have s1:=blk_cell hat.res 1
    have r0:=blk_frozen hat.res 0
    have r1:=blk_frozen hat.res 1
    have Hat:=Lib.hid hat
    clear hat
    go_wp2
    have fin:(((wr.setCell ⟨w.heap.size+1+1,1,none⟩ (.int .i64 (↑(depthL xs)+1))).setCell ⟨w.heap.size+1,0,none⟩ (.int .i64 (1+↑(nodesL xs)))).setCell ⟨w.heap.size+1,1,none⟩ (.int .i64 (↑(depthL xs)+1))).heap[w.heap.size+1]?=some (.cells #[.int .i64 (1+↑(nodesL xs)),.int .i64 (↑(depthL xs)+1)] 100 (0,0)) :=
     blk_set (blk_set ((Below.heap_setCell _ _ _ _ (by simp)).trans Hat.out.res) 0 _) 1 _
    refine bodyPost_ret (results_c Tryz.results57 _ _ (w.heap.size+1) 100 _ (0,0) _ rfl fin Tryz.underlying100 rfl size100) rfl ⟨?_,((Hat.out.below.setCell (p:=⟨w.heap.size+1+1,1,none⟩) (by simp;omega) _).setCell (p:=⟨w.heap.size+1,0,none⟩) (by simp) _).setCell (p:=⟨w.heap.size+1,1,none⟩) (by simp) _⟩
    congr 4
    ·congr 1;simp;omega
end Go.Proofs.YtjaobihcdkjmbaaGreatDoor
end
section
namespace Go.Proofs.YtjaobihcdkjmbaaGreatDoor
open Go.RowKit Go.Proofs.YtjaobihcdkjmbaaGreatDoorW.PrintWords Go.Proofs.YtjaobihcdkjmbaaGreatDoor.PReadTokens
abbrev Sx (w:World) (X:Nat):Nat→Prop:=fun k=>w.heap.size < k∧k≠X
structure Gath (W0:World) (R B:Nat) (ts:List S47) (en:Nat) (w:World) (X:Nat) (wr:World) (x:S31) (n:Nat) (v:Value):Prop where
 st:St W0 R B ts en n wr
 took:Took w R ts n en wr
 blk:wr.heap[X]?=some (.cells #[.int .i64 x.f0,.string x.f1.f0,.string x.f1.f1,.string x.f2,.int .i64 x.f3,v] 31 (0,0))
 val:Ex wr (Sx w X) x (exV x v)
 res:wr.heap[w.heap.size]?=some zO
theorem exV_inj {x:S31} {u v:Value} (h:exV x u=exV x v):u=v:=by unfold exV at h;simpa using h
theorem Gath.go {W0:World} {R B:Nat} {ts:List S47} {en:Nat} {w:World} {X:Nat} {wr w1:World} {x:S31} {n n1:Nat} {v:Value} (E:Env W0 R B ts) (hR:R < w.heap.size) (hX:w.heap.size < X)
  (G:Gath W0 R B ts en w X wr x n v) (k:Took wr R ts n1 en w1) (hn:n1≤ts.length):Gath W0 R B ts en w X w1 x n1 v :=
 ⟨G.st.took E k hn,G.took.trans k,k.blk G.blk (by omega),G.val.grown k.grown (fun k hk=>by have:=hk.1;omega),k.blk G.res (by omega)⟩
theorem Gath.below {W0:World} {R B:Nat} {ts:List S47} {en:Nat} {w:World} {X:Nat} {wr w1:World} {x:S31} {n:Nat} {v:Value}
  (G:Gath W0 R B ts en w X wr x n v) (hb:Below wr.heap.size wr w1):Gath W0 R B ts en w X w1 x n v :=
 ⟨G.st.below hb,G.took.below hb,bcell hb G.blk,G.val.below hb,bcell hb G.res⟩
theorem Gath.store {W0:World} {R B:Nat} {ts:List S47} {en:Nat} {w:World} {X:Nat} {wr:World} {x y:S31} {n:Nat} {v u:Value} (E:Env W0 R B ts) (hR:R < w.heap.size) (hX:w.heap.size < X)
  (G:Gath W0 R B ts en w X wr x n v) (h:Ex wr (Sx w X) y (exV y u)):Gath W0 R B ts en w X (set6 wr X (.int .i64 y.f0) (.string y.f1.f0) (.string y.f1.f1) (.string y.f2) (.int .i64 y.f3) u) y n u:=by
 have hXR:X≠R:=by omega
 have hlow:=G.st.low.size
 have hg:=grown6 (X:=wr) X (.int .i64 y.f0) (.string y.f1.f0) (.string y.f1.f1) (.string y.f2) (.int .i64 y.f3) u
 have own:=E.own
 refine ⟨⟨?_,?_,Nat.le_trans G.st.base hg.size,G.st.pos⟩,G.took.set6 G.blk hXR (Nat.le_of_lt hX) _ _ _ _ _ _,fin6 _ _ _ _ _ _ G.blk,h.set6 (fun k hk=>hk.2) _ _ _ _ _ _,grown_blk hg G.res (by omega)⟩
 ·exact (G.took.set6 G.blk hXR (Nat.le_of_lt hX) (.int .i64 y.f0) (.string y.f1.f0) (.string y.f1.f1) (.string y.f2) (.int .i64 y.f3) u).rdr
 ·exact G.st.low.grown hg hlow (fun j e=>by injection e with e;omega)
theorem Gath.two {W0:World} {R B:Nat} {ts:List S47} {en:Nat} {w:World} {X:Nat} {wr w2:World} {x y:S31} {n n2:Nat} {v vy:Value} (op:Int) (E:Env W0 R B ts) (hR:R < w.heap.size) (hX:w.heap.size < X)
  (G:Gath W0 R B ts en w X wr x n v) (hy:Ex w2 (From wr.heap.size) y vy) (k:Took wr R ts n2 en w2) (hn:n2≤ts.length) :
  Calls Tryz.prog 161 #[.int .i64 op,exV x v,vy] w2 fun e w3=>∃ u A N C,e=.returned (exV (twoX op x y) u)∧u=.slice A N C∧Gath W0 R B ts en w X w3 x n2 v∧Ex w3 (Sx w X) (twoX op x y) (exV (twoX op x y) u):=by
 have G2:=G.go E hR hX k hn
 have hlt:=blk_lt G.blk
 have hsz:=k.grown.size
 refine (two_calls op x y (exV x v) vy (Sx w X) w2 (fun j hj=>⟨by omega,by omega⟩) G2.val (hy.mono (fun j hj=>by simp only [From] at hj;exact ⟨by omega,by omega⟩))).mono ?_
 rintro e w3 ⟨u,rfl,hu,hb⟩
 obtain ⟨u5,A,N,C,rfl,rfl,_,_⟩:=hu.cells
 exact ⟨_,A,N,C,rfl,rfl,G2.below hb,hu⟩
set_option maxRecDepth 100000 in
set_option maxHeartbeats 2000000 in
theorem product_walk (W0:World) (R B:Nat) (ts:List S47) (en:Nat) (chk:S28→Int) (ex:Nat→PR) (m now:Nat) (w:World) (E:Env W0 R B ts) (h:St W0 R B ts en now w) (hm:m≤now)
  (hp:Pars W0 R B ts en 180 (powerS ts en chk ex) m) :
  Calls Tryz.prog 160 #[.pointer (some ⟨R,0,none⟩)] w (ExPost w R ts en now (productS ts en chk ex now)):=by
 have hp0:=hp now (w.alloc zO) hm (h.below ((Below.refl _ _).alloc (Nat.le_refl _) _))
 unfold productS
 have few:=E.few
 have hRw:=h.rdr.lt
 have hne0:=Nat.ne_of_gt hRw
 cases hc:powerS ts en chk ex now with
 | error p =>
  rw [hc] at hp0
  unfold ExPost stuckAt at hp0
  clear hc hp h
  go_enter Tryz.func160,Tryz.ntmps160
  go_wp2_with fail
  refine hp0.mono ?_
  rintro e w1 ⟨rfl,hg⟩
  go_wp2
  exact ⟨rfl,rfl,Lib.grownBy_trans (World.grownBy_alloc w zO _) hg⟩
 | ok r =>
  obtain ⟨x,n⟩:=r
  rw [hc] at hp0
  unfold ExPost at hp0
  have HP:=Lib.hid hp
  have H:=Lib.hid h
  have h0:St W0 R B ts en now (w.alloc zO):=h.below ((Below.refl _ _).alloc (Nat.le_refl _) _)
  clear hp h hc
  go_enter Tryz.func160,Tryz.ntmps160
  go_wp2_with fail
  refine hp0.mono ?_
  rintro e w1 ⟨hn1,hn2,v,rfl,hx,hk⟩
  obtain ⟨v5,A5,n5,c5,rfl,rfl,_,_⟩:=hx.cells
  unfold exV
  go_wp2
  have g1:Gath W0 R B ts en w w1.heap.size (w1.alloc (.cells #[.int .i64 x.f0,.string x.f1.f0,.string x.f1.f1,.string x.f2,.int .i64 x.f3,.slice A5 n5 c5] 31)) x n (.slice A5 n5 c5) :=
   ⟨((h0.took E hk hn2).below ((Below.refl _ _).alloc (Nat.le_refl _) _)),hk.start.alloc _,blk_new _ _,(hx.old (fun k h1 h2=>⟨by simp [From] at h1;omega,Nat.ne_of_lt h2⟩)).below ((Below.refl _ _).alloc (Nat.le_refl _) _),
    (Below.heap_alloc _ _ _ (blk_lt (hk.blk (blk_new w zO) hne0))).trans (hk.blk (blk_new w zO) hne0)⟩
  have hXR:w1.heap.size≠R:=Nat.ne_of_gt hk.rdr.lt
  have hXw:w.heap.size < w1.heap.size:=blk_lt (hk.blk (blk_new w zO) hne0)
  generalize w1.heap.size=X at *
  generalize hW:w1.alloc _=W at *
  clear hW hk hx hp0 h0
  generalize hres:prodLoop ts en chk ex (ts.length+1) x n=res
  go_loopg [] (ts.length+1) (fun k wr=>∃ x n v5,m < n∧now < n∧n≤ts.length∧ts.length < n+k∧Gath W0 R B ts en w X wr x n v5∧Hid (prodLoop ts en chk ex k x n=res))
  case atStart=>exact ⟨x,n,_,by omega,hn1,hn2,by omega,g1,hres⟩
  case round =>
   clear g1 hres hn1 hn2
   obtain ⟨x,n,v5,hmn,hnn,hnl,hfuel,G,Hres⟩:=hrel
   obtain ⟨_,A5,n5,c5,h5,rfl,_,_⟩:=G.val.cells
   obtain rfl:=exV_inj h5
   cases gk with
   | zero=>omega
   | succ gk =>
   cases h1:sk ts en n ⟨#[42]⟩ with
   | true =>
    have hs:=skip_yes R ts n en ⟨#[42]⟩ wr G.st.rdr few h1
    have hlt:=isTok_lt h1
    cases hc:powerS ts en chk ex (n+1) with
    | error p =>
     have Hres':Hid (res=.error p):=by
      have:=Hres.out
      unfold prodLoop at this
      rw [if_pos h1,hc] at this
      exact Lib.hid this.symm
     go_wp2_with fail
     refine hs.mono ?_
     rintro e w1 ⟨rfl,hk1⟩
     have G1:=G.go E hRw hXw hk1 hlt
     obtain ⟨⟨p0,p1,p2,p3,p4,p5⟩,-,xl⟩:=cells6 G1.blk
     have G1d:=G1.below ((Below.refl _ w1).drew)
     have hp1:=HP.out (n+1) _ (by omega) G1d.st
     rw [hc] at hp1
     unfold ExPost at hp1
     unfold stuckAt at hp1
     clear hc
     go_wp2_with fail
     refine wp_region_held_drew (S:=(fun w'=>w'.cell? ⟨X,0,none⟩=some (Value.int IntKind.i64 x.f0)∧w'.cell? ⟨X,1,none⟩=some (Value.string x.f1.f0)∧w'.cell? ⟨X,2,none⟩=some (Value.string x.f1.f1)∧w'.cell? ⟨X,3,none⟩=some (Value.string x.f2)∧w'.cell? ⟨X,4,none⟩=some (Value.int IntKind.i64 x.f3)∧w'.cell? ⟨X,5,none⟩=some (.slice A5 n5 c5))) (by kernel_rfl) (cells6 G1d.blk).1 (fun hHeld=>?_)
     refine wpAnyH_take (i:=0) (v:=?v0c1) rfl (by kernel_rfl) (by kernel_rfl) (by kernel_rfl) (fun _ _ _ h=>h) (Or.inl ⟨by rfl,?hy0c1⟩) (by assumption) ?rest0c1
     case hy0c1=>(intro w hSw;(try dsimp only at hSw);go_simp;try (with_reducible rfl))
     try simp only [Act.put,List.setIfInBounds_toArray,List.set_cons_zero,List.set_cons_succ]
     refine wpAnyH_take (i:=1) (v:=?v1c2) rfl (by kernel_rfl) (by kernel_rfl) (by kernel_rfl) (fun _ _ _ h=>h) (Or.inl ⟨by rfl,?hy1c2⟩) (by assumption) ?rest1c2
     case hy1c2=>(intro w hSw;(try dsimp only at hSw);go_simp;try (with_reducible rfl))
     try simp only [Act.put,List.setIfInBounds_toArray,List.set_cons_zero,List.set_cons_succ]
     refine wpAnyH_ready (rs:=[2]) (by kernel_rfl) (by simp) ?_
     refine AllReadyH.cons rfl (fun K hK=>?_) AllReadyH.nil
     go_simp
     go_wp2_with (go_at_call 180;refine hp1.mono ?_;rintro e w2 ⟨rfl,hg2⟩)
     rw [Hres'.out]
     exact ⟨rfl,rfl,Lib.grownBy_trans G1d.took.grown hg2⟩
    | ok r =>
     obtain ⟨y,n2⟩:=r
     have Hres':Hid (prodLoop ts en chk ex gk (twoX 5 x y) n2=res):=by
      have:=Hres.out
      unfold prodLoop at this
      rw [if_pos h1,hc] at this
      exact Lib.hid this
     go_wp2_with fail
     refine hs.mono ?_
     rintro e w1 ⟨rfl,hk1⟩
     have G1:=G.go E hRw hXw hk1 hlt
     obtain ⟨⟨p0,p1,p2,p3,p4,p5⟩,-,xl⟩:=cells6 G1.blk
     have G1d:=G1.below ((Below.refl _ w1).drew)
     have hp1:=HP.out (n+1) _ (by omega) G1d.st
     rw [hc] at hp1
     unfold ExPost at hp1
     clear hc
     go_wp2_with fail
     go_region_with ((first
      | (go_at_call 180;refine hp1.mono ?_;rintro e w2 ⟨hn1,hn2,vy,rfl,hy,hk2⟩;have G2:=G1d.go E hRw hXw hk2 hn2;have hw:=G1d.two 5 E hRw hXw hy hk2 hn2;obtain ⟨⟨q0,q1,q2,q3,q4,q5⟩,-,lt2⟩:=cells6 G2.blk)
      | (go_at_call 161;refine hw.mono ?_;rintro e w3 ⟨u,A,N,C,rfl,rfl,G3,hu⟩;obtain ⟨⟨r0,r1,r2,r3,r4,r5⟩,⟨f0,f1,f2,f3,f4,f5⟩,lt3⟩:=cells6 G3.blk;simp only [exV,twoX])))
     all_goals
      have G4:=G3.store E hRw hXw hu
      go_wp2
      go_roundg gk
      case measure=>omega
      case rel=>exact ⟨_,n2,_,by omega,by omega,hn2,by omega,G4,Hres'⟩
   | false =>
    have hs:=skip_no R ts n en ⟨#[42]⟩ wr G.st.rdr hnl h1
    cases h2:sk ts en n ⟨#[47]⟩ with
    | true =>
     have hlt:=isTok_lt h2
     cases hc:powerS ts en chk ex (n+1) with
     | error p =>
      have Hres':Hid (res=.error p):=by
       have:=Hres.out
       unfold prodLoop at this
       rw [if_neg (by rw [h1];decide),if_pos h2,hc] at this
       exact Lib.hid this.symm
      go_wp2_with fail
      refine hs.mono ?_
      rintro e w0 ⟨rfl,hk0⟩
      have G0:=G.go E hRw hXw hk0 hnl
      have hs2:=skip_yes R ts n en ⟨#[47]⟩ w0 G0.st.rdr few h2
      go_wp2_with fail
      refine hs2.mono ?_
      rintro e w1 ⟨rfl,hk1⟩
      have G1:=G0.go E hRw hXw hk1 hlt
      obtain ⟨⟨p0,p1,p2,p3,p4,p5⟩,-,xl⟩:=cells6 G1.blk
      have G1d:=G1.below ((Below.refl _ w1).drew)
      have hp1:=HP.out (n+1) _ (by omega) G1d.st
      rw [hc] at hp1
      unfold ExPost at hp1
      unfold stuckAt at hp1
      clear hc
      go_wp2_with fail
      refine wp_region_held_drew (S:=(fun w'=>w'.cell? ⟨X,0,none⟩=some (Value.int IntKind.i64 x.f0)∧w'.cell? ⟨X,1,none⟩=some (Value.string x.f1.f0)∧w'.cell? ⟨X,2,none⟩=some (Value.string x.f1.f1)∧w'.cell? ⟨X,3,none⟩=some (Value.string x.f2)∧w'.cell? ⟨X,4,none⟩=some (Value.int IntKind.i64 x.f3)∧w'.cell? ⟨X,5,none⟩=some (.slice A5 n5 c5))) (by kernel_rfl) (cells6 G1d.blk).1 (fun hHeld=>?_)
      refine wpAnyH_take (i:=0) (v:=?v0c3) rfl (by kernel_rfl) (by kernel_rfl) (by kernel_rfl) (fun _ _ _ h=>h) (Or.inl ⟨by rfl,?hy0c3⟩) (by assumption) ?rest0c3
      case hy0c3=>(intro w hSw;(try dsimp only at hSw);go_simp;try (with_reducible rfl))
      try simp only [Act.put,List.setIfInBounds_toArray,List.set_cons_zero,List.set_cons_succ]
      refine wpAnyH_take (i:=1) (v:=?v1c4) rfl (by kernel_rfl) (by kernel_rfl) (by kernel_rfl) (fun _ _ _ h=>h) (Or.inl ⟨by rfl,?hy1c4⟩) (by assumption) ?rest1c4
      case hy1c4=>(intro w hSw;(try dsimp only at hSw);go_simp;try (with_reducible rfl))
      try simp only [Act.put,List.setIfInBounds_toArray,List.set_cons_zero,List.set_cons_succ]
      refine wpAnyH_ready (rs:=[2]) (by kernel_rfl) (by simp) ?_
      refine AllReadyH.cons rfl (fun K hK=>?_) AllReadyH.nil
      go_simp
      go_wp2_with (go_at_call 180;refine hp1.mono ?_;rintro e w2 ⟨rfl,hg2⟩)
      rw [Hres'.out]
      exact ⟨rfl,rfl,Lib.grownBy_trans G1d.took.grown hg2⟩
     | ok r =>
      obtain ⟨y,n2⟩:=r
      have Hres':Hid (prodLoop ts en chk ex gk (twoX 6 x y) n2=res):=by
       have:=Hres.out
       unfold prodLoop at this
       rw [if_neg (by rw [h1];decide),if_pos h2,hc] at this
       exact Lib.hid this
      go_wp2_with fail
      refine hs.mono ?_
      rintro e w0 ⟨rfl,hk0⟩
      have G0:=G.go E hRw hXw hk0 hnl
      have hs2:=skip_yes R ts n en ⟨#[47]⟩ w0 G0.st.rdr few h2
      go_wp2_with fail
      refine hs2.mono ?_
      rintro e w1 ⟨rfl,hk1⟩
      have G1:=G0.go E hRw hXw hk1 hlt
      obtain ⟨⟨p0,p1,p2,p3,p4,p5⟩,-,xl⟩:=cells6 G1.blk
      have G1d:=G1.below ((Below.refl _ w1).drew)
      have hp1:=HP.out (n+1) _ (by omega) G1d.st
      rw [hc] at hp1
      unfold ExPost at hp1
      clear hc
      go_wp2_with fail
      go_region_with ((first
       | (go_at_call 180;refine hp1.mono ?_;rintro e w2 ⟨hn1,hn2,vy,rfl,hy,hk2⟩;have G2:=G1d.go E hRw hXw hk2 hn2;have hw:=G1d.two 6 E hRw hXw hy hk2 hn2;obtain ⟨⟨q0,q1,q2,q3,q4,q5⟩,-,lt2⟩:=cells6 G2.blk)
       | (go_at_call 161;refine hw.mono ?_;rintro e w3 ⟨u,A,N,C,rfl,rfl,G3,hu⟩;obtain ⟨⟨r0,r1,r2,r3,r4,r5⟩,⟨f0,f1,f2,f3,f4,f5⟩,lt3⟩:=cells6 G3.blk;simp only [exV,twoX])))
      all_goals
       have G4:=G3.store E hRw hXw hu
       go_wp2
       go_roundg gk
       case measure=>omega
       case rel=>exact ⟨_,n2,_,by omega,by omega,hn2,by omega,G4,Hres'⟩
    | false =>
     have Hres':Hid (res=.ok (x,n)):=by
      have:=Hres.out
      unfold prodLoop at this
      rw [if_neg (by rw [h1];decide),if_neg (by rw [h2];decide)] at this
      exact Lib.hid this.symm
     go_wp2_with fail
     refine hs.mono ?_
     rintro e w0 ⟨rfl,hk0⟩
     have G0:=G.go E hRw hXw hk0 hnl
     have hs2:=skip_no R ts n en ⟨#[47]⟩ w0 G0.st.rdr hnl h2
     go_wp2_with fail
     refine hs2.mono ?_
     rintro e w1 ⟨rfl,hk1⟩
     have G1:=G0.go E hRw hXw hk1 hnl
     obtain ⟨⟨p0,p1,p2,p3,p4,p5⟩,-,xl⟩:=cells6 G1.blk
     obtain ⟨⟨q0,q1,q2,q3,q4,q5⟩,⟨f0,f1,f2,f3,f4,f5⟩,xl2⟩:=cells6 G1.res
     go_wp2
     rw [Hres'.out]
     refine bodyPost_ret (results_c Tryz.results160 _ _ w.heap.size 31 _ (0,0) _ rfl (fin6 _ _ _ _ _ _ G1.res) Tryz.underlying31 rfl size31) rfl ⟨hnn,hnl,_,rfl,?_,?_⟩
     ·exact (G1.val.set6 (fun k hk=>Nat.ne_of_gt hk.1) _ _ _ _ _ _).mono (fun k hk=>Nat.le_of_lt hk.1)
     ·exact G1.took.set6 G1.res hne0 (Nat.le_refl _) _ _ _ _ _ _
end Go.Proofs.YtjaobihcdkjmbaaGreatDoor
end
section
namespace Go.Proofs.YtjaobihcdkjmbaaGreatDoor
open Go.RowKit Go.Proofs.YtjaobihcdkjmbaaGreatDoorW.PrintWords Go.Proofs.YtjaobihcdkjmbaaGreatDoor.PReadTokens
theorem Ex.one {W:World} {S:Nat→Prop} {x:S31} {v5:Value} (h:Ex W S x (exV x v5)) (hS:S W.heap.size) (y:S31) (hy:y.f4=[x]) :
  Ex (W.alloc (.cells #[.int .i64 x.f0,.string x.f1.f0,.string x.f1.f1,.string x.f2,.int .i64 x.f3,v5] 31)) S y (exV y (.slice (some ⟨W.heap.size,0,none⟩) 1 1)):=by
 obtain ⟨v,A,N,C,h1,h2,_,hM⟩:=h.cells
 obtain rfl:=exV_inj h1
 refine ⟨_,rfl,?_⟩
 rw [hy]
 exact lit_row (xs:=[x]) ((Reps.none _ _).snoc hM rfl) hS (by simp)
set_option maxRecDepth 100000 in
set_option maxHeartbeats 2000000 in
theorem sums_pos (W0:World) (R B:Nat) (ts:List S47) (en:Nat) (chk:S28→Int) (ex:Nat→PR) (m now:Nat) (w:World) (E:Env W0 R B ts) (h:St W0 R B ts en now w) (hm:m≤now)
  (hp:Pars W0 R B ts en 160 (productS ts en chk ex) m) (hneg:sk ts en now ⟨#[45]⟩=false) :
  Calls Tryz.prog 135 #[.pointer (some ⟨R,0,none⟩)] w (ExPost w R ts en now (sumsS ts en chk ex now)):=by
 have few:=E.few
 have hRw:=h.rdr.lt
 have hne0:=Nat.ne_of_gt hRw
 have hnow:now≤ts.length:=h.pos
 have hsk:=skip_no R ts now en ⟨#[45]⟩ (w.alloc zO) (h.rdr.keep ((Below.refl _ _).alloc (Nat.le_refl _) _)) h.pos hneg
 have h0:St W0 R B ts en now (w.alloc zO):=h.below ((Below.refl _ _).alloc (Nat.le_refl _) _)
 have HP:=Lib.hid hp
 have H:=Lib.hid h
 unfold sumsS
 rw [if_neg (by rw [hneg];decide)]
 clear hneg hp h
 cases hc:productS ts en chk ex now with
 | error p =>
  go_enter Tryz.func135,Tryz.ntmps135
  go_wp2_with fail
  refine hsk.mono ?_
  rintro e wk ⟨rfl,hkk⟩
  have hp0:=HP.out now wk (by omega) (h0.took E hkk hnow)
  rw [hc] at hp0
  unfold ExPost stuckAt at hp0
  clear hc
  go_wp2_with fail
  refine hp0.mono ?_
  rintro e w1 ⟨rfl,hg⟩
  go_wp2
  exact ⟨rfl,rfl,Lib.grownBy_trans (hkk.start.grown) hg⟩
 | ok r =>
  obtain ⟨x,n⟩:=r
  show Calls _ _ _ _ (ExPost w R ts en now (sumLoop ts en chk ex (ts.length+1) x n))
  generalize hres:sumLoop ts en chk ex (ts.length+1) x n=res
  have HresL:=Lib.hid hres
  clear hres
  go_enter Tryz.func135,Tryz.ntmps135
  go_wp2_with fail
  refine hsk.mono ?_
  rintro e wk ⟨rfl,hkk⟩
  have hp0:=HP.out now wk (by omega) (h0.took E hkk hnow)
  rw [hc] at hp0
  unfold ExPost at hp0
  clear hc
  have hzk:=hkk.blk (blk_new w zO) hne0
  go_wp2_with fail
  refine hp0.mono ?_
  rintro e w1 ⟨hn1,hn2,v,rfl,hx,hk⟩
  obtain ⟨v5,A5,n5,c5,rfl,rfl,_,_⟩:=hx.cells
  unfold exV
  have hX0:=hk.rdr.lt
  have hz1:=hk.blk hzk hne0
  have hXw:w.heap.size < w1.heap.size:=blk_lt hz1
  have hwk:w.heap.size < wk.heap.size:=blk_lt hzk
  have g1:Gath W0 R B ts en w w1.heap.size (w1.alloc (.cells #[.int .i64 x.f0,.string x.f1.f0,.string x.f1.f1,.string x.f2,.int .i64 x.f3,.slice A5 n5 c5] 31)) x n (.slice A5 n5 c5) :=
   ⟨(((h0.took E hkk hnow).took E hk hn2).below ((Below.refl _ _).alloc (Nat.le_refl _) _)),(hkk.start.trans hk).alloc _,blk_new _ _,(hx.old (fun k h1 h2=>⟨by simp [From] at h1;omega,Nat.ne_of_lt h2⟩)).below ((Below.refl _ _).alloc (Nat.le_refl _) _),
    (Below.heap_alloc _ _ _ (blk_lt hz1)).trans hz1⟩
  have hXR:w1.heap.size≠R:=Nat.ne_of_gt hk.rdr.lt
  obtain ⟨⟨p0,p1,p2,p3,p4,p5⟩,⟨y0,y1,y2,y3,y4,y5⟩,xl⟩:=cells6 g1.blk
  go_wp2
  generalize w1.heap.size=X at *
  generalize hW:w1.alloc _=W at *
  clear hW hk hx hp0 h0 hkk hzk hz1 hX0 p0 p1 p2 p3 p4 p5 y0 y1 y2 y3 y4 y5 xl
  have hres:=HresL.out
  clear HresL
  go_loopg [] (ts.length+1) (fun k wr=>∃ x n v5,m < n∧now < n∧n≤ts.length∧ts.length < n+k∧Gath W0 R B ts en w X wr x n v5∧Hid (sumLoop ts en chk ex k x n=res))
  case atStart=>exact ⟨x,n,_,by omega,by omega,hn2,by omega,g1,hres⟩
  case round =>
   clear g1 hres hn1 hn2
   obtain ⟨x,n,v5,hmn,hnn,hnl,hfuel,G,Hres⟩:=hrel
   obtain ⟨_,A5,n5,c5,h5,rfl,_,_⟩:=G.val.cells
   obtain rfl:=exV_inj h5
   cases gk with
   | zero=>omega
   | succ gk =>
   cases h1:sk ts en n ⟨#[43]⟩ with
   | true =>
    have hs:=skip_yes R ts n en ⟨#[43]⟩ wr G.st.rdr few h1
    have hlt:=isTok_lt h1
    cases hc:productS ts en chk ex (n+1) with
    | error p =>
     have Hres':Hid (res=.error p):=by
      have:=Hres.out
      unfold sumLoop at this
      rw [if_pos h1,hc] at this
      exact Lib.hid this.symm
     go_wp2_with fail
     refine hs.mono ?_
     rintro e w1 ⟨rfl,hk1⟩
     have G1:=G.go E hRw hXw hk1 hlt
     obtain ⟨⟨p0,p1,p2,p3,p4,p5⟩,-,xl⟩:=cells6 G1.blk
     have G1d:=G1.below ((Below.refl _ w1).drew)
     have hp1:=HP.out (n+1) _ (by omega) G1d.st
     rw [hc] at hp1
     unfold ExPost at hp1
     unfold stuckAt at hp1
     clear hc
     go_wp2_with fail
     refine wp_region_held_drew (S:=(fun w'=>w'.cell? ⟨X,0,none⟩=some (Value.int IntKind.i64 x.f0)∧w'.cell? ⟨X,1,none⟩=some (Value.string x.f1.f0)∧w'.cell? ⟨X,2,none⟩=some (Value.string x.f1.f1)∧w'.cell? ⟨X,3,none⟩=some (Value.string x.f2)∧w'.cell? ⟨X,4,none⟩=some (Value.int IntKind.i64 x.f3)∧w'.cell? ⟨X,5,none⟩=some (.slice A5 n5 c5))) (by kernel_rfl) (cells6 G1d.blk).1 (fun hHeld=>?_)
     refine wpAnyH_take (i:=0) (v:=?v0c1) rfl (by kernel_rfl) (by kernel_rfl) (by kernel_rfl) (fun _ _ _ h=>h) (Or.inl ⟨by rfl,?hy0c1⟩) (by assumption) ?rest0c1
     case hy0c1=>(intro w hSw;(try dsimp only at hSw);go_simp;try (with_reducible rfl))
     try simp only [Act.put,List.setIfInBounds_toArray,List.set_cons_zero,List.set_cons_succ]
     refine wpAnyH_take (i:=1) (v:=?v1c2) rfl (by kernel_rfl) (by kernel_rfl) (by kernel_rfl) (fun _ _ _ h=>h) (Or.inl ⟨by rfl,?hy1c2⟩) (by assumption) ?rest1c2
     case hy1c2=>(intro w hSw;(try dsimp only at hSw);go_simp;try (with_reducible rfl))
     try simp only [Act.put,List.setIfInBounds_toArray,List.set_cons_zero,List.set_cons_succ]
     refine wpAnyH_ready (rs:=[2]) (by kernel_rfl) (by simp) ?_
     refine AllReadyH.cons rfl (fun K hK=>?_) AllReadyH.nil
     go_simp
     go_wp2_with (go_at_call 160;refine hp1.mono ?_;rintro e w2 ⟨rfl,hg2⟩)
     rw [Hres'.out]
     exact ⟨rfl,rfl,Lib.grownBy_trans G1d.took.grown hg2⟩
    | ok r =>
     obtain ⟨y,n2⟩:=r
     have Hres':Hid (sumLoop ts en chk ex gk (twoX 3 x y) n2=res):=by
      have:=Hres.out
      unfold sumLoop at this
      rw [if_pos h1,hc] at this
      exact Lib.hid this
     go_wp2_with fail
     refine hs.mono ?_
     rintro e w1 ⟨rfl,hk1⟩
     have G1:=G.go E hRw hXw hk1 hlt
     obtain ⟨⟨p0,p1,p2,p3,p4,p5⟩,-,xl⟩:=cells6 G1.blk
     have G1d:=G1.below ((Below.refl _ w1).drew)
     have hp1:=HP.out (n+1) _ (by omega) G1d.st
     rw [hc] at hp1
     unfold ExPost at hp1
     clear hc
     go_wp2_with fail
     go_region_with ((first
      | (go_at_call 160;refine hp1.mono ?_;rintro e w2 ⟨hn1,hn2,vy,rfl,hy,hk2⟩;have G2:=G1d.go E hRw hXw hk2 hn2;have hw:=G1d.two 3 E hRw hXw hy hk2 hn2;obtain ⟨⟨q0,q1,q2,q3,q4,q5⟩,-,lt2⟩:=cells6 G2.blk)
      | (go_at_call 161;refine hw.mono ?_;rintro e w3 ⟨u,A,N,C,rfl,rfl,G3,hu⟩;obtain ⟨⟨r0,r1,r2,r3,r4,r5⟩,⟨f0,f1,f2,f3,f4,f5⟩,lt3⟩:=cells6 G3.blk;simp only [exV,twoX])))
     all_goals
      have G4:=G3.store E hRw hXw hu
      go_wp2
      go_roundg gk
      case measure=>omega
      case rel=>exact ⟨_,n2,_,by omega,by omega,hn2,by omega,G4,Hres'⟩
   | false =>
    have hs:=skip_no R ts n en ⟨#[43]⟩ wr G.st.rdr hnl h1
    cases h2:sk ts en n ⟨#[45]⟩ with
    | true =>
     have hlt:=isTok_lt h2
     cases hc:productS ts en chk ex (n+1) with
     | error p =>
      have Hres':Hid (res=.error p):=by
       have:=Hres.out
       unfold sumLoop at this
       rw [if_neg (by rw [h1];decide),if_pos h2,hc] at this
       exact Lib.hid this.symm
      go_wp2_with fail
      refine hs.mono ?_
      rintro e w0 ⟨rfl,hk0⟩
      have G0:=G.go E hRw hXw hk0 hnl
      have hs2:=skip_yes R ts n en ⟨#[45]⟩ w0 G0.st.rdr few h2
      go_wp2_with fail
      refine hs2.mono ?_
      rintro e w1 ⟨rfl,hk1⟩
      have G1:=G0.go E hRw hXw hk1 hlt
      obtain ⟨⟨p0,p1,p2,p3,p4,p5⟩,-,xl⟩:=cells6 G1.blk
      have G1d:=G1.below ((Below.refl _ w1).drew)
      have hp1:=HP.out (n+1) _ (by omega) G1d.st
      rw [hc] at hp1
      unfold ExPost at hp1
      unfold stuckAt at hp1
      clear hc
      go_wp2_with fail
      refine wp_region_held_drew (S:=(fun w'=>w'.cell? ⟨X,0,none⟩=some (Value.int IntKind.i64 x.f0)∧w'.cell? ⟨X,1,none⟩=some (Value.string x.f1.f0)∧w'.cell? ⟨X,2,none⟩=some (Value.string x.f1.f1)∧w'.cell? ⟨X,3,none⟩=some (Value.string x.f2)∧w'.cell? ⟨X,4,none⟩=some (Value.int IntKind.i64 x.f3)∧w'.cell? ⟨X,5,none⟩=some (.slice A5 n5 c5))) (by kernel_rfl) (cells6 G1d.blk).1 (fun hHeld=>?_)
      refine wpAnyH_take (i:=0) (v:=?v0c3) rfl (by kernel_rfl) (by kernel_rfl) (by kernel_rfl) (fun _ _ _ h=>h) (Or.inl ⟨by rfl,?hy0c3⟩) (by assumption) ?rest0c3
      case hy0c3=>(intro w hSw;(try dsimp only at hSw);go_simp;try (with_reducible rfl))
      try simp only [Act.put,List.setIfInBounds_toArray,List.set_cons_zero,List.set_cons_succ]
      refine wpAnyH_take (i:=1) (v:=?v1c4) rfl (by kernel_rfl) (by kernel_rfl) (by kernel_rfl) (fun _ _ _ h=>h) (Or.inl ⟨by rfl,?hy1c4⟩) (by assumption) ?rest1c4
      case hy1c4=>(intro w hSw;(try dsimp only at hSw);go_simp;try (with_reducible rfl))
      try simp only [Act.put,List.setIfInBounds_toArray,List.set_cons_zero,List.set_cons_succ]
      refine wpAnyH_ready (rs:=[2]) (by kernel_rfl) (by simp) ?_
      refine AllReadyH.cons rfl (fun K hK=>?_) AllReadyH.nil
      go_simp
      go_wp2_with (go_at_call 160;refine hp1.mono ?_;rintro e w2 ⟨rfl,hg2⟩)
      rw [Hres'.out]
      exact ⟨rfl,rfl,Lib.grownBy_trans G1d.took.grown hg2⟩
     | ok r =>
      obtain ⟨y,n2⟩:=r
      have Hres':Hid (sumLoop ts en chk ex gk (twoX 4 x y) n2=res):=by
       have:=Hres.out
       unfold sumLoop at this
       rw [if_neg (by rw [h1];decide),if_pos h2,hc] at this
       exact Lib.hid this
      go_wp2_with fail
      refine hs.mono ?_
      rintro e w0 ⟨rfl,hk0⟩
      have G0:=G.go E hRw hXw hk0 hnl
      have hs2:=skip_yes R ts n en ⟨#[45]⟩ w0 G0.st.rdr few h2
      go_wp2_with fail
      refine hs2.mono ?_
      rintro e w1 ⟨rfl,hk1⟩
      have G1:=G0.go E hRw hXw hk1 hlt
      obtain ⟨⟨p0,p1,p2,p3,p4,p5⟩,-,xl⟩:=cells6 G1.blk
      have G1d:=G1.below ((Below.refl _ w1).drew)
      have hp1:=HP.out (n+1) _ (by omega) G1d.st
      rw [hc] at hp1
      unfold ExPost at hp1
      clear hc
      go_wp2_with fail
      go_region_with ((first
       | (go_at_call 160;refine hp1.mono ?_;rintro e w2 ⟨hn1,hn2,vy,rfl,hy,hk2⟩;have G2:=G1d.go E hRw hXw hk2 hn2;have hw:=G1d.two 4 E hRw hXw hy hk2 hn2;obtain ⟨⟨q0,q1,q2,q3,q4,q5⟩,-,lt2⟩:=cells6 G2.blk)
       | (go_at_call 161;refine hw.mono ?_;rintro e w3 ⟨u,A,N,C,rfl,rfl,G3,hu⟩;obtain ⟨⟨r0,r1,r2,r3,r4,r5⟩,⟨f0,f1,f2,f3,f4,f5⟩,lt3⟩:=cells6 G3.blk;simp only [exV,twoX])))
      all_goals
       have G4:=G3.store E hRw hXw hu
       go_wp2
       go_roundg gk
       case measure=>omega
       case rel=>exact ⟨_,n2,_,by omega,by omega,hn2,by omega,G4,Hres'⟩
    | false =>
     have Hres':Hid (res=.ok (x,n)):=by
      have:=Hres.out
      unfold sumLoop at this
      rw [if_neg (by rw [h1];decide),if_neg (by rw [h2];decide)] at this
      exact Lib.hid this.symm
     go_wp2_with fail
     refine hs.mono ?_
     rintro e w0 ⟨rfl,hk0⟩
     have G0:=G.go E hRw hXw hk0 hnl
     have hs2:=skip_no R ts n en ⟨#[45]⟩ w0 G0.st.rdr hnl h2
     go_wp2_with fail
     refine hs2.mono ?_
     rintro e w1 ⟨rfl,hk1⟩
     have G1:=G0.go E hRw hXw hk1 hnl
     obtain ⟨⟨p0,p1,p2,p3,p4,p5⟩,-,xl⟩:=cells6 G1.blk
     obtain ⟨⟨q0,q1,q2,q3,q4,q5⟩,⟨f0,f1,f2,f3,f4,f5⟩,xl2⟩:=cells6 G1.res
     go_wp2
     rw [Hres'.out]
     refine bodyPost_ret (results_c Tryz.results135 _ _ w.heap.size 31 _ (0,0) _ rfl (fin6 _ _ _ _ _ _ G1.res) Tryz.underlying31 rfl size31) rfl ⟨hnn,hnl,_,rfl,?_,?_⟩
     ·exact (G1.val.set6 (fun k hk=>Nat.ne_of_gt hk.1) _ _ _ _ _ _).mono (fun k hk=>Nat.le_of_lt hk.1)
     ·exact G1.took.set6 G1.res hne0 (Nat.le_refl _) _ _ _ _ _ _
set_option maxRecDepth 100000 in
set_option maxHeartbeats 2000000 in
theorem sums_neg (W0:World) (R B:Nat) (ts:List S47) (en:Nat) (chk:S28→Int) (ex:Nat→PR) (m now:Nat) (w:World) (E:Env W0 R B ts) (h:St W0 R B ts en now w) (hm:m≤now)
  (hp:Pars W0 R B ts en 160 (productS ts en chk ex) m) (hneg:sk ts en now ⟨#[45]⟩=true) :
  Calls Tryz.prog 135 #[.pointer (some ⟨R,0,none⟩)] w (ExPost w R ts en now (sumsS ts en chk ex now)):=by
 have few:=E.few
 have hRw:=h.rdr.lt
 have hne0:=Nat.ne_of_gt hRw
 have hnow:now+1≤ts.length:=isTok_lt hneg
 have hsk:=skip_yes R ts now en ⟨#[45]⟩ (w.alloc zO) (h.rdr.keep ((Below.refl _ _).alloc (Nat.le_refl _) _)) few hneg
 have h0:St W0 R B ts en now (w.alloc zO):=h.below ((Below.refl _ _).alloc (Nat.le_refl _) _)
 have HP:=Lib.hid hp
 have H:=Lib.hid h
 unfold sumsS
 rw [if_pos hneg]
 clear hneg hp h
 cases hc:productS ts en chk ex (now+1) with
 | error p =>
  go_enter Tryz.func135,Tryz.ntmps135
  go_wp2_with fail
  refine hsk.mono ?_
  rintro e wk ⟨rfl,hkk⟩
  have hp0:=HP.out (now+1) wk (by omega) (h0.took E hkk hnow)
  rw [hc] at hp0
  unfold ExPost stuckAt at hp0
  clear hc
  go_wp2_with fail
  refine hp0.mono ?_
  rintro e w1 ⟨rfl,hg⟩
  go_wp2
  exact ⟨rfl,rfl,Lib.grownBy_trans (hkk.start.grown) hg⟩
 | ok r =>
  obtain ⟨x,n⟩:=r
  show Calls _ _ _ _ (ExPost w R ts en now (sumLoop ts en chk ex (ts.length+1) ⟨2,z28,⟨#[]⟩,0,[x]⟩ n))
  generalize hres:sumLoop ts en chk ex (ts.length+1) ⟨2,z28,⟨#[]⟩,0,[x]⟩ n=res
  have HresL:=Lib.hid hres
  clear hres
  go_enter Tryz.func135,Tryz.ntmps135
  go_wp2_with fail
  refine hsk.mono ?_
  rintro e wk ⟨rfl,hkk⟩
  have hp0:=HP.out (now+1) wk (by omega) (h0.took E hkk hnow)
  rw [hc] at hp0
  unfold ExPost at hp0
  clear hc
  have hzk:=hkk.blk (blk_new w zO) hne0
  go_wp2_with fail
  refine hp0.mono ?_
  rintro e w1 ⟨hn1,hn2,v,rfl,hx,hk⟩
  obtain ⟨v5,A5,n5,c5,rfl,rfl,_,_⟩:=hx.cells
  unfold exV
  have hX0:=hk.rdr.lt
  have hz1:=hk.blk hzk hne0
  have hXw:w.heap.size < w1.heap.size:=blk_lt hz1
  have hwk:w.heap.size < wk.heap.size:=blk_lt hzk
  have g1:Gath W0 R B ts en w w1.heap.size (w1.alloc (.cells #[.int .i64 x.f0,.string x.f1.f0,.string x.f1.f1,.string x.f2,.int .i64 x.f3,.slice A5 n5 c5] 31)) x n (.slice A5 n5 c5) :=
   ⟨(((h0.took E hkk hnow).took E hk hn2).below ((Below.refl _ _).alloc (Nat.le_refl _) _)),(hkk.start.trans hk).alloc _,blk_new _ _,(hx.old (fun k h1 h2=>⟨by simp [From] at h1;omega,Nat.ne_of_lt h2⟩)).below ((Below.refl _ _).alloc (Nat.le_refl _) _),
    (Below.heap_alloc _ _ _ (blk_lt hz1)).trans hz1⟩
  have hXR:w1.heap.size≠R:=Nat.ne_of_gt hk.rdr.lt
  obtain ⟨⟨p0,p1,p2,p3,p4,p5⟩,⟨y0,y1,y2,y3,y4,y5⟩,xl⟩:=cells6 g1.blk
  go_wp2
  clear g1 p0 p1 p2 p3 p4 p5 y0 y1 y2 y3 y4 y5 xl
  have hx1:=((hx.old (S':=Sx w w1.heap.size) (fun k h1 h2=>⟨by simp [From] at h1;omega,Nat.ne_of_lt h2⟩)).below ((Below.refl _ w1).alloc (Nat.le_refl _) (.cells #[.int .i64 2,.string ⟨#[]⟩,.string ⟨#[]⟩,.string ⟨#[]⟩,.int .i64 0,.slice (some ⟨w1.heap.size+1,0,none⟩) 1 1] 31))).one (by simp;omega) ⟨2,z28,⟨#[]⟩,0,[x]⟩ rfl
  simp only [World.size_alloc] at hx1
  have hbA:=(((Below.refl w1.heap.size w1).alloc (Nat.le_refl _) (.cells #[.int .i64 2,.string ⟨#[]⟩,.string ⟨#[]⟩,.string ⟨#[]⟩,.int .i64 0,.slice (some ⟨w1.heap.size+1,0,none⟩) 1 1] 31)).alloc (by simp) (.cells #[.int .i64 x.f0,.string x.f1.f0,.string x.f1.f1,.string x.f2,.int .i64 x.f3,.slice A5 n5 c5] 31))
  have g1:Gath W0 R B ts en w w1.heap.size _ ⟨2,z28,⟨#[]⟩,0,[x]⟩ n (.slice (some ⟨w1.heap.size+1,0,none⟩) 1 1) :=
   ⟨((h0.took E hkk hnow).took E hk hn2).below hbA,(hkk.start.trans hk).below hbA,(Below.heap_alloc _ _ _ (by simp)).trans (blk_new _ _),hx1,bcell hbA hz1⟩
  generalize w1.heap.size=X at *
  generalize hW:World.alloc (World.alloc w1 _) _=W at *
  clear hW hk hx hp0 h0 hkk hzk hz1 hX0 hx1 hbA
  have hres:=HresL.out
  clear HresL
  go_loopg [] (ts.length+1) (fun k wr=>∃ x n v5,m < n∧now < n∧n≤ts.length∧ts.length < n+k∧Gath W0 R B ts en w X wr x n v5∧Hid (sumLoop ts en chk ex k x n=res))
  case atStart=>exact ⟨⟨2,z28,⟨#[]⟩,0,[x]⟩,n,_,by omega,by omega,hn2,by omega,g1,hres⟩
  case round =>
   clear g1 hres hn1 hn2
   obtain ⟨x,n,v5,hmn,hnn,hnl,hfuel,G,Hres⟩:=hrel
   obtain ⟨_,A5,n5,c5,h5,rfl,_,_⟩:=G.val.cells
   obtain rfl:=exV_inj h5
   cases gk with
   | zero=>omega
   | succ gk =>
   cases h1:sk ts en n ⟨#[43]⟩ with
   | true =>
    have hs:=skip_yes R ts n en ⟨#[43]⟩ wr G.st.rdr few h1
    have hlt:=isTok_lt h1
    cases hc:productS ts en chk ex (n+1) with
    | error p =>
     have Hres':Hid (res=.error p):=by
      have:=Hres.out
      unfold sumLoop at this
      rw [if_pos h1,hc] at this
      exact Lib.hid this.symm
     go_wp2_with fail
     refine hs.mono ?_
     rintro e w1 ⟨rfl,hk1⟩
     have G1:=G.go E hRw hXw hk1 hlt
     obtain ⟨⟨p0,p1,p2,p3,p4,p5⟩,-,xl⟩:=cells6 G1.blk
     have G1d:=G1.below ((Below.refl _ w1).drew)
     have hp1:=HP.out (n+1) _ (by omega) G1d.st
     rw [hc] at hp1
     unfold ExPost at hp1
     unfold stuckAt at hp1
     clear hc
     go_wp2_with fail
     refine wp_region_held_drew (S:=(fun w'=>w'.cell? ⟨X,0,none⟩=some (Value.int IntKind.i64 x.f0)∧w'.cell? ⟨X,1,none⟩=some (Value.string x.f1.f0)∧w'.cell? ⟨X,2,none⟩=some (Value.string x.f1.f1)∧w'.cell? ⟨X,3,none⟩=some (Value.string x.f2)∧w'.cell? ⟨X,4,none⟩=some (Value.int IntKind.i64 x.f3)∧w'.cell? ⟨X,5,none⟩=some (.slice A5 n5 c5))) (by kernel_rfl) (cells6 G1d.blk).1 (fun hHeld=>?_)
     refine wpAnyH_take (i:=0) (v:=?v0c5) rfl (by kernel_rfl) (by kernel_rfl) (by kernel_rfl) (fun _ _ _ h=>h) (Or.inl ⟨by rfl,?hy0c5⟩) (by assumption) ?rest0c5
     case hy0c5=>(intro w hSw;(try dsimp only at hSw);go_simp;try (with_reducible rfl))
     try simp only [Act.put,List.setIfInBounds_toArray,List.set_cons_zero,List.set_cons_succ]
     refine wpAnyH_take (i:=1) (v:=?v1c6) rfl (by kernel_rfl) (by kernel_rfl) (by kernel_rfl) (fun _ _ _ h=>h) (Or.inl ⟨by rfl,?hy1c6⟩) (by assumption) ?rest1c6
     case hy1c6=>(intro w hSw;(try dsimp only at hSw);go_simp;try (with_reducible rfl))
     try simp only [Act.put,List.setIfInBounds_toArray,List.set_cons_zero,List.set_cons_succ]
     refine wpAnyH_ready (rs:=[2]) (by kernel_rfl) (by simp) ?_
     refine AllReadyH.cons rfl (fun K hK=>?_) AllReadyH.nil
     go_simp
     go_wp2_with (go_at_call 160;refine hp1.mono ?_;rintro e w2 ⟨rfl,hg2⟩)
     rw [Hres'.out]
     exact ⟨rfl,rfl,Lib.grownBy_trans G1d.took.grown hg2⟩
    | ok r =>
     obtain ⟨y,n2⟩:=r
     have Hres':Hid (sumLoop ts en chk ex gk (twoX 3 x y) n2=res):=by
      have:=Hres.out
      unfold sumLoop at this
      rw [if_pos h1,hc] at this
      exact Lib.hid this
     go_wp2_with fail
     refine hs.mono ?_
     rintro e w1 ⟨rfl,hk1⟩
     have G1:=G.go E hRw hXw hk1 hlt
     obtain ⟨⟨p0,p1,p2,p3,p4,p5⟩,-,xl⟩:=cells6 G1.blk
     have G1d:=G1.below ((Below.refl _ w1).drew)
     have hp1:=HP.out (n+1) _ (by omega) G1d.st
     rw [hc] at hp1
     unfold ExPost at hp1
     clear hc
     go_wp2_with fail
     go_region_with ((first
      | (go_at_call 160;refine hp1.mono ?_;rintro e w2 ⟨hn1,hn2,vy,rfl,hy,hk2⟩;have G2:=G1d.go E hRw hXw hk2 hn2;have hw:=G1d.two 3 E hRw hXw hy hk2 hn2;obtain ⟨⟨q0,q1,q2,q3,q4,q5⟩,-,lt2⟩:=cells6 G2.blk)
      | (go_at_call 161;refine hw.mono ?_;rintro e w3 ⟨u,A,N,C,rfl,rfl,G3,hu⟩;obtain ⟨⟨r0,r1,r2,r3,r4,r5⟩,⟨f0,f1,f2,f3,f4,f5⟩,lt3⟩:=cells6 G3.blk;simp only [exV,twoX])))
     all_goals
      have G4:=G3.store E hRw hXw hu
      go_wp2
      go_roundg gk
      case measure=>omega
      case rel=>exact ⟨_,n2,_,by omega,by omega,hn2,by omega,G4,Hres'⟩
   | false =>
    have hs:=skip_no R ts n en ⟨#[43]⟩ wr G.st.rdr hnl h1
    cases h2:sk ts en n ⟨#[45]⟩ with
    | true =>
     have hlt:=isTok_lt h2
     cases hc:productS ts en chk ex (n+1) with
     | error p =>
      have Hres':Hid (res=.error p):=by
       have:=Hres.out
       unfold sumLoop at this
       rw [if_neg (by rw [h1];decide),if_pos h2,hc] at this
       exact Lib.hid this.symm
      go_wp2_with fail
      refine hs.mono ?_
      rintro e w0 ⟨rfl,hk0⟩
      have G0:=G.go E hRw hXw hk0 hnl
      have hs2:=skip_yes R ts n en ⟨#[45]⟩ w0 G0.st.rdr few h2
      go_wp2_with fail
      refine hs2.mono ?_
      rintro e w1 ⟨rfl,hk1⟩
      have G1:=G0.go E hRw hXw hk1 hlt
      obtain ⟨⟨p0,p1,p2,p3,p4,p5⟩,-,xl⟩:=cells6 G1.blk
      have G1d:=G1.below ((Below.refl _ w1).drew)
      have hp1:=HP.out (n+1) _ (by omega) G1d.st
      rw [hc] at hp1
      unfold ExPost at hp1
      unfold stuckAt at hp1
      clear hc
      go_wp2_with fail
      refine wp_region_held_drew (S:=(fun w'=>w'.cell? ⟨X,0,none⟩=some (Value.int IntKind.i64 x.f0)∧w'.cell? ⟨X,1,none⟩=some (Value.string x.f1.f0)∧w'.cell? ⟨X,2,none⟩=some (Value.string x.f1.f1)∧w'.cell? ⟨X,3,none⟩=some (Value.string x.f2)∧w'.cell? ⟨X,4,none⟩=some (Value.int IntKind.i64 x.f3)∧w'.cell? ⟨X,5,none⟩=some (.slice A5 n5 c5))) (by kernel_rfl) (cells6 G1d.blk).1 (fun hHeld=>?_)
      refine wpAnyH_take (i:=0) (v:=?v0c7) rfl (by kernel_rfl) (by kernel_rfl) (by kernel_rfl) (fun _ _ _ h=>h) (Or.inl ⟨by rfl,?hy0c7⟩) (by assumption) ?rest0c7
      case hy0c7=>(intro w hSw;(try dsimp only at hSw);go_simp;try (with_reducible rfl))
      try simp only [Act.put,List.setIfInBounds_toArray,List.set_cons_zero,List.set_cons_succ]
      refine wpAnyH_take (i:=1) (v:=?v1c8) rfl (by kernel_rfl) (by kernel_rfl) (by kernel_rfl) (fun _ _ _ h=>h) (Or.inl ⟨by rfl,?hy1c8⟩) (by assumption) ?rest1c8
      case hy1c8=>(intro w hSw;(try dsimp only at hSw);go_simp;try (with_reducible rfl))
      try simp only [Act.put,List.setIfInBounds_toArray,List.set_cons_zero,List.set_cons_succ]
      refine wpAnyH_ready (rs:=[2]) (by kernel_rfl) (by simp) ?_
      refine AllReadyH.cons rfl (fun K hK=>?_) AllReadyH.nil
      go_simp
      go_wp2_with (go_at_call 160;refine hp1.mono ?_;rintro e w2 ⟨rfl,hg2⟩)
      rw [Hres'.out]
      exact ⟨rfl,rfl,Lib.grownBy_trans G1d.took.grown hg2⟩
     | ok r =>
      obtain ⟨y,n2⟩:=r
      have Hres':Hid (sumLoop ts en chk ex gk (twoX 4 x y) n2=res):=by
       have:=Hres.out
       unfold sumLoop at this
       rw [if_neg (by rw [h1];decide),if_pos h2,hc] at this
       exact Lib.hid this
      go_wp2_with fail
      refine hs.mono ?_
      rintro e w0 ⟨rfl,hk0⟩
      have G0:=G.go E hRw hXw hk0 hnl
      have hs2:=skip_yes R ts n en ⟨#[45]⟩ w0 G0.st.rdr few h2
      go_wp2_with fail
      refine hs2.mono ?_
      rintro e w1 ⟨rfl,hk1⟩
      have G1:=G0.go E hRw hXw hk1 hlt
      obtain ⟨⟨p0,p1,p2,p3,p4,p5⟩,-,xl⟩:=cells6 G1.blk
      have G1d:=G1.below ((Below.refl _ w1).drew)
      have hp1:=HP.out (n+1) _ (by omega) G1d.st
      rw [hc] at hp1
      unfold ExPost at hp1
      clear hc
      go_wp2_with fail
      go_region_with ((first
       | (go_at_call 160;refine hp1.mono ?_;rintro e w2 ⟨hn1,hn2,vy,rfl,hy,hk2⟩;have G2:=G1d.go E hRw hXw hk2 hn2;have hw:=G1d.two 4 E hRw hXw hy hk2 hn2;obtain ⟨⟨q0,q1,q2,q3,q4,q5⟩,-,lt2⟩:=cells6 G2.blk)
       | (go_at_call 161;refine hw.mono ?_;rintro e w3 ⟨u,A,N,C,rfl,rfl,G3,hu⟩;obtain ⟨⟨r0,r1,r2,r3,r4,r5⟩,⟨f0,f1,f2,f3,f4,f5⟩,lt3⟩:=cells6 G3.blk;simp only [exV,twoX])))
      all_goals
       have G4:=G3.store E hRw hXw hu
       go_wp2
       go_roundg gk
       case measure=>omega
       case rel=>exact ⟨_,n2,_,by omega,by omega,hn2,by omega,G4,Hres'⟩
    | false =>
     have Hres':Hid (res=.ok (x,n)):=by
      have:=Hres.out
      unfold sumLoop at this
      rw [if_neg (by rw [h1];decide),if_neg (by rw [h2];decide)] at this
      exact Lib.hid this.symm
     go_wp2_with fail
     refine hs.mono ?_
     rintro e w0 ⟨rfl,hk0⟩
     have G0:=G.go E hRw hXw hk0 hnl
     have hs2:=skip_no R ts n en ⟨#[45]⟩ w0 G0.st.rdr hnl h2
     go_wp2_with fail
     refine hs2.mono ?_
     rintro e w1 ⟨rfl,hk1⟩
     have G1:=G0.go E hRw hXw hk1 hnl
     obtain ⟨⟨p0,p1,p2,p3,p4,p5⟩,-,xl⟩:=cells6 G1.blk
     obtain ⟨⟨q0,q1,q2,q3,q4,q5⟩,⟨f0,f1,f2,f3,f4,f5⟩,xl2⟩:=cells6 G1.res
     go_wp2
     rw [Hres'.out]
     refine bodyPost_ret (results_c Tryz.results135 _ _ w.heap.size 31 _ (0,0) _ rfl (fin6 _ _ _ _ _ _ G1.res) Tryz.underlying31 rfl size31) rfl ⟨hnn,hnl,_,rfl,?_,?_⟩
     ·exact (G1.val.set6 (fun k hk=>Nat.ne_of_gt hk.1) _ _ _ _ _ _).mono (fun k hk=>Nat.le_of_lt hk.1)
     ·exact G1.took.set6 G1.res hne0 (Nat.le_refl _) _ _ _ _ _ _
theorem sums_walk (W0:World) (R B:Nat) (ts:List S47) (en:Nat) (chk:S28→Int) (ex:Nat→PR) (m:Nat) (E:Env W0 R B ts) (hp:Pars W0 R B ts en 160 (productS ts en chk ex) m) :
  Pars W0 R B ts en 135 (sumsS ts en chk ex) m:=fun now w hm h=>by
 cases hs:sk ts en now ⟨#[45]⟩ with
 | true=>exact sums_neg W0 R B ts en chk ex m now w E h hm hp hs
 | false=>exact sums_pos W0 R B ts en chk ex m now w E h hm hp hs
end Go.Proofs.YtjaobihcdkjmbaaGreatDoor
end
