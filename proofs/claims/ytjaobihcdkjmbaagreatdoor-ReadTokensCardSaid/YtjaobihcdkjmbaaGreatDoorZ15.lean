/- A part of the proof that the law ReadTokens answers true for every input. -/
import Derived.Deep.RegionHeld3
import Derived.Test.YtjaobihcdkjmbaaGreatDoorZ6
import Derived.Test.YtjaobihcdkjmbaaGreatDoorZ11
import Derived.Test.YtjaobihcdkjmbaaGreatDoorZ14
section
namespace Go.Proofs.YtjaobihcdkjmbaaGreatDoor
open Go.RowKit Go.Proofs.YtjaobihcdkjmbaaGreatDoorW.PrintWords Go.Proofs.YtjaobihcdkjmbaaGreatDoor.PReadTokens
set_option maxRecDepth 100000 in
set_option maxHeartbeats 4000000 in
theorem order_one (n m : Int) (va vb : Value) (w : World) (ha : One w n va) (hb : One w m vb) :
    Calls Tryz.prog 191 #[va, vb] w fun e w' => e = .returned (.int .i64 (cmpI n m)) ∧ Below w.heap.size w w' := by
  obtain ⟨g, c, hc, rfl, hg⟩ := ha.out
  obtain ⟨g2, c2, hc2, rfl, hg2⟩ := hb.out
  have hb0 : Below w.heap.size w ((w.alloc (.cells #[.int .i64 1, .slice (some g) 1 c] 234)).alloc (.cells #[.int .i64 1, .slice (some g2) 1 c2] 234)) := ((Below.refl _ w).alloc (Nat.le_refl _) _).alloc (by simp) _
  have h0 : ((w.alloc (.cells #[.int .i64 1, .slice (some g) 1 c] 234)).alloc (.cells #[.int .i64 1, .slice (some g2) 1 c2] 234)).heap[w.heap.size]? = some (.cells #[.int .i64 1, .slice (some g) 1 c] 234 (0, 0)) := (Below.heap_alloc _ _ _ (by simp)).trans (blk_new w _)
  have h1 : ((w.alloc (.cells #[.int .i64 1, .slice (some g) 1 c] 234)).alloc (.cells #[.int .i64 1, .slice (some g2) 1 c2] 234)).heap[w.heap.size + 1]? = some (.cells #[.int .i64 1, .slice (some g2) 1 c2] 234 (0, 0)) := alloc_at _ _ _ (by simp)
  obtain ⟨r, hr⟩ : ∃ r, r = cmpI n m := ⟨_, rfl⟩
  have hr2 : -1 ≤ r ∧ r ≤ 1 := by rw [hr]; unfold cmpI; (by_cases h1 : n < m) <;> (by_cases h2 : n > m) <;> simp [h1, h2]
  have hsz := fun w' (h1 : Below w.heap.size w w') => size_one n m g g2 c c2 w' hc hc2 (pw_cell_below h1 hg) (pw_cell_below h1 hg2)
  rw [← hr]
  rw [← hr] at hsz
  have HSZ := Lib.hid hsz
  clear ha hb hsz hr
  go_enter Tryz.func191, Tryz.ntmps191
  go_wp2_with fail
  generalize (w.alloc (.cells #[.int .i64 1, .slice (some g) 1 c] 234)).alloc (.cells #[.int .i64 1, .slice (some g2) 1 c2] 234) = X at *
  have BW := hb0.drew
  have K : X.drew.cell? ⟨w.heap.size, 0, none⟩ = some (.int .i64 1) ∧ X.drew.cell? ⟨w.heap.size, 1, none⟩ = some (.slice (some g) 1 c) ∧ X.drew.cell? ⟨w.heap.size + 1, 0, none⟩ = some (.int .i64 1) ∧ X.drew.cell? ⟨w.heap.size + 1, 1, none⟩ = some (.slice (some g2) 1 c2) :=
    ⟨blk_cell h0 0, blk_cell h0 1, blk_cell h1 0, blk_cell h1 1⟩
  have hlt := blk_lt h1
  go_region_held3 (fun w' : World => w'.cell? ⟨w.heap.size, 0, none⟩ = some (.int .i64 1) ∧ w'.cell? ⟨w.heap.size, 1, none⟩ = some (.slice (some g) 1 c) ∧ w'.cell? ⟨w.heap.size + 1, 0, none⟩ = some (.int .i64 1) ∧ w'.cell? ⟨w.heap.size + 1, 1, none⟩ = some (.slice (some g2) 1 c2)) (first | exact K) (first
    | (go_at_call 234; refine (HSZ.out _ BW).mono ?_; rintro e wq ⟨rfl, hq⟩; have K := And.intro (pw_cell_below hq K.1) (And.intro (pw_cell_below hq K.2.1) (And.intro (pw_cell_below hq K.2.2.1) (pw_cell_below hq K.2.2.2))); have BW := BW.trans (hq.mono BW.size)))
  go_wp2
  have hwr : IntKind.i64.wrap r = r := by
    have h3 : r = -1 ∨ r = 0 ∨ r = 1 := by omega
    rcases h3 with rfl | rfl | rfl <;> rfl
  rw [hwr]
  go_ret
  exact ⟨rfl, BW⟩
theorem results_cc2 {P : Program} {fn : Func} {p q : Tmp} {ty : TypeId} (h : fn.results = #[.cell p ty, .cell q ty]) (tmps : Array Value) (w : World) (g g2 : Nat) (t : TypeId) (cs cs2 : Array Value) (fr fr2 : Nat × Nat) (d : TypeDesc)
    (hp : tmps.getD p undef = .pointer (some ⟨g, 0, none⟩)) (hq : tmps.getD q undef = .pointer (some ⟨g2, 0, none⟩)) (hg : w.heap[g]? = some (.cells cs t fr)) (hg2 : w.heap[g2]? = some (.cells cs2 t fr2))
    (hu : P.underlying ty = some d) (hd : (match d with | .struct _ | .array _ _ => true | _ => false) = true) (hi : (P.info? ty).map (·.size) = some cs.size) (hi2 : (P.info? ty).map (·.size) = some cs2.size) :
    (results fn tmps).run P w = .ok (.tuple #[.agg cs, .agg cs2]) w := by
  have hp' : tmps[p]?.getD undef = .pointer (some ⟨g, 0, none⟩) := by simpa using hp
  have hq' : tmps[q]?.getD undef = .pointer (some ⟨g2, 0, none⟩) := by simpa using hq
  simp [results, h, hp', hq', asAddr, run_loadVar_row w g t ty cs fr d hg hu hd hi, run_loadVar_row w g2 t ty cs2 fr2 d hg2 hu hd hi2]
theorem nine {n : Int} (h0 : 1 ≤ n) (h1 : n ≤ 9) : n = 1 ∨ n = 2 ∨ n = 3 ∨ n = 4 ∨ n = 5 ∨ n = 6 ∨ n = 7 ∨ n = 8 ∨ n = 9 := by omega
theorem shortly_one (n : Int) (h0 : 1 ≤ n) (h1 : n ≤ 9) : limbs_shortly.f 3 [n] 1 = some ([n], 0) := by
  rcases nine h0 h1 with rfl | rfl | rfl | rfl | rfl | rfl | rfl | rfl | rfl <;> kernel_rfl
theorem shortly_calls (n : Int) (h0 : 1 ≤ n) (h1 : n ≤ 9) (g : Addr) (c : Nat) (w : World) (hc : 1 ≤ c) (hg : w.cell? g = some (.int .u32 n)) :
    Calls Tryz.prog 259 #[.slice (some g) 1 c, .int .u32 1] w fun e w' => ∃ ad c', e = .returned (.tuple #[.slice (some ad) 1 c', .int .u32 0]) ∧ 1 ≤ c' ∧ w'.cell? ad = some (.int .u32 n) ∧ w.heap.size ≤ ad.block ∧ Below w.heap.size w w' := by
  have hC : Kd.C (Kd.int .u32) w (some g) [n].length [n] := ⟨rfl, by simp, fun _ => ⟨g, rfl, fun j p hj => by
    cases j with
    | zero =>
      simp at hj
      subst hj
      refine ⟨[.int .u32 n], rfl, rfl, fun i u hu => ?_⟩
      cases i with
      | zero => simp at hu; subst hu; show w.cell? (g.add 0) = _; rw [Addr.add_zero']; exact hg
      | succ i => simp at hu
    | succ j => simp at hj⟩⟩
  refine (limbs_shortly.calls 3 (some g) c [n] 1 [n] 0 w hC hc (shortly_one n h0 h1)).mono ?_
  rintro e w' ⟨v, rfl, hR, hb⟩
  obtain ⟨ad, c', rfl⟩ := Kd.R_slice1 hR (by simp)
  obtain ⟨A, c2, he, hle, hC2⟩ := Kd.R_reads hR
  injection he with e1 e2 e3
  subst e1 e3
  have hcell := Kd.foot_int hC2 0 (by omega) (by simp)
  have hz : ad.add (0 : Int).toNat = ad := Addr.add_zero' ad
  rw [hz] at hcell
  refine ⟨ad, c', rfl, by simpa using hle, hcell, ?_, hb⟩
  obtain ⟨inner, ho⟩ := Kd.R_own hR
  exact own_base ho _ rfl
set_option maxRecDepth 100000 in
set_option maxHeartbeats 4000000 in
theorem quo_by1 (n : Int) (hn : 1 ≤ n) (hn2 : n ≤ 9) (va vb : Value) (w : World) (ha : One w n va) (hb : One w 1 vb) :
    Calls Tryz.prog 232 #[va, vb] w fun e w' => ∃ vq, e = .returned (.tuple #[vq, .agg #[.int .i64 0, .slice none 0 0]]) ∧ One w' n vq ∧ Below w.heap.size w w' := by
  obtain ⟨g, c, hc, rfl, hg⟩ := ha.out
  obtain ⟨g2, c2, hc2, rfl, hg2⟩ := hb.out
  obtain ⟨X, hX⟩ : ∃ X, X = (((w.alloc (.cells #[.int .i64 1, .slice (some g) 1 c] 234)).alloc (.cells #[.int .i64 1, .slice (some g2) 1 c2] 234)).alloc (.cells #[.int .i64 0, .slice none 0 0] 234)).alloc (.cells #[.int .i64 0, .slice none 0 0] 234) := ⟨_, rfl⟩
  have hb0 : Below w.heap.size w X := by rw [hX]; exact ((((Below.refl _ w).alloc (Nat.le_refl _) _).alloc (by simp) _).alloc (by simp <;> omega) _).alloc (by simp <;> omega) _
  have h0 : X.heap[w.heap.size]? = some (.cells #[.int .i64 1, .slice (some g) 1 c] 234 (0, 0)) := by rw [hX]; exact (Below.heap_alloc _ _ _ (by simp <;> omega)).trans ((Below.heap_alloc _ _ _ (by simp <;> omega)).trans ((Below.heap_alloc _ _ _ (by simp)).trans (blk_new w _)))
  have h1 : X.heap[w.heap.size + 1]? = some (.cells #[.int .i64 1, .slice (some g2) 1 c2] 234 (0, 0)) := by rw [hX]; exact (Below.heap_alloc _ _ _ (by simp <;> omega)).trans ((Below.heap_alloc _ _ _ (by simp)).trans (alloc_at _ _ _ (by simp)))
  have h2 : X.heap[w.heap.size + 1 + 1]? = some (.cells #[.int .i64 0, .slice none 0 0] 234 (0, 0)) := by rw [hX]; exact (Below.heap_alloc _ _ _ (by simp)).trans (alloc_at _ _ _ (by simp))
  have h3 : X.heap[w.heap.size + 1 + 1 + 1]? = some (.cells #[.int .i64 0, .slice none 0 0] 234 (0, 0)) := by rw [hX]; exact alloc_at _ _ _ (by simp)
  have hsz := size_one n 1 g g2 c c2 X hc hc2 (pw_cell_below hb0 hg) (pw_cell_below hb0 hg2)
  have hr : cmpI n 1 = 0 ∨ cmpI n 1 = 1 := by unfold cmpI; by_cases h : n = 1 <;> simp [h]; omega
  have hlt0 : decide (cmpI n 1 < 0) = false := by rcases hr with h | h <;> (rw [h]; rfl)
  generalize cmpI n 1 = r at *
  have ht := times_calls 1 1 (.inr rfl) (.inr rfl)
  go_enter Tryz.func232, Tryz.ntmps232
  go_wp2_with fail
  rw [← hX]
  clear hX
  refine hsz.mono ?_
  rintro e w1 ⟨rfl, hb1⟩
  have k0 := bcell hb1 h0
  have k1 := bcell hb1 h1
  have k2 := bcell hb1 h2
  have k3 := bcell hb1 h3
  have hbw := hb0.trans (hb1.mono hb0.size)
  have a0 := blk_cell k0 0
  have a1 := blk_cell k0 1
  have b0 := blk_cell k1 0
  have b1 := blk_cell k1 1
  have hg1 := pw_cell_below hbw hg
  have hg21 := pw_cell_below hbw hg2
  clear h0 h1 h2 h3 hsz hr
  go_wp2_with (go_at_call 258; refine (ht _).mono ?_; rintro e wq ⟨rfl, hq⟩; subst wq)
  have hsh := shortly_calls n hn hn2 g c w1.drew hc hg1
  have K : w1.drew.cell? ⟨w.heap.size, 1, none⟩ = some (.slice (some g) 1 c) ∧ w1.drew.cell? ⟨w.heap.size + 1, 1, none⟩ = some (.slice (some g2) 1 c2) ∧ w1.drew.cell? g2 = some (.int .u32 1) := ⟨a1, b1, hg21⟩
  have l0 := blk_lt k0
  have l1 := blk_lt k1
  have BW := hbw.drew
  clear a0 a1 b0 b1 hg1 hg21
  go_region_held3 (fun w' : World => w'.cell? ⟨w.heap.size, 1, none⟩ = some (.slice (some g) 1 c) ∧ w'.cell? ⟨w.heap.size + 1, 1, none⟩ = some (.slice (some g2) 1 c2) ∧ w'.cell? g2 = some (.int .u32 1)) (first | exact K) (first
    | (go_at_call 259; refine hsh.mono ?_; rintro e wq ⟨ad, cq, rfl, hcq, hadq, hage, hq⟩; have K := And.intro (pw_cell_below hq K.1) (And.intro (pw_cell_below hq K.2.1) (pw_cell_below hq K.2.2))))
  have BW := BW.trans (hq.mono BW.size)
  have HBW := Lib.hid BW
  have K0 : wq.cell? ⟨w.heap.size, 0, none⟩ = some (.int .i64 1) := pw_cell_below hq (show w1.drew.cell? _ = _ from blk_cell k0 0)
  have j2 : wq.heap[w.heap.size + 1 + 1]? = some (.cells #[.int .i64 0, .slice none 0 0] 234 (0, 0)) := bcell hq (bcell (Below.refl _ w1).drew k2)
  have j3 : wq.heap[w.heap.size + 1 + 1 + 1]? = some (.cells #[.int .i64 0, .slice none 0 0] 234 (0, 0)) := bcell hq (bcell (Below.refl _ w1).drew k3)
  clear K hq hsh BW k0 k1 k2 k3
  have HM1 : Hid (∀ W : World, W.cell? ad = some (.int .u32 n) → Calls Tryz.prog 229 #[.int .i64 1, .slice (some ad) 1 cq] W fun e w' => ∃ gv cv, e = .returned (.agg #[.int .i64 1, .slice (some gv) 1 cv]) ∧ 1 ≤ cv ∧ w'.cell? gv = some (.int .u32 n) ∧ Below W.heap.size W w') := Lib.hid (fun W hW => (made_first ad n [] cq W (by omega) (by simp) (by simpa using hcq) (by simp) (fun i h => by
    obtain rfl : i = 0 := by simp at h; omega
    rw [Addr.add_zero']; exact hW)).mono fun _ _ ⟨v, h1, h2, h3⟩ => by
      obtain ⟨gv, cv, h4, rfl, h5⟩ := h2.out
      exact ⟨gv, cv, h1, h4, h5, h3⟩)
  have HM2 : Hid (∀ (W : World) (A : Addr), W.cell? A = some (.int .u32 0) → Calls Tryz.prog 229 #[.int .i64 1, .slice (some A) 1 1] W fun e w' => e = .returned (.agg #[.int .i64 0, .slice none 0 0]) ∧ Below W.heap.size W w') := Lib.hid (fun W A hW => made_none 1 A 1 W (Nat.le_refl _) hW)
  have HK : Hid (∀ a b : World, Below a.heap.size a b → a.cell? ⟨w.heap.size, 0, none⟩ = some (.int .i64 1) → b.cell? ⟨w.heap.size, 0, none⟩ = some (.int .i64 1)) := Lib.hid (fun a b h k => pw_cell_below h k)
  go_wp2_with fail
  have K : wq.drew.cell? ⟨w.heap.size, 0, none⟩ = some (.int .i64 1) := K0
  have KA : wq.drew.cell? ad = some (.int .u32 n) := hadq
  have J2 : wq.drew.heap[w.heap.size + 1 + 1]? = some (.cells #[.int .i64 0, .slice none 0 0] 234 (0, 0)) := j2
  have J3 : wq.drew.heap[w.heap.size + 1 + 1 + 1]? = some (.cells #[.int .i64 0, .slice none 0 0] 234 (0, 0)) := j3
  have BW := HBW.out.drew
  clear K0 j2 j3 hadq HBW
  have KA2 : Hid (∀ (W : World) (o : Obj), W.cell? ⟨w.heap.size, 0, none⟩ = some (.int .i64 1) → (W.alloc o).cell? ⟨w.heap.size, 0, none⟩ = some (.int .i64 1)) := Lib.hid (fun W o k => pw_cell_below ((Below.refl _ _).alloc (Nat.le_refl _) _) k)
  have KD2 : Hid (∀ (W : World) (o : Obj), W.drew.cell? ⟨w.heap.size, 0, none⟩ = some (.int .i64 1) → (W.alloc o).drew.cell? ⟨w.heap.size, 0, none⟩ = some (.int .i64 1)) := Lib.hid (fun W o k => show (W.alloc o).cell? _ = _ from pw_cell_below ((Below.refl _ _).alloc (Nat.le_refl _) _) (show W.cell? _ = _ from k))
  have HAD : Below wq.drew.heap.size wq.drew (wq.alloc (.cells #[.int .u32 0] 270)).drew := by
    have h := ((Below.refl wq.heap.size wq).alloc (Nat.le_refl _) (.cells #[.int .u32 0] 270)).drew
    exact ⟨h.os, h.tape, h.output, h.size, h.block⟩
  have KN0 : (wq.alloc (.cells #[.int .u32 0] 270)).drew.cell? ⟨wq.heap.size, 0, none⟩ = some (.int .u32 0) := blk_cell (blk_new wq (.cells #[.int .u32 0] 270)) 0
  have HADh := Lib.hid HAD
  have KN0h := Lib.hid KN0
  clear HAD KN0
  have KS2 : Hid (∀ (W : World) (v v' : Value), W.cell? ⟨w.heap.size, 0, none⟩ = some (.int .i64 1) → ((W.setCell ⟨w.heap.size + 1 + 1, 0, none⟩ v).setCell ⟨w.heap.size + 1 + 1, 1, none⟩ v').cell? ⟨w.heap.size, 0, none⟩ = some (.int .i64 1)) := Lib.hid (fun W v v' k => by
    rw [World.cell?_setCell_far _ _ _ _ (by simp <;> omega), World.cell?_setCell_far _ _ _ _ (by simp <;> omega)]; exact k)
  have KS3 : Hid (∀ (W : World) (v v' : Value), W.cell? ⟨w.heap.size, 0, none⟩ = some (.int .i64 1) → ((W.setCell ⟨w.heap.size + 1 + 1 + 1, 0, none⟩ v).setCell ⟨w.heap.size + 1 + 1 + 1, 1, none⟩ v').cell? ⟨w.heap.size, 0, none⟩ = some (.int .i64 1)) := Lib.hid (fun W v v' k => by
    rw [World.cell?_setCell_far _ _ _ _ (by simp <;> omega), World.cell?_setCell_far _ _ _ _ (by simp <;> omega)]; exact k)
  have ne2 : w.heap.size + 1 + 1 ≠ w.heap.size := by omega
  have ne3 : w.heap.size + 1 + 1 + 1 ≠ w.heap.size := by omega
  go_region_held3 (fun w' : World => w'.cell? ⟨w.heap.size, 0, none⟩ = some (.int .i64 1)) (first | with_reducible exact K | with_reducible exact KA2.out _ _ K | with_reducible exact KD2.out _ _ K | with_reducible exact KS2.out _ _ _ K | with_reducible exact KS3.out _ _ _ (KS2.out _ _ _ K) | with_reducible exact KS3.out _ _ _ K) (first
    | (go_at_call 229; refine (HM1.out _ KA).mono ?_; rintro e wr ⟨gv, cv, rfl, hcv, hgv, hq⟩; clear HM1; have K := pw_cell_below hq K; have J2 := bcell hq J2; have J3 := bcell hq J3; have BW := BW.trans (hq.mono BW.size))
    | (go_at_call 229; refine (HM1.out _ (pw_cell_below HADh.out KA)).mono ?_; rintro e wr ⟨gv, cv, rfl, hcv, hgv, hq⟩; clear HM1; have KN := pw_cell_below hq KN0h.out; have hal := HADh.out.trans (hq.mono (by simp)); have K := pw_cell_below hal K; have J2 := bcell hal J2; have J3 := bcell hal J3; have BW := BW.trans (hal.mono BW.size))
    | (go_at_call 229; refine (HM2.out _ _ (blk_cell (blk_new _ _) 0)).mono ?_; rintro e wr ⟨rfl, hq⟩; have hal := (Below.refl _ _).alloc (Nat.le_refl _) (.cells #[.int .u32 0] 270) |>.trans (hq.mono (by simp)); have K := pw_cell_below hal K; have J2 := bcell hal J2; have J3 := bcell hal J3; have hgv := pw_cell_below hal hgv; have BW := BW.trans (hal.mono BW.size); have d20 := blk_cell J2 0; have d21 := blk_cell J2 1; have e20 := blk_frozen J2 0; have e21 := blk_frozen J2 1; have d30 := blk_cell J3 0; have d31 := blk_cell J3 1; have e30 := blk_frozen J3 0; have e31 := blk_frozen J3 1)
    | (go_at_call 229; refine (HM2.out _ _ KN).mono ?_; rintro e wr ⟨rfl, hal⟩; have K := pw_cell_below hal K; have J2 := bcell hal J2; have J3 := bcell hal J3; have hgv := pw_cell_below hal hgv; have BW := BW.trans (hal.mono BW.size); have d20 := blk_cell J2 0; have d21 := blk_cell J2 1; have e20 := blk_frozen J2 0; have e21 := blk_frozen J2 1; have d30 := blk_cell J3 0; have d31 := blk_cell J3 1; have e30 := blk_frozen J3 0; have e31 := blk_frozen J3 1))
  all_goals go_wp2
  all_goals
    have m2 := num_ne hgv J2
    have m3 := num_ne hgv J3
    have q2 : ((((wr.setCell ⟨w.heap.size + 1 + 1, 0, none⟩ (.int .i64 1)).setCell ⟨w.heap.size + 1 + 1, 1, none⟩ (.slice (some gv) 1 cv)).setCell ⟨w.heap.size + 1 + 1 + 1, 0, none⟩ (.int .i64 0)).setCell ⟨w.heap.size + 1 + 1 + 1, 1, none⟩ (.slice none 0 0)).heap[w.heap.size + 1 + 1]? = some (.cells #[.int .i64 1, .slice (some gv) 1 cv] 234 (0, 0)) :=
      (Below.heap_setCell _ _ _ _ (by simp)).trans ((Below.heap_setCell _ _ _ _ (by simp)).trans (set2_fin _ _ J2))
    have q3 : ((((wr.setCell ⟨w.heap.size + 1 + 1, 0, none⟩ (.int .i64 1)).setCell ⟨w.heap.size + 1 + 1, 1, none⟩ (.slice (some gv) 1 cv)).setCell ⟨w.heap.size + 1 + 1 + 1, 0, none⟩ (.int .i64 0)).setCell ⟨w.heap.size + 1 + 1 + 1, 1, none⟩ (.slice none 0 0)).heap[w.heap.size + 1 + 1 + 1]? = some (.cells #[.int .i64 0, .slice none 0 0] 234 (0, 0)) :=
      set2_fin _ _ ((Below.heap_setCell _ _ _ _ (by simp)).trans ((Below.heap_setCell _ _ _ _ (by simp)).trans J3))
    have qg : ((((wr.setCell ⟨w.heap.size + 1 + 1, 0, none⟩ (.int .i64 1)).setCell ⟨w.heap.size + 1 + 1, 1, none⟩ (.slice (some gv) 1 cv)).setCell ⟨w.heap.size + 1 + 1 + 1, 0, none⟩ (.int .i64 0)).setCell ⟨w.heap.size + 1 + 1 + 1, 1, none⟩ (.slice none 0 0)).cell? gv = some (.int .u32 n) := by
      rw [World.cell?_setCell_far _ _ _ _ (Ne.symm m3), World.cell?_setCell_far _ _ _ _ (Ne.symm m3), World.cell?_setCell_far _ _ _ _ (Ne.symm m2), World.cell?_setCell_far _ _ _ _ (Ne.symm m2)]; exact hgv
    have qb := (((BW.setCell (p := ⟨w.heap.size + 1 + 1, 0, none⟩) (by simp; omega) (.int .i64 1)).setCell (p := ⟨w.heap.size + 1 + 1, 1, none⟩) (by simp; omega) (.slice (some gv) 1 cv)).setCell (p := ⟨w.heap.size + 1 + 1 + 1, 0, none⟩) (by simp; omega) (.int .i64 0)).setCell (p := ⟨w.heap.size + 1 + 1 + 1, 1, none⟩) (by simp; omega) (.slice none 0 0)
    generalize (((wr.setCell ⟨w.heap.size + 1 + 1, 0, none⟩ (.int .i64 1)).setCell ⟨w.heap.size + 1 + 1, 1, none⟩ (.slice (some gv) 1 cv)).setCell ⟨w.heap.size + 1 + 1 + 1, 0, none⟩ (.int .i64 0)).setCell ⟨w.heap.size + 1 + 1 + 1, 1, none⟩ (.slice none 0 0) = W9 at *
    refine bodyPost_ret (results_cc2 Tryz.results232 _ _ (w.heap.size + 1 + 1) (w.heap.size + 1 + 1 + 1) 234 _ _ (0, 0) (0, 0) _ rfl rfl q2 q3 Tryz.underlying234 rfl size234 size234) rfl ⟨_, rfl, ⟨gv, cv, hcv, rfl, qg⟩, qb⟩
end Go.Proofs.YtjaobihcdkjmbaaGreatDoor
end
section
namespace Go.Proofs.YtjaobihcdkjmbaaGreatDoor
open Go.RowKit Go.Proofs.YtjaobihcdkjmbaaGreatDoorW.PrintWords Go.Proofs.YtjaobihcdkjmbaaGreatDoor.PReadTokens
theorem set_same2 {W : World} {b : Nat} {v0 v1 : Value} (h0 : W.cell? ⟨b, 0, none⟩ = some v0) (h1 : W.cell? ⟨b, 1, none⟩ = some v1) :
    ((W.setCell ⟨b, 0, none⟩ v0).setCell ⟨b, 1, none⟩ v1).cell? ⟨b, 0, none⟩ = some v0 ∧ ((W.setCell ⟨b, 0, none⟩ v0).setCell ⟨b, 1, none⟩ v1).cell? ⟨b, 1, none⟩ = some v1 := by
  have e1 : (W.setCell ⟨b, 0, none⟩ v0).cell? ⟨b, 1, none⟩ = some v1 := (World.cell?_setCell_other W _ _ _ (by simp)).trans h1
  exact ⟨(World.cell?_setCell_other _ _ _ _ (by simp)).trans (World.cell?_setCell_same _ _ _ h0), World.cell?_setCell_same _ _ _ e1⟩
theorem set_far2 {W : World} {b q : Nat} {v0 v1 u : Value} {i : Nat} (hne : b ≠ q) (h : W.cell? ⟨q, i, none⟩ = some u) : ((W.setCell ⟨b, 0, none⟩ v0).setCell ⟨b, 1, none⟩ v1).cell? ⟨q, i, none⟩ = some u := by
  rw [World.cell?_setCell_far _ _ _ _ hne, World.cell?_setCell_far _ _ _ _ hne]; exact h
set_option maxRecDepth 100000 in
set_option maxHeartbeats 4000000 in
theorem common_by1 (n : Int) (hn : 1 ≤ n) (hn2 : n ≤ 9) (va vb : Value) (w : World) (ha : One w n va) (hb : One w 1 vb) :
    Calls Tryz.prog 190 #[va, vb] w fun e w' => ∃ v, e = .returned v ∧ One w' 1 v ∧ Below w.heap.size w w' := by
  obtain ⟨g, c, hc, rfl, hg⟩ := ha.out
  obtain ⟨g2, c2, hc2, rfl, hg2⟩ := hb.out
  obtain ⟨X, hX⟩ : ∃ X, X = ((w.alloc (.cells #[.int .i64 1, .slice (some g) 1 c] 234)).alloc (.cells #[.int .i64 1, .slice (some g2) 1 c2] 234)).alloc (.cells #[.int .i64 0, .slice none 0 0] 234) := ⟨_, rfl⟩
  have hb0 : Below w.heap.size w X := by rw [hX]; exact (((Below.refl _ w).alloc (Nat.le_refl _) _).alloc (by simp) _).alloc (by simp; omega) _
  have h0 : X.heap[w.heap.size]? = some (.cells #[.int .i64 1, .slice (some g) 1 c] 234 (0, 0)) := by rw [hX]; exact (Below.heap_alloc _ _ _ (by simp <;> omega)).trans ((Below.heap_alloc _ _ _ (by simp <;> omega)).trans (blk_new w _))
  have h1 : X.heap[w.heap.size + 1]? = some (.cells #[.int .i64 1, .slice (some g2) 1 c2] 234 (0, 0)) := by rw [hX]; exact (Below.heap_alloc _ _ _ (by simp <;> omega)).trans (alloc_at _ _ _ (by simp))
  have h2 : X.heap[w.heap.size + 1 + 1]? = some (.cells #[.int .i64 0, .slice none 0 0] 234 (0, 0)) := by rw [hX]; exact alloc_at _ _ _ (by simp)
  have HA1 : Hid (∀ W : World, Calls Tryz.prog 230 #[.agg #[.int .i64 1, .slice (some g) 1 c]] W fun e w' => e = .returned (.agg #[.int .i64 1, .slice (some g) 1 c]) ∧ Below W.heap.size W w') := Lib.hid (fun W => abs_calls 1 (.inr rfl) (some g) 1 c W)
  have HA2 : Hid (∀ W : World, Calls Tryz.prog 230 #[.agg #[.int .i64 1, .slice (some g2) 1 c2]] W fun e w' => e = .returned (.agg #[.int .i64 1, .slice (some g2) 1 c2]) ∧ Below W.heap.size W w') := Lib.hid (fun W => abs_calls 1 (.inr rfl) (some g2) 1 c2 W)
  have ne1 : w.heap.size ≠ w.heap.size + 1 := by omega
  have KS2 : Hid (∀ W : World, (W.cell? ⟨w.heap.size, 0, none⟩ = some (.int .i64 1) ∧ W.cell? ⟨w.heap.size, 1, none⟩ = some (.slice (some g) 1 c) ∧ W.cell? ⟨w.heap.size + 1, 0, none⟩ = some (.int .i64 1) ∧ W.cell? ⟨w.heap.size + 1, 1, none⟩ = some (.slice (some g2) 1 c2)) →
      (((W.setCell ⟨w.heap.size, 0, none⟩ (.int .i64 1)).setCell ⟨w.heap.size, 1, none⟩ (.slice (some g) 1 c)).cell? ⟨w.heap.size, 0, none⟩ = some (.int .i64 1) ∧ ((W.setCell ⟨w.heap.size, 0, none⟩ (.int .i64 1)).setCell ⟨w.heap.size, 1, none⟩ (.slice (some g) 1 c)).cell? ⟨w.heap.size, 1, none⟩ = some (.slice (some g) 1 c) ∧ ((W.setCell ⟨w.heap.size, 0, none⟩ (.int .i64 1)).setCell ⟨w.heap.size, 1, none⟩ (.slice (some g) 1 c)).cell? ⟨w.heap.size + 1, 0, none⟩ = some (.int .i64 1) ∧ ((W.setCell ⟨w.heap.size, 0, none⟩ (.int .i64 1)).setCell ⟨w.heap.size, 1, none⟩ (.slice (some g) 1 c)).cell? ⟨w.heap.size + 1, 1, none⟩ = some (.slice (some g2) 1 c2))) :=
    Lib.hid (fun W ⟨a, b, c, d⟩ => ⟨(set_same2 a b).1, (set_same2 a b).2, set_far2 ne1 c, set_far2 ne1 d⟩)
  have KS3 : Hid (∀ W : World, (W.cell? ⟨w.heap.size, 0, none⟩ = some (.int .i64 1) ∧ W.cell? ⟨w.heap.size, 1, none⟩ = some (.slice (some g) 1 c) ∧ W.cell? ⟨w.heap.size + 1, 0, none⟩ = some (.int .i64 1) ∧ W.cell? ⟨w.heap.size + 1, 1, none⟩ = some (.slice (some g2) 1 c2)) →
      (((W.setCell ⟨w.heap.size + 1, 0, none⟩ (.int .i64 1)).setCell ⟨w.heap.size + 1, 1, none⟩ (.slice (some g2) 1 c2)).cell? ⟨w.heap.size, 0, none⟩ = some (.int .i64 1) ∧ ((W.setCell ⟨w.heap.size + 1, 0, none⟩ (.int .i64 1)).setCell ⟨w.heap.size + 1, 1, none⟩ (.slice (some g2) 1 c2)).cell? ⟨w.heap.size, 1, none⟩ = some (.slice (some g) 1 c) ∧ ((W.setCell ⟨w.heap.size + 1, 0, none⟩ (.int .i64 1)).setCell ⟨w.heap.size + 1, 1, none⟩ (.slice (some g2) 1 c2)).cell? ⟨w.heap.size + 1, 0, none⟩ = some (.int .i64 1) ∧ ((W.setCell ⟨w.heap.size + 1, 0, none⟩ (.int .i64 1)).setCell ⟨w.heap.size + 1, 1, none⟩ (.slice (some g2) 1 c2)).cell? ⟨w.heap.size + 1, 1, none⟩ = some (.slice (some g2) 1 c2))) :=
    Lib.hid (fun W ⟨a, b, c, d⟩ => ⟨set_far2 (Ne.symm ne1) a, set_far2 (Ne.symm ne1) b, (set_same2 c d).1, (set_same2 c d).2⟩)
  go_enter Tryz.func190, Tryz.ntmps190
  go_wp2_with fail
  rw [← hX]
  clear hX
  have K : X.drew.cell? ⟨w.heap.size, 0, none⟩ = some (.int .i64 1) ∧ X.drew.cell? ⟨w.heap.size, 1, none⟩ = some (.slice (some g) 1 c) ∧ X.drew.cell? ⟨w.heap.size + 1, 0, none⟩ = some (.int .i64 1) ∧ X.drew.cell? ⟨w.heap.size + 1, 1, none⟩ = some (.slice (some g2) 1 c2) := ⟨blk_cell h0 0, blk_cell h0 1, blk_cell h1 0, blk_cell h1 1⟩
  have J0 : X.drew.heap[w.heap.size]? = some (.cells #[.int .i64 1, .slice (some g) 1 c] 234 (0, 0)) := h0
  have J1 : X.drew.heap[w.heap.size + 1]? = some (.cells #[.int .i64 1, .slice (some g2) 1 c2] 234 (0, 0)) := h1
  have J2 : X.drew.heap[w.heap.size + 1 + 1]? = some (.cells #[.int .i64 0, .slice none 0 0] 234 (0, 0)) := h2
  have BW := hb0.drew
  clear h0 h1 h2 hb0 ha hb
  go_region_held3 (fun w' : World => w'.cell? ⟨w.heap.size, 0, none⟩ = some (.int .i64 1) ∧ w'.cell? ⟨w.heap.size, 1, none⟩ = some (.slice (some g) 1 c) ∧ w'.cell? ⟨w.heap.size + 1, 0, none⟩ = some (.int .i64 1) ∧ w'.cell? ⟨w.heap.size + 1, 1, none⟩ = some (.slice (some g2) 1 c2)) (first | with_reducible exact K | with_reducible exact KS2.out _ K | with_reducible exact KS3.out _ K | with_reducible exact KS3.out _ (KS2.out _ K) | with_reducible exact KS2.out _ (KS3.out _ K)) (first
    | (go_at_call 230; refine (HA1.out _).mono ?_; rintro e wq ⟨rfl, hq⟩; clear HA1; have K := And.intro (pw_cell_below hq K.1) (And.intro (pw_cell_below hq K.2.1) (And.intro (pw_cell_below hq K.2.2.1) (pw_cell_below hq K.2.2.2))); have J0 := bcell hq J0; have J1 := bcell hq J1; have J2 := bcell hq J2; have BW := BW.trans (hq.mono BW.size))
    | (go_at_call 230; refine (HA2.out _).mono ?_; rintro e wq ⟨rfl, hq⟩; clear HA2; have K := And.intro (pw_cell_below hq K.1) (And.intro (pw_cell_below hq K.2.1) (And.intro (pw_cell_below hq K.2.2.1) (pw_cell_below hq K.2.2.2))); have J0 := bcell hq J0; have J1 := bcell hq J1; have J2 := bcell hq J2; have BW := BW.trans (hq.mono BW.size); have e0 := blk_frozen J0 0; have e1 := blk_frozen J0 1; have f0 := blk_frozen J1 0; have f1 := blk_frozen J1 1))
  have P0 : ((((wq.setCell ⟨w.heap.size, 0, none⟩ (.int .i64 1)).setCell ⟨w.heap.size, 1, none⟩ (.slice (some g) 1 c)).setCell ⟨w.heap.size + 1, 0, none⟩ (.int .i64 1)).setCell ⟨w.heap.size + 1, 1, none⟩ (.slice (some g2) 1 c2)).heap[w.heap.size]? = some (.cells #[.int .i64 1, .slice (some g) 1 c] 234 (0, 0)) := (Below.heap_setCell _ _ _ _ (by simp)).trans ((Below.heap_setCell _ _ _ _ (by simp)).trans (set2_fin _ _ J0))
  have P1 : ((((wq.setCell ⟨w.heap.size, 0, none⟩ (.int .i64 1)).setCell ⟨w.heap.size, 1, none⟩ (.slice (some g) 1 c)).setCell ⟨w.heap.size + 1, 0, none⟩ (.int .i64 1)).setCell ⟨w.heap.size + 1, 1, none⟩ (.slice (some g2) 1 c2)).heap[w.heap.size + 1]? = some (.cells #[.int .i64 1, .slice (some g2) 1 c2] 234 (0, 0)) := set2_fin _ _ ((Below.heap_setCell _ _ _ _ (by simp)).trans ((Below.heap_setCell _ _ _ _ (by simp)).trans J1))
  have P2 : ((((wq.setCell ⟨w.heap.size, 0, none⟩ (.int .i64 1)).setCell ⟨w.heap.size, 1, none⟩ (.slice (some g) 1 c)).setCell ⟨w.heap.size + 1, 0, none⟩ (.int .i64 1)).setCell ⟨w.heap.size + 1, 1, none⟩ (.slice (some g2) 1 c2)).heap[w.heap.size + 1 + 1]? = some (.cells #[.int .i64 0, .slice none 0 0] 234 (0, 0)) := (Below.heap_setCell _ _ _ _ (by simp)).trans ((Below.heap_setCell _ _ _ _ (by simp)).trans ((Below.heap_setCell _ _ _ _ (by simp <;> omega)).trans ((Below.heap_setCell _ _ _ _ (by simp <;> omega)).trans J2)))
  have PB := (((BW.setCell (p := ⟨w.heap.size, 0, none⟩) (Nat.le_refl _) (.int .i64 1)).setCell (p := ⟨w.heap.size, 1, none⟩) (Nat.le_refl _) (.slice (some g) 1 c)).setCell (p := ⟨w.heap.size + 1, 0, none⟩) (by simp) (.int .i64 1)).setCell (p := ⟨w.heap.size + 1, 1, none⟩) (by simp) (.slice (some g2) 1 c2)
  clear K J0 J1 J2 BW e0 e1 f0 f1 KS2 KS3
  generalize (((wq.setCell ⟨w.heap.size, 0, none⟩ (.int .i64 1)).setCell ⟨w.heap.size, 1, none⟩ (.slice (some g) 1 c)).setCell ⟨w.heap.size + 1, 0, none⟩ (.int .i64 1)).setCell ⟨w.heap.size + 1, 1, none⟩ (.slice (some g2) 1 c2) = Y at *
  have hz1 := zero_calls 1
  have hz0 := zero_calls 0
  have hgY := pw_cell_below PB hg
  have hgY2 := pw_cell_below PB hg2
  have hq := quo_by1 n hn hn2 _ _ Y ⟨g, c, hc, rfl, hgY⟩ ⟨g2, c2, hc2, rfl, hgY2⟩
  have b0 := blk_cell P1 0
  have b1 := blk_cell P1 1
  have a0 := blk_cell P0 0
  have a1 := blk_cell P0 1
  go_wp2
  refine wp_loop_rounds 2 ?_
  rw [rounds_succ]
  go_wp2_with (go_at_call 231; refine (hz1 _).mono ?_; rintro e wr ⟨rfl, hr⟩; subst wr)
  refine hq.mono ?_
  rintro e w2 ⟨vq, he, hvq, hb2⟩
  obtain ⟨gq, cq, _, hvq2, _⟩ := hvq.out
  clear hvq
  subst hvq2
  subst he
  have Q0 := bcell hb2 P0
  have Q1 := bcell hb2 P1
  have Q2 := bcell hb2 P2
  have QB := PB.trans (hb2.mono PB.size)
  have hbz := QB.alloc QB.size (.cells #[.int .i64 1, .slice (some gq) 1 cq] 234) |>.alloc (by simp; have := QB.size; omega) (.cells #[.int .i64 0, .slice none 0 0] 234)
  have hRl : ∀ k o, w2.heap[k]? = some o → ((w2.alloc (.cells #[.int .i64 1, .slice (some gq) 1 cq] 234)).alloc (.cells #[.int .i64 0, .slice none 0 0] 234)).heap[k]? = some o := fun k o hk => (Below.heap_alloc _ _ _ (by have := blk_lt hk; simp; omega)).trans ((Below.heap_alloc _ _ _ (blk_lt hk)).trans hk)
  have R0 := hRl _ _ Q0
  have R1 := hRl _ _ Q1
  have R2 := hRl _ _ Q2
  have R6 : ((w2.alloc (.cells #[.int .i64 1, .slice (some gq) 1 cq] 234)).alloc (.cells #[.int .i64 0, .slice none 0 0] 234)).heap[w2.heap.size + 1]? = some (.cells #[.int .i64 0, .slice none 0 0] 234 (0, 0)) := alloc_at _ _ _ (by simp)
  have hq2 : w.heap.size + 1 + 1 < w2.heap.size := blk_lt Q2
  have hgq := pw_cell_below hbz hg2
  clear Q0 Q1 Q2 QB hRl hb2 b0 b1 a0 a1 P0 P1 P2 PB hq hgY hgY2
  go_wp2
  generalize (w2.alloc (.cells #[.int .i64 1, .slice (some gq) 1 cq] 234)).alloc (.cells #[.int .i64 0, .slice none 0 0] 234) = Z at *
  have c0 := blk_cell R1 0
  have c1 := blk_cell R1 1
  have d0 := blk_cell R6 0
  have d1 := blk_cell R6 1
  have x0 := blk_cell R0 0
  have x1 := blk_cell R0 1
  have y0 := blk_frozen R0 0
  have y1 := blk_frozen R0 1
  have z0 := blk_frozen R1 0
  have z1 := blk_frozen R1 1
  go_region
  go_wp2
  have m0 := num_ne hgq R0
  have m1 := num_ne hgq R1
  have S0 : ((((Z.setCell ⟨w.heap.size, 0, none⟩ (.int .i64 1)).setCell ⟨w.heap.size, 1, none⟩ (.slice (some g2) 1 c2)).setCell ⟨w.heap.size + 1, 0, none⟩ (.int .i64 0)).setCell ⟨w.heap.size + 1, 1, none⟩ (.slice none 0 0)).drew.heap[w.heap.size]? = some (.cells #[.int .i64 1, .slice (some g2) 1 c2] 234 (0, 0)) := (Below.heap_setCell _ _ _ _ (by simp)).trans ((Below.heap_setCell _ _ _ _ (by simp)).trans (set2_fin _ _ R0))
  have S1 : ((((Z.setCell ⟨w.heap.size, 0, none⟩ (.int .i64 1)).setCell ⟨w.heap.size, 1, none⟩ (.slice (some g2) 1 c2)).setCell ⟨w.heap.size + 1, 0, none⟩ (.int .i64 0)).setCell ⟨w.heap.size + 1, 1, none⟩ (.slice none 0 0)).drew.heap[w.heap.size + 1]? = some (.cells #[.int .i64 0, .slice none 0 0] 234 (0, 0)) := set2_fin _ _ ((Below.heap_setCell _ _ _ _ (by simp)).trans ((Below.heap_setCell _ _ _ _ (by simp)).trans R1))
  have S2 : ((((Z.setCell ⟨w.heap.size, 0, none⟩ (.int .i64 1)).setCell ⟨w.heap.size, 1, none⟩ (.slice (some g2) 1 c2)).setCell ⟨w.heap.size + 1, 0, none⟩ (.int .i64 0)).setCell ⟨w.heap.size + 1, 1, none⟩ (.slice none 0 0)).drew.heap[w.heap.size + 1 + 1]? = some (.cells #[.int .i64 0, .slice none 0 0] 234 (0, 0)) := (Below.heap_setCell _ _ _ _ (by simp)).trans ((Below.heap_setCell _ _ _ _ (by simp)).trans ((Below.heap_setCell _ _ _ _ (by simp <;> omega)).trans ((Below.heap_setCell _ _ _ _ (by simp <;> omega)).trans R2)))
  have Sg : ((((Z.setCell ⟨w.heap.size, 0, none⟩ (.int .i64 1)).setCell ⟨w.heap.size, 1, none⟩ (.slice (some g2) 1 c2)).setCell ⟨w.heap.size + 1, 0, none⟩ (.int .i64 0)).setCell ⟨w.heap.size + 1, 1, none⟩ (.slice none 0 0)).drew.cell? g2 = some (.int .u32 1) := by
    have h1 : ((((Z.setCell ⟨w.heap.size, 0, none⟩ (.int .i64 1)).setCell ⟨w.heap.size, 1, none⟩ (.slice (some g2) 1 c2)).setCell ⟨w.heap.size + 1, 0, none⟩ (.int .i64 0)).setCell ⟨w.heap.size + 1, 1, none⟩ (.slice none 0 0)).cell? g2 = some (.int .u32 1) := by
      rw [World.cell?_setCell_far _ _ _ _ (Ne.symm m1), World.cell?_setCell_far _ _ _ _ (Ne.symm m1), World.cell?_setCell_far _ _ _ _ (Ne.symm m0), World.cell?_setCell_far _ _ _ _ (Ne.symm m0)]; exact hgq
    exact h1
  have SB := ((((hbz.setCell (p := ⟨w.heap.size, 0, none⟩) (Nat.le_refl _) (.int .i64 1)).setCell (p := ⟨w.heap.size, 1, none⟩) (Nat.le_refl _) (.slice (some g2) 1 c2)).setCell (p := ⟨w.heap.size + 1, 0, none⟩) (by simp) (.int .i64 0)).setCell (p := ⟨w.heap.size + 1, 1, none⟩) (by simp) (.slice none 0 0)).drew
  clear c0 c1 d0 d1 x0 x1 y0 y1 z0 z1 R0 R1 R2 R6 hbz hgq m0 m1
  generalize ((((Z.setCell ⟨w.heap.size, 0, none⟩ (.int .i64 1)).setCell ⟨w.heap.size, 1, none⟩ (.slice (some g2) 1 c2)).setCell ⟨w.heap.size + 1, 0, none⟩ (.int .i64 0)).setCell ⟨w.heap.size + 1, 1, none⟩ (.slice none 0 0)).drew = V at *
  have b0 := blk_cell S1 0
  have a0 := blk_cell S0 0
  have a1 := blk_cell S0 1
  have r0 := blk_cell S2 0
  have r1 := blk_cell S2 1
  have f0 := blk_frozen S2 0
  have f1 := blk_frozen S2 1
  have m2 := num_ne Sg S2
  rw [rounds_succ]
  go_wp2_with (go_at_call 231; refine (hz0 _).mono ?_; rintro e wr ⟨rfl, hr⟩; subst wr)
  have hfar : ((V.setCell ⟨w.heap.size + 1 + 1, 0, none⟩ (.int .i64 1)).setCell ⟨w.heap.size + 1 + 1, 1, none⟩ (.slice (some g2) 1 c2)).cell? g2 = some (.int .u32 1) := by
    rw [World.cell?_setCell_far _ _ _ _ (Ne.symm m2), World.cell?_setCell_far _ _ _ _ (Ne.symm m2)]; exact Sg
  exact bodyPost_ret (results_c Tryz.results190 _ _ (w.heap.size + 1 + 1) 234 _ (0, 0) _ rfl (set2_fin _ _ S2) Tryz.underlying234 rfl size234) rfl ⟨_, rfl, ⟨g2, c2, hc2, rfl, hfar⟩, (SB.setCell (p := ⟨w.heap.size + 1 + 1, 0, none⟩) (by simp <;> omega) _).setCell (p := ⟨w.heap.size + 1 + 1, 1, none⟩) (by simp <;> omega) _⟩
end Go.Proofs.YtjaobihcdkjmbaaGreatDoor
end
section
namespace Go.Proofs.YtjaobihcdkjmbaaGreatDoor
open Go.RowKit Go.Proofs.YtjaobihcdkjmbaaGreatDoorW.PrintWords Go.Proofs.YtjaobihcdkjmbaaGreatDoor.PReadTokens
attribute [local go_sem] Oper.semAt_some
theorem chunks_in (n : Nat) (s : ByteArray) (w : World) : CallsIn Fence.wide n Tryz.prog 228 #[.string s] w fun e w' => e = .returned (.func (.func 257) #[] #[.pointer (some ⟨w.heap.size, 0, none⟩)]) ∧ w' = w.alloc (.cells #[.string s] 9) := by
  refine callsIn_of_wp Tryz.func228 rfl trivial ?_ rfl
  simp only [Tryz.ntmps228, List.size_toArray, List.length_cons, List.length_nil, Nat.reduceAdd, Nat.reduceSub, Array.replicate_succ, Array.replicate_zero, List.push_toArray, List.append_toArray, List.nil_append, List.cons_append]
  gi_wp2
  go_ret
  exact ⟨rfl, rfl⟩
theorem info270 : (Tryz.prog.info? 270).map (fun i => (i.zero, i.size, i.bytes)) = some (some (.int .u32 0), 1, 4) := by kernel_rfl
theorem own_one {w : World} {base : Nat} {v x : Value} {e : TypeId} (h : w.ownsRow base e 1 v 1 [x]) : ∃ g c, v = .slice (some ⟨g, 0, none⟩) 1 c ∧ base ≤ g ∧ 1 ≤ c ∧ w.cell? ⟨g, 0, none⟩ = some x := by
  rcases h.2 with ⟨_, h0⟩ | ⟨g, cap, cur, rfl, hb, hg, hc, _⟩
  · omega
  · have := World.ownsRow.cells h (g := g) rfl 0 x rfl
    rw [add_plain] at this
    exact ⟨g, cap, rfl, hb, hc, this⟩
structure Short (s : ByteArray) (n : Int) : Prop where
  pos : 0 < s.size
  len : s.size ≤ 9
  num : Lib.atoiAll s.data.toList = .ok n
  lo : 1 ≤ n
  hi : n ≤ 9
  sign : strings_HasPrefix.f s ⟨#[45]⟩ = some false
set_option maxRecDepth 100000 in
set_option maxHeartbeats 4000000 in
theorem read_in (n : Nat) (s : ByteArray) (m : Int) (hs : Short s m) (w : World) : CallsIn Fence.wide n Tryz.prog 189 #[.string s] w fun e w' => ∃ v, e = .returned v ∧ One w' m v ∧ Below w.heap.size w w' := by
  have hD : Fence.wide.depth.isSome = false := rfl
  have hF227 : Fence.wide.fn 227 := trivial
  have hF228 : Fence.wide.fn 228 := trivial
  have hF229 : Fence.wide.fn 229 := trivial
  have hpre := fun w => (callsIn_wide (n := n - 1)).2 ((strings_HasPrefix.calls s ⟨#[45]⟩ false w hs.sign).mono fun _ _ ⟨a, b⟩ => (⟨a, b.out⟩ : _ ∧ ∃ n, _))
  have HS := Lib.hid hs
  clear hs
  refine callsIn_of_wp_marks Tryz.func189 rfl trivial ?_ rfl
  simp only [Tryz.ntmps189, List.size_toArray, List.length_cons, List.length_nil, Nat.reduceAdd, Nat.reduceSub, Array.replicate_succ, Array.replicate_zero, List.push_toArray, List.append_toArray, List.nil_append, List.cons_append]
  gi_wp2_with (first
    | (gi_at_call 227; refine (hpre _).mono ?_; rintro e w' ⟨rfl, k, rfl⟩)
    | (gi_at_call 228; refine (chunks_in (n - 1) s _).mono ?_; rintro e w' ⟨rfl, rfl⟩))
  obtain ⟨W, hW⟩ : ∃ W, W = ((((w.alloc (.cells #[.int .i64 0, .slice none 0 0] 234)).drewN k).alloc (.cells #[.slice none 0 0] 232)).alloc (.cells #[.string s] 9)) := ⟨_, rfl⟩
  have hz : W.heap.size = w.heap.size + 3 := by rw [hW]; simp
  have hbW : Below w.heap.size w W := by rw [hW]; exact ((pw_below_drewN ((Below.refl _ w).alloc (Nat.le_refl _) _) k).alloc (by simp) _).alloc (by simp; omega) _
  have hR : W.heap[w.heap.size]? = some (.cells #[.int .i64 0, .slice none 0 0] 234 (0, 0)) := by
    rw [hW]; exact (Below.heap_alloc _ _ _ (by simp; omega)).trans ((Below.heap_alloc _ _ _ (by simp)).trans (blk_drewN (blk_new w _) k))
  have hQ : W.heap[w.heap.size + 1]? = some (.cells #[.slice none 0 0] 232 (0, 0)) := by
    rw [hW]; exact (Below.heap_alloc _ _ _ (by simp)).trans (alloc_at _ _ _ (by simp))
  have hB : W.heap[w.heap.size + 1 + 1]? = some (.cells #[.string s] 9 (0, 0)) := by
    rw [hW]; exact alloc_at _ _ _ (by simp)
  rw [← hW]
  clear hW
  refine wpIn_range_chunk (bb := w.heap.size + 1 + 1) (s := s)
    #[.string s, undef, .pointer (some ⟨w.heap.size, 0, none⟩), .int .i64 1, .pointer (some ⟨w.heap.size + 1, 0, none⟩), .string s, undef, undef, .string s, .bool false, undef, undef, .string s,
      .func (.func 257) #[] #[.pointer (some ⟨w.heap.size + 1 + 1, 0, none⟩)], .string s, undef, undef, undef, undef, undef, undef, undef, undef, undef, undef, undef, undef, undef]
    rfl HS.out.pos HS.out.len hB
    (fun X => ∃ g c, 1 ≤ c ∧ X.heap[w.heap.size + 1]? = some (.cells #[.slice (some g) 1 c] 232 (0, 0)) ∧ X.cell? g = some (.int .u32 m) ∧ W.heap.size + 2 ≤ g.block ∧ X.heap[w.heap.size]? = some (.cells #[.int .i64 0, .slice none 0 0] 234 (0, 0)) ∧ Below w.heap.size w X)
    ?hI ?assign ?body ?done
  case hI =>
    rintro A B k ⟨g, c, hc, h1, h2, h3, h4, h5⟩ hk hg
    have hlt := World.block_lt_of_cell? _ _ h2
    have hcell : B.cell? g = some (.int .u32 m) := by
      have := hg.block g.block hlt (by intro e; injection e with e; omega)
      simpa [World.cell?, this] using h2
    exact ⟨g, c, hc, (hg.block _ (blk_lt h1) (by intro e; injection e with e; omega)).trans h1, hcell, h3, (hg.block _ (blk_lt h4) (by intro e; injection e with e; omega)).trans h4, h5.grown hg h5.size (fun j e => by injection e with e; omega)⟩
  case assign =>
    intro l A K hK
    gi_wp2
    exact hK
  case body =>
    rintro W0 hgw hz0
    have hq0 : W0.heap[w.heap.size + 1]? = some (.cells #[.slice none 0 0] 232 (0, 0)) := (hgw.block _ (blk_lt hQ) (by simp)).trans hQ
    have hr0 : W0.heap[w.heap.size]? = some (.cells #[.int .i64 0, .slice none 0 0] 234 (0, 0)) := (hgw.block _ (blk_lt hR) (by simp)).trans hR
    have hb0 : W0.heap[w.heap.size + 1 + 1]? = some (.cells #[.string s] 9 (0, 0)) := (hgw.block _ (blk_lt hB) (by simp)).trans hB
    have hbw : Below w.heap.size w W0 := hbW.grown hgw hbW.size (fun k e => by cases e)
    have hF216 : (Fence.wide.inRound (W.heap.size + 1)).fn 216 := trivial
    have hat := fun wx => (callsIn_wide (n := n - 1 - 1 - 1)).2 (Atoi_is s (by have := HS.out.len; omega) m HS.out.num wx)
    have hat2 : ∀ l wx, CallsIn (Fence.wide.inRound l) (n - 1 - 1 - 1) Tryz.prog 216 #[.string s] wx fun e w'' => e = .returned (.tuple #[.int .i64 m, .nilIface]) ∧ Below wx.heap.size wx w'' := fun _ => hat
    have hwm : m % 4294967296 = m := by have := HS.out.lo; have := HS.out.hi; omega
    clear hat
    gi_wp2
    refine ⟨trivial, (hat2 _ _).mono ?_⟩
    rintro e w1 ⟨rfl, hb1⟩
    have hq1 := bcell hb1 hq0
    have q0 := blk_cell hq1 0
    have q1 := blk_frozen hq1 0
    have hbx := hbw.trans (hb1.mono hbw.size)
    have hrx := bcell hb1 hr0
    have hb9 := bcell hb1 hb0
    have hlt := blk_lt hb9
    have hs1 := hb1.size
    have HB0 := Lib.hid hb0
    have HB1 := Lib.hid hb1
    clear hq0 hr0 hb0 hat2
    obtain ⟨i0, hi, iz0, iz1, iz2⟩ := info_parts info270
    have HO : (w1.alloc (.cells #[.int .u32 m] 270)).ownsRow (W.heap.size + 2) 270 1 (.slice none 0 0) 0 [] := World.ownsRow_nil _ _ _ _
    have HC : ∀ j u, ([Value.int .u32 m] : List Value)[j]? = some u → (w1.alloc (.cells #[.int .u32 m] 270)).cell? ((⟨w1.heap.size, 0, none⟩ : Addr).add j) = some u := by simpa using World.news_of_block (blk_new w1 (.cells #[.int .u32 m] 270))
    have H1 := Lib.hid HO
    have H2 := Lib.hid HC
    clear HO HC
    gi_wp2_with (gi_at_builtin; go_loud (refine wpListIn_append_own _ rfl _ _ 232 rfl (W.heap.size + 2) 270 i0 (.int .u32 0) 1 4 Tryz.underlying232 hi iz0 iz1 iz2 rfl (Nat.zero_lt_succ 0) (.slice none 0 0) 0 [] rfl H1.out ⟨w1.heap.size, 0, none⟩ 1 1 [.int .u32 m] rfl rfl H2.out (by simp [Value.oneCell']) (by unfold maxLen; omega) (by omega) (by simp; omega) ?_); intro v' w2 hown' hgrow _; obtain ⟨gv, cv, rfl, hge, hcv, hgc⟩ := own_one hown'; have hq2 := (hgrow.block (w.heap.size + 1) (by simp; omega) (by simp [Value.ownBlock])).trans ((Below.heap_alloc _ _ _ (by omega)).trans hq1); have c1 := blk_cell hq2 0; have c2 := blk_frozen hq2 0; have HQ2 := Lib.hid hq2; clear hown' hq2)
    have hne : gv ≠ w.heap.size + 1 := by omega
    have hgB : ∀ j o, w1.heap[j]? = some o → w2.heap[j]? = some o := fun j o hj => (hgrow.block j (by have := blk_lt hj; simp; omega) (by simp [Value.ownBlock])).trans ((Below.heap_alloc _ _ _ (blk_lt hj)).trans hj)
    refine ⟨?_, ⟨⟨gv, 0, none⟩, cv, hcv, blk_set HQ2.out 0 _, ?_, by show _ ≤ gv; omega, ?_, ?_⟩, ?_⟩
    · exact ((KeepsOthers.mk HB1.out.size (fun k o hk _ => bcell HB1.out hk)).trans (KeepsOthers.mk (by have := hgrow.size; simp at this; omega) (fun k o hk _ => hgB k o hk))).trans (KeepsOthers.setCell _ _ _)
    · rw [World.cell?_setCell_far _ _ _ _ (by simp; omega)]; exact hgc
    · exact (Below.heap_setCell _ _ _ _ (by simp)).trans (hgB _ _ hrx)
    · exact ((hbx.alloc hbx.size (.cells #[.int .u32 m] 270)).grown hgrow (by simp; omega) (fun k e => by simp [Value.ownBlock] at e)).setCell (p := ⟨w.heap.size + 1, 0, none⟩) (by simp) _
    · exact (Below.heap_setCell _ _ _ _ (by simp)).trans ((hgB _ _ hb9).trans HB0.out.symm)
  case done =>
    rintro X ⟨g, c, hc, h1, h2, h3, h4, h5⟩ hdef
    rw [hz] at hdef
    have q0 := blk_cell h1 0
    have hmf := fun wx (hcell : wx.cell? g = some (.int .u32 m)) => made_first g m [] c wx (by have := HS.out.lo; omega) (by simp) (by simpa using hc) (by simp) (fun i h => by
      obtain rfl : i = 0 := by simp at h; omega
      rw [Addr.add_zero']; exact hcell)
    have hmi := (callsIn_wide (n := n - 1)).2 (hmf X h2)
    simp only [List.length_cons, List.length_nil, Nat.zero_add] at hmi
    gi_wp2_with (gi_at_call 229; refine hmi.mono ?_; rintro e w1 ⟨v, rfl, hv, hb1⟩; obtain ⟨gv, cv, hcv, rfl, hgv⟩ := hv.out; have hr1 := bcell hb1 h4; have d0 := blk_cell hr1 0; have d1 := blk_cell hr1 1; have f0 := blk_frozen hr1 0; have f1 := blk_frozen hr1 1; have HR1 := Lib.hid hr1; clear hr1)
    have hdl := blk_lt hdef
    have hd1 := bcell hb1 hdef
    have hd : ((w1.setCell ⟨w.heap.size, 0, none⟩ (.int .i64 1)).setCell ⟨w.heap.size, 1, none⟩ (.slice (some gv) 1 cv)).heap[(w.heap.size + 3)]? = some (.deferred (some [])) := (Below.heap_setCell _ _ _ _ (by simp <;> omega)).trans ((Below.heap_setCell _ _ _ _ (by simp <;> omega)).trans hd1)
    have hm := num_ne hgv HR1.out
    have hY := set2_fin (.int .i64 1) (.slice (some gv) 1 cv) HR1.out
    have hYg : ((w1.setCell ⟨w.heap.size, 0, none⟩ (.int .i64 1)).setCell ⟨w.heap.size, 1, none⟩ (.slice (some gv) 1 cv)).cell? gv = some (.int .u32 m) := by
      rw [World.cell?_setCell_far _ _ _ _ (Ne.symm hm), World.cell?_setCell_far _ _ _ _ (Ne.symm hm)]; exact hgv
    have hYb := ((h5.trans (hb1.mono h5.size)).setCell (p := ⟨w.heap.size, 0, none⟩) (Nat.le_refl _) (.int .i64 1)).setCell (p := ⟨w.heap.size, 1, none⟩) (Nat.le_refl _) (.slice (some gv) 1 cv)
    generalize (w1.setCell ⟨w.heap.size, 0, none⟩ (.int .i64 1)).setCell ⟨w.heap.size, 1, none⟩ (.slice (some gv) 1 cv) = Y at *
    refine ⟨by simp, .inl ⟨_, _, rfl, run_takeDeferred hd, ?_⟩⟩
    have j0 := (World.putObj_heap_other (w := Y) (o := .deferred none) (r := (w.heap.size + 3)) (by omega)).trans hY
    have hgb : gv.block ≠ (w.heap.size + 3) := by
      intro e
      have := hYg
      simp only [World.cell?, e, hd] at this
      cases this
    have j1 : (Y.putObj (w.heap.size + 3) (.deferred none)).cell? gv = some (.int .u32 m) := by
      have hh := World.putObj_heap_other (w := Y) (o := .deferred none) (r := (w.heap.size + 3)) (k := gv.block) hgb
      simpa [World.cell?, hh] using hYg
    refine ⟨_, results_c Tryz.results189 _ _ w.heap.size 234 _ (0, 0) _ rfl j0 Tryz.underlying234 rfl size234, _, rfl, ⟨gv, cv, hcv, rfl, j1⟩, hYb.grown (grown_putObj _ _ _) hYb.size (fun k e => by injection e with e; omega)⟩
end Go.Proofs.YtjaobihcdkjmbaaGreatDoor
end
section
namespace Go.Proofs.YtjaobihcdkjmbaaGreatDoor
open Go.RowKit Go.Proofs.YtjaobihcdkjmbaaGreatDoorW.PrintWords Go.Proofs.YtjaobihcdkjmbaaGreatDoor.PReadTokens
theorem prefix_one (d : UInt8) (h : d ≠ 45) : stringslite_HasPrefix.f ⟨#[d]⟩ ⟨#[45]⟩ = some false := by
  have e : ((⟨#[d]⟩ : ByteArray).extract 0 1) = ⟨#[d]⟩ := extract_whole ⟨#[d]⟩
  have hl : ((⟨#[d]⟩ : ByteArray).toList == (⟨#[45]⟩ : ByteArray).toList) = false := by
    rw [beq_eq_false_iff_ne, ByteArray.toList_eq, ByteArray.toList_eq]
    simpa using h
  unfold stringslite_HasPrefix.f
  have s1 : (⟨#[d]⟩ : ByteArray).size = 1 := rfl
  have s2 : (⟨#[45]⟩ : ByteArray).size = 1 := rfl
  rw [s1, s2]
  simp only [Int.toNat_natCast, e, hl]
  simp
set_option maxRecDepth 100000 in
set_option maxHeartbeats 4000000 in
theorem form_one (d : UInt8) (h0 : 49 ≤ d.toNat) (h1 : d.toNat ≤ 57) (w : World) : Calls Tryz.prog 256 #[.string ⟨#[d]⟩] w fun e w' => e = .returned (.bool true) ∧ Below w.heap.size w w' := by
  have htp : ∀ w, Calls Tryz.prog 124 #[.string ⟨#[d]⟩, .string ⟨#[45]⟩] w fun e w' => e = .returned (.string ⟨#[d]⟩) ∧ ∃ n, w' = w.drewN n := fun w => (strings_TrimPrefix.calls ⟨#[d]⟩ ⟨#[45]⟩ ⟨#[d]⟩ w (by
    have h1 : d ≠ 45 := by intro e; subst e; exact absurd h0 (by decide)
    have h2 : stringslite_HasPrefix.f ⟨#[d]⟩ ⟨#[45]⟩ = some false := prefix_one d h1
    unfold strings_TrimPrefix.f stringslite_TrimPrefix.f
    rw [h2]
    rfl)).mono fun _ _ ⟨a, b⟩ => ⟨a, b.out⟩
  have hsz : (⟨#[d]⟩ : ByteArray).size = 1 := rfl
  have hit : w.heap.size + 0 = w.heap.size := rfl
  obtain ⟨s, hs⟩ : ∃ s : ByteArray, s = ⟨#[d]⟩ := ⟨_, rfl⟩
  have hemp : s.toList.isEmpty = false := str_some (by rw [hs]; exact Nat.zero_lt_one)
  have hi0 : ∀ h : 0 < s.size, (s[0]'h).toNat = d.toNat := by subst hs; intro h; rfl
  have hss : s.size = 1 := by rw [hs]; rfl
  rw [← hs] at htp ⊢
  have hdec : Utf8.decode s 0 = (d.toNat, 1) := by
    rw [decode_ascii s 0 (by omega) (by rw [hi0]; omega), hi0]
  have hb : ((d.toNat : Int) == 48) = false := beq_no (by omega)
  have hc1 : decide ((d.toNat : Int) < 48) = false := decide_eq_false (by omega)
  have hc2 : decide (57 < (d.toNat : Int)) = false := decide_eq_false (by omega)
  clear hs hsz
  go_enter Tryz.func256, Tryz.ntmps256
  go_wp2_with (go_at_call 124; refine (htp _).mono ?_; rintro e w1 ⟨rfl, k, rfl⟩)
  have hb1 : Below w.heap.size w (w.drewN k) := pw_below_drewN (Below.refl _ w) k
  have hse : (w.drewN k).heap.size = w.heap.size := by rw [World.heap_drewN]
  generalize w.drewN k = w1 at *
  have hit : IterAt w1 s 0 (w1.iter s 0) := ⟨(Below.refl _ _).alloc (Nat.le_refl _) _, World.iter_heap _ _ _⟩
  go_loopg [] 1 (fun k wr => ∃ pos, pos + k = 1 ∧ IterAt w1 s pos wr)
  case atStart => exact ⟨0, by omega, hit⟩
  case round =>
    clear hit
    obtain ⟨pos, hpos, hat⟩ := hrel
    by_cases hp : pos < s.size
    · obtain rfl : pos = 0 := by omega
      have hnx := fun ty => run_next_gen (P := Tryz.prog) wr w1.heap.size s 0 ty hat.iter hp
      have hin := hat.next (0 + (Utf8.decode s 0).2)
      rw [hdec] at hnx hin
      rw [hse] at hnx hin
      clear hat hdec
      go_wp2
      go_roundg (gk - 1)
      case measure => omega
      case rel => exact ⟨0 + 1, by omega, hin⟩
    · have hnx := fun ty => run_next_stop (P := Tryz.prog) wr w1.heap.size s pos ty hat.iter hp
      have hbw := hat.below_
      rw [hse] at hnx
      clear hat
      go_wp2
      go_ret
      exact ⟨rfl, hb1.trans (hbw.mono hb1.size)⟩
end Go.Proofs.YtjaobihcdkjmbaaGreatDoor
end
section
namespace Go.Proofs.YtjaobihcdkjmbaaGreatDoor
open Go.RowKit Go.Proofs.YtjaobihcdkjmbaaGreatDoorW.PrintWords Go.Proofs.YtjaobihcdkjmbaaGreatDoor.PReadTokens
set_option maxHeartbeats 1000000 in
theorem fail255_no (e : Int) (w : World) : Calls Tryz.prog 255 #[.bool false, .int .i64 e] w fun en w' => en = .returned (.tuple #[]) ∧ w' = w := by
  go_enter Tryz.func255, Tryz.ntmps255
  go_wp2
  exact bodyPost_end (results_none rfl _ _ _) rfl ⟨rfl, rfl⟩
set_option maxHeartbeats 1000000 in
theorem fail188_no (e : Int) (w : World) : Calls Tryz.prog 188 #[.bool false, .int .i64 e] w fun en w' => en = .returned (.tuple #[]) ∧ w' = w := by
  go_enter Tryz.func188, Tryz.ntmps188
  go_wp2
  exact bodyPost_end (results_none rfl _ _ _) rfl ⟨rfl, rfl⟩
set_option maxHeartbeats 1000000 in
theorem caught225_nil (w : World) : Calls Tryz.prog 225 #[.nilIface] w fun e w' => e = .returned (.int .i64 0) ∧ w' = w := by
  have hta := asNil_134
  go_enter Tryz.func225, Tryz.ntmps225
  go_wp2
  go_ret
  exact ⟨rfl, rfl⟩
set_option maxHeartbeats 1000000 in
theorem catch224_idle (p : Nat) (old : Value) (w : World) (hp : w.heap[p]? = some (.cells #[old] 36 (0, 0))) :
    CallsD Tryz.prog 224 #[.pointer (some ⟨p, 0, none⟩)] .returning w fun e u' w' => e = .returned (.tuple #[]) ∧ u' = .returning ∧ w' = w.setCell ⟨p, 0, none⟩ (.int .i64 0) := by
  have hta := caught225_nil w
  have f0 := blk_frozen hp 0
  have c0 := blk_cell hp 0
  refine callsD_of_wpS Tryz.func224 rfl fun c₀ cs hu => ?_
  apply wpS_region
  simp [wpOpsS, go_sem, recoverD, hu, Tryz.ntmps224, Exit.thenS]
  refine hta.mono ?_
  rintro e w' ⟨rfl, hw⟩
  subst w'
  simp [go_sem, c0, f0, Oper.upon, Result.andThen]
  cases c₀
  simp_all [bodyPostS, results, Tryz.results224]
set_option maxHeartbeats 1000000 in
theorem caught167_nil (w : World) : Calls Tryz.prog 167 #[.nilIface] w fun e w' => e = .returned (.int .i64 0) ∧ w' = w := by
  have hta := asNil_134
  go_enter Tryz.func167, Tryz.ntmps167
  go_wp2
  go_ret
  exact ⟨rfl, rfl⟩
set_option maxHeartbeats 1000000 in
theorem catch166_idle (p : Nat) (old : Value) (w : World) (hp : w.heap[p]? = some (.cells #[old] 36 (0, 0))) :
    CallsD Tryz.prog 166 #[.pointer (some ⟨p, 0, none⟩)] .returning w fun e u' w' => e = .returned (.tuple #[]) ∧ u' = .returning ∧ w' = w.setCell ⟨p, 0, none⟩ (.int .i64 0) := by
  have hta := caught167_nil w
  have f0 := blk_frozen hp 0
  have c0 := blk_cell hp 0
  refine callsD_of_wpS Tryz.func166 rfl fun c₀ cs hu => ?_
  apply wpS_region
  simp [wpOpsS, go_sem, recoverD, hu, Tryz.ntmps166, Exit.thenS]
  refine hta.mono ?_
  rintro e w' ⟨rfl, hw⟩
  subst w'
  simp [go_sem, c0, f0, Oper.upon, Result.andThen]
  cases c₀
  simp_all [bodyPostS, results, Tryz.results166]
structure Dig (d : UInt8) : Prop where
  lo : 49 ≤ d.toNat
  hi : d.toNat ≤ 57
theorem Dig.cases {d : UInt8} (h : Dig d) : d = 49 ∨ d = 50 ∨ d = 51 ∨ d = 52 ∨ d = 53 ∨ d = 54 ∨ d = 55 ∨ d = 56 ∨ d = 57 := by
  have h1 := h.lo
  have h2 := h.hi
  have h3 : d.toNat = 49 ∨ d.toNat = 50 ∨ d.toNat = 51 ∨ d.toNat = 52 ∨ d.toNat = 53 ∨ d.toNat = 54 ∨ d.toNat = 55 ∨ d.toNat = 56 ∨ d.toNat = 57 := by omega
  have inj : ∀ e : UInt8, d.toNat = e.toNat → d = e := fun e h => UInt8.toNat_inj.1 h
  rcases h3 with h | h | h | h | h | h | h | h | h
  · exact .inl (inj 49 h)
  · exact .inr (.inl (inj 50 h))
  · exact .inr (.inr (.inl (inj 51 h)))
  · exact .inr (.inr (.inr (.inl (inj 52 h))))
  · exact .inr (.inr (.inr (.inr (.inl (inj 53 h)))))
  · exact .inr (.inr (.inr (.inr (.inr (.inl (inj 54 h))))))
  · exact .inr (.inr (.inr (.inr (.inr (.inr (.inl (inj 55 h)))))))
  · exact .inr (.inr (.inr (.inr (.inr (.inr (.inr (.inl (inj 56 h))))))))
  · exact .inr (.inr (.inr (.inr (.inr (.inr (.inr (.inr (inj 57 h))))))))
theorem short_dig {d : UInt8} (h : Dig d) : Short ⟨#[d]⟩ (d.toNat - 48) := by
  refine ⟨Nat.zero_lt_one, by show 1 ≤ 9; omega, ?_, by have := h.lo; omega, by have := h.hi; omega, ?_⟩
  · rcases h.cases with rfl | rfl | rfl | rfl | rfl | rfl | rfl | rfl | rfl <;> kernel_rfl
  · unfold strings_HasPrefix.f
    rw [prefix_one d (by intro e; subst e; exact absurd h.lo (by decide))]
    rfl
set_option maxRecDepth 100000 in
set_option maxHeartbeats 2000000 in
theorem wtaken_dig (d : UInt8) (h : Dig d) (w : World) : Calls Tryz.prog 226 #[.string ⟨#[d]⟩] w fun e w' => (∃ v, e = .returned v) ∧ Below w.heap.size w w' := by
  have hf := fun w => form_one d h.lo h.hi w
  have hr := fun w => callsIn_wide.1 (read_in 9 ⟨#[d]⟩ _ (short_dig h) w)
  have htp : ∀ w, Calls Tryz.prog 124 #[.string ⟨#[d]⟩, .string ⟨#[45]⟩] w fun e w' => e = .returned (.string ⟨#[d]⟩) ∧ ∃ n, w' = w.drewN n := fun w => (strings_TrimPrefix.calls ⟨#[d]⟩ ⟨#[45]⟩ ⟨#[d]⟩ w (by
    have h1 : d ≠ 45 := by intro e; subst e; exact absurd h.lo (by decide)
    unfold strings_TrimPrefix.f stringslite_TrimPrefix.f
    rw [prefix_one d h1]
    rfl)).mono fun _ _ ⟨a, b⟩ => ⟨a, b.out⟩
  have hsz : (⟨#[d]⟩ : ByteArray).size = 1 := rfl
  generalize (⟨#[d]⟩ : ByteArray) = s at *
  have hh0 := blk_new w (.cells #[.int .i64 0, .slice none 0 0] 234)
  have hb0 := (Below.refl _ w).alloc (Nat.le_refl _) (.cells #[.int .i64 0, .slice none 0 0] 234)
  go_enter Tryz.func226, Tryz.ntmps226
  go_wp2_with (go_at_call 256; refine (hf _).mono ?_; rintro e w1 ⟨rfl, hb1⟩)
  have hw1 := hb0.trans (hb1.mono (by simp))
  have hh1 := bcell hb1 hh0
  go_wp2_with (first
    | (go_at_call 255; refine (fail255_no _ _).mono ?_; rintro e wq ⟨rfl, hq⟩; subst wq)
    | (go_at_call 124; refine (htp _).mono ?_; rintro e wq ⟨rfl, k, rfl⟩))
  have hw2 : Below w.heap.size w (w1.drewN k) := pw_below_drewN hw1 k
  have hh2 : (w1.drewN k).heap[w.heap.size]? = some (.cells #[.int .i64 0, .slice none 0 0] 234 (0, 0)) := blk_drewN hh1 k
  generalize w1.drewN k = w2 at *
  refine (hr _).mono ?_
  rintro e w3 ⟨v, he, hv, hb3⟩
  obtain ⟨g, c, hc, hv2, hg⟩ := hv.out
  subst hv2
  subst he
  have hh3 := bcell hb3 hh2
  have d0 := blk_cell hh3 0
  have d1 := blk_cell hh3 1
  have f0 := blk_frozen hh3 0
  have f1 := blk_frozen hh3 1
  have hw3 := hw2.trans (hb3.mono hw2.size)
  clear hv
  go_wp2
  exact bodyPost_ret (results_c Tryz.results226 _ _ w.heap.size 234 _ (0, 0) _ rfl (set2_fin _ _ hh3) Tryz.underlying234 rfl size234) rfl ⟨⟨_, rfl⟩, (hw3.setCell (p := ⟨w.heap.size, 0, none⟩) (Nat.le_refl _) _).setCell (p := ⟨w.heap.size, 1, none⟩) (Nat.le_refl _) _⟩
set_option maxRecDepth 100000 in
set_option maxHeartbeats 2000000 in
theorem wcheck_dig (d : UInt8) (h : Dig d) (w : World) : Calls Tryz.prog 187 #[.string ⟨#[d]⟩] w fun e w' => e = .returned (.int .i64 0) ∧ Below w.heap.size w w' := by
  have hmf : ∀ (fn : Fn) (first cap : Array Value) (w : World), (Instr.makeFunc fn first cap).run Tryz.prog w = .ok (.func fn first cap) w := fun _ _ _ _ => rfl
  have ht := fun w => wtaken_dig d h w
  have hh0 := blk_new w (.cells #[.int .i64 0] 36)
  have hb0 := (Below.refl _ w).alloc (Nat.le_refl _) (.cells #[.int .i64 0] 36)
  generalize (⟨#[d]⟩ : ByteArray) = s at *
  go_enter_defers Tryz.func187, Tryz.ntmps187
  go_wp2_with fail
  refine (ht _).mono ?_
  rintro e w1 ⟨⟨v, rfl⟩, hb1⟩
  have hr1 := bcell hb1 hh0
  have hbw := hb0.trans (hb1.mono (by simp))
  have c1 := blk_cell hr1 0
  have f1' := blk_frozen hr1 0
  go_wp2
  have hr2 := blk_set hr1 0 (.int .i64 0)
  have hbw2 := hbw.setCell (p := ⟨w.heap.size, 0, none⟩) (Nat.le_refl _) (.int .i64 0)
  generalize w1.setCell ⟨w.heap.size, 0, none⟩ (.int .i64 0) = w2 at *
  refine leaves_cons (f := 224) (args := #[.pointer (some ⟨w.heap.size, 0, none⟩)]) (by simp) (by simp [go_sem]) ?_
  refine (catch224_idle w.heap.size (.int .i64 0) w2 hr2).mono ?_
  rintro e u w3 ⟨rfl, rfl, hw3⟩
  have c4 : w3.cell? ⟨w.heap.size, 0, none⟩ = some (.int .i64 0) := by rw [hw3]; exact blk_cell (blk_set hr2 0 (.int .i64 0)) 0
  have hfin : Below w.heap.size w w3 := by rw [hw3]; exact hbw2.setCell (p := ⟨w.heap.size, 0, none⟩) (Nat.le_refl _) _
  simp [Leaves, settle, results, Tryz.results187, go_sem, c4, hfin]
end Go.Proofs.YtjaobihcdkjmbaaGreatDoor
end
