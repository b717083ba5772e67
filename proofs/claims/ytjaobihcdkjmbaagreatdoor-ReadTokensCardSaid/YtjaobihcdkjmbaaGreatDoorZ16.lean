/- A part of the proof that the law ReadTokens answers true for every input. -/
import Derived.Deep.RegionHeld3
import Derived.Test.YtjaobihcdkjmbaaGreatDoorZ3
import Derived.Test.YtjaobihcdkjmbaaGreatDoorZ12
import Derived.Test.YtjaobihcdkjmbaaGreatDoorZ13
import Derived.Test.YtjaobihcdkjmbaaGreatDoorZ15
section
namespace Go.Proofs.YtjaobihcdkjmbaaGreatDoor
open Go.RowKit Go.Proofs.YtjaobihcdkjmbaaGreatDoorW.PrintWords Go.Proofs.YtjaobihcdkjmbaaGreatDoor.PReadTokens
theorem dig1 : Dig 49 := ⟨by decide, by decide⟩
theorem num_ne6 {w : World} {g : Addr} {n a b : Int} {s t : ByteArray} {R : Nat} {B B2 : Option Addr} {l c l2 c2 : Nat} {ty : TypeId} (hg : w.cell? g = some (.int .u32 n)) (hR : w.heap[R]? = some (.cells #[.string s, .string t, .int .i64 a, .slice B l c, .int .i64 b, .slice B2 l2 c2] ty (0, 0))) : g.block ≠ R := by
  intro e
  obtain ⟨b, o, sp⟩ := g
  simp only at e
  subst e
  simp only [World.cell?, hR] at hg
  match o with
  | 0 => simp at hg
  | 1 => simp at hg
  | 2 => simp at hg
  | 3 => simp at hg
  | 4 => simp at hg
  | 5 => simp at hg
  | k + 6 => simp at hg
theorem size236 : (Tryz.prog.info? 236).map (·.size) = some 6 := by kernel_rfl
set_option maxRecDepth 100000 in
set_option maxHeartbeats 4000000 in
theorem rtaken_dig (d : UInt8) (h : Dig d) (w : World) : Calls Tryz.prog 168 #[.agg #[.string ⟨#[d]⟩, .string ⟨#[49]⟩]] w fun e w' => (∃ v, e = .returned v) ∧ Below w.heap.size w w' := by
  have HC1 : Hid (∀ w, Calls Tryz.prog 187 #[.string ⟨#[d]⟩] w fun e w' => e = .returned (.int .i64 0) ∧ Below w.heap.size w w') := Lib.hid (fun w => wcheck_dig d h w)
  have HC2 : Hid (∀ w, Calls Tryz.prog 187 #[.string ⟨#[49]⟩] w fun e w' => e = .returned (.int .i64 0) ∧ Below w.heap.size w w') := Lib.hid (fun w => wcheck_dig 49 dig1 w)
  have HR1 : Hid (∀ w, Calls Tryz.prog 189 #[.string ⟨#[d]⟩] w fun e w' => ∃ g c, e = .returned (.agg #[.int .i64 1, .slice (some g) 1 c]) ∧ 1 ≤ c ∧ w'.cell? g = some (.int .u32 (d.toNat - 48)) ∧ Below w.heap.size w w') := Lib.hid (fun w => (callsIn_wide.1 (read_in 9 ⟨#[d]⟩ _ (short_dig h) w)).mono fun _ _ ⟨v, a, b, c⟩ => by
    obtain ⟨g, cc, h1, rfl, h2⟩ := b.out
    exact ⟨g, cc, a, h1, h2, c⟩)
  have HR2 : Hid (∀ w, Calls Tryz.prog 189 #[.string ⟨#[49]⟩] w fun e w' => ∃ g c, e = .returned (.agg #[.int .i64 1, .slice (some g) 1 c]) ∧ 1 ≤ c ∧ w'.cell? g = some (.int .u32 1) ∧ Below w.heap.size w w') := Lib.hid (fun w => (callsIn_wide.1 (read_in 9 ⟨#[49]⟩ _ (short_dig dig1) w)).mono fun _ _ ⟨v, a, b, c⟩ => by
    obtain ⟨g, cc, h1, rfl, h2⟩ := b.out
    exact ⟨g, cc, a, h1, h2, c⟩)
  have hlo : 1 ≤ ((d.toNat : Int) - 48) := by have := h.lo; omega
  have hhi : ((d.toNat : Int) - 48) ≤ 9 := by have := h.hi; omega
  generalize ((d.toNat : Int) - 48) = m at *
  generalize (⟨#[d]⟩ : ByteArray) = s at *
  obtain ⟨t, ht⟩ : ∃ t : ByteArray, t = ⟨#[49]⟩ := ⟨_, rfl⟩
  have ht1 : t.size = 1 := by rw [ht]; rfl
  have ht2 : ∀ h : 0 < t.size, (t[0]'h).toNat = 49 := by subst ht; intro h; rfl
  have ht3 : (t.toList == [48]) = false := by rw [ht, ByteArray.toList_eq]; decide
  have ht4 : (t == ⟨#[48]⟩) = false := by rw [ht]; decide
  rw [← ht] at HC2 HR2 ⊢
  clear ht h
  obtain ⟨X, hX⟩ : ∃ X, X = ((w.alloc (.cells #[.string s, .string t] 28)).alloc (.cells #[.string ⟨#[]⟩, .string ⟨#[]⟩, .int .i64 0, .slice none 0 0, .int .i64 0, .slice none 0 0] 236)) := ⟨_, rfl⟩
  have hb0 : Below w.heap.size w X := by rw [hX]; exact ((Below.refl _ w).alloc (Nat.le_refl _) _).alloc (by simp) _
  have h0 : X.heap[w.heap.size]? = some (.cells #[.string s, .string t] 28 (0, 0)) := by rw [hX]; exact (Below.heap_alloc _ _ _ (by simp)).trans (blk_new w _)
  have h1 : X.heap[w.heap.size + 1]? = some (.cells #[.string ⟨#[]⟩, .string ⟨#[]⟩, .int .i64 0, .slice none 0 0, .int .i64 0, .slice none 0 0] 236 (0, 0)) := by rw [hX]; exact alloc_at _ _ _ (by simp)
  go_enter Tryz.func168, Tryz.ntmps168
  go_wp2_with fail
  rw [← hX]
  clear hX
  have K : X.drew.cell? ⟨w.heap.size, 0, none⟩ = some (.string s) ∧ X.drew.cell? ⟨w.heap.size, 1, none⟩ = some (.string t) := ⟨blk_cell h0 0, blk_cell h0 1⟩
  have J0 : X.drew.heap[w.heap.size]? = some (.cells #[.string s, .string t] 28 (0, 0)) := h0
  have J1 : X.drew.heap[w.heap.size + 1]? = some (.cells #[.string ⟨#[]⟩, .string ⟨#[]⟩, .int .i64 0, .slice none 0 0, .int .i64 0, .slice none 0 0] 236 (0, 0)) := h1
  have BW := hb0.drew
  clear h0 h1 hb0
  go_region_held3 (fun w' : World => w'.cell? ⟨w.heap.size, 0, none⟩ = some (.string s) ∧ w'.cell? ⟨w.heap.size, 1, none⟩ = some (.string t)) (first | with_reducible exact K) (first
    | (go_at_call 187; refine (HC1.out _).mono ?_; rintro e wq ⟨rfl, hq⟩; clear HC1; have K := And.intro (pw_cell_below hq K.1) (pw_cell_below hq K.2); have J0 := bcell hq J0; have J1 := bcell hq J1; have BW := BW.trans (hq.mono BW.size))
    | (go_at_call 187; refine (HC2.out _).mono ?_; rintro e wq ⟨rfl, hq⟩; clear HC2; have K := And.intro (pw_cell_below hq K.1) (pw_cell_below hq K.2); have J0 := bcell hq J0; have J1 := bcell hq J1; have BW := BW.trans (hq.mono BW.size)))
  have q0 := K.1
  have q1 := K.2
  have q2 := blk_lt J0
  clear K
  go_wp2_with (go_at_call 188; refine (fail188_no _ _).mono ?_; rintro e wr ⟨rfl, hr⟩; subst wr)
  have N0 : (wq.alloc (.cells #[.string s, .string t, .int .i64 0, .slice none 0 0, .int .i64 0, .slice none 0 0] 236)).heap[wq.heap.size]? = some (.cells #[.string s, .string t, .int .i64 0, .slice none 0 0, .int .i64 0, .slice none 0 0] 236 (0, 0)) := blk_new wq _
  have BN := BW.alloc BW.size (.cells #[.string s, .string t, .int .i64 0, .slice none 0 0, .int .i64 0, .slice none 0 0] 236)
  have J1 : (wq.alloc (.cells #[.string s, .string t, .int .i64 0, .slice none 0 0, .int .i64 0, .slice none 0 0] 236)).heap[w.heap.size + 1]? = some (.cells #[.string ⟨#[]⟩, .string ⟨#[]⟩, .int .i64 0, .slice none 0 0, .int .i64 0, .slice none 0 0] 236 (0, 0)) := (Below.heap_alloc _ _ _ (blk_lt J1)).trans J1
  have hlt : w.heap.size + 1 < wq.heap.size := blk_lt (show wq.heap[w.heap.size + 1]? = _ from by assumption)
  generalize wq.alloc (.cells #[.string s, .string t, .int .i64 0, .slice none 0 0, .int .i64 0, .slice none 0 0] 236) = Y at *
  generalize wq.heap.size = q at *
  have KS2 : Hid (∀ (W : World) (a b : Value), (W.cell? ⟨q, 0, none⟩ = some (.string s) ∧ W.cell? ⟨q, 1, none⟩ = some (.string t)) →
      (((W.setCell ⟨q, 2, none⟩ a).setCell ⟨q, 3, none⟩ b).cell? ⟨q, 0, none⟩ = some (.string s) ∧ ((W.setCell ⟨q, 2, none⟩ a).setCell ⟨q, 3, none⟩ b).cell? ⟨q, 1, none⟩ = some (.string t))) :=
    Lib.hid (fun W a b h => ⟨(World.cell?_setCell_other _ _ _ _ (by simp)).trans ((World.cell?_setCell_other _ _ _ _ (by simp)).trans h.1), (World.cell?_setCell_other _ _ _ _ (by simp)).trans ((World.cell?_setCell_other _ _ _ _ (by simp)).trans h.2)⟩)
  have KS3 : Hid (∀ (W : World) (a b : Value), (W.cell? ⟨q, 0, none⟩ = some (.string s) ∧ W.cell? ⟨q, 1, none⟩ = some (.string t)) →
      (((W.setCell ⟨q, 4, none⟩ a).setCell ⟨q, 5, none⟩ b).cell? ⟨q, 0, none⟩ = some (.string s) ∧ ((W.setCell ⟨q, 4, none⟩ a).setCell ⟨q, 5, none⟩ b).cell? ⟨q, 1, none⟩ = some (.string t))) :=
    Lib.hid (fun W a b h => ⟨(World.cell?_setCell_other _ _ _ _ (by simp)).trans ((World.cell?_setCell_other _ _ _ _ (by simp)).trans h.1), (World.cell?_setCell_other _ _ _ _ (by simp)).trans ((World.cell?_setCell_other _ _ _ _ (by simp)).trans h.2)⟩)
  have K : Y.drew.cell? ⟨q, 0, none⟩ = some (.string s) ∧ Y.drew.cell? ⟨q, 1, none⟩ = some (.string t) := ⟨blk_cell N0 0, blk_cell N0 1⟩
  have N0 : Y.drew.heap[q]? = some (.cells #[.string s, .string t, .int .i64 0, .slice none 0 0, .int .i64 0, .slice none 0 0] 236 (0, 0)) := N0
  have J1 : Y.drew.heap[w.heap.size + 1]? = some (.cells #[.string ⟨#[]⟩, .string ⟨#[]⟩, .int .i64 0, .slice none 0 0, .int .i64 0, .slice none 0 0] 236 (0, 0)) := J1
  have BN := BN.drew
  clear q0 q1 q2
  clear ht1 ht2 ht3 ht4
  have hlo := Lib.hid hlo
  have hhi := Lib.hid hhi
  have hlt := Lib.hid hlt
  go_region_held3 (fun w' : World => w'.cell? ⟨q, 0, none⟩ = some (.string s) ∧ w'.cell? ⟨q, 1, none⟩ = some (.string t)) (first | with_reducible exact K | with_reducible exact KS2.out _ _ _ K | with_reducible exact KS3.out _ _ _ (KS2.out _ _ _ K)) (first
    | (go_at_call 189; refine (HR1.out _).mono ?_; rintro e wa ⟨g1, c1, rfl, hc1, hg1, hqa⟩; clear HR1; have K := And.intro (pw_cell_below hqa K.1) (pw_cell_below hqa K.2); have N0 := bcell hqa N0; have J1 := bcell hqa J1; have BN := BN.trans (hqa.mono BN.size))
    | (go_at_call 189; refine (HR2.out _).mono ?_; rintro e wb ⟨g2, c2, rfl, hc2, hg2, hqb⟩; clear HR2; have hg1 := pw_cell_below hqb hg1; have K := And.intro (pw_cell_below hqb K.1) (pw_cell_below hqb K.2); have N0 := bcell hqb N0; have J1 := bcell hqb J1; have BN := BN.trans (hqb.mono BN.size); have e0 := blk_frozen N0 2; have e1 := blk_frozen N0 3; have f0 := blk_frozen N0 4; have f1 := blk_frozen N0 5; have b0 := blk_cell N0 2; have b1 := blk_cell N0 3; have b2 := blk_cell N0 4; have b3 := blk_cell N0 5))
  have ne1 := num_ne6 hg1 N0
  have ne2 := num_ne6 hg2 N0
  have hbq : w.heap.size ≤ q := by have := hlt.out; omega
  have Z0 : ((((wb.setCell ⟨q, 2, none⟩ (.int .i64 1)).setCell ⟨q, 3, none⟩ (.slice (some g1) 1 c1)).setCell ⟨q, 4, none⟩ (.int .i64 1)).setCell ⟨q, 5, none⟩ (.slice (some g2) 1 c2)).heap[q]? = some (.cells #[.string s, .string t, .int .i64 1, .slice (some g1) 1 c1, .int .i64 1, .slice (some g2) 1 c2] 236 (0, 0)) := blk_set (blk_set (blk_set (blk_set N0 2 _) 3 _) 4 _) 5 _
  have Z1 : ((((wb.setCell ⟨q, 2, none⟩ (.int .i64 1)).setCell ⟨q, 3, none⟩ (.slice (some g1) 1 c1)).setCell ⟨q, 4, none⟩ (.int .i64 1)).setCell ⟨q, 5, none⟩ (.slice (some g2) 1 c2)).heap[w.heap.size + 1]? = some (.cells #[.string ⟨#[]⟩, .string ⟨#[]⟩, .int .i64 0, .slice none 0 0, .int .i64 0, .slice none 0 0] 236 (0, 0)) := by
    have hq : q ≠ w.heap.size + 1 := by have := hlt.out; omega
    exact (Below.heap_setCell _ _ _ _ (Ne.symm hq)).trans ((Below.heap_setCell _ _ _ _ (Ne.symm hq)).trans ((Below.heap_setCell _ _ _ _ (Ne.symm hq)).trans ((Below.heap_setCell _ _ _ _ (Ne.symm hq)).trans J1)))
  have ZB : Below w.heap.size w ((((wb.setCell ⟨q, 2, none⟩ (.int .i64 1)).setCell ⟨q, 3, none⟩ (.slice (some g1) 1 c1)).setCell ⟨q, 4, none⟩ (.int .i64 1)).setCell ⟨q, 5, none⟩ (.slice (some g2) 1 c2)) := (((BN.setCell (p := ⟨q, 2, none⟩) hbq _).setCell (p := ⟨q, 3, none⟩) hbq _).setCell (p := ⟨q, 4, none⟩) hbq _).setCell (p := ⟨q, 5, none⟩) hbq _
  have hg1 : ((((wb.setCell ⟨q, 2, none⟩ (.int .i64 1)).setCell ⟨q, 3, none⟩ (.slice (some g1) 1 c1)).setCell ⟨q, 4, none⟩ (.int .i64 1)).setCell ⟨q, 5, none⟩ (.slice (some g2) 1 c2)).cell? g1 = some (.int .u32 m) := by
    rw [World.cell?_setCell_far _ _ _ _ (Ne.symm ne1), World.cell?_setCell_far _ _ _ _ (Ne.symm ne1), World.cell?_setCell_far _ _ _ _ (Ne.symm ne1), World.cell?_setCell_far _ _ _ _ (Ne.symm ne1)]; exact hg1
  have hg2 : ((((wb.setCell ⟨q, 2, none⟩ (.int .i64 1)).setCell ⟨q, 3, none⟩ (.slice (some g1) 1 c1)).setCell ⟨q, 4, none⟩ (.int .i64 1)).setCell ⟨q, 5, none⟩ (.slice (some g2) 1 c2)).cell? g2 = some (.int .u32 1) := by
    rw [World.cell?_setCell_far _ _ _ _ (Ne.symm ne2), World.cell?_setCell_far _ _ _ _ (Ne.symm ne2), World.cell?_setCell_far _ _ _ _ (Ne.symm ne2), World.cell?_setCell_far _ _ _ _ (Ne.symm ne2)]; exact hg2
  clear K N0 J1 BN b0 b1 b2 b3 e0 e1 f0 f1 KS2 KS3
  generalize ((((wb.setCell ⟨q, 2, none⟩ (.int .i64 1)).setCell ⟨q, 3, none⟩ (.slice (some g1) 1 c1)).setCell ⟨q, 4, none⟩ (.int .i64 1)).setCell ⟨q, 5, none⟩ (.slice (some g2) 1 c2)) = Z at *
  have z2 := blk_cell Z0 2
  have z3 := blk_cell Z0 3
  have z4 := blk_cell Z0 4
  have z5 := blk_cell Z0 5
  have hcm := common_by1 m hlo.out hhi.out _ _ Z ⟨g1, c1, hc1, rfl, hg1⟩ ⟨g2, c2, hc2, rfl, hg2⟩
  go_wp2_with fail
  refine hcm.mono ?_
  rintro e W1 ⟨v1, rfl, hv1, hB1⟩
  clear hcm
  go_wp2_with fail
  refine (of1_calls _).mono ?_
  rintro e W2 ⟨v2, rfl, hv2, hB2⟩
  have hor := order_one 1 1 v1 v2 W2 (hv1.below hB2) hv2
  clear hv1 hv2
  go_wp2_with fail
  refine hor.mono ?_
  rintro e W3 ⟨rfl, hB3⟩
  clear hor
  have c11 : cmpI 1 1 = 0 := rfl
  rw [c11]
  have Y0 := bcell hB3 (bcell hB2 (bcell hB1 Z0))
  have Y1 := bcell hB3 (bcell hB2 (bcell hB1 Z1))
  have YB := ((ZB.trans (hB1.mono ZB.size)))
  have YB := ((YB.trans (hB2.mono YB.size)))
  have YB := ((YB.trans (hB3.mono YB.size)))
  clear hB1 hB2 hB3 ZB Z0 Z1 z2 z3 z4 z5 hg1 hg2 hqa hqb
  have d0 := blk_cell Y0 0
  have d1 := blk_cell Y0 1
  have d2 := blk_cell Y0 2
  have d3 := blk_cell Y0 3
  have d4 := blk_cell Y0 4
  have d5 := blk_cell Y0 5
  have r0 := blk_cell Y1 0
  have r1 := blk_cell Y1 1
  have r2 := blk_cell Y1 2
  have r3 := blk_cell Y1 3
  have r4 := blk_cell Y1 4
  have r5 := blk_cell Y1 5
  have k0 := blk_frozen Y1 0
  have k1 := blk_frozen Y1 1
  have k2 := blk_frozen Y1 2
  have k3 := blk_frozen Y1 3
  have k4 := blk_frozen Y1 4
  have k5 := blk_frozen Y1 5
  go_wp2_with (go_at_call 188; refine (fail188_no _ _).mono ?_; rintro e wr ⟨rfl, hr⟩; subst wr)
  refine bodyPost_ret (results_c Tryz.results168 _ _ (w.heap.size + 1) 236 _ (0, 0) _ rfl (blk_set (blk_set (blk_set (blk_set (blk_set (blk_set Y1 0 _) 1 _) 2 _) 3 _) 4 _) 5 _) Tryz.underlying236 rfl size236) rfl ⟨⟨_, rfl⟩, ?_⟩
  exact (((((YB.setCell (p := ⟨w.heap.size+1, 0, none⟩) (by simp) _).setCell (p := ⟨w.heap.size+1, 1, none⟩) (by simp) _).setCell (p := ⟨w.heap.size+1, 2, none⟩) (by simp) _).setCell (p := ⟨w.heap.size+1, 3, none⟩) (by simp) _).setCell (p := ⟨w.heap.size+1, 4, none⟩) (by simp) _).setCell (p := ⟨w.heap.size+1, 5, none⟩) (by simp) _
end Go.Proofs.YtjaobihcdkjmbaaGreatDoor
end
section
namespace Go.Proofs.YtjaobihcdkjmbaaGreatDoor
open Go.RowKit Go.Proofs.YtjaobihcdkjmbaaGreatDoorW.PrintWords Go.Proofs.YtjaobihcdkjmbaaGreatDoor.PReadTokens
set_option maxRecDepth 100000 in
set_option maxHeartbeats 2000000 in
theorem rcheck_dig (d : UInt8) (h : Dig d) (w : World) : Calls Tryz.prog 141 #[.agg #[.string ⟨#[d]⟩, .string ⟨#[49]⟩]] w fun e w' => e = .returned (.int .i64 0) ∧ Below w.heap.size w w' := by
  have hmf : ∀ (fn : Fn) (first cap : Array Value) (w : World), (Instr.makeFunc fn first cap).run Tryz.prog w = .ok (.func fn first cap) w := fun _ _ _ _ => rfl
  have ht := fun w => rtaken_dig d h w
  generalize (⟨#[d]⟩ : ByteArray) = s at *
  generalize (⟨#[49]⟩ : ByteArray) = t at *
  have hh1 : ((w.alloc (.cells #[.string s, .string t] 28)).alloc (.cells #[.int .i64 0] 36)).heap[w.heap.size + 1]? = some (.cells #[.int .i64 0] 36 (0, 0)) := alloc_at _ _ _ (by simp)
  have hb0 := ((Below.refl _ w).alloc (Nat.le_refl _) (.cells #[.string s, .string t] 28)).alloc (by simp) (.cells #[.int .i64 0] 36)
  go_enter_defers Tryz.func141, Tryz.ntmps141
  go_wp2_with fail
  refine (ht _).mono ?_
  rintro e w1 ⟨⟨v, rfl⟩, hb1⟩
  have hr1 := bcell hb1 hh1
  have hbw := hb0.trans (hb1.mono (by simp; try omega))
  have c1 := blk_cell hr1 0
  have f1' := blk_frozen hr1 0
  go_wp2
  have hr2 := blk_set hr1 0 (.int .i64 0)
  have hbw2 := hbw.setCell (p := ⟨w.heap.size + 1, 0, none⟩) (by simp) (.int .i64 0)
  generalize w1.setCell ⟨w.heap.size + 1, 0, none⟩ (.int .i64 0) = w2 at *
  refine leaves_cons (f := 166) (args := #[.pointer (some ⟨w.heap.size + 1, 0, none⟩)]) (by simp) (by simp [go_sem]) ?_
  refine (catch166_idle (w.heap.size + 1) (.int .i64 0) w2 hr2).mono ?_
  rintro e u w3 ⟨rfl, rfl, hw3⟩
  have c4 : w3.cell? ⟨w.heap.size + 1, 0, none⟩ = some (.int .i64 0) := by rw [hw3]; exact blk_cell (blk_set hr2 0 (.int .i64 0)) 0
  have hfin : Below w.heap.size w w3 := by rw [hw3]; exact hbw2.setCell (p := ⟨w.heap.size + 1, 0, none⟩) (by simp) _
  simp [Leaves, settle, results, Tryz.results141, go_sem, c4, hfin]
def chk0 (r : S28) : Int := if r.f1 = ⟨#[49]⟩ ∧ (r.f0 = ⟨#[49]⟩ ∨ r.f0 = ⟨#[50]⟩) then 0 else 1
theorem chk0_ok (r : S28) (h : chk0 r = 0) : ChkIs chk0 r := by
  intro w _
  obtain ⟨p, q⟩ := r
  have hc : q = ⟨#[49]⟩ ∧ (p = ⟨#[49]⟩ ∨ p = ⟨#[50]⟩) := by
    unfold chk0 at h
    by_cases hh : q = ⟨#[49]⟩ ∧ (p = ⟨#[49]⟩ ∨ p = ⟨#[50]⟩)
    · exact hh
    · simp only [] at h; rw [if_neg hh] at h; exact absurd h (by decide)
  rw [h]
  obtain ⟨rfl, rfl | rfl⟩ := hc
  · exact rcheck_dig 49 ⟨by decide, by decide⟩ w
  · exact rcheck_dig 50 ⟨by decide, by decide⟩ w
end Go.Proofs.YtjaobihcdkjmbaaGreatDoor
end
section
namespace Go.Proofs.YtjaobihcdkjmbaaGreatDoor.PReadTokens
open Go.RowKit Go.Proofs.YtjaobihcdkjmbaaGreatDoorW.PrintWords Go.Proofs.YtjaobihcdkjmbaaGreatDoorW.PrintLast Go.Proofs.YtjaobihcdkjmbaaGreatDoorW.PrintMore
attribute [local go_sem] max2_int min2_int max_two min_two max_three min_three max_four min_four   -- for this text's walks alone
set_option linter.unusedVariables false
set_option linter.unusedSimpArgs false
def metewandkit_EqTexts.l0 : Nat → List ByteArray → List ByteArray → Int → Option (Bool)
  | 0, _, _, _ => none
  | k + 1, x0, x1, x5 => if x5 < (x0.length : Int) then (if 0 ≤ x5 then (if x5 < (x1.length : Int) then (if (rdOf ByteArray.empty x0 x5).toList = (rdOf ByteArray.empty x1 x5).toList then (metewandkit_EqTexts.l0 k x0 x1 (wrap64 (x5 + 1))) else (some false)) else (none)) else (none)) else (some true)
def metewandkit_EqTexts.f (k : Nat) (l0 : List ByteArray) (l1 : List ByteArray) : Option (Bool) := if (l0.length : Int) = (l1.length : Int) then (metewandkit_EqTexts.l0 k l0 l1 0) else (some false)
theorem metewandkit_EqTexts.mono_l : ∀ k, (∀ y0 y1 y2, LeO (metewandkit_EqTexts.l0 k y0 y1 y2) (metewandkit_EqTexts.l0 (k + 1) y0 y1 y2))
  | 0 => fun _ _ _ r h => by simp [metewandkit_EqTexts.l0] at h
  | k + 1 => by
    have ih0 := metewandkit_EqTexts.mono_l k
    · intro y0 y1 y2
      unfold metewandkit_EqTexts.l0
      repeat' first
      | (with_reducible exact ih0 _ _ _)
      | (with_reducible exact LeO.refl _)
      | (with_reducible exact LeO.none _)
      | (with_reducible refine LeO.ite ?_ ?_)
      | (with_reducible refine LeO.bind ?_ (fun _ => ?_))
      | exact ih0 _ _ _
      | exact LeO.none _
      | refine LeO.ite ?_ ?_
      | refine LeO.bind ?_ (fun _ => ?_)
theorem metewandkit_EqTexts.mono : ∀ a0 a1 k, LeO (metewandkit_EqTexts.f k a0 a1) (metewandkit_EqTexts.f (k + 1) a0 a1) := by
  intro a0 a1 k
  have ih0 := metewandkit_EqTexts.mono_l k
  unfold metewandkit_EqTexts.f
  repeat' first
      | (with_reducible exact ih0 _ _ _)
      | (with_reducible exact LeO.refl _)
      | (with_reducible exact LeO.none _)
      | (with_reducible refine LeO.ite ?_ ?_)
      | (with_reducible refine LeO.bind ?_ (fun _ => ?_))
      | exact ih0 _ _ _
      | exact LeO.none _
      | refine LeO.ite ?_ ?_
      | refine LeO.bind ?_ (fun _ => ?_)
set_option maxHeartbeats 8000000 in
set_option maxRecDepth 100000 in
theorem metewandkit_EqTexts.calls (k : Nat) (A0 : Option Addr) (c0 : Nat) (l0 : List ByteArray) (A1 : Option Addr) (c1 : Nat) (l1 : List ByteArray) (r : Bool) (w : World) (hr0 : Kd.C Kd.string w A0 l0.length l0) (hc0 : l0.length ≤ c0) (hr1 : Kd.C Kd.string w A1 l1.length l1) (hc1 : l1.length ≤ c1) (h : metewandkit_EqTexts.f k l0 l1 = some r) :
    Calls Tryz.prog 40 #[.slice A0 l0.length c0, .slice A1 l1.length c1] w fun e w' => e = .returned (.bool r) ∧ Drawn0 w w' := by
  have HR0 := Aside0.mk hr0
  have HC0 := Aside0.mk hc0
  clear hr0 hc0
  have HR1 := Aside0.mk hr1
  have HC1 := Aside0.mk hc1
  clear hr1 hc1
  have H : (if (l0.length : Int) = (l1.length : Int) then (metewandkit_EqTexts.l0 k l0 l1 0) else (some false)) = some r := h
  clear h
  by_cases c3 : (l0.length : Int) = (l1.length : Int)
  · rw [if_pos c3] at H
    have c3b0 : ((l0.length : Int) == (l1.length : Int)) = true := beq_iff_eq.mpr c3
    have c3b1 : ((l0.length : Int) != (l1.length : Int)) = false := bne_eq_false_iff_eq.mpr c3
    have c3b2 : (l0.length == l1.length) = true := by first | simpa using c3 | (simp at c3 ⊢; omega)
    clear c3
    have H' := Aside0.mk H
    clear H
    go_enter Tryz.func40, Tryz.ntmps40
    go_wp2
    repeat (go_quiet (fail); try go_wp2)
    go_loopg [5] k (fun kq v5 w' => ∃ (x5_1 : Int), v5 = .int .i64 x5_1 ∧ Aside0 (metewandkit_EqTexts.l0 kq l0 l1 x5_1 = some r) ∧ Aside0 (kq ≤ k) ∧ Drawn0 w w')
    case atStart => exact ⟨(0), (by first | rfl | (simp; done) | (simp [*]; done)), H', ⟨Nat.le_refl _⟩, by repeat (first | exact Drawn0.refl _ | apply Drawn0.step)⟩
    case round =>
      clear H'
      try clear c1
      try clear p2
      try clear c3
      try clear c3b0
      try clear c3b1
      try clear c3b2
      obtain ⟨x5_1, rfl, HA, HK1, ⟨m1, rfl⟩⟩ := hrel
      cases gk with
      | zero => exact absurd HA.out (by simp [metewandkit_EqTexts.l0])
      | succ k1 =>
        have H := HA.out
        clear HA
        simp only [metewandkit_EqTexts.l0] at H
        by_cases c4 : x5_1 < (l0.length : Int)
        · rw [if_pos c4] at H
          have c4b0 : decide (x5_1 < (l0.length : Int)) = true := decide_eq_true c4
          clear c4
          by_cases c5 : 0 ≤ x5_1
          · rw [if_pos c5] at H
            have c5b0 : decide (0 ≤ x5_1) = true := decide_eq_true c5
            clear c5
            by_cases c6 : x5_1 < (l1.length : Int)
            · rw [if_pos c6] at H
              have c6b0 : decide (x5_1 < (l1.length : Int)) = true := decide_eq_true c6
              clear c6
              by_cases c7 : (rdOf ByteArray.empty l0 x5_1).toList = (rdOf ByteArray.empty l1 x5_1).toList
              · rw [if_pos c7] at H
                have c7b0 : ((rdOf ByteArray.empty l0 x5_1).toList == (rdOf ByteArray.empty l1 x5_1).toList) = true := beq_iff_eq.mpr c7
                have c7b1 : ((rdOf ByteArray.empty l0 x5_1).toList != (rdOf ByteArray.empty l1 x5_1).toList) = false := bne_eq_false_iff_eq.mpr c7
                clear c7
                have H' := Aside0.mk H
                clear H
                have p344 : 0 ≤ (x5_1 : Int) := of_decide_eq_true (by first | (with_reducible assumption) | assumption)
                have q344 : x5_1 < (l0.length : Int) := of_decide_eq_true (by first | (with_reducible assumption) | assumption)
                obtain ⟨ad344, e344, hx344_0⟩ := Kd.at_string HR0.out x5_1 p344 q344
                cases e344
                replace p344 := eq_true p344
                replace q344 := eq_true q344
                have p345 : 0 ≤ (x5_1 : Int) := of_decide_eq_true (by first | (with_reducible assumption) | assumption)
                have q345 : x5_1 < (l1.length : Int) := of_decide_eq_true (by first | (with_reducible assumption) | assumption)
                obtain ⟨ad345, e345, hx345_0⟩ := Kd.at_string HR1.out x5_1 p345 q345
                cases e345
                replace p345 := eq_true p345
                replace q345 := eq_true q345
                go_wp2
                repeat (go_quiet (fail); try go_wp2)
                go_roundg k1
                case measure => have := HK1.out; omega
                case rel => exact ⟨(wrap64 (x5_1 + 1)), (by first | rfl | (simp; done) | (simp [*]; done)), H', ⟨by have := HK1.out; omega⟩, by repeat (first | exact Drawn0.refl _ | apply Drawn0.step)⟩
              · rw [if_neg c7] at H
                have c7b0 : ((rdOf ByteArray.empty l0 x5_1).toList == (rdOf ByteArray.empty l1 x5_1).toList) = false := beq_eq_false_iff_ne.mpr c7
                have c7b1 : ((rdOf ByteArray.empty l0 x5_1).toList != (rdOf ByteArray.empty l1 x5_1).toList) = true := bne_iff_ne.mpr c7
                obtain rfl := Option.some.inj H
                have p344 : 0 ≤ (x5_1 : Int) := of_decide_eq_true (by first | (with_reducible assumption) | assumption)
                have q344 : x5_1 < (l0.length : Int) := of_decide_eq_true (by first | (with_reducible assumption) | assumption)
                obtain ⟨ad344, e344, hx344_0⟩ := Kd.at_string HR0.out x5_1 p344 q344
                cases e344
                replace p344 := eq_true p344
                replace q344 := eq_true q344
                have p345 : 0 ≤ (x5_1 : Int) := of_decide_eq_true (by first | (with_reducible assumption) | assumption)
                have q345 : x5_1 < (l1.length : Int) := of_decide_eq_true (by first | (with_reducible assumption) | assumption)
                obtain ⟨ad345, e345, hx345_0⟩ := Kd.at_string HR1.out x5_1 p345 q345
                cases e345
                replace p345 := eq_true p345
                replace q345 := eq_true q345
                go_wp2
                repeat (go_quiet (fail); try go_wp2)
                go_ret
                exact ⟨by first | rfl | (simp; done) | (simp [*]; done), by repeat (first | exact Drawn0.refl _ | apply Drawn0.step)⟩
            · rw [if_neg c6] at H
              exact absurd H (by simp)
          · rw [if_neg c5] at H
            exact absurd H (by simp)
        · rw [if_neg c4] at H
          have c4b0 : decide (x5_1 < (l0.length : Int)) = false := decide_eq_false c4
          clear c4
          obtain rfl := Option.some.inj H
          go_wp2
          repeat (go_quiet (fail); try go_wp2)
          go_ret
          exact ⟨by first | rfl | (simp; done) | (simp [*]; done), by repeat (first | exact Drawn0.refl _ | apply Drawn0.step)⟩
  · rw [if_neg c3] at H
    have c3b0 : ((l0.length : Int) == (l1.length : Int)) = false := beq_eq_false_iff_ne.mpr c3
    have c3b1 : ((l0.length : Int) != (l1.length : Int)) = true := bne_iff_ne.mpr c3
    have c3b2 : (l0.length == l1.length) = false := by first | simpa using c3 | (simp at c3 ⊢; omega)
    obtain rfl := Option.some.inj H
    go_enter Tryz.func40, Tryz.ntmps40
    go_wp2
    repeat (go_quiet (fail); try go_wp2)
    go_ret
    exact ⟨by first | rfl | (simp; done) | (simp [*]; done), by repeat (first | exact Drawn0.refl _ | apply Drawn0.step)⟩
def read_between_level.f (a0_0 : Int) (a0_1 : ByteArray) (a0_2 : ByteArray) (a0_3 : ByteArray) (a0_4 : Int) (l0_5 : List (S31)) : Option (Int) := if a0_0 = 3 then (some 1) else (if a0_0 = 4 then (some 1) else (some 2))
def IsS77 (w0 W : World) (g : Nat) (f0 : List Int) (f1 : Int) (f2 : Int) : Prop := ∃ A0 c0, W.heap[g]? = some (.cells #[.slice A0 f0.length c0, .int .i64 f1, .int .u64 f2] 77 (0, 0)) ∧ w0.heap.size ≤ g ∧ Kd.C (Kd.int .i64) w0 A0 f0.length f0
theorem IsS77.grown {w0 W : World} {g : Nat} {f0 : List Int} {f1 : Int} {f2 : Int} {W1 : World} {row : Option Nat} (h : IsS77 w0 W g f0 f1 f2) (hw : W.grownBy W1 row) (hne : some g ≠ row) : IsS77 w0 W1 g f0 f1 f2 := by
  obtain ⟨A0, c0, hb, hg, hr0⟩ := h
  exact ⟨A0, c0, blk_grown hb hw hne, hg, hr0⟩
theorem IsS77.below {w0 W : World} {g : Nat} {f0 : List Int} {f1 : Int} {f2 : Int} {W1 : World} (h : IsS77 w0 W g f0 f1 f2) (hw : Below W.heap.size W W1) : IsS77 w0 W1 g f0 f1 f2 := h.grown (grown_of_below hw none) (by simp)
theorem IsS77.alloc {w0 W : World} {g : Nat} {f0 : List Int} {f1 : Int} {f2 : Int} (h : IsS77 w0 W g f0 f1 f2) (o : Obj) : IsS77 w0 (W.alloc o) g f0 f1 f2 := h.below (below_alloc (Below.refl _ _) o)
theorem IsS77.drewN {w0 W : World} {g : Nat} {f0 : List Int} {f1 : Int} {f2 : Int} (h : IsS77 w0 W g f0 f1 f2) (m : Nat) : IsS77 w0 (W.drewN m) g f0 f1 f2 := h
theorem IsS77.drew {w0 W : World} {g : Nat} {f0 : List Int} {f1 : Int} {f2 : Int} (h : IsS77 w0 W g f0 f1 f2) : IsS77 w0 W.drew g f0 f1 f2 := h
theorem IsS77.at_ {w0 W : World} {g : Nat} {f0 : List Int} {f1 : Int} {f2 : Int} {w' : World} {m : Nat} (hq : W.drewN m = w') (h : IsS77 w0 W g f0 f1 f2) : IsS77 w0 w' g f0 f1 f2 := by subst hq; exact IsS77.drewN h m
theorem IsS77.own_ne {w0 W : World} {g : Nat} {f0 : List Int} {f1 : Int} {f2 : Int} {α : Type} {d : Kd α} {e : Nat} {base : Nat} {ok : Nat → Prop} {v : Value} {xs : List α} (h : IsS77 w0 W g f0 f1 f2) (ho : d.R e W base ok v xs) (ht : e ≠ 77) : some g ≠ v.ownBlock := by
  obtain ⟨A0, c0, hb, hg, hr0⟩ := h
  exact Kd.R_ne ho hb ht
theorem IsS77.lt {w0 W : World} {g : Nat} {f0 : List Int} {f1 : Int} {f2 : Int} (h : IsS77 w0 W g f0 f1 f2) : g < W.heap.size := by
  obtain ⟨A0, c0, hb, hg, hr0⟩ := h
  exact blk_lt hb
theorem IsS77.far {w0 W : World} {g : Nat} {f0 : List Int} {f1 : Int} {f2 : Int} {p : Addr} (h : IsS77 w0 W g f0 f1 f2) (hne : g ≠ p.block) (u : Value) : IsS77 w0 (W.setCell p u) g f0 f1 f2 := by
  obtain ⟨A0, c0, hb, hg, hr0⟩ := h
  exact ⟨A0, c0, blk_far hb hne u, hg, hr0⟩
def metewandkit_NewRod.f (l0 : List Int) : Option (List Int × Int × Int) := some (l0, 0, 7640891576956012809)
mutual
def metewandref13_level.j0 : Nat → Int → Bool → Option (Int)
  | 0, _, _ => none
  | k + 1, x4, x5 => if x5 = true then (some 0) else (if x4 = 2 then (metewandref13_level.j1 k x4 (x4 == 2)) else (if x4 = 3 then (metewandref13_level.j1 k x4 (x4 == 3)) else (metewandref13_level.j1 k x4 (x4 == 4))))
def metewandref13_level.j1 : Nat → Int → Bool → Option (Int)
  | 0, _, _ => none
  | k + 1, x4, x10 => if x10 = true then (some 1) else (if x4 = 5 then (metewandref13_level.j2 k x4 (x4 == 5)) else (metewandref13_level.j2 k x4 (x4 == 6)))
def metewandref13_level.j2 : Nat → Int → Bool → Option (Int)
  | 0, _, _ => none
  | k + 1, x4, x14 => if x14 = true then (some 2) else (if x4 = 7 then (some 3) else (some 4))
end
def metewandref13_level.f (k : Nat) (a0_0 : Int) (a0_1 : ByteArray) (a0_2 : ByteArray) (a0_3 : ByteArray) (a0_4 : Int) (l0_5 : List (S31)) : Option (Int) := if a0_0 = 13 then (metewandref13_level.j0 k a0_0 (a0_0 == 13)) else (if a0_0 = 12 then (metewandref13_level.j0 k a0_0 (a0_0 == 12)) else (if a0_0 = 10 then (metewandref13_level.j0 k a0_0 (a0_0 == 10)) else (metewandref13_level.j0 k a0_0 (a0_0 == 11))))
theorem metewandref13_level.mono_l : ∀ k, (∀ y0 y1, LeO (metewandref13_level.j0 k y0 y1) (metewandref13_level.j0 (k + 1) y0 y1)) ∧ (∀ y0 y1, LeO (metewandref13_level.j1 k y0 y1) (metewandref13_level.j1 (k + 1) y0 y1)) ∧ (∀ y0 y1, LeO (metewandref13_level.j2 k y0 y1) (metewandref13_level.j2 (k + 1) y0 y1))
  | 0 => ⟨fun _ _ r h => by simp [metewandref13_level.j0] at h, fun _ _ r h => by simp [metewandref13_level.j1] at h, fun _ _ r h => by simp [metewandref13_level.j2] at h⟩
  | k + 1 => by
    obtain ⟨ih0, ih1, ih2⟩ := metewandref13_level.mono_l k
    refine ⟨?_, ?_, ?_⟩
    · intro y0 y1
      unfold metewandref13_level.j0
      repeat' first
      | (with_reducible exact ih0 _ _)
      | (with_reducible exact ih1 _ _)
      | (with_reducible exact ih2 _ _)
      | (with_reducible exact LeO.refl _)
      | (with_reducible exact LeO.none _)
      | (with_reducible refine LeO.ite ?_ ?_)
      | (with_reducible refine LeO.bind ?_ (fun _ => ?_))
      | exact ih0 _ _
      | exact ih1 _ _
      | exact ih2 _ _
      | exact LeO.none _
      | refine LeO.ite ?_ ?_
      | refine LeO.bind ?_ (fun _ => ?_)
    · intro y0 y1
      unfold metewandref13_level.j1
      repeat' first
      | (with_reducible exact ih0 _ _)
      | (with_reducible exact ih1 _ _)
      | (with_reducible exact ih2 _ _)
      | (with_reducible exact LeO.refl _)
      | (with_reducible exact LeO.none _)
      | (with_reducible refine LeO.ite ?_ ?_)
      | (with_reducible refine LeO.bind ?_ (fun _ => ?_))
      | exact ih0 _ _
      | exact ih1 _ _
      | exact ih2 _ _
      | exact LeO.none _
      | refine LeO.ite ?_ ?_
      | refine LeO.bind ?_ (fun _ => ?_)
    · intro y0 y1
      unfold metewandref13_level.j2
      repeat' first
      | (with_reducible exact ih0 _ _)
      | (with_reducible exact ih1 _ _)
      | (with_reducible exact ih2 _ _)
      | (with_reducible exact LeO.refl _)
      | (with_reducible exact LeO.none _)
      | (with_reducible refine LeO.ite ?_ ?_)
      | (with_reducible refine LeO.bind ?_ (fun _ => ?_))
      | exact ih0 _ _
      | exact ih1 _ _
      | exact ih2 _ _
      | exact LeO.none _
      | refine LeO.ite ?_ ?_
      | refine LeO.bind ?_ (fun _ => ?_)
theorem metewandref13_level.mono : ∀ a0 a1 a2 a3 a4 a5 k, LeO (metewandref13_level.f k a0 a1 a2 a3 a4 a5) (metewandref13_level.f (k + 1) a0 a1 a2 a3 a4 a5) := by
  intro a0 a1 a2 a3 a4 a5 k
  obtain ⟨ih0, ih1, ih2⟩ := metewandref13_level.mono_l k
  unfold metewandref13_level.f
  repeat' first
      | (with_reducible exact ih0 _ _)
      | (with_reducible exact ih1 _ _)
      | (with_reducible exact ih2 _ _)
      | (with_reducible exact LeO.refl _)
      | (with_reducible exact LeO.none _)
      | (with_reducible refine LeO.ite ?_ ?_)
      | (with_reducible refine LeO.bind ?_ (fun _ => ?_))
      | exact ih0 _ _
      | exact ih1 _ _
      | exact ih2 _ _
      | exact LeO.none _
      | refine LeO.ite ?_ ?_
      | refine LeO.bind ?_ (fun _ => ?_)
set_option maxHeartbeats 8000000 in
set_option maxRecDepth 100000 in
theorem metewandref13_level.calls (k : Nat) (a0_0 : Int) (a0_1 : ByteArray) (a0_2 : ByteArray) (a0_3 : ByteArray) (a0_4 : Int) (A0_5 : Option Addr) (c0_5 : Nat) (l0_5 : List (S31)) (r : Int) (w : World) (hr0_5 : Kd.C k31 w A0_5 l0_5.length l0_5) (hc0_5 : l0_5.length ≤ c0_5) (h : metewandref13_level.f k a0_0 a0_1 a0_2 a0_3 a0_4 l0_5 = some r) :
    Calls Tryz.prog 120 #[.agg #[.int .i64 a0_0, .string a0_1, .string a0_2, .string a0_3, .int .i64 a0_4, .slice A0_5 l0_5.length c0_5]] w fun e w' => e = .returned (.int .i64 r) ∧ Below w.heap.size w w' := by
  have hu31 := Tryz.underlying31
  have HR0_5 := Aside0.mk hr0_5
  have HC0_5 := Aside0.mk hc0_5
  clear hr0_5 hc0_5
  have HB := Aside0.mk (Below.refl w.heap.size w)
  have H : (if a0_0 = 13 then (metewandref13_level.j0 k a0_0 (a0_0 == 13)) else (if a0_0 = 12 then (metewandref13_level.j0 k a0_0 (a0_0 == 12)) else (if a0_0 = 10 then (metewandref13_level.j0 k a0_0 (a0_0 == 10)) else (metewandref13_level.j0 k a0_0 (a0_0 == 11))))) = some r := h
  clear h
  have HC2 := Aside0.mk H
  clear H
  go_enter Tryz.func120, Tryz.ntmps120
  go_upto_if 5 with (first | ((with_reducible refine gate_dst (N := 1) rfl ?_); refine box_event ?hg (N := 1) ?hd (cs := #[.int .i64 a0_0, .string a0_1, .string a0_2, .string a0_3, .int .i64 a0_4, .slice A0_5 l0_5.length c0_5]) (t := 31) ?hr ?_; (case hd => rfl); (case hg => rfl); (case hr => first | (go_simp; done) | (go_simp; rfl)); intro gb356 hg w3 hbox hb; have n0_ := Aside0.mk (below_step (by repeat (first | (with_reducible first | exact HB.out | apply below_alloc | apply pw_below_drewN | apply below_drew1) | exact HB.out)) hb); have n1_ := Aside0.mk (hbox); have n2_ := Aside0.mk ((by rw [hg]; exact (below_size (by repeat (first | (with_reducible first | exact HB.out | apply below_alloc | apply pw_below_drewN | apply below_drew1) | exact HB.out))) : w.heap.size ≤ gb356)); have n3_ := Aside0.mk ((by rw [hg]; exact (below_size (by repeat (first | (with_reducible first | exact HB.out | apply below_alloc | apply pw_below_drewN | apply below_drew1) | exact HB.out))) : w.heap.size ≤ gb356)); clear HB; have HB := n0_; have BK356 := n1_; have GW356 := n2_; have GE356 := n3_; clear n0_ n1_ n2_ n3_; clear hb hbox hg; have hcz4_0 : w3.cell? ⟨gb356, 0, none⟩ = some (.int .i64 a0_0) := (blk_cell BK356.out 0).trans rfl; have hcz4_1 : w3.cell? ⟨gb356, 1, none⟩ = some (.string a0_1) := (blk_cell BK356.out 1).trans rfl; have hcz4_2 : w3.cell? ⟨gb356, 2, none⟩ = some (.string a0_2) := (blk_cell BK356.out 2).trans rfl; have hcz4_3 : w3.cell? ⟨gb356, 3, none⟩ = some (.string a0_3) := (blk_cell BK356.out 3).trans rfl; have hcz4_4 : w3.cell? ⟨gb356, 4, none⟩ = some (.int .i64 a0_4) := (blk_cell BK356.out 4).trans rfl; have hcz4_5 : w3.cell? ⟨gb356, 5, none⟩ = some (.slice A0_5 l0_5.length c0_5) := (blk_cell BK356.out 5).trans rfl; have hfz4_0 := blk_frozen BK356.out 0; have hfz4_1 := blk_frozen BK356.out 1; have hfz4_2 := blk_frozen BK356.out 2; have hfz4_3 := blk_frozen BK356.out 3; have hfz4_4 := blk_frozen BK356.out 4; have hfz4_5 := blk_frozen BK356.out 5))
  (try simp only [Act.put, List.setIfInBounds_toArray, List.set_cons_zero, List.set_cons_succ])
  go_cut [5] (fun v5 wc => ∃ (kq : Nat) (x5_1 : Bool), v5 = .bool x5_1 ∧ Aside0 (metewandref13_level.j0 kq a0_0 x5_1 = some r) ∧ Aside0 (kq ≤ k) ∧ Aside0 (wc.heap[gb356]? = some (.cells #[.int .i64 a0_0, .string a0_1, .string a0_2, .string a0_3, .int .i64 a0_4, (.slice A0_5 l0_5.length c0_5)] 31 (0, 0))) ∧ Aside0 (Below w.heap.size w wc))
  case first =>
    have H := HC2.out
    clear HC2
    by_cases c5 : a0_0 = 13
    · rw [if_pos c5] at H
      have c5b0 : (a0_0 == 13) = true := beq_iff_eq.mpr c5
      have c5b1 : (a0_0 != 13) = false := bne_eq_false_iff_eq.mpr c5
      clear c5
      (first | rw [c5b0] | (simp only [i64_w, i32_w]; rw [c5b0]) | skip)
      have H' := Aside0.mk H
      clear H
      go_wp2
      go_meet
      case rel => exact ⟨_, ((a0_0 == 13)), (by first | rfl | (simp; done) | (simp [*]; done)), H', ⟨by first | omega | exact Nat.le_refl _⟩, ⟨by (with_reducible repeat (first | refine blk_drewN ?_ _ | refine blk_drew ?_ | refine blk_alloc ?_ _)); exact BK356.out⟩, ⟨by repeat (first | (with_reducible first | exact HB.out | apply below_alloc | apply pw_below_drewN | apply below_drew1 | refine below_set ?_ GE356.out) | exact HB.out)⟩⟩
    · rw [if_neg c5] at H
      have c5b0 : (a0_0 == 13) = false := beq_eq_false_iff_ne.mpr c5
      have c5b1 : (a0_0 != 13) = true := bne_iff_ne.mpr c5
      (first | rw [c5b0] | (simp only [i64_w, i32_w]; rw [c5b0]) | skip)
      by_cases c6 : a0_0 = 12
      · rw [if_pos c6] at H
        have c6b0 : (a0_0 == 12) = true := beq_iff_eq.mpr c6
        have c6b1 : (a0_0 != 12) = false := bne_eq_false_iff_eq.mpr c6
        clear c6
        have H' := Aside0.mk H
        clear H
        go_wp2
        go_meet
        case rel => exact ⟨_, ((a0_0 == 12)), (by first | rfl | (simp; done) | (simp [*]; done)), H', ⟨by first | omega | exact Nat.le_refl _⟩, ⟨by (with_reducible repeat (first | refine blk_drewN ?_ _ | refine blk_drew ?_ | refine blk_alloc ?_ _)); exact BK356.out⟩, ⟨by repeat (first | (with_reducible first | exact HB.out | apply below_alloc | apply pw_below_drewN | apply below_drew1 | refine below_set ?_ GE356.out) | exact HB.out)⟩⟩
      · rw [if_neg c6] at H
        have c6b0 : (a0_0 == 12) = false := beq_eq_false_iff_ne.mpr c6
        have c6b1 : (a0_0 != 12) = true := bne_iff_ne.mpr c6
        by_cases c7 : a0_0 = 10
        · rw [if_pos c7] at H
          have c7b0 : (a0_0 == 10) = true := beq_iff_eq.mpr c7
          have c7b1 : (a0_0 != 10) = false := bne_eq_false_iff_eq.mpr c7
          clear c7
          have H' := Aside0.mk H
          clear H
          go_wp2
          go_meet
          case rel => exact ⟨_, ((a0_0 == 10)), (by first | rfl | (simp; done) | (simp [*]; done)), H', ⟨by first | omega | exact Nat.le_refl _⟩, ⟨by (with_reducible repeat (first | refine blk_drewN ?_ _ | refine blk_drew ?_ | refine blk_alloc ?_ _)); exact BK356.out⟩, ⟨by repeat (first | (with_reducible first | exact HB.out | apply below_alloc | apply pw_below_drewN | apply below_drew1 | refine below_set ?_ GE356.out) | exact HB.out)⟩⟩
        · rw [if_neg c7] at H
          have c7b0 : (a0_0 == 10) = false := beq_eq_false_iff_ne.mpr c7
          have c7b1 : (a0_0 != 10) = true := bne_iff_ne.mpr c7
          have H' := Aside0.mk H
          clear H
          go_wp2
          go_meet
          case rel => exact ⟨_, ((a0_0 == 11)), (by first | rfl | (simp; done) | (simp [*]; done)), H', ⟨by first | omega | exact Nat.le_refl _⟩, ⟨by (with_reducible repeat (first | refine blk_drewN ?_ _ | refine blk_drew ?_ | refine blk_alloc ?_ _)); exact BK356.out⟩, ⟨by repeat (first | (with_reducible first | exact HB.out | apply below_alloc | apply pw_below_drewN | apply below_drew1 | refine below_set ?_ GE356.out) | exact HB.out)⟩⟩
  case rest =>
    clear HC2
    try clear c1
    try clear p2
    try clear c5
    try clear c5b0
    try clear c5b1
    try clear c6
    try clear c6b0
    try clear c6b1
    try clear c7
    try clear c7b0
    try clear c7b1
    try clear hcz4_0
    try clear hcz4_1
    try clear hcz4_2
    try clear hcz4_3
    try clear hcz4_4
    try clear hcz4_5
    try clear hfz4_0
    try clear hfz4_1
    try clear hfz4_2
    try clear hfz4_3
    try clear hfz4_4
    try clear hfz4_5
    obtain ⟨kq, x5_1, rfl, HA, HJ1, BK356, HB⟩ := hcut
    cases kq with
    | zero => exact absurd HA.out (by simp [metewandref13_level.j0])
    | succ kj1 =>
      have H := HA.out
      clear HA
      simp only [metewandref13_level.j0] at H
      by_cases c8 : x5_1 = true
      · subst c8
        have H1 : (some 0) = some r := by rw [if_pos rfl] at H; exact H
        clear H
        have H := H1
        clear H1
        obtain rfl := Option.some.inj H
        go_wp2
        go_ret
        exact ⟨by first | rfl | (simp [errW_none, errW_some] <;> rfl) | (simp [*, errW_none, errW_some] <;> rfl), by repeat (first | (with_reducible first | exact HB.out | apply below_alloc | apply pw_below_drewN | apply below_drew1 | refine below_set ?_ GE356.out) | exact HB.out)⟩
      · replace c8 := Bool.eq_false_iff.mpr c8
        subst c8
        have H1 : (if a0_0 = 2 then (metewandref13_level.j1 kj1 a0_0 (a0_0 == 2)) else (if a0_0 = 3 then (metewandref13_level.j1 kj1 a0_0 (a0_0 == 3)) else (metewandref13_level.j1 kj1 a0_0 (a0_0 == 4)))) = some r := by rw [if_neg (show ¬ (false = true) by decide)] at H; exact H
        clear H
        have H := H1
        clear H1
        have HC9 := Aside0.mk H
        clear H
        go_upto_if 10 with (fail)
        go_cut [10] (fun v10 wc => ∃ (kq : Nat) (x10_8 : Bool), v10 = .bool x10_8 ∧ Aside0 (metewandref13_level.j1 kq a0_0 x10_8 = some r) ∧ Aside0 (kq ≤ kj1) ∧ Aside0 (wc.heap[gb356]? = some (.cells #[.int .i64 a0_0, .string a0_1, .string a0_2, .string a0_3, .int .i64 a0_4, (.slice A0_5 l0_5.length c0_5)] 31 (0, 0))) ∧ Aside0 (Below w.heap.size w wc))
        case first =>
          have H := HC9.out
          clear HC9
          by_cases c10 : a0_0 = 2
          · rw [if_pos c10] at H
            have c10b0 : (a0_0 == 2) = true := beq_iff_eq.mpr c10
            have c10b1 : (a0_0 != 2) = false := bne_eq_false_iff_eq.mpr c10
            clear c10
            (first | rw [c10b0] | (simp only [i64_w, i32_w]; rw [c10b0]) | skip)
            have H' := Aside0.mk H
            clear H
            go_wp2
            go_meet
            case rel => exact ⟨_, ((a0_0 == 2)), (by first | rfl | (simp; done) | (simp [*]; done)), H', ⟨by have := HJ1.out; first | omega | exact Nat.le_refl _⟩, ⟨by (with_reducible repeat (first | refine blk_drewN ?_ _ | refine blk_drew ?_ | refine blk_alloc ?_ _)); exact BK356.out⟩, ⟨by repeat (first | (with_reducible first | exact HB.out | apply below_alloc | apply pw_below_drewN | apply below_drew1 | refine below_set ?_ GE356.out) | exact HB.out)⟩⟩
          · rw [if_neg c10] at H
            have c10b0 : (a0_0 == 2) = false := beq_eq_false_iff_ne.mpr c10
            have c10b1 : (a0_0 != 2) = true := bne_iff_ne.mpr c10
            (first | rw [c10b0] | (simp only [i64_w, i32_w]; rw [c10b0]) | skip)
            by_cases c11 : a0_0 = 3
            · rw [if_pos c11] at H
              have c11b0 : (a0_0 == 3) = true := beq_iff_eq.mpr c11
              have c11b1 : (a0_0 != 3) = false := bne_eq_false_iff_eq.mpr c11
              clear c11
              have H' := Aside0.mk H
              clear H
              go_wp2
              go_meet
              case rel => exact ⟨_, ((a0_0 == 3)), (by first | rfl | (simp; done) | (simp [*]; done)), H', ⟨by have := HJ1.out; first | omega | exact Nat.le_refl _⟩, ⟨by (with_reducible repeat (first | refine blk_drewN ?_ _ | refine blk_drew ?_ | refine blk_alloc ?_ _)); exact BK356.out⟩, ⟨by repeat (first | (with_reducible first | exact HB.out | apply below_alloc | apply pw_below_drewN | apply below_drew1 | refine below_set ?_ GE356.out) | exact HB.out)⟩⟩
            · rw [if_neg c11] at H
              have c11b0 : (a0_0 == 3) = false := beq_eq_false_iff_ne.mpr c11
              have c11b1 : (a0_0 != 3) = true := bne_iff_ne.mpr c11
              have H' := Aside0.mk H
              clear H
              go_wp2
              go_meet
              case rel => exact ⟨_, ((a0_0 == 4)), (by first | rfl | (simp; done) | (simp [*]; done)), H', ⟨by have := HJ1.out; first | omega | exact Nat.le_refl _⟩, ⟨by (with_reducible repeat (first | refine blk_drewN ?_ _ | refine blk_drew ?_ | refine blk_alloc ?_ _)); exact BK356.out⟩, ⟨by repeat (first | (with_reducible first | exact HB.out | apply below_alloc | apply pw_below_drewN | apply below_drew1 | refine below_set ?_ GE356.out) | exact HB.out)⟩⟩
        case rest =>
          clear HC9
          try clear c1
          try clear p2
          try clear c5
          try clear c5b0
          try clear c5b1
          try clear c6
          try clear c6b0
          try clear c6b1
          try clear c7
          try clear c7b0
          try clear c7b1
          try clear c8
          try clear c10
          try clear c10b0
          try clear c10b1
          try clear c11
          try clear c11b0
          try clear c11b1
          try clear hcz4_0
          try clear hcz4_1
          try clear hcz4_2
          try clear hcz4_3
          try clear hcz4_4
          try clear hcz4_5
          try clear hfz4_0
          try clear hfz4_1
          try clear hfz4_2
          try clear hfz4_3
          try clear hfz4_4
          try clear hfz4_5
          try clear p2
          obtain ⟨kq, x10_8, rfl, HA, HJ8, BK356, HB⟩ := hcut
          cases kq with
          | zero => exact absurd HA.out (by simp [metewandref13_level.j1])
          | succ kj8 =>
            have H := HA.out
            clear HA
            simp only [metewandref13_level.j1] at H
            by_cases c12 : x10_8 = true
            · subst c12
              have H1 : (some 1) = some r := by rw [if_pos rfl] at H; exact H
              clear H
              have H := H1
              clear H1
              obtain rfl := Option.some.inj H
              go_wp2
              go_ret
              exact ⟨by first | rfl | (simp [errW_none, errW_some] <;> rfl) | (simp [*, errW_none, errW_some] <;> rfl), by repeat (first | (with_reducible first | exact HB.out | apply below_alloc | apply pw_below_drewN | apply below_drew1 | refine below_set ?_ GE356.out) | exact HB.out)⟩
            · replace c12 := Bool.eq_false_iff.mpr c12
              subst c12
              have H1 : (if a0_0 = 5 then (metewandref13_level.j2 kj8 a0_0 (a0_0 == 5)) else (metewandref13_level.j2 kj8 a0_0 (a0_0 == 6))) = some r := by rw [if_neg (show ¬ (false = true) by decide)] at H; exact H
              clear H
              have H := H1
              clear H1
              have HC13 := Aside0.mk H
              clear H
              go_upto_if 14 with (fail)
              go_cut [14] (fun v14 wc => ∃ (kq : Nat) (x14_12 : Bool), v14 = .bool x14_12 ∧ Aside0 (metewandref13_level.j2 kq a0_0 x14_12 = some r) ∧ Aside0 (kq ≤ kj8) ∧ Aside0 (wc.heap[gb356]? = some (.cells #[.int .i64 a0_0, .string a0_1, .string a0_2, .string a0_3, .int .i64 a0_4, (.slice A0_5 l0_5.length c0_5)] 31 (0, 0))) ∧ Aside0 (Below w.heap.size w wc))
              case first =>
                have H := HC13.out
                clear HC13
                by_cases c14 : a0_0 = 5
                · rw [if_pos c14] at H
                  have c14b0 : (a0_0 == 5) = true := beq_iff_eq.mpr c14
                  have c14b1 : (a0_0 != 5) = false := bne_eq_false_iff_eq.mpr c14
                  clear c14
                  (first | rw [c14b0] | (simp only [i64_w, i32_w]; rw [c14b0]) | skip)
                  have H' := Aside0.mk H
                  clear H
                  go_wp2
                  go_meet
                  case rel => exact ⟨_, ((a0_0 == 5)), (by first | rfl | (simp; done) | (simp [*]; done)), H', ⟨by have := HJ1.out; have := HJ8.out; first | omega | exact Nat.le_refl _⟩, ⟨by (with_reducible repeat (first | refine blk_drewN ?_ _ | refine blk_drew ?_ | refine blk_alloc ?_ _)); exact BK356.out⟩, ⟨by repeat (first | (with_reducible first | exact HB.out | apply below_alloc | apply pw_below_drewN | apply below_drew1 | refine below_set ?_ GE356.out) | exact HB.out)⟩⟩
                · rw [if_neg c14] at H
                  have c14b0 : (a0_0 == 5) = false := beq_eq_false_iff_ne.mpr c14
                  have c14b1 : (a0_0 != 5) = true := bne_iff_ne.mpr c14
                  (first | rw [c14b0] | (simp only [i64_w, i32_w]; rw [c14b0]) | skip)
                  have H' := Aside0.mk H
                  clear H
                  go_wp2
                  go_meet
                  case rel => exact ⟨_, ((a0_0 == 6)), (by first | rfl | (simp; done) | (simp [*]; done)), H', ⟨by have := HJ1.out; have := HJ8.out; first | omega | exact Nat.le_refl _⟩, ⟨by (with_reducible repeat (first | refine blk_drewN ?_ _ | refine blk_drew ?_ | refine blk_alloc ?_ _)); exact BK356.out⟩, ⟨by repeat (first | (with_reducible first | exact HB.out | apply below_alloc | apply pw_below_drewN | apply below_drew1 | refine below_set ?_ GE356.out) | exact HB.out)⟩⟩
              case rest =>
                clear HC13
                try clear c1
                try clear p2
                try clear c5
                try clear c5b0
                try clear c5b1
                try clear c6
                try clear c6b0
                try clear c6b1
                try clear c7
                try clear c7b0
                try clear c7b1
                try clear c8
                try clear c10
                try clear c10b0
                try clear c10b1
                try clear c11
                try clear c11b0
                try clear c11b1
                try clear c12
                try clear c14
                try clear c14b0
                try clear c14b1
                try clear hcz4_0
                try clear hcz4_1
                try clear hcz4_2
                try clear hcz4_3
                try clear hcz4_4
                try clear hcz4_5
                try clear hfz4_0
                try clear hfz4_1
                try clear hfz4_2
                try clear hfz4_3
                try clear hfz4_4
                try clear hfz4_5
                try clear p2
                obtain ⟨kq, x14_12, rfl, HA, HJ12, BK356, HB⟩ := hcut
                cases kq with
                | zero => exact absurd HA.out (by simp [metewandref13_level.j2])
                | succ kj12 =>
                  have H := HA.out
                  clear HA
                  simp only [metewandref13_level.j2] at H
                  by_cases c15 : x14_12 = true
                  · subst c15
                    have H1 : (some 2) = some r := by rw [if_pos rfl] at H; exact H
                    clear H
                    have H := H1
                    clear H1
                    obtain rfl := Option.some.inj H
                    go_wp2
                    go_ret
                    exact ⟨by first | rfl | (simp [errW_none, errW_some] <;> rfl) | (simp [*, errW_none, errW_some] <;> rfl), by repeat (first | (with_reducible first | exact HB.out | apply below_alloc | apply pw_below_drewN | apply below_drew1 | refine below_set ?_ GE356.out) | exact HB.out)⟩
                  · replace c15 := Bool.eq_false_iff.mpr c15
                    subst c15
                    have H1 : (if a0_0 = 7 then (some 3) else (some 4)) = some r := by rw [if_neg (show ¬ (false = true) by decide)] at H; exact H
                    clear H
                    have H := H1
                    clear H1
                    by_cases c16 : a0_0 = 7
                    · rw [if_pos c16] at H
                      have c16b0 : (a0_0 == 7) = true := beq_iff_eq.mpr c16
                      have c16b1 : (a0_0 != 7) = false := bne_eq_false_iff_eq.mpr c16
                      clear c16
                      obtain rfl := Option.some.inj H
                      go_wp2
                      go_ret
                      exact ⟨by first | rfl | (simp [errW_none, errW_some] <;> rfl) | (simp [*, errW_none, errW_some] <;> rfl), by repeat (first | (with_reducible first | exact HB.out | apply below_alloc | apply pw_below_drewN | apply below_drew1 | refine below_set ?_ GE356.out) | exact HB.out)⟩
                    · rw [if_neg c16] at H
                      have c16b0 : (a0_0 == 7) = false := beq_eq_false_iff_ne.mpr c16
                      have c16b1 : (a0_0 != 7) = true := bne_iff_ne.mpr c16
                      obtain rfl := Option.some.inj H
                      go_wp2
                      go_ret
                      exact ⟨by first | rfl | (simp [errW_none, errW_some] <;> rfl) | (simp [*, errW_none, errW_some] <;> rfl), by repeat (first | (with_reducible first | exact HB.out | apply below_alloc | apply pw_below_drewN | apply below_drew1 | refine below_set ?_ GE356.out) | exact HB.out)⟩
end Go.Proofs.YtjaobihcdkjmbaaGreatDoor.PReadTokens
end
section
namespace Go.Proofs.YtjaobihcdkjmbaaGreatDoor
open Go.RowKit Go.Proofs.YtjaobihcdkjmbaaGreatDoorW.PrintWords Go.Proofs.YtjaobihcdkjmbaaGreatDoor.PReadTokens
theorem readA : readS chk0 tA = (xA, 0, 0) := by kernel_rfl
theorem readB : readS chk0 tB = (xB, 0, 0) := by kernel_rfl
theorem readC : readS chk0 tC = (xC, 0, 0) := by kernel_rfl
theorem readD : readS chk0 tD = (xD, 0, 0) := by kernel_rfl
theorem readE : readS chk0 tE = (z31, 2, 1) := by kernel_rfl
theorem allA : allB chk0 xA = true := by kernel_rfl
theorem allXB : allB chk0 xB = true := by kernel_rfl
theorem allC : allB chk0 xC = true := by kernel_rfl
theorem allD : allB chk0 xD = true := by kernel_rfl
theorem txtC : txtB xC = true := by kernel_rfl
theorem txtD : txtB xD = true := by kernel_rfl
theorem bareXB : bareB xB = true := by kernel_rfl
theorem textC : textX xC 0 = ⟨#[45, 97, 32, 42, 32, 98, 94, 45, 50]⟩ := by kernel_rfl
theorem textD : textX xD 0 = ⟨#[97, 32, 45, 32, 40, 98, 32, 45, 32, 99, 41]⟩ := by kernel_rfl
theorem keysB : strKeys (freeD xB) = [[97], [105]] := by kernel_rfl
theorem toks1 : allToks ⟨#[97, 49, 43, 50, 123, 109, 47, 115, 125]⟩ = [⟨0, ⟨#[97, 49]⟩, 0⟩, ⟨4, ⟨#[43]⟩, 2⟩, ⟨2, ⟨#[50]⟩, 3⟩, ⟨3, ⟨#[109, 47, 115]⟩, 4⟩] := by kernel_rfl
theorem sizesA : nodesX xA = 5 ∧ depthX xA = 3 ∧ nodesX xB = 4 ∧ depthX xB = 3 ∧ nodesX xC = 5 ∧ depthX xC = 4 ∧ nodesX xD = 5 ∧ depthX xD = 3:= by refine ⟨?_, ?_, ?_, ?_, ?_, ?_, ?_, ?_⟩ <;> kernel_rfl
theorem eqt : metewandkit_EqTexts.f 10 [⟨#[97]⟩, ⟨#[105]⟩] [⟨#[97]⟩, ⟨#[105]⟩] = some true := by kernel_rfl
theorem eqk : metewandkit_EqTokens.f 10 [⟨0, ⟨#[97, 49]⟩, 0⟩, ⟨4, ⟨#[43]⟩, 2⟩, ⟨2, ⟨#[50]⟩, 3⟩, ⟨3, ⟨#[109, 47, 115]⟩, 4⟩] [⟨0, ⟨#[97, 49]⟩, 0⟩, ⟨4, ⟨#[43]⟩, 2⟩, ⟨2, ⟨#[50]⟩, 3⟩, ⟨3, ⟨#[109, 47, 115]⟩, 4⟩] = some true := by kernel_rfl
theorem reps_flat (w : World) (ts : List S47) : Reps (k47.K w) 3 ts (flat ts) := by
  have key : ∀ (ts pre : List S47), Reps (k47.K w) 3 pre (flat pre) → Reps (k47.K w) 3 (pre ++ ts) (flat (pre ++ ts)) := by
    intro ts
    induction ts with
    | nil => intro pre h; simpa using h
    | cons t ts ih =>
      intro pre h
      have := ih (pre ++ [t]) (by rw [flat_snoc]; exact Reps.snoc h (k47_mk w t) rfl)
      simpa using this
  exact key ts [] (Reps.none _ _)
theorem OwnToks.C {w : World} {base : Nat} {v : Value} {ts : List S47} (h : OwnToks w base v ts) : ∃ A c, v = .slice A ts.length c ∧ ts.length ≤ c ∧ Kd.C k47 w A ts.length ts :=
  OwnRow.reads ⟨flat ts, h, reps_flat w ts⟩
theorem lit_toks (W : World) (ts : List S47) (h : ts.length ≤ 9223372036854775807) : Kd.C k47 (W.alloc (.cells (flat ts).toArray 47)) (some ⟨W.heap.size, 0, none⟩) ts.length ts := by
  obtain ⟨A, c, h1, h2, h3⟩ := OwnRow.reads (OwnRow.lit (R := k47.K (W.alloc (.cells (flat ts).toArray 47))) (e := 47) W 0 (reps_flat _ ts) (Nat.zero_le _) h)
  injection h1 with h1
  rw [h1]
  exact h3
theorem reps_str (w : World) (xs : List ByteArray) : Reps (Kd.string.K w) 1 xs (xs.map Value.string) := by
  have key : ∀ (ts pre : List ByteArray), Reps (Kd.string.K w) 1 pre (pre.map Value.string) → Reps (Kd.string.K w) 1 (pre ++ ts) ((pre ++ ts).map Value.string) := by
    intro ts
    induction ts with
    | nil => intro pre h; simpa using h
    | cons t ts ih =>
      intro pre h
      have := ih (pre ++ [t]) (by rw [List.map_append]; exact Reps.snoc h rfl rfl)
      simpa using this
  exact key xs [] (Reps.none _ _)
theorem lit_texts (W : World) (xs : List ByteArray) (h : xs.length ≤ 9223372036854775807) : Kd.C Kd.string (W.alloc (.cells (xs.map Value.string).toArray 9)) (some ⟨W.heap.size, 0, none⟩) xs.length xs := by
  obtain ⟨A, c, h1, h2, h3⟩ := OwnRow.reads (OwnRow.lit (R := Kd.string.K (W.alloc (.cells (xs.map Value.string).toArray 9))) (e := 9) W 0 (reps_str _ xs) (Nat.zero_le _) h)
  injection h1 with h1
  rw [h1]
  exact h3
theorem own_texts {w : World} {base : Nat} {v : Value} {xs : List ByteArray} (h : w.ownsRow base 9 1 v xs.length (xs.map Value.string)) : ∃ A c, v = .slice A xs.length c ∧ xs.length ≤ c ∧ Kd.C Kd.string w A xs.length xs :=
  OwnRow.reads ⟨_, h, reps_str w xs⟩
theorem perm2 (ss : List (List UInt8)) (a b : List UInt8) (hab : a ≠ b) (h : ss.Perm [a, b]) : ss = [a, b] ∨ ss = [b, a] := by
  have hl := h.length_eq
  match ss, hl with
  | [x, y], _ =>
    have hx : x ∈ [a, b] := h.mem_iff.1 (by simp)
    have hy : y ∈ [a, b] := h.mem_iff.1 (by simp)
    have ha : a ∈ [x, y] := h.mem_iff.2 (by simp)
    have hb : b ∈ [x, y] := h.mem_iff.2 (by simp)
    simp only [List.mem_cons, List.not_mem_nil, or_false] at hx hy ha hb
    rcases hx with rfl | rfl <;> rcases hy with rfl | rfl <;> simp_all
theorem sorted2 (ss : List (List UInt8)) (h : ss.Perm [[97], [105]]) : ss.length = 2 ∧ (ss.mergeSort (fun x y => decide (x ≤ y))).map encStr = [.string ⟨#[97]⟩, .string ⟨#[105]⟩] := by
  rcases perm2 ss _ _ (by decide) h with rfl | rfl
  · exact ⟨rfl, by simp [List.mergeSort, List.MergeSort.Internal.splitInTwo, List.merge]; rfl⟩
  · exact ⟨rfl, by simp [List.mergeSort, List.MergeSort.Internal.splitInTwo, List.merge]; rfl⟩
end Go.Proofs.YtjaobihcdkjmbaaGreatDoor
end
